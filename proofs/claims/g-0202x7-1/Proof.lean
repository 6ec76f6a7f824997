import JvmDerived
import JvmDerived.Pilot.@@N@@Statement
import JvmDerived.Pilot.@@N@@Code
set_option linter.unusedVariables false
set_option linter.unusedSimpArgs false
namespace Jvm.Own
open Jvm Jvm.ClassFile Sem Op Lib Jvm.Free Jvm.Stand Jvm.LawKit Jvm.RoadKit Bundle

/-! A plain machine: the few instructions that these classes use, over a heap of plain lists. -/
/-- an object (class number, fields in order) | an int array (false) or boolean array (true) | a long array -/
abbrev ACell := (Nat × List Value) ⊕ ((Bool × List Int32) ⊕ List Int64)
abbrev AHeap := List ACell
/-- instruction, length, variables forgotten ahead of it, link number, constant -/
abbrev It := Instr × Nat × List Bool × Nat × Int
/-- a field: name, descriptor, type, final -/
abbrev FD := String × String × FieldType × Bool
/-- a class: name, number of its slots, its fields -/
abbrev CD := String × Nat × List FD
/-- a method: name, bytes, variables, return type; kind (0 static, 1 constructor, 2 private, 3 virtual), parameters, class number, frames, words; code -/
abbrev MD := MethodName × ByteArray × Nat × Option FieldType × Nat × Nat × Nat × Nat × Nat × List (Nat × It)
/-- classes, methods, number of cells that are only read -/
abbrev PD := List CD × List MD × Nat
abbrev PD.cls (P : PD) : List CD := P.1
abbrev PD.mth (P : PD) : List MD := P.2.1
abbrev PD.nr (P : PD) : Nat := P.2.2
abbrev MD.name (d : MD) : MethodName := d.1
abbrev MD.bytes (d : MD) : ByteArray := d.2.1
abbrev MD.maxL (d : MD) : Nat := d.2.2.1
abbrev MD.ret (d : MD) : Option FieldType := d.2.2.2.1
abbrev MD.kind (d : MD) : Nat := d.2.2.2.2.1
abbrev MD.npar (d : MD) : Nat := d.2.2.2.2.2.1
abbrev MD.cid (d : MD) : Nat := d.2.2.2.2.2.2.1
abbrev MD.rf (d : MD) : Nat := d.2.2.2.2.2.2.2.1
abbrev MD.rw (d : MD) : Nat := d.2.2.2.2.2.2.2.2.1
abbrev MD.code (d : MD) : List (Nat × It) := d.2.2.2.2.2.2.2.2.2

def rdA {α : Type} (L : List α) (j : Int32) : Option α := if j < 0 then none else L[j.toNatClampNeg]?
def wrA {α : Type} (L : List α) (j : Int32) (x : α) : Option (List α) := if j < 0 then none else if j.toNatClampNeg < L.length then some (L.set j.toNatClampNeg x) else none
def getL (L : List Slot) (k : Nat) : Option Value := match L[k]? with | some (.val v) => some v | _ => none
def isC2 : Option Slot → Bool | some (.val v) => v.category == 2 | _ => false
def isSec : Option Slot → Bool | some .second => true | _ => false
def free1 : Option Slot → Bool | some .unset => true | some (.val v) => v.category == 1 | _ => false
def st1 (L : List Slot) (k : Nat) (v : Value) : Option (List Slot) :=
  if free1 L[k]? && (k == 0 || !isC2 L[k - 1]?) && !isSec L[k + 1]? then some (L.set k (.val v)) else none
def free2 : Option Slot → Option Slot → Bool | some .unset, some .unset => true | some (.val v), some .second => v.category == 2 | _, _ => false
def st2 (L : List Slot) (k : Nat) (v : Value) : Option (List Slot) :=
  if free2 L[k]? L[k + 1]? && (k == 0 || !isC2 L[k - 1]?) && !isSec L[k + 2]? then some ((L.set k (.val v)).set (k + 1) .second) else none
def forget : List Bool → List Slot → List Slot
  | [], L => L
  | _ :: _, [] => []
  | true :: r, _ :: L => .unset :: forget r L
  | false :: r, s :: L => s :: forget r L
def catSum : List Value → Nat
  | [] => 0
  | v :: r => v.category + catSum r
def entA : List Value → List Slot
  | [] => []
  | v :: r => if v.category = 2 then .val v :: .second :: entA r else .val v :: entA r
def entL (as : List Value) (n : Nat) : List Slot := entA as ++ List.replicate (n - (entA as).length) .unset
def putOk : FieldType → Value → Bool
  | .int, .int _ => true
  | .long, .long _ => true
  | .boolean, .int x => (x == 0) || (x == 1)
  | .array _, .ref _ => true
  | _, _ => false
def dflt : FieldType → Value
  | .long => .long 0
  | .array _ => .null
  | _ => .int 0
def dfOk : FieldType → Bool
  | .int => true
  | .boolean => true
  | .long => true
  | .array _ => true
  | _ => false
def tgt (pc : Nat) (o : Int) : Option Nat := if 0 ≤ (pc : Int) + o then some ((pc : Int) + o).toNat else none
def fetch : List (Nat × It) → Nat → Option It
  | [], _ => none
  | (q, i) :: r, pc => if q = pc then some i else fetch r pc
/-- one instruction that neither branches nor calls nor returns -/
def xI (P : PD) (ini : Bool) (cid : Nat) (i : Instr) (a : Nat) (b : Int) (L : List Slot) (S : List Value) (H : AHeap) : Option (List Slot × List Value × AHeap) :=
  match i with
  | .aload_n k => match getL L k.val with | some (.ref x) => some (L, .ref x :: S, H) | _ => none
  | .aload k => match getL L k with | some (.ref x) => some (L, .ref x :: S, H) | _ => none
  | .iload_n k => match getL L k.val with | some (.int x) => some (L, .int x :: S, H) | _ => none
  | .iload k => match getL L k with | some (.int x) => some (L, .int x :: S, H) | _ => none
  | .lload_n k => match getL L k.val with | some (.long x) => some (L, .long x :: S, H) | _ => none
  | .lload k => match getL L k with | some (.long x) => some (L, .long x :: S, H) | _ => none
  | .istore_n k => match S with | .int x :: S' => (st1 L k.val (.int x)).map fun L' => (L', S', H) | _ => none
  | .istore k => match S with | .int x :: S' => (st1 L k (.int x)).map fun L' => (L', S', H) | _ => none
  | .astore_n k => match S with | .ref x :: S' => (st1 L k.val (.ref x)).map fun L' => (L', S', H) | _ => none
  | .astore k => match S with | .ref x :: S' => (st1 L k (.ref x)).map fun L' => (L', S', H) | _ => none
  | .lstore_n k => match S with | .long x :: S' => (st2 L k.val (.long x)).map fun L' => (L', S', H) | _ => none
  | .lstore k => match S with | .long x :: S' => (st2 L k (.long x)).map fun L' => (L', S', H) | _ => none
  | .iinc k d => match getL L k with | some (.int x) => (st1 L k (.int (x + Int32.ofInt d))).map fun L' => (L', S, H) | _ => none
  | .iconst d => some (L, .int (Int32.ofInt d) :: S, H)
  | .bipush d => some (L, .int (Int8.ofInt d).toInt32 :: S, H)
  | .sipush d => some (L, .int (Int16.ofInt d).toInt32 :: S, H)
  | .lconst k => some (L, .long (Int64.ofNat k) :: S, H)
  | .ldc _ => some (L, .int (Int32.ofInt b) :: S, H)
  | .ldc2_w _ => some (L, .long (Int64.ofInt b) :: S, H)
  | .iadd => match S with | .int y :: .int x :: S' => some (L, .int (x + y) :: S', H) | _ => none
  | .isub => match S with | .int y :: .int x :: S' => some (L, .int (x - y) :: S', H) | _ => none
  | .imul => match S with | .int y :: .int x :: S' => some (L, .int (x * y) :: S', H) | _ => none
  | .iand => match S with | .int y :: .int x :: S' => some (L, .int (x &&& y) :: S', H) | _ => none
  | .ior => match S with | .int y :: .int x :: S' => some (L, .int (x ||| y) :: S', H) | _ => none
  | .ixor => match S with | .int y :: .int x :: S' => some (L, .int (x ^^^ y) :: S', H) | _ => none
  | .ishl => match S with | .int y :: .int x :: S' => some (L, .int (x <<< (y &&& 31)) :: S', H) | _ => none
  | .ishr => match S with | .int y :: .int x :: S' => some (L, .int (x >>> (y &&& 31)) :: S', H) | _ => none
  | .iushr => match S with | .int y :: .int x :: S' => some (L, .int (XT.ushr x y) :: S', H) | _ => none
  | .idiv => match S with | .int y :: .int x :: S' => if y = 0 then none else some (L, .int (x / y) :: S', H) | _ => none
  | .irem => match S with | .int y :: .int x :: S' => if y = 0 then none else some (L, .int (x % y) :: S', H) | _ => none
  | .ladd => match S with | .long y :: .long x :: S' => some (L, .long (x + y) :: S', H) | _ => none
  | .lsub => match S with | .long y :: .long x :: S' => some (L, .long (x - y) :: S', H) | _ => none
  | .lmul => match S with | .long y :: .long x :: S' => some (L, .long (x * y) :: S', H) | _ => none
  | .land => match S with | .long y :: .long x :: S' => some (L, .long (x &&& y) :: S', H) | _ => none
  | .lor => match S with | .long y :: .long x :: S' => some (L, .long (x ||| y) :: S', H) | _ => none
  | .lxor => match S with | .long y :: .long x :: S' => some (L, .long (x ^^^ y) :: S', H) | _ => none
  | .lshl => match S with | .int y :: .long x :: S' => some (L, .long (x <<< (y.toInt64 &&& 63)) :: S', H) | _ => none
  | .lshr => match S with | .int y :: .long x :: S' => some (L, .long (x >>> (y.toInt64 &&& 63)) :: S', H) | _ => none
  | .lushr => match S with | .int y :: .long x :: S' => some (L, .long (XT.ushrL x y) :: S', H) | _ => none
  | .ldiv => match S with | .long y :: .long x :: S' => if y = 0 then none else some (L, .long (x / y) :: S', H) | _ => none
  | .lrem => match S with | .long y :: .long x :: S' => if y = 0 then none else some (L, .long (x % y) :: S', H) | _ => none
  | .lcmp => match S with | .long y :: .long x :: S' => some (L, .int (XT.cmpL x y) :: S', H) | _ => none
  | .i2l => match S with | .int x :: S' => some (L, .long x.toInt64 :: S', H) | _ => none
  | .l2i => match S with | .long x :: S' => some (L, .int x.toInt32 :: S', H) | _ => none
  | .dup => match S with
    | .int x :: S' => some (L, .int x :: .int x :: S', H)
    | .ref x :: S' => some (L, .ref x :: .ref x :: S', H)
    | _ => none
  | .dup2 => match S with
    | .int x :: .ref y :: S' => some (L, .int x :: .ref y :: .int x :: .ref y :: S', H)
    | .long x :: S' => some (L, .long x :: .long x :: S', H)
    | _ => none
  | .pop => match S with | .int _ :: S' => some (L, S', H) | _ => none
  | .getfield _ => match S with
    | .ref o :: S' => match H[o]? with
      | some (.inl (c, fs)) => if c = cid then match fs[a]? with
        | some (.int x) => some (L, .int x :: S', H)
        | some (.long x) => some (L, .long x :: S', H)
        | some (.ref x) => some (L, .ref x :: S', H)
        | _ => none
        else none
      | _ => none
    | _ => none
  | .putfield _ => match S with
    | v :: .ref o :: S' => match H[o]? with
      | some (.inl (c, fs)) => if c = cid ∧ P.nr ≤ o then match (P.cls[c]?).bind fun cd => cd.2.2[a]? with
        | some (_, _, ty, fin) => if putOk ty v && (!fin || ini) then some (L, S', H.set o (.inl (c, fs.set a v))) else none
        | none => none
        else none
      | _ => none
    | _ => none
  | .iaload => match S with
    | .int j :: .ref o :: S' => match H[o]? with
      | some (.inr (.inl (false, A))) => (rdA A j).map fun x => (L, .int x :: S', H)
      | _ => none
    | _ => none
  | .baload => match S with
    | .int j :: .ref o :: S' => match H[o]? with
      | some (.inr (.inl (true, A))) => (rdA A j).map fun x => (L, .int x :: S', H)
      | _ => none
    | _ => none
  | .laload => match S with
    | .int j :: .ref o :: S' => match H[o]? with
      | some (.inr (.inr A)) => (rdA A j).map fun x => (L, .long x :: S', H)
      | _ => none
    | _ => none
  | .iastore => match S with
    | .int x :: .int j :: .ref o :: S' => match H[o]? with
      | some (.inr (.inl (false, A))) => if P.nr ≤ o then (wrA A j x).map fun A' => (L, S', H.set o (.inr (.inl (false, A')))) else none
      | _ => none
    | _ => none
  | .bastore => match S with
    | .int x :: .int j :: .ref o :: S' => match H[o]? with
      | some (.inr (.inl (true, A))) => if P.nr ≤ o then (wrA A j (x &&& 1)).map fun A' => (L, S', H.set o (.inr (.inl (true, A')))) else none
      | _ => none
    | _ => none
  | .lastore => match S with
    | .long x :: .int j :: .ref o :: S' => match H[o]? with
      | some (.inr (.inr A)) => if P.nr ≤ o then (wrA A j x).map fun A' => (L, S', H.set o (.inr (.inr A'))) else none
      | _ => none
    | _ => none
  | .arraylength => match S with
    | .ref o :: S' => match H[o]? with
      | some (.inr (.inl (_, A))) => some (L, .int A.length.toInt32 :: S', H)
      | _ => none
    | _ => none
  | _ => none
/-- one instruction that makes a cell: how many slots it takes stands last -/
def xN (P : PD) (i : Instr) (a : Nat) (S : List Value) (H : AHeap) : Option (List Value × AHeap × Nat) :=
  match i with
  | .new _ => match P.cls[a]? with
    | some cd => some (.ref H.length :: S, H ++ [.inl (a, cd.2.2.map fun f => dflt f.2.2.1)], cd.2.1)
    | none => none
  | .newarray t => match S with
    | .int n :: S' => if n < 0 ∨ 100000 < n.toNatClampNeg then none else match t with
      | .int => some (.ref H.length :: S', H ++ [.inr (.inl (false, List.replicate n.toNatClampNeg 0))], n.toNatClampNeg)
      | .boolean => some (.ref H.length :: S', H ++ [.inr (.inl (true, List.replicate n.toNatClampNeg 0))], n.toNatClampNeg)
      | .long => some (.ref H.length :: S', H ++ [.inr (.inr (List.replicate n.toNatClampNeg 0))], n.toNatClampNeg)
      | _ => none
    | _ => none
  | _ => none
/-- the words that a call from d to y asks -/
def fitsRoom (d y : MD) (rest : List Value) : Bool := decide (y.rf + 1 ≤ d.rf) && decide (catSum rest + (y.maxL + 11) + y.rw ≤ d.rw)
/-- the arguments of a call, first to last, and what lies under them -/
def argsOf (n : Nat) (S : List Value) : Option (List Value × List Value) := if n ≤ S.length then some ((S.take n).reverse, S.drop n) else none
def recvOk (P : PD) (H : AHeap) (y : MD) (as : List Value) : Bool :=
  if y.kind = 0 then true else match as with
    | .ref o :: _ => match H[o]? with
      | some (.inl (c, _)) => decide (c = y.cid)
      | _ => false
    | _ => false
def nargs (y : MD) : Nat := if y.kind = 0 then y.npar else y.npar + 1
def invKind (i : Instr) (k : Nat) : Bool := match i with
  | .invokestatic _ => k == 0
  | .invokespecial _ => k == 1
  | .invokevirtual _ => k == 2 || k == 3
  | _ => false
/-- what a method returns of an int on its stack -/
def retV (r : Option FieldType) (x : Int32) : Option Value := match r with
  | some .int => some (.int x)
  | some .boolean => some (.int (x &&& 1))
  | _ => none
def isInv : Instr → Bool
  | .invokestatic _ => true
  | .invokespecial _ => true
  | .invokevirtual _ => true
  | _ => false
def isNew : Instr → Bool
  | .new _ => true
  | .newarray _ => true
  | _ => false
/-- what a run answers: what it returns, the heap, how many cells and slots it has made -/
abbrev Res := Option Value × AHeap × Nat × Nat
def addR (r : Res) (kc ks : Nat) : Res := (r.1, r.2.1, r.2.2.1 + kc, r.2.2.2 + ks)
/-- n instructions at the most, from pc of method mi to its return -/
def exe (P : PD) : Nat → Nat → Nat → List Slot → List Value → AHeap → Option Res
  | 0, _, _, _, _, _ => none
  | n + 1, mi, pc, L0, S, H => match P.mth[mi]? with
    | none => none
    | some d => match fetch d.code pc with
      | none => none
      | some (i, len, er, a, b) =>
        let L := forget er L0
        match i with
        | .goto o => match tgt pc o with
          | some q => exe P n mi q L S H
          | none => none
        | .if_icmp cd o => match S with
          | .int y :: .int x :: S' => if if_icmp.holds cd x y = true then match tgt pc o with
              | some q => exe P n mi q L S' H
              | none => none
            else exe P n mi (pc + 3) L S' H
          | _ => none
        | .ifCond cd o => match S with
          | .int x :: S' => if ifCond.holds cd x = true then match tgt pc o with
              | some q => exe P n mi q L S' H
              | none => none
            else exe P n mi (pc + 3) L S' H
          | _ => none
        | .ifnonnull o => match S with
          | .ref _ :: S' => match tgt pc o with
            | some q => exe P n mi q L S' H
            | none => none
          | _ => none
        | .ireturn => match S with
          | [.int x] => match retV d.ret x with
            | some v => some (some v, H, 0, 0)
            | none => none
          | _ => none
        | .lreturn => match S with
          | [.long x] => if d.ret = some .long then some (some (.long x), H, 0, 0) else none
          | _ => none
        | .return_ => match S with
          | [] => if d.ret = none then some (none, H, 0, 0) else none
          | _ => none
        | i => if isInv i = true then
            if b = -1 then match i, S with
              | .invokespecial _, .ref _ :: S' => if 1 ≤ d.rf ∧ catSum S' + 12 ≤ d.rw then exe P n mi (pc + 3) L S' H else none
              | _, _ => none
            else match P.mth[a]? with
              | none => none
              | some y => match argsOf (nargs y) S with
                | none => none
                | some (as, rest) =>
                  if decide (0 < a) && invKind i y.kind && recvOk P H y as && fitsRoom d y rest && decide ((entA as).length ≤ y.maxL) then
                    match exe P n a 0 (entL as y.maxL) [] H with
                    | some (v, H1, kc, ks) => (exe P n mi (pc + 3) L (v.toList ++ rest) H1).map fun r => addR r kc ks
                    | none => none
                  else none
          else if isNew i = true then match xN P i a S H with
            | some (S', H', ks) => (exe P n mi (pc + len) L S' H').map fun r => addR r 1 ks
            | none => none
          else match xI P (d.name.name == "<init>") d.cid i a b L S H with
            | some (L', S', H') => exe P n mi (pc + len) L' S' H'
            | none => none
end Jvm.Own
namespace Jvm.Own
open Jvm Jvm.ClassFile Sem Op Lib Jvm.Free Jvm.Stand Jvm.LawKit Jvm.RoadKit Bundle

/-! The words that the machine's program rests on -/
def fWord (C : String) (f : FD) : Jvm.Cond := if f.2.2.2 then .laysFinal C C f.1 f.2.1 else .lays C C f.1 f.2.1
def cWords (cd : CD) : List Jvm.Cond := .instantiable cd.1 cd.2.1 :: .initialized cd.1 :: cd.2.2.map (fWord cd.1)
def mWords (y : MD) : List Jvm.Cond := .code y.name y.bytes y.maxL y.ret :: .initialized y.name.cls ::
  (if y.kind = 0 then [.static y.name] else if y.kind = 1 then [.instanceMethod y.name] else if y.kind = 2 then [.instanceMethod y.name, .privateMethod y.name]
   else [.declares y.name, .selects y.name.cls y.name y.name, .instanceMethod y.name])
def fieldOf (P : PD) (c a : Nat) : Option FD := (P.cls[c]?).bind fun cd => cd.2.2[a]?
def fLink (P : PD) (d : MD) (k a : Nat) : List Jvm.Cond := match fieldOf P d.cid a with | some f => [.fieldLink d.name.cls k d.name.cls f.1 f.2.1] | none => []
def mLink (P : PD) (d : MD) (k a : Nat) (b : Int) : List Jvm.Cond :=
  if b = -1 then [.methodLink d.name.cls k Lib.objectInit, .instanceMethod Lib.objectInit, .code Lib.objectInit ⟨#[0xb1]⟩ 1 none]
  else match P.mth[a]? with | some y => [.methodLink d.name.cls k y.name] | none => []
def iWords (P : PD) (d : MD) (x : Nat × It) : List Jvm.Cond := match x with
  | (_, .getfield k, _, _, a, _) => fLink P d k a
  | (_, .putfield k, _, _, a, _) => fLink P d k a
  | (_, .ldc k, _, _, _, b) => [.constant d.name.cls k (Int32.ofInt b)]
  | (_, .ldc2_w k, _, _, _, b) => [.constantLong d.name.cls k (Int64.ofInt b)]
  | (_, .new k, _, _, a, _) => match P.cls[a]? with | some cd => [.classLink d.name.cls k cd.1] | none => []
  | (_, .newarray t, _, _, _, _) => [.arrayClass (newarray.typeOf t)]
  | (_, .invokestatic k, _, _, a, b) => mLink P d k a b
  | (_, .invokespecial k, _, _, a, b) => mLink P d k a b
  | (_, .invokevirtual k, _, _, a, b) => mLink P d k a b
  | _ => []
def wordsOf (P : PD) : List Jvm.Cond := P.cls.flatMap cWords ++ (P.mth.drop 1).flatMap mWords ++ P.mth.flatMap fun d => d.code.flatMap (iWords P d)
/-! What can be looked up in the program itself -/
def nodup : List String → Bool
  | [] => true
  | x :: r => !r.contains x && nodup r
def fChk (f : FD) : Bool := decide (parseFieldDescriptor f.2.1 = some f.2.2.1) && dfOk f.2.2.1
def cChk (cd : CD) : Bool := nodup (cd.2.2.map fun f => f.1) && cd.2.2.all fChk
def sigChk (y : MD) : Bool := match parseMethodDescriptor y.name.desc with
  | some g => decide (g.parameters.length = y.npar)
  | none => false
def lenOk (i : Instr) (n : Nat) : Bool := match i with
  | .aload _ | .iload _ | .lload _ | .istore _ | .astore _ | .lstore _ | .bipush _ | .ldc _ | .newarray _ => n == 2
  | .iinc _ _ | .sipush _ | .ldc2_w _ | .getfield _ | .putfield _ | .new _ | .goto _ | .if_icmp _ _ | .ifCond _ _ | .ifnonnull _ | .invokestatic _ | .invokespecial _ | .invokevirtual _ => n == 3
  | _ => n == 1
def codeChk (y : MD) : Bool := y.code.all fun x => decide (decode y.bytes x.1 = .ok (x.2.1, x.2.2.1)) && lenOk x.2.1 x.2.2.1
def clsChk (P : PD) (y : MD) : Bool := match P.cls[y.cid]? with | some cd => cd.1 == y.name.cls | none => y.kind == 0
def mChk (P : PD) (y : MD) : Bool := plainName y.name.cls && sigChk y && codeChk y && clsChk P y && decide (y.name.cls ≠ "java/lang/invoke/MethodHandle") && decide (y.name.cls ≠ "java/lang/invoke/VarHandle") && (y.kind != 1 || (y.name.name == "<init>" && decide (y.ret = none)))
def chk (P : PD) : Bool := P.cls.all cChk && P.mth.all (mChk P)

/-! Plain and real values -/
def VR (ρ : List Addr) : Value → Value → Prop
  | .ref k, w => ∃ a, ρ[k]? = some a ∧ w = .ref a
  | v, w => w = v
def SR (ρ : List Addr) : List Value → List Value → Prop
  | [], ws => ws = []
  | v :: vs, ws => ∃ w ws', ws = w :: ws' ∧ VR ρ v w ∧ SR ρ vs ws'
def OV (ρ : List Addr) : Option Value → Option Value → Prop
  | none, w => w = none
  | some v, w => ∃ u, w = some u ∧ VR ρ v u
def WFc (A : Array Slot) : Prop := (∀ (i : Nat) w, A[i]? = some (.val w) → w.category = 2 → A[i + 1]? = some .second) ∧ ∀ (i : Nat), A[i]? = some .second → ∃ j w, i = j + 1 ∧ A[j]? = some (.val w) ∧ w.category = 2
def SlR (ρ : List Addr) : Slot → Option Slot → Prop
  | .unset, _ => True
  | .second, o => o = some .second
  | .val v, o => ∃ w, VR ρ v w ∧ o = some (.val w)
def LR (ρ : List Addr) (L : List Slot) (A : Array Slot) : Prop := A.size = L.length ∧ WFc A ∧ ∀ (i : Nat) s, L[i]? = some s → SlR ρ s A[i]?
theorem VR.mono {ρ t : List Addr} {v w : Value} (h : VR ρ v w) : VR (ρ ++ t) v w := by
  cases v <;> first | exact h | skip
  obtain ⟨a, h1, h2⟩ := h
  exact ⟨a, by rw [List.getElem?_append_left (List.getElem?_eq_some_iff.mp h1).1]; exact h1, h2⟩
theorem SR.mono {ρ t : List Addr} : ∀ {v w : List Value}, SR ρ v w → SR (ρ ++ t) v w
  | [], _, h => h
  | _ :: _, _, ⟨w, ws, h1, h2, h3⟩ => ⟨w, ws, h1, h2.mono, SR.mono h3⟩
theorem SlR.mono {ρ t : List Addr} {s : Slot} {o : Option Slot} (h : SlR ρ s o) : SlR (ρ ++ t) s o := by
  cases s with
  | unset => trivial
  | second => exact h
  | val v => obtain ⟨w, h1, h2⟩ := h; exact ⟨w, h1.mono, h2⟩
theorem LR.mono {ρ t : List Addr} {L : List Slot} {A : Array Slot} (h : LR ρ L A) : LR (ρ ++ t) L A := ⟨h.1, h.2.1, fun i s q => (h.2.2 i s q).mono⟩
theorem VR.cat {ρ : List Addr} {v w : Value} (h : VR ρ v w) : w.category = v.category := by
  cases v <;> first | (obtain ⟨a, -, rfl⟩ := h; rfl) | (cases h; rfl)
theorem SR.cat {ρ : List Addr} : ∀ {v w : List Value}, SR ρ v w → (w.map fun v => v.category).sum = catSum v
  | [], _, h => by cases h; rfl
  | _ :: _, _, ⟨w, ws, h1, h2, h3⟩ => by subst h1; simp [catSum, h2.cat, SR.cat h3]
theorem SR.len {ρ : List Addr} : ∀ {v w : List Value}, SR ρ v w → w.length = v.length
  | [], _, h => by cases h; rfl
  | _ :: _, _, ⟨w, ws, h1, h2, h3⟩ => by subst h1; simp [SR.len h3]
theorem SR.app {ρ : List Addr} : ∀ {v w v' w' : List Value}, SR ρ v w → SR ρ v' w' → SR ρ (v ++ v') (w ++ w')
  | [], _, _, _, h, h' => by cases h; exact h'
  | _ :: _, _, _, _, ⟨w, ws, h1, h2, h3⟩, h' => by subst h1; exact ⟨w, ws ++ _, rfl, h2, SR.app h3 h'⟩
theorem SR.rev {ρ : List Addr} : ∀ {v w : List Value}, SR ρ v w → SR ρ v.reverse w.reverse
  | [], _, h => by cases h; exact rfl
  | _ :: _, _, ⟨w, ws, h1, h2, h3⟩ => by subst h1; simp only [List.reverse_cons]; exact (SR.rev h3).app ⟨w, [], rfl, h2, rfl⟩
theorem SR.take {ρ : List Addr} : ∀ (n : Nat) {v w : List Value}, SR ρ v w → SR ρ (v.take n) (w.take n)
  | 0, _, _, _ => rfl
  | n + 1, [], _, h => by cases h; exact rfl
  | n + 1, _ :: _, _, ⟨w, ws, h1, h2, h3⟩ => by subst h1; exact ⟨w, _, rfl, h2, SR.take n h3⟩
theorem SR.drop {ρ : List Addr} : ∀ (n : Nat) {v w : List Value}, SR ρ v w → SR ρ (v.drop n) (w.drop n)
  | 0, _, _, h => h
  | n + 1, [], _, h => by cases h; exact rfl
  | n + 1, _ :: _, _, ⟨w, ws, h1, h2, h3⟩ => by subst h1; exact SR.drop n h3
theorem OV.list {ρ : List Addr} {v w : Option Value} (h : OV ρ v w) : SR ρ v.toList w.toList := by
  cases v with
  | none => cases h; exact rfl
  | some v => obtain ⟨u, rfl, h⟩ := h; exact ⟨u, [], rfl, h, rfl⟩
theorem LR.get {ρ : List Addr} {L : List Slot} {A : Array Slot} (h : LR ρ L A) {k : Nat} {v : Value} (g : getL L k = some v) : ∃ w, VR ρ v w ∧ A[k]? = some (.val w) := by
  unfold getL at g
  split at g
  · rename_i u q
    cases g
    exact h.2.2 k _ q
  · cases g
theorem forget_get : ∀ (er : List Bool) (L : List Slot) (i : Nat) (s : Slot), (forget er L)[i]? = some s → s = .unset ∨ L[i]? = some s
  | [], L, i, s, h => Or.inr h
  | _ :: _, [], i, s, h => by simp [forget] at h
  | true :: r, t :: L, 0, s, h => by simp [forget] at h; exact Or.inl h.symm
  | false :: r, t :: L, 0, s, h => by simp [forget] at h; exact Or.inr (by simp [h])
  | true :: r, t :: L, i + 1, s, h => by simp [forget] at h; simpa using forget_get r L i s h
  | false :: r, t :: L, i + 1, s, h => by simp [forget] at h; simpa using forget_get r L i s h
theorem forget_len : ∀ (er : List Bool) (L : List Slot), (forget er L).length = L.length
  | [], _ => rfl
  | _ :: _, [] => rfl
  | true :: r, _ :: L => by simp [forget, forget_len r L]
  | false :: r, _ :: L => by simp [forget, forget_len r L]
theorem LR.forget {ρ : List Addr} {A : Array Slot} (er : List Bool) {L : List Slot} (h : LR ρ L A) : LR ρ (forget er L) A :=
  ⟨by rw [forget_len]; exact h.1, h.2.1, fun i s q => by
    rcases forget_get er L i s q with rfl | z
    · trivial
    · exact h.2.2 i s z⟩
/-! Stores -/
theorem setAt_ok {A : Array Slot} {i : Nat} (h : i < A.size) (x : Slot) : setAt A i x = some (A.setIfInBounds i x) := by simp [setAt, h]
theorem get_set (A : Array Slot) (i j : Nat) (x : Slot) : (A.setIfInBounds i x)[j]? = if i = j then (if i < A.size then some x else none) else A[j]? := by
  rw [Array.getElem?_setIfInBounds]
theorem sl_unset {A : Array Slot} {k : Nat} {w : Value} (h : A[k]? = some .unset) : storeLocals A k w = storeSelf A k w := by
  unfold storeLocals; rw [h]; rfl
theorem sl_second {A : Array Slot} {k : Nat} {w : Value} (h : A[k]? = some .second) (hk : k - 1 < A.size) : storeLocals A k w = storeSelf (A.setIfInBounds (k - 1) .unset) k w := by
  unfold storeLocals; rw [h]
  show (setAt A (k - 1) .unset).bind _ = _
  rw [setAt_ok hk]; rfl
theorem sl_val2 {A : Array Slot} {k : Nat} {w u : Value} (h : A[k]? = some (.val u)) (hu : u.category = 2) (hk : k + 1 < A.size) : storeLocals A k w = storeSelf (A.setIfInBounds (k + 1) .unset) k w := by
  unfold storeLocals; rw [h]
  show (if u.category = 2 then (setAt A (k + 1) .unset).bind _ else _) = _
  rw [if_pos hu, setAt_ok hk]; rfl
theorem sl_val1 {A : Array Slot} {k : Nat} {w u : Value} (h : A[k]? = some (.val u)) (hu : ¬ u.category = 2) : storeLocals A k w = storeSelf A k w := by
  unfold storeLocals; rw [h]
  show (if u.category = 2 then (setAt A (k + 1) .unset).bind _ else _) = _
  rw [if_neg hu]
theorem ss_1 {A : Array Slot} {k : Nat} {w : Value} (hk : k < A.size) (hw : ¬ w.category = 2) : storeSelf A k w = some (A.setIfInBounds k (.val w)) := by
  unfold storeSelf; rw [setAt_ok hk]
  show (if w.category = 2 then _ else _) = _
  rw [if_neg hw]
theorem ss_2c {A : Array Slot} {k : Nat} {w u : Value} (hk : k < A.size) (hk1 : k + 1 < A.size) (hk2 : k + 2 < A.size) (hw : w.category = 2) (h : (A.setIfInBounds k (.val w))[k + 1]? = some (.val u)) (hu : u.category = 2) : storeSelf A k w = some (((A.setIfInBounds k (.val w)).setIfInBounds (k + 2) .unset).setIfInBounds (k + 1) .second) := by
  unfold storeSelf; rw [setAt_ok hk]
  show (if w.category = 2 then _ else _) = _
  rw [if_pos hw, h]
  show (if u.category = 2 then (setAt _ (k + 2) .unset).bind _ else _) = _
  rw [if_pos hu, setAt_ok (by simpa using hk2)]
  exact setAt_ok (by simpa using hk1) _
theorem ss_2 {A : Array Slot} {k : Nat} {w : Value} {o : Slot} (hk : k < A.size) (hk1 : k + 1 < A.size) (hw : w.category = 2) (h : (A.setIfInBounds k (.val w))[k + 1]? = some o) (ho : ¬ ∃ u, o = .val u ∧ u.category = 2) : storeSelf A k w = some ((A.setIfInBounds k (.val w)).setIfInBounds (k + 1) .second) := by
  unfold storeSelf; rw [setAt_ok hk]
  show (if w.category = 2 then _ else _) = _
  rw [if_pos hw, h]
  cases o with
  | unset => exact setAt_ok (by simpa using hk1) _
  | second => exact setAt_ok (by simpa using hk1) _
  | val u =>
    show (if u.category = 2 then _ else _) = _
    rw [if_neg fun z => ho ⟨u, rfl, z⟩]
    exact setAt_ok (by simpa using hk1) _
theorem store1_sim {ρ : List Addr} {L : List Slot} {A : Array Slot} (h : LR ρ L A) {k : Nat} {v w : Value} {L' : List Slot} (hs : st1 L k v = some L') (hv : VR ρ v w) (hc : w.category = 1) : ∃ A', storeLocals A k w = some A' ∧ LR ρ L' A' := by
  unfold st1 at hs
  split at hs
  · rename_i q
    cases hs
    simp only [Bool.and_eq_true] at q
    obtain ⟨⟨q1, q2⟩, q3⟩ := q
    obtain ⟨hA, ⟨w1, w2⟩, hl⟩ := h
    have hk : k < L.length := by
      rcases Nat.lt_or_ge k L.length with z | z
      · exact z
      · rw [List.getElem?_eq_none z] at q1; cases q1
    have hkA : k < A.size := hA ▸ hk
    obtain ⟨sl, hsl⟩ : ∃ sl, A[k]? = some sl := ⟨A[k], Array.getElem?_eq_getElem hkA⟩
    have hc2 : ¬ w.category = 2 := by rw [hc]; decide
    classical
    have key : ∃ A', storeLocals A k w = some A' ∧ A'.size = A.size ∧ (∀ j, A'[j]? = if j = k then some (.val w) else if (sl = .second ∧ j + 1 = k) ∨ ((∃ u, sl = .val u ∧ u.category = 2) ∧ j = k + 1) then some .unset else A[j]?) := by
      cases sl with
      | unset =>
        refine ⟨A.setIfInBounds k (.val w), by rw [sl_unset hsl]; exact ss_1 hkA hc2, by simp, fun j => ?_⟩
        rw [get_set]
        by_cases e : k = j
        · subst e; simp [hkA]
        · have e' : ¬ j = k := fun z => e z.symm
          simp [e, e']
      | second =>
        obtain ⟨j0, u, rfl, g1, g2⟩ := w2 k hsl
        refine ⟨(A.setIfInBounds j0 .unset).setIfInBounds (j0 + 1) (.val w), by rw [sl_second hsl (show j0 + 1 - 1 < A.size by omega)]; exact ss_1 (by simpa using hkA) hc2, by simp, fun j => ?_⟩
        rw [get_set, get_set]
        by_cases e : j0 + 1 = j
        · subst e; simp [hkA]
        · by_cases e2 : j0 = j
          · subst e2; simp; omega
          · have e' : ¬ j = j0 + 1 := fun z => e z.symm
            have e2' : ¬ j = j0 := fun z => e2 z.symm
            simp [e, e', e2, e2']
      | val u =>
        by_cases hu : u.category = 2
        · have g := w1 k u hsl hu
          have hk1 : k + 1 < A.size := (Array.getElem?_eq_some_iff.mp g).1
          refine ⟨(A.setIfInBounds (k + 1) .unset).setIfInBounds k (.val w), by rw [sl_val2 hsl hu hk1]; exact ss_1 (by simpa using hkA) hc2, by simp, fun j => ?_⟩
          rw [get_set, get_set]
          by_cases e : k = j
          · subst e; simp [hkA]
          · have e' : ¬ j = k := fun z => e z.symm
            by_cases e2 : k + 1 = j
            · subst e2; simp [hk1, hu]
            · have e2' : ¬ j = k + 1 := fun z => e2 z.symm
              simp [e, e', e2, e2']
        · refine ⟨A.setIfInBounds k (.val w), by rw [sl_val1 hsl hu]; exact ss_1 hkA hc2, by simp, fun j => ?_⟩
          rw [get_set]
          by_cases e : k = j
          · subst e; simp [hkA]
          · have e' : ¬ j = k := fun z => e z.symm
            simp [e, e', hu]
    obtain ⟨A', k1, k2, k3⟩ := key
    refine ⟨A', k1, by rw [k2, hA]; simp, ⟨fun i u g1 g2 => ?_, fun i g1 => ?_⟩, fun i s g => ?_⟩
    · rw [k3] at g1
      split at g1
      · cases g1; exact absurd g2 hc2
      · rename_i e1
        split at g1
        · cases g1
        · rename_i e2
          have g3 := w1 i u g1 g2
          rw [k3]
          split
          · rename_i e3
            have : sl = .second := by rw [← e3] at hsl; exact Option.some.inj (hsl.symm.trans g3)
            exact absurd (Or.inl ⟨this, e3⟩) e2
          · rename_i e3
            split
            · rename_i e4
              rcases e4 with ⟨z1, z2⟩ | ⟨⟨u', z1, z2⟩, z3⟩
              · exfalso
                have : k = i + 1 + 1 := z2.symm
                subst this
                rw [z1] at hsl
                obtain ⟨j0, u0, y1, y2, y3⟩ := w2 _ hsl
                have : j0 = i + 1 := by omega
                subst this
                rw [g3] at y2; cases y2
              · exact absurd (by omega) e1
            · exact g3
    · rw [k3] at g1
      split at g1
      · cases g1
      · rename_i e1
        split at g1
        · cases g1
        · rename_i e2
          obtain ⟨j, u, z1, z2, z3⟩ := w2 i g1
          refine ⟨j, u, z1, ?_, z3⟩
          rw [k3]
          split
          · rename_i e3
            subst e3
            have : sl = .val u := Option.some.inj (hsl.symm.trans z2)
            exact absurd (Or.inr ⟨⟨u, this, z3⟩, z1⟩) e2
          · split
            · rename_i e3 e4
              rcases e4 with ⟨y1, y2⟩ | ⟨⟨u', y1, y2⟩, y3⟩
              · exact absurd (z1.trans y2) e1
              · subst y3
                have g5 := w1 k u' (y1 ▸ hsl) y2
                rw [z2] at g5; cases g5
            · exact z2
    · rw [List.getElem?_set] at g
      split at g
      · rename_i e
        subst e
        cases g
        exact ⟨w, hv, by rw [k3]; simp⟩
      · rename_i e
        have e' : ¬ i = k := fun z => e z.symm
        have g2 := hl i s g
        rw [k3, if_neg e']
        split
        · rename_i e4
          cases s with
          | unset => trivial
          | second =>
            exfalso
            have g2' : A[i]? = some .second := g2
            rcases e4 with ⟨y1, y2⟩ | ⟨⟨u', y1, y2⟩, y3⟩
            · obtain ⟨j0, u0, x1, x2, x3⟩ := w2 k (y1 ▸ hsl)
              have : i = j0 := by omega
              subst this
              rw [x2] at g2'; cases g2'
            · subst y3
              rw [g] at q3
              simp [isSec] at q3
          | val v0 =>
            exfalso
            obtain ⟨w0, x1, x2⟩ := g2
            rcases e4 with ⟨y1, y2⟩ | ⟨⟨u', y1, y2⟩, y3⟩
            · obtain ⟨j0, u0, z1, z2, z3⟩ := w2 k (y1 ▸ hsl)
              have : i = j0 := by omega
              subst this
              have hw0 : w0 = u0 := by rw [x2] at z2; cases z2; rfl
              have hcat : v0.category = 2 := by rw [← x1.cat, hw0]; exact z3
              subst y2
              have : L[i + 1 - 1]? = some (.val v0) := g
              rw [this] at q2
              simp [isC2, hcat] at q2
            · subst y3
              have g5 := w1 k u' (y1 ▸ hsl) y2
              rw [x2] at g5; cases g5
        · exact g2
  · cases hs
end Jvm.Own
namespace Jvm.Own
open Jvm Jvm.ClassFile Sem Op Lib Jvm.Free Jvm.Stand Jvm.LawKit Jvm.RoadKit Bundle
theorem store2_sim {ρ : List Addr} {L : List Slot} {A : Array Slot} (h : LR ρ L A) {k : Nat} {v w : Value} {L' : List Slot} (hs : st2 L k v = some L') (hv : VR ρ v w) (hc : w.category = 2) : ∃ A', storeLocals A k w = some A' ∧ LR ρ L' A' := by
  unfold st2 at hs
  split at hs
  · rename_i q
    cases hs
    simp only [Bool.and_eq_true] at q
    obtain ⟨⟨q1, q2⟩, q3⟩ := q
    obtain ⟨hA, ⟨w1, w2⟩, hl⟩ := h
    have hk1 : k + 1 < L.length := by
      rcases Nat.lt_or_ge (k + 1) L.length with z | z
      · exact z
      · rw [List.getElem?_eq_none z] at q1
        cases h0 : L[k]? with
        | none => rw [h0] at q1; cases q1
        | some s0 => rw [h0] at q1; cases s0 <;> cases q1
    have hk : k < L.length := by omega
    have hkA : k < A.size := hA ▸ hk
    have hkA1 : k + 1 < A.size := hA ▸ hk1
    obtain ⟨sl, hsl⟩ : ∃ sl, A[k]? = some sl := ⟨A[k], Array.getElem?_eq_getElem hkA⟩
    obtain ⟨sm, hsm⟩ : ∃ sm, A[k + 1]? = some sm := ⟨A[k + 1], Array.getElem?_eq_getElem hkA1⟩
    have n1 : ¬ k = k + 1 := by omega
    have n2 : ¬ k + 2 = k + 1 := by omega
    have n3 : ¬ k + 2 = k := by omega
    classical
    have key : ∃ A', storeLocals A k w = some A' ∧ A'.size = A.size ∧ (∀ j, A'[j]? = if j = k then some (.val w) else if j = k + 1 then some .second else if (sl = .second ∧ j + 1 = k) ∨ ((∃ u, sm = .val u ∧ u.category = 2) ∧ j = k + 2) then some .unset else A[j]?) := by
      by_cases hm : ∃ u, sm = .val u ∧ u.category = 2
      · obtain ⟨u, rfl, hu⟩ := hm
        have g := w1 (k + 1) u hsm hu
        have hk2 : k + 2 < A.size := (Array.getElem?_eq_some_iff.mp g).1
        cases sl with
        | unset =>
          refine ⟨((A.setIfInBounds k (.val w)).setIfInBounds (k + 2) .unset).setIfInBounds (k + 1) .second, ?_, by simp, fun j => ?_⟩
          · rw [sl_unset hsl]; exact ss_2c hkA hkA1 hk2 hc (by rw [get_set, if_neg n1]; exact hsm) hu
          · rw [get_set, get_set, get_set]
            by_cases e0 : j = k
            · subst e0; simp [hkA]
            · by_cases e1 : j = k + 1
              · subst e1; simp [hkA1]
              · by_cases e2 : j = k + 2
                · subst e2; simp [hk2, hu]
                · have e0' : ¬ k = j := fun z => e0 z.symm
                  have e1' : ¬ k + 1 = j := fun z => e1 z.symm
                  have e2' : ¬ k + 2 = j := fun z => e2 z.symm
                  simp [e0, e1, e2, e0', e1', e2']
        | second =>
          obtain ⟨j0, u0, rfl, g1, g2⟩ := w2 k hsl
          have hj0 : j0 < A.size := by omega
          refine ⟨(((A.setIfInBounds j0 .unset).setIfInBounds (j0 + 1) (.val w)).setIfInBounds (j0 + 1 + 2) .unset).setIfInBounds (j0 + 1 + 1) .second, ?_, by simp, fun j => ?_⟩
          · have m1 : ¬ j0 + 1 = j0 + 1 + 1 := by omega
            have m2 : ¬ j0 = j0 + 1 + 1 := by omega
            rw [sl_second hsl (show j0 + 1 - 1 < A.size by omega)]
            exact ss_2c (by simpa using hkA) (by simpa using hkA1) (by simpa using hk2) hc (by rw [get_set, if_neg m1, get_set, if_neg (by omega)]; exact hsm) hu
          · rw [get_set, get_set, get_set, get_set]
            by_cases e0 : j = j0 + 1
            · subst e0; simp [hkA]
            · by_cases e1 : j = j0 + 1 + 1
              · subst e1; simp [hkA1]
              · by_cases e2 : j = j0 + 1 + 2
                · subst e2; simp [hk2, hu]
                · by_cases e3 : j = j0
                  · subst e3
                    rw [if_neg (by omega), if_neg (by omega), if_neg (by omega), if_pos rfl, if_pos hj0, if_neg (by omega), if_neg (by omega), if_pos (Or.inl ⟨rfl, rfl⟩)]
                  · have e0' : ¬ j0 + 1 = j := fun z => e0 z.symm
                    have e1' : ¬ j0 + 1 + 1 = j := fun z => e1 z.symm
                    have e2' : ¬ j0 + 1 + 2 = j := fun z => e2 z.symm
                    have e3' : ¬ j0 = j := fun z => e3 z.symm
                    simp [e0, e1, e2, e3, e0', e1', e2', e3']
        | val u1 =>
          have hu1 : ¬ u1.category = 2 := fun z => by have := w1 k u1 hsl z; rw [hsm] at this; cases this
          refine ⟨((A.setIfInBounds k (.val w)).setIfInBounds (k + 2) .unset).setIfInBounds (k + 1) .second, ?_, by simp, fun j => ?_⟩
          · rw [sl_val1 hsl hu1]; exact ss_2c hkA hkA1 hk2 hc (by rw [get_set, if_neg n1]; exact hsm) hu
          · rw [get_set, get_set, get_set]
            by_cases e0 : j = k
            · subst e0; simp [hkA]
            · by_cases e1 : j = k + 1
              · subst e1; simp [hkA1]
              · by_cases e2 : j = k + 2
                · subst e2; simp [hk2, hu]
                · have e0' : ¬ k = j := fun z => e0 z.symm
                  have e1' : ¬ k + 1 = j := fun z => e1 z.symm
                  have e2' : ¬ k + 2 = j := fun z => e2 z.symm
                  simp [e0, e1, e2, e0', e1', e2']
      · cases sl with
        | unset =>
          refine ⟨(A.setIfInBounds k (.val w)).setIfInBounds (k + 1) .second, ?_, by simp, fun j => ?_⟩
          · rw [sl_unset hsl]; exact ss_2 hkA hkA1 hc (by rw [get_set, if_neg n1]; exact hsm) hm
          · rw [get_set, get_set]
            by_cases e0 : j = k
            · subst e0; simp [hkA]
            · by_cases e1 : j = k + 1
              · subst e1; simp [hkA1]
              · have e0' : ¬ k = j := fun z => e0 z.symm
                have e1' : ¬ k + 1 = j := fun z => e1 z.symm
                simp [e0, e1, e0', e1', hm]
        | second =>
          obtain ⟨j0, u0, rfl, g1, g2⟩ := w2 k hsl
          have hj0 : j0 < A.size := by omega
          have m1 : ¬ j0 + 1 = j0 + 1 + 1 := by omega
          have m2 : ¬ j0 = j0 + 1 + 1 := by omega
          refine ⟨((A.setIfInBounds j0 .unset).setIfInBounds (j0 + 1) (.val w)).setIfInBounds (j0 + 1 + 1) .second, ?_, by simp, fun j => ?_⟩
          · rw [sl_second hsl (show j0 + 1 - 1 < A.size by omega)]
            exact ss_2 (by simpa using hkA) (by simpa using hkA1) hc (by rw [get_set, if_neg m1, get_set, if_neg (by omega)]; exact hsm) hm
          · rw [get_set, get_set, get_set]
            by_cases e0 : j = j0 + 1
            · subst e0; simp [hkA]
            · by_cases e1 : j = j0 + 1 + 1
              · subst e1; simp [hkA1]
              · by_cases e3 : j = j0
                · subst e3
                  rw [if_neg (by omega), if_neg (by omega), if_pos rfl, if_pos hj0, if_neg (by omega), if_neg (by omega), if_pos (Or.inl ⟨rfl, rfl⟩)]
                · have e0' : ¬ j0 + 1 = j := fun z => e0 z.symm
                  have e1' : ¬ j0 + 1 + 1 = j := fun z => e1 z.symm
                  have e3' : ¬ j0 = j := fun z => e3 z.symm
                  simp [e0, e1, e3, e0', e1', e3', hm]
        | val u1 =>
          by_cases hu1 : u1.category = 2
          · refine ⟨((A.setIfInBounds (k + 1) .unset).setIfInBounds k (.val w)).setIfInBounds (k + 1) .second, ?_, by simp, fun j => ?_⟩
            · rw [sl_val2 hsl hu1 hkA1]
              exact ss_2 (o := .unset) (by simpa using hkA) (by simpa using hkA1) hc (by rw [get_set, if_neg n1, get_set, if_pos rfl, if_pos hkA1]) (by rintro ⟨u, z, -⟩; cases z)
            · rw [get_set, get_set, get_set]
              by_cases e0 : j = k
              · subst e0; simp [hkA]
              · by_cases e1 : j = k + 1
                · subst e1; simp [hkA1]
                · have e0' : ¬ k = j := fun z => e0 z.symm
                  have e1' : ¬ k + 1 = j := fun z => e1 z.symm
                  simp [e0, e1, e0', e1', hm]
          · refine ⟨(A.setIfInBounds k (.val w)).setIfInBounds (k + 1) .second, ?_, by simp, fun j => ?_⟩
            · rw [sl_val1 hsl hu1]; exact ss_2 hkA hkA1 hc (by rw [get_set, if_neg n1]; exact hsm) hm
            · rw [get_set, get_set]
              by_cases e0 : j = k
              · subst e0; simp [hkA]
              · by_cases e1 : j = k + 1
                · subst e1; simp [hkA1]
                · have e0' : ¬ k = j := fun z => e0 z.symm
                  have e1' : ¬ k + 1 = j := fun z => e1 z.symm
                  simp [e0, e1, e0', e1', hm]
    obtain ⟨A', k1, k2, k3⟩ := key
    refine ⟨A', k1, by rw [k2, hA]; simp, ⟨fun i u g1 g2 => ?_, fun i g1 => ?_⟩, fun i s g => ?_⟩
    · by_cases e1 : i = k
      · subst e1; rw [k3]; simp
      · have g1' := g1
        rw [k3, if_neg e1] at g1'
        split at g1'
        · cases g1'
        · rename_i e2
          split at g1'
          · cases g1'
          · rename_i e4
            have g3 := w1 i u g1' g2
            rw [k3]
            have c1 : ¬ i + 1 = k := fun e3 => by
              have : sl = .second := by rw [← e3] at hsl; exact Option.some.inj (hsl.symm.trans g3)
              exact e4 (Or.inl ⟨this, e3⟩)
            have c2 : ¬ i + 1 = k + 1 := by omega
            have c3 : ¬ ((sl = .second ∧ i + 1 + 1 = k) ∨ ((∃ u, sm = .val u ∧ u.category = 2) ∧ i + 1 = k + 2)) := fun z => by
              rcases z with ⟨z1, z2⟩ | ⟨z1, z2⟩
              · subst z2
                rw [z1] at hsl
                obtain ⟨j0, u0, y1, y2, y3⟩ := w2 _ hsl
                have : j0 = i + 1 := by omega
                subst this
                rw [g3] at y2; cases y2
              · omega
            rw [if_neg c1, if_neg c2, if_neg c3]
            exact g3
    · rw [k3] at g1
      split at g1
      · cases g1
      · rename_i e1
        split at g1
        · rename_i e2
          exact ⟨k, w, e2, by rw [k3]; simp, hc⟩
        · rename_i e2
          split at g1
          · cases g1
          · rename_i e4
            obtain ⟨j, u, z1, z2, z3⟩ := w2 i g1
            refine ⟨j, u, z1, ?_, z3⟩
            rw [k3]
            have c1 : ¬ j = k := by omega
            have c2 : ¬ j = k + 1 := fun e => by
              subst e
              exact e4 (Or.inr ⟨⟨u, Option.some.inj (hsm.symm.trans z2), z3⟩, by omega⟩)
            have c3 : ¬ ((sl = .second ∧ j + 1 = k) ∨ ((∃ u, sm = .val u ∧ u.category = 2) ∧ j = k + 2)) := fun z => by
              rcases z with ⟨y1, y2⟩ | ⟨⟨u', y1, y2⟩, y3⟩
              · exact e1 (z1.trans y2)
              · subst y3
                have g5 := w1 (k + 1) u' (y1 ▸ hsm) y2
                rw [z2] at g5; cases g5
            rw [if_neg c1, if_neg c2, if_neg c3]
            exact z2
    · rw [List.getElem?_set] at g
      split at g
      · rename_i e
        subst e
        have : k + 1 < (L.set k (.val v)).length := by simp [hk1]
        rw [if_pos this] at g
        cases g
        show A'[k + 1]? = some .second
        rw [k3]; simp
      · rename_i e
        have e' : ¬ i = k + 1 := fun z => e z.symm
        rw [List.getElem?_set] at g
        split at g
        · rename_i e0
          subst e0
          cases g
          exact ⟨w, hv, by rw [k3]; simp⟩
        · rename_i e0
          have e0' : ¬ i = k := fun z => e0 z.symm
          have g2 := hl i s g
          rw [k3, if_neg e0', if_neg e']
          split
          · rename_i e4
            cases s with
            | unset => trivial
            | second =>
              exfalso
              have g2' : A[i]? = some .second := g2
              rcases e4 with ⟨y1, y2⟩ | ⟨⟨u', y1, y2⟩, y3⟩
              · obtain ⟨j0, u0, x1, x2, x3⟩ := w2 k (y1 ▸ hsl)
                have : i = j0 := by omega
                subst this
                rw [x2] at g2'; cases g2'
              · subst y3
                rw [g] at q3
                simp [isSec] at q3
            | val v0 =>
              exfalso
              obtain ⟨w0, x1, x2⟩ := g2
              rcases e4 with ⟨y1, y2⟩ | ⟨⟨u', y1, y2⟩, y3⟩
              · obtain ⟨j0, u0, z1, z2, z3⟩ := w2 k (y1 ▸ hsl)
                have : i = j0 := by omega
                subst this
                have hw0 : w0 = u0 := by rw [x2] at z2; cases z2; rfl
                have hcat : v0.category = 2 := by rw [← x1.cat, hw0]; exact z3
                subst y2
                have : L[i + 1 - 1]? = some (.val v0) := g
                rw [this] at q2
                simp [isC2, hcat] at q2
              · subst y3
                have g5 := w1 (k + 1) u' (y1 ▸ hsm) y2
                rw [x2] at g5; cases g5
          · exact g2
  · cases hs
/-! The frame with which a method is entered -/
theorem entA_app (ws : List Value) : ∀ acc : Array Slot, ws.foldl (fun acc v => if v.category = 2 then (acc.push (.val v)).push .second else acc.push (.val v)) acc = acc ++ (entA ws).toArray := by
  induction ws with
  | nil => intro acc; simp [entA]
  | cons v r ih =>
    intro acc
    rw [List.foldl_cons, ih]
    show _ = acc ++ (if v.category = 2 then .val v :: .second :: entA r else .val v :: entA r).toArray
    by_cases h : v.category = 2
    · rw [if_pos h, if_pos h]; simp
    · rw [if_neg h, if_neg h]; simp
theorem argsToLocals_eq (ws : List Value) (n : Nat) : argsToLocals ws.toArray n = (entL ws n).toArray := by
  unfold argsToLocals entL
  have h := entA_app ws #[]
  simp only [List.foldl_toArray', List.size_toArray] at *
  simp [h]
theorem entA_len {ρ : List Addr} : ∀ {v w : List Value}, SR ρ v w → (entA w).length = (entA v).length
  | [], _, h => by cases h; rfl
  | _ :: _, _, ⟨w, ws, h1, h2, h3⟩ => by
    subst h1
    unfold entA
    rw [h2.cat]
    split <;> simp [entA_len h3]
theorem entA_rel {ρ : List Addr} : ∀ {v w : List Value}, SR ρ v w → ∀ (m i : Nat) (s : Slot), (entA v ++ List.replicate m .unset)[i]? = some s → SlR ρ s (entA w ++ List.replicate m .unset)[i]?
  | [], _, h, m, i, s, q => by
    cases h
    simp only [entA, List.nil_append] at q ⊢
    rw [List.getElem?_replicate] at q
    split at q
    · cases q; trivial
    · cases q
  | v :: vs, _, ⟨w, ws, h1, h2, h3⟩, m, i, s, q => by
    subst h1
    unfold entA at q ⊢
    rw [h2.cat]
    split
    · rename_i c
      rw [if_pos c] at q
      match i, q with
      | 0, q => simp at q; subst q; exact ⟨w, h2, by simp⟩
      | 1, q => simp at q; subst q; simp [SlR]
      | i + 2, q => simp at q ⊢; exact entA_rel h3 m i s q
    · rename_i c
      rw [if_neg c] at q
      match i, q with
      | 0, q => simp at q; subst q; exact ⟨w, h2, by simp⟩
      | i + 1, q => simp at q ⊢; exact entA_rel h3 m i s q
theorem entA_wf : ∀ (ws : List Value) (m : Nat), (∀ (i : Nat) w, (entA ws ++ List.replicate m .unset)[i]? = some (.val w) → w.category = 2 → (entA ws ++ List.replicate m .unset)[i + 1]? = some .second) ∧
    ∀ (i : Nat), (entA ws ++ List.replicate m .unset)[i]? = some .second → ∃ j w, i = j + 1 ∧ (entA ws ++ List.replicate m .unset)[j]? = some (.val w) ∧ w.category = 2
  | [], m => by
    constructor
    · intro i w q
      simp only [entA, List.nil_append, List.getElem?_replicate] at q
      split at q <;> cases q
    · intro i q
      simp only [entA, List.nil_append, List.getElem?_replicate] at q
      split at q <;> cases q
  | v :: vs, m => by
    obtain ⟨h1, h2⟩ := entA_wf vs m
    unfold entA
    split
    · rename_i c
      constructor
      · intro i w q
        match i, q with
        | 0, q => intro _; simp
        | 1, q => simp at q
        | i + 2, q => simp at q ⊢; exact h1 i w q
      · intro i q
        match i, q with
        | 0, q => simp at q
        | 1, q => exact ⟨0, v, rfl, by simp, c⟩
        | i + 2, q =>
          simp at q
          obtain ⟨j, w, e, g1, g2⟩ := h2 i q
          exact ⟨j + 2, w, by omega, by simpa using g1, g2⟩
    · rename_i c
      constructor
      · intro i w q
        match i, q with
        | 0, q => intro z; simp at q; subst q; exact absurd z c
        | i + 1, q => simp at q ⊢; exact h1 i w q
      · intro i q
        match i, q with
        | 0, q => simp at q
        | i + 1, q =>
          simp at q
          obtain ⟨j, w, e, g1, g2⟩ := h2 i q
          exact ⟨j + 1, w, by omega, by simpa using g1, g2⟩
theorem LR.enter {ρ : List Addr} {v w : List Value} (h : SR ρ v w) {n : Nat} (hn : (entA v).length ≤ n) : LR ρ (entL v n) (argsToLocals w.toArray n) ∧ (argsToLocals w.toArray n).size = n := by
  rw [argsToLocals_eq]
  have hl := entA_len h
  refine ⟨⟨by simp [entL, hl], ?_, fun i s q => ?_⟩, by simp [entL, hl]; omega⟩
  · obtain ⟨h1, h2⟩ := entA_wf w (n - (entA w).length)
    exact ⟨fun i u q c => by simpa [entL] using h1 i u (by simpa [entL] using q) c, fun i q => by
      obtain ⟨j, u, e, g1, g2⟩ := h2 i (by simpa [entL] using q)
      exact ⟨j, u, e, by simpa [entL] using g1, g2⟩⟩
  · unfold entL at q ⊢
    rw [hl]
    simpa using entA_rel h _ i s q
end Jvm.Own
namespace Jvm.RoadKit
open Sem ClassFile Op Lib Jvm.Stand Jvm.Free Jvm.LawKit
section New
variable {p : Program} {l : Launch} {e : Env} {R : Room} {s : State} {m : MethodId} {args : Array Value} {below : List Frame} {meth : Method} {c : Code} {T : State} {locs : List Loc} {cells slots : Nat}
theorem retI (X : Stand p l e R s m args below meth c T locs cells slots) (hx : p.tables.exec = Jvm.exec) {pc : Nat} {Ls : Array Slot} {z : Int32} {rest : List Value} (hret : meth.sig.returnType = some .int) (hd : decode c.code pc = .ok (.ireturn, 1)) {fs : List Frame}
    (hl : ∀ (f : JFrame) (acts : List Action), f.method = m → f.locked = none → f.entered = [] → (doReturn e (T.setTop f) acts (some (.int z))).1 = T.setFrames fs) : Steps p.tables e below (T.setTop (mkF m pc Ls (.int z :: rest))) (T.setFrames fs) := by
  have hm' : T.vm.method? m = some meth := X.method'
  have hn : narrow .int (.int z) = .int z := rfl
  show Steps p.tables e below (T.setTop { method := m, pc := pc, locals := Ls, stack := _ :: rest, locked := none }) _
  jvm_step X.here [X.here.top, hx, hd, hm', hret, hn]
  first | (intro acts; rw [hl _ acts rfl rfl rfl]) | rw [hl _ _ rfl rfl rfl]
  exact Steps.refl _
end New
end Jvm.RoadKit
namespace Jvm.Own
open Jvm Jvm.ClassFile Sem Op Lib Jvm.Free Jvm.Stand Jvm.LawKit Jvm.RoadKit Bundle
/-! The plain heap and the real one -/
def tyA (b : Bool) : FieldType := if b then .boolean else .int
def CR (P : PD) (Z : State) (h : Heap) (ρ : List Addr) (a : Addr) : ACell → Prop
  | .inl (c, fs) => ∃ cd, P.cls[c]? = some cd ∧ Exa Z h a cd.1 ∧ fs.length = cd.2.2.length ∧ ∀ (i : Nat) v fd, fs[i]? = some v → cd.2.2[i]? = some fd → ∃ w, VR ρ v w ∧ Fld Z h a cd.1 fd.1 fd.2.1 w
  | .inr (.inl (b, L)) => ∃ cl, Arr Z h a cl (tyA b) ∧ cl.slots.size = L.length ∧ L.length < 2 ^ 31 ∧ ∀ (i : Nat) x, L[i]? = some x → cl.slots[i]? = some (.int x)
  | .inr (.inr L) => ∃ cl, Arr Z h a cl .long ∧ cl.slots.size = L.length ∧ L.length < 2 ^ 31 ∧ ∀ (i : Nat) x, L[i]? = some x → cl.slots[i]? = some (.long x)
def HR (P : PD) (Z : State) (n0 : Nat) (h : Heap) (ρ : List Addr) (H : AHeap) : Prop :=
  n0 ≤ h.size ∧ ρ.length = H.length ∧ (∀ (i j : Nat) a, ρ[i]? = some a → ρ[j]? = some a → i = j) ∧ (∀ (k : Nat) a, ρ[k]? = some a → P.nr ≤ k → n0 ≤ a) ∧ ∀ (k : Nat) a c, ρ[k]? = some a → H[k]? = some c → CR P Z h ρ a c
section Heaps
variable {P : PD} {Z : State} {n0 : Nat} {h h' : Heap} {ρ : List Addr} {H : AHeap} {a : Addr} {k : Nat} {a0 : Array Value}
theorem CR.lt {c : ACell} (q : CR P Z h ρ a c) : a < h.size := by
  match c, q with
  | .inl (_, _), q => obtain ⟨cd, -, E, -⟩ := q; exact E.lt
  | .inr (.inl (_, _)), q => obtain ⟨cl, A, -⟩ := q; exact A.lt
  | .inr (.inr _), q => obtain ⟨cl, A, -⟩ := q; exact A.lt
theorem HR.at (q : HR P Z n0 h ρ H) {c : ACell} (hc : H[k]? = some c) : ∃ a, ρ[k]? = some a ∧ CR P Z h ρ a c := by
  obtain ⟨-, q1, -, -, q4⟩ := q
  have hk : k < ρ.length := by rw [q1]; exact (List.getElem?_eq_some_iff.mp hc).1
  exact ⟨ρ[k], List.getElem?_eq_getElem hk, q4 k _ c (List.getElem?_eq_getElem hk) hc⟩
theorem HR.lt (q : HR P Z n0 h ρ H) (hk : ρ[k]? = some a) : a < h.size := by
  obtain ⟨-, q1, -, -, q4⟩ := q
  have hk' : k < H.length := by rw [← q1]; exact (List.getElem?_eq_some_iff.mp hk).1
  exact (q4 k a _ hk (List.getElem?_eq_getElem hk')).lt
theorem CR.grow {t : List Addr} {c : ACell} (E : Ext h h') (q : CR P Z h ρ a c) : CR P Z h' (ρ ++ t) a c := by
  match c, q with
  | .inl (_, _), ⟨cd, q1, q2, q3, q4⟩ => exact ⟨cd, q1, q2.ext E, q3, fun i v fd g1 g2 => by obtain ⟨w, z1, z2⟩ := q4 i v fd g1 g2; exact ⟨w, z1.mono, z2.ext E⟩⟩
  | .inr (.inl (_, _)), ⟨cl, q1, q2⟩ => exact ⟨cl, q1.ext E, q2⟩
  | .inr (.inr _), ⟨cl, q1, q2⟩ => exact ⟨cl, q1.ext E, q2⟩
theorem HR.push {c : ACell} (q : HR P Z n0 h ρ H) (E : Ext h h') (hc : CR P Z h' (ρ ++ [h.size]) h.size c) : HR P Z n0 h' (ρ ++ [h.size]) (H ++ [c]) := by
  have q0 := q
  obtain ⟨q1, q2, q3, q4, q5⟩ := q
  have old : ∀ (i : Nat) b, (ρ ++ [h.size])[i]? = some b → (ρ[i]? = some b ∧ b < h.size) ∨ (i = ρ.length ∧ b = h.size) := fun i b g => by
    rw [List.getElem?_append] at g
    split at g
    · exact Or.inl ⟨g, q0.lt g⟩
    · rename_i z
      right
      have : i - ρ.length = 0 := by
        rcases Nat.eq_zero_or_pos (i - ρ.length) with y | y
        · exact y
        · rw [List.getElem?_eq_none (by simp; omega)] at g; cases g
      rw [this] at g
      simp at g
      exact ⟨by omega, g.symm⟩
  refine ⟨Nat.le_trans q1 E.1, by simp [q2], fun i j b g1 g2 => ?_, fun i b g1 g2 => ?_, fun i b c' g1 g2 => ?_⟩
  · rcases old i b g1 with ⟨y1, y2⟩ | ⟨y1, y2⟩ <;> rcases old j b g2 with ⟨z1, z2⟩ | ⟨z1, z2⟩
    · exact q3 i j b y1 z1
    · exact absurd (z2 ▸ y2) (Nat.lt_irrefl _)
    · exact absurd (y2 ▸ z2) (Nat.lt_irrefl _)
    · rw [y1, z1]
  · rcases old i b g1 with ⟨y1, y2⟩ | ⟨y1, y2⟩
    · exact q4 i b y1 g2
    · rw [y2]; exact q1
  · rcases old i b g1 with ⟨y1, y2⟩ | ⟨y1, y2⟩
    · have hi : i < H.length := by rw [← q2]; exact (List.getElem?_eq_some_iff.mp y1).1
      rw [List.getElem?_append_left hi] at g2
      exact (q5 i b c' y1 g2).grow E
    · subst y1 y2
      rw [q2] at g2
      simp at g2
      subst g2
      exact hc
theorem CR.other {v : Value} {sl : Nat} {b : Addr} {c : ACell} (W : Wr h h' a sl v) (ne : b ≠ a) (q : CR P Z h ρ b c) : CR P Z h' ρ b c := by
  match c, q with
  | .inl (_, _), ⟨cd, q1, q2, q3, q4⟩ => exact ⟨cd, q1, q2.wr W, q3, fun i v fd g1 g2 => by obtain ⟨w, z1, z2⟩ := q4 i v fd g1 g2; exact ⟨w, z1, z2.other W (Or.inl ne)⟩⟩
  | .inr (.inl (_, _)), ⟨cl, q1, q2⟩ => exact ⟨cl, q1.other W ne, q2⟩
  | .inr (.inr _), ⟨cl, q1, q2⟩ => exact ⟨cl, q1.other W ne, q2⟩
theorem HR.set {v : Value} {sl : Nat} {c : ACell} (q : HR P Z n0 h ρ H) (hk : ρ[k]? = some a) (W : Wr h h' a sl v) (hc : CR P Z h' ρ a c) : HR P Z n0 h' ρ (H.set k c) := by
  obtain ⟨q1, q2, q3, q4, q5⟩ := q
  refine ⟨by rw [W.size]; exact q1, by simp [q2], q3, q4, fun i b c' g1 g2 => ?_⟩
  rw [List.getElem?_set] at g2
  split at g2
  · rename_i e
    subst e
    split at g2
    · cases g2
      rw [hk] at g1; cases g1
      exact hc
    · cases g2
  · rename_i e
    exact (q5 i b c' g1 g2).other W fun z => e (q3 k i a hk (z ▸ g1))
theorem nodup_ne : ∀ {l : List String}, nodup l = true → ∀ {i j : Nat} {x y : String}, l[i]? = some x → l[j]? = some y → i ≠ j → x ≠ y
  | [], _, i, j, x, y, h1, _, _ => by simp at h1
  | z :: r, hn, i, j, x, y, h1, h2, ne => by
    simp only [nodup, Bool.and_eq_true, Bool.not_eq_true', List.contains_eq_mem, decide_eq_false_iff_not] at hn
    match i, j, h1, h2, ne with
    | 0, 0, _, _, ne => exact absurd rfl ne
    | 0, j + 1, h1, h2, _ => simp at h1 h2; subst h1; exact fun e => hn.1 (e ▸ List.mem_of_getElem? h2)
    | i + 1, 0, h1, h2, _ => simp at h1 h2; subst h2; exact fun e => hn.1 (e ▸ List.mem_of_getElem? h1)
    | i + 1, j + 1, h1, h2, ne => simp at h1 h2; exact nodup_ne hn.2 h1 h2 (fun e => ne (by rw [e]))
theorem laid_of {C : String} {f : FD} (w : (fWord C f).before a0 Z = true) : Laid Z a0 C C f.1 f.2.1 := by
  unfold fWord at w
  split at w
  · exact Or.inr w
  · exact Or.inl w
theorem HR.putF {c j : Nat} {fs : List Value} {cd : CD} {fd : FD} {v w : Value} (q : HR P Z n0 h ρ H) (hk : ρ[k]? = some a) (hc : H[k]? = some (.inl (c, fs))) (hcd : P.cls[c]? = some cd) (hfd : cd.2.2[j]? = some fd)
    (hck : cChk cd = true) (hl : ∀ f ∈ cd.2.2, (fWord cd.1 f).before a0 Z = true) (W : Wr h h' a (RoadKit.slotOf Z cd.1 fd.1 fd.2.1) w) (hv : VR ρ v w) : HR P Z n0 h' ρ (H.set k (.inl (c, fs.set j v))) := by
  obtain ⟨a', ha, cr⟩ := q.at hc
  rw [hk] at ha; cases ha
  obtain ⟨cd', q1, q2, q3, q4⟩ := cr
  rw [hcd] at q1; cases q1
  refine q.set hk W ⟨cd, hcd, q2.wr W, by simp [q3], fun i v0 fd' g1 g2 => ?_⟩
  simp only [cChk, Bool.and_eq_true, List.all_eq_true] at hck
  obtain ⟨n1, n2⟩ := hck
  by_cases e : j = i
  · subst e
    rw [hfd] at g2; cases g2
    rw [List.getElem?_set] at g1
    split at g1
    · split at g1
      · cases g1
        rename_i z
        obtain ⟨w0, -, F⟩ := q4 j _ fd (List.getElem?_eq_getElem z) hfd
        exact ⟨w, hv, F.same W⟩
      · cases g1
    · rename_i z; exact absurd rfl z
  · rw [List.getElem?_set_ne e] at g1
    obtain ⟨w0, z1, F⟩ := q4 i v0 fd' g1 g2
    refine ⟨w0, z1, F.other W (Or.inr ?_)⟩
    have m1 := List.mem_of_getElem? hfd
    have m2 := List.mem_of_getElem? g2
    have f1 := n2 fd m1
    have f2 := n2 fd' m2
    simp only [fChk, Bool.and_eq_true, decide_eq_true_eq] at f1 f2
    refine slot_ne (laid_of (hl fd' m2)) (laid_of (hl fd m1)) ?_ f2.1 f1.1
    exact nodup_ne n1 (i := i) (j := j) (by simp [g2]) (by simp [hfd]) (fun z => e z.symm)
theorem HR.wrI {b : Bool} {L : List Int32} {i : Nat} {x : Int32} (q : HR P Z n0 h ρ H) (hk : ρ[k]? = some a) (hc : H[k]? = some (.inr (.inl (b, L)))) (W : Wr h h' a i (.int x)) : HR P Z n0 h' ρ (H.set k (.inr (.inl (b, L.set i x)))) := by
  obtain ⟨a', ha, cr⟩ := q.at hc
  rw [hk] at ha; cases ha
  obtain ⟨cl, A, q2, q3, q4⟩ := cr
  have lt : i < cl.slots.size := by
    obtain ⟨cl', z1, -, z3, -⟩ := W
    rw [A.1] at z1; cases z1
    exact z3
  refine q.set hk W ⟨_, A.same W, by simp [sz_set, q2], by simpa using q3, fun j y g => ?_⟩
  rw [List.getElem?_set] at g
  split at g
  · rename_i e
    subst e
    split at g
    · cases g; simp [Cell.setSlot, lt]
    · cases g
  · rename_i e
    have := q4 j y g
    simp [Cell.setSlot, Array.getElem?_setIfInBounds, e, this]
theorem HR.wrJ {L : List Int64} {i : Nat} {x : Int64} (q : HR P Z n0 h ρ H) (hk : ρ[k]? = some a) (hc : H[k]? = some (.inr (.inr L))) (W : Wr h h' a i (.long x)) : HR P Z n0 h' ρ (H.set k (.inr (.inr (L.set i x)))) := by
  obtain ⟨a', ha, cr⟩ := q.at hc
  rw [hk] at ha; cases ha
  obtain ⟨cl, A, q2, q3, q4⟩ := cr
  have lt : i < cl.slots.size := by
    obtain ⟨cl', z1, -, z3, -⟩ := W
    rw [A.1] at z1; cases z1
    exact z3
  refine q.set hk W ⟨_, A.same W, by simp [sz_set, q2], by simpa using q3, fun j y g => ?_⟩
  rw [List.getElem?_set] at g
  split at g
  · rename_i e
    subst e
    split at g
    · cases g; simp [Cell.setSlot, lt]
    · cases g
  · rename_i e
    have := q4 j y g
    simp [Cell.setSlot, Array.getElem?_setIfInBounds, e, this]
end Heaps
theorem SR.int {ρ : List Addr} {x : Int32} {S Sc : List Value} (h : SR ρ (.int x :: S) Sc) : ∃ Sc', Sc = .int x :: Sc' ∧ SR ρ S Sc' := by
  obtain ⟨w, ws, h1, h2, h3⟩ := h
  exact ⟨ws, by rw [h1, show w = .int x from h2], h3⟩
theorem SR.long {ρ : List Addr} {x : Int64} {S Sc : List Value} (h : SR ρ (.long x :: S) Sc) : ∃ Sc', Sc = .long x :: Sc' ∧ SR ρ S Sc' := by
  obtain ⟨w, ws, h1, h2, h3⟩ := h
  exact ⟨ws, by rw [h1, show w = .long x from h2], h3⟩
theorem SR.ref {ρ : List Addr} {x : Nat} {S Sc : List Value} (h : SR ρ (.ref x :: S) Sc) : ∃ a Sc', ρ[x]? = some a ∧ Sc = .ref a :: Sc' ∧ SR ρ S Sc' := by
  obtain ⟨w, ws, h1, ⟨a, h2, h4⟩, h3⟩ := h
  exact ⟨a, ws, h2, by rw [h1, h4], h3⟩
theorem rdA_spec {α : Type} {L : List α} {j : Int32} {x : α} (h : rdA L j = some x) : ¬ j < 0 ∧ L[j.toNatClampNeg]? = some x := by
  unfold rdA at h
  split at h
  · cases h
  · rename_i q; exact ⟨q, h⟩
theorem wrA_spec {α : Type} {L L' : List α} {j : Int32} {x : α} (h : wrA L j x = some L') : ¬ j < 0 ∧ j.toNatClampNeg < L.length ∧ L' = L.set j.toNatClampNeg x := by
  unfold wrA at h
  split at h
  · cases h
  · rename_i q
    split at h
    · rename_i z; cases h; exact ⟨q, z, rfl⟩
    · cases h
end Jvm.Own
namespace Jvm.Own
open Jvm Jvm.ClassFile Sem Op Lib Jvm.Free Jvm.Stand Jvm.LawKit Jvm.RoadKit Bundle
theorem st1_len {L L' : List Slot} {k : Nat} {v : Value} (h : st1 L k v = some L') : L'.length = L.length := by
  unfold st1 at h
  split at h
  · cases h; simp
  · cases h
theorem st2_len {L L' : List Slot} {k : Nat} {v : Value} (h : st2 L k v = some L') : L'.length = L.length := by
  unfold st2 at h
  split at h
  · cases h; simp
  · cases h
theorem lrem_mod (x y : Int64) : x - (x / y) * y = x % y := by
  apply Int64.toInt_inj.mp
  have h1 := Int64.le_toInt (x % y)
  have h2 := Int64.toInt_lt (x % y)
  rw [Int64.toInt_sub, Int64.toInt_mul, Int64.toInt_div, Int.bmod_mul_bmod, Int.sub_bmod_bmod, Int.mul_comm (x.toInt.tdiv y.toInt), ← Int.tmod_def, ← Int64.toInt_mod]
  exact Int.bmod_eq_of_le_mul_two (by omega) (by omega)
theorem putOk_sim {ρ : List Addr} {ty : FieldType} {v w : Value} (h : putOk ty v = true) (hv : VR ρ v w) : narrow ty w = w ∧ fits ty w = true := by
  cases ty <;> cases v <;> first | (simp [putOk] at h; done) | skip
  · cases hv; exact ⟨rfl, rfl⟩
  · cases hv; exact ⟨rfl, rfl⟩
  · rename_i x
    cases hv
    simp only [putOk, Bool.or_eq_true, beq_iff_eq] at h
    rcases h with rfl | rfl
    · exact ⟨rfl, rfl⟩
    · exact ⟨rfl, rfl⟩
  · obtain ⟨a, -, rfl⟩ := hv; exact ⟨rfl, rfl⟩
theorem dflt_sim {ρ : List Addr} {ty : FieldType} (h : dfOk ty = true) : VR ρ (dflt ty) (defaultValue ty) := by
  cases ty <;> first | (simp [dfOk] at h; done) | exact rfl
theorem fieldOf_spec {P : PD} {c a : Nat} {cd : CD} {f : FD} (h1 : P.cls[c]? = some cd) (h2 : cd.2.2[a]? = some f) : fieldOf P c a = some f := by simp [fieldOf, h1, h2]
theorem in_wordsOf {P : PD} {d : MD} {x : Nat × It} {w : Jvm.Cond} (hd : d ∈ P.mth) (hx : x ∈ d.code) (hw : w ∈ iWords P d x) : w ∈ wordsOf P :=
  List.mem_append_right _ (List.mem_flatMap.mpr ⟨d, hd, List.mem_flatMap.mpr ⟨x, hx, hw⟩⟩)
theorem in_wordsC {P : PD} {cd : CD} {w : Jvm.Cond} (hd : cd ∈ P.cls) (hw : w ∈ cWords cd) : w ∈ wordsOf P :=
  List.mem_append_left _ (List.mem_append_left _ (List.mem_flatMap.mpr ⟨cd, hd, hw⟩))
theorem in_wordsM {P : PD} {y : MD} {j : Nat} {w : Jvm.Cond} (hd : P.mth[j]? = some y) (hj : 0 < j) (hw : w ∈ mWords y) : w ∈ wordsOf P := by
  refine List.mem_append_left _ (List.mem_append_right _ (List.mem_flatMap.mpr ⟨y, ?_, hw⟩))
  have : (P.mth.drop 1)[j - 1]? = some y := by rw [List.getElem?_drop]; rw [show 1 + (j - 1) = j by omega]; exact hd
  exact List.mem_of_getElem? this
theorem fWord_in {cd : CD} {f : FD} (h : f ∈ cd.2.2) : fWord cd.1 f ∈ cWords cd := List.mem_cons_of_mem _ (List.mem_cons_of_mem _ (List.mem_map.mpr ⟨f, h, rfl⟩))
theorem cChk_of {P : PD} (hP : chk P = true) {cd : CD} (h : cd ∈ P.cls) : cChk cd = true := by
  simp only [chk, Bool.and_eq_true, List.all_eq_true] at hP
  exact hP.1 cd h
theorem mChk_of {P : PD} (hP : chk P = true) {d : MD} (h : d ∈ P.mth) : mChk P d = true := by
  simp only [chk, Bool.and_eq_true, List.all_eq_true] at hP
  exact hP.2 d h
theorem cid_of {P : PD} (hP : chk P = true) {d : MD} (h : d ∈ P.mth) {cd : CD} (hc : P.cls[d.cid]? = some cd) : cd.1 = d.name.cls := by
  have := mChk_of hP h
  simp only [mChk, Bool.and_eq_true] at this
  have h4 := this.1.1.1.2
  unfold clsChk at h4
  rw [hc] at h4
  simpa using h4
section Step
variable {P : PD} {Z : State} {n0 : Nat} {a0 : Array Value} {l : Launch} {p : Program} {e : Env} {R : Room} {s : State} {m : MethodId} {args : Array Value} {below : List Frame} {meth : Method} {c : Code} {T : State} {locs : List Loc} {cells slots : Nat} {d : MD}
def Nxt (P : PD) (Z : State) (n0 : Nat) (l : Launch) (p : Program) (e : Env) (R : Room) (s : State) (m : MethodId) (args : Array Value) (below : List Frame) (meth : Method) (c : Code) (T : State) (cells slots : Nat) (ρ : List Addr) (g : JFrame) (pc' : Nat) (L L' : List Slot) (S' : List Value) (H1 : AHeap) : Prop :=
  ∃ T' locs' A' Sc', Stand p l e R s m args below meth c T' locs' cells slots ∧ L'.length = L.length ∧ LR ρ L' A' ∧ SR ρ S' Sc' ∧ HR P Z n0 T'.heap ρ H1 ∧ Fr n0 locs' ∧
    ∀ target, Steps p.tables e below (T'.setTop (mkF m pc' A' Sc')) target → Steps p.tables e below (T.setTop g) target
theorem Nxt.pure {ρ : List Addr} {H : AHeap} {g : JFrame} {pc' : Nat} {L L' : List Slot} {S' Sc' : List Value} {A' : Array Slot} (X : Stand p l e R s m args below meth c T locs cells slots) (hl : L'.length = L.length) (hL : LR ρ L' A') (hS : SR ρ S' Sc') (hH : HR P Z n0 T.heap ρ H) (hF : Fr n0 locs)
    (k : ∀ target, Steps p.tables e below (T.setTop (mkF m pc' A' Sc')) target → Steps p.tables e below (T.setTop g) target) : Nxt P Z n0 l p e R s m args below meth c T cells slots ρ g pc' L L' S' H :=
  ⟨T, locs, A', Sc', X, hl, hL, hS, hH, hF, k⟩
theorem Nxt.mem {ρ : List Addr} {H1 : AHeap} {g : JFrame} {pc' : Nat} {L L' : List Slot} {S' Sc' : List Value} {A' : Array Slot} {T' : State} {locs' : List Loc} (X : Stand p l e R s m args below meth c T' locs' cells slots) (hl : L'.length = L.length) (hL : LR ρ L' A') (hS : SR ρ S' Sc') (hH : HR P Z n0 T'.heap ρ H1) (hF : Fr n0 locs')
    (k : ∀ target, Steps p.tables e below (T'.setTop (mkF m pc' A' Sc')) target → Steps p.tables e below (T.setTop g) target) : Nxt P Z n0 l p e R s m args below meth c T cells slots ρ g pc' L L' S' H1 :=
  ⟨T', locs', A', Sc', X, hl, hL, hS, hH, hF, k⟩
set_option maxHeartbeats 4000000 in
theorem stepX (X : Stand p l e R s m args below meth c T locs cells slots) (hx : p.tables.exec = Jvm.exec) (hZ : Z.Warmed39 s.vm) (hown : s.vm.findClass d.name.cls = some m.cls) (hnm : meth.name = d.name.name) (hP : chk P = true) (hW : ∀ w ∈ wordsOf P, w.before a0 Z = true) (hdm : d ∈ P.mth)
    {pc len a : Nat} {er : List Bool} {b : Int} {i : Instr} (hit : (pc, i, len, er, a, b) ∈ d.code) (hd : decode c.code pc = .ok (i, len)) (hlen : lenOk i len = true) {ρ : List Addr} {L L' : List Slot} {S S' Sc : List Value} {H H1 : AHeap} {A : Array Slot}
    (hL : LR ρ L A) (hS : SR ρ S Sc) (hH : HR P Z n0 T.heap ρ H) (hF : Fr n0 locs) (h : xI P (d.name.name == "<init>") d.cid i a b L S H = some (L', S', H1)) :
    Nxt P Z n0 l p e R s m args below meth c T cells slots ρ (mkF m pc A Sc) (pc + len) L L' S' H1 := by
  have hWi : ∀ w ∈ iWords P d (pc, i, len, er, a, b), w.before a0 Z = true := fun w q => hW w (in_wordsOf hdm hit q)
  cases i with
  | aload_n k =>
    obtain rfl : len = 1 := by simpa [lenOk] using hlen
    simp only [xI] at h
    split at h
    · rename_i x q
      cases h
      obtain ⟨w, hv, hg⟩ := hL.get q
      obtain ⟨ad, h1, rfl⟩ := hv
      exact Nxt.pure X rfl hL ⟨_, _, rfl, ⟨ad, h1, rfl⟩, hS⟩ hH hF (fun t z => XS.aloadN (g := mkF m pc A Sc) X.here hx rfl hd hg rfl z)
    · cases h
  | aload k =>
    obtain rfl : len = 2 := by simpa [lenOk] using hlen
    simp only [xI] at h
    split at h
    · rename_i x q
      cases h
      obtain ⟨w, hv, hg⟩ := hL.get q
      obtain ⟨ad, h1, rfl⟩ := hv
      exact Nxt.pure X rfl hL ⟨_, _, rfl, ⟨ad, h1, rfl⟩, hS⟩ hH hF (fun t z => XS.aload (g := mkF m pc A Sc) X.here hx rfl hd hg rfl z)
    · cases h
  | iload_n k =>
    obtain rfl : len = 1 := by simpa [lenOk] using hlen
    simp only [xI] at h
    split at h
    · rename_i x q
      cases h
      obtain ⟨w, hv, hg⟩ := hL.get q
      obtain rfl : w = .int _ := hv
      exact Nxt.pure X rfl hL ⟨_, _, rfl, rfl, hS⟩ hH hF (fun t z => XS.iloadN (g := mkF m pc A Sc) X.here hx rfl hd hg z)
    · cases h
  | iload k =>
    obtain rfl : len = 2 := by simpa [lenOk] using hlen
    simp only [xI] at h
    split at h
    · rename_i x q
      cases h
      obtain ⟨w, hv, hg⟩ := hL.get q
      obtain rfl : w = .int _ := hv
      exact Nxt.pure X rfl hL ⟨_, _, rfl, rfl, hS⟩ hH hF (fun t z => XS.iload (g := mkF m pc A Sc) X.here hx rfl hd hg z)
    · cases h
  | lload_n k =>
    obtain rfl : len = 1 := by simpa [lenOk] using hlen
    simp only [xI] at h
    split at h
    · rename_i x q
      cases h
      obtain ⟨w, hv, hg⟩ := hL.get q
      obtain rfl : w = .long _ := hv
      exact Nxt.pure X rfl hL ⟨_, _, rfl, rfl, hS⟩ hH hF (fun t z => XT.lloadN (g := mkF m pc A Sc) X.here hx rfl hd hg z)
    · cases h
  | lload k =>
    obtain rfl : len = 2 := by simpa [lenOk] using hlen
    simp only [xI] at h
    split at h
    · rename_i x q
      cases h
      obtain ⟨w, hv, hg⟩ := hL.get q
      obtain rfl : w = .long _ := hv
      exact Nxt.pure X rfl hL ⟨_, _, rfl, rfl, hS⟩ hH hF (fun t z => XT.lload (g := mkF m pc A Sc) X.here hx rfl hd hg z)
    · cases h
  | istore_n k =>
    obtain rfl : len = 1 := by simpa [lenOk] using hlen
    simp only [xI] at h
    split at h
    · rename_i x S0
      obtain ⟨L1, q, e1⟩ := Option.map_eq_some_iff.mp h
      cases e1
      obtain ⟨S2, rfl, h2⟩ := hS.int
      obtain ⟨A', z1, z2⟩ := store1_sim hL q (show VR ρ (.int x) (.int x) from rfl) rfl
      exact Nxt.pure X (st1_len q) z2 h2 hH hF (fun t z => XS.istoreN (g := mkF m pc A _) X.here hx rfl hd rfl z1 z)
    · cases h
  | istore k =>
    obtain rfl : len = 2 := by simpa [lenOk] using hlen
    simp only [xI] at h
    split at h
    · rename_i x S0
      obtain ⟨L1, q, e1⟩ := Option.map_eq_some_iff.mp h
      cases e1
      obtain ⟨S2, rfl, h2⟩ := hS.int
      obtain ⟨A', z1, z2⟩ := store1_sim hL q (show VR ρ (.int x) (.int x) from rfl) rfl
      exact Nxt.pure X (st1_len q) z2 h2 hH hF (fun t z => XS.istore (g := mkF m pc A _) X.here hx rfl hd rfl z1 z)
    · cases h
  | astore_n k =>
    obtain rfl : len = 1 := by simpa [lenOk] using hlen
    simp only [xI] at h
    split at h
    · rename_i x S0
      obtain ⟨L1, q, e1⟩ := Option.map_eq_some_iff.mp h
      cases e1
      obtain ⟨ad, S2, h1, rfl, h2⟩ := hS.ref
      obtain ⟨A', z1, z2⟩ := store1_sim hL q (show VR ρ (.ref x) (.ref ad) from ⟨ad, h1, rfl⟩) rfl
      exact Nxt.pure X (st1_len q) z2 h2 hH hF (fun t z => XS.astoreN (g := mkF m pc A _) X.here hx rfl hd rfl rfl z1 z)
    · cases h
  | astore k =>
    obtain rfl : len = 2 := by simpa [lenOk] using hlen
    simp only [xI] at h
    split at h
    · rename_i x S0
      obtain ⟨L1, q, e1⟩ := Option.map_eq_some_iff.mp h
      cases e1
      obtain ⟨ad, S2, h1, rfl, h2⟩ := hS.ref
      obtain ⟨A', z1, z2⟩ := store1_sim hL q (show VR ρ (.ref x) (.ref ad) from ⟨ad, h1, rfl⟩) rfl
      exact Nxt.pure X (st1_len q) z2 h2 hH hF (fun t z => XS.astore (g := mkF m pc A _) X.here hx rfl hd rfl rfl z1 z)
    · cases h
  | lstore_n k =>
    obtain rfl : len = 1 := by simpa [lenOk] using hlen
    simp only [xI] at h
    split at h
    · rename_i x S0
      obtain ⟨L1, q, e1⟩ := Option.map_eq_some_iff.mp h
      cases e1
      obtain ⟨S2, rfl, h2⟩ := hS.long
      obtain ⟨A', z1, z2⟩ := store2_sim hL q (show VR ρ (.long x) (.long x) from rfl) rfl
      exact Nxt.pure X (st2_len q) z2 h2 hH hF (fun t z => XT.lstoreN (g := mkF m pc A _) X.here hx rfl hd rfl z1 z)
    · cases h
  | lstore k =>
    obtain rfl : len = 2 := by simpa [lenOk] using hlen
    simp only [xI] at h
    split at h
    · rename_i x S0
      obtain ⟨L1, q, e1⟩ := Option.map_eq_some_iff.mp h
      cases e1
      obtain ⟨S2, rfl, h2⟩ := hS.long
      obtain ⟨A', z1, z2⟩ := store2_sim hL q (show VR ρ (.long x) (.long x) from rfl) rfl
      exact Nxt.pure X (st2_len q) z2 h2 hH hF (fun t z => XT.lstore (g := mkF m pc A _) X.here hx rfl hd rfl z1 z)
    · cases h
  | iinc k dd =>
    obtain rfl : len = 3 := by simpa [lenOk] using hlen
    simp only [xI] at h
    split at h
    · rename_i x q0
      obtain ⟨L1, q, e1⟩ := Option.map_eq_some_iff.mp h
      cases e1
      obtain ⟨w, hv, hg⟩ := hL.get q0
      obtain rfl : w = .int _ := hv
      obtain ⟨A', z1, z2⟩ := store1_sim hL q (show VR ρ (.int (x + Int32.ofInt dd)) (.int (x + Int32.ofInt dd)) from rfl) rfl
      exact Nxt.pure X (st1_len q) z2 hS hH hF (fun t z => XS.iinc (g := mkF m pc A Sc) X.here hx rfl hd hg z1 z)
    · cases h
  | iconst v =>
    obtain rfl : len = 1 := by simpa [lenOk] using hlen
    simp only [xI] at h
    cases h
    exact Nxt.pure X rfl hL ⟨_, _, rfl, rfl, hS⟩ hH hF (fun t z => XS.iconst (g := mkF m pc A Sc) X.here hx rfl hd z)
  | bipush v =>
    obtain rfl : len = 2 := by simpa [lenOk] using hlen
    simp only [xI] at h
    cases h
    exact Nxt.pure X rfl hL ⟨_, _, rfl, rfl, hS⟩ hH hF (fun t z => XS.bipush (g := mkF m pc A Sc) X.here hx rfl hd z)
  | sipush v =>
    obtain rfl : len = 3 := by simpa [lenOk] using hlen
    simp only [xI] at h
    cases h
    exact Nxt.pure X rfl hL ⟨_, _, rfl, rfl, hS⟩ hH hF (fun t z => XS.sipush (g := mkF m pc A Sc) X.here hx rfl hd z)
  | lconst v =>
    obtain rfl : len = 1 := by simpa [lenOk] using hlen
    simp only [xI] at h
    cases h
    exact Nxt.pure X rfl hL ⟨_, _, rfl, rfl, hS⟩ hH hF (fun t z => XT.lconst (g := mkF m pc A Sc) X.here hx rfl hd z)
  | ldc k =>
    obtain rfl : len = 2 := by simpa [lenOk] using hlen
    simp only [xI] at h
    cases h
    have w1 := hWi (.constant d.name.cls k (Int32.ofInt b)) (List.mem_singleton.mpr rfl)
    exact Nxt.pure X rfl hL ⟨_, _, rfl, rfl, hS⟩ hH hF (fun t z => X.ldcInt hx hown (mvT hZ w1) (g := mkF m pc A Sc) rfl hd t z)
  | ldc2_w k =>
    obtain rfl : len = 3 := by simpa [lenOk] using hlen
    simp only [xI] at h
    cases h
    have w1 := hWi (.constantLong d.name.cls k (Int64.ofInt b)) (List.mem_singleton.mpr rfl)
    exact Nxt.pure X rfl hL ⟨_, _, rfl, rfl, hS⟩ hH hF (fun t z => X.ldc2Long hx hown (mvT hZ w1) (g := mkF m pc A Sc) rfl hd t z)
  | iadd =>
    obtain rfl : len = 1 := by simpa [lenOk] using hlen
    simp only [xI] at h
    split at h
    · rename_i y x S0
      cases h
      obtain ⟨S1, rfl, h1⟩ := hS.int
      obtain ⟨S2, rfl, h2⟩ := h1.int
      exact Nxt.pure X rfl hL ⟨_, _, rfl, rfl, h2⟩ hH hF (fun t z => XS.iadd (g := mkF m pc A _) X.here hx rfl hd rfl z)
    · cases h
  | isub =>
    obtain rfl : len = 1 := by simpa [lenOk] using hlen
    simp only [xI] at h
    split at h
    · rename_i y x S0
      cases h
      obtain ⟨S1, rfl, h1⟩ := hS.int
      obtain ⟨S2, rfl, h2⟩ := h1.int
      exact Nxt.pure X rfl hL ⟨_, _, rfl, rfl, h2⟩ hH hF (fun t z => XS.isub (g := mkF m pc A _) X.here hx rfl hd rfl z)
    · cases h
  | imul =>
    obtain rfl : len = 1 := by simpa [lenOk] using hlen
    simp only [xI] at h
    split at h
    · rename_i y x S0
      cases h
      obtain ⟨S1, rfl, h1⟩ := hS.int
      obtain ⟨S2, rfl, h2⟩ := h1.int
      exact Nxt.pure X rfl hL ⟨_, _, rfl, rfl, h2⟩ hH hF (fun t z => XS.imul (g := mkF m pc A _) X.here hx rfl hd rfl z)
    · cases h
  | iand =>
    obtain rfl : len = 1 := by simpa [lenOk] using hlen
    simp only [xI] at h
    split at h
    · rename_i y x S0
      cases h
      obtain ⟨S1, rfl, h1⟩ := hS.int
      obtain ⟨S2, rfl, h2⟩ := h1.int
      exact Nxt.pure X rfl hL ⟨_, _, rfl, rfl, h2⟩ hH hF (fun t z => XS.iand (g := mkF m pc A _) X.here hx rfl hd rfl z)
    · cases h
  | ior =>
    obtain rfl : len = 1 := by simpa [lenOk] using hlen
    simp only [xI] at h
    split at h
    · rename_i y x S0
      cases h
      obtain ⟨S1, rfl, h1⟩ := hS.int
      obtain ⟨S2, rfl, h2⟩ := h1.int
      exact Nxt.pure X rfl hL ⟨_, _, rfl, rfl, h2⟩ hH hF (fun t z => XT.ior (g := mkF m pc A _) X.here hx rfl hd rfl z)
    · cases h
  | ixor =>
    obtain rfl : len = 1 := by simpa [lenOk] using hlen
    simp only [xI] at h
    split at h
    · rename_i y x S0
      cases h
      obtain ⟨S1, rfl, h1⟩ := hS.int
      obtain ⟨S2, rfl, h2⟩ := h1.int
      exact Nxt.pure X rfl hL ⟨_, _, rfl, rfl, h2⟩ hH hF (fun t z => XT.ixor (g := mkF m pc A _) X.here hx rfl hd rfl z)
    · cases h
  | ishl =>
    obtain rfl : len = 1 := by simpa [lenOk] using hlen
    simp only [xI] at h
    split at h
    · rename_i y x S0
      cases h
      obtain ⟨S1, rfl, h1⟩ := hS.int
      obtain ⟨S2, rfl, h2⟩ := h1.int
      exact Nxt.pure X rfl hL ⟨_, _, rfl, rfl, h2⟩ hH hF (fun t z => XT.ishl (g := mkF m pc A _) X.here hx rfl hd rfl z)
    · cases h
  | ishr =>
    obtain rfl : len = 1 := by simpa [lenOk] using hlen
    simp only [xI] at h
    split at h
    · rename_i y x S0
      cases h
      obtain ⟨S1, rfl, h1⟩ := hS.int
      obtain ⟨S2, rfl, h2⟩ := h1.int
      exact Nxt.pure X rfl hL ⟨_, _, rfl, rfl, h2⟩ hH hF (fun t z => XT.ishr (g := mkF m pc A _) X.here hx rfl hd rfl z)
    · cases h
  | iushr =>
    obtain rfl : len = 1 := by simpa [lenOk] using hlen
    simp only [xI] at h
    split at h
    · rename_i y x S0
      cases h
      obtain ⟨S1, rfl, h1⟩ := hS.int
      obtain ⟨S2, rfl, h2⟩ := h1.int
      exact Nxt.pure X rfl hL ⟨_, _, rfl, rfl, h2⟩ hH hF (fun t z => XT.iushr (g := mkF m pc A _) X.here hx rfl hd rfl z)
    · cases h
  | ladd =>
    obtain rfl : len = 1 := by simpa [lenOk] using hlen
    simp only [xI] at h
    split at h
    · rename_i y x S0
      cases h
      obtain ⟨S1, rfl, h1⟩ := hS.long
      obtain ⟨S2, rfl, h2⟩ := h1.long
      exact Nxt.pure X rfl hL ⟨_, _, rfl, rfl, h2⟩ hH hF (fun t z => XT.ladd (g := mkF m pc A _) X.here hx rfl hd rfl z)
    · cases h
  | lsub =>
    obtain rfl : len = 1 := by simpa [lenOk] using hlen
    simp only [xI] at h
    split at h
    · rename_i y x S0
      cases h
      obtain ⟨S1, rfl, h1⟩ := hS.long
      obtain ⟨S2, rfl, h2⟩ := h1.long
      exact Nxt.pure X rfl hL ⟨_, _, rfl, rfl, h2⟩ hH hF (fun t z => XT.lsub (g := mkF m pc A _) X.here hx rfl hd rfl z)
    · cases h
  | lmul =>
    obtain rfl : len = 1 := by simpa [lenOk] using hlen
    simp only [xI] at h
    split at h
    · rename_i y x S0
      cases h
      obtain ⟨S1, rfl, h1⟩ := hS.long
      obtain ⟨S2, rfl, h2⟩ := h1.long
      exact Nxt.pure X rfl hL ⟨_, _, rfl, rfl, h2⟩ hH hF (fun t z => XT.lmul (g := mkF m pc A _) X.here hx rfl hd rfl z)
    · cases h
  | land =>
    obtain rfl : len = 1 := by simpa [lenOk] using hlen
    simp only [xI] at h
    split at h
    · rename_i y x S0
      cases h
      obtain ⟨S1, rfl, h1⟩ := hS.long
      obtain ⟨S2, rfl, h2⟩ := h1.long
      exact Nxt.pure X rfl hL ⟨_, _, rfl, rfl, h2⟩ hH hF (fun t z => XT.land (g := mkF m pc A _) X.here hx rfl hd rfl z)
    · cases h
  | lor =>
    obtain rfl : len = 1 := by simpa [lenOk] using hlen
    simp only [xI] at h
    split at h
    · rename_i y x S0
      cases h
      obtain ⟨S1, rfl, h1⟩ := hS.long
      obtain ⟨S2, rfl, h2⟩ := h1.long
      exact Nxt.pure X rfl hL ⟨_, _, rfl, rfl, h2⟩ hH hF (fun t z => XT.lor (g := mkF m pc A _) X.here hx rfl hd rfl z)
    · cases h
  | lxor =>
    obtain rfl : len = 1 := by simpa [lenOk] using hlen
    simp only [xI] at h
    split at h
    · rename_i y x S0
      cases h
      obtain ⟨S1, rfl, h1⟩ := hS.long
      obtain ⟨S2, rfl, h2⟩ := h1.long
      exact Nxt.pure X rfl hL ⟨_, _, rfl, rfl, h2⟩ hH hF (fun t z => XT.lxor (g := mkF m pc A _) X.here hx rfl hd rfl z)
    · cases h
  | lcmp =>
    obtain rfl : len = 1 := by simpa [lenOk] using hlen
    simp only [xI] at h
    split at h
    · rename_i y x S0
      cases h
      obtain ⟨S1, rfl, h1⟩ := hS.long
      obtain ⟨S2, rfl, h2⟩ := h1.long
      exact Nxt.pure X rfl hL ⟨_, _, rfl, rfl, h2⟩ hH hF (fun t z => XT.lcmp (g := mkF m pc A _) X.here hx rfl hd rfl z)
    · cases h
  | lshl =>
    obtain rfl : len = 1 := by simpa [lenOk] using hlen
    simp only [xI] at h
    split at h
    · rename_i y x S0
      cases h
      obtain ⟨S1, rfl, h1⟩ := hS.int
      obtain ⟨S2, rfl, h2⟩ := h1.long
      exact Nxt.pure X rfl hL ⟨_, _, rfl, rfl, h2⟩ hH hF (fun t z => XT.lshl (g := mkF m pc A _) X.here hx rfl hd rfl z)
    · cases h
  | lshr =>
    obtain rfl : len = 1 := by simpa [lenOk] using hlen
    simp only [xI] at h
    split at h
    · rename_i y x S0
      cases h
      obtain ⟨S1, rfl, h1⟩ := hS.int
      obtain ⟨S2, rfl, h2⟩ := h1.long
      exact Nxt.pure X rfl hL ⟨_, _, rfl, rfl, h2⟩ hH hF (fun t z => XT.lshr (g := mkF m pc A _) X.here hx rfl hd rfl z)
    · cases h
  | lushr =>
    obtain rfl : len = 1 := by simpa [lenOk] using hlen
    simp only [xI] at h
    split at h
    · rename_i y x S0
      cases h
      obtain ⟨S1, rfl, h1⟩ := hS.int
      obtain ⟨S2, rfl, h2⟩ := h1.long
      exact Nxt.pure X rfl hL ⟨_, _, rfl, rfl, h2⟩ hH hF (fun t z => XT.lushr (g := mkF m pc A _) X.here hx rfl hd rfl z)
    · cases h
  | idiv =>
    obtain rfl : len = 1 := by simpa [lenOk] using hlen
    simp only [xI] at h
    split at h
    · rename_i y x S0
      split at h
      · cases h
      · rename_i hy
        cases h
        obtain ⟨S1, rfl, h1⟩ := hS.int
        obtain ⟨S2, rfl, h2⟩ := h1.int
        exact Nxt.pure X rfl hL ⟨_, _, rfl, rfl, h2⟩ hH hF (fun t z => XS.idiv (g := mkF m pc A _) X.here hx rfl hd rfl hy z)
    · cases h
  | irem =>
    obtain rfl : len = 1 := by simpa [lenOk] using hlen
    simp only [xI] at h
    split at h
    · rename_i y x S0
      split at h
      · cases h
      · rename_i hy
        cases h
        obtain ⟨S1, rfl, h1⟩ := hS.int
        obtain ⟨S2, rfl, h2⟩ := h1.int
        exact Nxt.pure X rfl hL ⟨_, _, rfl, rfl, h2⟩ hH hF (fun t z => iremM (g := mkF m pc A _) X hx rfl hd rfl hy z)
    · cases h
  | ldiv =>
    obtain rfl : len = 1 := by simpa [lenOk] using hlen
    simp only [xI] at h
    split at h
    · rename_i y x S0
      split at h
      · cases h
      · rename_i hy
        cases h
        obtain ⟨S1, rfl, h1⟩ := hS.long
        obtain ⟨S2, rfl, h2⟩ := h1.long
        exact Nxt.pure X rfl hL ⟨_, _, rfl, rfl, h2⟩ hH hF (fun t z => XT.ldiv (g := mkF m pc A _) X.here hx rfl hd rfl hy z)
    · cases h
  | lrem =>
    obtain rfl : len = 1 := by simpa [lenOk] using hlen
    simp only [xI] at h
    split at h
    · rename_i y x S0
      split at h
      · cases h
      · rename_i hy
        cases h
        obtain ⟨S1, rfl, h1⟩ := hS.long
        obtain ⟨S2, rfl, h2⟩ := h1.long
        exact Nxt.pure X rfl hL ⟨_, _, rfl, rfl, h2⟩ hH hF (fun t z => XT.lrem (g := mkF m pc A _) X.here hx rfl hd rfl hy (by rw [lrem_mod]; exact z))
    · cases h
  | i2l =>
    obtain rfl : len = 1 := by simpa [lenOk] using hlen
    simp only [xI] at h
    split at h
    · rename_i x S0
      cases h
      obtain ⟨S1, rfl, h1⟩ := hS.int
      exact Nxt.pure X rfl hL ⟨_, _, rfl, rfl, h1⟩ hH hF (fun t z => XT.i2l (g := mkF m pc A _) X.here hx rfl hd rfl z)
    · cases h
  | l2i =>
    obtain rfl : len = 1 := by simpa [lenOk] using hlen
    simp only [xI] at h
    split at h
    · rename_i x S0
      cases h
      obtain ⟨S1, rfl, h1⟩ := hS.long
      exact Nxt.pure X rfl hL ⟨_, _, rfl, rfl, h1⟩ hH hF (fun t z => XT.l2i (g := mkF m pc A _) X.here hx rfl hd rfl z)
    · cases h
  | dup =>
    obtain rfl : len = 1 := by simpa [lenOk] using hlen
    simp only [xI] at h
    split at h
    · rename_i x S0
      cases h
      obtain ⟨S1, rfl, h1⟩ := hS.int
      exact Nxt.pure X rfl hL ⟨_, _, rfl, rfl, _, _, rfl, rfl, h1⟩ hH hF (fun t z => XS.dup (g := mkF m pc A _) X.here hx rfl hd rfl rfl z)
    · rename_i x S0
      cases h
      obtain ⟨ad, S1, g1, rfl, h1⟩ := hS.ref
      exact Nxt.pure X rfl hL ⟨_, _, rfl, ⟨ad, g1, rfl⟩, _, _, rfl, ⟨ad, g1, rfl⟩, h1⟩ hH hF (fun t z => XS.dup (g := mkF m pc A _) X.here hx rfl hd rfl rfl z)
    · cases h
  | dup2 =>
    obtain rfl : len = 1 := by simpa [lenOk] using hlen
    simp only [xI] at h
    split at h
    · rename_i x y S0
      cases h
      obtain ⟨S1, rfl, h1⟩ := hS.int
      obtain ⟨ad, S2, g1, rfl, h2⟩ := h1.ref
      exact Nxt.pure X rfl hL ⟨_, _, rfl, rfl, _, _, rfl, ⟨ad, g1, rfl⟩, _, _, rfl, rfl, _, _, rfl, ⟨ad, g1, rfl⟩, h2⟩ hH hF (fun t z => XT.dup2 (g := mkF m pc A _) X.here hx rfl hd rfl rfl rfl z)
    · rename_i x S0
      cases h
      obtain ⟨S1, rfl, h1⟩ := hS.long
      exact Nxt.pure X rfl hL ⟨_, _, rfl, rfl, _, _, rfl, rfl, h1⟩ hH hF (fun t z => XT.dup2L (g := mkF m pc A _) X.here hx rfl hd rfl z)
    · cases h
  | pop =>
    obtain rfl : len = 1 := by simpa [lenOk] using hlen
    simp only [xI] at h
    split at h
    · rename_i x S0
      cases h
      obtain ⟨S1, rfl, h1⟩ := hS.int
      exact Nxt.pure X rfl hL h1 hH hF (fun t z => XT.pop (g := mkF m pc A _) X.here hx rfl hd rfl rfl z)
    · cases h
  | getfield k =>
    obtain rfl : len = 3 := by simpa [lenOk] using hlen
    simp only [xI] at h
    split at h
    · rename_i o S0
      obtain ⟨ad, S1, g1, rfl, h1⟩ := hS.ref
      split at h
      · rename_i c0 fs hc0
        split at h
        · rename_i ec
          subst ec
          obtain ⟨ad', g2, cd, q1, q2, q3, q4⟩ := hH.at hc0
          rw [g1] at g2; cases g2
          have hcd := cid_of hP hdm q1
          have core : ∀ v, fs[a]? = some v → ∃ w T2, VR ρ v w ∧ Stand p l e R s m args below meth c T2 locs cells slots ∧ T2.heap = T.heap ∧ ∀ target, Steps p.tables e below (T2.setTop (mkF m (pc + 3) A (w :: S1))) target → Steps p.tables e below (T.setTop (mkF m pc A (.ref ad :: S1))) target := fun v hv => by
            have ha : a < cd.2.2.length := by rw [← q3]; exact (List.getElem?_eq_some_iff.mp hv).1
            obtain ⟨w, hvw, F⟩ := q4 a v _ hv (List.getElem?_eq_getElem ha)
            have w1 := hWi (.fieldLink d.name.cls k d.name.cls cd.2.2[a].1 cd.2.2[a].2.1) (by
              show _ ∈ fLink P d k a
              unfold fLink
              rw [fieldOf_spec q1 (List.getElem?_eq_getElem ha)]
              exact List.mem_singleton.mpr rfl)
            rw [hcd] at F
            obtain ⟨T2, X2, e2, st2⟩ := getF X hx hZ hown (host := "") (Or.inl w1) Via.refl rfl F (g := mkF m pc A (.ref ad :: S1)) rfl rfl hd
            exact ⟨w, T2, hvw, X2, e2, st2⟩
          split at h
          · rename_i x hv
            cases h
            obtain ⟨w, T2, hvw, X2, e2, st2⟩ := core _ hv
            exact Nxt.mem X2 rfl hL ⟨_, _, rfl, hvw, h1⟩ (by rw [e2]; exact hH) hF st2
          · rename_i x hv
            cases h
            obtain ⟨w, T2, hvw, X2, e2, st2⟩ := core _ hv
            exact Nxt.mem X2 rfl hL ⟨_, _, rfl, hvw, h1⟩ (by rw [e2]; exact hH) hF st2
          · rename_i x hv
            cases h
            obtain ⟨w, T2, hvw, X2, e2, st2⟩ := core _ hv
            exact Nxt.mem X2 rfl hL ⟨_, _, rfl, hvw, h1⟩ (by rw [e2]; exact hH) hF st2
          · cases h
        · cases h
      · cases h
    · cases h
  | putfield k =>
    obtain rfl : len = 3 := by simpa [lenOk] using hlen
    simp only [xI] at h
    split at h
    · rename_i v o S0
      obtain ⟨w, Sx, rfl, hvw, hS1⟩ := hS
      obtain ⟨ad, S1, g1, rfl, h1⟩ := hS1.ref
      split at h
      · rename_i c0 fs hc0
        split at h
        · rename_i ec
          obtain ⟨ec, enr⟩ := ec
          subst ec
          split at h
          · rename_i nm ds ty fin hf
            split at h
            · rename_i hok
              cases h
              simp only [Bool.and_eq_true] at hok
              obtain ⟨hok, hfin⟩ := hok
              obtain ⟨ad', g2, cd, q1, q2, q3, q4⟩ := hH.at hc0
              rw [g1] at g2; cases g2
              have hcd := cid_of hP hdm q1
              rw [q1] at hf
              have hf' : cd.2.2[a]? = some (nm, ds, ty, fin) := hf
              have ha : a < fs.length := by rw [q3]; exact (List.getElem?_eq_some_iff.mp hf').1
              obtain ⟨w0, -, F⟩ := q4 a _ _ (List.getElem?_eq_getElem ha) hf'
              have w1 := hWi (.fieldLink d.name.cls k d.name.cls nm ds) (by
                show _ ∈ fLink P d k a
                unfold fLink
                rw [fieldOf_spec q1 hf']
                exact List.mem_singleton.mpr rfl)
              have hcm : cd ∈ P.cls := List.mem_of_getElem? q1
              have w2 := hW _ (in_wordsC hcm (fWord_in (List.mem_of_getElem? hf')))
              have w3 := hW (.instantiable cd.1 cd.2.1) (in_wordsC hcm (List.mem_cons_self ..))
              have hck := cChk_of hP hcm
              have hck' := hck
              simp only [cChk, Bool.and_eq_true, List.all_eq_true] at hck'
              have f1 := hck'.2 _ (List.mem_of_getElem? hf')
              simp only [fChk, Bool.and_eq_true, decide_eq_true_eq] at f1
              obtain ⟨p1, p2⟩ := putOk_sim hok hvw
              have Ly : (Jvm.Cond.lays cd.1 cd.1 nm ds).before a0 Z = true ∨ ((Jvm.Cond.laysFinal cd.1 cd.1 nm ds).before a0 Z = true ∧ d.name.cls = cd.1 ∧ meth.name = "<init>") := by
                unfold fWord at w2
                cases fin with
                | false => exact Or.inl w2
                | true => exact Or.inr ⟨w2, hcd.symm, by rw [hnm]; simpa using hfin⟩
              obtain ⟨T2, h2, X2, e2, W2, st2⟩ := putF X hx hZ hown (host := "") (R0 := d.name.cls) (O := cd.1) (Or.inl w1) (by rw [hcd]; exact Via.refl) rfl F q2 Ly w3 f1.1 p1 p2 (g := mkF m pc A (w :: .ref ad :: S1)) rfl rfl hd
              have hH2 := hH.putF (a0 := a0) g1 hc0 q1 hf' hck (fun f hfm => hW _ (in_wordsC hcm (fWord_in hfm))) W2 hvw
              exact Nxt.mem X2 rfl hL h1 (by rw [e2]; exact hH2) (Fr.snoc X2 hF (hH.2.2.2.1 _ _ g1 enr)) st2
            · cases h
          · cases h
        · cases h
      · cases h
    · cases h
  | iaload =>
    obtain rfl : len = 1 := by simpa [lenOk] using hlen
    simp only [xI] at h
    split at h
    · rename_i j o S0
      obtain ⟨S1, rfl, h1⟩ := hS.int
      obtain ⟨ad, S2, g1, rfl, h2⟩ := h1.ref
      split at h
      · rename_i B hc0
        obtain ⟨x, q, e1⟩ := Option.map_eq_some_iff.mp h
        cases e1
        obtain ⟨hj, hat⟩ := rdA_spec q
        obtain ⟨ad', g2, cl, Ar, z1, z2, z3⟩ := hH.at hc0
        rw [g1] at g2; cases g2
        have hin : ¬ (j < 0 ∨ cl.slots.size ≤ j.toNatClampNeg) := by
          have := (List.getElem?_eq_some_iff.mp hat).1
          rintro (y | y)
          · exact hj y
          · omega
        exact Nxt.pure X rfl hL ⟨_, _, rfl, rfl, h2⟩ hH hF (fun t z => X.iaload hx (j := j) (v := .int x) Ar.1 (State.isArrayOf_alike hZ.alike Ar.2.1) Ar.2.2 hin (z3 _ _ hat) (g := mkF m pc A _) rfl rfl hd t z)
      · cases h
    · cases h
  | baload =>
    obtain rfl : len = 1 := by simpa [lenOk] using hlen
    simp only [xI] at h
    split at h
    · rename_i j o S0
      obtain ⟨S1, rfl, h1⟩ := hS.int
      obtain ⟨ad, S2, g1, rfl, h2⟩ := h1.ref
      split at h
      · rename_i B hc0
        obtain ⟨x, q, e1⟩ := Option.map_eq_some_iff.mp h
        cases e1
        obtain ⟨hj, hat⟩ := rdA_spec q
        obtain ⟨ad', g2, cl, Ar, z1, z2, z3⟩ := hH.at hc0
        rw [g1] at g2; cases g2
        have hin : ¬ (j < 0 ∨ cl.slots.size ≤ j.toNatClampNeg) := by
          have := (List.getElem?_eq_some_iff.mp hat).1
          rintro (y | y)
          · exact hj y
          · omega
        exact Nxt.pure X rfl hL ⟨_, _, rfl, rfl, h2⟩ hH hF (fun t z => X.baloadBooleans hx (j := j) (v := .int x) Ar.1 (State.isArrayOf_alike hZ.alike Ar.2.1) Ar.2.2 hin (z3 _ _ hat) (g := mkF m pc A _) rfl rfl hd t z)
      · cases h
    · cases h
  | laload =>
    obtain rfl : len = 1 := by simpa [lenOk] using hlen
    simp only [xI] at h
    split at h
    · rename_i j o S0
      obtain ⟨S1, rfl, h1⟩ := hS.int
      obtain ⟨ad, S2, g1, rfl, h2⟩ := h1.ref
      split at h
      · rename_i B hc0
        obtain ⟨x, q, e1⟩ := Option.map_eq_some_iff.mp h
        cases e1
        obtain ⟨hj, hat⟩ := rdA_spec q
        obtain ⟨ad', g2, cl, Ar, z1, z2, z3⟩ := hH.at hc0
        rw [g1] at g2; cases g2
        have hin : ¬ (j < 0 ∨ cl.slots.size ≤ j.toNatClampNeg) := by
          have := (List.getElem?_eq_some_iff.mp hat).1
          rintro (y | y)
          · exact hj y
          · omega
        exact Nxt.pure X rfl hL ⟨_, _, rfl, rfl, h2⟩ hH hF (fun t z => X.laload hx (j := j) (v := .long x) Ar.1 (State.isArrayOf_alike hZ.alike Ar.2.1) Ar.2.2 hin (z3 _ _ hat) (g := mkF m pc A _) rfl rfl hd t z)
      · cases h
    · cases h
  | iastore =>
    obtain rfl : len = 1 := by simpa [lenOk] using hlen
    simp only [xI] at h
    split at h
    · rename_i x j o S0
      obtain ⟨S1, rfl, h1⟩ := hS.int
      obtain ⟨S2, rfl, h2⟩ := h1.int
      obtain ⟨ad, S3, g1, rfl, h3⟩ := h2.ref
      split at h
      · rename_i B hc0
        split at h
        · rename_i enr
          obtain ⟨B', q, e1⟩ := Option.map_eq_some_iff.mp h
          cases e1
          obtain ⟨hj, hlt, rfl⟩ := wrA_spec q
          obtain ⟨ad', g2, cl, Ar, z1, z2, z3⟩ := hH.at hc0
          rw [g1] at g2; cases g2
          have hin : ¬ (j < 0 ∨ cl.slots.size ≤ j.toNatClampNeg) := by
            rintro (y | y)
            · exact hj y
            · omega
          obtain ⟨T2, h2', X2, e2, W2, st2⟩ := stI X hx hZ rfl Ar (j := j) (x := x) hin (g := mkF m pc A _) rfl rfl hd
          exact Nxt.mem X2 rfl hL h3 (by rw [e2]; exact hH.wrI g1 hc0 W2) (Fr.snoc X2 hF (hH.2.2.2.1 _ _ g1 enr)) st2
        · cases h
      · cases h
    · cases h
  | bastore =>
    obtain rfl : len = 1 := by simpa [lenOk] using hlen
    simp only [xI] at h
    split at h
    · rename_i x j o S0
      obtain ⟨S1, rfl, h1⟩ := hS.int
      obtain ⟨S2, rfl, h2⟩ := h1.int
      obtain ⟨ad, S3, g1, rfl, h3⟩ := h2.ref
      split at h
      · rename_i B hc0
        split at h
        · rename_i enr
          obtain ⟨B', q, e1⟩ := Option.map_eq_some_iff.mp h
          cases e1
          obtain ⟨hj, hlt, rfl⟩ := wrA_spec q
          obtain ⟨ad', g2, cl, Ar, z1, z2, z3⟩ := hH.at hc0
          rw [g1] at g2; cases g2
          have hin : ¬ (j < 0 ∨ cl.slots.size ≤ j.toNatClampNeg) := by
            rintro (y | y)
            · exact hj y
            · omega
          obtain ⟨T2, h2', X2, e2, W2, st2⟩ := stZ X hx hZ rfl Ar (j := j) (x := x) hin (g := mkF m pc A _) rfl rfl hd
          exact Nxt.mem X2 rfl hL h3 (by rw [e2]; exact hH.wrI g1 hc0 W2) (Fr.snoc X2 hF (hH.2.2.2.1 _ _ g1 enr)) st2
        · cases h
      · cases h
    · cases h
  | lastore =>
    obtain rfl : len = 1 := by simpa [lenOk] using hlen
    simp only [xI] at h
    split at h
    · rename_i x j o S0
      obtain ⟨S1, rfl, h1⟩ := hS.long
      obtain ⟨S2, rfl, h2⟩ := h1.int
      obtain ⟨ad, S3, g1, rfl, h3⟩ := h2.ref
      split at h
      · rename_i B hc0
        split at h
        · rename_i enr
          obtain ⟨B', q, e1⟩ := Option.map_eq_some_iff.mp h
          cases e1
          obtain ⟨hj, hlt, rfl⟩ := wrA_spec q
          obtain ⟨ad', g2, cl, Ar, z1, z2, z3⟩ := hH.at hc0
          rw [g1] at g2; cases g2
          have hin : ¬ (j < 0 ∨ cl.slots.size ≤ j.toNatClampNeg) := by
            rintro (y | y)
            · exact hj y
            · omega
          obtain ⟨T2, h2', X2, e2, W2, st2⟩ := stJ X hx hZ rfl Ar (j := j) (x := x) hin (g := mkF m pc A _) rfl rfl hd
          exact Nxt.mem X2 rfl hL h3 (by rw [e2]; exact hH.wrJ g1 hc0 W2) (Fr.snoc X2 hF (hH.2.2.2.1 _ _ g1 enr)) st2
        · cases h
      · cases h
    · cases h
  | arraylength =>
    obtain rfl : len = 1 := by simpa [lenOk] using hlen
    simp only [xI] at h
    split at h
    · rename_i o S0
      obtain ⟨ad, S1, g1, rfl, h1⟩ := hS.ref
      split at h
      · rename_i bb B hc0
        cases h
        obtain ⟨ad', g2, cl, Ar, z1, z2, z3⟩ := hH.at hc0
        rw [g1] at g2; cases g2
        exact Nxt.pure X rfl hL ⟨_, _, rfl, rfl, h1⟩ hH hF (fun t z => X.arraylength hx (cell := cl) Ar.1 (State.isArrayOf_alike hZ.alike Ar.2.1) (g := mkF m pc A _) rfl rfl hd t (by rw [z1]; exact z))
      · cases h
    · cases h
  | _ => simp [xI] at h
set_option maxHeartbeats 4000000 in
theorem stepN (X : Stand p l e R s m args below meth c T locs cells slots) (hx : p.tables.exec = Jvm.exec) (hZ : Z.Warmed39 s.vm) (hown : s.vm.findClass d.name.cls = some m.cls) (hP : chk P = true) (hW : ∀ w ∈ wordsOf P, w.before a0 Z = true) (hdm : d ∈ P.mth)
    {pc len a ks : Nat} {er : List Bool} {b : Int} {i : Instr} (hit : (pc, i, len, er, a, b) ∈ d.code) (hd : decode c.code pc = .ok (i, len)) (hlen : lenOk i len = true) {ρ : List Addr} {S S' Sc : List Value} {H H1 : AHeap} {A : Array Slot}
    (hS : SR ρ S Sc) (hH : HR P Z n0 T.heap ρ H) (h : xN P i a S H = some (S', H1, ks)) (hc : cells + 1 ≤ R.cells) (hl : slots + ks ≤ R.slots) :
    ∃ T' ad Sc', Stand p l e R s m args below meth c T' locs (cells + 1) (slots + ks) ∧ SR (ρ ++ [ad]) S' Sc' ∧ HR P Z n0 T'.heap (ρ ++ [ad]) H1 ∧
      ∀ target, Steps p.tables e below (T'.setTop (mkF m (pc + len) A Sc')) target → Steps p.tables e below (T.setTop (mkF m pc A Sc)) target := by
  have hWi : ∀ w ∈ iWords P d (pc, i, len, er, a, b), w.before a0 Z = true := fun w q => hW w (in_wordsOf hdm hit q)
  cases i with
  | new k =>
    obtain rfl : len = 3 := by simpa [lenOk] using hlen
    simp only [xN] at h
    split at h
    · rename_i cd q1
      cases h
      have hcm : cd ∈ P.cls := List.mem_of_getElem? q1
      have w1 := hWi (.classLink d.name.cls k cd.1) (by simp only [iWords, q1]; exact List.mem_singleton.mpr rfl)
      have w2 := hW (.instantiable cd.1 cd.2.1) (in_wordsC hcm (List.mem_cons_self ..))
      have w3 := hW (.initialized cd.1) (in_wordsC hcm (List.mem_cons_of_mem _ (List.mem_cons_self ..)))
      obtain ⟨T2, h2, X2, e2, E2, A2, D2, -, st2⟩ := newO X hx hZ hown w1 w2 w3 rfl (g := mkF m pc A Sc) rfl hd hc hl
      have hck := cChk_of hP hcm
      simp only [cChk, Bool.and_eq_true, List.all_eq_true] at hck
      have hcr : CR P Z h2 (ρ ++ [T.heap.size]) T.heap.size (.inl (a, cd.2.2.map fun f => dflt f.2.2.1)) := by
        refine ⟨cd, q1, A2, by simp, fun j v fd y1 y2 => ?_⟩
        rw [List.getElem?_map, y2] at y1
        cases y1
        have f1 := hck.2 _ (List.mem_of_getElem? y2)
        simp only [fChk, Bool.and_eq_true, decide_eq_true_eq] at f1
        exact ⟨_, dflt_sim f1.2, D2 (laid_of (hW _ (in_wordsC hcm (fWord_in (List.mem_of_getElem? y2))))) f1.1⟩
      refine ⟨T2, T.heap.size, _, X2, ⟨_, _, rfl, ⟨T.heap.size, ?_, rfl⟩, hS.mono⟩, (by rw [e2]; exact hH.push E2 hcr), st2⟩
      rw [← hH.2.1]; simp
    · cases h
  | newarray t =>
    obtain rfl : len = 2 := by simpa [lenOk] using hlen
    simp only [xN] at h
    split at h
    · rename_i n S0
      obtain ⟨S1, rfl, h1⟩ := hS.int
      split at h
      · cases h
      · rename_i hn
        have hn1 : ¬ n < 0 := fun z => hn (Or.inl z)
        have hn2 : n.toNatClampNeg ≤ 100000 := Nat.le_of_not_lt fun z => hn (Or.inr z)
        have w1 := hWi (.arrayClass (newarray.typeOf t)) (List.mem_singleton.mpr rfl)
        have top : (ρ ++ [T.heap.size])[H.length]? = some T.heap.size := by rw [← hH.2.1]; simp
        split at h
        · cases h
          obtain ⟨T2, h2, cA, X2, e2, E2, A2, st2⟩ := newP X hx hZ w1 rfl (g := mkF m pc A _) rfl hd rfl hn1 (cap := n.toNatClampNeg) (Nat.le_refl _) (by omega) hc hl
          have hcr : CR P Z h2 (ρ ++ [T.heap.size]) T.heap.size ((.inr (.inl (false, List.replicate n.toNatClampNeg 0)) : ACell)) := by
            refine ⟨_, A2, by simp [sz_new], by simp; omega, fun j x y => ?_⟩
            rw [List.getElem?_replicate] at y
            split at y
            · rename_i lt
              cases y
              simp [newA, lt, newarray.typeOf, defaultValue]
            · cases y
          exact ⟨T2, T.heap.size, _, X2, ⟨_, _, rfl, ⟨T.heap.size, top, rfl⟩, h1.mono⟩, (by rw [e2]; exact hH.push E2 hcr), st2⟩
        · cases h
          obtain ⟨T2, h2, cA, X2, e2, E2, A2, st2⟩ := newP X hx hZ w1 rfl (g := mkF m pc A _) rfl hd rfl hn1 (cap := n.toNatClampNeg) (Nat.le_refl _) (by omega) hc hl
          have hcr : CR P Z h2 (ρ ++ [T.heap.size]) T.heap.size ((.inr (.inl (true, List.replicate n.toNatClampNeg 0)) : ACell)) := by
            refine ⟨_, A2, by simp [sz_new], by simp; omega, fun j x y => ?_⟩
            rw [List.getElem?_replicate] at y
            split at y
            · rename_i lt
              cases y
              simp [newA, lt, newarray.typeOf, defaultValue]
            · cases y
          exact ⟨T2, T.heap.size, _, X2, ⟨_, _, rfl, ⟨T.heap.size, top, rfl⟩, h1.mono⟩, (by rw [e2]; exact hH.push E2 hcr), st2⟩
        · cases h
          obtain ⟨T2, h2, cA, X2, e2, E2, A2, st2⟩ := newP X hx hZ w1 rfl (g := mkF m pc A _) rfl hd rfl hn1 (cap := n.toNatClampNeg) (Nat.le_refl _) (by omega) hc hl
          have hcr : CR P Z h2 (ρ ++ [T.heap.size]) T.heap.size ((.inr (.inr (List.replicate n.toNatClampNeg 0)) : ACell)) := by
            refine ⟨_, A2, by simp [sz_new], by simp; omega, fun j x y => ?_⟩
            rw [List.getElem?_replicate] at y
            split at y
            · rename_i lt
              cases y
              simp [newA, lt, newarray.typeOf, defaultValue]
            · cases y
          exact ⟨T2, T.heap.size, _, X2, ⟨_, _, rfl, ⟨T.heap.size, top, rfl⟩, h1.mono⟩, (by rw [e2]; exact hH.push E2 hcr), st2⟩
        · cases h
    · cases h
  | _ => simp [xN] at h
end Step
end Jvm.Own
namespace Jvm.Own
open Jvm Jvm.ClassFile Sem Op Lib Jvm.Free Jvm.Stand Jvm.LawKit Jvm.RoadKit Bundle
theorem fetch_mem : ∀ {l : List (Nat × It)} {pc : Nat} {i : It}, fetch l pc = some i → (pc, i) ∈ l
  | [], _, _, h => by simp [fetch] at h
  | (q, j) :: r, pc, i, h => by
    unfold fetch at h
    split at h
    · rename_i e; cases h; subst e; exact List.mem_cons_self ..
    · exact List.mem_cons_of_mem _ (fetch_mem h)
theorem tgt_spec {pc q : Nat} {o : Int} (h : tgt pc o = some q) : 0 ≤ (pc : Int) + o ∧ ((pc : Int) + o).toNat = q := by
  unfold tgt at h
  split at h
  · rename_i z; cases h; exact ⟨z, rfl⟩
  · cases h
/-- the end of a method's run -/
def Done (P : PD) (Z : State) (n0 : Nat) (p : Program) (e : Env) (below : List Frame) (s : State) (ρ : List Addr) (v : Option Value) (H' : AHeap) (kc ks : Nat) (t0 : State) : Prop :=
  ∃ s₂ v' L' t, Steps p.tables e below t0 s₂ ∧ s₂.status = .running ∧ Ended s₂ below (.returned v') ∧ OV (ρ ++ t) v v' ∧ HR P Z n0 s₂.heap (ρ ++ t) H' ∧ Fr n0 L' ∧ FrameEnd s (.returned v') s₂ L' kc ks
def Cx (P : PD) (Z : State) (p : Program) (R : Room) (s : State) (m : MethodId) (meth : Method) (c : Code) (d : MD) : Prop :=
  p.tables.exec = Jvm.exec ∧ Z.Warmed39 s.vm ∧ c.code = d.bytes ∧ c.maxLocals = d.maxL ∧ s.vm.findClass d.name.cls = some m.cls ∧ meth.name = d.name.name ∧ meth.sig.returnType = d.ret ∧ meth.locks = false ∧ d.rf ≤ R.frames ∧ d.rw ≤ R.locals
/-- what the machine says of a run that has come to pc is what the model does -/
def Says (P : PD) (Z : State) (n0 : Nat) (l : Launch) (n : Nat) : Prop :=
  ∀ (mi pc : Nat) (L : List Slot) (S : List Value) (H : AHeap) (v : Option Value) (H' : AHeap) (kc ks : Nat), exe P n mi pc L S H = some (v, H', kc, ks) → ∀ d, P.mth[mi]? = some d →
    ∀ (p : Program) (e : Env) (R : Room) (s : State) (m : MethodId) (args : Array Value) (below : List Frame) (meth : Method) (c : Code) (T : State) (locs : List Loc) (cells slots : Nat),
      Stand p l e R s m args below meth c T locs cells slots → Cx P Z p R s m meth c d → cells + kc ≤ R.cells → slots + ks ≤ R.slots →
      ∀ (ρ : List Addr) (A : Array Slot) (Sc : List Value), LR ρ L A → L.length = d.maxL → SR ρ S Sc → HR P Z n0 T.heap ρ H → Fr n0 locs →
        Done P Z n0 p e below s ρ v H' (cells + kc) (slots + ks) (T.setTop (mkF m pc A Sc))
def QQ (P : PD) (Z : State) (n0 : Nat) (ρ : List Addr) (v : Option Value) (H1 : AHeap) (v' : Option Value) (h' : Heap) (L : List Loc) : Prop := Fr n0 L ∧ ∃ t, OV (ρ ++ t) v v' ∧ HR P Z n0 h' (ρ ++ t) H1
theorem met_of {P : PD} {Z : State} {n0 : Nat} {l : Launch} {n : Nat} (ih : Says P Z n0 l n) {j : Nat} {y : MD} (hy : P.mth[j]? = some y) (hpn : plainName y.name.cls = true) {as ws : List Value} {H H1 : AHeap} {v : Option Value} {kc ks : Nat} (he : exe P n j 0 (entL as y.maxL) [] H = some (v, H1, kc, ks)) {ρ : List Addr} (hS : SR ρ as ws) (hlen : (entA as).length ≤ y.maxL) {h : Heap} (hH : HR P Z n0 h ρ H) (w0 : List Jvm.Cond) (rm : Room) (r1 : y.rf ≤ rm.frames) (r2 : y.rw ≤ rm.locals) (r3 : kc ≤ rm.cells) (r4 : ks ≤ rm.slots) :
    MetFree l y.name (head1 (Jvm.Cond.code y.name y.bytes y.maxL y.ret :: w0) rm) (fun a U => a = ws.toArray ∧ Z.Warmed39 U.vm ∧ U.heap = h) (fun _ _ _ _ _ => True)
      (fun _ U o U' => ∃ v' L, o = .returned v' ∧ QQ P Z n0 ρ v H1 v' U'.heap L ∧ FrameEnd U o U' L kc ks) := by
  refine MetFree.of_bodySF (plainFor_of_name hpn) hisR ?_
  intro p e s m args below meth c s₁ Bd hml0 hP hK
  obtain ⟨rfl, hZ, hh⟩ := hP
  have X0 : Stand p l e rm s m ws.toArray below meth c s₁ [] 0 0 := Stand.of_body Bd
  have e0 : s₁.heap = h := by rw [← hh, Bd.state]; rfl
  obtain ⟨hL, hsz⟩ := LR.enter hS hlen
  have hLl : (entL as y.maxL).length = y.maxL := by rw [← hL.1]; exact hsz
  obtain ⟨s₂, v', L', t, h1, h2, h3, h4, h5, h6, h7⟩ := ih j 0 _ [] H v H1 kc ks he y hy p e _ s m ws.toArray below meth c s₁ [] 0 0 X0
    ⟨Bd.exec, hZ, Bd.bytes, hml0, findClass_of_methodNamed Bd.named, (name_of_methodNamed Bd.named Bd.method).1, Bd.returns, BodyLoose.notSynchronized Bd, r1, r2⟩
    (by rw [Nat.zero_add]; exact r3) (by rw [Nat.zero_add]; exact r4) ρ _ [] hL hLl rfl (by rw [e0]; exact hH) (Fr.nil n0)
  refine ⟨s₂, _, h1, h2, h3, v', L', rfl, ⟨h6, t, h4, h5⟩, ?_⟩
  rw [Nat.zero_add, Nat.zero_add] at h7
  exact h7
section Sound
variable {P : PD} {Z : State} {n0 : Nat} {a0 : Array Value} {l : Launch}
theorem Done.step {p : Program} {e : Env} {below : List Frame} {s : State} {ρ t : List Addr} {v : Option Value} {H' : AHeap} {kc ks : Nat} {t0 t1 : State} (h : Done P Z n0 p e below s (ρ ++ t) v H' kc ks t1) (k : ∀ target, Steps p.tables e below t1 target → Steps p.tables e below t0 target) : Done P Z n0 p e below s ρ v H' kc ks t0 := by
  obtain ⟨s₂, v', L', t', h1, h2, h3, h4, h5, h6, h7⟩ := h
  exact ⟨s₂, v', L', t ++ t', k _ h1, h2, h3, by rw [← List.append_assoc]; exact h4, by rw [← List.append_assoc]; exact h5, h6, h7⟩
theorem argsOf_spec {n : Nat} {S as rest : List Value} (h : argsOf n S = some (as, rest)) : n ≤ S.length ∧ as = (S.take n).reverse ∧ rest = S.drop n := by
  unfold argsOf at h
  split at h
  · rename_i z; cases h; exact ⟨z, rfl, rfl⟩
  · cases h
theorem res_ext {α : Type} {o : Option Res} {v : Option Value} {H' : AHeap} {kc ks c1 s1 : Nat} (h : (o.map fun r => addR r c1 s1) = some (v, H', kc, ks)) : ∃ kc' ks', o = some (v, H', kc', ks') ∧ kc = kc' + c1 ∧ ks = ks' + s1 := by
  obtain ⟨⟨v0, H0, c0, s0⟩, h1, h2⟩ := Option.map_eq_some_iff.mp h
  simp only [addR] at h2
  cases h2
  exact ⟨c0, s0, h1, rfl, rfl⟩
set_option maxHeartbeats 4000000 in
theorem sound (hP : chk P = true) (hW : ∀ w ∈ wordsOf P, w.before a0 Z = true) : ∀ n, Says P Z n0 l n
  | 0 => fun mi pc L S H v H' kc ks h => by simp [exe] at h
  | n + 1 => by
    have ih := sound hP hW n
    intro mi pc L S H v H' kc ks h d hmi
    unfold exe at h
    rw [hmi] at h
    simp only at h
    have hdm : d ∈ P.mth := List.mem_of_getElem? hmi
    split at h
    · cases h
    rename_i it i len er a b hft
    have hit := fetch_mem hft
    have hmc := mChk_of hP hdm
    simp only [mChk, Bool.and_eq_true] at hmc
    obtain ⟨⟨⟨⟨⟨⟨mc1, mc2⟩, mc3⟩, mc4⟩, mc5⟩, mc6⟩, mc7⟩ := hmc
    unfold codeChk at mc3
    rw [List.all_eq_true] at mc3
    have hci := mc3 _ hit
    simp only [Bool.and_eq_true, decide_eq_true_eq] at hci
    obtain ⟨hdec, hlenOk⟩ := hci
    -- a jump, or a fall through
    have jump : ∀ (q : Nat) (S1 : List Value) (h1 : exe P n mi q (forget er L) S1 H = some (v, H', kc, ks)),
        (∀ (p : Program) (e : Env) (R : Room) (s : State) (m : MethodId) (args : Array Value) (below : List Frame) (meth : Method) (c : Code) (T : State) (locs : List Loc) (cells slots : Nat),
          Stand p l e R s m args below meth c T locs cells slots → Cx P Z p R s m meth c d → ∀ (ρ : List Addr) (A : Array Slot) (Sc : List Value), LR ρ L A → SR ρ S Sc → ∃ Sc1, SR ρ S1 Sc1 ∧ ∀ target, Steps p.tables e below (T.setTop (mkF m q A Sc1)) target → Steps p.tables e below (T.setTop (mkF m pc A Sc)) target) →
        ∀ (p : Program) (e : Env) (R : Room) (s : State) (m : MethodId) (args : Array Value) (below : List Frame) (meth : Method) (c : Code) (T : State) (locs : List Loc) (cells slots : Nat),
          Stand p l e R s m args below meth c T locs cells slots → Cx P Z p R s m meth c d → cells + kc ≤ R.cells → slots + ks ≤ R.slots →
          ∀ (ρ : List Addr) (A : Array Slot) (Sc : List Value), LR ρ L A → L.length = d.maxL → SR ρ S Sc → HR P Z n0 T.heap ρ H → Fr n0 locs →
            Done P Z n0 p e below s ρ v H' (cells + kc) (slots + ks) (T.setTop (mkF m pc A Sc)) := by
      intro q S1 h1 st p e R s m args below meth c T locs cells slots X cx k1 k2 ρ A Sc hL hLl hS hH hF
      obtain ⟨Sc1, hS1, st1⟩ := st p e R s m args below meth c T locs cells slots X cx ρ A Sc hL hS
      have := ih mi q _ S1 H v H' kc ks h1 d hmi p e R s m args below meth c T locs cells slots X cx k1 k2 ρ A Sc1 (hL.forget er) (by rw [forget_len]; exact hLl) hS1 hH hF
      exact Done.step (t := []) (by rw [List.append_nil]; exact this) st1
    have dec : ∀ {c : Code}, c.code = d.bytes → decode c.code pc = .ok (i, len) := fun hc => by rw [hc]; exact hdec
    split at h
    · -- goto
      rename_i o
      split at h
      · rename_i q hq
        obtain ⟨t1, t2⟩ := tgt_spec hq
        have m3 := jump q S h
        obtain rfl : len = 3 := by simpa [lenOk] using hlenOk
        exact m3 fun p e R s m args below meth c T locs cells slots X cx ρ A Sc hL hS => ⟨Sc, hS, fun t z => XS.goto (g := mkF m pc A Sc) X.here cx.1 rfl (pc0 := pc) (pc' := q) rfl (dec cx.2.2.1) t1 t2 z⟩
      · cases h
    · -- if_icmp
      rename_i cd o
      split at h
      · rename_i y x S1
        obtain rfl : len = 3 := by simpa [lenOk] using hlenOk
        split at h
        · rename_i hc
          split at h
          · rename_i q hq
            obtain ⟨t1, t2⟩ := tgt_spec hq
            have m3 := jump q S1 h
            exact m3 fun p e R s m args below meth c T locs cells slots X cx ρ A Sc hL hS => by
              obtain ⟨Sa, rfl, ha⟩ := hS.int
              obtain ⟨Sb, rfl, hb⟩ := ha.int
              exact ⟨Sb, hb, fun t z => XS.icmpYes (g := mkF m pc A _) X.here cx.1 rfl (pc0 := pc) (pc' := q) rfl (dec cx.2.2.1) rfl hc t1 t2 z⟩
          · cases h
        · rename_i hc
          have m3 := jump (pc + 3) S1 h
          exact m3 fun p e R s m args below meth c T locs cells slots X cx ρ A Sc hL hS => by
            obtain ⟨Sa, rfl, ha⟩ := hS.int
            obtain ⟨Sb, rfl, hb⟩ := ha.int
            exact ⟨Sb, hb, fun t z => XS.icmpNo (g := mkF m pc A _) X.here cx.1 rfl (dec cx.2.2.1) rfl (by simpa using hc) z⟩
      · cases h
    · -- ifCond
      rename_i cd o
      split at h
      · rename_i x S1
        obtain rfl : len = 3 := by simpa [lenOk] using hlenOk
        split at h
        · rename_i hc
          split at h
          · rename_i q hq
            obtain ⟨t1, t2⟩ := tgt_spec hq
            have m3 := jump q S1 h
            exact m3 fun p e R s m args below meth c T locs cells slots X cx ρ A Sc hL hS => by
              obtain ⟨Sa, rfl, ha⟩ := hS.int
              exact ⟨Sa, ha, fun t z => XS.ifYes (g := mkF m pc A _) X.here cx.1 rfl (pc0 := pc) (pc' := q) rfl (dec cx.2.2.1) rfl hc t1 t2 z⟩
          · cases h
        · rename_i hc
          have m3 := jump (pc + 3) S1 h
          exact m3 fun p e R s m args below meth c T locs cells slots X cx ρ A Sc hL hS => by
            obtain ⟨Sa, rfl, ha⟩ := hS.int
            exact ⟨Sa, ha, fun t z => XS.ifNo (g := mkF m pc A _) X.here cx.1 rfl (dec cx.2.2.1) rfl (by simpa using hc) z⟩
      · cases h
    · -- ifnonnull
      rename_i o
      split at h
      · rename_i x S1
        split at h
        · rename_i q hq
          obtain ⟨t1, t2⟩ := tgt_spec hq
          have m3 := jump q S1 h
          obtain rfl : len = 3 := by simpa [lenOk] using hlenOk
          exact m3 fun p e R s m args below meth c T locs cells slots X cx ρ A Sc hL hS => by
            obtain ⟨ad, Sa, -, rfl, ha⟩ := hS.ref
            exact ⟨Sa, ha, fun t z => XT.ifnonnullYes (g := mkF m pc A _) X.here cx.1 rfl (pc0 := pc) (pc' := q) rfl (dec cx.2.2.1) rfl t1 t2 z⟩
        · cases h
      · cases h
    · -- ireturn
      split at h
      · rename_i x
        split at h
        · rename_i v0 hv0
          cases h
          obtain rfl : len = 1 := by simpa [lenOk] using hlenOk
          intro p e R s m args below meth c T locs cells slots X cx k1 k2 ρ A Sc hL hLl hS hH hF
          obtain ⟨hx, hZ, hby, hml, hown, hnm, hret, hlk, -, -⟩ := cx
          obtain ⟨Sa, rfl, ha⟩ := hS.int
          unfold retV at hv0
          split at hv0
          · rename_i hr0
            cases hv0
            obtain ⟨fs, hr, hrun, hended, hWm, hsame⟩ := X.leave (v := some (.int x)) (fun q => by rw [hret, hr0] at q; cases q) hlk
            exact ⟨_, _, locs, [], retI X hx (by rw [hret, hr0]) (dec hby) hr, hrun, hended, ⟨_, rfl, rfl⟩, by rw [List.append_nil]; exact hH, hF, ⟨_, rfl⟩, hWm, hsame⟩
          · rename_i hr0
            cases hv0
            obtain ⟨fs, hr, hrun, hended, hWm, hsame⟩ := X.leave (v := some (.int (x &&& 1))) (fun q => by rw [hret, hr0] at q; cases q) hlk
            exact ⟨_, _, locs, [], retN X hx (t := .boolean) (by rw [hret, hr0]) (by simp) (dec hby) hr, hrun, hended, ⟨_, rfl, rfl⟩, by rw [List.append_nil]; exact hH, hF, ⟨_, rfl⟩, hWm, hsame⟩
          · cases hv0
        · cases h
      · cases h
    · -- lreturn
      split at h
      · rename_i x
        split at h
        · rename_i hr0
          cases h
          obtain rfl : len = 1 := by simpa [lenOk] using hlenOk
          intro p e R s m args below meth c T locs cells slots X cx k1 k2 ρ A Sc hL hLl hS hH hF
          obtain ⟨hx, hZ, hby, hml, hown, hnm, hret, hlk, -, -⟩ := cx
          obtain ⟨Sa, rfl, ha⟩ := hS.long
          obtain rfl : Sa = [] := ha
          obtain ⟨fs, hr, hrun, hended, hWm, hsame⟩ := X.leave (v := some (.long x)) (fun q => by rw [hret, hr0] at q; cases q) hlk
          exact ⟨_, _, locs, [], X.lreturnOut hx (by rw [hret, hr0]) (dec hby) hr, hrun, hended, ⟨_, rfl, rfl⟩, by rw [List.append_nil]; exact hH, hF, ⟨_, rfl⟩, hWm, hsame⟩
        · cases h
      · cases h
    · -- return
      split at h
      · split at h
        · rename_i hr0
          cases h
          obtain rfl : len = 1 := by simpa [lenOk] using hlenOk
          intro p e R s m args below meth c T locs cells slots X cx k1 k2 ρ A Sc hL hLl hS hH hF
          obtain ⟨hx, hZ, hby, hml, hown, hnm, hret, hlk, -, -⟩ := cx
          obtain rfl : Sc = [] := hS
          obtain ⟨fs, hr, hrun, hended, hWm, hsame⟩ := X.leave (v := none) (fun _ => rfl) hlk
          exact ⟨_, _, locs, [], X.returnOut hx (by rw [hret, hr0]) (dec hby) hr, hrun, hended, rfl, by rw [List.append_nil]; exact hH, hF, ⟨_, rfl⟩, hWm, hsame⟩
        · cases h
      · cases h
    · -- a call, or a plain step
      split at h
      · rename_i hinv
        split at h
        · -- Object.<init>
          rename_i hb1
          subst hb1
          have hk : ∃ k x S1, i = .invokespecial k ∧ S = .ref x :: S1 ∧ (if 1 ≤ d.rf ∧ catSum S1 + 12 ≤ d.rw then exe P n mi (pc + 3) (forget er L) S1 H else none) = some (v, H', kc, ks) := by
            split at h
            · exact ⟨_, _, _, rfl, rfl, h⟩
            · cases h
          clear h
          obtain ⟨k, x, S1, rfl, rfl, h⟩ := hk
          · split at h
            · rename_i hroom
              have m3 := ih mi (pc + 3) _ S1 H v H' kc ks h d hmi
              obtain rfl : len = 3 := by simpa [lenOk] using hlenOk
              have hWi : ∀ w ∈ iWords P d (pc, .invokespecial k, 3, er, a, -1), w.before a0 Z = true := fun w q => hW w (in_wordsOf hdm hit q)
              have hWi' : ∀ w ∈ [Jvm.Cond.methodLink d.name.cls k Lib.objectInit, .instanceMethod Lib.objectInit, .code Lib.objectInit ⟨#[0xb1]⟩ 1 none], w.before a0 Z = true := hWi
              intro p e R s m args below meth c T locs cells slots X cx k1 k2 ρ A Sc hL hLl hS hH hF
              have cx0 := cx
              obtain ⟨hx, hZ, hby, hml, hown, hnm, hret, hlk, hrf, hrw⟩ := cx
              obtain ⟨ad, Sa, -, rfl, ha⟩ := hS.ref
              obtain ⟨T2, X2, e2, st2⟩ := initO X hx hZ hown (hWi' _ (by simp)) (hWi' _ (by simp)) (hWi' _ (by simp)) rfl (g := mkF m pc A (.ref ad :: Sa)) rfl (by rw [hml]; exact hL.1.trans hLl) rfl (dec hby) (by omega) (W := catSum S1) (by show 2 * 0 + _ ≤ _; rw [ha.cat]; omega) (by omega)
              have := m3 p e R s m args below meth c T2 locs cells slots X2 cx0 k1 k2 ρ A Sa (hL.forget er) (by rw [forget_len]; exact hLl) ha (by rw [e2]; exact hH) hF
              exact Done.step (t := []) (by rw [List.append_nil]; exact this) st2
            · cases h
        · rename_i hb1
          split at h
          · cases h
          rename_i y hy
          split at h
          · cases h
          rename_i as rest hao
          split at h
          · rename_i hcond
            simp only [Bool.and_eq_true, decide_eq_true_eq] at hcond
            obtain ⟨⟨⟨⟨hj, hik⟩, hrecv⟩, hroom⟩, hent⟩ := hcond
            split at h
            · rename_i v1 H1 c1 s1 hcal
              obtain ⟨c0, s0, hcon, rfl, rfl⟩ := res_ext (α := Unit) h
              have m3 := ih mi (pc + 3) _ _ H1 v H' c0 s0 hcon d hmi
              intro p e R s m args below meth c T locs cells slots X cx k1 k2 ρ A Sc hL hLl hS hH hF
              have cx0 := cx
              obtain ⟨hx, hZ, hby, hml, hown, hnm, hret, hlk, hrf, hrw⟩ := cx
              have hym : y ∈ P.mth := List.mem_of_getElem? hy
              have hyc := mChk_of hP hym
              simp only [mChk, Bool.and_eq_true, decide_eq_true_eq] at hyc
              obtain ⟨⟨⟨⟨⟨⟨yc1, yc2⟩, yc3⟩, yc4⟩, yc5⟩, yc6⟩, yc7⟩ := hyc
              simp only [fitsRoom, Bool.and_eq_true, decide_eq_true_eq] at hroom
              obtain ⟨hn, has, hrest⟩ := argsOf_spec hao
              have hnc : nargs y ≤ Sc.length := by rw [hS.len]; exact hn
              have hSa : SR ρ as (Sc.take (nargs y)).reverse := by rw [has]; exact (hS.take _).rev
              have hSr : SR ρ rest (Sc.drop (nargs y)) := by rw [hrest]; exact hS.drop _
              have hsplit : Sc = (Sc.take (nargs y)).reverse.reverse ++ Sc.drop (nargs y) := by rw [List.reverse_reverse, List.take_append_drop]
              obtain ⟨ws, hws⟩ : ∃ ws, ws = (Sc.take (nargs y)).reverse := ⟨_, rfl⟩
              obtain ⟨rc, hrc⟩ : ∃ rc, rc = Sc.drop (nargs y) := ⟨_, rfl⟩
              have hwl : ws.length = nargs y := by rw [hws]; simp; omega
              rw [← hws] at hSa hsplit
              rw [← hrc] at hSr hsplit
              have wcode := hW (.code y.name y.bytes y.maxL y.ret) (in_wordsM hy hj (List.mem_cons_self ..))
              have winit := hW (.initialized y.name.cls) (in_wordsM hy hj (List.mem_cons_of_mem _ (List.mem_cons_self ..)))
              have wmore : ∀ w ∈ (if y.kind = 0 then [Jvm.Cond.static y.name] else if y.kind = 1 then [.instanceMethod y.name] else if y.kind = 2 then [.instanceMethod y.name, .privateMethod y.name] else [.declares y.name, .selects y.name.cls y.name y.name, .instanceMethod y.name]), w.before a0 Z = true := fun w q => hW w (in_wordsM hy hj (List.mem_cons_of_mem _ (List.mem_cons_of_mem _ q)))
              have hMH : y.name.cls ≠ "java/lang/invoke/MethodHandle" ∧ y.name.cls ≠ "java/lang/invoke/VarHandle" := ⟨yc5, yc6⟩
              have back := backOf (W := catSum rest) (len := 3) (R := R) (p := p) (e := e) (below := below) (s := s) (args := args) (met_of ih hy yc1 hcal hSa hent hH [] ({ frames := y.rf, cells := c1, slots := s1, locals := y.rw } : Room) (Nat.le_refl _) (Nat.le_refl _) (Nat.le_refl _) (Nat.le_refl _)) hZ wcode winit (by show y.rf + 1 ≤ _; omega) (by show _ + y.rw ≤ _; omega)
              have hWW : 2 * (mkF m pc A Sc).monitorRoom + (rc.map fun v => v.category).sum ≤ catSum rest := by show 2 * 0 + _ ≤ _; rw [hSr.cat]; omega
              have hpar : ∀ sig, parseMethodDescriptor y.name.desc = some sig → sig.parameters.length = y.npar := fun sig q => by
                unfold sigChk at yc2
                rw [q] at yc2
                simpa using yc2
              have fin : ∀ (v1' : Option Value) (T2 : State) (Lc : List Loc), Stand p l e R s m args below meth c T2 (locs ++ Lc) (cells + c1) (slots + s1) → QQ P Z n0 ρ v1 H1 v1' T2.heap Lc →
                  (∀ target, Steps p.tables e below (T2.setTop (mkF m (pc + 3) A (v1'.toList ++ rc))) target → Steps p.tables e below (T.setTop (mkF m pc A Sc)) target) →
                  Done P Z n0 p e below s ρ v H' (cells + (c0 + c1)) (slots + (s0 + s1)) (T.setTop (mkF m pc A Sc)) := by
                intro v1' T2 Lc X2 hq st2
                obtain ⟨hF2, t, hov, hH2⟩ := hq
                have := m3 p e R s m args below meth c T2 (locs ++ Lc) _ _ X2 cx0 (by omega) (by omega) (ρ ++ t) A (v1'.toList ++ rc) (hL.forget er).mono (by rw [forget_len]; exact hLl) (hov.list.app hSr.mono) hH2 (hF.app hF2)
                have q1 : cells + c1 + c0 = cells + (c0 + c1) := by omega
                have q2 : slots + s1 + s0 = slots + (s0 + s1) := by omega
                rw [q1, q2] at this
                exact this.step st2
              have hcR : cells + c1 ≤ R.cells := by omega
              have hsR : slots + s1 ≤ R.slots := by omega
              cases i with
              | invokestatic k =>
                obtain rfl : len = 3 := by simpa [lenOk] using hlenOk
                have hk0 : y.kind = 0 := by simpa [invKind] using hik
                have wl := hW (.methodLink d.name.cls k y.name) (in_wordsOf hdm hit (by show _ ∈ mLink P d k a b; unfold mLink; rw [if_neg hb1, hy]; exact List.mem_singleton.mpr rfl))
                have wst := wmore (.static y.name) (by rw [if_pos hk0]; exact List.mem_singleton.mpr rfl)
                have hna : nargs y = y.npar := by simp [nargs, hk0]
                obtain ⟨v1', _, ⟨T2, L2, k2', n2⟩, -, X2, ⟨Lc, hQ, l2, y2, z2⟩, st2⟩ := Jvm.LawKit.callS X hx (y := y.name) hown (mvT hZ wl) (mvT hZ wst) (mvT hZ winit) (mvT hZ wcode) hMH back (g := mkF m pc A Sc) rfl (by rw [hml]; exact hL.1.trans hLl) (argsL := ws) (rest := rc) (fun sig q => by rw [hpar sig q, hwl, hna]) hsplit hWW (dec hby) (fun _ _ => ⟨rfl, rfl, hcR, hsR⟩)
                dsimp only [Pt.U, Pt.locs, Pt.cells, Pt.slots] at X2 l2 y2 z2 st2 hQ
                subst l2 y2 z2
                exact fin v1' T2 Lc X2 hQ st2
              | invokespecial k =>
                obtain rfl : len = 3 := by simpa [lenOk] using hlenOk
                have hk1 : y.kind = 1 := by simpa [invKind] using hik
                have wl := hW (.methodLink d.name.cls k y.name) (in_wordsOf hdm hit (by show _ ∈ mLink P d k a b; unfold mLink; rw [if_neg hb1, hy]; exact List.mem_singleton.mpr rfl))
                have wst := wmore (.instanceMethod y.name) (by rw [if_neg (by omega), if_pos hk1]; exact List.mem_singleton.mpr rfl)
                have hna : nargs y = y.npar + 1 := by simp [nargs, hk1]
                simp [hk1] at yc7
                have wcode' : (Jvm.Cond.code y.name y.bytes y.maxL none).before a0 Z = true := by rw [← yc7.2]; exact wcode
                unfold recvOk at hrecv
                rw [if_neg (by omega)] at hrecv
                split at hrecv
                · rename_i o as'
                  obtain ⟨ad, ws', g1, rfl, ha'⟩ := hSa.ref
                  have hst : Sc = ws'.reverse ++ .ref ad :: rc := by rw [hsplit]; simp
                  obtain ⟨v1', _, ⟨T2, L2, k2', n2⟩, -, X2, ⟨Lc, hQ, l2, y2, z2⟩, st2⟩ := X.specialBack hx (y := y.name) yc7.1 hown (mvT hZ wl) (mvT hZ wst) (mvT hZ wcode') hMH back (g := mkF m pc A Sc) rfl (by rw [hml]; exact hL.1.trans hLl) (Steps.refl _) (a := ad) (argsL := ws') (rest := rc) (fun sig q => by rw [hpar sig q]; simp [hna] at hwl; omega) hst hWW (dec hby) (fun _ _ => ⟨rfl, rfl, hcR, hsR⟩)
                  dsimp only [Pt.U, Pt.locs, Pt.cells, Pt.slots] at X2 l2 y2 z2 st2 hQ
                  subst l2 y2 z2
                  exact fin v1' T2 Lc X2 hQ fun t z => st2.trans z
                · cases hrecv
              | invokevirtual k =>
                obtain rfl : len = 3 := by simpa [lenOk] using hlenOk
                have wl := hW (.methodLink d.name.cls k y.name) (in_wordsOf hdm hit (by show _ ∈ mLink P d k a b; unfold mLink; rw [if_neg hb1, hy]; exact List.mem_singleton.mpr rfl))
                have hk23 : y.kind = 2 ∨ y.kind = 3 := by simpa [invKind] using hik
                have hk0 : ¬ y.kind = 0 := by omega
                have hk1 : ¬ y.kind = 1 := by omega
                have hna : nargs y = y.npar + 1 := by simp [nargs, hk0]
                unfold recvOk at hrecv
                rw [if_neg hk0] at hrecv
                split at hrecv
                · rename_i o as'
                  obtain ⟨ad, ws', g1, rfl, ha'⟩ := hSa.ref
                  have hst : Sc = ws'.reverse ++ .ref ad :: rc := by rw [hsplit]; simp
                  split at hrecv
                  · rename_i c0 fs hc0
                    obtain rfl : c0 = y.cid := by simpa using hrecv
                    obtain ⟨ad', g2, cd, q1, q2, q3, q4⟩ := hH.at hc0
                    rw [g1] at g2; cases g2
                    have hcd := cid_of hP hym q1
                    have hcm : cd ∈ P.cls := List.mem_of_getElem? q1
                    rw [hcd] at q2
                    by_cases hk2 : y.kind = 2
                    · have w1 := wmore (.instanceMethod y.name) (by rw [if_neg hk0, if_neg hk1, if_pos hk2]; simp)
                      have w2 := wmore (.privateMethod y.name) (by rw [if_neg hk0, if_neg hk1, if_pos hk2]; simp)
                      have w3 := hW (.instantiable cd.1 cd.2.1) (in_wordsC hcm (List.mem_cons_self ..))
                      rw [hcd] at w3
                      obtain ⟨cI, kI, i1, i2, i3, i4, -⟩ := Cond.instantiable_spec (mvT hZ w3 (args := args) : (Jvm.Cond.instantiable y.name.cls cd.2.1).before args s = true)
                      have hsel := selects_self_of_private (args := args) i1 i2 (by simp at i4; exact i4.1) (Cond.privateMethod_at (mvP hZ w2 (args := #[]))) (mvT hZ w1) hMH
                      obtain ⟨cq, hq1, hq2⟩ := q2.cell
                      obtain ⟨v1', _, ⟨T2, L2, k2', n2⟩, -, X2, ⟨Lc, hQ, l2, y2, z2⟩, st2⟩ := X.privateBack hx (y := y.name) hown (mvT hZ wl) (mvT hZ w1) hsel (Cond.privateMethod_at (mvP hZ w2 (args := #[]))) (mvT hZ wcode) hMH back (g := mkF m pc A Sc) rfl (by rw [hml]; exact hL.1.trans hLl) (Steps.refl _) (a := ad) hq1 hq2 (argsL := ws') (rest := rc) (fun sig q => by rw [hpar sig q]; simp [hna] at hwl; omega) hst hWW (dec hby) (fun _ _ => ⟨rfl, rfl, hcR, hsR⟩)
                      dsimp only [Pt.U, Pt.locs, Pt.cells, Pt.slots] at X2 l2 y2 z2 st2 hQ
                      subst l2 y2 z2
                      exact fin v1' T2 Lc X2 hQ fun t z => st2.trans z
                    · have w1 := wmore (.declares y.name) (by rw [if_neg hk0, if_neg hk1, if_neg hk2]; simp)
                      have w2 := wmore (.selects y.name.cls y.name y.name) (by rw [if_neg hk0, if_neg hk1, if_neg hk2]; simp)
                      have w3 := wmore (.instanceMethod y.name) (by rw [if_neg hk0, if_neg hk1, if_neg hk2]; simp)
                      obtain ⟨cq, kq, qa, qb, qc⟩ := isOf hZ rfl q2
                      obtain ⟨v1', _, ⟨T2, L2, k2', n2⟩, -, X2, ⟨Lc, hQ, l2, y2, z2⟩, st2⟩ := X.virtualBack hx (y := y.name) (z := y.name) hown (mvT hZ wl) (mvT hZ w1) (notFace_of_selects (args := #[]) (mvT hZ w2)) (mvT hZ w2) (mvT hZ w3) hMH back qa qc (g := mkF m pc A Sc) rfl (by rw [hml]; exact hL.1.trans hLl) (Steps.refl _) (argsL := ws') (rest := rc) (fun sig q => by rw [hpar sig q]; simp [hna] at hwl; omega) hst hWW (dec hby) (fun _ _ => ⟨rfl, rfl, hcR, hsR⟩)
                      dsimp only [Pt.U, Pt.locs, Pt.cells, Pt.slots] at X2 l2 y2 z2 st2 hQ
                      subst l2 y2 z2
                      exact fin v1' T2 Lc X2 hQ fun t z => st2.trans z
                  · cases hrecv
                · cases hrecv
              | _ => simp [isInv] at hinv
            · cases h
          · cases h
      · split at h
        · split at h
          · rename_i S1 H1 k1' hxN
            obtain ⟨c0, s0, hcon, rfl, rfl⟩ := res_ext (α := Unit) h
            have m3 := ih mi (pc + len) _ S1 H1 v H' c0 s0 hcon d hmi
            intro p e R s m args below meth c T locs cells slots X cx k1 k2 ρ A Sc hL hLl hS hH hF
            have cx0 := cx
            obtain ⟨hx, hZ, hby, hml, hown, hnm, hret, hlk, hrf, hrw⟩ := cx
            obtain ⟨T2, ad, Sc2, X2, hS2, hH2, st2⟩ := stepN (A := A) X hx hZ hown hP hW hdm hit (dec hby) hlenOk hS hH hxN (by omega) (by omega)
            have := m3 p e R s m args below meth c T2 locs _ _ X2 cx0 (by omega) (by omega) (ρ ++ [ad]) A Sc2 (hL.forget er).mono (by rw [forget_len]; exact hLl) hS2 hH2 hF
            have q1 : cells + 1 + c0 = cells + (c0 + 1) := by omega
            have q2 : slots + k1' + s0 = slots + (s0 + k1') := by omega
            rw [q1, q2] at this
            exact this.step st2
          · cases h
        · split at h
          · rename_i L1 S1 H1 hxI
            have m3 := ih mi (pc + len) L1 S1 H1 v H' kc ks h d hmi
            intro p e R s m args below meth c T locs cells slots X cx k1 k2 ρ A Sc hL hLl hS hH hF
            have cx0 := cx
            obtain ⟨hx, hZ, hby, hml, hown, hnm, hret, hlk, hrf, hrw⟩ := cx
            obtain ⟨T2, locs2, A2, Sc2, X2, x3, hL2, hS2, hH2, hF2, st2⟩ := stepX X hx hZ hown hnm hP hW hdm hit (dec hby) hlenOk (hL.forget er) hS hH hF hxI
            have := m3 p e R s m args below meth c T2 locs2 cells slots X2 cx0 k1 k2 ρ A2 Sc2 hL2 (by rw [x3, forget_len]; exact hLl) hS2 hH2 hF2
            exact Done.step (t := []) (by rw [List.append_nil]; exact this) st2
          · cases h
end Sound
end Jvm.Own
namespace Jvm.Own
open Jvm Jvm.ClassFile Sem Op Lib Jvm.Free Jvm.Stand Jvm.LawKit Jvm.RoadKit Bundle
/-! Runs of the plain machine, rule by rule -/
def OEnds (P : PD) (mi pc : Nat) (L : List Slot) (S : List Value) (H : AHeap) (r : Res) : Prop := ∃ n0, ∀ n, n0 ≤ n → exe P n mi pc L S H = some r
def plainI : Instr → Bool
  | .goto _ => false
  | .if_icmp _ _ => false
  | .ifCond _ _ => false
  | .ifnonnull _ => false
  | .ireturn => false
  | .lreturn => false
  | .return_ => false
  | .invokestatic _ => false
  | .invokespecial _ => false
  | .invokevirtual _ => false
  | .new _ => false
  | .newarray _ => false
  | _ => true
section Rules
variable {P : PD} {mi pc len a q : Nat} {er : List Bool} {b : Int} {i : Instr} {d y : MD} {L L' : List Slot} {S S' as rest : List Value} {H H' H1 : AHeap} {r : Res} {kc ks : Nat} {v : Option Value}
theorem OEnds.up (h : ∀ n, exe P n mi q L' S' H' = some r → exe P (n + 1) mi pc L S H = some r) (E : OEnds P mi q L' S' H' r) : OEnds P mi pc L S H r := by
  obtain ⟨n0, E⟩ := E
  refine ⟨n0 + 1, fun n hn => ?_⟩
  obtain ⟨k, rfl⟩ : ∃ k, n = k + 1 := ⟨n - 1, by omega⟩
  exact h k (E k (by omega))
theorem OEnds.plain (hm : P.mth[mi]? = some d) (hf : fetch d.code pc = some (i, len, er, a, b)) (hp : plainI i = true) (hx : xI P (d.name.name == "<init>") d.cid i a b (forget er L) S H = some (L', S', H')) (E : OEnds P mi (pc + len) L' S' H' r) : OEnds P mi pc L S H r := by
  refine E.up fun n h => ?_
  unfold exe
  rw [hm]
  simp only
  rw [hf]
  simp only
  split
  all_goals first | (simp [plainI] at hp; done) | skip
  have h1 : ¬ isInv i = true := by
    cases i <;> first | (simp [plainI] at hp; done) | simp [isInv]
  have h2 : ¬ isNew i = true := by
    cases i <;> first | (simp [plainI] at hp; done) | simp [isNew]
  rw [if_neg h1, if_neg h2, hx]
  exact h
theorem OEnds.goto {o : Int} (hm : P.mth[mi]? = some d) (hf : fetch d.code pc = some (.goto o, len, er, a, b)) (ht : tgt pc o = some q) (E : OEnds P mi q (forget er L) S H r) : OEnds P mi pc L S H r := by
  refine E.up fun n h => ?_
  unfold exe
  rw [hm]
  simp only
  rw [hf]
  simp only
  rw [ht]
  exact h
theorem OEnds.icmpT {o : Int} {cd : ClassFile.Cond} {x z : Int32} (hm : P.mth[mi]? = some d) (hf : fetch d.code pc = some (.if_icmp cd o, len, er, a, b)) (ht : tgt pc o = some q) (hc : if_icmp.holds cd x z = true) (E : OEnds P mi q (forget er L) S H r) : OEnds P mi pc L (.int z :: .int x :: S) H r := by
  refine E.up fun n h => ?_
  unfold exe
  rw [hm]
  simp only
  rw [hf]
  simp only
  rw [if_pos hc, ht]
  exact h
theorem OEnds.icmpF {o : Int} {cd : ClassFile.Cond} {x z : Int32} (hm : P.mth[mi]? = some d) (hf : fetch d.code pc = some (.if_icmp cd o, len, er, a, b)) (hc : if_icmp.holds cd x z = false) (E : OEnds P mi (pc + 3) (forget er L) S H r) : OEnds P mi pc L (.int z :: .int x :: S) H r := by
  refine E.up fun n h => ?_
  unfold exe
  rw [hm]
  simp only
  rw [hf]
  simp only
  rw [if_neg (by rw [hc]; exact Bool.false_ne_true)]
  exact h
theorem OEnds.ifT {o : Int} {cd : ClassFile.Cond} {x : Int32} (hm : P.mth[mi]? = some d) (hf : fetch d.code pc = some (.ifCond cd o, len, er, a, b)) (ht : tgt pc o = some q) (hc : if_icmp.holds cd x 0 = true) (E : OEnds P mi q (forget er L) S H r) : OEnds P mi pc L (.int x :: S) H r := by
  refine E.up fun n h => ?_
  unfold exe
  rw [hm]
  simp only
  rw [hf]
  simp only
  rw [if_pos ((if0 cd x).trans hc), ht]
  exact h
theorem OEnds.ifF {o : Int} {cd : ClassFile.Cond} {x : Int32} (hm : P.mth[mi]? = some d) (hf : fetch d.code pc = some (.ifCond cd o, len, er, a, b)) (hc : if_icmp.holds cd x 0 = false) (E : OEnds P mi (pc + 3) (forget er L) S H r) : OEnds P mi pc L (.int x :: S) H r := by
  refine E.up fun n h => ?_
  unfold exe
  rw [hm]
  simp only
  rw [hf]
  simp only
  rw [if_neg (by rw [if0 cd x, hc]; exact Bool.false_ne_true)]
  exact h
theorem OEnds.nonnull {o : Int} {x : Nat} (hm : P.mth[mi]? = some d) (hf : fetch d.code pc = some (.ifnonnull o, len, er, a, b)) (ht : tgt pc o = some q) (E : OEnds P mi q (forget er L) S H r) : OEnds P mi pc L (.ref x :: S) H r := by
  refine E.up fun n h => ?_
  unfold exe
  rw [hm]
  simp only
  rw [hf]
  simp only
  rw [ht]
  exact h
theorem OEnds.iret {x : Int32} {u : Value} (hm : P.mth[mi]? = some d) (hf : fetch d.code pc = some (.ireturn, len, er, a, b)) (hv : retV d.ret x = some u) : OEnds P mi pc L [.int x] H (some u, H, 0, 0) := by
  refine ⟨1, fun n hn => ?_⟩
  obtain ⟨k, rfl⟩ : ∃ k, n = k + 1 := ⟨n - 1, by omega⟩
  unfold exe
  rw [hm]
  simp only
  rw [hf]
  simp only
  rw [hv]
theorem OEnds.lret {x : Int64} (hm : P.mth[mi]? = some d) (hf : fetch d.code pc = some (.lreturn, len, er, a, b)) (hv : d.ret = some .long) : OEnds P mi pc L [.long x] H (some (.long x), H, 0, 0) := by
  refine ⟨1, fun n hn => ?_⟩
  obtain ⟨k, rfl⟩ : ∃ k, n = k + 1 := ⟨n - 1, by omega⟩
  unfold exe
  rw [hm]
  simp only
  rw [hf]
  simp only
  rw [if_pos hv]
theorem OEnds.vret (hm : P.mth[mi]? = some d) (hf : fetch d.code pc = some (.return_, len, er, a, b)) (hv : d.ret = none) : OEnds P mi pc L [] H (none, H, 0, 0) := by
  refine ⟨1, fun n hn => ?_⟩
  obtain ⟨k, rfl⟩ : ∃ k, n = k + 1 := ⟨n - 1, by omega⟩
  unfold exe
  rw [hm]
  simp only
  rw [hf]
  simp only
  rw [if_pos hv]
theorem OEnds.oinit {k x : Nat} (hm : P.mth[mi]? = some d) (hf : fetch d.code pc = some (.invokespecial k, len, er, a, -1)) (hr : 1 ≤ d.rf ∧ catSum S + 12 ≤ d.rw) (E : OEnds P mi (pc + 3) (forget er L) S H r) : OEnds P mi pc L (.ref x :: S) H r := by
  refine E.up fun n h => ?_
  unfold exe
  rw [hm]
  simp only
  rw [hf]
  simp only [isInv, if_true]
  rw [if_pos hr]
  exact h
theorem OEnds.call (hm : P.mth[mi]? = some d) (hf : fetch d.code pc = some (i, len, er, a, b)) (hi : isInv i = true) (hb : ¬ b = -1) (hy : P.mth[a]? = some y) (hao : argsOf (nargs y) S = some (as, rest))
    (hc : (decide (0 < a) && invKind i y.kind && recvOk P H y as && fitsRoom d y rest && decide ((entA as).length ≤ y.maxL)) = true) (E1 : OEnds P a 0 (entL as y.maxL) [] H (v, H1, kc, ks)) (E2 : OEnds P mi (pc + 3) (forget er L) (v.toList ++ rest) H1 r) : OEnds P mi pc L S H (addR r kc ks) := by
  obtain ⟨n1, E1⟩ := E1
  obtain ⟨n2, E2⟩ := E2
  refine ⟨n1 + n2 + 1, fun n hn => ?_⟩
  obtain ⟨k, rfl⟩ : ∃ k, n = k + 1 := ⟨n - 1, by omega⟩
  have e1 := E1 k (by omega)
  have e2 := E2 k (by omega)
  unfold exe
  rw [hm]
  simp only
  rw [hf]
  simp only
  split
  all_goals first | (simp [isInv] at hi; done) | skip
  rw [if_pos hi, if_neg hb, hy]
  simp only
  rw [hao]
  simp only
  rw [if_pos hc, e1]
  simp only
  rw [e2]
  rfl
theorem OEnds.call0 (hm : P.mth[mi]? = some d) (hf : fetch d.code pc = some (i, len, er, a, b)) (hi : isInv i = true) (hb : ¬ b = -1) (hy : P.mth[a]? = some y) (hao : argsOf (nargs y) S = some (as, rest))
    (hc : (decide (0 < a) && invKind i y.kind && recvOk P H y as && fitsRoom d y rest && decide ((entA as).length ≤ y.maxL)) = true) (E1 : OEnds P a 0 (entL as y.maxL) [] H (v, H1, 0, 0)) (E2 : OEnds P mi (pc + 3) (forget er L) (v.toList ++ rest) H1 r) : OEnds P mi pc L S H r :=
  OEnds.call (r := r) hm hf hi hb hy hao hc E1 E2
theorem OEnds.made (hm : P.mth[mi]? = some d) (hf : fetch d.code pc = some (i, len, er, a, b)) (hi : isNew i = true) (hx : xN P i a S H = some (S', H', ks)) (E : OEnds P mi (pc + len) (forget er L) S' H' r) : OEnds P mi pc L S H (addR r 1 ks) := by
  obtain ⟨n0, E⟩ := E
  refine ⟨n0 + 1, fun n hn => ?_⟩
  obtain ⟨k, rfl⟩ : ∃ k, n = k + 1 := ⟨n - 1, by omega⟩
  have e1 := E k (by omega)
  unfold exe
  rw [hm]
  simp only
  rw [hf]
  simp only
  split
  all_goals first | (simp [isNew] at hi; done) | skip
  have h1 : ¬ isInv i = true := by
    cases i <;> first | (simp [isNew] at hi; done) | simp [isInv]
  rw [if_neg h1, if_pos hi, hx]
  simp only
  rw [e1]
  rfl
end Rules
/-- k plain instructions and jumps in one go -/
def adv (P : PD) (d : MD) : Nat → Nat → List Slot → List Value → AHeap → Option (Nat × List Slot × List Value × AHeap)
  | 0, pc, L, S, H => some (pc, L, S, H)
  | k + 1, pc, L, S, H => match fetch d.code pc with
    | some (i, len, er, a, b) => match i with
      | .goto o => match tgt pc o with
        | some q => adv P d k q (forget er L) S H
        | none => none
      | i => if plainI i = true then match xI P (d.name.name == "<init>") d.cid i a b (forget er L) S H with
          | some (L', S', H') => adv P d k (pc + len) L' S' H'
          | none => none
        else none
    | none => none
theorem OEnds.adv {P : PD} {mi : Nat} {d : MD} (hm : P.mth[mi]? = some d) {r : Res} : ∀ (k : Nat) {pc pc' : Nat} {L L' : List Slot} {S S' : List Value} {H H' : AHeap}, adv P d k pc L S H = some (pc', L', S', H') → OEnds P mi pc' L' S' H' r → OEnds P mi pc L S H r
  | 0, _, _, _, _, _, _, _, _, h, E => by
    unfold Own.adv at h
    cases h
    exact E
  | k + 1, pc, pc', L, L', S, S', H, H', h, E => by
    unfold Own.adv at h
    split at h
    · rename_i it i len er a b hf
      split at h
      · rename_i o
        split at h
        · rename_i q hq
          exact OEnds.goto hm hf hq (OEnds.adv hm k h E)
        · cases h
      · split at h
        · rename_i hp
          split at h
          · rename_i L1 S1 H1 hx
            exact OEnds.plain hm hf hp hx (OEnds.adv hm k h E)
          · cases h
        · cases h
    · cases h
theorem x_iaload {P : PD} {ini : Bool} {cid a o : Nat} {b : Int} {L : List Slot} {S : List Value} {H : AHeap} {A : List Int32} {j x : Int32} (h : H[o]? = some (.inr (.inl (false, A)))) (hx : rdA A j = some x) : xI P ini cid .iaload a b L (.int j :: .ref o :: S) H = some (L, .int x :: S, H) := by simp [xI, h, hx]
theorem x_baload {P : PD} {ini : Bool} {cid a o : Nat} {b : Int} {L : List Slot} {S : List Value} {H : AHeap} {A : List Int32} {j x : Int32} (h : H[o]? = some (.inr (.inl (true, A)))) (hx : rdA A j = some x) : xI P ini cid .baload a b L (.int j :: .ref o :: S) H = some (L, .int x :: S, H) := by simp [xI, h, hx]
theorem x_laload {P : PD} {ini : Bool} {cid a o : Nat} {b : Int} {L : List Slot} {S : List Value} {H : AHeap} {A : List Int64} {j : Int32} {x : Int64} (h : H[o]? = some (.inr (.inr A))) (hx : rdA A j = some x) : xI P ini cid .laload a b L (.int j :: .ref o :: S) H = some (L, .long x :: S, H) := by simp [xI, h, hx]
theorem x_iastore {P : PD} {ini : Bool} {cid a o : Nat} {b : Int} {L : List Slot} {S : List Value} {H : AHeap} {A A' : List Int32} {j x : Int32} (h : H[o]? = some (.inr (.inl (false, A)))) (hn : P.nr ≤ o) (hx : wrA A j x = some A') : xI P ini cid .iastore a b L (.int x :: .int j :: .ref o :: S) H = some (L, S, H.set o (.inr (.inl (false, A')))) := by simp [xI, h, hx, hn]
theorem x_bastore {P : PD} {ini : Bool} {cid a o : Nat} {b : Int} {L : List Slot} {S : List Value} {H : AHeap} {A A' : List Int32} {j x : Int32} (h : H[o]? = some (.inr (.inl (true, A)))) (hn : P.nr ≤ o) (hx : wrA A j (x &&& 1) = some A') : xI P ini cid .bastore a b L (.int x :: .int j :: .ref o :: S) H = some (L, S, H.set o (.inr (.inl (true, A')))) := by simp [xI, h, hx, hn]
theorem x_lastore {P : PD} {ini : Bool} {cid a o : Nat} {b : Int} {L : List Slot} {S : List Value} {H : AHeap} {A A' : List Int64} {j : Int32} {x : Int64} (h : H[o]? = some (.inr (.inr A))) (hn : P.nr ≤ o) (hx : wrA A j x = some A') : xI P ini cid .lastore a b L (.long x :: .int j :: .ref o :: S) H = some (L, S, H.set o (.inr (.inr A'))) := by simp [xI, h, hx, hn]
theorem x_irem {P : PD} {ini : Bool} {cid a : Nat} {b : Int} {L : List Slot} {S : List Value} {H : AHeap} {x y : Int32} (h : ¬ y = 0) : xI P ini cid .irem a b L (.int y :: .int x :: S) H = some (L, .int (x % y) :: S, H) := by simp [xI, h]
theorem x_idiv {P : PD} {ini : Bool} {cid a : Nat} {b : Int} {L : List Slot} {S : List Value} {H : AHeap} {x y : Int32} (h : ¬ y = 0) : xI P ini cid .idiv a b L (.int y :: .int x :: S) H = some (L, .int (x / y) :: S, H) := by simp [xI, h]
theorem x_lrem {P : PD} {ini : Bool} {cid a : Nat} {b : Int} {L : List Slot} {S : List Value} {H : AHeap} {x y : Int64} (h : ¬ y = 0) : xI P ini cid .lrem a b L (.long y :: .long x :: S) H = some (L, .long (x % y) :: S, H) := by simp [xI, h]
theorem x_ldiv {P : PD} {ini : Bool} {cid a : Nat} {b : Int} {L : List Slot} {S : List Value} {H : AHeap} {x y : Int64} (h : ¬ y = 0) : xI P ini cid .ldiv a b L (.long y :: .long x :: S) H = some (L, .long (x / y) :: S, H) := by simp [xI, h]
theorem c_lt {x y : Int64} : XT.cmpL x y < 0 ↔ x < y := by
  unfold XT.cmpL; split <;> (try split) <;> simp_all [Int64.lt_iff_toInt_lt, ← Int64.toInt_inj] <;> omega
theorem c_gt {x y : Int64} : 0 < XT.cmpL x y ↔ y < x := by
  unfold XT.cmpL; split <;> (try split) <;> simp_all [Int64.lt_iff_toInt_lt, ← Int64.toInt_inj] <;> omega
theorem c_eq {x y : Int64} : XT.cmpL x y = 0 ↔ x = y := by
  unfold XT.cmpL; split <;> (try split) <;> simp_all [Int64.lt_iff_toInt_lt, ← Int64.toInt_inj] <;> omega
end Jvm.Own
namespace Jvm.Own
open Jvm Jvm.ClassFile Sem Op Lib Jvm.Free Jvm.Stand Jvm.LawKit Jvm.RoadKit Bundle
theorem bnd {α β : Type} {o : Option α} {f : α → Option β} {b : β} (h : o.bind f = some b) : ∃ a, o = some a ∧ f a = some b := Option.bind_eq_some_iff.mp h
theorem x_putZ {P : PD} {ini : Bool} {k cid a o : Nat} {b : Int} {L : List Slot} {S : List Value} {H : AHeap} {fs : List Value} {nm ds : String} {x : Int32} (h : H[o]? = some (.inl (cid, fs))) (hn : P.nr ≤ o) (hf : ((P.cls[cid]?).bind fun cd => cd.2.2[a]?) = some (nm, ds, .boolean, false)) (hx : x = 0 ∨ x = 1) :
    xI P ini cid (.putfield k) a b L (.int x :: .ref o :: S) H = some (L, S, H.set o (.inl (cid, fs.set a (.int x)))) := by
  rcases hx with rfl | rfl <;> simp [xI, h, hn, hf, putOk]
section Rules
variable {P : PD} {mi pc len a q : Nat} {er : List Bool} {b : Int} {i : Instr} {d y : MD} {L L' : List Slot} {S S' as rest : List Value} {H H' H1 : AHeap} {r : Res} {kc ks : Nat} {v : Option Value}
theorem OEnds.made1 {w : Option Value} {Hf : AHeap} (hm : P.mth[mi]? = some d) (hf : fetch d.code pc = some (i, len, er, a, b)) (hi : isNew i = true) (hx : xN P i a S H = some (S', H', ks)) {c0 s0 c1 s1 : Nat} (hr : (c1, s1) = (c0 + 1, s0 + ks)) (E : OEnds P mi (pc + len) (forget er L) S' H' (w, Hf, c0, s0)) : OEnds P mi pc L S H (w, Hf, c1, s1) := by
  cases hr
  exact OEnds.made (r := (w, Hf, c0, s0)) hm hf hi hx E
/-! The same, of a run whose end is told by a property -/
def OEndsQ (P : PD) (mi pc : Nat) (L : List Slot) (S : List Value) (H : AHeap) (Q : Res → Prop) : Prop := ∃ r, OEnds P mi pc L S H r ∧ Q r
variable {Q : Res → Prop}
theorem OEndsQ.plain (hm : P.mth[mi]? = some d) (hf : fetch d.code pc = some (i, len, er, a, b)) (hp : plainI i = true) (hx : xI P (d.name.name == "<init>") d.cid i a b (forget er L) S H = some (L', S', H')) (E : OEndsQ P mi (pc + len) L' S' H' Q) : OEndsQ P mi pc L S H Q := by
  obtain ⟨r, E, hq⟩ := E; exact ⟨r, OEnds.plain hm hf hp hx E, hq⟩
theorem OEndsQ.icmpT {o : Int} {cd : ClassFile.Cond} {x z : Int32} (hm : P.mth[mi]? = some d) (hf : fetch d.code pc = some (.if_icmp cd o, len, er, a, b)) (ht : tgt pc o = some q) (hc : if_icmp.holds cd x z = true) (E : OEndsQ P mi q (forget er L) S H Q) : OEndsQ P mi pc L (.int z :: .int x :: S) H Q := by
  obtain ⟨r, E, hq⟩ := E; exact ⟨r, OEnds.icmpT hm hf ht hc E, hq⟩
theorem OEndsQ.icmpF {o : Int} {cd : ClassFile.Cond} {x z : Int32} (hm : P.mth[mi]? = some d) (hf : fetch d.code pc = some (.if_icmp cd o, len, er, a, b)) (hc : if_icmp.holds cd x z = false) (E : OEndsQ P mi (pc + 3) (forget er L) S H Q) : OEndsQ P mi pc L (.int z :: .int x :: S) H Q := by
  obtain ⟨r, E, hq⟩ := E; exact ⟨r, OEnds.icmpF hm hf hc E, hq⟩
theorem OEndsQ.ifT {o : Int} {cd : ClassFile.Cond} {x : Int32} (hm : P.mth[mi]? = some d) (hf : fetch d.code pc = some (.ifCond cd o, len, er, a, b)) (ht : tgt pc o = some q) (hc : if_icmp.holds cd x 0 = true) (E : OEndsQ P mi q (forget er L) S H Q) : OEndsQ P mi pc L (.int x :: S) H Q := by
  obtain ⟨r, E, hq⟩ := E; exact ⟨r, OEnds.ifT hm hf ht hc E, hq⟩
theorem OEndsQ.ifF {o : Int} {cd : ClassFile.Cond} {x : Int32} (hm : P.mth[mi]? = some d) (hf : fetch d.code pc = some (.ifCond cd o, len, er, a, b)) (hc : if_icmp.holds cd x 0 = false) (E : OEndsQ P mi (pc + 3) (forget er L) S H Q) : OEndsQ P mi pc L (.int x :: S) H Q := by
  obtain ⟨r, E, hq⟩ := E; exact ⟨r, OEnds.ifF hm hf hc E, hq⟩
theorem OEndsQ.nonnull {o : Int} {x : Nat} (hm : P.mth[mi]? = some d) (hf : fetch d.code pc = some (.ifnonnull o, len, er, a, b)) (ht : tgt pc o = some q) (E : OEndsQ P mi q (forget er L) S H Q) : OEndsQ P mi pc L (.ref x :: S) H Q := by
  obtain ⟨r, E, hq⟩ := E; exact ⟨r, OEnds.nonnull hm hf ht E, hq⟩
theorem OEndsQ.call0 (hm : P.mth[mi]? = some d) (hf : fetch d.code pc = some (i, len, er, a, b)) (hi : isInv i = true) (hb : ¬ b = -1) (hy : P.mth[a]? = some y) (hao : argsOf (nargs y) S = some (as, rest))
    (hc : (decide (0 < a) && invKind i y.kind && recvOk P H y as && fitsRoom d y rest && decide ((entA as).length ≤ y.maxL)) = true) (E1 : OEnds P a 0 (entL as y.maxL) [] H (v, H1, 0, 0)) (E2 : OEndsQ P mi (pc + 3) (forget er L) (v.toList ++ rest) H1 Q) : OEndsQ P mi pc L S H Q := by
  obtain ⟨r, E, hq⟩ := E2; exact ⟨r, OEnds.call0 hm hf hi hb hy hao hc E1 E, hq⟩
theorem OEndsQ.adv (hm : P.mth[mi]? = some d) (k : Nat) {pc' : Nat} (h : adv P d k pc L S H = some (pc', L', S', H')) (E : OEndsQ P mi pc' L' S' H' Q) : OEndsQ P mi pc L S H Q := by
  obtain ⟨r, E, hq⟩ := E; exact ⟨r, OEnds.adv hm k h E, hq⟩
/-- what a law's run ends with: its answer, and at the most so many cells and slots made -/
def LawQ (x : Int32) (kc ks : Nat) (r : Res) : Prop := r.1 = some (.int x) ∧ r.2.2.1 ≤ kc ∧ r.2.2.2 ≤ ks
theorem OEndsQ.iret {x u : Int32} (hm : P.mth[mi]? = some d) (hf : fetch d.code pc = some (.ireturn, len, er, a, b)) (hv : retV d.ret x = some (.int u)) : OEndsQ P mi pc L [.int x] H (LawQ u kc ks) :=
  ⟨_, OEnds.iret hm hf hv, rfl, Nat.zero_le _, Nat.zero_le _⟩
theorem OEndsQ.weak {x : Int32} {c0 s0 : Nat} (h1 : c0 ≤ kc) (h2 : s0 ≤ ks) (E : OEndsQ P mi pc L S H (LawQ x c0 s0)) : OEndsQ P mi pc L S H (LawQ x kc ks) := by
  obtain ⟨r, E, q1, q2, q3⟩ := E; exact ⟨r, E, q1, Nat.le_trans q2 h1, Nat.le_trans q3 h2⟩
theorem OEndsQ.made {x : Int32} {c0 s0 c1 s1 : Nat} (hm : P.mth[mi]? = some d) (hf : fetch d.code pc = some (i, len, er, a, b)) (hi : isNew i = true) (hx : xN P i a S H = some (S', H', ks)) (h1 : c0 + 1 ≤ c1) (h2 : s0 + ks ≤ s1) (E : OEndsQ P mi (pc + len) (forget er L) S' H' (LawQ x c0 s0)) : OEndsQ P mi pc L S H (LawQ x c1 s1) := by
  obtain ⟨⟨v, Hf, k, n⟩, E, q1, q2, q3⟩ := E
  dsimp only at q1 q2 q3
  exact ⟨_, OEnds.made hm hf hi hx E, q1, by show k + 1 ≤ c1; omega, by show n + ks ≤ s1; omega⟩
theorem OEndsQ.callN {x : Int32} {c0 s0 c1 s1 : Nat} (hm : P.mth[mi]? = some d) (hf : fetch d.code pc = some (i, len, er, a, b)) (hi : isInv i = true) (hb : ¬ b = -1) (hy : P.mth[a]? = some y) (hao : argsOf (nargs y) S = some (as, rest))
    (hc : (decide (0 < a) && invKind i y.kind && recvOk P H y as && fitsRoom d y rest && decide ((entA as).length ≤ y.maxL)) = true) (E1 : OEnds P a 0 (entL as y.maxL) [] H (v, H1, kc, ks)) (h1 : c0 + kc ≤ c1) (h2 : s0 + ks ≤ s1) (E2 : OEndsQ P mi (pc + 3) (forget er L) (v.toList ++ rest) H1 (LawQ x c0 s0)) : OEndsQ P mi pc L S H (LawQ x c1 s1) := by
  obtain ⟨⟨v, Hf, k, n⟩, E, q1, q2, q3⟩ := E2
  dsimp only at q1 q2 q3
  exact ⟨_, OEnds.call hm hf hi hb hy hao hc E1 E, q1, by show k + kc ≤ c1; omega, by show n + ks ≤ s1; omega⟩
end Rules
/-! From the machine to the claim -/
theorem law_met {P : PD} {Z : State} {a0 : Array Value} {l : Launch} {y : MD} {as ws : List Value} {H : AHeap} {ρ : List Addr} {n0 kc ks : Nat} {h : Heap} (hP : chk P = true) (hW : ∀ w ∈ wordsOf P, w.before a0 Z = true) (hy : P.mth[0]? = some y)
    (E : OEndsQ P 0 0 (entL as y.maxL) [] H (LawQ 1 kc ks)) (hS : SR ρ as ws) (hlen : (entA as).length ≤ y.maxL) (hH : HR P Z n0 h ρ H) (w0 : List Jvm.Cond) (rm : Room) (r1 : y.rf ≤ rm.frames) (r2 : y.rw ≤ rm.locals) (r3 : kc ≤ rm.cells) (r4 : ks ≤ rm.slots) :
    MetFree l y.name (head1 (Jvm.Cond.code y.name y.bytes y.maxL y.ret :: w0) rm) (fun a U => a = ws.toArray ∧ Z.Warmed39 U.vm ∧ U.heap = h) (fun _ _ _ _ _ => True)
      (fun _ U o U' => ∃ L, o = .returned (some (.int 1)) ∧ Fr n0 L ∧ FrameEnd U o U' L kc ks) := by
  obtain ⟨⟨v, H1, c1, s1⟩, ⟨n, E⟩, q1, q2, q3⟩ := E
  dsimp only at q1 q2 q3
  subst q1
  have hpn : plainName y.name.cls = true := by
    have := mChk_of hP (List.mem_of_getElem? hy)
    simp only [mChk, Bool.and_eq_true] at this
    exact this.1.1.1.1.1.1
  have M := met_of (l := l) (n := n) (sound hP hW n) hy hpn (E n (Nat.le_refl _)) hS hlen hH w0 rm r1 r2 (Nat.le_trans q2 r3) (Nat.le_trans q3 r4)
  intro p e ha hc hk s m args below hf happ hp hK
  obtain ⟨n', o, h1, h2, h3, v', L, rfl, ⟨hF, t, ⟨u, rfl, hu⟩, -⟩, hq⟩ := M p e ha hc hk s m args below hf happ hp hK
  obtain rfl : u = .int 1 := hu
  exact ⟨n', _, h1, h2, h3, L, rfl, hF, hq.1, hq.2.1, hq.2.2.mono q2 q3⟩
end Jvm.Own
namespace Jvm.Own
open Jvm Jvm.ClassFile Sem Op Lib Jvm.Free Jvm.Stand Jvm.LawKit Jvm.RoadKit Bundle
/-- the law's script: an int array of at most 260 -/
theorem script_of {s : State} {ad : Addr} {cl : Cell} (hf : Fit s) (A : Arr s s.heap ad cl .int) (e0 : (Term.arg 0).eval #[.ref ad] s none [] s = some (.ref ad)) (hn : (Jvm.Cond.le (.length (.arg 0)) (.int 260)).value #[.ref ad] s none s [] = some true) :
    ∃ scr : List Int32, cl.slots.size = scr.length ∧ scr.length ≤ 260 ∧ ∀ (i : Nat) x, scr[i]? = some x → cl.slots[i]? = some (.int x) := by
  obtain ⟨u, v, g1, g2, -, -⟩ := cmp_v (Or.inr (Or.inr hn))
  obtain ⟨a', cl', z1, z2, z3⟩ := Term.length_spec g1
  have hat := A.fin (Vm.Alike.refl _)
  rw [e0] at z1
  cases z1
  rw [hat] at z2
  cases z2
  have hsz : cl.slots.size < 2 ^ 31 := by
    rcases Nat.lt_or_ge cl.slots.size (2 ^ 31) with q | q
    · exact q
    · exfalso
      simp [Term.eval, hat] at g1
      omega
  subst z3
  have hv : v = .int 260 := by simpa [Term.eval] using g2.symm
  subst hv
  have hle : cl.slots.size.toInt32 ≤ 260 := by
    simpa [Cond.value, g1, g2] using hn
  have hle' : cl.slots.size ≤ 260 := by
    rw [Int32.le_iff_toInt_le, len_toInt hsz] at hle
    have : (260 : Int32).toInt = 260 := rfl
    rw [this] at hle
    omega
  have key : ∀ i, i < cl.slots.size → ∃ x, cl.slots[i]? = some (.int x) := fun i hi => by
    have hj := idx_in hi hsz
    obtain ⟨v, e1, e2⟩ := elem_fit hf A hj
    have : i.toInt32.toNatClampNeg = i := by
      have h1 : i.toInt32.toInt = i := len_toInt (by omega)
      simp [Int32.toNatClampNeg, h1]
    rw [this] at e1
    obtain ⟨x, rfl⟩ := fit_I e2 (Or.inl rfl)
    exact ⟨x, e1⟩
  refine ⟨cl.slots.toList.map fun v => match v with | .int x => x | _ => 0, by simp, by simpa using hle', fun i x hx => ?_⟩
  rw [List.getElem?_map] at hx
  obtain ⟨v, h1, h2⟩ := Option.map_eq_some_iff.mp hx
  have h1' : cl.slots[i]? = some v := by simpa using h1
  obtain ⟨y, hy⟩ := key i (Array.getElem?_eq_some_iff.mp h1').1
  rw [h1'] at hy
  cases hy
  rw [h1']
  simp at h2
  rw [h2]
theorem hr_script {P : PD} {s : State} {ad : Addr} {cl : Cell} {scr : List Int32} (hnr : P.nr = 1) (A : Arr s s.heap ad cl .int) (h1 : cl.slots.size = scr.length) (h2 : scr.length ≤ 260) (h3 : ∀ (i : Nat) x, scr[i]? = some x → cl.slots[i]? = some (.int x)) : HR P s s.heap.size s.heap [ad] [.inr (.inl (false, scr))] := by
  refine ⟨Nat.le_refl _, rfl, fun i j a g1 g2 => ?_, fun k a g1 g2 => ?_, fun k a c g1 g2 => ?_⟩
  · match i, j, g1, g2 with
    | 0, 0, _, _ => rfl
    | i + 1, _, g1, _ => simp at g1
    | 0, j + 1, _, g2 => simp at g2
  · match k, g1, g2 with
    | 0, _, g2 => rw [hnr] at g2; omega
    | k + 1, g1, _ => simp at g1
  · match k, g1, g2 with
    | 0, g1, g2 =>
      simp at g1 g2
      subst g1 g2
      exact ⟨cl, A, h1, by omega, h3⟩
    | k + 1, g1, _ => simp at g1
end Jvm.Own
namespace Jvm.Own
open Jvm
/-! Ints in range, arrays -/
theorem ilt {a b : Int32} : a < b ↔ a.toInt < b.toInt := Int32.lt_iff_toInt_lt
theorem ile {a b : Int32} : a ≤ b ↔ a.toInt ≤ b.toInt := Int32.le_iff_toInt_le
theorem ieq {a b : Int32} : a = b ↔ a.toInt = b.toInt := Int32.toInt_inj.symm
theorem irng (a : Int32) : -2147483648 ≤ a.toInt ∧ a.toInt < 2147483648 := ⟨Int32.le_toInt a, Int32.toInt_lt a⟩
theorem iadd_i {a b : Int32} (h1 : -2147483648 ≤ a.toInt + b.toInt) (h2 : a.toInt + b.toInt < 2147483648) : (a + b).toInt = a.toInt + b.toInt := by
  rw [Int32.toInt_add]; exact Int.bmod_eq_of_le (by omega) (by omega)
theorem isub_i {a b : Int32} (h1 : -2147483648 ≤ a.toInt - b.toInt) (h2 : a.toInt - b.toInt < 2147483648) : (a - b).toInt = a.toInt - b.toInt := by
  rw [Int32.toInt_sub]; exact Int.bmod_eq_of_le (by omega) (by omega)
theorem imul_i {a b : Int32} (h1 : -2147483648 ≤ a.toInt * b.toInt) (h2 : a.toInt * b.toInt < 2147483648) : (a * b).toInt = a.toInt * b.toInt := by
  rw [Int32.toInt_mul]; exact Int.bmod_eq_of_le (by omega) (by omega)
theorem rdA_nn {α : Type} {L : List α} {j : Int32} (h0 : 0 ≤ j.toInt) : rdA L j = L[j.toInt.toNat]? := by
  unfold rdA
  rw [if_neg (by rw [ilt]; exact Int.not_lt.mpr h0)]
  rfl
theorem rdA_in {α : Type} {L : List α} {j : Int32} (h0 : 0 ≤ j.toInt) (h1 : j.toInt.toNat < L.length) : rdA L j = some L[j.toInt.toNat] := by
  rw [rdA_nn h0, List.getElem?_eq_getElem h1]
theorem wrA_in {α : Type} {L : List α} {j : Int32} {x : α} (h0 : 0 ≤ j.toInt) (h1 : j.toInt.toNat < L.length) : wrA L j x = some (L.set j.toInt.toNat x) := by
  unfold wrA
  rw [if_neg (by rw [ilt]; exact Int.not_lt.mpr h0)]
  exact if_pos h1
theorem rdA_rep {α : Type} {n : Nat} {x : α} {j : Int32} (h0 : 0 ≤ j.toInt) (h1 : j.toInt < n) : rdA (List.replicate n x) j = some x := by
  rw [rdA_nn h0, List.getElem?_replicate, if_pos (by omega)]
end Jvm.Own
namespace Jvm.Own
open Jvm
/-! Sums of ints with their wrap, for omega; runs that answer, and what they answer -/
theorem bmod32 (x : Int) : x.bmod (2 ^ 32) = (x + 2147483648) % 4294967296 - 2147483648 := by
  rw [Int.bmod_def]
  split <;> omega
theorem iadd_e (a b : Int32) : (a + b).toInt = (a.toInt + b.toInt + 2147483648) % 4294967296 - 2147483648 := by
  rw [Int32.toInt_add, bmod32]
theorem isub_e (a b : Int32) : (a - b).toInt = (a.toInt - b.toInt + 2147483648) % 4294967296 - 2147483648 := by
  rw [Int32.toInt_sub, bmod32]
theorem imul_e (a b : Int32) : (a * b).toInt = (a.toInt * b.toInt + 2147483648) % 4294967296 - 2147483648 := by
  rw [Int32.toInt_mul, bmod32]
theorem iscr {n : Nat} (h : n ≤ 260) : (n.toInt32).toInt = n := Int32.toInt_ofNat_of_lt (by omega)
def Tot {α : Type} (x : Option α) (P : α → Prop) : Prop := ∃ r, x = some r ∧ P r
theorem Tot.mk {α : Type} {P : α → Prop} {a : α} (h : P a) : Tot (some a) P := ⟨a, rfl, h⟩
theorem Tot.bind {α β : Type} {x : Option α} {f : α → Option β} {P : α → Prop} {Q : β → Prop} (h : Tot x P) (g : ∀ a, P a → Tot (f a) Q) : Tot (x.bind f) Q := by
  obtain ⟨r, e, p⟩ := h
  rw [e]
  exact g r p
theorem Tot.mono {α : Type} {x : Option α} {P Q : α → Prop} (h : Tot x P) (g : ∀ a, P a → Q a) : Tot x Q := by
  obtain ⟨r, e, p⟩ := h
  exact ⟨r, e, g r p⟩
theorem Tot.ite {α : Type} {c : Prop} [Decidable c] {a b : Option α} {Q : α → Prop} (h1 : c → Tot a Q) (h2 : ¬ c → Tot b Q) : Tot (if c then a else b) Q := by
  by_cases h : c
  · rw [if_pos h]; exact h1 h
  · rw [if_neg h]; exact h2 h
theorem Tot.rd {α β : Type} {L : List α} {j : Int32} {f : α → Option β} {Q : β → Prop} (h0 : 0 ≤ j.toInt) (h1 : j.toInt < L.length) (g : ∀ a, L[j.toInt.toNat]? = some a → Tot (f a) Q) : Tot ((rdA L j).bind f) Q := by
  have h2 : j.toInt.toNat < L.length := by omega
  rw [rdA_in h0 h2]
  exact g _ (List.getElem?_eq_getElem h2)
theorem Tot.wr {α β : Type} {L : List α} {j : Int32} {x : α} {f : List α → Option β} {Q : β → Prop} (h0 : 0 ≤ j.toInt) (h1 : j.toInt < L.length) (g : ∀ L' : List α, L' = L.set j.toInt.toNat x → L'.length = L.length → Tot (f L') Q) : Tot ((wrA L j x).bind f) Q := by
  rw [wrA_in h0 (by omega)]
  exact g _ rfl (by simp)
theorem Tot.eq {α : Type} {x : Option α} {a : α} (h : Tot x (fun r => r = a)) : x = some a := by
  obtain ⟨r, e, p⟩ := h
  rw [e, p]
theorem Tot.of {α : Type} {x : Option α} {a : α} {P : α → Prop} (e : x = some a) (p : P a) : Tot x P := ⟨a, e, p⟩
/-- a bit mask at 15, 31 .. -/
theorem iand_rng (x : Int32) (m : Int32) (h : 0 ≤ m.toInt) : 0 ≤ (x &&& m).toInt ∧ (x &&& m).toInt ≤ m.toInt := by
  have hm : m.toBitVec.msb = false := by
    rw [BitVec.msb_eq_toInt]; simpa using h
  have hx : (x &&& m).toBitVec.msb = false := by
    rw [Int32.toBitVec_and, BitVec.msb_and, hm, Bool.and_false]
  have e1 : m.toInt = (m.toBitVec.toNat : Int) := BitVec.toInt_eq_toNat_of_msb hm
  have e2 : (x &&& m).toInt = (((x &&& m).toBitVec).toNat : Int) := BitVec.toInt_eq_toNat_of_msb hx
  have e3 : ((x &&& m).toBitVec).toNat ≤ m.toBitVec.toNat := by
    rw [Int32.toBitVec_and, BitVec.toNat_and]; exact Nat.and_le_right
  omega
def gI (L : List Int32) (j : Int32) : Int32 := (rdA L j).getD 0
theorem rdg {L : List Int32} {j : Int32} (h0 : 0 ≤ j.toInt) (h1 : j.toInt < L.length) : rdA L j = some (gI L j) := by
  have h2 : j.toInt.toNat < L.length := by omega
  unfold gI
  rw [rdA_in h0 h2]
  (first | done | rfl | simp)
theorem gset {L : List Int32} {i j : Int32} {x : Int32} (hi : 0 ≤ i.toInt) (hl : i.toInt < L.length) (hj : 0 ≤ j.toInt) : gI (L.set i.toInt.toNat x) j = if i = j then x else gI L j := by
  unfold gI
  rw [rdA_nn hj, rdA_nn hj]
  by_cases h : i = j
  · subst h
    rw [if_pos rfl, List.getElem?_set_self (by omega)]
    (first | done | rfl | simp)
  · rw [if_neg h, List.getElem?_set_ne (by rw [ieq] at h; omega)]
theorem gext {A B : List Int32} (hl : A.length < 100000) (ha : A.length = B.length) (h : ∀ i : Int32, 0 ≤ i.toInt → i.toInt < A.length → gI A i = gI B i) : A = B := by
  apply List.ext_getElem ha
  intro k h1 h2
  have e : (Int32.ofNat k).toInt = k := Int32.toInt_ofNat_of_lt (by omega)
  have q := h (Int32.ofNat k) (by omega) (by omega)
  unfold gI at q
  rw [rdA_nn (by omega), rdA_nn (by omega), e] at q
  simpa [h1, h2] using q
theorem Tot.rdI {β : Type} {L : List Int32} {j : Int32} {f : Int32 → Option β} {Q : β → Prop} (h0 : 0 ≤ j.toInt) (h1 : j.toInt < L.length) (g : Tot (f (gI L j)) Q) : Tot ((rdA L j).bind f) Q := by
  rw [rdg h0 h1]
  exact g
theorem gI_rep {n : Nat} {x : Int32} {j : Int32} (h0 : 0 ≤ j.toInt) (h1 : j.toInt < n) : gI (List.replicate n x) j = x := by
  unfold gI
  rw [rdA_rep h0 h1]
  (first | done | rfl | simp)
/-! Longs -/
theorem lltI {a b : Int64} : a < b ↔ a.toInt < b.toInt := Int64.lt_iff_toInt_lt
theorem leqI {a b : Int64} : a = b ↔ a.toInt = b.toInt := Int64.toInt_inj.symm
theorem lrng (a : Int64) : -9223372036854775808 ≤ a.toInt ∧ a.toInt < 9223372036854775808 := ⟨Int64.le_toInt a, Int64.toInt_lt a⟩
theorem ladd_i {a b : Int64} (h1 : -9223372036854775808 ≤ a.toInt + b.toInt) (h2 : a.toInt + b.toInt < 9223372036854775808) : (a + b).toInt = a.toInt + b.toInt := by
  rw [Int64.toInt_add]; exact Int.bmod_eq_of_le (by omega) (by omega)
theorem lsub_i {a b : Int64} (h1 : -9223372036854775808 ≤ a.toInt - b.toInt) (h2 : a.toInt - b.toInt < 9223372036854775808) : (a - b).toInt = a.toInt - b.toInt := by
  rw [Int64.toInt_sub]; exact Int.bmod_eq_of_le (by omega) (by omega)
theorem lmul_i {a b : Int64} (h1 : -9223372036854775808 ≤ a.toInt * b.toInt) (h2 : a.toInt * b.toInt < 9223372036854775808) : (a * b).toInt = a.toInt * b.toInt := by
  rw [Int64.toInt_mul]; exact Int.bmod_eq_of_le (by omega) (by omega)
theorem lmod_i {a b : Int64} (h : 0 ≤ a.toInt) : (a % b).toInt = a.toInt % b.toInt := by
  rw [Int64.toInt_mod, Int.tmod_eq_emod_of_nonneg h]
theorem lback {a : Int64} (h1 : -2147483648 ≤ a.toInt) (h2 : a.toInt < 2147483648) : a.toInt32.toInt64 = a := by
  rw [leqI, Int32.toInt_toInt64, Int64.toInt_toInt32, bmod32]
  omega
theorem mulb {a b M : Int} (h0 : 0 ≤ a) (h1 : a ≤ M) (h2 : 0 ≤ b) (h3 : b ≤ M) : 0 ≤ a * b ∧ a * b ≤ M * M :=
  ⟨Int.mul_nonneg h0 h2, Int.mul_le_mul h1 h3 h2 (by omega)⟩
end Jvm.Own
namespace Jvm.Pilot.@@N@@
open Jvm Jvm.ClassFile Sem Op Lib Jvm.Free Jvm.Stand Jvm.LawKit Jvm.RoadKit Bundle Jvm.Own Jvm.Pilot.@@N@@.Jvm.D
def d_0 : MD := (x, code, maxLocals, ret, 0, 1, 999, 6, 90, [(0, .aload_n 0, 1, [], 0, 0), (1, .ifnonnull 5, 3, [], 0, 0), (4, .iconst 1, 1, [], 0, 0), (5, .ireturn, 1, [], 0, 0), (6, .new 7, 3, [], 0, 0), (9, .dup, 1, [], 0, 0), (10, .iconst 3, 1, [], 0, 0), (11, .iconst 5, 1, [], 0, 0), (12, .bipush 9, 2, [], 0, 0), (14, .iconst 4, 1, [], 0, 0), (15, .invokespecial 9, 3, [], 1, 0), (18, .astore_n 1, 1, [], 0, 0), (19, .new 7, 3, [], 0, 0), (22, .dup, 1, [], 0, 0), (23, .iconst 3, 1, [], 0, 0), (24, .iconst 5, 1, [], 0, 0), (25, .bipush 9, 2, [], 0, 0), (27, .iconst 4, 1, [], 0, 0), (28, .invokespecial 9, 3, [], 1, 0), (31, .astore_n 2, 1, [], 0, 0), (32, .iconst 0, 1, [], 0, 0), (33, .istore_n 3, 1, [], 0, 0), (34, .iload_n 3, 1, [false, false, false, false, true, true, true, true, true, true, true, true], 0, 0), (35, .iconst 4, 1, [], 0, 0), (36, .iadd, 1, [], 0, 0), (37, .aload_n 0, 1, [], 0, 0), (38, .arraylength, 1, [], 0, 0), (39, .if_icmp .gt 77, 3, [], 0, 0), (42, .aload_n 0, 1, [], 0, 0), (43, .iload_n 3, 1, [], 0, 0), (44, .iaload, 1, [], 0, 0), (45, .bipush 15, 2, [], 0, 0), (47, .iand, 1, [], 0, 0), (48, .istore 4, 2, [], 0, 0), (50, .aload_n 0, 1, [], 0, 0), (51, .iload_n 3, 1, [], 0, 0), (52, .iconst 1, 1, [], 0, 0), (53, .iadd, 1, [], 0, 0), (54, .iaload, 1, [], 0, 0), (55, .istore 5, 2, [], 0, 0), (57, .aload_n 0, 1, [], 0, 0), (58, .iload_n 3, 1, [], 0, 0), (59, .iconst 2, 1, [], 0, 0), (60, .iadd, 1, [], 0, 0), (61, .iaload, 1, [], 0, 0), (62, .istore 6, 2, [], 0, 0), (64, .aload_n 0, 1, [], 0, 0), (65, .iload_n 3, 1, [], 0, 0), (66, .iconst 3, 1, [], 0, 0), (67, .iadd, 1, [], 0, 0), (68, .iaload, 1, [], 0, 0), (69, .istore 7, 2, [], 0, 0), (71, .iload 4, 2, [], 0, 0), (73, .bipush 9, 2, [], 0, 0), (75, .if_icmp .ne 11, 3, [], 0, 0), (78, .aload_n 1, 1, [], 0, 0), (79, .invokevirtual 12, 3, [], 12, 0), (82, .pop, 1, [], 0, 0), (83, .goto 27, 3, [], 0, 0), (86, .aload_n 1, 1, [], 0, 0), (87, .iload 4, 2, [], 0, 0), (89, .iload 5, 2, [], 0, 0), (91, .iload 6, 2, [], 0, 0), (93, .iload 7, 2, [], 0, 0), (95, .invokestatic 16, 3, [], 3, 0), (98, .aload_n 2, 1, [], 0, 0), (99, .iload 4, 2, [], 0, 0), (101, .iload 5, 2, [], 0, 0), (103, .iload 6, 2, [], 0, 0), (105, .iload 7, 2, [], 0, 0), (107, .invokestatic 16, 3, [], 3, 0), (110, .iinc 3 4, 3, [], 0, 0), (113, .goto (-79), 3, [], 0, 0), (116, .iconst 0, 1, [], 0, 0), (117, .istore_n 3, 1, [], 0, 0), (118, .iload_n 3, 1, [true, false, false, false, true, true, true, true, true, true, true, true], 0, 0), (119, .bipush 15, 2, [], 0, 0), (121, .if_icmp .ge 32, 3, [], 0, 0), (124, .aload_n 1, 1, [], 0, 0), (125, .iload_n 3, 1, [], 0, 0), (126, .invokevirtual 22, 3, [], 8, 0), (129, .istore 4, 2, [], 0, 0), (131, .aload_n 2, 1, [], 0, 0), (132, .iload_n 3, 1, [], 0, 0), (133, .invokevirtual 22, 3, [], 8, 0), (136, .istore 5, 2, [], 0, 0), (138, .iload 4, 2, [], 0, 0), (140, .iload 5, 2, [], 0, 0), (142, .if_icmp .eq 5, 3, [], 0, 0), (145, .iconst 0, 1, [], 0, 0), (146, .ireturn, 1, [], 0, 0), (147, .iinc 3 1, 3, [], 0, 0), (150, .goto (-32), 3, [], 0, 0), (153, .aload_n 1, 1, [true, false, false, true, true, true, true, true, true, true, true, true], 0, 0), (154, .invokevirtual 26, 3, [], 9, 0), (157, .istore_n 3, 1, [], 0, 0), (158, .aload_n 2, 1, [], 0, 0), (159, .invokevirtual 26, 3, [], 9, 0), (162, .istore 4, 2, [], 0, 0), (164, .aload_n 1, 1, [], 0, 0), (165, .invokevirtual 29, 3, [], 10, 0), (168, .istore 5, 2, [], 0, 0), (170, .aload_n 2, 1, [], 0, 0), (171, .invokevirtual 29, 3, [], 10, 0), (174, .istore 6, 2, [], 0, 0), (176, .iload_n 3, 1, [], 0, 0), (177, .iload 4, 2, [], 0, 0), (179, .if_icmp .ne 10, 3, [], 0, 0), (182, .iload 5, 2, [], 0, 0), (184, .iload 6, 2, [], 0, 0), (186, .if_icmp .eq 5, 3, [], 0, 0), (189, .iconst 0, 1, [], 0, 0), (190, .ireturn, 1, [], 0, 0), (191, .iconst 0, 1, [], 0, 0), (192, .istore 7, 2, [], 0, 0), (194, .iload 7, 2, [true, false, false, true, true, true, true, false, true, true, true, true], 0, 0), (196, .sipush 400, 3, [], 0, 0), (199, .if_icmp .ge 34, 3, [], 0, 0), (202, .aload_n 1, 1, [], 0, 0), (203, .iload 7, 2, [], 0, 0), (205, .invokevirtual 32, 3, [], 11, 0), (208, .istore 8, 2, [], 0, 0), (210, .aload_n 2, 1, [], 0, 0), (211, .iload 7, 2, [], 0, 0), (213, .invokevirtual 32, 3, [], 11, 0), (216, .istore 9, 2, [], 0, 0), (218, .iload 8, 2, [], 0, 0), (220, .iload 9, 2, [], 0, 0), (222, .if_icmp .eq 5, 3, [], 0, 0), (225, .iconst 0, 1, [], 0, 0), (226, .ireturn, 1, [], 0, 0), (227, .iinc 7 1, 3, [], 0, 0), (230, .goto (-36), 3, [], 0, 0), (233, .aload_n 1, 1, [true, false, false, true, true, true, true, true, true, true, true, true], 0, 0), (234, .invokevirtual 12, 3, [], 12, 0), (237, .istore 7, 2, [], 0, 0), (239, .aload_n 2, 1, [], 0, 0), (240, .invokevirtual 12, 3, [], 12, 0), (243, .istore 8, 2, [], 0, 0), (245, .iload 7, 2, [], 0, 0), (247, .iload 8, 2, [], 0, 0), (249, .if_icmp .eq 5, 3, [], 0, 0), (252, .iconst 0, 1, [], 0, 0), (253, .ireturn, 1, [], 0, 0), (254, .iconst 0, 1, [], 0, 0), (255, .istore 9, 2, [], 0, 0), (257, .iload 9, 2, [true, false, false, true, true, true, true, true, true, false, true, true], 0, 0), (259, .bipush 15, 2, [], 0, 0), (261, .if_icmp .ge 34, 3, [], 0, 0), (264, .aload_n 1, 1, [], 0, 0), (265, .iload 9, 2, [], 0, 0), (267, .invokevirtual 35, 3, [], 14, 0), (270, .istore 10, 2, [], 0, 0), (272, .aload_n 2, 1, [], 0, 0), (273, .iload 9, 2, [], 0, 0), (275, .invokevirtual 35, 3, [], 14, 0), (278, .istore 11, 2, [], 0, 0), (280, .iload 10, 2, [], 0, 0), (282, .iload 11, 2, [], 0, 0), (284, .if_icmp .eq 5, 3, [], 0, 0), (287, .iconst 0, 1, [], 0, 0), (288, .ireturn, 1, [], 0, 0), (289, .iinc 9 1, 3, [], 0, 0), (292, .goto (-35), 3, [], 0, 0), (295, .iconst 1, 1, [], 0, 0), (296, .ireturn, 1, [], 0, 0)])
def d_1 : MD := (⟨"LzwIndexedImage", "<init>", "(IIII)V"⟩, prog_1_method_1_code, 7, none, 1, 4, 0, 1, 16, [(0, .aload_n 0, 1, [], 0, 0), (1, .invokespecial 1, 3, [], 0, -1), (4, .aload_n 0, 1, [], 0, 0), (5, .sipush 256, 3, [], 0, 0), (8, .newarray .int, 2, [], 0, 0), (10, .putfield 7, 3, [], 0, 0), (13, .aload_n 0, 1, [], 0, 0), (14, .sipush 400, 3, [], 0, 0), (17, .newarray .int, 2, [], 0, 0), (19, .putfield 13, 3, [], 1, 0), (22, .aload_n 0, 1, [], 0, 0), (23, .sipush 512, 3, [], 0, 0), (26, .newarray .int, 2, [], 0, 0), (28, .putfield 16, 3, [], 2, 0), (31, .aload_n 0, 1, [], 0, 0), (32, .sipush 256, 3, [], 0, 0), (35, .newarray .int, 2, [], 0, 0), (37, .putfield 19, 3, [], 3, 0), (40, .aload_n 0, 1, [], 0, 0), (41, .bipush 16, 2, [], 0, 0), (43, .newarray .int, 2, [], 0, 0), (45, .putfield 22, 3, [], 4, 0), (48, .aload_n 0, 1, [], 0, 0), (49, .sipush 256, 3, [], 0, 0), (52, .newarray .int, 2, [], 0, 0), (54, .putfield 25, 3, [], 5, 0), (57, .aload_n 0, 1, [], 0, 0), (58, .sipush 512, 3, [], 0, 0), (61, .newarray .int, 2, [], 0, 0), (63, .putfield 28, 3, [], 6, 0), (66, .aload_n 0, 1, [], 0, 0), (67, .sipush 512, 3, [], 0, 0), (70, .newarray .int, 2, [], 0, 0), (72, .putfield 31, 3, [], 7, 0), (75, .aload_n 0, 1, [], 0, 0), (76, .sipush 512, 3, [], 0, 0), (79, .newarray .int, 2, [], 0, 0), (81, .putfield 34, 3, [], 8, 0), (84, .aload_n 0, 1, [], 0, 0), (85, .sipush 512, 3, [], 0, 0), (88, .newarray .int, 2, [], 0, 0), (90, .putfield 37, 3, [], 9, 0), (93, .aload_n 0, 1, [], 0, 0), (94, .sipush 512, 3, [], 0, 0), (97, .newarray .int, 2, [], 0, 0), (99, .putfield 40, 3, [], 10, 0), (102, .aload_n 0, 1, [], 0, 0), (103, .sipush 512, 3, [], 0, 0), (106, .newarray .int, 2, [], 0, 0), (108, .putfield 43, 3, [], 11, 0), (111, .aload_n 0, 1, [], 0, 0), (112, .sipush 512, 3, [], 0, 0), (115, .newarray .int, 2, [], 0, 0), (117, .putfield 46, 3, [], 12, 0), (120, .aload_n 0, 1, [], 0, 0), (121, .sipush 512, 3, [], 0, 0), (124, .newarray .int, 2, [], 0, 0), (126, .putfield 49, 3, [], 13, 0), (129, .aload_n 0, 1, [], 0, 0), (130, .aload_n 0, 1, [], 0, 0), (131, .iload_n 1, 1, [], 0, 0), (132, .iconst 1, 1, [], 0, 0), (133, .bipush 16, 2, [], 0, 0), (135, .invokevirtual 52, 3, [], 2, 0), (138, .putfield 56, 3, [], 14, 0), (141, .aload_n 0, 1, [], 0, 0), (142, .aload_n 0, 1, [], 0, 0), (143, .iload_n 2, 1, [], 0, 0), (144, .iconst 1, 1, [], 0, 0), (145, .bipush 16, 2, [], 0, 0), (147, .invokevirtual 52, 3, [], 2, 0), (150, .putfield 60, 3, [], 15, 0), (153, .aload_n 0, 1, [], 0, 0), (154, .aload_n 0, 1, [], 0, 0), (155, .getfield 56, 3, [], 14, 0), (158, .aload_n 0, 1, [], 0, 0), (159, .getfield 60, 3, [], 15, 0), (162, .imul, 1, [], 0, 0), (163, .putfield 63, 3, [], 16, 0), (166, .aload_n 0, 1, [], 0, 0), (167, .aload_n 0, 1, [], 0, 0), (168, .iload_n 3, 1, [], 0, 0), (169, .iconst 2, 1, [], 0, 0), (170, .sipush 256, 3, [], 0, 0), (173, .invokevirtual 52, 3, [], 2, 0), (176, .putfield 66, 3, [], 17, 0), (179, .iconst 2, 1, [], 0, 0), (180, .istore 5, 2, [], 0, 0), (182, .iconst 0, 1, [], 0, 0), (183, .istore 6, 2, [], 0, 0), (185, .iload 6, 2, [false, true, true, true], 0, 0), (187, .bipush 8, 2, [], 0, 0), (189, .if_icmp .ge 30, 3, [], 0, 0), (192, .iconst 1, 1, [], 0, 0), (193, .iload 5, 2, [], 0, 0), (195, .ishl, 1, [], 0, 0), (196, .aload_n 0, 1, [], 0, 0), (197, .getfield 66, 3, [], 17, 0), (200, .if_icmp .ge 19, 3, [], 0, 0), (203, .iload 5, 2, [], 0, 0), (205, .bipush 8, 2, [], 0, 0), (207, .if_icmp .ge 12, 3, [], 0, 0), (210, .iinc 5 1, 3, [], 0, 0), (213, .iinc 6 1, 3, [], 0, 0), (216, .goto (-31), 3, [], 0, 0), (219, .aload_n 0, 1, [false, true, true, true, false, false, true], 0, 0), (220, .iload 5, 2, [], 0, 0), (222, .putfield 69, 3, [], 18, 0), (225, .aload_n 0, 1, [], 0, 0), (226, .iconst 1, 1, [], 0, 0), (227, .iload 5, 2, [], 0, 0), (229, .ishl, 1, [], 0, 0), (230, .putfield 72, 3, [], 19, 0), (233, .aload_n 0, 1, [], 0, 0), (234, .iload 4, 2, [], 0, 0), (236, .iconst 3, 1, [], 0, 0), (237, .bipush 9, 2, [], 0, 0), (239, .invokevirtual 52, 3, [], 2, 0), (242, .istore 6, 2, [], 0, 0), (244, .iload 6, 2, [], 0, 0), (246, .iload 5, 2, [], 0, 0), (248, .iconst 1, 1, [], 0, 0), (249, .iadd, 1, [], 0, 0), (250, .if_icmp .ge 9, 3, [], 0, 0), (253, .iload 5, 2, [], 0, 0), (255, .iconst 1, 1, [], 0, 0), (256, .iadd, 1, [], 0, 0), (257, .istore 6, 2, [], 0, 0), (259, .aload_n 0, 1, [false, true, true, true, true, true], 0, 0), (260, .iload 6, 2, [], 0, 0), (262, .putfield 75, 3, [], 20, 0), (265, .aload_n 0, 1, [], 0, 0), (266, .iconst 1, 1, [], 0, 0), (267, .iload 6, 2, [], 0, 0), (269, .ishl, 1, [], 0, 0), (270, .putfield 78, 3, [], 21, 0), (273, .aload_n 0, 1, [], 0, 0), (274, .iconst 0, 1, [], 0, 0), (275, .putfield 81, 3, [], 22, 0), (278, .aload_n 0, 1, [], 0, 0), (279, .sipush 255, 3, [], 0, 0), (282, .putfield 85, 3, [], 23, 0), (285, .aload_n 0, 1, [], 0, 0), (286, .iconst 0, 1, [], 0, 0), (287, .putfield 88, 3, [], 24, 0), (290, .aload_n 0, 1, [], 0, 0), (291, .iconst 0, 1, [], 0, 0), (292, .putfield 91, 3, [], 25, 0), (295, .aload_n 0, 1, [], 0, 0), (296, .iconst 0, 1, [], 0, 0), (297, .putfield 94, 3, [], 26, 0), (300, .aload_n 0, 1, [], 0, 0), (301, .iconst 1, 1, [], 0, 0), (302, .putfield 97, 3, [], 27, 0), (305, .return_, 1, [], 0, 0)])
def d_2 : MD := (⟨"LzwIndexedImage", "clamp", "(III)I"⟩, prog_1_method_2_code, 4, some .int, 2, 3, 0, 0, 0, [(0, .iload_n 1, 1, [], 0, 0), (1, .iload_n 2, 1, [], 0, 0), (2, .if_icmp .ge 5, 3, [], 0, 0), (5, .iload_n 2, 1, [], 0, 0), (6, .ireturn, 1, [], 0, 0), (7, .iload_n 1, 1, [], 0, 0), (8, .iload_n 3, 1, [], 0, 0), (9, .if_icmp .le 5, 3, [], 0, 0), (12, .iload_n 3, 1, [], 0, 0), (13, .ireturn, 1, [], 0, 0), (14, .iload_n 1, 1, [], 0, 0), (15, .ireturn, 1, [], 0, 0)])
def d_3 : MD := (⟨"LzwIndexedImageL5", "step", "(LLzwIndexedImage;IIII)V"⟩, method_3_code, 5, none, 0, 5, 999, 4, 61, [(0, .iload_n 1, 1, [], 0, 0), (1, .ifCond .ne 19, 3, [], 0, 0), (4, .aload_n 0, 1, [], 0, 0), (5, .iload_n 2, 1, [], 0, 0), (6, .ifCond .eq 7, 3, [], 0, 0), (9, .iconst 1, 1, [], 0, 0), (10, .goto 4, 3, [], 0, 0), (13, .iconst 0, 1, [], 0, 0), (14, .invokevirtual 38, 3, [true, true, true, true, true], 6, 0), (17, .goto 110, 3, [], 0, 0), (20, .iload_n 1, 1, [], 0, 0), (21, .iconst 1, 1, [], 0, 0), (22, .if_icmp .ne 12, 3, [], 0, 0), (25, .aload_n 0, 1, [], 0, 0), (26, .iload_n 2, 1, [], 0, 0), (27, .invokevirtual 42, 3, [], 5, 0), (30, .pop, 1, [], 0, 0), (31, .goto 96, 3, [], 0, 0), (34, .iload_n 1, 1, [], 0, 0), (35, .iconst 2, 1, [], 0, 0), (36, .if_icmp .ne 13, 3, [], 0, 0), (39, .aload_n 0, 1, [], 0, 0), (40, .iload_n 2, 1, [], 0, 0), (41, .iload_n 3, 1, [], 0, 0), (42, .invokevirtual 45, 3, [], 7, 0), (45, .pop, 1, [], 0, 0), (46, .goto 81, 3, [], 0, 0), (49, .iload_n 1, 1, [], 0, 0), (50, .iconst 3, 1, [], 0, 0), (51, .if_icmp .ne 15, 3, [], 0, 0), (54, .aload_n 0, 1, [], 0, 0), (55, .iload_n 2, 1, [], 0, 0), (56, .iload_n 3, 1, [], 0, 0), (57, .iload 4, 2, [], 0, 0), (59, .invokevirtual 49, 3, [], 4, 0), (62, .pop, 1, [], 0, 0), (63, .goto 64, 3, [], 0, 0), (66, .iload_n 1, 1, [], 0, 0), (67, .iconst 4, 1, [], 0, 0), (68, .if_icmp .ne 11, 3, [], 0, 0), (71, .aload_n 0, 1, [], 0, 0), (72, .invokevirtual 53, 3, [], 18, 0), (75, .pop, 1, [], 0, 0), (76, .goto 51, 3, [], 0, 0), (79, .iload_n 1, 1, [], 0, 0), (80, .iconst 5, 1, [], 0, 0), (81, .if_icmp .ne 10, 3, [], 0, 0), (84, .aload_n 0, 1, [], 0, 0), (85, .invokevirtual 56, 3, [], 28, 0), (88, .goto 39, 3, [], 0, 0), (91, .iload_n 1, 1, [], 0, 0), (92, .bipush 7, 2, [], 0, 0), (94, .if_icmp .ne 13, 3, [], 0, 0), (97, .aload_n 0, 1, [], 0, 0), (98, .iload_n 2, 1, [], 0, 0), (99, .iload_n 3, 1, [], 0, 0), (100, .invokevirtual 59, 3, [], 17, 0), (103, .pop, 1, [], 0, 0), (104, .goto 23, 3, [], 0, 0), (107, .iload_n 1, 1, [], 0, 0), (108, .bipush 8, 2, [], 0, 0), (110, .if_icmp .ne 11, 3, [], 0, 0), (113, .aload_n 0, 1, [], 0, 0), (114, .invokevirtual 62, 3, [], 15, 0), (117, .pop, 1, [], 0, 0), (118, .goto 9, 3, [], 0, 0), (121, .aload_n 0, 1, [], 0, 0), (122, .iload_n 2, 1, [], 0, 0), (123, .invokevirtual 65, 3, [], 16, 0), (126, .pop, 1, [], 0, 0), (127, .return_, 1, [], 0, 0)])
def d_4 : MD := (⟨"LzwIndexedImage", "fill", "(III)Z"⟩, prog_1_method_6_code, 5, some .boolean, 3, 3, 0, 0, 0, [(0, .iload_n 3, 1, [], 0, 0), (1, .ifCond .lt 23, 3, [], 0, 0), (4, .iload_n 3, 1, [], 0, 0), (5, .aload_n 0, 1, [], 0, 0), (6, .getfield 66, 3, [], 17, 0), (9, .if_icmp .ge 15, 3, [], 0, 0), (12, .iload_n 1, 1, [], 0, 0), (13, .ifCond .lt 11, 3, [], 0, 0), (16, .iload_n 1, 1, [], 0, 0), (17, .aload_n 0, 1, [], 0, 0), (18, .getfield 63, 3, [], 16, 0), (21, .if_icmp .lt 5, 3, [], 0, 0), (24, .iconst 0, 1, [], 0, 0), (25, .ireturn, 1, [], 0, 0), (26, .iload_n 2, 1, [], 0, 0), (27, .iconst 1, 1, [], 0, 0), (28, .if_icmp .lt 13, 3, [], 0, 0), (31, .iload_n 2, 1, [], 0, 0), (32, .aload_n 0, 1, [], 0, 0), (33, .getfield 63, 3, [], 16, 0), (36, .iload_n 1, 1, [], 0, 0), (37, .isub, 1, [], 0, 0), (38, .if_icmp .le 5, 3, [], 0, 0), (41, .iconst 0, 1, [], 0, 0), (42, .ireturn, 1, [], 0, 0), (43, .iload_n 1, 1, [], 0, 0), (44, .istore 4, 2, [], 0, 0), (46, .iload 4, 2, [], 0, 0), (48, .iload_n 1, 1, [], 0, 0), (49, .iload_n 2, 1, [], 0, 0), (50, .iadd, 1, [], 0, 0), (51, .if_icmp .ge 25, 3, [], 0, 0), (54, .iload 4, 2, [], 0, 0), (56, .sipush 256, 3, [], 0, 0), (59, .if_icmp .ge 17, 3, [], 0, 0), (62, .aload_n 0, 1, [], 0, 0), (63, .getfield 7, 3, [], 0, 0), (66, .iload 4, 2, [], 0, 0), (68, .iload_n 3, 1, [], 0, 0), (69, .iastore, 1, [], 0, 0), (70, .iinc 4 1, 3, [], 0, 0), (73, .goto (-27), 3, [], 0, 0), (76, .iconst 1, 1, [], 0, 0), (77, .ireturn, 1, [], 0, 0)])
def d_5 : MD := (⟨"LzwIndexedImage", "setBlockSize", "(I)I"⟩, prog_1_method_4_code, 2, some .int, 3, 1, 0, 1, 16, [(0, .aload_n 0, 1, [], 0, 0), (1, .aload_n 0, 1, [], 0, 0), (2, .iload_n 1, 1, [], 0, 0), (3, .iconst 4, 1, [], 0, 0), (4, .sipush 255, 3, [], 0, 0), (7, .invokevirtual 52, 3, [], 2, 0), (10, .putfield 85, 3, [], 23, 0), (13, .aload_n 0, 1, [], 0, 0), (14, .getfield 85, 3, [], 23, 0), (17, .ireturn, 1, [], 0, 0)])
def d_6 : MD := (⟨"LzwIndexedImage", "setInterlaced", "(Z)V"⟩, prog_1_method_3_code, 2, none, 3, 1, 0, 0, 0, [(0, .aload_n 0, 1, [], 0, 0), (1, .iload_n 1, 1, [], 0, 0), (2, .putfield 81, 3, [], 22, 0), (5, .return_, 1, [], 0, 0)])
def d_7 : MD := (⟨"LzwIndexedImage", "setPixel", "(II)Z"⟩, prog_1_method_5_code, 3, some .boolean, 3, 2, 0, 0, 0, [(0, .iload_n 1, 1, [], 0, 0), (1, .ifCond .lt 23, 3, [], 0, 0), (4, .iload_n 1, 1, [], 0, 0), (5, .aload_n 0, 1, [], 0, 0), (6, .getfield 63, 3, [], 16, 0), (9, .if_icmp .ge 15, 3, [], 0, 0), (12, .iload_n 2, 1, [], 0, 0), (13, .ifCond .lt 11, 3, [], 0, 0), (16, .iload_n 2, 1, [], 0, 0), (17, .aload_n 0, 1, [], 0, 0), (18, .getfield 66, 3, [], 17, 0), (21, .if_icmp .lt 5, 3, [], 0, 0), (24, .iconst 0, 1, [], 0, 0), (25, .ireturn, 1, [], 0, 0), (26, .aload_n 0, 1, [], 0, 0), (27, .getfield 7, 3, [], 0, 0), (30, .iload_n 1, 1, [], 0, 0), (31, .iload_n 2, 1, [], 0, 0), (32, .iastore, 1, [], 0, 0), (33, .iconst 1, 1, [], 0, 0), (34, .ireturn, 1, [], 0, 0)])
def d_8 : MD := (⟨"LzwIndexedImage", "getPixel", "(I)I"⟩, prog_1_method_7_code, 2, some .int, 3, 1, 0, 0, 0, [(0, .iload_n 1, 1, [], 0, 0), (1, .ifCond .lt 11, 3, [], 0, 0), (4, .iload_n 1, 1, [], 0, 0), (5, .aload_n 0, 1, [], 0, 0), (6, .getfield 63, 3, [], 16, 0), (9, .if_icmp .lt 5, 3, [], 0, 0), (12, .iconst (-1), 1, [], 0, 0), (13, .ireturn, 1, [], 0, 0), (14, .aload_n 0, 1, [], 0, 0), (15, .getfield 7, 3, [], 0, 0), (18, .iload_n 1, 1, [], 0, 0), (19, .iaload, 1, [], 0, 0), (20, .ireturn, 1, [], 0, 0)])
def d_9 : MD := (⟨"LzwIndexedImage", "getOutLength", "()I"⟩, prog_1_method_19_code, 1, some .int, 3, 0, 0, 0, 0, [(0, .aload_n 0, 1, [], 0, 0), (1, .getfield 88, 3, [], 24, 0), (4, .ireturn, 1, [], 0, 0)])
def d_10 : MD := (⟨"LzwIndexedImage", "getInLength", "()I"⟩, prog_1_method_25_code, 1, some .int, 3, 0, 0, 0, 0, [(0, .aload_n 0, 1, [], 0, 0), (1, .getfield 91, 3, [], 25, 0), (4, .ireturn, 1, [], 0, 0)])
def d_11 : MD := (⟨"LzwIndexedImage", "getOutByte", "(I)I"⟩, prog_1_method_20_code, 2, some .int, 3, 1, 0, 0, 0, [(0, .iload_n 1, 1, [], 0, 0), (1, .ifCond .lt 11, 3, [], 0, 0), (4, .iload_n 1, 1, [], 0, 0), (5, .aload_n 0, 1, [], 0, 0), (6, .getfield 88, 3, [], 24, 0), (9, .if_icmp .lt 5, 3, [], 0, 0), (12, .iconst (-1), 1, [], 0, 0), (13, .ireturn, 1, [], 0, 0), (14, .aload_n 0, 1, [], 0, 0), (15, .getfield 13, 3, [], 1, 0), (18, .iload_n 1, 1, [], 0, 0), (19, .iaload, 1, [], 0, 0), (20, .ireturn, 1, [], 0, 0)])
def d_12 : MD := (⟨"LzwIndexedImage", "decode", "()I"⟩, prog_1_method_26_code, 4, some .int, 3, 0, 0, 5, 75, [(0, .aload_n 0, 1, [], 0, 0), (1, .invokevirtual 143, 3, [], 13, 0), (4, .istore_n 1, 1, [], 0, 0), (5, .aload_n 0, 1, [], 0, 0), (6, .iload_n 1, 1, [], 0, 0), (7, .putfield 97, 3, [], 27, 0), (10, .iload_n 1, 1, [], 0, 0), (11, .ifCond .ne 60, 3, [], 0, 0), (14, .aload_n 0, 1, [], 0, 0), (15, .invokevirtual 103, 3, [], 19, 0), (18, .iconst 0, 1, [], 0, 0), (19, .istore_n 2, 1, [], 0, 0), (20, .iload_n 2, 1, [false, false, false, true], 0, 0), (21, .aload_n 0, 1, [], 0, 0), (22, .getfield 63, 3, [], 16, 0), (25, .if_icmp .ge 38, 3, [], 0, 0), (28, .aload_n 0, 1, [], 0, 0), (29, .iload_n 2, 1, [], 0, 0), (30, .invokevirtual 106, 3, [], 20, 0), (33, .istore_n 3, 1, [], 0, 0), (34, .iload_n 3, 1, [], 0, 0), (35, .ifCond .lt 22, 3, [], 0, 0), (38, .iload_n 3, 1, [], 0, 0), (39, .sipush 256, 3, [], 0, 0), (42, .if_icmp .ge 15, 3, [], 0, 0), (45, .aload_n 0, 1, [], 0, 0), (46, .getfield 19, 3, [], 3, 0), (49, .iload_n 3, 1, [], 0, 0), (50, .aload_n 0, 1, [], 0, 0), (51, .getfield 25, 3, [], 5, 0), (54, .iload_n 2, 1, [], 0, 0), (55, .iaload, 1, [], 0, 0), (56, .iastore, 1, [], 0, 0), (57, .iinc 2 1, 3, [], 0, 0), (60, .goto (-40), 3, [], 0, 0), (63, .aload_n 0, 1, [false, false, true, true], 0, 0), (64, .iconst 1, 1, [], 0, 0), (65, .putfield 94, 3, [], 26, 0), (68, .goto 8, 3, [], 0, 0), (71, .aload_n 0, 1, [], 0, 0), (72, .iconst 0, 1, [], 0, 0), (73, .putfield 94, 3, [], 26, 0), (76, .iload_n 1, 1, [], 0, 0), (77, .ireturn, 1, [], 0, 0)])
def d_13 : MD := (⟨"LzwIndexedImage", "decodeSteps", "()I"⟩, prog_1_method_27_code, 2, some .int, 2, 0, 0, 4, 62, [(0, .aload_n 0, 1, [], 0, 0), (1, .getfield 91, 3, [], 25, 0), (4, .ifCond .ne 5, 3, [], 0, 0), (7, .iconst (-1), 1, [], 0, 0), (8, .ireturn, 1, [], 0, 0), (9, .aload_n 0, 1, [], 0, 0), (10, .getfield 16, 3, [], 2, 0), (13, .iconst 0, 1, [], 0, 0), (14, .iaload, 1, [], 0, 0), (15, .aload_n 0, 1, [], 0, 0), (16, .getfield 69, 3, [], 18, 0), (19, .if_icmp .eq 6, 3, [], 0, 0), (22, .bipush (-2), 2, [], 0, 0), (24, .ireturn, 1, [], 0, 0), (25, .aload_n 0, 1, [], 0, 0), (26, .invokevirtual 147, 3, [], 30, 0), (29, .ifCond .ne 6, 3, [], 0, 0), (32, .bipush (-3), 2, [], 0, 0), (34, .ireturn, 1, [], 0, 0), (35, .aload_n 0, 1, [], 0, 0), (36, .invokevirtual 151, 3, [], 31, 0), (39, .istore_n 1, 1, [], 0, 0), (40, .iload_n 1, 1, [], 0, 0), (41, .ifCond .eq 5, 3, [], 0, 0), (44, .iload_n 1, 1, [], 0, 0), (45, .ireturn, 1, [], 0, 0), (46, .aload_n 0, 1, [], 0, 0), (47, .getfield 154, 3, [], 36, 0), (50, .aload_n 0, 1, [], 0, 0), (51, .getfield 63, 3, [], 16, 0), (54, .if_icmp .ge 6, 3, [], 0, 0), (57, .bipush (-8), 2, [], 0, 0), (59, .ireturn, 1, [], 0, 0), (60, .iconst 0, 1, [], 0, 0), (61, .ireturn, 1, [], 0, 0)])
def d_14 : MD := (⟨"LzwIndexedImage", "getDecodedPixel", "(I)I"⟩, prog_1_method_36_code, 2, some .int, 3, 1, 0, 0, 0, [(0, .aload_n 0, 1, [], 0, 0), (1, .getfield 94, 3, [], 26, 0), (4, .ifCond .eq 15, 3, [], 0, 0), (7, .iload_n 1, 1, [], 0, 0), (8, .ifCond .lt 11, 3, [], 0, 0), (11, .iload_n 1, 1, [], 0, 0), (12, .aload_n 0, 1, [], 0, 0), (13, .getfield 63, 3, [], 16, 0), (16, .if_icmp .lt 5, 3, [], 0, 0), (19, .iconst (-1), 1, [], 0, 0), (20, .ireturn, 1, [], 0, 0), (21, .aload_n 0, 1, [], 0, 0), (22, .getfield 19, 3, [], 3, 0), (25, .iload_n 1, 1, [], 0, 0), (26, .iaload, 1, [], 0, 0), (27, .ireturn, 1, [], 0, 0)])
def d_15 : MD := (⟨"LzwIndexedImage", "loadInFromOut", "()I"⟩, prog_1_method_24_code, 3, some .int, 3, 0, 0, 0, 0, [(0, .iconst 0, 1, [], 0, 0), (1, .istore_n 1, 1, [], 0, 0), (2, .iconst 0, 1, [], 0, 0), (3, .istore_n 2, 1, [], 0, 0), (4, .iload_n 2, 1, [], 0, 0), (5, .aload_n 0, 1, [], 0, 0), (6, .getfield 88, 3, [], 24, 0), (9, .if_icmp .ge 31, 3, [], 0, 0), (12, .iload_n 2, 1, [], 0, 0), (13, .sipush 512, 3, [], 0, 0), (16, .if_icmp .ge 24, 3, [], 0, 0), (19, .aload_n 0, 1, [], 0, 0), (20, .getfield 16, 3, [], 2, 0), (23, .iload_n 2, 1, [], 0, 0), (24, .aload_n 0, 1, [], 0, 0), (25, .getfield 13, 3, [], 1, 0), (28, .iload_n 2, 1, [], 0, 0), (29, .iaload, 1, [], 0, 0), (30, .iastore, 1, [], 0, 0), (31, .iinc 1 1, 3, [], 0, 0), (34, .iinc 2 1, 3, [], 0, 0), (37, .goto (-33), 3, [], 0, 0), (40, .aload_n 0, 1, [false, false, true], 0, 0), (41, .iload_n 1, 1, [], 0, 0), (42, .putfield 91, 3, [], 25, 0), (45, .aload_n 0, 1, [], 0, 0), (46, .getfield 91, 3, [], 25, 0), (49, .ireturn, 1, [], 0, 0)])
def d_16 : MD := (⟨"LzwIndexedImage", "putInByte", "(I)Z"⟩, prog_1_method_22_code, 2, some .boolean, 3, 1, 0, 0, 0, [(0, .iload_n 1, 1, [], 0, 0), (1, .ifCond .lt 20, 3, [], 0, 0), (4, .iload_n 1, 1, [], 0, 0), (5, .sipush 255, 3, [], 0, 0), (8, .if_icmp .gt 13, 3, [], 0, 0), (11, .aload_n 0, 1, [], 0, 0), (12, .getfield 91, 3, [], 25, 0), (15, .sipush 512, 3, [], 0, 0), (18, .if_icmp .lt 5, 3, [], 0, 0), (21, .iconst 0, 1, [], 0, 0), (22, .ireturn, 1, [], 0, 0), (23, .aload_n 0, 1, [], 0, 0), (24, .getfield 16, 3, [], 2, 0), (27, .aload_n 0, 1, [], 0, 0), (28, .getfield 91, 3, [], 25, 0), (31, .iload_n 1, 1, [], 0, 0), (32, .iastore, 1, [], 0, 0), (33, .aload_n 0, 1, [], 0, 0), (34, .dup, 1, [], 0, 0), (35, .getfield 91, 3, [], 25, 0), (38, .iconst 1, 1, [], 0, 0), (39, .iadd, 1, [], 0, 0), (40, .putfield 91, 3, [], 25, 0), (43, .iconst 1, 1, [], 0, 0), (44, .ireturn, 1, [], 0, 0)])
def d_17 : MD := (⟨"LzwIndexedImage", "setInByte", "(II)Z"⟩, prog_1_method_23_code, 3, some .boolean, 3, 2, 0, 0, 0, [(0, .iload_n 1, 1, [], 0, 0), (1, .ifCond .lt 22, 3, [], 0, 0), (4, .iload_n 1, 1, [], 0, 0), (5, .aload_n 0, 1, [], 0, 0), (6, .getfield 91, 3, [], 25, 0), (9, .if_icmp .ge 14, 3, [], 0, 0), (12, .iload_n 2, 1, [], 0, 0), (13, .ifCond .lt 10, 3, [], 0, 0), (16, .iload_n 2, 1, [], 0, 0), (17, .sipush 255, 3, [], 0, 0), (20, .if_icmp .le 5, 3, [], 0, 0), (23, .iconst 0, 1, [], 0, 0), (24, .ireturn, 1, [], 0, 0), (25, .aload_n 0, 1, [], 0, 0), (26, .getfield 16, 3, [], 2, 0), (29, .iload_n 1, 1, [], 0, 0), (30, .iload_n 2, 1, [], 0, 0), (31, .iastore, 1, [], 0, 0), (32, .iconst 1, 1, [], 0, 0), (33, .ireturn, 1, [], 0, 0)])
def d_18 : MD := (⟨"LzwIndexedImage", "encode", "()I"⟩, prog_1_method_11_code, 3, some .int, 3, 0, 0, 3, 47, [(0, .aload_n 0, 1, [], 0, 0), (1, .invokevirtual 103, 3, [], 19, 0), (4, .iconst 0, 1, [], 0, 0), (5, .istore_n 1, 1, [], 0, 0), (6, .iload_n 1, 1, [false, false, true], 0, 0), (7, .aload_n 0, 1, [], 0, 0), (8, .getfield 63, 3, [], 16, 0), (11, .if_icmp .ge 38, 3, [], 0, 0), (14, .aload_n 0, 1, [], 0, 0), (15, .iload_n 1, 1, [], 0, 0), (16, .invokevirtual 106, 3, [], 20, 0), (19, .istore_n 2, 1, [], 0, 0), (20, .iload_n 2, 1, [], 0, 0), (21, .ifCond .lt 22, 3, [], 0, 0), (24, .iload_n 2, 1, [], 0, 0), (25, .sipush 256, 3, [], 0, 0), (28, .if_icmp .ge 15, 3, [], 0, 0), (31, .aload_n 0, 1, [], 0, 0), (32, .getfield 25, 3, [], 5, 0), (35, .iload_n 1, 1, [], 0, 0), (36, .aload_n 0, 1, [], 0, 0), (37, .getfield 7, 3, [], 0, 0), (40, .iload_n 2, 1, [], 0, 0), (41, .iaload, 1, [], 0, 0), (42, .iastore, 1, [], 0, 0), (43, .iinc 1 1, 3, [], 0, 0), (46, .goto (-40), 3, [], 0, 0), (49, .aload_n 0, 1, [false, true, true], 0, 0), (50, .invokevirtual 110, 3, [], 21, 0), (53, .aload_n 0, 1, [], 0, 0), (54, .invokevirtual 113, 3, [], 26, 0), (57, .aload_n 0, 1, [], 0, 0), (58, .getfield 88, 3, [], 24, 0), (61, .ireturn, 1, [], 0, 0)])
def d_19 : MD := (⟨"LzwIndexedImage", "buildRowOrder", "()V"⟩, prog_1_method_8_code, 2, none, 2, 0, 0, 1, 17, [(0, .aload_n 0, 1, [], 0, 0), (1, .getfield 81, 3, [], 22, 0), (4, .ifCond .ne 33, 3, [], 0, 0), (7, .iconst 0, 1, [], 0, 0), (8, .istore_n 1, 1, [], 0, 0), (9, .iload_n 1, 1, [], 0, 0), (10, .aload_n 0, 1, [], 0, 0), (11, .getfield 60, 3, [], 15, 0), (14, .if_icmp .ge 22, 3, [], 0, 0), (17, .iload_n 1, 1, [], 0, 0), (18, .bipush 16, 2, [], 0, 0), (20, .if_icmp .ge 16, 3, [], 0, 0), (23, .aload_n 0, 1, [], 0, 0), (24, .getfield 22, 3, [], 4, 0), (27, .iload_n 1, 1, [], 0, 0), (28, .iload_n 1, 1, [], 0, 0), (29, .iastore, 1, [], 0, 0), (30, .iinc 1 1, 3, [], 0, 0), (33, .goto (-24), 3, [], 0, 0), (36, .return_, 1, [], 0, 0), (37, .aload_n 0, 1, [], 0, 0), (38, .iconst 0, 1, [], 0, 0), (39, .iconst 0, 1, [], 0, 0), (40, .bipush 8, 2, [], 0, 0), (42, .invokevirtual 100, 3, [], 29, 0), (45, .istore_n 1, 1, [], 0, 0), (46, .aload_n 0, 1, [], 0, 0), (47, .iload_n 1, 1, [], 0, 0), (48, .iconst 4, 1, [], 0, 0), (49, .bipush 8, 2, [], 0, 0), (51, .invokevirtual 100, 3, [], 29, 0), (54, .istore_n 1, 1, [], 0, 0), (55, .aload_n 0, 1, [], 0, 0), (56, .iload_n 1, 1, [], 0, 0), (57, .iconst 2, 1, [], 0, 0), (58, .iconst 4, 1, [], 0, 0), (59, .invokevirtual 100, 3, [], 29, 0), (62, .istore_n 1, 1, [], 0, 0), (63, .aload_n 0, 1, [], 0, 0), (64, .iload_n 1, 1, [], 0, 0), (65, .iconst 1, 1, [], 0, 0), (66, .iconst 2, 1, [], 0, 0), (67, .invokevirtual 100, 3, [], 29, 0), (70, .pop, 1, [], 0, 0), (71, .return_, 1, [], 0, 0)])
def d_20 : MD := (⟨"LzwIndexedImage", "rasterOf", "(I)I"⟩, prog_1_method_10_code, 4, some .int, 2, 1, 0, 0, 0, [(0, .iload_n 1, 1, [], 0, 0), (1, .aload_n 0, 1, [], 0, 0), (2, .getfield 56, 3, [], 14, 0), (5, .idiv, 1, [], 0, 0), (6, .istore_n 2, 1, [], 0, 0), (7, .iload_n 1, 1, [], 0, 0), (8, .aload_n 0, 1, [], 0, 0), (9, .getfield 56, 3, [], 14, 0), (12, .irem, 1, [], 0, 0), (13, .istore_n 3, 1, [], 0, 0), (14, .iload_n 2, 1, [], 0, 0), (15, .ifCond .lt 9, 3, [], 0, 0), (18, .iload_n 2, 1, [], 0, 0), (19, .bipush 16, 2, [], 0, 0), (21, .if_icmp .lt 5, 3, [], 0, 0), (24, .iconst 0, 1, [], 0, 0), (25, .ireturn, 1, [], 0, 0), (26, .aload_n 0, 1, [], 0, 0), (27, .getfield 22, 3, [], 4, 0), (30, .iload_n 2, 1, [], 0, 0), (31, .iaload, 1, [], 0, 0), (32, .aload_n 0, 1, [], 0, 0), (33, .getfield 56, 3, [], 14, 0), (36, .imul, 1, [], 0, 0), (37, .iload_n 3, 1, [], 0, 0), (38, .iadd, 1, [], 0, 0), (39, .ireturn, 1, [], 0, 0)])
def d_21 : MD := (⟨"LzwIndexedImage", "compress", "()V"⟩, prog_1_method_12_code, 5, none, 2, 0, 0, 2, 31, [(0, .aload_n 0, 1, [], 0, 0), (1, .iconst 0, 1, [], 0, 0), (2, .putfield 116, 3, [], 28, 0), (5, .aload_n 0, 1, [], 0, 0), (6, .aload_n 0, 1, [], 0, 0), (7, .getfield 78, 3, [], 21, 0), (10, .invokevirtual 119, 3, [], 22, 0), (13, .aload_n 0, 1, [], 0, 0), (14, .aload_n 0, 1, [], 0, 0), (15, .getfield 69, 3, [], 18, 0), (18, .iconst 1, 1, [], 0, 0), (19, .iadd, 1, [], 0, 0), (20, .putfield 123, 3, [], 29, 0), (23, .aload_n 0, 1, [], 0, 0), (24, .aload_n 0, 1, [], 0, 0), (25, .getfield 72, 3, [], 19, 0), (28, .iconst 2, 1, [], 0, 0), (29, .iadd, 1, [], 0, 0), (30, .putfield 126, 3, [], 30, 0), (33, .aload_n 0, 1, [], 0, 0), (34, .aload_n 0, 1, [], 0, 0), (35, .getfield 72, 3, [], 19, 0), (38, .invokevirtual 129, 3, [], 23, 0), (41, .aload_n 0, 1, [], 0, 0), (42, .getfield 25, 3, [], 5, 0), (45, .iconst 0, 1, [], 0, 0), (46, .iaload, 1, [], 0, 0), (47, .istore_n 1, 1, [], 0, 0), (48, .iconst 1, 1, [], 0, 0), (49, .istore_n 2, 1, [], 0, 0), (50, .iload_n 2, 1, [false, false, false, true, true], 0, 0), (51, .aload_n 0, 1, [], 0, 0), (52, .getfield 63, 3, [], 16, 0), (55, .if_icmp .ge 48, 3, [], 0, 0), (58, .aload_n 0, 1, [], 0, 0), (59, .getfield 25, 3, [], 5, 0), (62, .iload_n 2, 1, [], 0, 0), (63, .iaload, 1, [], 0, 0), (64, .istore_n 3, 1, [], 0, 0), (65, .aload_n 0, 1, [], 0, 0), (66, .iload_n 1, 1, [], 0, 0), (67, .iload_n 3, 1, [], 0, 0), (68, .invokevirtual 132, 3, [], 24, 0), (71, .istore 4, 2, [], 0, 0), (73, .iload 4, 2, [], 0, 0), (75, .ifCond .lt 9, 3, [], 0, 0), (78, .iload 4, 2, [], 0, 0), (80, .istore_n 1, 1, [], 0, 0), (81, .goto 16, 3, [], 0, 0), (84, .aload_n 0, 1, [], 0, 0), (85, .iload_n 1, 1, [], 0, 0), (86, .invokevirtual 129, 3, [], 23, 0), (89, .aload_n 0, 1, [], 0, 0), (90, .iload_n 1, 1, [], 0, 0), (91, .iload_n 3, 1, [], 0, 0), (92, .invokevirtual 136, 3, [], 25, 0), (95, .iload_n 3, 1, [], 0, 0), (96, .istore_n 1, 1, [], 0, 0), (97, .iinc 2 1, 3, [], 0, 0), (100, .goto (-50), 3, [], 0, 0), (103, .aload_n 0, 1, [false, false, true, true, true], 0, 0), (104, .iload_n 1, 1, [], 0, 0), (105, .invokevirtual 129, 3, [], 23, 0), (108, .aload_n 0, 1, [], 0, 0), (109, .aload_n 0, 1, [], 0, 0), (110, .getfield 72, 3, [], 19, 0), (113, .iconst 1, 1, [], 0, 0), (114, .iadd, 1, [], 0, 0), (115, .invokevirtual 129, 3, [], 23, 0), (118, .return_, 1, [], 0, 0)])
def d_22 : MD := (⟨"LzwIndexedImage", "resetEncoderTable", "(I)V"⟩, prog_1_method_13_code, 3, none, 2, 1, 0, 0, 0, [(0, .iconst 0, 1, [], 0, 0), (1, .istore_n 2, 1, [], 0, 0), (2, .iload_n 2, 1, [], 0, 0), (3, .iload_n 1, 1, [], 0, 0), (4, .if_icmp .ge 23, 3, [], 0, 0), (7, .iload_n 2, 1, [], 0, 0), (8, .sipush 512, 3, [], 0, 0), (11, .if_icmp .ge 16, 3, [], 0, 0), (14, .aload_n 0, 1, [], 0, 0), (15, .getfield 31, 3, [], 7, 0), (18, .iload_n 2, 1, [], 0, 0), (19, .iconst (-1), 1, [], 0, 0), (20, .iastore, 1, [], 0, 0), (21, .iinc 2 1, 3, [], 0, 0), (24, .goto (-22), 3, [], 0, 0), (27, .return_, 1, [], 0, 0)])
def d_23 : MD := (⟨"LzwIndexedImage", "putCode", "(I)V"⟩, prog_1_method_16_code, 5, none, 2, 1, 0, 0, 0, [(0, .iconst 0, 1, [], 0, 0), (1, .istore_n 2, 1, [], 0, 0), (2, .iload_n 2, 1, [false, false, false, true, true], 0, 0), (3, .aload_n 0, 1, [], 0, 0), (4, .getfield 123, 3, [], 29, 0), (7, .if_icmp .ge 83, 3, [], 0, 0), (10, .aload_n 0, 1, [], 0, 0), (11, .getfield 116, 3, [], 28, 0), (14, .iconst 3, 1, [], 0, 0), (15, .ishr, 1, [], 0, 0), (16, .istore_n 3, 1, [], 0, 0), (17, .aload_n 0, 1, [], 0, 0), (18, .getfield 116, 3, [], 28, 0), (21, .bipush 7, 2, [], 0, 0), (23, .iand, 1, [], 0, 0), (24, .istore 4, 2, [], 0, 0), (26, .iload_n 3, 1, [], 0, 0), (27, .ifCond .lt 47, 3, [], 0, 0), (30, .iload_n 3, 1, [], 0, 0), (31, .sipush 512, 3, [], 0, 0), (34, .if_icmp .ge 40, 3, [], 0, 0), (37, .iload 4, 2, [], 0, 0), (39, .ifCond .ne 10, 3, [], 0, 0), (42, .aload_n 0, 1, [], 0, 0), (43, .getfield 28, 3, [], 6, 0), (46, .iload_n 3, 1, [], 0, 0), (47, .iconst 0, 1, [], 0, 0), (48, .iastore, 1, [], 0, 0), (49, .iload_n 1, 1, [], 0, 0), (50, .iload_n 2, 1, [], 0, 0), (51, .ishr, 1, [], 0, 0), (52, .iconst 1, 1, [], 0, 0), (53, .iand, 1, [], 0, 0), (54, .ifCond .eq 20, 3, [], 0, 0), (57, .aload_n 0, 1, [], 0, 0), (58, .getfield 28, 3, [], 6, 0), (61, .iload_n 3, 1, [], 0, 0), (62, .aload_n 0, 1, [], 0, 0), (63, .getfield 28, 3, [], 6, 0), (66, .iload_n 3, 1, [], 0, 0), (67, .iaload, 1, [], 0, 0), (68, .iconst 1, 1, [], 0, 0), (69, .iload 4, 2, [], 0, 0), (71, .ishl, 1, [], 0, 0), (72, .ior, 1, [], 0, 0), (73, .iastore, 1, [], 0, 0), (74, .aload_n 0, 1, [false, false, false, true, true], 0, 0), (75, .dup, 1, [], 0, 0), (76, .getfield 116, 3, [], 28, 0), (79, .iconst 1, 1, [], 0, 0), (80, .iadd, 1, [], 0, 0), (81, .putfield 116, 3, [], 28, 0), (84, .iinc 2 1, 3, [], 0, 0), (87, .goto (-85), 3, [], 0, 0), (90, .return_, 1, [], 0, 0)])
def d_24 : MD := (⟨"LzwIndexedImage", "findChild", "(II)I"⟩, prog_1_method_14_code, 5, some .int, 2, 2, 0, 0, 0, [(0, .iload_n 1, 1, [], 0, 0), (1, .ifCond .lt 10, 3, [], 0, 0), (4, .iload_n 1, 1, [], 0, 0), (5, .sipush 512, 3, [], 0, 0), (8, .if_icmp .lt 5, 3, [], 0, 0), (11, .iconst (-1), 1, [], 0, 0), (12, .ireturn, 1, [], 0, 0), (13, .aload_n 0, 1, [], 0, 0), (14, .getfield 31, 3, [], 7, 0), (17, .iload_n 1, 1, [], 0, 0), (18, .iaload, 1, [], 0, 0), (19, .istore_n 3, 1, [], 0, 0), (20, .iconst 0, 1, [], 0, 0), (21, .istore 4, 2, [], 0, 0), (23, .iload 4, 2, [false, true], 0, 0), (25, .sipush 512, 3, [], 0, 0), (28, .if_icmp .ge 39, 3, [], 0, 0), (31, .iload_n 3, 1, [], 0, 0), (32, .ifCond .lt 35, 3, [], 0, 0), (35, .iload_n 3, 1, [], 0, 0), (36, .sipush 512, 3, [], 0, 0), (39, .if_icmp .ge 28, 3, [], 0, 0), (42, .aload_n 0, 1, [], 0, 0), (43, .getfield 37, 3, [], 9, 0), (46, .iload_n 3, 1, [], 0, 0), (47, .iaload, 1, [], 0, 0), (48, .iload_n 2, 1, [], 0, 0), (49, .if_icmp .ne 5, 3, [], 0, 0), (52, .iload_n 3, 1, [], 0, 0), (53, .ireturn, 1, [], 0, 0), (54, .aload_n 0, 1, [], 0, 0), (55, .getfield 34, 3, [], 8, 0), (58, .iload_n 3, 1, [], 0, 0), (59, .iaload, 1, [], 0, 0), (60, .istore_n 3, 1, [], 0, 0), (61, .iinc 4 1, 3, [], 0, 0), (64, .goto (-41), 3, [], 0, 0), (67, .iconst (-1), 1, [], 0, 0), (68, .ireturn, 1, [], 0, 0)])
def d_25 : MD := (⟨"LzwIndexedImage", "addEncoderCode", "(II)V"⟩, prog_1_method_15_code, 4, none, 2, 2, 0, 1, 16, [(0, .aload_n 0, 1, [], 0, 0), (1, .getfield 126, 3, [], 30, 0), (4, .istore_n 3, 1, [], 0, 0), (5, .iload_n 3, 1, [], 0, 0), (6, .ifCond .lt 54, 3, [], 0, 0), (9, .iload_n 3, 1, [], 0, 0), (10, .sipush 512, 3, [], 0, 0), (13, .if_icmp .ge 47, 3, [], 0, 0), (16, .iload_n 1, 1, [], 0, 0), (17, .ifCond .lt 43, 3, [], 0, 0), (20, .iload_n 1, 1, [], 0, 0), (21, .sipush 512, 3, [], 0, 0), (24, .if_icmp .ge 36, 3, [], 0, 0), (27, .aload_n 0, 1, [], 0, 0), (28, .getfield 37, 3, [], 9, 0), (31, .iload_n 3, 1, [], 0, 0), (32, .iload_n 2, 1, [], 0, 0), (33, .iastore, 1, [], 0, 0), (34, .aload_n 0, 1, [], 0, 0), (35, .getfield 34, 3, [], 8, 0), (38, .iload_n 3, 1, [], 0, 0), (39, .aload_n 0, 1, [], 0, 0), (40, .getfield 31, 3, [], 7, 0), (43, .iload_n 1, 1, [], 0, 0), (44, .iaload, 1, [], 0, 0), (45, .iastore, 1, [], 0, 0), (46, .aload_n 0, 1, [], 0, 0), (47, .getfield 31, 3, [], 7, 0), (50, .iload_n 1, 1, [], 0, 0), (51, .iload_n 3, 1, [], 0, 0), (52, .iastore, 1, [], 0, 0), (53, .aload_n 0, 1, [], 0, 0), (54, .getfield 31, 3, [], 7, 0), (57, .iload_n 3, 1, [], 0, 0), (58, .iconst (-1), 1, [], 0, 0), (59, .iastore, 1, [], 0, 0), (60, .aload_n 0, 1, [false, true, true], 0, 0), (61, .iload_n 3, 1, [], 0, 0), (62, .iconst 1, 1, [], 0, 0), (63, .iadd, 1, [], 0, 0), (64, .putfield 126, 3, [], 30, 0), (67, .aload_n 0, 1, [], 0, 0), (68, .getfield 126, 3, [], 30, 0), (71, .iconst 1, 1, [], 0, 0), (72, .aload_n 0, 1, [], 0, 0), (73, .getfield 123, 3, [], 29, 0), (76, .ishl, 1, [], 0, 0), (77, .if_icmp .le 24, 3, [], 0, 0), (80, .aload_n 0, 1, [], 0, 0), (81, .getfield 123, 3, [], 29, 0), (84, .aload_n 0, 1, [], 0, 0), (85, .getfield 75, 3, [], 20, 0), (88, .if_icmp .ge 13, 3, [], 0, 0), (91, .aload_n 0, 1, [], 0, 0), (92, .dup, 1, [], 0, 0), (93, .getfield 123, 3, [], 29, 0), (96, .iconst 1, 1, [], 0, 0), (97, .iadd, 1, [], 0, 0), (98, .putfield 123, 3, [], 29, 0), (101, .aload_n 0, 1, [false, true, true, true], 0, 0), (102, .getfield 126, 3, [], 30, 0), (105, .aload_n 0, 1, [], 0, 0), (106, .getfield 78, 3, [], 21, 0), (109, .if_icmp .ne 39, 3, [], 0, 0), (112, .aload_n 0, 1, [], 0, 0), (113, .aload_n 0, 1, [], 0, 0), (114, .getfield 72, 3, [], 19, 0), (117, .invokevirtual 129, 3, [], 23, 0), (120, .aload_n 0, 1, [], 0, 0), (121, .aload_n 0, 1, [], 0, 0), (122, .getfield 126, 3, [], 30, 0), (125, .invokevirtual 119, 3, [], 22, 0), (128, .aload_n 0, 1, [], 0, 0), (129, .aload_n 0, 1, [], 0, 0), (130, .getfield 69, 3, [], 18, 0), (133, .iconst 1, 1, [], 0, 0), (134, .iadd, 1, [], 0, 0), (135, .putfield 123, 3, [], 29, 0), (138, .aload_n 0, 1, [], 0, 0), (139, .aload_n 0, 1, [], 0, 0), (140, .getfield 72, 3, [], 19, 0), (143, .iconst 2, 1, [], 0, 0), (144, .iadd, 1, [], 0, 0), (145, .putfield 126, 3, [], 30, 0), (148, .return_, 1, [], 0, 0)])
def d_26 : MD := (⟨"LzwIndexedImage", "packBlocks", "()V"⟩, prog_1_method_17_code, 6, none, 2, 0, 0, 1, 13, [(0, .aload_n 0, 1, [], 0, 0), (1, .getfield 116, 3, [], 28, 0), (4, .bipush 7, 2, [], 0, 0), (6, .iadd, 1, [], 0, 0), (7, .iconst 3, 1, [], 0, 0), (8, .ishr, 1, [], 0, 0), (9, .istore_n 1, 1, [], 0, 0), (10, .iload_n 1, 1, [], 0, 0), (11, .sipush 512, 3, [], 0, 0), (14, .if_icmp .le 7, 3, [], 0, 0), (17, .sipush 512, 3, [], 0, 0), (20, .istore_n 1, 1, [], 0, 0), (21, .aload_n 0, 1, [false, false, true, true, true, true], 0, 0), (22, .iconst 0, 1, [], 0, 0), (23, .putfield 88, 3, [], 24, 0), (26, .aload_n 0, 1, [], 0, 0), (27, .aload_n 0, 1, [], 0, 0), (28, .getfield 69, 3, [], 18, 0), (31, .invokevirtual 140, 3, [], 27, 0), (34, .iconst 0, 1, [], 0, 0), (35, .istore_n 2, 1, [], 0, 0), (36, .iconst 0, 1, [], 0, 0), (37, .istore_n 3, 1, [], 0, 0), (38, .iload_n 3, 1, [false, false, false, false, true, true], 0, 0), (39, .sipush 512, 3, [], 0, 0), (42, .if_icmp .ge 69, 3, [], 0, 0), (45, .iload_n 2, 1, [], 0, 0), (46, .iload_n 1, 1, [], 0, 0), (47, .if_icmp .ge 64, 3, [], 0, 0), (50, .iload_n 1, 1, [], 0, 0), (51, .iload_n 2, 1, [], 0, 0), (52, .isub, 1, [], 0, 0), (53, .istore 4, 2, [], 0, 0), (55, .iload 4, 2, [], 0, 0), (57, .aload_n 0, 1, [], 0, 0), (58, .getfield 85, 3, [], 23, 0), (61, .if_icmp .le 9, 3, [], 0, 0), (64, .aload_n 0, 1, [], 0, 0), (65, .getfield 85, 3, [], 23, 0), (68, .istore 4, 2, [], 0, 0), (70, .aload_n 0, 1, [false, false, false, false, false, true], 0, 0), (71, .iload 4, 2, [], 0, 0), (73, .invokevirtual 140, 3, [], 27, 0), (76, .iconst 0, 1, [], 0, 0), (77, .istore 5, 2, [], 0, 0), (79, .iload 5, 2, [], 0, 0), (81, .iload 4, 2, [], 0, 0), (83, .if_icmp .ge 22, 3, [], 0, 0), (86, .aload_n 0, 1, [], 0, 0), (87, .aload_n 0, 1, [], 0, 0), (88, .getfield 28, 3, [], 6, 0), (91, .iload_n 2, 1, [], 0, 0), (92, .iaload, 1, [], 0, 0), (93, .invokevirtual 140, 3, [], 27, 0), (96, .iinc 2 1, 3, [], 0, 0), (99, .iinc 5 1, 3, [], 0, 0), (102, .goto (-23), 3, [], 0, 0), (105, .iinc 3 1, 3, [], 0, 0), (108, .goto (-70), 3, [], 0, 0), (111, .aload_n 0, 1, [false, true, true, true, true, true], 0, 0), (112, .iconst 0, 1, [], 0, 0), (113, .invokevirtual 140, 3, [], 27, 0), (116, .return_, 1, [], 0, 0)])
def d_27 : MD := (⟨"LzwIndexedImage", "writeOut", "(I)V"⟩, prog_1_method_18_code, 2, none, 2, 1, 0, 0, 0, [(0, .aload_n 0, 1, [], 0, 0), (1, .getfield 88, 3, [], 24, 0), (4, .ifCond .lt 37, 3, [], 0, 0), (7, .aload_n 0, 1, [], 0, 0), (8, .getfield 88, 3, [], 24, 0), (11, .sipush 400, 3, [], 0, 0), (14, .if_icmp .ge 27, 3, [], 0, 0), (17, .aload_n 0, 1, [], 0, 0), (18, .getfield 13, 3, [], 1, 0), (21, .aload_n 0, 1, [], 0, 0), (22, .getfield 88, 3, [], 24, 0), (25, .iload_n 1, 1, [], 0, 0), (26, .sipush 255, 3, [], 0, 0), (29, .iand, 1, [], 0, 0), (30, .iastore, 1, [], 0, 0), (31, .aload_n 0, 1, [], 0, 0), (32, .dup, 1, [], 0, 0), (33, .getfield 88, 3, [], 24, 0), (36, .iconst 1, 1, [], 0, 0), (37, .iadd, 1, [], 0, 0), (38, .putfield 88, 3, [], 24, 0), (41, .return_, 1, [], 0, 0)])
def d_28 : MD := (⟨"LzwIndexedImage", "clearInput", "()V"⟩, prog_1_method_21_code, 1, none, 3, 0, 0, 0, 0, [(0, .aload_n 0, 1, [], 0, 0), (1, .iconst 0, 1, [], 0, 0), (2, .putfield 91, 3, [], 25, 0), (5, .return_, 1, [], 0, 0)])
def d_29 : MD := (⟨"LzwIndexedImage", "addRows", "(III)I"⟩, prog_1_method_9_code, 6, some .int, 2, 3, 0, 0, 0, [(0, .iload_n 1, 1, [], 0, 0), (1, .istore 4, 2, [], 0, 0), (3, .iload_n 2, 1, [], 0, 0), (4, .istore 5, 2, [], 0, 0), (6, .iload 5, 2, [false, true, true], 0, 0), (8, .aload_n 0, 1, [], 0, 0), (9, .getfield 60, 3, [], 15, 0), (12, .if_icmp .ge 36, 3, [], 0, 0), (15, .iload 4, 2, [], 0, 0), (17, .ifCond .lt 19, 3, [], 0, 0), (20, .iload 4, 2, [], 0, 0), (22, .bipush 16, 2, [], 0, 0), (24, .if_icmp .ge 12, 3, [], 0, 0), (27, .aload_n 0, 1, [], 0, 0), (28, .getfield 22, 3, [], 4, 0), (31, .iload 4, 2, [], 0, 0), (33, .iload 5, 2, [], 0, 0), (35, .iastore, 1, [], 0, 0), (36, .iinc 4 1, 3, [false, true, true], 0, 0), (39, .iload 5, 2, [], 0, 0), (41, .iload_n 3, 1, [], 0, 0), (42, .iadd, 1, [], 0, 0), (43, .istore 5, 2, [], 0, 0), (45, .goto (-39), 3, [], 0, 0), (48, .iload 4, 2, [], 0, 0), (50, .ireturn, 1, [], 0, 0)])
def d_30 : MD := (⟨"LzwIndexedImage", "gatherBlocks", "()Z"⟩, prog_1_method_28_code, 5, some .boolean, 2, 0, 0, 0, 0, [(0, .aload_n 0, 1, [], 0, 0), (1, .iconst 0, 1, [], 0, 0), (2, .putfield 157, 3, [], 31, 0), (5, .iconst 1, 1, [], 0, 0), (6, .istore_n 1, 1, [], 0, 0), (7, .iconst 0, 1, [], 0, 0), (8, .istore_n 2, 1, [], 0, 0), (9, .iload_n 2, 1, [false, false, false, true, true], 0, 0), (10, .sipush 512, 3, [], 0, 0), (13, .if_icmp .gt 114, 3, [], 0, 0), (16, .iload_n 1, 1, [], 0, 0), (17, .aload_n 0, 1, [], 0, 0), (18, .getfield 91, 3, [], 25, 0), (21, .if_icmp .lt 5, 3, [], 0, 0), (24, .iconst 0, 1, [], 0, 0), (25, .ireturn, 1, [], 0, 0), (26, .aload_n 0, 1, [], 0, 0), (27, .getfield 16, 3, [], 2, 0), (30, .iload_n 1, 1, [], 0, 0), (31, .iaload, 1, [], 0, 0), (32, .istore_n 3, 1, [], 0, 0), (33, .iinc 1 1, 3, [], 0, 0), (36, .iload_n 3, 1, [], 0, 0), (37, .ifCond .ne 5, 3, [], 0, 0), (40, .iconst 1, 1, [], 0, 0), (41, .ireturn, 1, [], 0, 0), (42, .iload_n 3, 1, [], 0, 0), (43, .aload_n 0, 1, [], 0, 0), (44, .getfield 91, 3, [], 25, 0), (47, .iload_n 1, 1, [], 0, 0), (48, .isub, 1, [], 0, 0), (49, .if_icmp .le 5, 3, [], 0, 0), (52, .iconst 0, 1, [], 0, 0), (53, .ireturn, 1, [], 0, 0), (54, .iconst 0, 1, [], 0, 0), (55, .istore 4, 2, [], 0, 0), (57, .iload 4, 2, [], 0, 0), (59, .iload_n 3, 1, [], 0, 0), (60, .if_icmp .ge 57, 3, [], 0, 0), (63, .aload_n 0, 1, [], 0, 0), (64, .getfield 157, 3, [], 31, 0), (67, .sipush 512, 3, [], 0, 0), (70, .if_icmp .ge 41, 3, [], 0, 0), (73, .iload_n 1, 1, [], 0, 0), (74, .iload 4, 2, [], 0, 0), (76, .iadd, 1, [], 0, 0), (77, .sipush 512, 3, [], 0, 0), (80, .if_icmp .ge 31, 3, [], 0, 0), (83, .aload_n 0, 1, [], 0, 0), (84, .getfield 28, 3, [], 6, 0), (87, .aload_n 0, 1, [], 0, 0), (88, .getfield 157, 3, [], 31, 0), (91, .aload_n 0, 1, [], 0, 0), (92, .getfield 16, 3, [], 2, 0), (95, .iload_n 1, 1, [], 0, 0), (96, .iload 4, 2, [], 0, 0), (98, .iadd, 1, [], 0, 0), (99, .iaload, 1, [], 0, 0), (100, .iastore, 1, [], 0, 0), (101, .aload_n 0, 1, [], 0, 0), (102, .dup, 1, [], 0, 0), (103, .getfield 157, 3, [], 31, 0), (106, .iconst 1, 1, [], 0, 0), (107, .iadd, 1, [], 0, 0), (108, .putfield 157, 3, [], 31, 0), (111, .iinc 4 1, 3, [], 0, 0), (114, .goto (-57), 3, [], 0, 0), (117, .iload_n 1, 1, [false, false, false, false, true], 0, 0), (118, .iload_n 3, 1, [], 0, 0), (119, .iadd, 1, [], 0, 0), (120, .istore_n 1, 1, [], 0, 0), (121, .iinc 2 1, 3, [], 0, 0), (124, .goto (-115), 3, [], 0, 0), (127, .iconst 0, 1, [], 0, 0), (128, .ireturn, 1, [], 0, 0)])
def d_31 : MD := (⟨"LzwIndexedImage", "decompress", "()I"⟩, prog_1_method_29_code, 5, some .int, 2, 0, 0, 3, 46, [(0, .aload_n 0, 1, [], 0, 0), (1, .iconst 0, 1, [], 0, 0), (2, .putfield 160, 3, [], 32, 0), (5, .aload_n 0, 1, [], 0, 0), (6, .aload_n 0, 1, [], 0, 0), (7, .getfield 69, 3, [], 18, 0), (10, .iconst 1, 1, [], 0, 0), (11, .iadd, 1, [], 0, 0), (12, .putfield 163, 3, [], 33, 0), (15, .aload_n 0, 1, [], 0, 0), (16, .aload_n 0, 1, [], 0, 0), (17, .getfield 72, 3, [], 19, 0), (20, .iconst 2, 1, [], 0, 0), (21, .iadd, 1, [], 0, 0), (22, .putfield 166, 3, [], 34, 0), (25, .aload_n 0, 1, [], 0, 0), (26, .iconst (-1), 1, [], 0, 0), (27, .putfield 169, 3, [], 35, 0), (30, .aload_n 0, 1, [], 0, 0), (31, .iconst 0, 1, [], 0, 0), (32, .putfield 154, 3, [], 36, 0), (35, .aload_n 0, 1, [], 0, 0), (36, .getfield 157, 3, [], 31, 0), (39, .bipush 8, 2, [], 0, 0), (41, .imul, 1, [], 0, 0), (42, .istore_n 1, 1, [], 0, 0), (43, .iconst 0, 1, [], 0, 0), (44, .istore_n 2, 1, [], 0, 0), (45, .iload_n 2, 1, [false, false, false, true, true], 0, 0), (46, .sipush 5000, 3, [], 0, 0), (49, .if_icmp .ge 93, 3, [], 0, 0), (52, .iload_n 1, 1, [], 0, 0), (53, .aload_n 0, 1, [], 0, 0), (54, .getfield 160, 3, [], 32, 0), (57, .isub, 1, [], 0, 0), (58, .aload_n 0, 1, [], 0, 0), (59, .getfield 163, 3, [], 33, 0), (62, .if_icmp .ge 6, 3, [], 0, 0), (65, .bipush (-4), 2, [], 0, 0), (67, .ireturn, 1, [], 0, 0), (68, .aload_n 0, 1, [], 0, 0), (69, .invokevirtual 172, 3, [], 32, 0), (72, .istore_n 3, 1, [], 0, 0), (73, .iload_n 3, 1, [], 0, 0), (74, .aload_n 0, 1, [], 0, 0), (75, .getfield 72, 3, [], 19, 0), (78, .if_icmp .ne 31, 3, [], 0, 0), (81, .aload_n 0, 1, [], 0, 0), (82, .aload_n 0, 1, [], 0, 0), (83, .getfield 69, 3, [], 18, 0), (86, .iconst 1, 1, [], 0, 0), (87, .iadd, 1, [], 0, 0), (88, .putfield 163, 3, [], 33, 0), (91, .aload_n 0, 1, [], 0, 0), (92, .aload_n 0, 1, [], 0, 0), (93, .getfield 72, 3, [], 19, 0), (96, .iconst 2, 1, [], 0, 0), (97, .iadd, 1, [], 0, 0), (98, .putfield 166, 3, [], 34, 0), (101, .aload_n 0, 1, [], 0, 0), (102, .iconst (-1), 1, [], 0, 0), (103, .putfield 169, 3, [], 35, 0), (106, .goto 30, 3, [], 0, 0), (109, .iload_n 3, 1, [], 0, 0), (110, .aload_n 0, 1, [], 0, 0), (111, .getfield 72, 3, [], 19, 0), (114, .iconst 1, 1, [], 0, 0), (115, .iadd, 1, [], 0, 0), (116, .if_icmp .ne 5, 3, [], 0, 0), (119, .iconst 0, 1, [], 0, 0), (120, .ireturn, 1, [], 0, 0), (121, .aload_n 0, 1, [], 0, 0), (122, .iload_n 3, 1, [], 0, 0), (123, .invokevirtual 175, 3, [], 33, 0), (126, .istore 4, 2, [], 0, 0), (128, .iload 4, 2, [], 0, 0), (130, .ifCond .eq 6, 3, [], 0, 0), (133, .iload 4, 2, [], 0, 0), (135, .ireturn, 1, [], 0, 0), (136, .iinc 2 1, 3, [], 0, 0), (139, .goto (-94), 3, [], 0, 0), (142, .bipush (-4), 2, [], 0, 0), (144, .ireturn, 1, [], 0, 0)])
def d_32 : MD := (⟨"LzwIndexedImage", "readCode", "()I"⟩, prog_1_method_30_code, 5, some .int, 2, 0, 0, 0, 0, [(0, .iconst 0, 1, [], 0, 0), (1, .istore_n 1, 1, [], 0, 0), (2, .iconst 0, 1, [], 0, 0), (3, .istore_n 2, 1, [], 0, 0), (4, .iload_n 2, 1, [false, false, false, true, true], 0, 0), (5, .aload_n 0, 1, [], 0, 0), (6, .getfield 163, 3, [], 33, 0), (9, .if_icmp .ge 65, 3, [], 0, 0), (12, .aload_n 0, 1, [], 0, 0), (13, .getfield 160, 3, [], 32, 0), (16, .iconst 3, 1, [], 0, 0), (17, .ishr, 1, [], 0, 0), (18, .istore_n 3, 1, [], 0, 0), (19, .iconst 0, 1, [], 0, 0), (20, .istore 4, 2, [], 0, 0), (22, .iload_n 3, 1, [], 0, 0), (23, .ifCond .lt 28, 3, [], 0, 0), (26, .iload_n 3, 1, [], 0, 0), (27, .sipush 512, 3, [], 0, 0), (30, .if_icmp .ge 21, 3, [], 0, 0), (33, .aload_n 0, 1, [], 0, 0), (34, .getfield 28, 3, [], 6, 0), (37, .iload_n 3, 1, [], 0, 0), (38, .iaload, 1, [], 0, 0), (39, .aload_n 0, 1, [], 0, 0), (40, .getfield 160, 3, [], 32, 0), (43, .bipush 7, 2, [], 0, 0), (45, .iand, 1, [], 0, 0), (46, .ishr, 1, [], 0, 0), (47, .iconst 1, 1, [], 0, 0), (48, .iand, 1, [], 0, 0), (49, .istore 4, 2, [], 0, 0), (51, .iload_n 1, 1, [false, false, false, true], 0, 0), (52, .iload 4, 2, [], 0, 0), (54, .iload_n 2, 1, [], 0, 0), (55, .ishl, 1, [], 0, 0), (56, .ior, 1, [], 0, 0), (57, .istore_n 1, 1, [], 0, 0), (58, .aload_n 0, 1, [], 0, 0), (59, .dup, 1, [], 0, 0), (60, .getfield 160, 3, [], 32, 0), (63, .iconst 1, 1, [], 0, 0), (64, .iadd, 1, [], 0, 0), (65, .putfield 160, 3, [], 32, 0), (68, .iinc 2 1, 3, [], 0, 0), (71, .goto (-67), 3, [], 0, 0), (74, .iload_n 1, 1, [], 0, 0), (75, .ireturn, 1, [], 0, 0)])
def d_33 : MD := (⟨"LzwIndexedImage", "handleCode", "(I)I"⟩, prog_1_method_31_code, 5, some .int, 2, 1, 0, 2, 30, [(0, .aload_n 0, 1, [], 0, 0), (1, .getfield 169, 3, [], 35, 0), (4, .ifCond .ge 14, 3, [], 0, 0), (7, .iload_n 1, 1, [], 0, 0), (8, .aload_n 0, 1, [], 0, 0), (9, .getfield 72, 3, [], 19, 0), (12, .if_icmp .lt 6, 3, [], 0, 0), (15, .bipush (-5), 2, [], 0, 0), (17, .ireturn, 1, [], 0, 0), (18, .aload_n 0, 1, [false, false, true, true, true], 0, 0), (19, .getfield 169, 3, [], 35, 0), (22, .ifCond .lt 14, 3, [], 0, 0), (25, .iload_n 1, 1, [], 0, 0), (26, .aload_n 0, 1, [], 0, 0), (27, .getfield 166, 3, [], 34, 0), (30, .if_icmp .le 6, 3, [], 0, 0), (33, .bipush (-5), 2, [], 0, 0), (35, .ireturn, 1, [], 0, 0), (36, .iload_n 1, 1, [false, false, true, true, true], 0, 0), (37, .aload_n 0, 1, [], 0, 0), (38, .getfield 72, 3, [], 19, 0), (41, .if_icmp .ge 14, 3, [], 0, 0), (44, .iload_n 1, 1, [], 0, 0), (45, .aload_n 0, 1, [], 0, 0), (46, .getfield 66, 3, [], 17, 0), (49, .if_icmp .lt 6, 3, [], 0, 0), (52, .bipush (-6), 2, [], 0, 0), (54, .ireturn, 1, [], 0, 0), (55, .iload_n 1, 1, [false, false, true, true, true], 0, 0), (56, .aload_n 0, 1, [], 0, 0), (57, .getfield 166, 3, [], 34, 0), (60, .if_icmp .ge 54, 3, [], 0, 0), (63, .aload_n 0, 1, [], 0, 0), (64, .iload_n 1, 1, [], 0, 0), (65, .invokevirtual 178, 3, [], 34, 0), (68, .istore_n 3, 1, [], 0, 0), (69, .aload_n 0, 1, [], 0, 0), (70, .getfield 154, 3, [], 36, 0), (73, .iload_n 3, 1, [], 0, 0), (74, .iadd, 1, [], 0, 0), (75, .aload_n 0, 1, [], 0, 0), (76, .getfield 63, 3, [], 16, 0), (79, .if_icmp .le 6, 3, [], 0, 0), (82, .bipush (-7), 2, [], 0, 0), (84, .ireturn, 1, [], 0, 0), (85, .aload_n 0, 1, [], 0, 0), (86, .iload_n 1, 1, [], 0, 0), (87, .aload_n 0, 1, [], 0, 0), (88, .getfield 154, 3, [], 36, 0), (91, .iload_n 3, 1, [], 0, 0), (92, .invokevirtual 181, 3, [], 35, 0), (95, .aload_n 0, 1, [], 0, 0), (96, .dup, 1, [], 0, 0), (97, .getfield 154, 3, [], 36, 0), (100, .iload_n 3, 1, [], 0, 0), (101, .iadd, 1, [], 0, 0), (102, .putfield 154, 3, [], 36, 0), (105, .aload_n 0, 1, [], 0, 0), (106, .iload_n 1, 1, [], 0, 0), (107, .invokevirtual 185, 3, [], 36, 0), (110, .istore_n 2, 1, [], 0, 0), (111, .goto 95, 3, [], 0, 0), (114, .aload_n 0, 1, [], 0, 0), (115, .aload_n 0, 1, [], 0, 0), (116, .getfield 169, 3, [], 35, 0), (119, .invokevirtual 178, 3, [], 34, 0), (122, .iconst 1, 1, [], 0, 0), (123, .iadd, 1, [], 0, 0), (124, .istore_n 3, 1, [], 0, 0), (125, .aload_n 0, 1, [], 0, 0), (126, .getfield 154, 3, [], 36, 0), (129, .iload_n 3, 1, [], 0, 0), (130, .iadd, 1, [], 0, 0), (131, .aload_n 0, 1, [], 0, 0), (132, .getfield 63, 3, [], 16, 0), (135, .if_icmp .le 6, 3, [], 0, 0), (138, .bipush (-7), 2, [], 0, 0), (140, .ireturn, 1, [], 0, 0), (141, .aload_n 0, 1, [], 0, 0), (142, .aload_n 0, 1, [], 0, 0), (143, .getfield 169, 3, [], 35, 0), (146, .aload_n 0, 1, [], 0, 0), (147, .getfield 154, 3, [], 36, 0), (150, .iload_n 3, 1, [], 0, 0), (151, .iconst 1, 1, [], 0, 0), (152, .isub, 1, [], 0, 0), (153, .invokevirtual 181, 3, [], 35, 0), (156, .aload_n 0, 1, [], 0, 0), (157, .aload_n 0, 1, [], 0, 0), (158, .getfield 169, 3, [], 35, 0), (161, .invokevirtual 185, 3, [], 36, 0), (164, .istore_n 2, 1, [], 0, 0), (165, .aload_n 0, 1, [], 0, 0), (166, .getfield 154, 3, [], 36, 0), (169, .iload_n 3, 1, [], 0, 0), (170, .iadd, 1, [], 0, 0), (171, .iconst 1, 1, [], 0, 0), (172, .isub, 1, [], 0, 0), (173, .istore 4, 2, [], 0, 0), (175, .iload 4, 2, [], 0, 0), (177, .ifCond .lt 19, 3, [], 0, 0), (180, .iload 4, 2, [], 0, 0), (182, .sipush 256, 3, [], 0, 0), (185, .if_icmp .ge 11, 3, [], 0, 0), (188, .aload_n 0, 1, [], 0, 0), (189, .getfield 25, 3, [], 5, 0), (192, .iload 4, 2, [], 0, 0), (194, .iload_n 2, 1, [], 0, 0), (195, .iastore, 1, [], 0, 0), (196, .aload_n 0, 1, [false, false, false, false, true], 0, 0), (197, .dup, 1, [], 0, 0), (198, .getfield 154, 3, [], 36, 0), (201, .iload_n 3, 1, [], 0, 0), (202, .iadd, 1, [], 0, 0), (203, .putfield 154, 3, [], 36, 0), (206, .aload_n 0, 1, [false, false, false, true, true], 0, 0), (207, .getfield 169, 3, [], 35, 0), (210, .ifCond .lt 23, 3, [], 0, 0), (213, .aload_n 0, 1, [], 0, 0), (214, .getfield 166, 3, [], 34, 0), (217, .aload_n 0, 1, [], 0, 0), (218, .getfield 78, 3, [], 21, 0), (221, .if_icmp .ge 12, 3, [], 0, 0), (224, .aload_n 0, 1, [], 0, 0), (225, .aload_n 0, 1, [], 0, 0), (226, .getfield 169, 3, [], 35, 0), (229, .iload_n 2, 1, [], 0, 0), (230, .invokevirtual 188, 3, [], 37, 0), (233, .aload_n 0, 1, [false, false, true, true, true], 0, 0), (234, .iload_n 1, 1, [], 0, 0), (235, .putfield 169, 3, [], 35, 0), (238, .iconst 0, 1, [], 0, 0), (239, .ireturn, 1, [], 0, 0)])
def d_34 : MD := (⟨"LzwIndexedImage", "lengthOf", "(I)I"⟩, prog_1_method_32_code, 2, some .int, 2, 1, 0, 0, 0, [(0, .iload_n 1, 1, [], 0, 0), (1, .aload_n 0, 1, [], 0, 0), (2, .getfield 72, 3, [], 19, 0), (5, .if_icmp .ge 5, 3, [], 0, 0), (8, .iconst 1, 1, [], 0, 0), (9, .ireturn, 1, [], 0, 0), (10, .iload_n 1, 1, [], 0, 0), (11, .sipush 512, 3, [], 0, 0), (14, .if_icmp .lt 5, 3, [], 0, 0), (17, .iconst 1, 1, [], 0, 0), (18, .ireturn, 1, [], 0, 0), (19, .aload_n 0, 1, [], 0, 0), (20, .getfield 49, 3, [], 13, 0), (23, .iload_n 1, 1, [], 0, 0), (24, .iaload, 1, [], 0, 0), (25, .ireturn, 1, [], 0, 0)])
def d_35 : MD := (⟨"LzwIndexedImage", "writeString", "(III)V"⟩, prog_1_method_34_code, 8, none, 2, 3, 0, 0, 0, [(0, .iload_n 1, 1, [], 0, 0), (1, .istore 4, 2, [], 0, 0), (3, .iload_n 2, 1, [], 0, 0), (4, .iload_n 3, 1, [], 0, 0), (5, .iadd, 1, [], 0, 0), (6, .iconst 1, 1, [], 0, 0), (7, .isub, 1, [], 0, 0), (8, .istore 5, 2, [], 0, 0), (10, .iconst 0, 1, [], 0, 0), (11, .istore 6, 2, [], 0, 0), (13, .iload 6, 2, [false, true, true, false, false, false, false, true], 0, 0), (15, .iload_n 3, 1, [], 0, 0), (16, .if_icmp .ge 101, 3, [], 0, 0), (19, .iload 6, 2, [], 0, 0), (21, .sipush 512, 3, [], 0, 0), (24, .if_icmp .ge 93, 3, [], 0, 0), (27, .iload 4, 2, [], 0, 0), (29, .ifCond .lt 11, 3, [], 0, 0), (32, .iload 4, 2, [], 0, 0), (34, .sipush 512, 3, [], 0, 0), (37, .if_icmp .lt 4, 3, [], 0, 0), (40, .return_, 1, [], 0, 0), (41, .iload 4, 2, [], 0, 0), (43, .aload_n 0, 1, [], 0, 0), (44, .getfield 72, 3, [], 19, 0), (47, .if_icmp .ge 8, 3, [], 0, 0), (50, .iload 4, 2, [], 0, 0), (52, .goto 10, 3, [], 0, 0), (55, .aload_n 0, 1, [], 0, 0), (56, .getfield 43, 3, [], 11, 0), (59, .iload 4, 2, [], 0, 0), (61, .iaload, 1, [], 0, 0), (62, .istore 7, 2, [false, true, true, false, false, false, false, true], 0, 0), (64, .iload 5, 2, [], 0, 0), (66, .ifCond .lt 20, 3, [], 0, 0), (69, .iload 5, 2, [], 0, 0), (71, .sipush 256, 3, [], 0, 0), (74, .if_icmp .ge 12, 3, [], 0, 0), (77, .aload_n 0, 1, [], 0, 0), (78, .getfield 25, 3, [], 5, 0), (81, .iload 5, 2, [], 0, 0), (83, .iload 7, 2, [], 0, 0), (85, .iastore, 1, [], 0, 0), (86, .iinc 5 (-1), 3, [false, true, true, false, false, false, false, true], 0, 0), (89, .iload 4, 2, [], 0, 0), (91, .aload_n 0, 1, [], 0, 0), (92, .getfield 72, 3, [], 19, 0), (95, .if_icmp .ge 7, 3, [], 0, 0), (98, .iconst (-1), 1, [], 0, 0), (99, .goto 10, 3, [], 0, 0), (102, .aload_n 0, 1, [], 0, 0), (103, .getfield 40, 3, [], 10, 0), (106, .iload 4, 2, [], 0, 0), (108, .iaload, 1, [], 0, 0), (109, .istore 4, 2, [], 0, 0), (111, .iinc 6 1, 3, [], 0, 0), (114, .goto (-101), 3, [], 0, 0), (117, .return_, 1, [], 0, 0)])
def d_36 : MD := (⟨"LzwIndexedImage", "firstOf", "(I)I"⟩, prog_1_method_33_code, 2, some .int, 2, 1, 0, 0, 0, [(0, .iload_n 1, 1, [], 0, 0), (1, .aload_n 0, 1, [], 0, 0), (2, .getfield 72, 3, [], 19, 0), (5, .if_icmp .ge 5, 3, [], 0, 0), (8, .iload_n 1, 1, [], 0, 0), (9, .ireturn, 1, [], 0, 0), (10, .iload_n 1, 1, [], 0, 0), (11, .sipush 512, 3, [], 0, 0), (14, .if_icmp .lt 5, 3, [], 0, 0), (17, .iconst 0, 1, [], 0, 0), (18, .ireturn, 1, [], 0, 0), (19, .aload_n 0, 1, [], 0, 0), (20, .getfield 46, 3, [], 12, 0), (23, .iload_n 1, 1, [], 0, 0), (24, .iaload, 1, [], 0, 0), (25, .ireturn, 1, [], 0, 0)])
def d_37 : MD := (⟨"LzwIndexedImage", "addDecoderCode", "(II)V"⟩, prog_1_method_35_code, 4, none, 2, 2, 0, 1, 15, [(0, .aload_n 0, 1, [], 0, 0), (1, .getfield 166, 3, [], 34, 0), (4, .istore_n 3, 1, [], 0, 0), (5, .iload_n 3, 1, [], 0, 0), (6, .ifCond .lt 48, 3, [], 0, 0), (9, .iload_n 3, 1, [], 0, 0), (10, .sipush 512, 3, [], 0, 0), (13, .if_icmp .ge 41, 3, [], 0, 0), (16, .aload_n 0, 1, [], 0, 0), (17, .getfield 40, 3, [], 10, 0), (20, .iload_n 3, 1, [], 0, 0), (21, .iload_n 1, 1, [], 0, 0), (22, .iastore, 1, [], 0, 0), (23, .aload_n 0, 1, [], 0, 0), (24, .getfield 43, 3, [], 11, 0), (27, .iload_n 3, 1, [], 0, 0), (28, .iload_n 2, 1, [], 0, 0), (29, .iastore, 1, [], 0, 0), (30, .aload_n 0, 1, [], 0, 0), (31, .getfield 46, 3, [], 12, 0), (34, .iload_n 3, 1, [], 0, 0), (35, .aload_n 0, 1, [], 0, 0), (36, .iload_n 1, 1, [], 0, 0), (37, .invokevirtual 185, 3, [], 36, 0), (40, .iastore, 1, [], 0, 0), (41, .aload_n 0, 1, [], 0, 0), (42, .getfield 49, 3, [], 13, 0), (45, .iload_n 3, 1, [], 0, 0), (46, .aload_n 0, 1, [], 0, 0), (47, .iload_n 1, 1, [], 0, 0), (48, .invokevirtual 178, 3, [], 34, 0), (51, .iconst 1, 1, [], 0, 0), (52, .iadd, 1, [], 0, 0), (53, .iastore, 1, [], 0, 0), (54, .aload_n 0, 1, [false, true, true], 0, 0), (55, .iload_n 3, 1, [], 0, 0), (56, .iconst 1, 1, [], 0, 0), (57, .iadd, 1, [], 0, 0), (58, .putfield 166, 3, [], 34, 0), (61, .aload_n 0, 1, [], 0, 0), (62, .getfield 166, 3, [], 34, 0), (65, .iconst 1, 1, [], 0, 0), (66, .aload_n 0, 1, [], 0, 0), (67, .getfield 163, 3, [], 33, 0), (70, .ishl, 1, [], 0, 0), (71, .if_icmp .ne 24, 3, [], 0, 0), (74, .aload_n 0, 1, [], 0, 0), (75, .getfield 163, 3, [], 33, 0), (78, .aload_n 0, 1, [], 0, 0), (79, .getfield 75, 3, [], 20, 0), (82, .if_icmp .ge 13, 3, [], 0, 0), (85, .aload_n 0, 1, [], 0, 0), (86, .dup, 1, [], 0, 0), (87, .getfield 163, 3, [], 33, 0), (90, .iconst 1, 1, [], 0, 0), (91, .iadd, 1, [], 0, 0), (92, .putfield 163, 3, [], 33, 0), (95, .return_, 1, [], 0, 0)])
def own_P : PD := ([("LzwIndexedImage", 37, [("pixels", "[I", (.array .int), false), ("out", "[I", (.array .int), false), ("in", "[I", (.array .int), false), ("decodedPix", "[I", (.array .int), false), ("rowOrder", "[I", (.array .int), false), ("streamBuf", "[I", (.array .int), false), ("data", "[I", (.array .int), false), ("firstChild", "[I", (.array .int), false), ("nextSibling", "[I", (.array .int), false), ("childPixel", "[I", (.array .int), false), ("prefix", "[I", (.array .int), false), ("suffix", "[I", (.array .int), false), ("firstPix", "[I", (.array .int), false), ("strLen", "[I", (.array .int), false), ("width", "I", .int, false), ("height", "I", .int, false), ("total", "I", .int, false), ("palette", "I", .int, false), ("minSize", "I", .int, false), ("clearCode", "I", .int, false), ("maxWidth", "I", .int, false), ("codeLimit", "I", .int, false), ("interlaced", "Z", .boolean, false), ("blockSize", "I", .int, false), ("outLen", "I", .int, false), ("inLen", "I", .int, false), ("hasDecoded", "Z", .boolean, false), ("status", "I", .int, false), ("bitPos", "I", .int, false), ("encWidth", "I", .int, false), ("encNext", "I", .int, false), ("dataLen", "I", .int, false), ("readPos", "I", .int, false), ("decWidth", "I", .int, false), ("decNext", "I", .int, false), ("decPrev", "I", .int, false), ("decCount", "I", .int, false)])], [d_0, d_1, d_2, d_3, d_4, d_5, d_6, d_7, d_8, d_9, d_10, d_11, d_12, d_13, d_14, d_15, d_16, d_17, d_18, d_19, d_20, d_21, d_22, d_23, d_24, d_25, d_26, d_27, d_28, d_29, d_30, d_31, d_32, d_33, d_34, d_35, d_36, d_37], 1)
theorem hm_0 : own_P.mth[0]? = some d_0 := rfl
theorem hm_1 : own_P.mth[1]? = some d_1 := rfl
theorem hm_2 : own_P.mth[2]? = some d_2 := rfl
theorem hm_3 : own_P.mth[3]? = some d_3 := rfl
theorem hm_4 : own_P.mth[4]? = some d_4 := rfl
theorem hm_5 : own_P.mth[5]? = some d_5 := rfl
theorem hm_6 : own_P.mth[6]? = some d_6 := rfl
theorem hm_7 : own_P.mth[7]? = some d_7 := rfl
theorem hm_8 : own_P.mth[8]? = some d_8 := rfl
theorem hm_9 : own_P.mth[9]? = some d_9 := rfl
theorem hm_10 : own_P.mth[10]? = some d_10 := rfl
theorem hm_11 : own_P.mth[11]? = some d_11 := rfl
theorem hm_12 : own_P.mth[12]? = some d_12 := rfl
theorem hm_13 : own_P.mth[13]? = some d_13 := rfl
theorem hm_14 : own_P.mth[14]? = some d_14 := rfl
theorem hm_15 : own_P.mth[15]? = some d_15 := rfl
theorem hm_16 : own_P.mth[16]? = some d_16 := rfl
theorem hm_17 : own_P.mth[17]? = some d_17 := rfl
theorem hm_18 : own_P.mth[18]? = some d_18 := rfl
theorem hm_19 : own_P.mth[19]? = some d_19 := rfl
theorem hm_20 : own_P.mth[20]? = some d_20 := rfl
theorem hm_21 : own_P.mth[21]? = some d_21 := rfl
theorem hm_22 : own_P.mth[22]? = some d_22 := rfl
theorem hm_23 : own_P.mth[23]? = some d_23 := rfl
theorem hm_24 : own_P.mth[24]? = some d_24 := rfl
theorem hm_25 : own_P.mth[25]? = some d_25 := rfl
theorem hm_26 : own_P.mth[26]? = some d_26 := rfl
theorem hm_27 : own_P.mth[27]? = some d_27 := rfl
theorem hm_28 : own_P.mth[28]? = some d_28 := rfl
theorem hm_29 : own_P.mth[29]? = some d_29 := rfl
theorem hm_30 : own_P.mth[30]? = some d_30 := rfl
theorem hm_31 : own_P.mth[31]? = some d_31 := rfl
theorem hm_32 : own_P.mth[32]? = some d_32 := rfl
theorem hm_33 : own_P.mth[33]? = some d_33 := rfl
theorem hm_34 : own_P.mth[34]? = some d_34 := rfl
theorem hm_35 : own_P.mth[35]? = some d_35 := rfl
theorem hm_36 : own_P.mth[36]? = some d_36 := rfl
theorem hm_37 : own_P.mth[37]? = some d_37 := rfl
set_option maxRecDepth 100000 in
theorem own_chk : chk own_P = true := by decide +kernel
def own_ix : List Nat := [1, 2, 11, 13, 15, 17, 19, 21, 23, 25, 27, 29, 31, 33, 35, 37, 43, 45, 47, 49, 51, 53, 55, 57, 59, 61, 63, 65, 67, 69, 161, 167, 169, 204, 210, 212, 214, 216, 218, 5, 2, 4, 41, 2, 39, 40, 73, 72, 71, 78, 2, 75, 77, 76, 83, 2, 80, 82, 81, 88, 2, 85, 87, 86, 93, 2, 90, 92, 91, 98, 2, 95, 97, 96, 103, 2, 100, 102, 101, 108, 2, 105, 107, 106, 113, 2, 110, 112, 111, 118, 2, 115, 117, 116, 122, 2, 120, 121, 127, 2, 124, 126, 125, 132, 2, 129, 131, 130, 137, 2, 134, 136, 135, 142, 2, 139, 141, 140, 147, 2, 144, 146, 145, 151, 2, 149, 150, 155, 2, 153, 154, 159, 2, 157, 158, 165, 2, 163, 164, 173, 2, 171, 172, 177, 2, 175, 176, 181, 2, 179, 180, 185, 2, 183, 184, 189, 2, 187, 188, 194, 2, 191, 193, 192, 198, 2, 196, 197, 202, 2, 200, 201, 208, 2, 206, 207, 222, 2, 220, 221, 226, 2, 224, 225, 230, 2, 228, 229, 234, 2, 232, 233, 238, 2, 236, 237, 242, 2, 240, 241, 0, 3, 0, 3, 114, 70, 70, 94, 94, 99, 99, 104, 104, 109, 109, 114, 114, 123, 123, 6, 7, 8, 9, 10, 9, 12, 9, 14, 9, 16, 9, 18, 9, 20, 9, 22, 9, 24, 9, 26, 9, 28, 9, 30, 9, 32, 9, 34, 9, 36, 38, 42, 38, 44, 42, 44, 46, 38, 48, 48, 50, 52, 38, 54, 56, 58, 60, 62, 64, 66, 68, 84, 79, 89, 74, 143, 190, 138, 128, 133, 48, 46, 46, 10, 38, 60, 60, 58, 46, 48, 10, 46, 10, 62, 64, 62, 12, 119, 68, 148, 46, 152, 16, 20, 66, 66, 64, 14, 50, 199, 205, 217, 46, 66, 46, 16, 62, 14, 12, 64, 64, 64, 14, 64, 64, 64, 64, 14, 148, 46, 152, 20, 10, 156, 182, 62, 58, 44, 18, 195, 195, 195, 195, 42, 42, 18, 42, 160, 56, 162, 50, 166, 52, 168, 52, 170, 20, 46, 20, 174, 170, 178, 170, 52, 170, 24, 166, 160, 160, 22, 22, 22, 160, 160, 24, 28, 26, 168, 28, 26, 24, 24, 24, 168, 168, 166, 166, 54, 166, 166, 168, 56, 52, 170, 168, 162, 50, 166, 52, 168, 160, 62, 50, 186, 60, 60, 186, 22, 186, 186, 62, 62, 12, 62, 62, 62, 64, 44, 18, 203, 64, 14, 64, 203, 22, 203, 14, 203, 203, 209, 50, 211, 52, 213, 215, 217, 203, 209, 211, 219, 52, 50, 211, 52, 213, 215, 52, 223, 211, 209, 22, 209, 209, 209, 215, 52, 215, 213, 52, 48, 213, 227, 217, 46, 217, 231, 217, 217, 235, 215, 227, 217, 46, 215, 217, 231, 215, 235, 217, 20, 217, 217, 215, 213, 56, 215, 239, 215, 52, 36, 52, 32, 20, 52, 30, 52, 34, 213, 30, 32, 34, 235, 36, 227, 213, 213, 211, 211, 54, 211, 211]
set_option maxRecDepth 100000 in
theorem own_words : (wordsOf own_P).map some = own_ix.map fun k => tables_1[k]? := rfl
theorem own_in : ∀ d ∈ wordsOf own_P, d ∈ tables_1 := fun d hd => by
  have h1 : some d ∈ (wordsOf own_P).map some := List.mem_map.mpr ⟨d, hd, rfl⟩
  rw [own_words] at h1
  obtain ⟨k, -, hk⟩ := List.mem_map.mp h1
  exact List.mem_of_getElem? hk
abbrev bk0 (s_pixels : List Int32) (s_out : List Int32) (s_in : List Int32) (s_decodedPix : List Int32) (s_rowOrder : List Int32) (s_streamBuf : List Int32) (s_data : List Int32) (s_firstChild : List Int32) (s_nextSibling : List Int32) (s_childPixel : List Int32) (s_prefix : List Int32) (s_suffix : List Int32) (s_firstPix : List Int32) (s_strLen : List Int32) (s_width : Int32) (s_height : Int32) (s_total : Int32) (s_palette : Int32) (s_minSize : Int32) (s_clearCode : Int32) (s_maxWidth : Int32) (s_codeLimit : Int32) (s_interlaced : Int32) (s_blockSize : Int32) (s_outLen : Int32) (s_inLen : Int32) (s_hasDecoded : Int32) (s_status : Int32) (s_bitPos : Int32) (s_encWidth : Int32) (s_encNext : Int32) (s_dataLen : Int32) (s_readPos : Int32) (s_decWidth : Int32) (s_decNext : Int32) (s_decPrev : Int32) (s_decCount : Int32) (po : List ACell) : List ACell := .inl (0, [.ref 2, .ref 3, .ref 4, .ref 5, .ref 6, .ref 7, .ref 8, .ref 9, .ref 10, .ref 11, .ref 12, .ref 13, .ref 14, .ref 15, .int s_width, .int s_height, .int s_total, .int s_palette, .int s_minSize, .int s_clearCode, .int s_maxWidth, .int s_codeLimit, .int s_interlaced, .int s_blockSize, .int s_outLen, .int s_inLen, .int s_hasDecoded, .int s_status, .int s_bitPos, .int s_encWidth, .int s_encNext, .int s_dataLen, .int s_readPos, .int s_decWidth, .int s_decNext, .int s_decPrev, .int s_decCount]) :: .inr (.inl (false, s_pixels)) :: .inr (.inl (false, s_out)) :: .inr (.inl (false, s_in)) :: .inr (.inl (false, s_decodedPix)) :: .inr (.inl (false, s_rowOrder)) :: .inr (.inl (false, s_streamBuf)) :: .inr (.inl (false, s_data)) :: .inr (.inl (false, s_firstChild)) :: .inr (.inl (false, s_nextSibling)) :: .inr (.inl (false, s_childPixel)) :: .inr (.inl (false, s_prefix)) :: .inr (.inl (false, s_suffix)) :: .inr (.inl (false, s_firstPix)) :: .inr (.inl (false, s_strLen)) :: po
abbrev bk1 (s_pixels : List Int32) (s_out : List Int32) (s_in : List Int32) (s_decodedPix : List Int32) (s_rowOrder : List Int32) (s_streamBuf : List Int32) (s_data : List Int32) (s_firstChild : List Int32) (s_nextSibling : List Int32) (s_childPixel : List Int32) (s_prefix : List Int32) (s_suffix : List Int32) (s_firstPix : List Int32) (s_strLen : List Int32) (s_width : Int32) (s_height : Int32) (s_total : Int32) (s_palette : Int32) (s_minSize : Int32) (s_clearCode : Int32) (s_maxWidth : Int32) (s_codeLimit : Int32) (s_interlaced : Int32) (s_blockSize : Int32) (s_outLen : Int32) (s_inLen : Int32) (s_hasDecoded : Int32) (s_status : Int32) (s_bitPos : Int32) (s_encWidth : Int32) (s_encNext : Int32) (s_dataLen : Int32) (s_readPos : Int32) (s_decWidth : Int32) (s_decNext : Int32) (s_decPrev : Int32) (s_decCount : Int32) (po : List ACell) : List ACell := .inl (0, [.ref 17, .ref 18, .ref 19, .ref 20, .ref 21, .ref 22, .ref 23, .ref 24, .ref 25, .ref 26, .ref 27, .ref 28, .ref 29, .ref 30, .int s_width, .int s_height, .int s_total, .int s_palette, .int s_minSize, .int s_clearCode, .int s_maxWidth, .int s_codeLimit, .int s_interlaced, .int s_blockSize, .int s_outLen, .int s_inLen, .int s_hasDecoded, .int s_status, .int s_bitPos, .int s_encWidth, .int s_encNext, .int s_dataLen, .int s_readPos, .int s_decWidth, .int s_decNext, .int s_decPrev, .int s_decCount]) :: .inr (.inl (false, s_pixels)) :: .inr (.inl (false, s_out)) :: .inr (.inl (false, s_in)) :: .inr (.inl (false, s_decodedPix)) :: .inr (.inl (false, s_rowOrder)) :: .inr (.inl (false, s_streamBuf)) :: .inr (.inl (false, s_data)) :: .inr (.inl (false, s_firstChild)) :: .inr (.inl (false, s_nextSibling)) :: .inr (.inl (false, s_childPixel)) :: .inr (.inl (false, s_prefix)) :: .inr (.inl (false, s_suffix)) :: .inr (.inl (false, s_firstPix)) :: .inr (.inl (false, s_strLen)) :: po
def f_clamp (v1 v2 v3 : Int32) : Option (Int32) :=
  some (if v1 < v2 then v2 else (if v3 < v1 then v3 else v1))
def f_init_259 (ze R Q zg X F j I zd zf W V H Y : List Int32) (C K b t k a f g Z za D z zh zi r U O zb zc J B T G v6 : Int32) : Option (List Int32 × List Int32 × List Int32 × List Int32 × List Int32 × List Int32 × List Int32 × List Int32 × List Int32 × List Int32 × List Int32 × List Int32 × List Int32 × List Int32 × Int32 × Int32 × Int32 × Int32 × Int32 × Int32 × Int32 × Int32 × Int32 × Int32 × Int32 × Int32 × Int32 × Int32 × Int32 × Int32 × Int32 × Int32 × Int32 × Int32 × Int32 × Int32 × Int32) :=
  some (ze, R, Q, zg, X, F, j, I, zd, zf, W, V, H, Y, C, K, b, t, k, a, v6, ((1 : Int32) <<< (v6 &&& 31)), 0, 255, 0, 0, 0, 1, r, U, O, zb, zc, J, B, T, G)
def f_init_219 (ze R Q zg X F j I zd zf W V H Y : List Int32) (C K b t k a f g Z za D z zh zi r U O zb zc J B T G v4 v5 : Int32) : Option (List Int32 × List Int32 × List Int32 × List Int32 × List Int32 × List Int32 × List Int32 × List Int32 × List Int32 × List Int32 × List Int32 × List Int32 × List Int32 × List Int32 × Int32 × Int32 × Int32 × Int32 × Int32 × Int32 × Int32 × Int32 × Int32 × Int32 × Int32 × Int32 × Int32 × Int32 × Int32 × Int32 × Int32 × Int32 × Int32 × Int32 × Int32 × Int32 × Int32) :=
  (f_clamp v4 3 9).bind fun r4 =>
  f_init_259 ze R Q zg X F j I zd zf W V H Y C K b t v5 ((1 : Int32) <<< (v5 &&& 31)) f g Z za D z zh zi r U O zb zc J B T G (if r4 < (v5 + 1) then (v5 + 1) else r4)
def f_init_185 (k219 : List Int32 → List Int32 → List Int32 → List Int32 → List Int32 → List Int32 → List Int32 → List Int32 → List Int32 → List Int32 → List Int32 → List Int32 → List Int32 → List Int32 → Int32 → Int32 → Int32 → Int32 → Int32 → Int32 → Int32 → Int32 → Int32 → Int32 → Int32 → Int32 → Int32 → Int32 → Int32 → Int32 → Int32 → Int32 → Int32 → Int32 → Int32 → Int32 → Int32 → Int32 → Int32 → Option (List Int32 × List Int32 × List Int32 × List Int32 × List Int32 × List Int32 × List Int32 × List Int32 × List Int32 × List Int32 × List Int32 × List Int32 × List Int32 × List Int32 × Int32 × Int32 × Int32 × Int32 × Int32 × Int32 × Int32 × Int32 × Int32 × Int32 × Int32 × Int32 × Int32 × Int32 × Int32 × Int32 × Int32 × Int32 × Int32 × Int32 × Int32 × Int32 × Int32)) : Nat → List Int32 → List Int32 → List Int32 → List Int32 → List Int32 → List Int32 → List Int32 → List Int32 → List Int32 → List Int32 → List Int32 → List Int32 → List Int32 → List Int32 → Int32 → Int32 → Int32 → Int32 → Int32 → Int32 → Int32 → Int32 → Int32 → Int32 → Int32 → Int32 → Int32 → Int32 → Int32 → Int32 → Int32 → Int32 → Int32 → Int32 → Int32 → Int32 → Int32 → Int32 → Int32 → Int32 → Option (List Int32 × List Int32 × List Int32 × List Int32 × List Int32 × List Int32 × List Int32 × List Int32 × List Int32 × List Int32 × List Int32 × List Int32 × List Int32 × List Int32 × Int32 × Int32 × Int32 × Int32 × Int32 × Int32 × Int32 × Int32 × Int32 × Int32 × Int32 × Int32 × Int32 × Int32 × Int32 × Int32 × Int32 × Int32 × Int32 × Int32 × Int32 × Int32 × Int32)
  | 0, _, _, _, _, _, _, _, _, _, _, _, _, _, _, _, _, _, _, _, _, _, _, _, _, _, _, _, _, _, _, _, _, _, _, _, _, _, _, _, _ => none
  | n + 1, ze, R, Q, zg, X, F, j, I, zd, zf, W, V, H, Y, C, K, b, t, k, a, f, g, Z, za, D, z, zh, zi, r, U, O, zb, zc, J, B, T, G, v4, v5, v6 =>
    if v6 < 8 then
      if ((1 : Int32) <<< (v5 &&& 31)) < t then
        if v5 < 8 then
          f_init_185 k219 n ze R Q zg X F j I zd zf W V H Y C K b t k a f g Z za D z zh zi r U O zb zc J B T G v4 (v5 + 1) (v6 + 1)
        else
          k219 ze R Q zg X F j I zd zf W V H Y C K b t k a f g Z za D z zh zi r U O zb zc J B T G v4 v5
      else
        k219 ze R Q zg X F j I zd zf W V H Y C K b t k a f g Z za D z zh zi r U O zb zc J B T G v4 v5
    else
      k219 ze R Q zg X F j I zd zf W V H Y C K b t k a f g Z za D z zh zi r U O zb zc J B T G v4 v5
def f_init (v1 v2 v3 v4 : Int32) : Option (List Int32 × List Int32 × List Int32 × List Int32 × List Int32 × List Int32 × List Int32 × List Int32 × List Int32 × List Int32 × List Int32 × List Int32 × List Int32 × List Int32 × Int32 × Int32 × Int32 × Int32 × Int32 × Int32 × Int32 × Int32 × Int32 × Int32 × Int32 × Int32 × Int32 × Int32 × Int32 × Int32 × Int32 × Int32 × Int32 × Int32 × Int32 × Int32 × Int32) :=
  (f_clamp v1 1 16).bind fun r1 =>
  (f_clamp v2 1 16).bind fun r2 =>
  (f_clamp v3 2 256).bind fun r3 =>
  f_init_185 f_init_219 100000 (List.replicate 256 0) (List.replicate 400 0) (List.replicate 512 0) (List.replicate 256 0) (List.replicate 16 0) (List.replicate 256 0) (List.replicate 512 0) (List.replicate 512 0) (List.replicate 512 0) (List.replicate 512 0) (List.replicate 512 0) (List.replicate 512 0) (List.replicate 512 0) (List.replicate 512 0) r1 r2 (r1 * r2) r3 0 0 0 0 0 0 0 0 0 0 0 0 0 0 0 0 0 0 0 v4 2 0
def f_gatherBlocks_117 (kb : List Int32 → Int32 → Int32 → Int32 → Option (Int32 × List Int32 × Int32)) (Q : List Int32) (z : Int32) (j : List Int32) (zb v1 v2 v3 : Int32) : Option (Int32 × List Int32 × Int32) :=
  kb j zb (v1 + v3) (v2 + 1)
def f_gatherBlocks_57 (k117 : List Int32 → Int32 → Int32 → Int32 → Int32 → Option (Int32 × List Int32 × Int32)) (Q : List Int32) (z : Int32) : Nat → List Int32 → Int32 → Int32 → Int32 → Int32 → Int32 → Option (Int32 × List Int32 × Int32)
  | 0, _, _, _, _, _, _ => none
  | n + 1, j, zb, v1, v2, v3, v4 =>
    if v4 < v3 then
      if zb < 512 then
        if (v1 + v4) < 512 then
          (rdA Q (v1 + v4)).bind fun x6 =>
          (wrA j zb x6).bind fun A7 =>
          f_gatherBlocks_57 k117 Q z n A7 (zb + 1) v1 v2 v3 (v4 + 1)
        else
          f_gatherBlocks_57 k117 Q z n j zb v1 v2 v3 (v4 + 1)
      else
        f_gatherBlocks_57 k117 Q z n j zb v1 v2 v3 (v4 + 1)
    else
      k117 j zb v1 v2 v3
def f_gatherBlocks_9 (Q : List Int32) (z : Int32) : Nat → List Int32 → Int32 → Int32 → Int32 → Option (Int32 × List Int32 × Int32)
  | 0, _, _, _, _ => none
  | n + 1, j, zb, v1, v2 =>
    if 512 < v2 then
      some (0, j, zb)
    else
      if v1 < z then
        (rdA Q v1).bind fun x5 =>
        if x5 = 0 then
          some (1, j, zb)
        else
          if (z - (v1 + 1)) < x5 then
            some (0, j, zb)
          else
            f_gatherBlocks_57 (f_gatherBlocks_117 (f_gatherBlocks_9 Q z n) Q z) Q z 100000 j zb (v1 + 1) v2 x5 0
      else
        some (0, j, zb)
def f_gatherBlocks (Q : List Int32) (z : Int32) (j : List Int32) (zb : Int32) : Option (Int32 × List Int32 × Int32) :=
  f_gatherBlocks_9 Q z 100000 j 0 1 0
def f_readCode_51 (kb : Int32 → Int32 → Int32 → Option (Int32 × Int32)) (j : List Int32) (J zc v1 v2 v4 : Int32) : Option (Int32 × Int32) :=
  kb (zc + 1) (v1 ||| (v4 <<< (v2 &&& 31))) (v2 + 1)
def f_readCode_4 (j : List Int32) (J : Int32) : Nat → Int32 → Int32 → Int32 → Option (Int32 × Int32)
  | 0, _, _, _ => none
  | n + 1, zc, v1, v2 =>
    if v2 < J then
      if (zc >>> ((3 : Int32) &&& 31)) < 0 then
        f_readCode_51 (f_readCode_4 j J n) j J zc v1 v2 0
      else
        if (zc >>> ((3 : Int32) &&& 31)) < 512 then
          (rdA j (zc >>> ((3 : Int32) &&& 31))).bind fun x8 =>
          f_readCode_51 (f_readCode_4 j J n) j J zc v1 v2 ((x8 >>> ((zc &&& 7) &&& 31)) &&& 1)
        else
          f_readCode_51 (f_readCode_4 j J n) j J zc v1 v2 0
    else
      some (v1, zc)
def f_readCode (j : List Int32) (J zc : Int32) : Option (Int32 × Int32) :=
  f_readCode_4 j J 100000 zc 0 0
def f_lengthOf (Y : List Int32) (a v1 : Int32) : Option (Int32) :=
  if v1 < a then
    some 1
  else
    if v1 < 512 then
      (rdA Y v1).bind fun x9 =>
      some x9
    else
      some 1
def f_writeString_86 (kb : List Int32 → Int32 → Int32 → Int32 → Int32 → Option (List Int32)) (W V : List Int32) (a : Int32) (F : List Int32) (v3 v4 v5 v6 : Int32) : Option (List Int32) :=
  if v4 < a then
    kb F v3 (-1 : Int32) (v5 + (-1 : Int32)) (v6 + 1)
  else
    (rdA W v4).bind fun x12 =>
    kb F v3 x12 (v5 + (-1 : Int32)) (v6 + 1)
def f_writeString_62 (kb : List Int32 → Int32 → Int32 → Int32 → Int32 → Option (List Int32)) (W V : List Int32) (a : Int32) (F : List Int32) (v3 v4 v5 v6 t0 : Int32) : Option (List Int32) :=
  if v5 < 0 then
    f_writeString_86 kb W V a F v3 v4 v5 v6
  else
    if v5 < 256 then
      (wrA F v5 t0).bind fun A11 =>
      f_writeString_86 kb W V a A11 v3 v4 v5 v6
    else
      f_writeString_86 kb W V a F v3 v4 v5 v6
def f_writeString_13 (W V : List Int32) (a : Int32) : Nat → List Int32 → Int32 → Int32 → Int32 → Int32 → Option (List Int32)
  | 0, _, _, _, _, _ => none
  | n + 1, F, v3, v4, v5, v6 =>
    if v6 < v3 then
      if v6 < 512 then
        if v4 < 0 then
          some F
        else
          if v4 < 512 then
            if v4 < a then
              f_writeString_62 (f_writeString_13 W V a n) W V a F v3 v4 v5 v6 v4
            else
              (rdA V v4).bind fun x10 =>
              f_writeString_62 (f_writeString_13 W V a n) W V a F v3 v4 v5 v6 x10
          else
            some F
      else
        some F
    else
      some F
def f_writeString (W V : List Int32) (a : Int32) (F : List Int32) (v1 v2 v3 : Int32) : Option (List Int32) :=
  f_writeString_13 W V a 100000 F v3 v1 ((v2 + v3) - 1) 0
def f_firstOf (H : List Int32) (a v1 : Int32) : Option (Int32) :=
  if v1 < a then
    some v1
  else
    if v1 < 512 then
      (rdA H v1).bind fun x13 =>
      some x13
    else
      some 0
def f_addDecoderCode_54 (a f : Int32) (W V H Y : List Int32) (J B v3 : Int32) : Option (List Int32 × List Int32 × List Int32 × List Int32 × Int32 × Int32) :=
  some (W, V, H, Y, (if (v3 + 1) = ((1 : Int32) <<< (J &&& 31)) then (if J < f then (J + 1) else J) else J), (v3 + 1))
def f_addDecoderCode (a f : Int32) (W V H Y : List Int32) (J B v1 v2 : Int32) : Option (List Int32 × List Int32 × List Int32 × List Int32 × Int32 × Int32) :=
  if B < 0 then
    f_addDecoderCode_54 a f W V H Y J B B
  else
    if B < 512 then
      (wrA W B v1).bind fun A14 =>
      (wrA V B v2).bind fun A15 =>
      (f_firstOf H a v1).bind fun r16 =>
      (wrA H B r16).bind fun A17 =>
      (f_lengthOf Y a v1).bind fun r18 =>
      (wrA Y B (r18 + 1)).bind fun A19 =>
      f_addDecoderCode_54 a f A14 A15 A17 A19 J B B
    else
      f_addDecoderCode_54 a f W V H Y J B B
def f_handleCode_233 (b t a f g : Int32) (F W V H Y : List Int32) (J B T G v1 : Int32) : Option (Int32 × List Int32 × List Int32 × List Int32 × List Int32 × List Int32 × Int32 × Int32 × Int32 × Int32) :=
  some (0, F, W, V, H, Y, J, B, v1, G)
def f_handleCode_206 (b t a f g : Int32) (F W V H Y : List Int32) (J B T G v1 v2 : Int32) : Option (Int32 × List Int32 × List Int32 × List Int32 × List Int32 × List Int32 × Int32 × Int32 × Int32 × Int32) :=
  if T < 0 then
    f_handleCode_233 b t a f g F W V H Y J B T G v1
  else
    if B < g then
      (f_addDecoderCode a f W V H Y J B T v2).bind fun (s27, s28, s29, s30, s31, s32) =>
      f_handleCode_233 b t a f g F s27 s28 s29 s30 s31 s32 T G v1
    else
      f_handleCode_233 b t a f g F W V H Y J B T G v1
def f_handleCode_196 (b t a f g : Int32) (F W V H Y : List Int32) (J B T G v1 v2 v3 : Int32) : Option (Int32 × List Int32 × List Int32 × List Int32 × List Int32 × List Int32 × Int32 × Int32 × Int32 × Int32) :=
  f_handleCode_206 b t a f g F W V H Y J B T (G + v3) v1 v2
def f_handleCode_55 (b t a f g : Int32) (F W V H Y : List Int32) (J B T G v1 : Int32) : Option (Int32 × List Int32 × List Int32 × List Int32 × List Int32 × List Int32 × Int32 × Int32 × Int32 × Int32) :=
  if v1 < B then
    (f_lengthOf Y a v1).bind fun r24 =>
    if b < (G + r24) then
      some ((-7 : Int32), F, W, V, H, Y, J, B, T, G)
    else
      (f_writeString W V a F v1 G r24).bind fun s25 =>
      (f_firstOf H a v1).bind fun r26 =>
      f_handleCode_206 b t a f g s25 W V H Y J B T (G + r24) v1 r26
  else
    (f_lengthOf Y a T).bind fun r20 =>
    if b < (G + (r20 + 1)) then
      some ((-7 : Int32), F, W, V, H, Y, J, B, T, G)
    else
      (f_writeString W V a F T G ((r20 + 1) - 1)).bind fun s21 =>
      (f_firstOf H a T).bind fun r22 =>
      if ((G + (r20 + 1)) - 1) < 0 then
        f_handleCode_196 b t a f g s21 W V H Y J B T G v1 r22 (r20 + 1)
      else
        if ((G + (r20 + 1)) - 1) < 256 then
          (wrA s21 ((G + (r20 + 1)) - 1) r22).bind fun A23 =>
          f_handleCode_196 b t a f g A23 W V H Y J B T G v1 r22 (r20 + 1)
        else
          f_handleCode_196 b t a f g s21 W V H Y J B T G v1 r22 (r20 + 1)
def f_handleCode_36 (b t a f g : Int32) (F W V H Y : List Int32) (J B T G v1 : Int32) : Option (Int32 × List Int32 × List Int32 × List Int32 × List Int32 × List Int32 × Int32 × Int32 × Int32 × Int32) :=
  if v1 < a then
    if v1 < t then
      f_handleCode_55 b t a f g F W V H Y J B T G v1
    else
      some ((-6 : Int32), F, W, V, H, Y, J, B, T, G)
  else
    f_handleCode_55 b t a f g F W V H Y J B T G v1
def f_handleCode_18 (b t a f g : Int32) (F W V H Y : List Int32) (J B T G v1 : Int32) : Option (Int32 × List Int32 × List Int32 × List Int32 × List Int32 × List Int32 × Int32 × Int32 × Int32 × Int32) :=
  if T < 0 then
    f_handleCode_36 b t a f g F W V H Y J B T G v1
  else
    if B < v1 then
      some ((-5 : Int32), F, W, V, H, Y, J, B, T, G)
    else
      f_handleCode_36 b t a f g F W V H Y J B T G v1
def f_handleCode (b t a f g : Int32) (F W V H Y : List Int32) (J B T G v1 : Int32) : Option (Int32 × List Int32 × List Int32 × List Int32 × List Int32 × List Int32 × Int32 × Int32 × Int32 × Int32) :=
  if T < 0 then
    if v1 < a then
      f_handleCode_18 b t a f g F W V H Y J B T G v1
    else
      some ((-5 : Int32), F, W, V, H, Y, J, B, T, G)
  else
    f_handleCode_18 b t a f g F W V H Y J B T G v1
def f_decompress_45 (j : List Int32) (b t k a f g zb : Int32) : Nat → List Int32 → List Int32 → List Int32 → List Int32 → List Int32 → Int32 → Int32 → Int32 → Int32 → Int32 → Int32 → Int32 → Option (Int32 × List Int32 × List Int32 × List Int32 × List Int32 × List Int32 × Int32 × Int32 × Int32 × Int32 × Int32)
  | 0, _, _, _, _, _, _, _, _, _, _, _, _ => none
  | n + 1, F, W, V, H, Y, zc, J, B, T, G, v1, v2 =>
    if v2 < 5000 then
      if (v1 - zc) < J then
        some ((-4 : Int32), F, W, V, H, Y, zc, J, B, T, G)
      else
        (f_readCode j J zc).bind fun (r33, s34) =>
        if r33 = a then
          f_decompress_45 j b t k a f g zb n F W V H Y s34 (k + 1) (a + 2) (-1 : Int32) G v1 (v2 + 1)
        else
          if r33 = (a + 1) then
            some (0, F, W, V, H, Y, s34, J, B, T, G)
          else
            (f_handleCode b t a f g F W V H Y J B T G r33).bind fun (r35, s36, s37, s38, s39, s40, s41, s42, s43, s44) =>
            if r35 = 0 then
              f_decompress_45 j b t k a f g zb n s36 s37 s38 s39 s40 s34 s41 s42 s43 s44 v1 (v2 + 1)
            else
              some (r35, s36, s37, s38, s39, s40, s34, s41, s42, s43, s44)
    else
      some ((-4 : Int32), F, W, V, H, Y, zc, J, B, T, G)
def f_decompress (j : List Int32) (b t k a f g zb : Int32) (F W V H Y : List Int32) (zc J B T G : Int32) : Option (Int32 × List Int32 × List Int32 × List Int32 × List Int32 × List Int32 × Int32 × Int32 × Int32 × Int32 × Int32) :=
  f_decompress_45 j b t k a f g zb 100000 F W V H Y 0 (k + 1) (a + 2) (-1 : Int32) 0 (zb * 8) 0
def f_decodeSteps (Q : List Int32) (b t k a f g z : Int32) (F j W V H Y : List Int32) (zb zc J B T G : Int32) : Option (Int32 × List Int32 × List Int32 × List Int32 × List Int32 × List Int32 × List Int32 × Int32 × Int32 × Int32 × Int32 × Int32 × Int32) :=
  if z = 0 then
    some ((-1 : Int32), F, j, W, V, H, Y, zb, zc, J, B, T, G)
  else
    (rdA Q 0).bind fun x45 =>
    if x45 = k then
      (f_gatherBlocks Q z j zb).bind fun (r46, s47, s48) =>
      if r46 = 0 then
        some ((-3 : Int32), F, s47, W, V, H, Y, s48, zc, J, B, T, G)
      else
        (f_decompress s47 b t k a f g s48 F W V H Y zc J B T G).bind fun (r49, s50, s51, s52, s53, s54, s55, s56, s57, s58, s59) =>
        some ((if r49 = 0 then (if s59 < b then (-8 : Int32) else 0) else r49), s50, s47, s51, s52, s53, s54, s48, s55, s56, s57, s58, s59)
    else
      some ((-2 : Int32), F, j, W, V, H, Y, zb, zc, J, B, T, G)
def f_addRows_36 (kb : List Int32 → Int32 → Int32 → Int32 → Option (Int32 × List Int32)) (K : Int32) (X : List Int32) (v3 v4 v5 : Int32) : Option (Int32 × List Int32) :=
  kb X v3 (v4 + 1) (v5 + v3)
def f_addRows_6 (K : Int32) : Nat → List Int32 → Int32 → Int32 → Int32 → Option (Int32 × List Int32)
  | 0, _, _, _, _ => none
  | n + 1, X, v3, v4, v5 =>
    if v5 < K then
      if v4 < 0 then
        f_addRows_36 (f_addRows_6 K n) K X v3 v4 v5
      else
        if v4 < 16 then
          (wrA X v4 v5).bind fun A60 =>
          f_addRows_36 (f_addRows_6 K n) K A60 v3 v4 v5
        else
          f_addRows_36 (f_addRows_6 K n) K X v3 v4 v5
    else
      some (v4, X)
def f_addRows (K : Int32) (X : List Int32) (v1 v2 v3 : Int32) : Option (Int32 × List Int32) :=
  f_addRows_6 K 100000 X v3 v1 v2
def f_buildRowOrder_9 (K Z : Int32) : Nat → List Int32 → Int32 → Option (List Int32)
  | 0, _, _ => none
  | n + 1, X, v1 =>
    if v1 < K then
      if v1 < 16 then
        (wrA X v1 v1).bind fun A69 =>
        f_buildRowOrder_9 K Z n A69 (v1 + 1)
      else
        some X
    else
      some X
def f_buildRowOrder (K Z : Int32) (X : List Int32) : Option (List Int32) :=
  if Z = 0 then
    f_buildRowOrder_9 K Z 100000 X 0
  else
    (f_addRows K X 0 0 8).bind fun (r61, s62) =>
    (f_addRows K s62 r61 4 8).bind fun (r63, s64) =>
    (f_addRows K s64 r63 2 4).bind fun (r65, s66) =>
    (f_addRows K s66 r65 1 2).bind fun (r67, s68) =>
    some s68
def f_rasterOf (X : List Int32) (C v1 : Int32) : Option (Int32) :=
  if C = 0 then none else
  if C = 0 then none else
  if (v1 / C) < 0 then
    some 0
  else
    if (v1 / C) < 16 then
      (rdA X (v1 / C)).bind fun x70 =>
      some ((x70 * C) + (v1 % C))
    else
      some 0
def f_decode_63 (Q : List Int32) (C K b t k a f g Z z : Int32) (zg X F j W V H Y : List Int32) (zh zi zb zc J B T G v1 : Int32) : Option (Int32 × List Int32 × List Int32 × List Int32 × List Int32 × List Int32 × List Int32 × List Int32 × List Int32 × Int32 × Int32 × Int32 × Int32 × Int32 × Int32 × Int32 × Int32) :=
  some (v1, zg, X, F, j, W, V, H, Y, 1, zi, zb, zc, J, B, T, G)
def f_decode_20 (k63 : List Int32 → List Int32 → List Int32 → List Int32 → List Int32 → List Int32 → List Int32 → List Int32 → Int32 → Int32 → Int32 → Int32 → Int32 → Int32 → Int32 → Int32 → Int32 → Option (Int32 × List Int32 × List Int32 × List Int32 × List Int32 × List Int32 × List Int32 × List Int32 × List Int32 × Int32 × Int32 × Int32 × Int32 × Int32 × Int32 × Int32 × Int32)) (Q : List Int32) (C K b t k a f g Z z : Int32) : Nat → List Int32 → List Int32 → List Int32 → List Int32 → List Int32 → List Int32 → List Int32 → List Int32 → Int32 → Int32 → Int32 → Int32 → Int32 → Int32 → Int32 → Int32 → Int32 → Int32 → Option (Int32 × List Int32 × List Int32 × List Int32 × List Int32 × List Int32 × List Int32 × List Int32 × List Int32 × Int32 × Int32 × Int32 × Int32 × Int32 × Int32 × Int32 × Int32)
  | 0, _, _, _, _, _, _, _, _, _, _, _, _, _, _, _, _, _, _ => none
  | n + 1, zg, X, F, j, W, V, H, Y, zh, zi, zb, zc, J, B, T, G, v1, v2 =>
    if v2 < b then
      (f_rasterOf X C v2).bind fun r85 =>
      if r85 < 0 then
        f_decode_20 k63 Q C K b t k a f g Z z n zg X F j W V H Y zh zi zb zc J B T G v1 (v2 + 1)
      else
        if r85 < 256 then
          (rdA F v2).bind fun x86 =>
          (wrA zg r85 x86).bind fun A87 =>
          f_decode_20 k63 Q C K b t k a f g Z z n A87 X F j W V H Y zh zi zb zc J B T G v1 (v2 + 1)
        else
          f_decode_20 k63 Q C K b t k a f g Z z n zg X F j W V H Y zh zi zb zc J B T G v1 (v2 + 1)
    else
      k63 zg X F j W V H Y zh zi zb zc J B T G v1
def f_decode (Q : List Int32) (C K b t k a f g Z z : Int32) (zg X F j W V H Y : List Int32) (zh zi zb zc J B T G : Int32) : Option (Int32 × List Int32 × List Int32 × List Int32 × List Int32 × List Int32 × List Int32 × List Int32 × List Int32 × Int32 × Int32 × Int32 × Int32 × Int32 × Int32 × Int32 × Int32) :=
  (f_decodeSteps Q b t k a f g z F j W V H Y zb zc J B T G).bind fun (r71, s72, s73, s74, s75, s76, s77, s78, s79, s80, s81, s82, s83) =>
  if r71 = 0 then
    (f_buildRowOrder K Z X).bind fun s84 =>
    f_decode_20 (f_decode_63 Q C K b t k a f g Z z) Q C K b t k a f g Z z 100000 zg s84 s72 s73 s74 s75 s76 s77 zh r71 s78 s79 s80 s81 s82 s83 r71 0
  else
    some (r71, zg, X, s72, s73, s74, s75, s76, s77, 0, r71, s78, s79, s80, s81, s82, s83)
def f_setInterlaced (Z v1 : Int32) : Option (Int32) :=
  if v1 = 0 ∨ v1 = 1 then
    some v1
  else none
def f_setBlockSize (za v1 : Int32) : Option (Int32 × Int32) :=
  (f_clamp v1 4 255).bind fun r88 =>
  some (r88, r88)
def f_setPixel (b t : Int32) (ze : List Int32) (v1 v2 : Int32) : Option (Int32 × List Int32) :=
  if v1 < 0 then
    some (0, ze)
  else
    if v1 < b then
      if v2 < 0 then
        some (0, ze)
      else
        if v2 < t then
          (wrA ze v1 v2).bind fun A89 =>
          some (1, A89)
        else
          some (0, ze)
    else
      some (0, ze)
def f_fill_46 (b t : Int32) : Nat → List Int32 → Int32 → Int32 → Int32 → Int32 → Option (Int32 × List Int32)
  | 0, _, _, _, _, _ => none
  | n + 1, ze, v1, v2, v3, v4 =>
    if v4 < (v1 + v2) then
      if v4 < 256 then
        (wrA ze v4 v3).bind fun A90 =>
        f_fill_46 b t n A90 v1 v2 v3 (v4 + 1)
      else
        some (1, ze)
    else
      some (1, ze)
def f_fill (b t : Int32) (ze : List Int32) (v1 v2 v3 : Int32) : Option (Int32 × List Int32) :=
  if v3 < 0 then
    some (0, ze)
  else
    if v3 < t then
      if v1 < 0 then
        some (0, ze)
      else
        if v1 < b then
          if v2 < 1 then
            some (0, ze)
          else
            if (b - v1) < v2 then
              some (0, ze)
            else
              f_fill_46 b t 100000 ze v1 v2 v3 v1
        else
          some (0, ze)
    else
      some (0, ze)
def f_resetEncoderTable_2 : Nat → List Int32 → Int32 → Int32 → Option (List Int32)
  | 0, _, _, _ => none
  | n + 1, I, v1, v2 =>
    if v2 < v1 then
      if v2 < 512 then
        (wrA I v2 (-1 : Int32)).bind fun A91 =>
        f_resetEncoderTable_2 n A91 v1 (v2 + 1)
      else
        some I
    else
      some I
def f_resetEncoderTable (I : List Int32) (v1 : Int32) : Option (List Int32) :=
  f_resetEncoderTable_2 100000 I v1 0
def f_putCode_74 (kb : List Int32 → Int32 → Int32 → Int32 → Option (List Int32 × Int32)) (U : Int32) (j : List Int32) (r v1 v2 : Int32) : Option (List Int32 × Int32) :=
  kb j (r + 1) v1 (v2 + 1)
def f_putCode_49 (kb : List Int32 → Int32 → Int32 → Int32 → Option (List Int32 × Int32)) (U : Int32) (j : List Int32) (r v1 v2 v3 v4 : Int32) : Option (List Int32 × Int32) :=
  if ((v1 >>> (v2 &&& 31)) &&& 1) = 0 then
    f_putCode_74 kb U j r v1 v2
  else
    (rdA j v3).bind fun x93 =>
    (wrA j v3 (x93 ||| ((1 : Int32) <<< (v4 &&& 31)))).bind fun A94 =>
    f_putCode_74 kb U A94 r v1 v2
def f_putCode_2 (U : Int32) : Nat → List Int32 → Int32 → Int32 → Int32 → Option (List Int32 × Int32)
  | 0, _, _, _, _ => none
  | n + 1, j, r, v1, v2 =>
    if v2 < U then
      if (r >>> ((3 : Int32) &&& 31)) < 0 then
        f_putCode_74 (f_putCode_2 U n) U j r v1 v2
      else
        if (r >>> ((3 : Int32) &&& 31)) < 512 then
          if (r &&& 7) = 0 then
            (wrA j (r >>> ((3 : Int32) &&& 31)) 0).bind fun A92 =>
            f_putCode_49 (f_putCode_2 U n) U A92 r v1 v2 (r >>> ((3 : Int32) &&& 31)) (r &&& 7)
          else
            f_putCode_49 (f_putCode_2 U n) U j r v1 v2 (r >>> ((3 : Int32) &&& 31)) (r &&& 7)
        else
          f_putCode_74 (f_putCode_2 U n) U j r v1 v2
    else
      some (j, r)
def f_putCode (U : Int32) (j : List Int32) (r v1 : Int32) : Option (List Int32 × Int32) :=
  f_putCode_2 U 100000 j r v1 0
def f_findChild_23 (I zd zf : List Int32) : Nat → Int32 → Int32 → Int32 → Option (Int32)
  | 0, _, _, _ => none
  | n + 1, v2, v3, v4 =>
    if v4 < 512 then
      if v3 < 0 then
        some (-1 : Int32)
      else
        if v3 < 512 then
          (rdA zf v3).bind fun x96 =>
          if x96 = v2 then
            some v3
          else
            (rdA zd v3).bind fun x97 =>
            f_findChild_23 I zd zf n v2 x97 (v4 + 1)
        else
          some (-1 : Int32)
    else
      some (-1 : Int32)
def f_findChild (I zd zf : List Int32) (v1 v2 : Int32) : Option (Int32) :=
  if v1 < 0 then
    some (-1 : Int32)
  else
    if v1 < 512 then
      (rdA I v1).bind fun x95 =>
      f_findChild_23 I zd zf 100000 v2 x95 0
    else
      some (-1 : Int32)
def f_addEncoderCode_101 (k a f g : Int32) (j I zd zf : List Int32) (r U O : Int32) : Option (List Int32 × List Int32 × List Int32 × List Int32 × Int32 × Int32 × Int32) :=
  if O = g then
    (f_putCode U j r a).bind fun (s103, s104) =>
    (f_resetEncoderTable I O).bind fun s105 =>
    some (s103, s105, zd, zf, s104, (k + 1), (a + 2))
  else
    some (j, I, zd, zf, r, U, O)
def f_addEncoderCode_60 (k a f g : Int32) (j I zd zf : List Int32) (r U O v3 : Int32) : Option (List Int32 × List Int32 × List Int32 × List Int32 × Int32 × Int32 × Int32) :=
  f_addEncoderCode_101 k a f g j I zd zf r (if ((1 : Int32) <<< (U &&& 31)) < (v3 + 1) then (if U < f then (U + 1) else U) else U) (v3 + 1)
def f_addEncoderCode (k a f g : Int32) (j I zd zf : List Int32) (r U O v1 v2 : Int32) : Option (List Int32 × List Int32 × List Int32 × List Int32 × Int32 × Int32 × Int32) :=
  if O < 0 then
    f_addEncoderCode_60 k a f g j I zd zf r U O O
  else
    if O < 512 then
      if v1 < 0 then
        f_addEncoderCode_60 k a f g j I zd zf r U O O
      else
        if v1 < 512 then
          (wrA zf O v2).bind fun A98 =>
          (rdA I v1).bind fun x99 =>
          (wrA zd O x99).bind fun A100 =>
          (wrA I v1 O).bind fun A101 =>
          (wrA A101 O (-1 : Int32)).bind fun A102 =>
          f_addEncoderCode_60 k a f g j A102 A100 A98 r U O O
        else
          f_addEncoderCode_60 k a f g j I zd zf r U O O
    else
      f_addEncoderCode_60 k a f g j I zd zf r U O O
def f_compress_103 (F : List Int32) (b k a f g : Int32) (j I zd zf : List Int32) (r U O v1 : Int32) : Option (List Int32 × List Int32 × List Int32 × List Int32 × Int32 × Int32 × Int32) :=
  (f_putCode U j r v1).bind fun (s121, s122) =>
  (f_putCode U s121 s122 (a + 1)).bind fun (s123, s124) =>
  some (s123, I, zd, zf, s124, U, O)
def f_compress_50 (k103 : List Int32 → List Int32 → List Int32 → List Int32 → Int32 → Int32 → Int32 → Int32 → Option (List Int32 × List Int32 × List Int32 × List Int32 × Int32 × Int32 × Int32)) (F : List Int32) (b k a f g : Int32) : Nat → List Int32 → List Int32 → List Int32 → List Int32 → Int32 → Int32 → Int32 → Int32 → Int32 → Option (List Int32 × List Int32 × List Int32 × List Int32 × Int32 × Int32 × Int32)
  | 0, _, _, _, _, _, _, _, _, _ => none
  | n + 1, j, I, zd, zf, r, U, O, v1, v2 =>
    if v2 < b then
      (rdA F v2).bind fun x110 =>
      (f_findChild I zd zf v1 x110).bind fun r111 =>
      if r111 < 0 then
        (f_putCode U j r v1).bind fun (s112, s113) =>
        (f_addEncoderCode k a f g s112 I zd zf s113 U O v1 x110).bind fun (s114, s115, s116, s117, s118, s119, s120) =>
        f_compress_50 k103 F b k a f g n s114 s115 s116 s117 s118 s119 s120 x110 (v2 + 1)
      else
        f_compress_50 k103 F b k a f g n j I zd zf r U O r111 (v2 + 1)
    else
      k103 j I zd zf r U O v1
def f_compress (F : List Int32) (b k a f g : Int32) (j I zd zf : List Int32) (r U O : Int32) : Option (List Int32 × List Int32 × List Int32 × List Int32 × Int32 × Int32 × Int32) :=
  (f_resetEncoderTable I g).bind fun s106 =>
  (f_putCode (k + 1) j 0 a).bind fun (s107, s108) =>
  (rdA F 0).bind fun x109 =>
  f_compress_50 (f_compress_103 F b k a f g) F b k a f g 100000 s107 s106 zd zf s108 (k + 1) (a + 2) x109 1
def f_writeOut (R : List Int32) (D v1 : Int32) : Option (List Int32 × Int32) :=
  if D < 0 then
    some (R, D)
  else
    if D < 400 then
      (wrA R D (v1 &&& 255)).bind fun A125 =>
      some (A125, (D + 1))
    else
      some (R, D)
def f_packBlocks_111 (j : List Int32) (k za r : Int32) (R : List Int32) (D : Int32) : Option (List Int32 × Int32) :=
  (f_writeOut R D 0).bind fun (s133, s134) =>
  some (s133, s134)
def f_packBlocks_79 (k38 : List Int32 → Int32 → Int32 → Int32 → Int32 → Option (List Int32 × Int32)) (j : List Int32) (k za r : Int32) : Nat → List Int32 → Int32 → Int32 → Int32 → Int32 → Int32 → Int32 → Option (List Int32 × Int32)
  | 0, _, _, _, _, _, _, _ => none
  | n + 1, R, D, v1, v2, v3, v4, v5 =>
    if v5 < v4 then
      (rdA j v2).bind fun x130 =>
      (f_writeOut R D x130).bind fun (s131, s132) =>
      f_packBlocks_79 k38 j k za r n s131 s132 v1 (v2 + 1) v3 v4 (v5 + 1)
    else
      k38 R D v1 v2 (v3 + 1)
def f_packBlocks_70 (kb : List Int32 → Int32 → Int32 → Int32 → Int32 → Option (List Int32 × Int32)) (k111 : List Int32 → Int32 → Option (List Int32 × Int32)) (j : List Int32) (k za r : Int32) (R : List Int32) (D v1 v2 v3 v4 : Int32) : Option (List Int32 × Int32) :=
  (f_writeOut R D v4).bind fun (s128, s129) =>
  f_packBlocks_79 kb j k za r 100000 s128 s129 v1 v2 v3 v4 0
def f_packBlocks_38 (k111 : List Int32 → Int32 → Option (List Int32 × Int32)) (j : List Int32) (k za r : Int32) : Nat → List Int32 → Int32 → Int32 → Int32 → Int32 → Option (List Int32 × Int32)
  | 0, _, _, _, _, _ => none
  | n + 1, R, D, v1, v2, v3 =>
    if v3 < 512 then
      if v2 < v1 then
        f_packBlocks_70 (f_packBlocks_38 k111 j k za r n) k111 j k za r R D v1 v2 v3 (if za < (v1 - v2) then za else (v1 - v2))
      else
        k111 R D
    else
      k111 R D
def f_packBlocks_21 (j : List Int32) (k za r : Int32) (R : List Int32) (D v1 : Int32) : Option (List Int32 × Int32) :=
  (f_writeOut R 0 k).bind fun (s126, s127) =>
  f_packBlocks_38 (f_packBlocks_111 j k za r) j k za r 100000 s126 s127 v1 0 0
def f_packBlocks (j : List Int32) (k za r : Int32) (R : List Int32) (D : Int32) : Option (List Int32 × Int32) :=
  f_packBlocks_21 j k za r R D (if 512 < ((r + 7) >>> ((3 : Int32) &&& 31)) then 512 else ((r + 7) >>> ((3 : Int32) &&& 31)))
def f_encode_49 (ze : List Int32) (C K b k a f g Z za : Int32) (R X F j I zd zf : List Int32) (D r U O : Int32) : Option (Int32 × List Int32 × List Int32 × List Int32 × List Int32 × List Int32 × List Int32 × List Int32 × Int32 × Int32 × Int32 × Int32) :=
  (f_compress F b k a f g j I zd zf r U O).bind fun (s139, s140, s141, s142, s143, s144, s145) =>
  (f_packBlocks s139 k za s143 R D).bind fun (s146, s147) =>
  some (s147, s146, X, F, s139, s140, s141, s142, s147, s143, s144, s145)
def f_encode_6 (k49 : List Int32 → List Int32 → List Int32 → List Int32 → List Int32 → List Int32 → List Int32 → Int32 → Int32 → Int32 → Int32 → Option (Int32 × List Int32 × List Int32 × List Int32 × List Int32 × List Int32 × List Int32 × List Int32 × Int32 × Int32 × Int32 × Int32)) (ze : List Int32) (C K b k a f g Z za : Int32) : Nat → List Int32 → List Int32 → List Int32 → List Int32 → List Int32 → List Int32 → List Int32 → Int32 → Int32 → Int32 → Int32 → Int32 → Option (Int32 × List Int32 × List Int32 × List Int32 × List Int32 × List Int32 × List Int32 × List Int32 × Int32 × Int32 × Int32 × Int32)
  | 0, _, _, _, _, _, _, _, _, _, _, _, _ => none
  | n + 1, R, X, F, j, I, zd, zf, D, r, U, O, v1 =>
    if v1 < b then
      (f_rasterOf X C v1).bind fun r136 =>
      if r136 < 0 then
        f_encode_6 k49 ze C K b k a f g Z za n R X F j I zd zf D r U O (v1 + 1)
      else
        if r136 < 256 then
          (rdA ze r136).bind fun x137 =>
          (wrA F v1 x137).bind fun A138 =>
          f_encode_6 k49 ze C K b k a f g Z za n R X A138 j I zd zf D r U O (v1 + 1)
        else
          f_encode_6 k49 ze C K b k a f g Z za n R X F j I zd zf D r U O (v1 + 1)
    else
      k49 R X F j I zd zf D r U O
def f_encode (ze : List Int32) (C K b k a f g Z za : Int32) (R X F j I zd zf : List Int32) (D r U O : Int32) : Option (Int32 × List Int32 × List Int32 × List Int32 × List Int32 × List Int32 × List Int32 × List Int32 × Int32 × Int32 × Int32 × Int32) :=
  (f_buildRowOrder K Z X).bind fun s135 =>
  f_encode_6 (f_encode_49 ze C K b k a f g Z za) ze C K b k a f g Z za 100000 R s135 F j I zd zf D r U O 0
def f_clearInput (z : Int32) : Option (Int32) :=
  some 0
def f_setInByte (z : Int32) (Q : List Int32) (v1 v2 : Int32) : Option (Int32 × List Int32) :=
  if v1 < 0 then
    some (0, Q)
  else
    if v1 < z then
      if v2 < 0 then
        some (0, Q)
      else
        if 255 < v2 then
          some (0, Q)
        else
          (wrA Q v1 v2).bind fun A148 =>
          some (1, A148)
    else
      some (0, Q)
def f_loadInFromOut_40 (R : List Int32) (D : Int32) (Q : List Int32) (z v1 : Int32) : Option (Int32 × List Int32 × Int32) :=
  some (v1, Q, v1)
def f_loadInFromOut_4 (k40 : List Int32 → Int32 → Int32 → Option (Int32 × List Int32 × Int32)) (R : List Int32) (D : Int32) : Nat → List Int32 → Int32 → Int32 → Int32 → Option (Int32 × List Int32 × Int32)
  | 0, _, _, _, _ => none
  | n + 1, Q, z, v1, v2 =>
    if v2 < D then
      if v2 < 512 then
        (rdA R v2).bind fun x149 =>
        (wrA Q v2 x149).bind fun A150 =>
        f_loadInFromOut_4 k40 R D n A150 z (v1 + 1) (v2 + 1)
      else
        k40 Q z v1
    else
      k40 Q z v1
def f_loadInFromOut (R : List Int32) (D : Int32) (Q : List Int32) (z : Int32) : Option (Int32 × List Int32 × Int32) :=
  f_loadInFromOut_4 (f_loadInFromOut_40 R D) R D 100000 Q z 0 0
def f_putInByte (Q : List Int32) (z v1 : Int32) : Option (Int32 × List Int32 × Int32) :=
  if v1 < 0 then
    some (0, Q, z)
  else
    if 255 < v1 then
      some (0, Q, z)
    else
      if z < 512 then
        (wrA Q z v1).bind fun A151 =>
        some (1, A151, (z + 1))
      else
        some (0, Q, z)
def f_L_step_14 (C K b t k a f g : Int32) (ze R Q X F j I zd zf : List Int32) (Z za D z r U O t0 : Int32) : Option (List Int32 × List Int32 × List Int32 × List Int32 × List Int32 × List Int32 × List Int32 × List Int32 × List Int32 × Int32 × Int32 × Int32 × Int32 × Int32 × Int32 × Int32) :=
  (f_setInterlaced Z t0).bind fun s179 =>
  some (ze, R, Q, X, F, j, I, zd, zf, s179, za, D, z, r, U, O)
def f_L_step (C K b t k a f g : Int32) (ze R Q X F j I zd zf : List Int32) (Z za D z r U O v1 v2 v3 v4 : Int32) : Option (List Int32 × List Int32 × List Int32 × List Int32 × List Int32 × List Int32 × List Int32 × List Int32 × List Int32 × Int32 × Int32 × Int32 × Int32 × Int32 × Int32 × Int32) :=
  if v1 = 0 then
    f_L_step_14 C K b t k a f g ze R Q X F j I zd zf Z za D z r U O (if v2 = 0 then 0 else 1)
  else
    if v1 = 1 then
      (f_setBlockSize za v2).bind fun (r177, s178) =>
      some (ze, R, Q, X, F, j, I, zd, zf, Z, s178, D, z, r, U, O)
    else
      if v1 = 2 then
        (f_setPixel b t ze v2 v3).bind fun (r175, s176) =>
        some (s176, R, Q, X, F, j, I, zd, zf, Z, za, D, z, r, U, O)
      else
        if v1 = 3 then
          (f_fill b t ze v2 v3 v4).bind fun (r173, s174) =>
          some (s174, R, Q, X, F, j, I, zd, zf, Z, za, D, z, r, U, O)
        else
          if v1 = 4 then
            (f_encode ze C K b k a f g Z za R X F j I zd zf D r U O).bind fun (r161, s162, s163, s164, s165, s166, s167, s168, s169, s170, s171, s172) =>
            some (ze, s162, Q, s163, s164, s165, s166, s167, s168, Z, za, s169, z, s170, s171, s172)
          else
            if v1 = 5 then
              (f_clearInput z).bind fun s160 =>
              some (ze, R, Q, X, F, j, I, zd, zf, Z, za, D, s160, r, U, O)
            else
              if v1 = 7 then
                (f_setInByte z Q v2 v3).bind fun (r158, s159) =>
                some (ze, R, s159, X, F, j, I, zd, zf, Z, za, D, z, r, U, O)
              else
                if v1 = 8 then
                  (f_loadInFromOut R D Q z).bind fun (r155, s156, s157) =>
                  some (ze, R, s156, X, F, j, I, zd, zf, Z, za, D, s157, r, U, O)
                else
                  (f_putInByte Q z v2).bind fun (r152, s153, s154) =>
                  some (ze, R, s153, X, F, j, I, zd, zf, Z, za, D, s154, r, U, O)
def f_getPixel (ze : List Int32) (b v1 : Int32) : Option (Int32) :=
  if v1 < 0 then
    some (-1 : Int32)
  else
    if v1 < b then
      (rdA ze v1).bind fun x180 =>
      some x180
    else
      some (-1 : Int32)
def f_getOutLength (D : Int32) : Option (Int32) :=
  some D
def f_getInLength (z : Int32) : Option (Int32) :=
  some z
def f_getOutByte (R : List Int32) (D v1 : Int32) : Option (Int32) :=
  if v1 < 0 then
    some (-1 : Int32)
  else
    if v1 < D then
      (rdA R v1).bind fun x181 =>
      some x181
    else
      some (-1 : Int32)
def f_getDecodedPixel (zg : List Int32) (b zh v1 : Int32) : Option (Int32) :=
  if zh = 0 then
    some (-1 : Int32)
  else
    if v1 < 0 then
      some (-1 : Int32)
    else
      if v1 < b then
        (rdA zg v1).bind fun x182 =>
        some x182
      else
        some (-1 : Int32)
def f_L_law_257 (scr : List Int32) : Nat → List Int32 → Int32 → Int32 → List Int32 → Int32 → Int32 → Int32 → Option (Int32)
  | 0, _, _, _, _, _, _, _ => none
  | n + 1, zg, b, zh, yf, ye, yg, v9 =>
    if v9 < 15 then
      (f_getDecodedPixel zg b zh v9).bind fun r352 =>
      (f_getDecodedPixel yf ye yg v9).bind fun r353 =>
      if r352 = r353 then
        f_L_law_257 scr n zg b zh yf ye yg (v9 + 1)
      else
        some 0
    else
      some 1
def f_L_law_233 (scr Q zg X F j W V H Y : List Int32) (C K b t k a f g Z z zh zi zb zc J B T G : Int32) (yp yf xe xf xg yr ys yt yu : List Int32) (yh yi ye yj yk yl ym yn yq yo yg yv yw yx yy yz xa xb : Int32) : Option (Int32) :=
  (f_decode Q C K b t k a f g Z z zg X F j W V H Y zh zi zb zc J B T G).bind fun (r318, s319, s320, s321, s322, s323, s324, s325, s326, s327, s328, s329, s330, s331, s332, s333, s334) =>
  (f_decode yp yh yi ye yj yk yl ym yn yq yo yf xe xf xg yr ys yt yu yg yv yw yx yy yz xa xb).bind fun (r335, s336, s337, s338, s339, s340, s341, s342, s343, s344, s345, s346, s347, s348, s349, s350, s351) =>
  if r318 = r335 then
    f_L_law_257 scr 100000 s319 b s327 s336 ye s344 0
  else
    some 0
def f_L_law_194 (k233 : List Int32 → List Int32 → List Int32 → List Int32 → List Int32 → List Int32 → List Int32 → List Int32 → List Int32 → Int32 → Int32 → Int32 → Int32 → Int32 → Int32 → Int32 → Int32 → Int32 → Int32 → Int32 → Int32 → Int32 → Int32 → Int32 → Int32 → Int32 → Int32 → List Int32 → List Int32 → List Int32 → List Int32 → List Int32 → List Int32 → List Int32 → List Int32 → List Int32 → Int32 → Int32 → Int32 → Int32 → Int32 → Int32 → Int32 → Int32 → Int32 → Int32 → Int32 → Int32 → Int32 → Int32 → Int32 → Int32 → Int32 → Int32 → Option (Int32)) (scr : List Int32) : Nat → List Int32 → List Int32 → List Int32 → List Int32 → List Int32 → List Int32 → List Int32 → List Int32 → List Int32 → List Int32 → Int32 → Int32 → Int32 → Int32 → Int32 → Int32 → Int32 → Int32 → Int32 → Int32 → Int32 → Int32 → Int32 → Int32 → Int32 → Int32 → Int32 → Int32 → Int32 → List Int32 → List Int32 → List Int32 → List Int32 → List Int32 → List Int32 → List Int32 → List Int32 → List Int32 → List Int32 → Int32 → Int32 → Int32 → Int32 → Int32 → Int32 → Int32 → Int32 → Int32 → Int32 → Int32 → Int32 → Int32 → Int32 → Int32 → Int32 → Int32 → Int32 → Int32 → Int32 → Option (Int32)
  | 0, _, _, _, _, _, _, _, _, _, _, _, _, _, _, _, _, _, _, _, _, _, _, _, _, _, _, _, _, _, _, _, _, _, _, _, _, _, _, _, _, _, _, _, _, _, _, _, _, _, _, _, _, _, _, _, _, _, _, _ => none
  | n + 1, R, Q, zg, X, F, j, W, V, H, Y, C, K, b, t, k, a, f, g, Z, D, z, zh, zi, zb, zc, J, B, T, G, xi, yp, yf, xe, xf, xg, yr, ys, yt, yu, yh, yi, ye, yj, yk, yl, ym, yn, yq, xh, yo, yg, yv, yw, yx, yy, yz, xa, xb, v7 =>
    if v7 < 400 then
      (f_getOutByte R D v7).bind fun r316 =>
      (f_getOutByte xi xh v7).bind fun r317 =>
      if r316 = r317 then
        f_L_law_194 k233 scr n R Q zg X F j W V H Y C K b t k a f g Z D z zh zi zb zc J B T G xi yp yf xe xf xg yr ys yt yu yh yi ye yj yk yl ym yn yq xh yo yg yv yw yx yy yz xa xb (v7 + 1)
      else
        some 0
    else
      k233 Q zg X F j W V H Y C K b t k a f g Z z zh zi zb zc J B T G yp yf xe xf xg yr ys yt yu yh yi ye yj yk yl ym yn yq yo yg yv yw yx yy yz xa xb
def f_L_law_153 (scr R Q zg X F j W V H Y : List Int32) (C K b t k a f g Z D z zh zi zb zc J B T G : Int32) (xi yp yf xe xf xg yr ys yt yu : List Int32) (yh yi ye yj yk yl ym yn yq xh yo yg yv yw yx yy yz xa xb : Int32) : Option (Int32) :=
  (f_getOutLength D).bind fun r312 =>
  (f_getOutLength xh).bind fun r313 =>
  (f_getInLength z).bind fun r314 =>
  (f_getInLength yo).bind fun r315 =>
  if r312 = r313 then
    if r314 = r315 then
      f_L_law_194 (f_L_law_233 scr) scr 100000 R Q zg X F j W V H Y C K b t k a f g Z D z zh zi zb zc J B T G xi yp yf xe xf xg yr ys yt yu yh yi ye yj yk yl ym yn yq xh yo yg yv yw yx yy yz xa xb 0
    else
      some 0
  else
    some 0
def f_L_law_118 (k153 : List Int32 → List Int32 → List Int32 → List Int32 → List Int32 → List Int32 → List Int32 → List Int32 → List Int32 → List Int32 → Int32 → Int32 → Int32 → Int32 → Int32 → Int32 → Int32 → Int32 → Int32 → Int32 → Int32 → Int32 → Int32 → Int32 → Int32 → Int32 → Int32 → Int32 → Int32 → List Int32 → List Int32 → List Int32 → List Int32 → List Int32 → List Int32 → List Int32 → List Int32 → List Int32 → List Int32 → Int32 → Int32 → Int32 → Int32 → Int32 → Int32 → Int32 → Int32 → Int32 → Int32 → Int32 → Int32 → Int32 → Int32 → Int32 → Int32 → Int32 → Int32 → Int32 → Option (Int32)) (scr : List Int32) : Nat → List Int32 → List Int32 → List Int32 → List Int32 → List Int32 → List Int32 → List Int32 → List Int32 → List Int32 → List Int32 → List Int32 → Int32 → Int32 → Int32 → Int32 → Int32 → Int32 → Int32 → Int32 → Int32 → Int32 → Int32 → Int32 → Int32 → Int32 → Int32 → Int32 → Int32 → Int32 → Int32 → List Int32 → List Int32 → List Int32 → List Int32 → List Int32 → List Int32 → List Int32 → List Int32 → List Int32 → List Int32 → List Int32 → Int32 → Int32 → Int32 → Int32 → Int32 → Int32 → Int32 → Int32 → Int32 → Int32 → Int32 → Int32 → Int32 → Int32 → Int32 → Int32 → Int32 → Int32 → Int32 → Int32 → Option (Int32)
  | 0, _, _, _, _, _, _, _, _, _, _, _, _, _, _, _, _, _, _, _, _, _, _, _, _, _, _, _, _, _, _, _, _, _, _, _, _, _, _, _, _, _, _, _, _, _, _, _, _, _, _, _, _, _, _, _, _, _, _, _, _, _ => none
  | n + 1, ze, R, Q, zg, X, F, j, W, V, H, Y, C, K, b, t, k, a, f, g, Z, D, z, zh, zi, zb, zc, J, B, T, G, xj, xi, yp, yf, xe, xf, xg, yr, ys, yt, yu, yh, yi, ye, yj, yk, yl, ym, yn, yq, xh, yo, yg, yv, yw, yx, yy, yz, xa, xb, v3 =>
    if v3 < 15 then
      (f_getPixel ze b v3).bind fun r310 =>
      (f_getPixel xj ye v3).bind fun r311 =>
      if r310 = r311 then
        f_L_law_118 k153 scr n ze R Q zg X F j W V H Y C K b t k a f g Z D z zh zi zb zc J B T G xj xi yp yf xe xf xg yr ys yt yu yh yi ye yj yk yl ym yn yq xh yo yg yv yw yx yy yz xa xb (v3 + 1)
      else
        some 0
    else
      k153 R Q zg X F j W V H Y C K b t k a f g Z D z zh zi zb zc J B T G xi yp yf xe xf xg yr ys yt yu yh yi ye yj yk yl ym yn yq xh yo yg yv yw yx yy yz xa xb
def f_L_law_34 (k118 : List Int32 → List Int32 → List Int32 → List Int32 → List Int32 → List Int32 → List Int32 → List Int32 → List Int32 → List Int32 → List Int32 → Int32 → Int32 → Int32 → Int32 → Int32 → Int32 → Int32 → Int32 → Int32 → Int32 → Int32 → Int32 → Int32 → Int32 → Int32 → Int32 → Int32 → Int32 → Int32 → List Int32 → List Int32 → List Int32 → List Int32 → List Int32 → List Int32 → List Int32 → List Int32 → List Int32 → List Int32 → List Int32 → Int32 → Int32 → Int32 → Int32 → Int32 → Int32 → Int32 → Int32 → Int32 → Int32 → Int32 → Int32 → Int32 → Int32 → Int32 → Int32 → Int32 → Int32 → Int32 → Int32 → Option (Int32)) (scr : List Int32) : Nat → List Int32 → List Int32 → List Int32 → List Int32 → List Int32 → List Int32 → List Int32 → List Int32 → List Int32 → List Int32 → List Int32 → List Int32 → List Int32 → List Int32 → Int32 → Int32 → Int32 → Int32 → Int32 → Int32 → Int32 → Int32 → Int32 → Int32 → Int32 → Int32 → Int32 → Int32 → Int32 → Int32 → Int32 → Int32 → Int32 → Int32 → Int32 → Int32 → Int32 → List Int32 → List Int32 → List Int32 → List Int32 → List Int32 → List Int32 → List Int32 → List Int32 → List Int32 → List Int32 → List Int32 → List Int32 → List Int32 → List Int32 → Int32 → Int32 → Int32 → Int32 → Int32 → Int32 → Int32 → Int32 → Int32 → Int32 → Int32 → Int32 → Int32 → Int32 → Int32 → Int32 → Int32 → Int32 → Int32 → Int32 → Int32 → Int32 → Int32 → Int32 → Option (Int32)
  | 0, _, _, _, _, _, _, _, _, _, _, _, _, _, _, _, _, _, _, _, _, _, _, _, _, _, _, _, _, _, _, _, _, _, _, _, _, _, _, _, _, _, _, _, _, _, _, _, _, _, _, _, _, _, _, _, _, _, _, _, _, _, _, _, _, _, _, _, _, _, _, _, _, _, _, _ => none
  | n + 1, ze, R, Q, zg, X, F, j, I, zd, zf, W, V, H, Y, C, K, b, t, k, a, f, g, Z, za, D, z, zh, zi, r, U, O, zb, zc, J, B, T, G, xj, xi, yp, yf, xe, xf, xg, xk, xl, xm, yr, ys, yt, yu, yh, yi, ye, yj, yk, yl, ym, yn, yq, xn, xh, yo, yg, yv, xo, xp, xq, yw, yx, yy, yz, xa, xb, v3 =>
    if scr.length.toInt32 < (v3 + 4) then
      k118 ze R Q zg X F j W V H Y C K b t k a f g Z D z zh zi zb zc J B T G xj xi yp yf xe xf xg yr ys yt yu yh yi ye yj yk yl ym yn yq xh yo yg yv yw yx yy yz xa xb 0
    else
      (rdA scr v3).bind fun x257 =>
      (rdA scr (v3 + 1)).bind fun x258 =>
      (rdA scr (v3 + 2)).bind fun x259 =>
      (rdA scr (v3 + 3)).bind fun x260 =>
      if (x257 &&& 15) = 9 then
        (f_decode Q C K b t k a f g Z z zg X F j W V H Y zh zi zb zc J B T G).bind fun (r293, s294, s295, s296, s297, s298, s299, s300, s301, s302, s303, s304, s305, s306, s307, s308, s309) =>
        f_L_law_34 k118 scr n ze R Q s294 s295 s296 s297 I zd zf s298 s299 s300 s301 C K b t k a f g Z za D z s302 s303 r U O s304 s305 s306 s307 s308 s309 xj xi yp yf xe xf xg xk xl xm yr ys yt yu yh yi ye yj yk yl ym yn yq xn xh yo yg yv xo xp xq yw yx yy yz xa xb (v3 + 4)
      else
        (f_L_step C K b t k a f g ze R Q X F j I zd zf Z za D z r U O (x257 &&& 15) x258 x259 x260).bind fun (s261, s262, s263, s264, s265, s266, s267, s268, s269, s270, s271, s272, s273, s274, s275, s276) =>
        (f_L_step yh yi ye yj yk yl ym yn xj xi yp xe xf xg xk xl xm yq xn xh yo xo xp xq (x257 &&& 15) x258 x259 x260).bind fun (s277, s278, s279, s280, s281, s282, s283, s284, s285, s286, s287, s288, s289, s290, s291, s292) =>
        f_L_law_34 k118 scr n s261 s262 s263 zg s264 s265 s266 s267 s268 s269 W V H Y C K b t k a f g s270 s271 s272 s273 zh zi s274 s275 s276 zb zc J B T G s277 s278 s279 yf s280 s281 s282 s283 s284 s285 yr ys yt yu yh yi ye yj yk yl ym yn s286 s287 s288 s289 yg yv s290 s291 s292 yw yx yy yz xa xb (v3 + 4)
def f_L_law (scr : List Int32) : Option (Int32) :=
  (f_init 3 5 9 4).bind fun (s183, s184, s185, s186, s187, s188, s189, s190, s191, s192, s193, s194, s195, s196, s197, s198, s199, s200, s201, s202, s203, s204, s205, s206, s207, s208, s209, s210, s211, s212, s213, s214, s215, s216, s217, s218, s219) =>
  (f_init 3 5 9 4).bind fun (s220, s221, s222, s223, s224, s225, s226, s227, s228, s229, s230, s231, s232, s233, s234, s235, s236, s237, s238, s239, s240, s241, s242, s243, s244, s245, s246, s247, s248, s249, s250, s251, s252, s253, s254, s255, s256) =>
  f_L_law_34 (f_L_law_118 (f_L_law_153 scr) scr 100000) scr 100000 s183 s184 s185 s186 s187 s188 s189 s190 s191 s192 s193 s194 s195 s196 s197 s198 s199 s200 s201 s202 s203 s204 s205 s206 s207 s208 s209 s210 s211 s212 s213 s214 s215 s216 s217 s218 s219 s220 s221 s222 s223 s224 s225 s226 s227 s228 s229 s230 s231 s232 s233 s234 s235 s236 s237 s238 s239 s240 s241 s242 s243 s244 s245 s246 s247 s248 s249 s250 s251 s252 s253 s254 s255 s256 0
set_option maxHeartbeats 4000000
set_option maxRecDepth 10000
abbrev qi (x : Int32) : Slot := .val (.int x)
abbrev ql (x : Int64) : Slot := .val (.long x)
abbrev qr (x : Nat) : Slot := .val (.ref x)
abbrev qu : Slot := .unset
abbrev qw : Slot := .second
abbrev qa (l : List Int32) : ACell := .inr (.inl (false, l))
abbrev bl1 (c0 c1 c2 c3 c4 c5 c6 c7 c8 c9 c10 c11 c12 c13 c14 c15 : ACell) (s_pixels : List Int32) (s_out : List Int32) (s_in : List Int32) (s_decodedPix : List Int32) (s_rowOrder : List Int32) (s_streamBuf : List Int32) (s_data : List Int32) (s_firstChild : List Int32) (s_nextSibling : List Int32) (s_childPixel : List Int32) (s_prefix : List Int32) (s_suffix : List Int32) (s_firstPix : List Int32) (s_strLen : List Int32) (s_width : Int32) (s_height : Int32) (s_total : Int32) (s_palette : Int32) (s_minSize : Int32) (s_clearCode : Int32) (s_maxWidth : Int32) (s_codeLimit : Int32) (s_interlaced : Int32) (s_blockSize : Int32) (s_outLen : Int32) (s_inLen : Int32) (s_hasDecoded : Int32) (s_status : Int32) (s_bitPos : Int32) (s_encWidth : Int32) (s_encNext : Int32) (s_dataLen : Int32) (s_readPos : Int32) (s_decWidth : Int32) (s_decNext : Int32) (s_decPrev : Int32) (s_decCount : Int32) (po : List ACell) : List ACell := c0 :: c1 :: c2 :: c3 :: c4 :: c5 :: c6 :: c7 :: c8 :: c9 :: c10 :: c11 :: c12 :: c13 :: c14 :: c15 :: bk1 s_pixels s_out s_in s_decodedPix s_rowOrder s_streamBuf s_data s_firstChild s_nextSibling s_childPixel s_prefix s_suffix s_firstPix s_strLen s_width s_height s_total s_palette s_minSize s_clearCode s_maxWidth s_codeLimit s_interlaced s_blockSize s_outLen s_inLen s_hasDecoded s_status s_bitPos s_encWidth s_encNext s_dataLen s_readPos s_decWidth s_decNext s_decPrev s_decCount po
theorem oa {P : PD} {mi : Nat} {d : MD} (hm : P.mth[mi]? = some d) (k pc' : Nat) (L' : List Slot) (S' : List Value) {r : Jvm.Own.Res} {pc : Nat} {L : List Slot} {S : List Value} {H : AHeap} (e : adv P d k pc L S H = some (pc', L', S', H)) (E : OEnds P mi pc' L' S' H r) : OEnds P mi pc L S H r := OEnds.adv hm k e E
theorem ob {P : PD} {mi : Nat} {d : MD} (hm : P.mth[mi]? = some d) (k pc' : Nat) (L' : List Slot) (S' : List Value) (H' : AHeap) {r : Jvm.Own.Res} {pc : Nat} {L : List Slot} {S : List Value} {H : AHeap} (e : adv P d k pc L S H = some (pc', L', S', H')) (E : OEnds P mi pc' L' S' H' r) : OEnds P mi pc L S H r := OEnds.adv hm k e E
theorem oc {P : PD} {mi : Nat} (pc : Nat) (L : List Slot) (S : List Value) {H : AHeap} {r : Jvm.Own.Res} (E : OEnds P mi pc L S H r) : OEnds P mi pc L S H r := E
theorem od {P : PD} {mi : Nat} {d : MD} (hm : P.mth[mi]? = some d) (k pc' : Nat) (L' : List Slot) (S' : List Value) {Q : Jvm.Own.Res → Prop} {pc : Nat} {L : List Slot} {S : List Value} {H : AHeap} (e : adv P d k pc L S H = some (pc', L', S', H)) (E : OEndsQ P mi pc' L' S' H Q) : OEndsQ P mi pc L S H Q := OEndsQ.adv hm k e E
section Ok
variable {B C D G J K O T U Z a b f g ga gb gc gd ge k r t xa xb xd xh xn xo xp xq xt xu xv xw xx xy xz ya yb yc yd ye yg yh yi yj yk yl ym yn yo yq yv yw yx yy yz z za zb zc zh zi zl zn zt zu zw zx : Int32} {F H I Q R V W X Y j xc xe xf xg xi xj xk xl xm xr xs yf yp yr ys yt yu zd ze zf zg zj zk zm zo zp zq zr zs zv zy zz : List Int32} {c0 c1 c10 c11 c12 c13 c14 c15 c2 c3 c4 c5 c6 c7 c8 c9 : ACell} {po : List ACell}
theorem ok_clamp_0 {v1 v2 v3 res : Int32} (h : f_clamp v1 v2 v3 = some res) : OEnds own_P 2 0 [qr 1, qi v1, qi v2, qi v3] [] (c0 :: bk0 ze R Q zg X F j I zd zf W V H Y C K b t k a f g Z za D z zh zi r U O zb zc J B T G po) (some (.int res), (c0 :: bk0 ze R Q zg X F j I zd zf W V H Y C K b t k a f g Z za D z zh zi r U O zb zc J B T G po), 0, 0) := by
  unfold f_clamp at h
  refine oa hm_2 2 2 [qr 1, qi v1, qi v2, qi v3] [.int v2, .int v1] rfl ?_
  by_cases hc1 : v1 < v2
  · simp only [if_pos hc1] at h
    refine OEnds.icmpF hm_2 rfl ((tlt hc1).2.1) ?_
    refine oa hm_2 1 6 [qr 1, qi v1, qi v2, qi v3] [.int v2] rfl ?_
    cases h
    exact OEnds.iret hm_2 rfl rfl
  · simp only [if_neg hc1] at h
    refine OEnds.icmpT hm_2 rfl (q := 7) rfl ((flt hc1).2.1) ?_
    refine oa hm_2 2 9 [qr 1, qi v1, qi v2, qi v3] [.int v3, .int v1] rfl ?_
    by_cases hc2 : v3 < v1
    · simp only [if_pos hc2] at h
      refine OEnds.icmpF hm_2 rfl ((tlt hc2).2.2.2) ?_
      refine oa hm_2 1 13 [qr 1, qi v1, qi v2, qi v3] [.int v3] rfl ?_
      cases h
      exact OEnds.iret hm_2 rfl rfl
    · simp only [if_neg hc2] at h
      refine OEnds.icmpT hm_2 rfl (q := 14) rfl ((flt hc2).2.2.2) ?_
      refine oa hm_2 1 15 [qr 1, qi v1, qi v2, qi v3] [.int v1] rfl ?_
      cases h
      exact OEnds.iret hm_2 rfl rfl
theorem ok_init_259_0 : ∀ {ze R Q zg X F j I zd zf W V H Y : List Int32} {C K b t k a f g Z za D z zh zi r U O zb zc J B T G v6 : Int32} {d1 d2 d3 d4 d5 : Slot} {xr zm xc xs zo zk zj zv zy zz zp zq zr zs : List Int32} {xx xy xz ga gb gc gd ge xv xw zn xd xt xu zl ya yb yc yd zt zu zw : Int32} {zx : Int32}, f_init_259 ze R Q zg X F j I zd zf W V H Y C K b t k a f g Z za D z zh zi r U O zb zc J B T G v6 = some (xr, zm, xc, xs, zo, zk, zj, zv, zy, zz, zp, zq, zr, zs, xx, xy, xz, ga, gb, gc, gd, ge, xv, xw, zn, xd, xt, xu, zl, ya, yb, yc, yd, zt, zu, zw, zx) → OEnds own_P 1 259 [qr 1, d1, d2, d3, d4, d5, qi v6] [] (c0 :: bk0 ze R Q zg X F j I zd zf W V H Y C K b t k a f g Z za D z zh zi r U O zb zc J B T G []) (none, (c0 :: bk0 xr zm xc xs zo zk zj zv zy zz zp zq zr zs xx xy xz ga gb gc gd ge xv xw zn xd xt xu zl ya yb yc yd zt zu zw zx []), 0, 0) := by
  intro ze R Q zg X F j I zd zf W V H Y C K b t k a f g Z za D z zh zi r U O zb zc J B T G v6 d1 d2 d3 d4 d5 xr zm xc xs zo zk zj zv zy zz zp zq zr zs xx xy xz ga gb gc gd ge xv xw zn xd xt xu zl ya yb yc yd zt zu zw zx h
  unfold f_init_259 at h
  refine ob hm_1 26 305 [qr 1, qu, qu, qu, qu, qu, qi v6] [] (c0 :: bk0 ze R Q zg X F j I zd zf W V H Y C K b t k a v6 ((1 : Int32) <<< (v6 &&& 31)) 0 255 0 0 0 1 r U O zb zc J B T G []) rfl ?_
  cases h
  exact OEnds.vret hm_1 rfl rfl
theorem ok_init_219_0 : ∀ {ze R Q zg X F j I zd zf W V H Y : List Int32} {C K b t k a f g Z za D z zh zi r U O zb zc J B T G v4 v5 : Int32} {d1 d2 d3 d6 : Slot} {xr zm xc xs zo zk zj zv zy zz zp zq zr zs : List Int32} {xx xy xz ga gb gc gd ge xv xw zn xd xt xu zl ya yb yc yd zt zu zw : Int32} {zx : Int32}, f_init_219 ze R Q zg X F j I zd zf W V H Y C K b t k a f g Z za D z zh zi r U O zb zc J B T G v4 v5 = some (xr, zm, xc, xs, zo, zk, zj, zv, zy, zz, zp, zq, zr, zs, xx, xy, xz, ga, gb, gc, gd, ge, xv, xw, zn, xd, xt, xu, zl, ya, yb, yc, yd, zt, zu, zw, zx) → OEnds own_P 1 219 [qr 1, d1, d2, d3, qi v4, qi v5, d6] [] (c0 :: bk0 ze R Q zg X F j I zd zf W V H Y C K b t k a f g Z za D z zh zi r U O zb zc J B T G []) (none, (c0 :: bk0 xr zm xc xs zo zk zj zv zy zz zp zq zr zs xx xy xz ga gb gc gd ge xv xw zn xd xt xu zl ya yb yc yd zt zu zw zx []), 0, 0) := by
  intro ze R Q zg X F j I zd zf W V H Y C K b t k a f g Z za D z zh zi r U O zb zc J B T G v4 v5 d1 d2 d3 d6 xr zm xc xs zo zk zj zv zy zz zp zq zr zs xx xy xz ga gb gc gd ge xv xw zn xd xt xu zl ya yb yc yd zt zu zw zx h
  unfold f_init_219 at h
  refine ob hm_1 12 239 [qr 1, qu, qu, qu, qi v4, qi v5, qu] [.int 9, .int 3, .int v4, .ref 1] (c0 :: bk0 ze R Q zg X F j I zd zf W V H Y C K b t v5 ((1 : Int32) <<< (v5 &&& 31)) f g Z za D z zh zi r U O zb zc J B T G []) rfl ?_
  obtain ⟨r4, hq3, h⟩ := bnd h
  refine OEnds.call0 hm_1 rfl rfl (by decide) rfl (as := [.ref 1, .int v4, .int 3, .int 9]) (rest := []) rfl rfl (ok_clamp_0 hq3) ?_
  refine ob hm_1 5 250 [qr 1, qu, qu, qu, qi v4, qi v5, qi r4] [.int (v5 + 1), .int r4] (c0 :: bk0 ze R Q zg X F j I zd zf W V H Y C K b t v5 ((1 : Int32) <<< (v5 &&& 31)) f g Z za D z zh zi r U O zb zc J B T G []) rfl ?_
  by_cases hc4 : r4 < (v5 + 1)
  · simp only [if_pos hc4] at h
    refine OEnds.icmpF hm_1 rfl ((tlt hc4).2.1) ?_
    refine oa hm_1 4 259 [qr 1, qu, qu, qu, qi v4, qi v5, qi (v5 + 1)] [] rfl ?_
    exact ok_init_259_0 h
  · simp only [if_neg hc4] at h
    refine OEnds.icmpT hm_1 rfl (q := 259) rfl ((flt hc4).2.1) ?_
    refine oc 259 [qr 1, qu, qu, qu, qi v4, qi v5, qi r4] [] ?_
    exact ok_init_259_0 h
theorem ok_init_185_0 {k219 : List Int32 → List Int32 → List Int32 → List Int32 → List Int32 → List Int32 → List Int32 → List Int32 → List Int32 → List Int32 → List Int32 → List Int32 → List Int32 → List Int32 → Int32 → Int32 → Int32 → Int32 → Int32 → Int32 → Int32 → Int32 → Int32 → Int32 → Int32 → Int32 → Int32 → Int32 → Int32 → Int32 → Int32 → Int32 → Int32 → Int32 → Int32 → Int32 → Int32 → Int32 → Int32 → Option (List Int32 × List Int32 × List Int32 × List Int32 × List Int32 × List Int32 × List Int32 × List Int32 × List Int32 × List Int32 × List Int32 × List Int32 × List Int32 × List Int32 × Int32 × Int32 × Int32 × Int32 × Int32 × Int32 × Int32 × Int32 × Int32 × Int32 × Int32 × Int32 × Int32 × Int32 × Int32 × Int32 × Int32 × Int32 × Int32 × Int32 × Int32 × Int32 × Int32)} (hk219 : ∀ {ze R Q zg X F j I zd zf W V H Y : List Int32} {C K b t k a f g Z za D z zh zi r U O zb zc J B T G v4 v5 : Int32} {d1 d2 d3 d6 : Slot} {xr zm xc xs zo zk zj zv zy zz zp zq zr zs : List Int32} {xx xy xz ga gb gc gd ge xv xw zn xd xt xu zl ya yb yc yd zt zu zw : Int32} {zx : Int32}, k219 ze R Q zg X F j I zd zf W V H Y C K b t k a f g Z za D z zh zi r U O zb zc J B T G v4 v5 = some (xr, zm, xc, xs, zo, zk, zj, zv, zy, zz, zp, zq, zr, zs, xx, xy, xz, ga, gb, gc, gd, ge, xv, xw, zn, xd, xt, xu, zl, ya, yb, yc, yd, zt, zu, zw, zx) → OEnds own_P 1 219 [qr 1, d1, d2, d3, qi v4, qi v5, d6] [] (c0 :: bk0 ze R Q zg X F j I zd zf W V H Y C K b t k a f g Z za D z zh zi r U O zb zc J B T G []) (none, (c0 :: bk0 xr zm xc xs zo zk zj zv zy zz zp zq zr zs xx xy xz ga gb gc gd ge xv xw zn xd xt xu zl ya yb yc yd zt zu zw zx []), 0, 0)) : ∀ (n : Nat), ∀ {ze R Q zg X F j I zd zf W V H Y : List Int32} {C K b t k a f g Z za D z zh zi r U O zb zc J B T G v4 v5 v6 : Int32} {d1 d2 d3 : Slot} {xr zm xc xs zo zk zj zv zy zz zp zq zr zs : List Int32} {xx xy xz ga gb gc gd ge xv xw zn xd xt xu zl ya yb yc yd zt zu zw : Int32} {zx : Int32}, f_init_185 k219 n ze R Q zg X F j I zd zf W V H Y C K b t k a f g Z za D z zh zi r U O zb zc J B T G v4 v5 v6 = some (xr, zm, xc, xs, zo, zk, zj, zv, zy, zz, zp, zq, zr, zs, xx, xy, xz, ga, gb, gc, gd, ge, xv, xw, zn, xd, xt, xu, zl, ya, yb, yc, yd, zt, zu, zw, zx) → OEnds own_P 1 185 [qr 1, d1, d2, d3, qi v4, qi v5, qi v6] [] (c0 :: bk0 ze R Q zg X F j I zd zf W V H Y C K b t k a f g Z za D z zh zi r U O zb zc J B T G []) (none, (c0 :: bk0 xr zm xc xs zo zk zj zv zy zz zp zq zr zs xx xy xz ga gb gc gd ge xv xw zn xd xt xu zl ya yb yc yd zt zu zw zx []), 0, 0) := by
  intro n
  induction n with
  | zero => intro ze R Q zg X F j I zd zf W V H Y C K b t k a f g Z za D z zh zi r U O zb zc J B T G v4 v5 v6 d1 d2 d3 xr zm xc xs zo zk zj zv zy zz zp zq zr zs xx xy xz ga gb gc gd ge xv xw zn xd xt xu zl ya yb yc yd zt zu zw zx h; cases h
  | succ n ih =>
    intro ze R Q zg X F j I zd zf W V H Y C K b t k a f g Z za D z zh zi r U O zb zc J B T G v4 v5 v6 d1 d2 d3 xr zm xc xs zo zk zj zv zy zz zp zq zr zs xx xy xz ga gb gc gd ge xv xw zn xd xt xu zl ya yb yc yd zt zu zw zx h
    unfold f_init_185 at h
    refine ob hm_1 2 189 [qr 1, qu, qu, qu, qi v4, qi v5, qi v6] [.int 8, .int v6] (c0 :: bk0 ze R Q zg X F j I zd zf W V H Y C K b t k a f g Z za D z zh zi r U O zb zc J B T G []) rfl ?_
    by_cases hc5 : v6 < 8
    · simp only [if_pos hc5] at h
      refine OEnds.icmpF hm_1 rfl ((tlt hc5).2.1) ?_
      refine oa hm_1 5 200 [qr 1, qu, qu, qu, qi v4, qi v5, qi v6] [.int t, .int ((1 : Int32) <<< (v5 &&& 31))] rfl ?_
      by_cases hc6 : ((1 : Int32) <<< (v5 &&& 31)) < t
      · simp only [if_pos hc6] at h
        refine OEnds.icmpF hm_1 rfl ((tlt hc6).2.1) ?_
        refine oa hm_1 2 207 [qr 1, qu, qu, qu, qi v4, qi v5, qi v6] [.int 8, .int v5] rfl ?_
        by_cases hc7 : v5 < 8
        · simp only [if_pos hc7] at h
          refine OEnds.icmpF hm_1 rfl ((tlt hc7).2.1) ?_
          refine oa hm_1 3 185 [qr 1, qu, qu, qu, qi v4, qi (v5 + 1), qi (v6 + 1)] [] rfl ?_
          exact ih h
        · simp only [if_neg hc7] at h
          refine OEnds.icmpT hm_1 rfl (q := 219) rfl ((flt hc7).2.1) ?_
          refine oc 219 [qr 1, qu, qu, qu, qi v4, qi v5, qi v6] [] ?_
          exact hk219 h
      · simp only [if_neg hc6] at h
        refine OEnds.icmpT hm_1 rfl (q := 219) rfl ((flt hc6).2.1) ?_
        refine oc 219 [qr 1, qu, qu, qu, qi v4, qi v5, qi v6] [] ?_
        exact hk219 h
    · simp only [if_neg hc5] at h
      refine OEnds.icmpT hm_1 rfl (q := 219) rfl ((flt hc5).2.1) ?_
      refine oc 219 [qr 1, qu, qu, qu, qi v4, qi v5, qi v6] [] ?_
      exact hk219 h
theorem ok_init_0 {v1 v2 v3 v4 : Int32} (h : f_init v1 v2 v3 v4 = some (xr, zm, xc, xs, zo, zk, zj, zv, zy, zz, zp, zq, zr, zs, xx, xy, xz, ga, gb, gc, gd, ge, xv, xw, zn, xd, xt, xu, zl, ya, yb, yc, yd, zt, zu, zw, zx)) : OEnds own_P 1 0 [qr 1, qi v1, qi v2, qi v3, qi v4, qu, qu] [] (c0 :: (.inl (0, [.null, .null, .null, .null, .null, .null, .null, .null, .null, .null, .null, .null, .null, .null, .int 0, .int 0, .int 0, .int 0, .int 0, .int 0, .int 0, .int 0, .int 0, .int 0, .int 0, .int 0, .int 0, .int 0, .int 0, .int 0, .int 0, .int 0, .int 0, .int 0, .int 0, .int 0, .int 0]) : ACell) :: []) (none, (c0 :: bk0 xr zm xc xs zo zk zj zv zy zz zp zq zr zs xx xy xz ga gb gc gd ge xv xw zn xd xt xu zl ya yb yc yd zt zu zw zx []), 14, 5792) := by
  unfold f_init at h
  refine oa hm_1 1 1 [qr 1, qi v1, qi v2, qi v3, qi v4, qu, qu] [.ref 1] rfl ?_
  refine OEnds.oinit hm_1 rfl ⟨Nat.le_of_ble_eq_true rfl, Nat.le_of_ble_eq_true rfl⟩ ?_
  refine ob hm_1 2 8 [qr 1, qi v1, qi v2, qi v3, qi v4, qu, qu] [.int 256, .ref 1] (c0 :: (.inl (0, [.null, .null, .null, .null, .null, .null, .null, .null, .null, .null, .null, .null, .null, .null, .int 0, .int 0, .int 0, .int 0, .int 0, .int 0, .int 0, .int 0, .int 0, .int 0, .int 0, .int 0, .int 0, .int 0, .int 0, .int 0, .int 0, .int 0, .int 0, .int 0, .int 0, .int 0, .int 0]) : ACell) :: []) rfl ?_
  refine OEnds.made1 hm_1 rfl rfl (ks := 256) rfl rfl ?_
  refine ob hm_1 3 17 [qr 1, qi v1, qi v2, qi v3, qi v4, qu, qu] [.int 400, .ref 1] (c0 :: (.inl (0, [.ref 2, .null, .null, .null, .null, .null, .null, .null, .null, .null, .null, .null, .null, .null, .int 0, .int 0, .int 0, .int 0, .int 0, .int 0, .int 0, .int 0, .int 0, .int 0, .int 0, .int 0, .int 0, .int 0, .int 0, .int 0, .int 0, .int 0, .int 0, .int 0, .int 0, .int 0, .int 0]) : ACell) :: .inr (.inl (false, (List.replicate 256 0))) :: []) rfl ?_
  refine OEnds.made1 hm_1 rfl rfl (ks := 400) rfl rfl ?_
  refine ob hm_1 3 26 [qr 1, qi v1, qi v2, qi v3, qi v4, qu, qu] [.int 512, .ref 1] (c0 :: (.inl (0, [.ref 2, .ref 3, .null, .null, .null, .null, .null, .null, .null, .null, .null, .null, .null, .null, .int 0, .int 0, .int 0, .int 0, .int 0, .int 0, .int 0, .int 0, .int 0, .int 0, .int 0, .int 0, .int 0, .int 0, .int 0, .int 0, .int 0, .int 0, .int 0, .int 0, .int 0, .int 0, .int 0]) : ACell) :: .inr (.inl (false, (List.replicate 256 0))) :: .inr (.inl (false, (List.replicate 400 0))) :: []) rfl ?_
  refine OEnds.made1 hm_1 rfl rfl (ks := 512) rfl rfl ?_
  refine ob hm_1 3 35 [qr 1, qi v1, qi v2, qi v3, qi v4, qu, qu] [.int 256, .ref 1] (c0 :: (.inl (0, [.ref 2, .ref 3, .ref 4, .null, .null, .null, .null, .null, .null, .null, .null, .null, .null, .null, .int 0, .int 0, .int 0, .int 0, .int 0, .int 0, .int 0, .int 0, .int 0, .int 0, .int 0, .int 0, .int 0, .int 0, .int 0, .int 0, .int 0, .int 0, .int 0, .int 0, .int 0, .int 0, .int 0]) : ACell) :: .inr (.inl (false, (List.replicate 256 0))) :: .inr (.inl (false, (List.replicate 400 0))) :: .inr (.inl (false, (List.replicate 512 0))) :: []) rfl ?_
  refine OEnds.made1 hm_1 rfl rfl (ks := 256) rfl rfl ?_
  refine ob hm_1 3 43 [qr 1, qi v1, qi v2, qi v3, qi v4, qu, qu] [.int 16, .ref 1] (c0 :: (.inl (0, [.ref 2, .ref 3, .ref 4, .ref 5, .null, .null, .null, .null, .null, .null, .null, .null, .null, .null, .int 0, .int 0, .int 0, .int 0, .int 0, .int 0, .int 0, .int 0, .int 0, .int 0, .int 0, .int 0, .int 0, .int 0, .int 0, .int 0, .int 0, .int 0, .int 0, .int 0, .int 0, .int 0, .int 0]) : ACell) :: .inr (.inl (false, (List.replicate 256 0))) :: .inr (.inl (false, (List.replicate 400 0))) :: .inr (.inl (false, (List.replicate 512 0))) :: .inr (.inl (false, (List.replicate 256 0))) :: []) rfl ?_
  refine OEnds.made1 hm_1 rfl rfl (ks := 16) rfl rfl ?_
  refine ob hm_1 3 52 [qr 1, qi v1, qi v2, qi v3, qi v4, qu, qu] [.int 256, .ref 1] (c0 :: (.inl (0, [.ref 2, .ref 3, .ref 4, .ref 5, .ref 6, .null, .null, .null, .null, .null, .null, .null, .null, .null, .int 0, .int 0, .int 0, .int 0, .int 0, .int 0, .int 0, .int 0, .int 0, .int 0, .int 0, .int 0, .int 0, .int 0, .int 0, .int 0, .int 0, .int 0, .int 0, .int 0, .int 0, .int 0, .int 0]) : ACell) :: .inr (.inl (false, (List.replicate 256 0))) :: .inr (.inl (false, (List.replicate 400 0))) :: .inr (.inl (false, (List.replicate 512 0))) :: .inr (.inl (false, (List.replicate 256 0))) :: .inr (.inl (false, (List.replicate 16 0))) :: []) rfl ?_
  refine OEnds.made1 hm_1 rfl rfl (ks := 256) rfl rfl ?_
  refine ob hm_1 3 61 [qr 1, qi v1, qi v2, qi v3, qi v4, qu, qu] [.int 512, .ref 1] (c0 :: (.inl (0, [.ref 2, .ref 3, .ref 4, .ref 5, .ref 6, .ref 7, .null, .null, .null, .null, .null, .null, .null, .null, .int 0, .int 0, .int 0, .int 0, .int 0, .int 0, .int 0, .int 0, .int 0, .int 0, .int 0, .int 0, .int 0, .int 0, .int 0, .int 0, .int 0, .int 0, .int 0, .int 0, .int 0, .int 0, .int 0]) : ACell) :: .inr (.inl (false, (List.replicate 256 0))) :: .inr (.inl (false, (List.replicate 400 0))) :: .inr (.inl (false, (List.replicate 512 0))) :: .inr (.inl (false, (List.replicate 256 0))) :: .inr (.inl (false, (List.replicate 16 0))) :: .inr (.inl (false, (List.replicate 256 0))) :: []) rfl ?_
  refine OEnds.made1 hm_1 rfl rfl (ks := 512) rfl rfl ?_
  refine ob hm_1 3 70 [qr 1, qi v1, qi v2, qi v3, qi v4, qu, qu] [.int 512, .ref 1] (c0 :: (.inl (0, [.ref 2, .ref 3, .ref 4, .ref 5, .ref 6, .ref 7, .ref 8, .null, .null, .null, .null, .null, .null, .null, .int 0, .int 0, .int 0, .int 0, .int 0, .int 0, .int 0, .int 0, .int 0, .int 0, .int 0, .int 0, .int 0, .int 0, .int 0, .int 0, .int 0, .int 0, .int 0, .int 0, .int 0, .int 0, .int 0]) : ACell) :: .inr (.inl (false, (List.replicate 256 0))) :: .inr (.inl (false, (List.replicate 400 0))) :: .inr (.inl (false, (List.replicate 512 0))) :: .inr (.inl (false, (List.replicate 256 0))) :: .inr (.inl (false, (List.replicate 16 0))) :: .inr (.inl (false, (List.replicate 256 0))) :: .inr (.inl (false, (List.replicate 512 0))) :: []) rfl ?_
  refine OEnds.made1 hm_1 rfl rfl (ks := 512) rfl rfl ?_
  refine ob hm_1 3 79 [qr 1, qi v1, qi v2, qi v3, qi v4, qu, qu] [.int 512, .ref 1] (c0 :: (.inl (0, [.ref 2, .ref 3, .ref 4, .ref 5, .ref 6, .ref 7, .ref 8, .ref 9, .null, .null, .null, .null, .null, .null, .int 0, .int 0, .int 0, .int 0, .int 0, .int 0, .int 0, .int 0, .int 0, .int 0, .int 0, .int 0, .int 0, .int 0, .int 0, .int 0, .int 0, .int 0, .int 0, .int 0, .int 0, .int 0, .int 0]) : ACell) :: .inr (.inl (false, (List.replicate 256 0))) :: .inr (.inl (false, (List.replicate 400 0))) :: .inr (.inl (false, (List.replicate 512 0))) :: .inr (.inl (false, (List.replicate 256 0))) :: .inr (.inl (false, (List.replicate 16 0))) :: .inr (.inl (false, (List.replicate 256 0))) :: .inr (.inl (false, (List.replicate 512 0))) :: .inr (.inl (false, (List.replicate 512 0))) :: []) rfl ?_
  refine OEnds.made1 hm_1 rfl rfl (ks := 512) rfl rfl ?_
  refine ob hm_1 3 88 [qr 1, qi v1, qi v2, qi v3, qi v4, qu, qu] [.int 512, .ref 1] (c0 :: (.inl (0, [.ref 2, .ref 3, .ref 4, .ref 5, .ref 6, .ref 7, .ref 8, .ref 9, .ref 10, .null, .null, .null, .null, .null, .int 0, .int 0, .int 0, .int 0, .int 0, .int 0, .int 0, .int 0, .int 0, .int 0, .int 0, .int 0, .int 0, .int 0, .int 0, .int 0, .int 0, .int 0, .int 0, .int 0, .int 0, .int 0, .int 0]) : ACell) :: .inr (.inl (false, (List.replicate 256 0))) :: .inr (.inl (false, (List.replicate 400 0))) :: .inr (.inl (false, (List.replicate 512 0))) :: .inr (.inl (false, (List.replicate 256 0))) :: .inr (.inl (false, (List.replicate 16 0))) :: .inr (.inl (false, (List.replicate 256 0))) :: .inr (.inl (false, (List.replicate 512 0))) :: .inr (.inl (false, (List.replicate 512 0))) :: .inr (.inl (false, (List.replicate 512 0))) :: []) rfl ?_
  refine OEnds.made1 hm_1 rfl rfl (ks := 512) rfl rfl ?_
  refine ob hm_1 3 97 [qr 1, qi v1, qi v2, qi v3, qi v4, qu, qu] [.int 512, .ref 1] (c0 :: (.inl (0, [.ref 2, .ref 3, .ref 4, .ref 5, .ref 6, .ref 7, .ref 8, .ref 9, .ref 10, .ref 11, .null, .null, .null, .null, .int 0, .int 0, .int 0, .int 0, .int 0, .int 0, .int 0, .int 0, .int 0, .int 0, .int 0, .int 0, .int 0, .int 0, .int 0, .int 0, .int 0, .int 0, .int 0, .int 0, .int 0, .int 0, .int 0]) : ACell) :: .inr (.inl (false, (List.replicate 256 0))) :: .inr (.inl (false, (List.replicate 400 0))) :: .inr (.inl (false, (List.replicate 512 0))) :: .inr (.inl (false, (List.replicate 256 0))) :: .inr (.inl (false, (List.replicate 16 0))) :: .inr (.inl (false, (List.replicate 256 0))) :: .inr (.inl (false, (List.replicate 512 0))) :: .inr (.inl (false, (List.replicate 512 0))) :: .inr (.inl (false, (List.replicate 512 0))) :: .inr (.inl (false, (List.replicate 512 0))) :: []) rfl ?_
  refine OEnds.made1 hm_1 rfl rfl (ks := 512) rfl rfl ?_
  refine ob hm_1 3 106 [qr 1, qi v1, qi v2, qi v3, qi v4, qu, qu] [.int 512, .ref 1] (c0 :: (.inl (0, [.ref 2, .ref 3, .ref 4, .ref 5, .ref 6, .ref 7, .ref 8, .ref 9, .ref 10, .ref 11, .ref 12, .null, .null, .null, .int 0, .int 0, .int 0, .int 0, .int 0, .int 0, .int 0, .int 0, .int 0, .int 0, .int 0, .int 0, .int 0, .int 0, .int 0, .int 0, .int 0, .int 0, .int 0, .int 0, .int 0, .int 0, .int 0]) : ACell) :: .inr (.inl (false, (List.replicate 256 0))) :: .inr (.inl (false, (List.replicate 400 0))) :: .inr (.inl (false, (List.replicate 512 0))) :: .inr (.inl (false, (List.replicate 256 0))) :: .inr (.inl (false, (List.replicate 16 0))) :: .inr (.inl (false, (List.replicate 256 0))) :: .inr (.inl (false, (List.replicate 512 0))) :: .inr (.inl (false, (List.replicate 512 0))) :: .inr (.inl (false, (List.replicate 512 0))) :: .inr (.inl (false, (List.replicate 512 0))) :: .inr (.inl (false, (List.replicate 512 0))) :: []) rfl ?_
  refine OEnds.made1 hm_1 rfl rfl (ks := 512) rfl rfl ?_
  refine ob hm_1 3 115 [qr 1, qi v1, qi v2, qi v3, qi v4, qu, qu] [.int 512, .ref 1] (c0 :: (.inl (0, [.ref 2, .ref 3, .ref 4, .ref 5, .ref 6, .ref 7, .ref 8, .ref 9, .ref 10, .ref 11, .ref 12, .ref 13, .null, .null, .int 0, .int 0, .int 0, .int 0, .int 0, .int 0, .int 0, .int 0, .int 0, .int 0, .int 0, .int 0, .int 0, .int 0, .int 0, .int 0, .int 0, .int 0, .int 0, .int 0, .int 0, .int 0, .int 0]) : ACell) :: .inr (.inl (false, (List.replicate 256 0))) :: .inr (.inl (false, (List.replicate 400 0))) :: .inr (.inl (false, (List.replicate 512 0))) :: .inr (.inl (false, (List.replicate 256 0))) :: .inr (.inl (false, (List.replicate 16 0))) :: .inr (.inl (false, (List.replicate 256 0))) :: .inr (.inl (false, (List.replicate 512 0))) :: .inr (.inl (false, (List.replicate 512 0))) :: .inr (.inl (false, (List.replicate 512 0))) :: .inr (.inl (false, (List.replicate 512 0))) :: .inr (.inl (false, (List.replicate 512 0))) :: .inr (.inl (false, (List.replicate 512 0))) :: []) rfl ?_
  refine OEnds.made1 hm_1 rfl rfl (ks := 512) rfl rfl ?_
  refine ob hm_1 3 124 [qr 1, qi v1, qi v2, qi v3, qi v4, qu, qu] [.int 512, .ref 1] (c0 :: (.inl (0, [.ref 2, .ref 3, .ref 4, .ref 5, .ref 6, .ref 7, .ref 8, .ref 9, .ref 10, .ref 11, .ref 12, .ref 13, .ref 14, .null, .int 0, .int 0, .int 0, .int 0, .int 0, .int 0, .int 0, .int 0, .int 0, .int 0, .int 0, .int 0, .int 0, .int 0, .int 0, .int 0, .int 0, .int 0, .int 0, .int 0, .int 0, .int 0, .int 0]) : ACell) :: .inr (.inl (false, (List.replicate 256 0))) :: .inr (.inl (false, (List.replicate 400 0))) :: .inr (.inl (false, (List.replicate 512 0))) :: .inr (.inl (false, (List.replicate 256 0))) :: .inr (.inl (false, (List.replicate 16 0))) :: .inr (.inl (false, (List.replicate 256 0))) :: .inr (.inl (false, (List.replicate 512 0))) :: .inr (.inl (false, (List.replicate 512 0))) :: .inr (.inl (false, (List.replicate 512 0))) :: .inr (.inl (false, (List.replicate 512 0))) :: .inr (.inl (false, (List.replicate 512 0))) :: .inr (.inl (false, (List.replicate 512 0))) :: .inr (.inl (false, (List.replicate 512 0))) :: []) rfl ?_
  refine OEnds.made1 hm_1 rfl rfl (ks := 512) rfl rfl ?_
  refine ob hm_1 6 135 [qr 1, qi v1, qi v2, qi v3, qi v4, qu, qu] [.int 16, .int 1, .int v1, .ref 1, .ref 1] (c0 :: bk0 (List.replicate 256 0) (List.replicate 400 0) (List.replicate 512 0) (List.replicate 256 0) (List.replicate 16 0) (List.replicate 256 0) (List.replicate 512 0) (List.replicate 512 0) (List.replicate 512 0) (List.replicate 512 0) (List.replicate 512 0) (List.replicate 512 0) (List.replicate 512 0) (List.replicate 512 0) 0 0 0 0 0 0 0 0 0 0 0 0 0 0 0 0 0 0 0 0 0 0 0 []) rfl ?_
  obtain ⟨r1, hq8, h⟩ := bnd h
  refine OEnds.call0 hm_1 rfl rfl (by decide) rfl (as := [.ref 1, .int v1, .int 1, .int 16]) (rest := [.ref 1]) rfl rfl (ok_clamp_0 hq8) ?_
  refine ob hm_1 6 147 [qr 1, qi v1, qi v2, qi v3, qi v4, qu, qu] [.int 16, .int 1, .int v2, .ref 1, .ref 1] (c0 :: bk0 (List.replicate 256 0) (List.replicate 400 0) (List.replicate 512 0) (List.replicate 256 0) (List.replicate 16 0) (List.replicate 256 0) (List.replicate 512 0) (List.replicate 512 0) (List.replicate 512 0) (List.replicate 512 0) (List.replicate 512 0) (List.replicate 512 0) (List.replicate 512 0) (List.replicate 512 0) r1 0 0 0 0 0 0 0 0 0 0 0 0 0 0 0 0 0 0 0 0 0 0 []) rfl ?_
  obtain ⟨r2, hq9, h⟩ := bnd h
  refine OEnds.call0 hm_1 rfl rfl (by decide) rfl (as := [.ref 1, .int v2, .int 1, .int 16]) (rest := [.ref 1]) rfl rfl (ok_clamp_0 hq9) ?_
  refine ob hm_1 13 173 [qr 1, qi v1, qi v2, qi v3, qi v4, qu, qu] [.int 256, .int 2, .int v3, .ref 1, .ref 1] (c0 :: bk0 (List.replicate 256 0) (List.replicate 400 0) (List.replicate 512 0) (List.replicate 256 0) (List.replicate 16 0) (List.replicate 256 0) (List.replicate 512 0) (List.replicate 512 0) (List.replicate 512 0) (List.replicate 512 0) (List.replicate 512 0) (List.replicate 512 0) (List.replicate 512 0) (List.replicate 512 0) r1 r2 (r1 * r2) 0 0 0 0 0 0 0 0 0 0 0 0 0 0 0 0 0 0 0 0 []) rfl ?_
  obtain ⟨r3, hq10, h⟩ := bnd h
  refine OEnds.call0 hm_1 rfl rfl (by decide) rfl (as := [.ref 1, .int v3, .int 2, .int 256]) (rest := [.ref 1]) rfl rfl (ok_clamp_0 hq10) ?_
  refine ob hm_1 5 185 [qr 1, qi v1, qi v2, qi v3, qi v4, qi 2, qi 0] [] (c0 :: bk0 (List.replicate 256 0) (List.replicate 400 0) (List.replicate 512 0) (List.replicate 256 0) (List.replicate 16 0) (List.replicate 256 0) (List.replicate 512 0) (List.replicate 512 0) (List.replicate 512 0) (List.replicate 512 0) (List.replicate 512 0) (List.replicate 512 0) (List.replicate 512 0) (List.replicate 512 0) r1 r2 (r1 * r2) r3 0 0 0 0 0 0 0 0 0 0 0 0 0 0 0 0 0 0 0 []) rfl ?_
  exact ok_init_185_0 (k219 := f_init_219) ok_init_219_0 100000 h
theorem ok_clamp_1 {v1 v2 v3 res : Int32} (h : f_clamp v1 v2 v3 = some res) : OEnds own_P 2 0 [qr 16, qi v1, qi v2, qi v3] [] (bl1 c0 c1 c2 c3 c4 c5 c6 c7 c8 c9 c10 c11 c12 c13 c14 c15 ze R Q zg X F j I zd zf W V H Y C K b t k a f g Z za D z zh zi r U O zb zc J B T G po) (some (.int res), (bl1 c0 c1 c2 c3 c4 c5 c6 c7 c8 c9 c10 c11 c12 c13 c14 c15 ze R Q zg X F j I zd zf W V H Y C K b t k a f g Z za D z zh zi r U O zb zc J B T G po), 0, 0) := by
  unfold f_clamp at h
  refine oa hm_2 2 2 [qr 16, qi v1, qi v2, qi v3] [.int v2, .int v1] rfl ?_
  by_cases hc11 : v1 < v2
  · simp only [if_pos hc11] at h
    refine OEnds.icmpF hm_2 rfl ((tlt hc11).2.1) ?_
    refine oa hm_2 1 6 [qr 16, qi v1, qi v2, qi v3] [.int v2] rfl ?_
    cases h
    exact OEnds.iret hm_2 rfl rfl
  · simp only [if_neg hc11] at h
    refine OEnds.icmpT hm_2 rfl (q := 7) rfl ((flt hc11).2.1) ?_
    refine oa hm_2 2 9 [qr 16, qi v1, qi v2, qi v3] [.int v3, .int v1] rfl ?_
    by_cases hc12 : v3 < v1
    · simp only [if_pos hc12] at h
      refine OEnds.icmpF hm_2 rfl ((tlt hc12).2.2.2) ?_
      refine oa hm_2 1 13 [qr 16, qi v1, qi v2, qi v3] [.int v3] rfl ?_
      cases h
      exact OEnds.iret hm_2 rfl rfl
    · simp only [if_neg hc12] at h
      refine OEnds.icmpT hm_2 rfl (q := 14) rfl ((flt hc12).2.2.2) ?_
      refine oa hm_2 1 15 [qr 16, qi v1, qi v2, qi v3] [.int v1] rfl ?_
      cases h
      exact OEnds.iret hm_2 rfl rfl
theorem ok_init_259_1 : ∀ {ze R Q zg X F j I zd zf W V H Y : List Int32} {C K b t k a f g Z za D z zh zi r U O zb zc J B T G v6 : Int32} {d1 d2 d3 d4 d5 : Slot} {xr zm xc xs zo zk zj zv zy zz zp zq zr zs : List Int32} {xx xy xz ga gb gc gd ge xv xw zn xd xt xu zl ya yb yc yd zt zu zw : Int32} {zx : Int32}, f_init_259 ze R Q zg X F j I zd zf W V H Y C K b t k a f g Z za D z zh zi r U O zb zc J B T G v6 = some (xr, zm, xc, xs, zo, zk, zj, zv, zy, zz, zp, zq, zr, zs, xx, xy, xz, ga, gb, gc, gd, ge, xv, xw, zn, xd, xt, xu, zl, ya, yb, yc, yd, zt, zu, zw, zx) → OEnds own_P 1 259 [qr 16, d1, d2, d3, d4, d5, qi v6] [] (bl1 c0 c1 c2 c3 c4 c5 c6 c7 c8 c9 c10 c11 c12 c13 c14 c15 ze R Q zg X F j I zd zf W V H Y C K b t k a f g Z za D z zh zi r U O zb zc J B T G []) (none, (bl1 c0 c1 c2 c3 c4 c5 c6 c7 c8 c9 c10 c11 c12 c13 c14 c15 xr zm xc xs zo zk zj zv zy zz zp zq zr zs xx xy xz ga gb gc gd ge xv xw zn xd xt xu zl ya yb yc yd zt zu zw zx []), 0, 0) := by
  intro ze R Q zg X F j I zd zf W V H Y C K b t k a f g Z za D z zh zi r U O zb zc J B T G v6 d1 d2 d3 d4 d5 xr zm xc xs zo zk zj zv zy zz zp zq zr zs xx xy xz ga gb gc gd ge xv xw zn xd xt xu zl ya yb yc yd zt zu zw zx h
  unfold f_init_259 at h
  refine ob hm_1 26 305 [qr 16, qu, qu, qu, qu, qu, qi v6] [] (bl1 c0 c1 c2 c3 c4 c5 c6 c7 c8 c9 c10 c11 c12 c13 c14 c15 ze R Q zg X F j I zd zf W V H Y C K b t k a v6 ((1 : Int32) <<< (v6 &&& 31)) 0 255 0 0 0 1 r U O zb zc J B T G []) rfl ?_
  cases h
  exact OEnds.vret hm_1 rfl rfl
theorem ok_init_219_1 : ∀ {ze R Q zg X F j I zd zf W V H Y : List Int32} {C K b t k a f g Z za D z zh zi r U O zb zc J B T G v4 v5 : Int32} {d1 d2 d3 d6 : Slot} {xr zm xc xs zo zk zj zv zy zz zp zq zr zs : List Int32} {xx xy xz ga gb gc gd ge xv xw zn xd xt xu zl ya yb yc yd zt zu zw : Int32} {zx : Int32}, f_init_219 ze R Q zg X F j I zd zf W V H Y C K b t k a f g Z za D z zh zi r U O zb zc J B T G v4 v5 = some (xr, zm, xc, xs, zo, zk, zj, zv, zy, zz, zp, zq, zr, zs, xx, xy, xz, ga, gb, gc, gd, ge, xv, xw, zn, xd, xt, xu, zl, ya, yb, yc, yd, zt, zu, zw, zx) → OEnds own_P 1 219 [qr 16, d1, d2, d3, qi v4, qi v5, d6] [] (bl1 c0 c1 c2 c3 c4 c5 c6 c7 c8 c9 c10 c11 c12 c13 c14 c15 ze R Q zg X F j I zd zf W V H Y C K b t k a f g Z za D z zh zi r U O zb zc J B T G []) (none, (bl1 c0 c1 c2 c3 c4 c5 c6 c7 c8 c9 c10 c11 c12 c13 c14 c15 xr zm xc xs zo zk zj zv zy zz zp zq zr zs xx xy xz ga gb gc gd ge xv xw zn xd xt xu zl ya yb yc yd zt zu zw zx []), 0, 0) := by
  intro ze R Q zg X F j I zd zf W V H Y C K b t k a f g Z za D z zh zi r U O zb zc J B T G v4 v5 d1 d2 d3 d6 xr zm xc xs zo zk zj zv zy zz zp zq zr zs xx xy xz ga gb gc gd ge xv xw zn xd xt xu zl ya yb yc yd zt zu zw zx h
  unfold f_init_219 at h
  refine ob hm_1 12 239 [qr 16, qu, qu, qu, qi v4, qi v5, qu] [.int 9, .int 3, .int v4, .ref 16] (bl1 c0 c1 c2 c3 c4 c5 c6 c7 c8 c9 c10 c11 c12 c13 c14 c15 ze R Q zg X F j I zd zf W V H Y C K b t v5 ((1 : Int32) <<< (v5 &&& 31)) f g Z za D z zh zi r U O zb zc J B T G []) rfl ?_
  obtain ⟨r4, hq13, h⟩ := bnd h
  refine OEnds.call0 hm_1 rfl rfl (by decide) rfl (as := [.ref 16, .int v4, .int 3, .int 9]) (rest := []) rfl rfl (ok_clamp_1 hq13) ?_
  refine ob hm_1 5 250 [qr 16, qu, qu, qu, qi v4, qi v5, qi r4] [.int (v5 + 1), .int r4] (bl1 c0 c1 c2 c3 c4 c5 c6 c7 c8 c9 c10 c11 c12 c13 c14 c15 ze R Q zg X F j I zd zf W V H Y C K b t v5 ((1 : Int32) <<< (v5 &&& 31)) f g Z za D z zh zi r U O zb zc J B T G []) rfl ?_
  by_cases hc14 : r4 < (v5 + 1)
  · simp only [if_pos hc14] at h
    refine OEnds.icmpF hm_1 rfl ((tlt hc14).2.1) ?_
    refine oa hm_1 4 259 [qr 16, qu, qu, qu, qi v4, qi v5, qi (v5 + 1)] [] rfl ?_
    exact ok_init_259_1 h
  · simp only [if_neg hc14] at h
    refine OEnds.icmpT hm_1 rfl (q := 259) rfl ((flt hc14).2.1) ?_
    refine oc 259 [qr 16, qu, qu, qu, qi v4, qi v5, qi r4] [] ?_
    exact ok_init_259_1 h
theorem ok_init_185_1 {k219 : List Int32 → List Int32 → List Int32 → List Int32 → List Int32 → List Int32 → List Int32 → List Int32 → List Int32 → List Int32 → List Int32 → List Int32 → List Int32 → List Int32 → Int32 → Int32 → Int32 → Int32 → Int32 → Int32 → Int32 → Int32 → Int32 → Int32 → Int32 → Int32 → Int32 → Int32 → Int32 → Int32 → Int32 → Int32 → Int32 → Int32 → Int32 → Int32 → Int32 → Int32 → Int32 → Option (List Int32 × List Int32 × List Int32 × List Int32 × List Int32 × List Int32 × List Int32 × List Int32 × List Int32 × List Int32 × List Int32 × List Int32 × List Int32 × List Int32 × Int32 × Int32 × Int32 × Int32 × Int32 × Int32 × Int32 × Int32 × Int32 × Int32 × Int32 × Int32 × Int32 × Int32 × Int32 × Int32 × Int32 × Int32 × Int32 × Int32 × Int32 × Int32 × Int32)} (hk219 : ∀ {ze R Q zg X F j I zd zf W V H Y : List Int32} {C K b t k a f g Z za D z zh zi r U O zb zc J B T G v4 v5 : Int32} {d1 d2 d3 d6 : Slot} {xr zm xc xs zo zk zj zv zy zz zp zq zr zs : List Int32} {xx xy xz ga gb gc gd ge xv xw zn xd xt xu zl ya yb yc yd zt zu zw : Int32} {zx : Int32}, k219 ze R Q zg X F j I zd zf W V H Y C K b t k a f g Z za D z zh zi r U O zb zc J B T G v4 v5 = some (xr, zm, xc, xs, zo, zk, zj, zv, zy, zz, zp, zq, zr, zs, xx, xy, xz, ga, gb, gc, gd, ge, xv, xw, zn, xd, xt, xu, zl, ya, yb, yc, yd, zt, zu, zw, zx) → OEnds own_P 1 219 [qr 16, d1, d2, d3, qi v4, qi v5, d6] [] (bl1 c0 c1 c2 c3 c4 c5 c6 c7 c8 c9 c10 c11 c12 c13 c14 c15 ze R Q zg X F j I zd zf W V H Y C K b t k a f g Z za D z zh zi r U O zb zc J B T G []) (none, (bl1 c0 c1 c2 c3 c4 c5 c6 c7 c8 c9 c10 c11 c12 c13 c14 c15 xr zm xc xs zo zk zj zv zy zz zp zq zr zs xx xy xz ga gb gc gd ge xv xw zn xd xt xu zl ya yb yc yd zt zu zw zx []), 0, 0)) : ∀ (n : Nat), ∀ {ze R Q zg X F j I zd zf W V H Y : List Int32} {C K b t k a f g Z za D z zh zi r U O zb zc J B T G v4 v5 v6 : Int32} {d1 d2 d3 : Slot} {xr zm xc xs zo zk zj zv zy zz zp zq zr zs : List Int32} {xx xy xz ga gb gc gd ge xv xw zn xd xt xu zl ya yb yc yd zt zu zw : Int32} {zx : Int32}, f_init_185 k219 n ze R Q zg X F j I zd zf W V H Y C K b t k a f g Z za D z zh zi r U O zb zc J B T G v4 v5 v6 = some (xr, zm, xc, xs, zo, zk, zj, zv, zy, zz, zp, zq, zr, zs, xx, xy, xz, ga, gb, gc, gd, ge, xv, xw, zn, xd, xt, xu, zl, ya, yb, yc, yd, zt, zu, zw, zx) → OEnds own_P 1 185 [qr 16, d1, d2, d3, qi v4, qi v5, qi v6] [] (bl1 c0 c1 c2 c3 c4 c5 c6 c7 c8 c9 c10 c11 c12 c13 c14 c15 ze R Q zg X F j I zd zf W V H Y C K b t k a f g Z za D z zh zi r U O zb zc J B T G []) (none, (bl1 c0 c1 c2 c3 c4 c5 c6 c7 c8 c9 c10 c11 c12 c13 c14 c15 xr zm xc xs zo zk zj zv zy zz zp zq zr zs xx xy xz ga gb gc gd ge xv xw zn xd xt xu zl ya yb yc yd zt zu zw zx []), 0, 0) := by
  intro n
  induction n with
  | zero => intro ze R Q zg X F j I zd zf W V H Y C K b t k a f g Z za D z zh zi r U O zb zc J B T G v4 v5 v6 d1 d2 d3 xr zm xc xs zo zk zj zv zy zz zp zq zr zs xx xy xz ga gb gc gd ge xv xw zn xd xt xu zl ya yb yc yd zt zu zw zx h; cases h
  | succ n ih =>
    intro ze R Q zg X F j I zd zf W V H Y C K b t k a f g Z za D z zh zi r U O zb zc J B T G v4 v5 v6 d1 d2 d3 xr zm xc xs zo zk zj zv zy zz zp zq zr zs xx xy xz ga gb gc gd ge xv xw zn xd xt xu zl ya yb yc yd zt zu zw zx h
    unfold f_init_185 at h
    refine ob hm_1 2 189 [qr 16, qu, qu, qu, qi v4, qi v5, qi v6] [.int 8, .int v6] (bl1 c0 c1 c2 c3 c4 c5 c6 c7 c8 c9 c10 c11 c12 c13 c14 c15 ze R Q zg X F j I zd zf W V H Y C K b t k a f g Z za D z zh zi r U O zb zc J B T G []) rfl ?_
    by_cases hc15 : v6 < 8
    · simp only [if_pos hc15] at h
      refine OEnds.icmpF hm_1 rfl ((tlt hc15).2.1) ?_
      refine oa hm_1 5 200 [qr 16, qu, qu, qu, qi v4, qi v5, qi v6] [.int t, .int ((1 : Int32) <<< (v5 &&& 31))] rfl ?_
      by_cases hc16 : ((1 : Int32) <<< (v5 &&& 31)) < t
      · simp only [if_pos hc16] at h
        refine OEnds.icmpF hm_1 rfl ((tlt hc16).2.1) ?_
        refine oa hm_1 2 207 [qr 16, qu, qu, qu, qi v4, qi v5, qi v6] [.int 8, .int v5] rfl ?_
        by_cases hc17 : v5 < 8
        · simp only [if_pos hc17] at h
          refine OEnds.icmpF hm_1 rfl ((tlt hc17).2.1) ?_
          refine oa hm_1 3 185 [qr 16, qu, qu, qu, qi v4, qi (v5 + 1), qi (v6 + 1)] [] rfl ?_
          exact ih h
        · simp only [if_neg hc17] at h
          refine OEnds.icmpT hm_1 rfl (q := 219) rfl ((flt hc17).2.1) ?_
          refine oc 219 [qr 16, qu, qu, qu, qi v4, qi v5, qi v6] [] ?_
          exact hk219 h
      · simp only [if_neg hc16] at h
        refine OEnds.icmpT hm_1 rfl (q := 219) rfl ((flt hc16).2.1) ?_
        refine oc 219 [qr 16, qu, qu, qu, qi v4, qi v5, qi v6] [] ?_
        exact hk219 h
    · simp only [if_neg hc15] at h
      refine OEnds.icmpT hm_1 rfl (q := 219) rfl ((flt hc15).2.1) ?_
      refine oc 219 [qr 16, qu, qu, qu, qi v4, qi v5, qi v6] [] ?_
      exact hk219 h
theorem ok_init_1 {v1 v2 v3 v4 : Int32} (h : f_init v1 v2 v3 v4 = some (xr, zm, xc, xs, zo, zk, zj, zv, zy, zz, zp, zq, zr, zs, xx, xy, xz, ga, gb, gc, gd, ge, xv, xw, zn, xd, xt, xu, zl, ya, yb, yc, yd, zt, zu, zw, zx)) : OEnds own_P 1 0 [qr 16, qi v1, qi v2, qi v3, qi v4, qu, qu] [] (c0 :: c1 :: c2 :: c3 :: c4 :: c5 :: c6 :: c7 :: c8 :: c9 :: c10 :: c11 :: c12 :: c13 :: c14 :: c15 :: (.inl (0, [.null, .null, .null, .null, .null, .null, .null, .null, .null, .null, .null, .null, .null, .null, .int 0, .int 0, .int 0, .int 0, .int 0, .int 0, .int 0, .int 0, .int 0, .int 0, .int 0, .int 0, .int 0, .int 0, .int 0, .int 0, .int 0, .int 0, .int 0, .int 0, .int 0, .int 0, .int 0]) : ACell) :: []) (none, (bl1 c0 c1 c2 c3 c4 c5 c6 c7 c8 c9 c10 c11 c12 c13 c14 c15 xr zm xc xs zo zk zj zv zy zz zp zq zr zs xx xy xz ga gb gc gd ge xv xw zn xd xt xu zl ya yb yc yd zt zu zw zx []), 14, 5792) := by
  unfold f_init at h
  refine oa hm_1 1 1 [qr 16, qi v1, qi v2, qi v3, qi v4, qu, qu] [.ref 16] rfl ?_
  refine OEnds.oinit hm_1 rfl ⟨Nat.le_of_ble_eq_true rfl, Nat.le_of_ble_eq_true rfl⟩ ?_
  refine ob hm_1 2 8 [qr 16, qi v1, qi v2, qi v3, qi v4, qu, qu] [.int 256, .ref 16] (c0 :: c1 :: c2 :: c3 :: c4 :: c5 :: c6 :: c7 :: c8 :: c9 :: c10 :: c11 :: c12 :: c13 :: c14 :: c15 :: (.inl (0, [.null, .null, .null, .null, .null, .null, .null, .null, .null, .null, .null, .null, .null, .null, .int 0, .int 0, .int 0, .int 0, .int 0, .int 0, .int 0, .int 0, .int 0, .int 0, .int 0, .int 0, .int 0, .int 0, .int 0, .int 0, .int 0, .int 0, .int 0, .int 0, .int 0, .int 0, .int 0]) : ACell) :: []) rfl ?_
  refine OEnds.made1 hm_1 rfl rfl (ks := 256) rfl rfl ?_
  refine ob hm_1 3 17 [qr 16, qi v1, qi v2, qi v3, qi v4, qu, qu] [.int 400, .ref 16] (c0 :: c1 :: c2 :: c3 :: c4 :: c5 :: c6 :: c7 :: c8 :: c9 :: c10 :: c11 :: c12 :: c13 :: c14 :: c15 :: (.inl (0, [.ref 17, .null, .null, .null, .null, .null, .null, .null, .null, .null, .null, .null, .null, .null, .int 0, .int 0, .int 0, .int 0, .int 0, .int 0, .int 0, .int 0, .int 0, .int 0, .int 0, .int 0, .int 0, .int 0, .int 0, .int 0, .int 0, .int 0, .int 0, .int 0, .int 0, .int 0, .int 0]) : ACell) :: .inr (.inl (false, (List.replicate 256 0))) :: []) rfl ?_
  refine OEnds.made1 hm_1 rfl rfl (ks := 400) rfl rfl ?_
  refine ob hm_1 3 26 [qr 16, qi v1, qi v2, qi v3, qi v4, qu, qu] [.int 512, .ref 16] (c0 :: c1 :: c2 :: c3 :: c4 :: c5 :: c6 :: c7 :: c8 :: c9 :: c10 :: c11 :: c12 :: c13 :: c14 :: c15 :: (.inl (0, [.ref 17, .ref 18, .null, .null, .null, .null, .null, .null, .null, .null, .null, .null, .null, .null, .int 0, .int 0, .int 0, .int 0, .int 0, .int 0, .int 0, .int 0, .int 0, .int 0, .int 0, .int 0, .int 0, .int 0, .int 0, .int 0, .int 0, .int 0, .int 0, .int 0, .int 0, .int 0, .int 0]) : ACell) :: .inr (.inl (false, (List.replicate 256 0))) :: .inr (.inl (false, (List.replicate 400 0))) :: []) rfl ?_
  refine OEnds.made1 hm_1 rfl rfl (ks := 512) rfl rfl ?_
  refine ob hm_1 3 35 [qr 16, qi v1, qi v2, qi v3, qi v4, qu, qu] [.int 256, .ref 16] (c0 :: c1 :: c2 :: c3 :: c4 :: c5 :: c6 :: c7 :: c8 :: c9 :: c10 :: c11 :: c12 :: c13 :: c14 :: c15 :: (.inl (0, [.ref 17, .ref 18, .ref 19, .null, .null, .null, .null, .null, .null, .null, .null, .null, .null, .null, .int 0, .int 0, .int 0, .int 0, .int 0, .int 0, .int 0, .int 0, .int 0, .int 0, .int 0, .int 0, .int 0, .int 0, .int 0, .int 0, .int 0, .int 0, .int 0, .int 0, .int 0, .int 0, .int 0]) : ACell) :: .inr (.inl (false, (List.replicate 256 0))) :: .inr (.inl (false, (List.replicate 400 0))) :: .inr (.inl (false, (List.replicate 512 0))) :: []) rfl ?_
  refine OEnds.made1 hm_1 rfl rfl (ks := 256) rfl rfl ?_
  refine ob hm_1 3 43 [qr 16, qi v1, qi v2, qi v3, qi v4, qu, qu] [.int 16, .ref 16] (c0 :: c1 :: c2 :: c3 :: c4 :: c5 :: c6 :: c7 :: c8 :: c9 :: c10 :: c11 :: c12 :: c13 :: c14 :: c15 :: (.inl (0, [.ref 17, .ref 18, .ref 19, .ref 20, .null, .null, .null, .null, .null, .null, .null, .null, .null, .null, .int 0, .int 0, .int 0, .int 0, .int 0, .int 0, .int 0, .int 0, .int 0, .int 0, .int 0, .int 0, .int 0, .int 0, .int 0, .int 0, .int 0, .int 0, .int 0, .int 0, .int 0, .int 0, .int 0]) : ACell) :: .inr (.inl (false, (List.replicate 256 0))) :: .inr (.inl (false, (List.replicate 400 0))) :: .inr (.inl (false, (List.replicate 512 0))) :: .inr (.inl (false, (List.replicate 256 0))) :: []) rfl ?_
  refine OEnds.made1 hm_1 rfl rfl (ks := 16) rfl rfl ?_
  refine ob hm_1 3 52 [qr 16, qi v1, qi v2, qi v3, qi v4, qu, qu] [.int 256, .ref 16] (c0 :: c1 :: c2 :: c3 :: c4 :: c5 :: c6 :: c7 :: c8 :: c9 :: c10 :: c11 :: c12 :: c13 :: c14 :: c15 :: (.inl (0, [.ref 17, .ref 18, .ref 19, .ref 20, .ref 21, .null, .null, .null, .null, .null, .null, .null, .null, .null, .int 0, .int 0, .int 0, .int 0, .int 0, .int 0, .int 0, .int 0, .int 0, .int 0, .int 0, .int 0, .int 0, .int 0, .int 0, .int 0, .int 0, .int 0, .int 0, .int 0, .int 0, .int 0, .int 0]) : ACell) :: .inr (.inl (false, (List.replicate 256 0))) :: .inr (.inl (false, (List.replicate 400 0))) :: .inr (.inl (false, (List.replicate 512 0))) :: .inr (.inl (false, (List.replicate 256 0))) :: .inr (.inl (false, (List.replicate 16 0))) :: []) rfl ?_
  refine OEnds.made1 hm_1 rfl rfl (ks := 256) rfl rfl ?_
  refine ob hm_1 3 61 [qr 16, qi v1, qi v2, qi v3, qi v4, qu, qu] [.int 512, .ref 16] (c0 :: c1 :: c2 :: c3 :: c4 :: c5 :: c6 :: c7 :: c8 :: c9 :: c10 :: c11 :: c12 :: c13 :: c14 :: c15 :: (.inl (0, [.ref 17, .ref 18, .ref 19, .ref 20, .ref 21, .ref 22, .null, .null, .null, .null, .null, .null, .null, .null, .int 0, .int 0, .int 0, .int 0, .int 0, .int 0, .int 0, .int 0, .int 0, .int 0, .int 0, .int 0, .int 0, .int 0, .int 0, .int 0, .int 0, .int 0, .int 0, .int 0, .int 0, .int 0, .int 0]) : ACell) :: .inr (.inl (false, (List.replicate 256 0))) :: .inr (.inl (false, (List.replicate 400 0))) :: .inr (.inl (false, (List.replicate 512 0))) :: .inr (.inl (false, (List.replicate 256 0))) :: .inr (.inl (false, (List.replicate 16 0))) :: .inr (.inl (false, (List.replicate 256 0))) :: []) rfl ?_
  refine OEnds.made1 hm_1 rfl rfl (ks := 512) rfl rfl ?_
  refine ob hm_1 3 70 [qr 16, qi v1, qi v2, qi v3, qi v4, qu, qu] [.int 512, .ref 16] (c0 :: c1 :: c2 :: c3 :: c4 :: c5 :: c6 :: c7 :: c8 :: c9 :: c10 :: c11 :: c12 :: c13 :: c14 :: c15 :: (.inl (0, [.ref 17, .ref 18, .ref 19, .ref 20, .ref 21, .ref 22, .ref 23, .null, .null, .null, .null, .null, .null, .null, .int 0, .int 0, .int 0, .int 0, .int 0, .int 0, .int 0, .int 0, .int 0, .int 0, .int 0, .int 0, .int 0, .int 0, .int 0, .int 0, .int 0, .int 0, .int 0, .int 0, .int 0, .int 0, .int 0]) : ACell) :: .inr (.inl (false, (List.replicate 256 0))) :: .inr (.inl (false, (List.replicate 400 0))) :: .inr (.inl (false, (List.replicate 512 0))) :: .inr (.inl (false, (List.replicate 256 0))) :: .inr (.inl (false, (List.replicate 16 0))) :: .inr (.inl (false, (List.replicate 256 0))) :: .inr (.inl (false, (List.replicate 512 0))) :: []) rfl ?_
  refine OEnds.made1 hm_1 rfl rfl (ks := 512) rfl rfl ?_
  refine ob hm_1 3 79 [qr 16, qi v1, qi v2, qi v3, qi v4, qu, qu] [.int 512, .ref 16] (c0 :: c1 :: c2 :: c3 :: c4 :: c5 :: c6 :: c7 :: c8 :: c9 :: c10 :: c11 :: c12 :: c13 :: c14 :: c15 :: (.inl (0, [.ref 17, .ref 18, .ref 19, .ref 20, .ref 21, .ref 22, .ref 23, .ref 24, .null, .null, .null, .null, .null, .null, .int 0, .int 0, .int 0, .int 0, .int 0, .int 0, .int 0, .int 0, .int 0, .int 0, .int 0, .int 0, .int 0, .int 0, .int 0, .int 0, .int 0, .int 0, .int 0, .int 0, .int 0, .int 0, .int 0]) : ACell) :: .inr (.inl (false, (List.replicate 256 0))) :: .inr (.inl (false, (List.replicate 400 0))) :: .inr (.inl (false, (List.replicate 512 0))) :: .inr (.inl (false, (List.replicate 256 0))) :: .inr (.inl (false, (List.replicate 16 0))) :: .inr (.inl (false, (List.replicate 256 0))) :: .inr (.inl (false, (List.replicate 512 0))) :: .inr (.inl (false, (List.replicate 512 0))) :: []) rfl ?_
  refine OEnds.made1 hm_1 rfl rfl (ks := 512) rfl rfl ?_
  refine ob hm_1 3 88 [qr 16, qi v1, qi v2, qi v3, qi v4, qu, qu] [.int 512, .ref 16] (c0 :: c1 :: c2 :: c3 :: c4 :: c5 :: c6 :: c7 :: c8 :: c9 :: c10 :: c11 :: c12 :: c13 :: c14 :: c15 :: (.inl (0, [.ref 17, .ref 18, .ref 19, .ref 20, .ref 21, .ref 22, .ref 23, .ref 24, .ref 25, .null, .null, .null, .null, .null, .int 0, .int 0, .int 0, .int 0, .int 0, .int 0, .int 0, .int 0, .int 0, .int 0, .int 0, .int 0, .int 0, .int 0, .int 0, .int 0, .int 0, .int 0, .int 0, .int 0, .int 0, .int 0, .int 0]) : ACell) :: .inr (.inl (false, (List.replicate 256 0))) :: .inr (.inl (false, (List.replicate 400 0))) :: .inr (.inl (false, (List.replicate 512 0))) :: .inr (.inl (false, (List.replicate 256 0))) :: .inr (.inl (false, (List.replicate 16 0))) :: .inr (.inl (false, (List.replicate 256 0))) :: .inr (.inl (false, (List.replicate 512 0))) :: .inr (.inl (false, (List.replicate 512 0))) :: .inr (.inl (false, (List.replicate 512 0))) :: []) rfl ?_
  refine OEnds.made1 hm_1 rfl rfl (ks := 512) rfl rfl ?_
  refine ob hm_1 3 97 [qr 16, qi v1, qi v2, qi v3, qi v4, qu, qu] [.int 512, .ref 16] (c0 :: c1 :: c2 :: c3 :: c4 :: c5 :: c6 :: c7 :: c8 :: c9 :: c10 :: c11 :: c12 :: c13 :: c14 :: c15 :: (.inl (0, [.ref 17, .ref 18, .ref 19, .ref 20, .ref 21, .ref 22, .ref 23, .ref 24, .ref 25, .ref 26, .null, .null, .null, .null, .int 0, .int 0, .int 0, .int 0, .int 0, .int 0, .int 0, .int 0, .int 0, .int 0, .int 0, .int 0, .int 0, .int 0, .int 0, .int 0, .int 0, .int 0, .int 0, .int 0, .int 0, .int 0, .int 0]) : ACell) :: .inr (.inl (false, (List.replicate 256 0))) :: .inr (.inl (false, (List.replicate 400 0))) :: .inr (.inl (false, (List.replicate 512 0))) :: .inr (.inl (false, (List.replicate 256 0))) :: .inr (.inl (false, (List.replicate 16 0))) :: .inr (.inl (false, (List.replicate 256 0))) :: .inr (.inl (false, (List.replicate 512 0))) :: .inr (.inl (false, (List.replicate 512 0))) :: .inr (.inl (false, (List.replicate 512 0))) :: .inr (.inl (false, (List.replicate 512 0))) :: []) rfl ?_
  refine OEnds.made1 hm_1 rfl rfl (ks := 512) rfl rfl ?_
  refine ob hm_1 3 106 [qr 16, qi v1, qi v2, qi v3, qi v4, qu, qu] [.int 512, .ref 16] (c0 :: c1 :: c2 :: c3 :: c4 :: c5 :: c6 :: c7 :: c8 :: c9 :: c10 :: c11 :: c12 :: c13 :: c14 :: c15 :: (.inl (0, [.ref 17, .ref 18, .ref 19, .ref 20, .ref 21, .ref 22, .ref 23, .ref 24, .ref 25, .ref 26, .ref 27, .null, .null, .null, .int 0, .int 0, .int 0, .int 0, .int 0, .int 0, .int 0, .int 0, .int 0, .int 0, .int 0, .int 0, .int 0, .int 0, .int 0, .int 0, .int 0, .int 0, .int 0, .int 0, .int 0, .int 0, .int 0]) : ACell) :: .inr (.inl (false, (List.replicate 256 0))) :: .inr (.inl (false, (List.replicate 400 0))) :: .inr (.inl (false, (List.replicate 512 0))) :: .inr (.inl (false, (List.replicate 256 0))) :: .inr (.inl (false, (List.replicate 16 0))) :: .inr (.inl (false, (List.replicate 256 0))) :: .inr (.inl (false, (List.replicate 512 0))) :: .inr (.inl (false, (List.replicate 512 0))) :: .inr (.inl (false, (List.replicate 512 0))) :: .inr (.inl (false, (List.replicate 512 0))) :: .inr (.inl (false, (List.replicate 512 0))) :: []) rfl ?_
  refine OEnds.made1 hm_1 rfl rfl (ks := 512) rfl rfl ?_
  refine ob hm_1 3 115 [qr 16, qi v1, qi v2, qi v3, qi v4, qu, qu] [.int 512, .ref 16] (c0 :: c1 :: c2 :: c3 :: c4 :: c5 :: c6 :: c7 :: c8 :: c9 :: c10 :: c11 :: c12 :: c13 :: c14 :: c15 :: (.inl (0, [.ref 17, .ref 18, .ref 19, .ref 20, .ref 21, .ref 22, .ref 23, .ref 24, .ref 25, .ref 26, .ref 27, .ref 28, .null, .null, .int 0, .int 0, .int 0, .int 0, .int 0, .int 0, .int 0, .int 0, .int 0, .int 0, .int 0, .int 0, .int 0, .int 0, .int 0, .int 0, .int 0, .int 0, .int 0, .int 0, .int 0, .int 0, .int 0]) : ACell) :: .inr (.inl (false, (List.replicate 256 0))) :: .inr (.inl (false, (List.replicate 400 0))) :: .inr (.inl (false, (List.replicate 512 0))) :: .inr (.inl (false, (List.replicate 256 0))) :: .inr (.inl (false, (List.replicate 16 0))) :: .inr (.inl (false, (List.replicate 256 0))) :: .inr (.inl (false, (List.replicate 512 0))) :: .inr (.inl (false, (List.replicate 512 0))) :: .inr (.inl (false, (List.replicate 512 0))) :: .inr (.inl (false, (List.replicate 512 0))) :: .inr (.inl (false, (List.replicate 512 0))) :: .inr (.inl (false, (List.replicate 512 0))) :: []) rfl ?_
  refine OEnds.made1 hm_1 rfl rfl (ks := 512) rfl rfl ?_
  refine ob hm_1 3 124 [qr 16, qi v1, qi v2, qi v3, qi v4, qu, qu] [.int 512, .ref 16] (c0 :: c1 :: c2 :: c3 :: c4 :: c5 :: c6 :: c7 :: c8 :: c9 :: c10 :: c11 :: c12 :: c13 :: c14 :: c15 :: (.inl (0, [.ref 17, .ref 18, .ref 19, .ref 20, .ref 21, .ref 22, .ref 23, .ref 24, .ref 25, .ref 26, .ref 27, .ref 28, .ref 29, .null, .int 0, .int 0, .int 0, .int 0, .int 0, .int 0, .int 0, .int 0, .int 0, .int 0, .int 0, .int 0, .int 0, .int 0, .int 0, .int 0, .int 0, .int 0, .int 0, .int 0, .int 0, .int 0, .int 0]) : ACell) :: .inr (.inl (false, (List.replicate 256 0))) :: .inr (.inl (false, (List.replicate 400 0))) :: .inr (.inl (false, (List.replicate 512 0))) :: .inr (.inl (false, (List.replicate 256 0))) :: .inr (.inl (false, (List.replicate 16 0))) :: .inr (.inl (false, (List.replicate 256 0))) :: .inr (.inl (false, (List.replicate 512 0))) :: .inr (.inl (false, (List.replicate 512 0))) :: .inr (.inl (false, (List.replicate 512 0))) :: .inr (.inl (false, (List.replicate 512 0))) :: .inr (.inl (false, (List.replicate 512 0))) :: .inr (.inl (false, (List.replicate 512 0))) :: .inr (.inl (false, (List.replicate 512 0))) :: []) rfl ?_
  refine OEnds.made1 hm_1 rfl rfl (ks := 512) rfl rfl ?_
  refine ob hm_1 6 135 [qr 16, qi v1, qi v2, qi v3, qi v4, qu, qu] [.int 16, .int 1, .int v1, .ref 16, .ref 16] (bl1 c0 c1 c2 c3 c4 c5 c6 c7 c8 c9 c10 c11 c12 c13 c14 c15 (List.replicate 256 0) (List.replicate 400 0) (List.replicate 512 0) (List.replicate 256 0) (List.replicate 16 0) (List.replicate 256 0) (List.replicate 512 0) (List.replicate 512 0) (List.replicate 512 0) (List.replicate 512 0) (List.replicate 512 0) (List.replicate 512 0) (List.replicate 512 0) (List.replicate 512 0) 0 0 0 0 0 0 0 0 0 0 0 0 0 0 0 0 0 0 0 0 0 0 0 []) rfl ?_
  obtain ⟨r1, hq18, h⟩ := bnd h
  refine OEnds.call0 hm_1 rfl rfl (by decide) rfl (as := [.ref 16, .int v1, .int 1, .int 16]) (rest := [.ref 16]) rfl rfl (ok_clamp_1 hq18) ?_
  refine ob hm_1 6 147 [qr 16, qi v1, qi v2, qi v3, qi v4, qu, qu] [.int 16, .int 1, .int v2, .ref 16, .ref 16] (bl1 c0 c1 c2 c3 c4 c5 c6 c7 c8 c9 c10 c11 c12 c13 c14 c15 (List.replicate 256 0) (List.replicate 400 0) (List.replicate 512 0) (List.replicate 256 0) (List.replicate 16 0) (List.replicate 256 0) (List.replicate 512 0) (List.replicate 512 0) (List.replicate 512 0) (List.replicate 512 0) (List.replicate 512 0) (List.replicate 512 0) (List.replicate 512 0) (List.replicate 512 0) r1 0 0 0 0 0 0 0 0 0 0 0 0 0 0 0 0 0 0 0 0 0 0 []) rfl ?_
  obtain ⟨r2, hq19, h⟩ := bnd h
  refine OEnds.call0 hm_1 rfl rfl (by decide) rfl (as := [.ref 16, .int v2, .int 1, .int 16]) (rest := [.ref 16]) rfl rfl (ok_clamp_1 hq19) ?_
  refine ob hm_1 13 173 [qr 16, qi v1, qi v2, qi v3, qi v4, qu, qu] [.int 256, .int 2, .int v3, .ref 16, .ref 16] (bl1 c0 c1 c2 c3 c4 c5 c6 c7 c8 c9 c10 c11 c12 c13 c14 c15 (List.replicate 256 0) (List.replicate 400 0) (List.replicate 512 0) (List.replicate 256 0) (List.replicate 16 0) (List.replicate 256 0) (List.replicate 512 0) (List.replicate 512 0) (List.replicate 512 0) (List.replicate 512 0) (List.replicate 512 0) (List.replicate 512 0) (List.replicate 512 0) (List.replicate 512 0) r1 r2 (r1 * r2) 0 0 0 0 0 0 0 0 0 0 0 0 0 0 0 0 0 0 0 0 []) rfl ?_
  obtain ⟨r3, hq20, h⟩ := bnd h
  refine OEnds.call0 hm_1 rfl rfl (by decide) rfl (as := [.ref 16, .int v3, .int 2, .int 256]) (rest := [.ref 16]) rfl rfl (ok_clamp_1 hq20) ?_
  refine ob hm_1 5 185 [qr 16, qi v1, qi v2, qi v3, qi v4, qi 2, qi 0] [] (bl1 c0 c1 c2 c3 c4 c5 c6 c7 c8 c9 c10 c11 c12 c13 c14 c15 (List.replicate 256 0) (List.replicate 400 0) (List.replicate 512 0) (List.replicate 256 0) (List.replicate 16 0) (List.replicate 256 0) (List.replicate 512 0) (List.replicate 512 0) (List.replicate 512 0) (List.replicate 512 0) (List.replicate 512 0) (List.replicate 512 0) (List.replicate 512 0) (List.replicate 512 0) r1 r2 (r1 * r2) r3 0 0 0 0 0 0 0 0 0 0 0 0 0 0 0 0 0 0 0 []) rfl ?_
  exact ok_init_185_1 (k219 := f_init_219) ok_init_219_1 100000 h
theorem ok_gatherBlocks_117_0 {kb : List Int32 → Int32 → Int32 → Int32 → Option (Int32 × List Int32 × Int32)} (hkb : ∀ {j : List Int32} {zb v1 v2 : Int32} {d3 d4 : Slot} {res : Int32} {zj : List Int32} {yc : Int32}, kb j zb v1 v2 = some (res, zj, yc) → OEnds own_P 30 9 [qr 1, qi v1, qi v2, d3, d4] [] (c0 :: bk0 ze R Q zg X F j I zd zf W V H Y C K b t k a f g Z za D z zh zi r U O zb zc J B T G po) (some (.int res), (c0 :: bk0 ze R Q zg X F zj I zd zf W V H Y C K b t k a f g Z za D z zh zi r U O yc zc J B T G po), 0, 0)) : ∀ {j : List Int32} {zb v1 v2 v3 : Int32} {d4 : Slot} {res : Int32} {zj : List Int32} {yc : Int32}, f_gatherBlocks_117 kb Q z j zb v1 v2 v3 = some (res, zj, yc) → OEnds own_P 30 117 [qr 1, qi v1, qi v2, qi v3, d4] [] (c0 :: bk0 ze R Q zg X F j I zd zf W V H Y C K b t k a f g Z za D z zh zi r U O zb zc J B T G po) (some (.int res), (c0 :: bk0 ze R Q zg X F zj I zd zf W V H Y C K b t k a f g Z za D z zh zi r U O yc zc J B T G po), 0, 0) := by
  intro j zb v1 v2 v3 d4 res zj yc h
  unfold f_gatherBlocks_117 at h
  refine oa hm_30 6 9 [qr 1, qi (v1 + v3), qi (v2 + 1), qi v3, qu] [] rfl ?_
  exact hkb h
theorem ok_gatherBlocks_57_0 {k117 : List Int32 → Int32 → Int32 → Int32 → Int32 → Option (Int32 × List Int32 × Int32)} (hk117 : ∀ {j : List Int32} {zb v1 v2 v3 : Int32} {d4 : Slot} {res : Int32} {zj : List Int32} {yc : Int32}, k117 j zb v1 v2 v3 = some (res, zj, yc) → OEnds own_P 30 117 [qr 1, qi v1, qi v2, qi v3, d4] [] (c0 :: bk0 ze R Q zg X F j I zd zf W V H Y C K b t k a f g Z za D z zh zi r U O zb zc J B T G po) (some (.int res), (c0 :: bk0 ze R Q zg X F zj I zd zf W V H Y C K b t k a f g Z za D z zh zi r U O yc zc J B T G po), 0, 0)) : ∀ (n : Nat), ∀ {j : List Int32} {zb v1 v2 v3 v4 res : Int32} {zj : List Int32} {yc : Int32}, f_gatherBlocks_57 k117 Q z n j zb v1 v2 v3 v4 = some (res, zj, yc) → OEnds own_P 30 57 [qr 1, qi v1, qi v2, qi v3, qi v4] [] (c0 :: bk0 ze R Q zg X F j I zd zf W V H Y C K b t k a f g Z za D z zh zi r U O zb zc J B T G po) (some (.int res), (c0 :: bk0 ze R Q zg X F zj I zd zf W V H Y C K b t k a f g Z za D z zh zi r U O yc zc J B T G po), 0, 0) := by
  intro n
  induction n with
  | zero => intro j zb v1 v2 v3 v4 res zj yc h; cases h
  | succ n ih =>
    intro j zb v1 v2 v3 v4 res zj yc h
    unfold f_gatherBlocks_57 at h
    refine ob hm_30 2 60 [qr 1, qi v1, qi v2, qi v3, qi v4] [.int v3, .int v4] (c0 :: bk0 ze R Q zg X F j I zd zf W V H Y C K b t k a f g Z za D z zh zi r U O zb zc J B T G po) rfl ?_
    by_cases hc21 : v4 < v3
    · simp only [if_pos hc21] at h
      refine OEnds.icmpF hm_30 rfl ((tlt hc21).2.1) ?_
      refine oa hm_30 3 70 [qr 1, qi v1, qi v2, qi v3, qi v4] [.int 512, .int zb] rfl ?_
      by_cases hc22 : zb < 512
      · simp only [if_pos hc22] at h
        refine OEnds.icmpF hm_30 rfl ((tlt hc22).2.1) ?_
        refine oa hm_30 4 80 [qr 1, qi v1, qi v2, qi v3, qi v4] [.int 512, .int (v1 + v4)] rfl ?_
        by_cases hc23 : (v1 + v4) < 512
        · simp only [if_pos hc23] at h
          refine OEnds.icmpF hm_30 rfl ((tlt hc23).2.1) ?_
          refine oa hm_30 9 99 [qr 1, qi v1, qi v2, qi v3, qi v4] [.int (v1 + v4), .ref 4, .int zb, .ref 8] rfl ?_
          obtain ⟨x6, hx6, h⟩ := bnd h
          refine OEnds.plain hm_30 rfl rfl (x_iaload rfl hx6) ?_
          show OEnds own_P 30 100 [qr 1, qi v1, qi v2, qi v3, qi v4] [.int x6, .int zb, .ref 8] (c0 :: bk0 ze R Q zg X F j I zd zf W V H Y C K b t k a f g Z za D z zh zi r U O zb zc J B T G po) _
          obtain ⟨A7, hA7, h⟩ := bnd h
          refine OEnds.plain hm_30 rfl rfl (x_iastore rfl (Nat.le_of_ble_eq_true rfl) hA7) ?_
          refine ob hm_30 8 57 [qr 1, qi v1, qi v2, qi v3, qi (v4 + 1)] [] (c0 :: bk0 ze R Q zg X F A7 I zd zf W V H Y C K b t k a f g Z za D z zh zi r U O (zb + 1) zc J B T G po) rfl ?_
          exact ih h
        · simp only [if_neg hc23] at h
          refine OEnds.icmpT hm_30 rfl (q := 111) rfl ((flt hc23).2.1) ?_
          refine oa hm_30 2 57 [qr 1, qi v1, qi v2, qi v3, qi (v4 + 1)] [] rfl ?_
          exact ih h
      · simp only [if_neg hc22] at h
        refine OEnds.icmpT hm_30 rfl (q := 111) rfl ((flt hc22).2.1) ?_
        refine oa hm_30 2 57 [qr 1, qi v1, qi v2, qi v3, qi (v4 + 1)] [] rfl ?_
        exact ih h
    · simp only [if_neg hc21] at h
      refine OEnds.icmpT hm_30 rfl (q := 117) rfl ((flt hc21).2.1) ?_
      refine oc 117 [qr 1, qi v1, qi v2, qi v3, qi v4] [] ?_
      exact hk117 h
theorem ok_gatherBlocks_9_0 : ∀ (n : Nat), ∀ {j : List Int32} {zb v1 v2 : Int32} {d3 d4 : Slot} {res : Int32} {zj : List Int32} {yc : Int32}, f_gatherBlocks_9 Q z n j zb v1 v2 = some (res, zj, yc) → OEnds own_P 30 9 [qr 1, qi v1, qi v2, d3, d4] [] (c0 :: bk0 ze R Q zg X F j I zd zf W V H Y C K b t k a f g Z za D z zh zi r U O zb zc J B T G po) (some (.int res), (c0 :: bk0 ze R Q zg X F zj I zd zf W V H Y C K b t k a f g Z za D z zh zi r U O yc zc J B T G po), 0, 0) := by
  intro n
  induction n with
  | zero => intro j zb v1 v2 d3 d4 res zj yc h; cases h
  | succ n ih =>
    intro j zb v1 v2 d3 d4 res zj yc h
    unfold f_gatherBlocks_9 at h
    refine ob hm_30 2 13 [qr 1, qi v1, qi v2, qu, qu] [.int 512, .int v2] (c0 :: bk0 ze R Q zg X F j I zd zf W V H Y C K b t k a f g Z za D z zh zi r U O zb zc J B T G po) rfl ?_
    by_cases hc24 : 512 < v2
    · simp only [if_pos hc24] at h
      refine OEnds.icmpT hm_30 rfl (q := 127) rfl ((tlt hc24).2.2.1) ?_
      refine oa hm_30 1 128 [qr 1, qi v1, qi v2, qu, qu] [.int 0] rfl ?_
      cases h
      exact OEnds.iret hm_30 rfl rfl
    · simp only [if_neg hc24] at h
      refine OEnds.icmpF hm_30 rfl ((flt hc24).2.2.1) ?_
      refine oa hm_30 3 21 [qr 1, qi v1, qi v2, qu, qu] [.int z, .int v1] rfl ?_
      by_cases hc25 : v1 < z
      · simp only [if_pos hc25] at h
        refine OEnds.icmpT hm_30 rfl (q := 26) rfl ((tlt hc25).1) ?_
        refine oa hm_30 3 31 [qr 1, qi v1, qi v2, qu, qu] [.int v1, .ref 4] rfl ?_
        obtain ⟨x5, hx5, h⟩ := bnd h
        refine OEnds.plain hm_30 rfl rfl (x_iaload rfl hx5) ?_
        refine ob hm_30 3 37 [qr 1, qi (v1 + 1), qi v2, qi x5, qu] [.int x5] (c0 :: bk0 ze R Q zg X F j I zd zf W V H Y C K b t k a f g Z za D z zh zi r U O zb zc J B T G po) rfl ?_
        by_cases hc26 : x5 = 0
        · simp only [if_pos hc26] at h
          refine OEnds.ifF hm_30 rfl ((teq hc26).2) ?_
          refine oa hm_30 1 41 [qr 1, qi (v1 + 1), qi v2, qi x5, qu] [.int 1] rfl ?_
          cases h
          exact OEnds.iret hm_30 rfl rfl
        · simp only [if_neg hc26] at h
          refine OEnds.ifT hm_30 rfl (q := 42) rfl ((feq hc26).2) ?_
          refine oa hm_30 5 49 [qr 1, qi (v1 + 1), qi v2, qi x5, qu] [.int (z - (v1 + 1)), .int x5] rfl ?_
          by_cases hc27 : (z - (v1 + 1)) < x5
          · simp only [if_pos hc27] at h
            refine OEnds.icmpF hm_30 rfl ((tlt hc27).2.2.2) ?_
            refine oa hm_30 1 53 [qr 1, qi (v1 + 1), qi v2, qi x5, qu] [.int 0] rfl ?_
            cases h
            exact OEnds.iret hm_30 rfl rfl
          · simp only [if_neg hc27] at h
            refine OEnds.icmpT hm_30 rfl (q := 54) rfl ((flt hc27).2.2.2) ?_
            refine oa hm_30 2 57 [qr 1, qi (v1 + 1), qi v2, qi x5, qi 0] [] rfl ?_
            exact ok_gatherBlocks_57_0 (k117 := f_gatherBlocks_117 (f_gatherBlocks_9 Q z n) Q z) (ok_gatherBlocks_117_0 ih) 100000 h
      · simp only [if_neg hc25] at h
        refine OEnds.icmpF hm_30 rfl ((flt hc25).1) ?_
        refine oa hm_30 1 25 [qr 1, qi v1, qi v2, qu, qu] [.int 0] rfl ?_
        cases h
        exact OEnds.iret hm_30 rfl rfl
theorem ok_gatherBlocks_0 {res : Int32} (h : f_gatherBlocks Q z j zb = some (res, zj, yc)) : OEnds own_P 30 0 [qr 1, qu, qu, qu, qu] [] (c0 :: bk0 ze R Q zg X F j I zd zf W V H Y C K b t k a f g Z za D z zh zi r U O zb zc J B T G po) (some (.int res), (c0 :: bk0 ze R Q zg X F zj I zd zf W V H Y C K b t k a f g Z za D z zh zi r U O yc zc J B T G po), 0, 0) := by
  unfold f_gatherBlocks at h
  refine ob hm_30 7 9 [qr 1, qi 1, qi 0, qu, qu] [] (c0 :: bk0 ze R Q zg X F j I zd zf W V H Y C K b t k a f g Z za D z zh zi r U O 0 zc J B T G po) rfl ?_
  exact ok_gatherBlocks_9_0 100000 h
theorem ok_readCode_51_0 {kb : Int32 → Int32 → Int32 → Option (Int32 × Int32)} (hkb : ∀ {zc v1 v2 : Int32} {d3 d4 : Slot} {res : Int32} {yd : Int32}, kb zc v1 v2 = some (res, yd) → OEnds own_P 32 4 [qr 1, qi v1, qi v2, d3, d4] [] (c0 :: bk0 ze R Q zg X F j I zd zf W V H Y C K b t k a f g Z za D z zh zi r U O zb zc J B T G po) (some (.int res), (c0 :: bk0 ze R Q zg X F j I zd zf W V H Y C K b t k a f g Z za D z zh zi r U O zb yd J B T G po), 0, 0)) : ∀ {zc v1 v2 v4 : Int32} {d3 : Slot} {res : Int32} {yd : Int32}, f_readCode_51 kb j J zc v1 v2 v4 = some (res, yd) → OEnds own_P 32 51 [qr 1, qi v1, qi v2, d3, qi v4] [] (c0 :: bk0 ze R Q zg X F j I zd zf W V H Y C K b t k a f g Z za D z zh zi r U O zb zc J B T G po) (some (.int res), (c0 :: bk0 ze R Q zg X F j I zd zf W V H Y C K b t k a f g Z za D z zh zi r U O zb yd J B T G po), 0, 0) := by
  intro zc v1 v2 v4 d3 res yd h
  unfold f_readCode_51 at h
  refine ob hm_32 14 4 [qr 1, qi (v1 ||| (v4 <<< (v2 &&& 31))), qi (v2 + 1), qu, qi v4] [] (c0 :: bk0 ze R Q zg X F j I zd zf W V H Y C K b t k a f g Z za D z zh zi r U O zb (zc + 1) J B T G po) rfl ?_
  exact hkb h
theorem ok_readCode_4_0 : ∀ (n : Nat), ∀ {zc v1 v2 : Int32} {d3 d4 : Slot} {res : Int32} {yd : Int32}, f_readCode_4 j J n zc v1 v2 = some (res, yd) → OEnds own_P 32 4 [qr 1, qi v1, qi v2, d3, d4] [] (c0 :: bk0 ze R Q zg X F j I zd zf W V H Y C K b t k a f g Z za D z zh zi r U O zb zc J B T G po) (some (.int res), (c0 :: bk0 ze R Q zg X F j I zd zf W V H Y C K b t k a f g Z za D z zh zi r U O zb yd J B T G po), 0, 0) := by
  intro n
  induction n with
  | zero => intro zc v1 v2 d3 d4 res yd h; cases h
  | succ n ih =>
    intro zc v1 v2 d3 d4 res yd h
    unfold f_readCode_4 at h
    refine ob hm_32 3 9 [qr 1, qi v1, qi v2, qu, qu] [.int J, .int v2] (c0 :: bk0 ze R Q zg X F j I zd zf W V H Y C K b t k a f g Z za D z zh zi r U O zb zc J B T G po) rfl ?_
    by_cases hc28 : v2 < J
    · simp only [if_pos hc28] at h
      refine OEnds.icmpF hm_32 rfl ((tlt hc28).2.1) ?_
      refine oa hm_32 8 23 [qr 1, qi v1, qi v2, qi (zc >>> ((3 : Int32) &&& 31)), qi 0] [.int (zc >>> ((3 : Int32) &&& 31))] rfl ?_
      by_cases hc29 : (zc >>> ((3 : Int32) &&& 31)) < 0
      · simp only [if_pos hc29] at h
        refine OEnds.ifT hm_32 rfl (q := 51) rfl ((tlt hc29).1) ?_
        refine oc 51 [qr 1, qi v1, qi v2, qi (zc >>> ((3 : Int32) &&& 31)), qi 0] [] ?_
        exact ok_readCode_51_0 ih h
      · simp only [if_neg hc29] at h
        refine OEnds.ifF hm_32 rfl ((flt hc29).1) ?_
        refine oa hm_32 2 30 [qr 1, qi v1, qi v2, qi (zc >>> ((3 : Int32) &&& 31)), qi 0] [.int 512, .int (zc >>> ((3 : Int32) &&& 31))] rfl ?_
        by_cases hc30 : (zc >>> ((3 : Int32) &&& 31)) < 512
        · simp only [if_pos hc30] at h
          refine OEnds.icmpF hm_32 rfl ((tlt hc30).2.1) ?_
          refine oa hm_32 3 38 [qr 1, qi v1, qi v2, qi (zc >>> ((3 : Int32) &&& 31)), qi 0] [.int (zc >>> ((3 : Int32) &&& 31)), .ref 8] rfl ?_
          obtain ⟨x8, hx8, h⟩ := bnd h
          refine OEnds.plain hm_32 rfl rfl (x_iaload rfl hx8) ?_
          refine ob hm_32 8 51 [qr 1, qi v1, qi v2, qi (zc >>> ((3 : Int32) &&& 31)), qi ((x8 >>> ((zc &&& 7) &&& 31)) &&& 1)] [] (c0 :: bk0 ze R Q zg X F j I zd zf W V H Y C K b t k a f g Z za D z zh zi r U O zb zc J B T G po) rfl ?_
          exact ok_readCode_51_0 ih h
        · simp only [if_neg hc30] at h
          refine OEnds.icmpT hm_32 rfl (q := 51) rfl ((flt hc30).2.1) ?_
          refine oc 51 [qr 1, qi v1, qi v2, qi (zc >>> ((3 : Int32) &&& 31)), qi 0] [] ?_
          exact ok_readCode_51_0 ih h
    · simp only [if_neg hc28] at h
      refine OEnds.icmpT hm_32 rfl (q := 74) rfl ((flt hc28).2.1) ?_
      refine oa hm_32 1 75 [qr 1, qi v1, qi v2, qu, qu] [.int v1] rfl ?_
      cases h
      exact OEnds.iret hm_32 rfl rfl
theorem ok_readCode_0 {res : Int32} (h : f_readCode j J zc = some (res, yd)) : OEnds own_P 32 0 [qr 1, qu, qu, qu, qu] [] (c0 :: bk0 ze R Q zg X F j I zd zf W V H Y C K b t k a f g Z za D z zh zi r U O zb zc J B T G po) (some (.int res), (c0 :: bk0 ze R Q zg X F j I zd zf W V H Y C K b t k a f g Z za D z zh zi r U O zb yd J B T G po), 0, 0) := by
  unfold f_readCode at h
  refine oa hm_32 4 4 [qr 1, qi 0, qi 0, qu, qu] [] rfl ?_
  exact ok_readCode_4_0 100000 h
theorem ok_lengthOf_0 {v1 res : Int32} (h : f_lengthOf Y a v1 = some res) : OEnds own_P 34 0 [qr 1, qi v1] [] (c0 :: bk0 ze R Q zg X F j I zd zf W V H Y C K b t k a f g Z za D z zh zi r U O zb zc J B T G po) (some (.int res), (c0 :: bk0 ze R Q zg X F j I zd zf W V H Y C K b t k a f g Z za D z zh zi r U O zb zc J B T G po), 0, 0) := by
  unfold f_lengthOf at h
  refine oa hm_34 3 5 [qr 1, qi v1] [.int a, .int v1] rfl ?_
  by_cases hc31 : v1 < a
  · simp only [if_pos hc31] at h
    refine OEnds.icmpF hm_34 rfl ((tlt hc31).2.1) ?_
    refine oa hm_34 1 9 [qr 1, qi v1] [.int 1] rfl ?_
    cases h
    exact OEnds.iret hm_34 rfl rfl
  · simp only [if_neg hc31] at h
    refine OEnds.icmpT hm_34 rfl (q := 10) rfl ((flt hc31).2.1) ?_
    refine oa hm_34 2 14 [qr 1, qi v1] [.int 512, .int v1] rfl ?_
    by_cases hc32 : v1 < 512
    · simp only [if_pos hc32] at h
      refine OEnds.icmpT hm_34 rfl (q := 19) rfl ((tlt hc32).1) ?_
      refine oa hm_34 3 24 [qr 1, qi v1] [.int v1, .ref 15] rfl ?_
      obtain ⟨x9, hx9, h⟩ := bnd h
      refine OEnds.plain hm_34 rfl rfl (x_iaload rfl hx9) ?_
      show OEnds own_P 34 25 [qr 1, qi v1] [.int x9] (c0 :: bk0 ze R Q zg X F j I zd zf W V H Y C K b t k a f g Z za D z zh zi r U O zb zc J B T G po) _
      cases h
      exact OEnds.iret hm_34 rfl rfl
    · simp only [if_neg hc32] at h
      refine OEnds.icmpF hm_34 rfl ((flt hc32).1) ?_
      refine oa hm_34 1 18 [qr 1, qi v1] [.int 1] rfl ?_
      cases h
      exact OEnds.iret hm_34 rfl rfl
theorem ok_writeString_86_0 {kb : List Int32 → Int32 → Int32 → Int32 → Int32 → Option (List Int32)} (hkb : ∀ {F : List Int32} {v3 v4 v5 v6 : Int32} {d1 d2 d7 : Slot} {zk : List Int32}, kb F v3 v4 v5 v6 = some zk → OEnds own_P 35 13 [qr 1, d1, d2, qi v3, qi v4, qi v5, qi v6, d7] [] (c0 :: bk0 ze R Q zg X F j I zd zf W V H Y C K b t k a f g Z za D z zh zi r U O zb zc J B T G po) (none, (c0 :: bk0 ze R Q zg X zk j I zd zf W V H Y C K b t k a f g Z za D z zh zi r U O zb zc J B T G po), 0, 0)) : ∀ {F : List Int32} {v3 v4 v5 v6 : Int32} {d1 d2 d7 : Slot} {zk : List Int32}, f_writeString_86 kb W V a F v3 v4 v5 v6 = some zk → OEnds own_P 35 86 [qr 1, d1, d2, qi v3, qi v4, qi v5, qi v6, d7] [] (c0 :: bk0 ze R Q zg X F j I zd zf W V H Y C K b t k a f g Z za D z zh zi r U O zb zc J B T G po) (none, (c0 :: bk0 ze R Q zg X zk j I zd zf W V H Y C K b t k a f g Z za D z zh zi r U O zb zc J B T G po), 0, 0) := by
  intro F v3 v4 v5 v6 d1 d2 d7 zk h
  unfold f_writeString_86 at h
  refine oa hm_35 4 95 [qr 1, qu, qu, qi v3, qi v4, qi (v5 + (-1 : Int32)), qi v6, qu] [.int a, .int v4] rfl ?_
  by_cases hc33 : v4 < a
  · simp only [if_pos hc33] at h
    refine OEnds.icmpF hm_35 rfl ((tlt hc33).2.1) ?_
    refine oa hm_35 5 13 [qr 1, qu, qu, qi v3, qi (-1), qi (v5 + (-1 : Int32)), qi (v6 + 1), qu] [] rfl ?_
    exact hkb h
  · simp only [if_neg hc33] at h
    refine OEnds.icmpT hm_35 rfl (q := 102) rfl ((flt hc33).2.1) ?_
    refine oa hm_35 3 108 [qr 1, qu, qu, qi v3, qi v4, qi (v5 + (-1 : Int32)), qi v6, qu] [.int v4, .ref 12] rfl ?_
    obtain ⟨x12, hx12, h⟩ := bnd h
    refine OEnds.plain hm_35 rfl rfl (x_iaload rfl hx12) ?_
    refine ob hm_35 3 13 [qr 1, qu, qu, qi v3, qi x12, qi (v5 + (-1 : Int32)), qi (v6 + 1), qu] [] (c0 :: bk0 ze R Q zg X F j I zd zf W V H Y C K b t k a f g Z za D z zh zi r U O zb zc J B T G po) rfl ?_
    exact hkb h
theorem ok_writeString_62_0 {kb : List Int32 → Int32 → Int32 → Int32 → Int32 → Option (List Int32)} (hkb : ∀ {F : List Int32} {v3 v4 v5 v6 : Int32} {d1 d2 d7 : Slot} {zk : List Int32}, kb F v3 v4 v5 v6 = some zk → OEnds own_P 35 13 [qr 1, d1, d2, qi v3, qi v4, qi v5, qi v6, d7] [] (c0 :: bk0 ze R Q zg X F j I zd zf W V H Y C K b t k a f g Z za D z zh zi r U O zb zc J B T G po) (none, (c0 :: bk0 ze R Q zg X zk j I zd zf W V H Y C K b t k a f g Z za D z zh zi r U O zb zc J B T G po), 0, 0)) : ∀ {F : List Int32} {v3 v4 v5 v6 t0 : Int32} {d1 d2 d7 : Slot} {zk : List Int32}, f_writeString_62 kb W V a F v3 v4 v5 v6 t0 = some zk → OEnds own_P 35 62 [qr 1, d1, d2, qi v3, qi v4, qi v5, qi v6, d7] [.int t0] (c0 :: bk0 ze R Q zg X F j I zd zf W V H Y C K b t k a f g Z za D z zh zi r U O zb zc J B T G po) (none, (c0 :: bk0 ze R Q zg X zk j I zd zf W V H Y C K b t k a f g Z za D z zh zi r U O zb zc J B T G po), 0, 0) := by
  intro F v3 v4 v5 v6 t0 d1 d2 d7 zk h
  unfold f_writeString_62 at h
  refine oa hm_35 2 66 [qr 1, qu, qu, qi v3, qi v4, qi v5, qi v6, qi t0] [.int v5] rfl ?_
  by_cases hc34 : v5 < 0
  · simp only [if_pos hc34] at h
    refine OEnds.ifT hm_35 rfl (q := 86) rfl ((tlt hc34).1) ?_
    refine oc 86 [qr 1, qu, qu, qi v3, qi v4, qi v5, qi v6, qi t0] [] ?_
    exact ok_writeString_86_0 hkb h
  · simp only [if_neg hc34] at h
    refine OEnds.ifF hm_35 rfl ((flt hc34).1) ?_
    refine oa hm_35 2 74 [qr 1, qu, qu, qi v3, qi v4, qi v5, qi v6, qi t0] [.int 256, .int v5] rfl ?_
    by_cases hc35 : v5 < 256
    · simp only [if_pos hc35] at h
      refine OEnds.icmpF hm_35 rfl ((tlt hc35).2.1) ?_
      refine oa hm_35 4 85 [qr 1, qu, qu, qi v3, qi v4, qi v5, qi v6, qi t0] [.int t0, .int v5, .ref 7] rfl ?_
      obtain ⟨A11, hA11, h⟩ := bnd h
      refine OEnds.plain hm_35 rfl rfl (x_iastore rfl (Nat.le_of_ble_eq_true rfl) hA11) ?_
      show OEnds own_P 35 86 [qr 1, qu, qu, qi v3, qi v4, qi v5, qi v6, qi t0] [] (c0 :: bk0 ze R Q zg X A11 j I zd zf W V H Y C K b t k a f g Z za D z zh zi r U O zb zc J B T G po) _
      exact ok_writeString_86_0 hkb h
    · simp only [if_neg hc35] at h
      refine OEnds.icmpT hm_35 rfl (q := 86) rfl ((flt hc35).2.1) ?_
      refine oc 86 [qr 1, qu, qu, qi v3, qi v4, qi v5, qi v6, qi t0] [] ?_
      exact ok_writeString_86_0 hkb h
theorem ok_writeString_13_0 : ∀ (n : Nat), ∀ {F : List Int32} {v3 v4 v5 v6 : Int32} {d1 d2 d7 : Slot} {zk : List Int32}, f_writeString_13 W V a n F v3 v4 v5 v6 = some zk → OEnds own_P 35 13 [qr 1, d1, d2, qi v3, qi v4, qi v5, qi v6, d7] [] (c0 :: bk0 ze R Q zg X F j I zd zf W V H Y C K b t k a f g Z za D z zh zi r U O zb zc J B T G po) (none, (c0 :: bk0 ze R Q zg X zk j I zd zf W V H Y C K b t k a f g Z za D z zh zi r U O zb zc J B T G po), 0, 0) := by
  intro n
  induction n with
  | zero => intro F v3 v4 v5 v6 d1 d2 d7 zk h; cases h
  | succ n ih =>
    intro F v3 v4 v5 v6 d1 d2 d7 zk h
    unfold f_writeString_13 at h
    refine ob hm_35 2 16 [qr 1, qu, qu, qi v3, qi v4, qi v5, qi v6, qu] [.int v3, .int v6] (c0 :: bk0 ze R Q zg X F j I zd zf W V H Y C K b t k a f g Z za D z zh zi r U O zb zc J B T G po) rfl ?_
    by_cases hc36 : v6 < v3
    · simp only [if_pos hc36] at h
      refine OEnds.icmpF hm_35 rfl ((tlt hc36).2.1) ?_
      refine oa hm_35 2 24 [qr 1, qu, qu, qi v3, qi v4, qi v5, qi v6, qu] [.int 512, .int v6] rfl ?_
      by_cases hc37 : v6 < 512
      · simp only [if_pos hc37] at h
        refine OEnds.icmpF hm_35 rfl ((tlt hc37).2.1) ?_
        refine oa hm_35 1 29 [qr 1, qu, qu, qi v3, qi v4, qi v5, qi v6, qu] [.int v4] rfl ?_
        by_cases hc38 : v4 < 0
        · simp only [if_pos hc38] at h
          refine OEnds.ifT hm_35 rfl (q := 40) rfl ((tlt hc38).1) ?_
          refine oc 40 [qr 1, qu, qu, qi v3, qi v4, qi v5, qi v6, qu] [] ?_
          cases h
          exact OEnds.vret hm_35 rfl rfl
        · simp only [if_neg hc38] at h
          refine OEnds.ifF hm_35 rfl ((flt hc38).1) ?_
          refine oa hm_35 2 37 [qr 1, qu, qu, qi v3, qi v4, qi v5, qi v6, qu] [.int 512, .int v4] rfl ?_
          by_cases hc39 : v4 < 512
          · simp only [if_pos hc39] at h
            refine OEnds.icmpT hm_35 rfl (q := 41) rfl ((tlt hc39).1) ?_
            refine oa hm_35 3 47 [qr 1, qu, qu, qi v3, qi v4, qi v5, qi v6, qu] [.int a, .int v4] rfl ?_
            by_cases hc40 : v4 < a
            · simp only [if_pos hc40] at h
              refine OEnds.icmpF hm_35 rfl ((tlt hc40).2.1) ?_
              refine oa hm_35 2 62 [qr 1, qu, qu, qi v3, qi v4, qi v5, qi v6, qu] [.int v4] rfl ?_
              exact ok_writeString_62_0 ih h
            · simp only [if_neg hc40] at h
              refine OEnds.icmpT hm_35 rfl (q := 55) rfl ((flt hc40).2.1) ?_
              refine oa hm_35 3 61 [qr 1, qu, qu, qi v3, qi v4, qi v5, qi v6, qu] [.int v4, .ref 13] rfl ?_
              obtain ⟨x10, hx10, h⟩ := bnd h
              refine OEnds.plain hm_35 rfl rfl (x_iaload rfl hx10) ?_
              show OEnds own_P 35 62 [qr 1, qu, qu, qi v3, qi v4, qi v5, qi v6, qu] [.int x10] (c0 :: bk0 ze R Q zg X F j I zd zf W V H Y C K b t k a f g Z za D z zh zi r U O zb zc J B T G po) _
              exact ok_writeString_62_0 ih h
          · simp only [if_neg hc39] at h
            refine OEnds.icmpF hm_35 rfl ((flt hc39).1) ?_
            refine oc 40 [qr 1, qu, qu, qi v3, qi v4, qi v5, qi v6, qu] [] ?_
            cases h
            exact OEnds.vret hm_35 rfl rfl
      · simp only [if_neg hc37] at h
        refine OEnds.icmpT hm_35 rfl (q := 117) rfl ((flt hc37).2.1) ?_
        refine oc 117 [qr 1, qu, qu, qi v3, qi v4, qi v5, qi v6, qu] [] ?_
        cases h
        exact OEnds.vret hm_35 rfl rfl
    · simp only [if_neg hc36] at h
      refine OEnds.icmpT hm_35 rfl (q := 117) rfl ((flt hc36).2.1) ?_
      refine oc 117 [qr 1, qu, qu, qi v3, qi v4, qi v5, qi v6, qu] [] ?_
      cases h
      exact OEnds.vret hm_35 rfl rfl
theorem ok_writeString_0 {v1 v2 v3 : Int32} (h : f_writeString W V a F v1 v2 v3 = some zk) : OEnds own_P 35 0 [qr 1, qi v1, qi v2, qi v3, qu, qu, qu, qu] [] (c0 :: bk0 ze R Q zg X F j I zd zf W V H Y C K b t k a f g Z za D z zh zi r U O zb zc J B T G po) (none, (c0 :: bk0 ze R Q zg X zk j I zd zf W V H Y C K b t k a f g Z za D z zh zi r U O zb zc J B T G po), 0, 0) := by
  unfold f_writeString at h
  refine oa hm_35 10 13 [qr 1, qi v1, qi v2, qi v3, qi v1, qi ((v2 + v3) - 1), qi 0, qu] [] rfl ?_
  exact ok_writeString_13_0 100000 h
theorem ok_firstOf_0 {v1 res : Int32} (h : f_firstOf H a v1 = some res) : OEnds own_P 36 0 [qr 1, qi v1] [] (c0 :: bk0 ze R Q zg X F j I zd zf W V H Y C K b t k a f g Z za D z zh zi r U O zb zc J B T G po) (some (.int res), (c0 :: bk0 ze R Q zg X F j I zd zf W V H Y C K b t k a f g Z za D z zh zi r U O zb zc J B T G po), 0, 0) := by
  unfold f_firstOf at h
  refine oa hm_36 3 5 [qr 1, qi v1] [.int a, .int v1] rfl ?_
  by_cases hc41 : v1 < a
  · simp only [if_pos hc41] at h
    refine OEnds.icmpF hm_36 rfl ((tlt hc41).2.1) ?_
    refine oa hm_36 1 9 [qr 1, qi v1] [.int v1] rfl ?_
    cases h
    exact OEnds.iret hm_36 rfl rfl
  · simp only [if_neg hc41] at h
    refine OEnds.icmpT hm_36 rfl (q := 10) rfl ((flt hc41).2.1) ?_
    refine oa hm_36 2 14 [qr 1, qi v1] [.int 512, .int v1] rfl ?_
    by_cases hc42 : v1 < 512
    · simp only [if_pos hc42] at h
      refine OEnds.icmpT hm_36 rfl (q := 19) rfl ((tlt hc42).1) ?_
      refine oa hm_36 3 24 [qr 1, qi v1] [.int v1, .ref 14] rfl ?_
      obtain ⟨x13, hx13, h⟩ := bnd h
      refine OEnds.plain hm_36 rfl rfl (x_iaload rfl hx13) ?_
      show OEnds own_P 36 25 [qr 1, qi v1] [.int x13] (c0 :: bk0 ze R Q zg X F j I zd zf W V H Y C K b t k a f g Z za D z zh zi r U O zb zc J B T G po) _
      cases h
      exact OEnds.iret hm_36 rfl rfl
    · simp only [if_neg hc42] at h
      refine OEnds.icmpF hm_36 rfl ((flt hc42).1) ?_
      refine oa hm_36 1 18 [qr 1, qi v1] [.int 0] rfl ?_
      cases h
      exact OEnds.iret hm_36 rfl rfl
theorem ok_addDecoderCode_54_0 : ∀ {W V H Y : List Int32} {J B v3 : Int32} {d1 d2 : Slot} {zp zq zr zs : List Int32} {zt : Int32} {zu : Int32}, f_addDecoderCode_54 a f W V H Y J B v3 = some (zp, zq, zr, zs, zt, zu) → OEnds own_P 37 54 [qr 1, d1, d2, qi v3] [] (c0 :: bk0 ze R Q zg X F j I zd zf W V H Y C K b t k a f g Z za D z zh zi r U O zb zc J B T G po) (none, (c0 :: bk0 ze R Q zg X F j I zd zf zp zq zr zs C K b t k a f g Z za D z zh zi r U O zb zc zt zu T G po), 0, 0) := by
  intro W V H Y J B v3 d1 d2 zp zq zr zs zt zu h
  unfold f_addDecoderCode_54 at h
  refine ob hm_37 11 71 [qr 1, qu, qu, qi v3] [.int ((1 : Int32) <<< (J &&& 31)), .int (v3 + 1)] (c0 :: bk0 ze R Q zg X F j I zd zf W V H Y C K b t k a f g Z za D z zh zi r U O zb zc J (v3 + 1) T G po) rfl ?_
  by_cases hc43 : (v3 + 1) = ((1 : Int32) <<< (J &&& 31))
  · simp only [if_pos hc43] at h
    refine OEnds.icmpF hm_37 rfl ((teq hc43).2) ?_
    refine oa hm_37 4 82 [qr 1, qu, qu, qi v3] [.int f, .int J] rfl ?_
    by_cases hc44 : J < f
    · simp only [if_pos hc44] at h
      refine OEnds.icmpF hm_37 rfl ((tlt hc44).2.1) ?_
      refine ob hm_37 6 95 [qr 1, qu, qu, qi v3] [] (c0 :: bk0 ze R Q zg X F j I zd zf W V H Y C K b t k a f g Z za D z zh zi r U O zb zc (J + 1) (v3 + 1) T G po) rfl ?_
      cases h
      exact OEnds.vret hm_37 rfl rfl
    · simp only [if_neg hc44] at h
      refine OEnds.icmpT hm_37 rfl (q := 95) rfl ((flt hc44).2.1) ?_
      refine oc 95 [qr 1, qu, qu, qi v3] [] ?_
      cases h
      exact OEnds.vret hm_37 rfl rfl
  · simp only [if_neg hc43] at h
    refine OEnds.icmpT hm_37 rfl (q := 95) rfl ((feq hc43).2) ?_
    refine oc 95 [qr 1, qu, qu, qi v3] [] ?_
    cases h
    exact OEnds.vret hm_37 rfl rfl
theorem ok_addDecoderCode_0 {v1 v2 : Int32} (h : f_addDecoderCode a f W V H Y J B v1 v2 = some (zp, zq, zr, zs, zt, zu)) : OEnds own_P 37 0 [qr 1, qi v1, qi v2, qu] [] (c0 :: bk0 ze R Q zg X F j I zd zf W V H Y C K b t k a f g Z za D z zh zi r U O zb zc J B T G po) (none, (c0 :: bk0 ze R Q zg X F j I zd zf zp zq zr zs C K b t k a f g Z za D z zh zi r U O zb zc zt zu T G po), 0, 0) := by
  unfold f_addDecoderCode at h
  refine oa hm_37 4 6 [qr 1, qi v1, qi v2, qi B] [.int B] rfl ?_
  by_cases hc45 : B < 0
  · simp only [if_pos hc45] at h
    refine OEnds.ifT hm_37 rfl (q := 54) rfl ((tlt hc45).1) ?_
    refine oc 54 [qr 1, qi v1, qi v2, qi B] [] ?_
    exact ok_addDecoderCode_54_0 h
  · simp only [if_neg hc45] at h
    refine OEnds.ifF hm_37 rfl ((flt hc45).1) ?_
    refine oa hm_37 2 13 [qr 1, qi v1, qi v2, qi B] [.int 512, .int B] rfl ?_
    by_cases hc46 : B < 512
    · simp only [if_pos hc46] at h
      refine OEnds.icmpF hm_37 rfl ((tlt hc46).2.1) ?_
      refine oa hm_37 4 22 [qr 1, qi v1, qi v2, qi B] [.int v1, .int B, .ref 12] rfl ?_
      obtain ⟨A14, hA14, h⟩ := bnd h
      refine OEnds.plain hm_37 rfl rfl (x_iastore rfl (Nat.le_of_ble_eq_true rfl) hA14) ?_
      refine ob hm_37 4 29 [qr 1, qi v1, qi v2, qi B] [.int v2, .int B, .ref 13] (c0 :: bk0 ze R Q zg X F j I zd zf A14 V H Y C K b t k a f g Z za D z zh zi r U O zb zc J B T G po) rfl ?_
      obtain ⟨A15, hA15, h⟩ := bnd h
      refine OEnds.plain hm_37 rfl rfl (x_iastore rfl (Nat.le_of_ble_eq_true rfl) hA15) ?_
      refine ob hm_37 5 37 [qr 1, qi v1, qi v2, qi B] [.int v1, .ref 1, .int B, .ref 14] (c0 :: bk0 ze R Q zg X F j I zd zf A14 A15 H Y C K b t k a f g Z za D z zh zi r U O zb zc J B T G po) rfl ?_
      obtain ⟨r16, hq47, h⟩ := bnd h
      refine OEnds.call0 hm_37 rfl rfl (by decide) rfl (as := [.ref 1, .int v1]) (rest := [.int B, .ref 14]) rfl rfl (ok_firstOf_0 hq47) ?_
      show OEnds own_P 37 40 [qr 1, qi v1, qi v2, qi B] [.int r16, .int B, .ref 14] (c0 :: bk0 ze R Q zg X F j I zd zf A14 A15 H Y C K b t k a f g Z za D z zh zi r U O zb zc J B T G po) _
      obtain ⟨A17, hA17, h⟩ := bnd h
      refine OEnds.plain hm_37 rfl rfl (x_iastore rfl (Nat.le_of_ble_eq_true rfl) hA17) ?_
      refine ob hm_37 5 48 [qr 1, qi v1, qi v2, qi B] [.int v1, .ref 1, .int B, .ref 15] (c0 :: bk0 ze R Q zg X F j I zd zf A14 A15 A17 Y C K b t k a f g Z za D z zh zi r U O zb zc J B T G po) rfl ?_
      obtain ⟨r18, hq48, h⟩ := bnd h
      refine OEnds.call0 hm_37 rfl rfl (by decide) rfl (as := [.ref 1, .int v1]) (rest := [.int B, .ref 15]) rfl rfl (ok_lengthOf_0 hq48) ?_
      refine ob hm_37 2 53 [qr 1, qi v1, qi v2, qi B] [.int (r18 + 1), .int B, .ref 15] (c0 :: bk0 ze R Q zg X F j I zd zf A14 A15 A17 Y C K b t k a f g Z za D z zh zi r U O zb zc J B T G po) rfl ?_
      obtain ⟨A19, hA19, h⟩ := bnd h
      refine OEnds.plain hm_37 rfl rfl (x_iastore rfl (Nat.le_of_ble_eq_true rfl) hA19) ?_
      show OEnds own_P 37 54 [qr 1, qi v1, qi v2, qi B] [] (c0 :: bk0 ze R Q zg X F j I zd zf A14 A15 A17 A19 C K b t k a f g Z za D z zh zi r U O zb zc J B T G po) _
      exact ok_addDecoderCode_54_0 h
    · simp only [if_neg hc46] at h
      refine OEnds.icmpT hm_37 rfl (q := 54) rfl ((flt hc46).2.1) ?_
      refine oc 54 [qr 1, qi v1, qi v2, qi B] [] ?_
      exact ok_addDecoderCode_54_0 h
theorem ok_handleCode_233_0 : ∀ {F W V H Y : List Int32} {J B T G v1 : Int32} {d2 d3 d4 : Slot} {res : Int32} {zk zp zq zr zs : List Int32} {zt zu zw : Int32} {zx : Int32}, f_handleCode_233 b t a f g F W V H Y J B T G v1 = some (res, zk, zp, zq, zr, zs, zt, zu, zw, zx) → OEnds own_P 33 233 [qr 1, qi v1, d2, d3, d4] [] (c0 :: bk0 ze R Q zg X F j I zd zf W V H Y C K b t k a f g Z za D z zh zi r U O zb zc J B T G po) (some (.int res), (c0 :: bk0 ze R Q zg X zk j I zd zf zp zq zr zs C K b t k a f g Z za D z zh zi r U O zb zc zt zu zw zx po), 0, 0) := by
  intro F W V H Y J B T G v1 d2 d3 d4 res zk zp zq zr zs zt zu zw zx h
  unfold f_handleCode_233 at h
  refine ob hm_33 4 239 [qr 1, qi v1, qu, qu, qu] [.int 0] (c0 :: bk0 ze R Q zg X F j I zd zf W V H Y C K b t k a f g Z za D z zh zi r U O zb zc J B v1 G po) rfl ?_
  cases h
  exact OEnds.iret hm_33 rfl rfl
theorem ok_handleCode_206_0 : ∀ {F W V H Y : List Int32} {J B T G v1 v2 : Int32} {d3 d4 : Slot} {res : Int32} {zk zp zq zr zs : List Int32} {zt zu zw : Int32} {zx : Int32}, f_handleCode_206 b t a f g F W V H Y J B T G v1 v2 = some (res, zk, zp, zq, zr, zs, zt, zu, zw, zx) → OEnds own_P 33 206 [qr 1, qi v1, qi v2, d3, d4] [] (c0 :: bk0 ze R Q zg X F j I zd zf W V H Y C K b t k a f g Z za D z zh zi r U O zb zc J B T G po) (some (.int res), (c0 :: bk0 ze R Q zg X zk j I zd zf zp zq zr zs C K b t k a f g Z za D z zh zi r U O zb zc zt zu zw zx po), 0, 0) := by
  intro F W V H Y J B T G v1 v2 d3 d4 res zk zp zq zr zs zt zu zw zx h
  unfold f_handleCode_206 at h
  refine oa hm_33 2 210 [qr 1, qi v1, qi v2, qu, qu] [.int T] rfl ?_
  by_cases hc49 : T < 0
  · simp only [if_pos hc49] at h
    refine OEnds.ifT hm_33 rfl (q := 233) rfl ((tlt hc49).1) ?_
    refine oc 233 [qr 1, qi v1, qi v2, qu, qu] [] ?_
    exact ok_handleCode_233_0 h
  · simp only [if_neg hc49] at h
    refine OEnds.ifF hm_33 rfl ((flt hc49).1) ?_
    refine oa hm_33 4 221 [qr 1, qi v1, qi v2, qu, qu] [.int g, .int B] rfl ?_
    by_cases hc50 : B < g
    · simp only [if_pos hc50] at h
      refine OEnds.icmpF hm_33 rfl ((tlt hc50).2.1) ?_
      refine oa hm_33 4 230 [qr 1, qi v1, qi v2, qu, qu] [.int v2, .int T, .ref 1] rfl ?_
      obtain ⟨⟨s27, s28, s29, s30, s31, s32⟩, hq51, h⟩ := bnd h
      refine OEnds.call0 hm_33 rfl rfl (by decide) rfl (as := [.ref 1, .int T, .int v2]) (rest := []) rfl rfl (ok_addDecoderCode_0 hq51) ?_
      show OEnds own_P 33 233 [qr 1, qi v1, qi v2, qu, qu] [] (c0 :: bk0 ze R Q zg X F j I zd zf s27 s28 s29 s30 C K b t k a f g Z za D z zh zi r U O zb zc s31 s32 T G po) _
      exact ok_handleCode_233_0 h
    · simp only [if_neg hc50] at h
      refine OEnds.icmpT hm_33 rfl (q := 233) rfl ((flt hc50).2.1) ?_
      refine oc 233 [qr 1, qi v1, qi v2, qu, qu] [] ?_
      exact ok_handleCode_233_0 h
theorem ok_handleCode_196_0 : ∀ {F W V H Y : List Int32} {J B T G v1 v2 v3 : Int32} {d4 : Slot} {res : Int32} {zk zp zq zr zs : List Int32} {zt zu zw : Int32} {zx : Int32}, f_handleCode_196 b t a f g F W V H Y J B T G v1 v2 v3 = some (res, zk, zp, zq, zr, zs, zt, zu, zw, zx) → OEnds own_P 33 196 [qr 1, qi v1, qi v2, qi v3, d4] [] (c0 :: bk0 ze R Q zg X F j I zd zf W V H Y C K b t k a f g Z za D z zh zi r U O zb zc J B T G po) (some (.int res), (c0 :: bk0 ze R Q zg X zk j I zd zf zp zq zr zs C K b t k a f g Z za D z zh zi r U O zb zc zt zu zw zx po), 0, 0) := by
  intro F W V H Y J B T G v1 v2 v3 d4 res zk zp zq zr zs zt zu zw zx h
  unfold f_handleCode_196 at h
  refine ob hm_33 6 206 [qr 1, qi v1, qi v2, qi v3, qu] [] (c0 :: bk0 ze R Q zg X F j I zd zf W V H Y C K b t k a f g Z za D z zh zi r U O zb zc J B T (G + v3) po) rfl ?_
  exact ok_handleCode_206_0 h
theorem ok_handleCode_55_0 : ∀ {F W V H Y : List Int32} {J B T G v1 : Int32} {d2 d3 d4 : Slot} {res : Int32} {zk zp zq zr zs : List Int32} {zt zu zw : Int32} {zx : Int32}, f_handleCode_55 b t a f g F W V H Y J B T G v1 = some (res, zk, zp, zq, zr, zs, zt, zu, zw, zx) → OEnds own_P 33 55 [qr 1, qi v1, d2, d3, d4] [] (c0 :: bk0 ze R Q zg X F j I zd zf W V H Y C K b t k a f g Z za D z zh zi r U O zb zc J B T G po) (some (.int res), (c0 :: bk0 ze R Q zg X zk j I zd zf zp zq zr zs C K b t k a f g Z za D z zh zi r U O zb zc zt zu zw zx po), 0, 0) := by
  intro F W V H Y J B T G v1 d2 d3 d4 res zk zp zq zr zs zt zu zw zx h
  unfold f_handleCode_55 at h
  refine oa hm_33 3 60 [qr 1, qi v1, qu, qu, qu] [.int B, .int v1] rfl ?_
  by_cases hc52 : v1 < B
  · simp only [if_pos hc52] at h
    refine OEnds.icmpF hm_33 rfl ((tlt hc52).2.1) ?_
    refine oa hm_33 2 65 [qr 1, qi v1, qu, qu, qu] [.int v1, .ref 1] rfl ?_
    obtain ⟨r24, hq53, h⟩ := bnd h
    refine OEnds.call0 hm_33 rfl rfl (by decide) rfl (as := [.ref 1, .int v1]) (rest := []) rfl rfl (ok_lengthOf_0 hq53) ?_
    refine ob hm_33 7 79 [qr 1, qi v1, qu, qi r24, qu] [.int b, .int (G + r24)] (c0 :: bk0 ze R Q zg X F j I zd zf W V H Y C K b t k a f g Z za D z zh zi r U O zb zc J B T G po) rfl ?_
    by_cases hc54 : b < (G + r24)
    · simp only [if_pos hc54] at h
      refine OEnds.icmpF hm_33 rfl ((tlt hc54).2.2.2) ?_
      refine oa hm_33 1 84 [qr 1, qi v1, qu, qi r24, qu] [.int (-7)] rfl ?_
      cases h
      exact OEnds.iret hm_33 rfl rfl
    · simp only [if_neg hc54] at h
      refine OEnds.icmpT hm_33 rfl (q := 85) rfl ((flt hc54).2.2.2) ?_
      refine oa hm_33 5 92 [qr 1, qi v1, qu, qi r24, qu] [.int r24, .int G, .int v1, .ref 1] rfl ?_
      obtain ⟨s25, hq55, h⟩ := bnd h
      refine OEnds.call0 hm_33 rfl rfl (by decide) rfl (as := [.ref 1, .int v1, .int G, .int r24]) (rest := []) rfl rfl (ok_writeString_0 hq55) ?_
      refine ob hm_33 8 107 [qr 1, qi v1, qu, qi r24, qu] [.int v1, .ref 1] (c0 :: bk0 ze R Q zg X s25 j I zd zf W V H Y C K b t k a f g Z za D z zh zi r U O zb zc J B T (G + r24) po) rfl ?_
      obtain ⟨r26, hq56, h⟩ := bnd h
      refine OEnds.call0 hm_33 rfl rfl (by decide) rfl (as := [.ref 1, .int v1]) (rest := []) rfl rfl (ok_firstOf_0 hq56) ?_
      refine ob hm_33 2 206 [qr 1, qi v1, qi r26, qi r24, qu] [] (c0 :: bk0 ze R Q zg X s25 j I zd zf W V H Y C K b t k a f g Z za D z zh zi r U O zb zc J B T (G + r24) po) rfl ?_
      exact ok_handleCode_206_0 h
  · simp only [if_neg hc52] at h
    refine OEnds.icmpT hm_33 rfl (q := 114) rfl ((flt hc52).2.1) ?_
    refine oa hm_33 3 119 [qr 1, qi v1, qu, qu, qu] [.int T, .ref 1] rfl ?_
    obtain ⟨r20, hq57, h⟩ := bnd h
    refine OEnds.call0 hm_33 rfl rfl (by decide) rfl (as := [.ref 1, .int T]) (rest := []) rfl rfl (ok_lengthOf_0 hq57) ?_
    refine ob hm_33 9 135 [qr 1, qi v1, qu, qi (r20 + 1), qu] [.int b, .int (G + (r20 + 1))] (c0 :: bk0 ze R Q zg X F j I zd zf W V H Y C K b t k a f g Z za D z zh zi r U O zb zc J B T G po) rfl ?_
    by_cases hc58 : b < (G + (r20 + 1))
    · simp only [if_pos hc58] at h
      refine OEnds.icmpF hm_33 rfl ((tlt hc58).2.2.2) ?_
      refine oa hm_33 1 140 [qr 1, qi v1, qu, qi (r20 + 1), qu] [.int (-7)] rfl ?_
      cases h
      exact OEnds.iret hm_33 rfl rfl
    · simp only [if_neg hc58] at h
      refine OEnds.icmpT hm_33 rfl (q := 141) rfl ((flt hc58).2.2.2) ?_
      refine oa hm_33 8 153 [qr 1, qi v1, qu, qi (r20 + 1), qu] [.int ((r20 + 1) - 1), .int G, .int T, .ref 1] rfl ?_
      obtain ⟨s21, hq59, h⟩ := bnd h
      refine OEnds.call0 hm_33 rfl rfl (by decide) rfl (as := [.ref 1, .int T, .int G, .int ((r20 + 1) - 1)]) (rest := []) rfl rfl (ok_writeString_0 hq59) ?_
      refine ob hm_33 3 161 [qr 1, qi v1, qu, qi (r20 + 1), qu] [.int T, .ref 1] (c0 :: bk0 ze R Q zg X s21 j I zd zf W V H Y C K b t k a f g Z za D z zh zi r U O zb zc J B T G po) rfl ?_
      obtain ⟨r22, hq60, h⟩ := bnd h
      refine OEnds.call0 hm_33 rfl rfl (by decide) rfl (as := [.ref 1, .int T]) (rest := []) rfl rfl (ok_firstOf_0 hq60) ?_
      refine ob hm_33 9 177 [qr 1, qi v1, qi r22, qi (r20 + 1), qi ((G + (r20 + 1)) - 1)] [.int ((G + (r20 + 1)) - 1)] (c0 :: bk0 ze R Q zg X s21 j I zd zf W V H Y C K b t k a f g Z za D z zh zi r U O zb zc J B T G po) rfl ?_
      by_cases hc61 : ((G + (r20 + 1)) - 1) < 0
      · simp only [if_pos hc61] at h
        refine OEnds.ifT hm_33 rfl (q := 196) rfl ((tlt hc61).1) ?_
        refine oc 196 [qr 1, qi v1, qi r22, qi (r20 + 1), qi ((G + (r20 + 1)) - 1)] [] ?_
        exact ok_handleCode_196_0 h
      · simp only [if_neg hc61] at h
        refine OEnds.ifF hm_33 rfl ((flt hc61).1) ?_
        refine oa hm_33 2 185 [qr 1, qi v1, qi r22, qi (r20 + 1), qi ((G + (r20 + 1)) - 1)] [.int 256, .int ((G + (r20 + 1)) - 1)] rfl ?_
        by_cases hc62 : ((G + (r20 + 1)) - 1) < 256
        · simp only [if_pos hc62] at h
          refine OEnds.icmpF hm_33 rfl ((tlt hc62).2.1) ?_
          refine oa hm_33 4 195 [qr 1, qi v1, qi r22, qi (r20 + 1), qi ((G + (r20 + 1)) - 1)] [.int r22, .int ((G + (r20 + 1)) - 1), .ref 7] rfl ?_
          obtain ⟨A23, hA23, h⟩ := bnd h
          refine OEnds.plain hm_33 rfl rfl (x_iastore rfl (Nat.le_of_ble_eq_true rfl) hA23) ?_
          show OEnds own_P 33 196 [qr 1, qi v1, qi r22, qi (r20 + 1), qi ((G + (r20 + 1)) - 1)] [] (c0 :: bk0 ze R Q zg X A23 j I zd zf W V H Y C K b t k a f g Z za D z zh zi r U O zb zc J B T G po) _
          exact ok_handleCode_196_0 h
        · simp only [if_neg hc62] at h
          refine OEnds.icmpT hm_33 rfl (q := 196) rfl ((flt hc62).2.1) ?_
          refine oc 196 [qr 1, qi v1, qi r22, qi (r20 + 1), qi ((G + (r20 + 1)) - 1)] [] ?_
          exact ok_handleCode_196_0 h
theorem ok_handleCode_36_0 : ∀ {F W V H Y : List Int32} {J B T G v1 : Int32} {d2 d3 d4 : Slot} {res : Int32} {zk zp zq zr zs : List Int32} {zt zu zw : Int32} {zx : Int32}, f_handleCode_36 b t a f g F W V H Y J B T G v1 = some (res, zk, zp, zq, zr, zs, zt, zu, zw, zx) → OEnds own_P 33 36 [qr 1, qi v1, d2, d3, d4] [] (c0 :: bk0 ze R Q zg X F j I zd zf W V H Y C K b t k a f g Z za D z zh zi r U O zb zc J B T G po) (some (.int res), (c0 :: bk0 ze R Q zg X zk j I zd zf zp zq zr zs C K b t k a f g Z za D z zh zi r U O zb zc zt zu zw zx po), 0, 0) := by
  intro F W V H Y J B T G v1 d2 d3 d4 res zk zp zq zr zs zt zu zw zx h
  unfold f_handleCode_36 at h
  refine oa hm_33 3 41 [qr 1, qi v1, qu, qu, qu] [.int a, .int v1] rfl ?_
  by_cases hc63 : v1 < a
  · simp only [if_pos hc63] at h
    refine OEnds.icmpF hm_33 rfl ((tlt hc63).2.1) ?_
    refine oa hm_33 3 49 [qr 1, qi v1, qu, qu, qu] [.int t, .int v1] rfl ?_
    by_cases hc64 : v1 < t
    · simp only [if_pos hc64] at h
      refine OEnds.icmpT hm_33 rfl (q := 55) rfl ((tlt hc64).1) ?_
      refine oc 55 [qr 1, qi v1, qu, qu, qu] [] ?_
      exact ok_handleCode_55_0 h
    · simp only [if_neg hc64] at h
      refine OEnds.icmpF hm_33 rfl ((flt hc64).1) ?_
      refine oa hm_33 1 54 [qr 1, qi v1, qu, qu, qu] [.int (-6)] rfl ?_
      cases h
      exact OEnds.iret hm_33 rfl rfl
  · simp only [if_neg hc63] at h
    refine OEnds.icmpT hm_33 rfl (q := 55) rfl ((flt hc63).2.1) ?_
    refine oc 55 [qr 1, qi v1, qu, qu, qu] [] ?_
    exact ok_handleCode_55_0 h
theorem ok_handleCode_18_0 : ∀ {F W V H Y : List Int32} {J B T G v1 : Int32} {d2 d3 d4 : Slot} {res : Int32} {zk zp zq zr zs : List Int32} {zt zu zw : Int32} {zx : Int32}, f_handleCode_18 b t a f g F W V H Y J B T G v1 = some (res, zk, zp, zq, zr, zs, zt, zu, zw, zx) → OEnds own_P 33 18 [qr 1, qi v1, d2, d3, d4] [] (c0 :: bk0 ze R Q zg X F j I zd zf W V H Y C K b t k a f g Z za D z zh zi r U O zb zc J B T G po) (some (.int res), (c0 :: bk0 ze R Q zg X zk j I zd zf zp zq zr zs C K b t k a f g Z za D z zh zi r U O zb zc zt zu zw zx po), 0, 0) := by
  intro F W V H Y J B T G v1 d2 d3 d4 res zk zp zq zr zs zt zu zw zx h
  unfold f_handleCode_18 at h
  refine oa hm_33 2 22 [qr 1, qi v1, qu, qu, qu] [.int T] rfl ?_
  by_cases hc65 : T < 0
  · simp only [if_pos hc65] at h
    refine OEnds.ifT hm_33 rfl (q := 36) rfl ((tlt hc65).1) ?_
    refine oc 36 [qr 1, qi v1, qu, qu, qu] [] ?_
    exact ok_handleCode_36_0 h
  · simp only [if_neg hc65] at h
    refine OEnds.ifF hm_33 rfl ((flt hc65).1) ?_
    refine oa hm_33 3 30 [qr 1, qi v1, qu, qu, qu] [.int B, .int v1] rfl ?_
    by_cases hc66 : B < v1
    · simp only [if_pos hc66] at h
      refine OEnds.icmpF hm_33 rfl ((tlt hc66).2.2.2) ?_
      refine oa hm_33 1 35 [qr 1, qi v1, qu, qu, qu] [.int (-5)] rfl ?_
      cases h
      exact OEnds.iret hm_33 rfl rfl
    · simp only [if_neg hc66] at h
      refine OEnds.icmpT hm_33 rfl (q := 36) rfl ((flt hc66).2.2.2) ?_
      refine oc 36 [qr 1, qi v1, qu, qu, qu] [] ?_
      exact ok_handleCode_36_0 h
theorem ok_handleCode_0 {v1 res : Int32} (h : f_handleCode b t a f g F W V H Y J B T G v1 = some (res, zk, zp, zq, zr, zs, zt, zu, zw, zx)) : OEnds own_P 33 0 [qr 1, qi v1, qu, qu, qu] [] (c0 :: bk0 ze R Q zg X F j I zd zf W V H Y C K b t k a f g Z za D z zh zi r U O zb zc J B T G po) (some (.int res), (c0 :: bk0 ze R Q zg X zk j I zd zf zp zq zr zs C K b t k a f g Z za D z zh zi r U O zb zc zt zu zw zx po), 0, 0) := by
  unfold f_handleCode at h
  refine oa hm_33 2 4 [qr 1, qi v1, qu, qu, qu] [.int T] rfl ?_
  by_cases hc67 : T < 0
  · simp only [if_pos hc67] at h
    refine OEnds.ifF hm_33 rfl ((tlt hc67).2.1) ?_
    refine oa hm_33 3 12 [qr 1, qi v1, qu, qu, qu] [.int a, .int v1] rfl ?_
    by_cases hc68 : v1 < a
    · simp only [if_pos hc68] at h
      refine OEnds.icmpT hm_33 rfl (q := 18) rfl ((tlt hc68).1) ?_
      refine oc 18 [qr 1, qi v1, qu, qu, qu] [] ?_
      exact ok_handleCode_18_0 h
    · simp only [if_neg hc68] at h
      refine OEnds.icmpF hm_33 rfl ((flt hc68).1) ?_
      refine oa hm_33 1 17 [qr 1, qi v1, qu, qu, qu] [.int (-5)] rfl ?_
      cases h
      exact OEnds.iret hm_33 rfl rfl
  · simp only [if_neg hc67] at h
    refine OEnds.ifT hm_33 rfl (q := 18) rfl ((flt hc67).2.1) ?_
    refine oc 18 [qr 1, qi v1, qu, qu, qu] [] ?_
    exact ok_handleCode_18_0 h
theorem ok_decompress_45_0 : ∀ (n : Nat), ∀ {F W V H Y : List Int32} {zc J B T G v1 v2 : Int32} {d3 d4 : Slot} {res : Int32} {zk zp zq zr zs : List Int32} {yd zt zu zw : Int32} {zx : Int32}, f_decompress_45 j b t k a f g zb n F W V H Y zc J B T G v1 v2 = some (res, zk, zp, zq, zr, zs, yd, zt, zu, zw, zx) → OEnds own_P 31 45 [qr 1, qi v1, qi v2, d3, d4] [] (c0 :: bk0 ze R Q zg X F j I zd zf W V H Y C K b t k a f g Z za D z zh zi r U O zb zc J B T G po) (some (.int res), (c0 :: bk0 ze R Q zg X zk j I zd zf zp zq zr zs C K b t k a f g Z za D z zh zi r U O zb yd zt zu zw zx po), 0, 0) := by
  intro n
  induction n with
  | zero => intro F W V H Y zc J B T G v1 v2 d3 d4 res zk zp zq zr zs yd zt zu zw zx h; cases h
  | succ n ih =>
    intro F W V H Y zc J B T G v1 v2 d3 d4 res zk zp zq zr zs yd zt zu zw zx h
    unfold f_decompress_45 at h
    refine ob hm_31 2 49 [qr 1, qi v1, qi v2, qu, qu] [.int 5000, .int v2] (c0 :: bk0 ze R Q zg X F j I zd zf W V H Y C K b t k a f g Z za D z zh zi r U O zb zc J B T G po) rfl ?_
    by_cases hc69 : v2 < 5000
    · simp only [if_pos hc69] at h
      refine OEnds.icmpF hm_31 rfl ((tlt hc69).2.1) ?_
      refine oa hm_31 6 62 [qr 1, qi v1, qi v2, qu, qu] [.int J, .int (v1 - zc)] rfl ?_
      by_cases hc70 : (v1 - zc) < J
      · simp only [if_pos hc70] at h
        refine OEnds.icmpF hm_31 rfl ((tlt hc70).2.1) ?_
        refine oa hm_31 1 67 [qr 1, qi v1, qi v2, qu, qu] [.int (-4)] rfl ?_
        cases h
        exact OEnds.iret hm_31 rfl rfl
      · simp only [if_neg hc70] at h
        refine OEnds.icmpT hm_31 rfl (q := 68) rfl ((flt hc70).2.1) ?_
        refine oa hm_31 1 69 [qr 1, qi v1, qi v2, qu, qu] [.ref 1] rfl ?_
        obtain ⟨⟨r33, s34⟩, hq71, h⟩ := bnd h
        refine OEnds.call0 hm_31 rfl rfl (by decide) rfl (as := [.ref 1]) (rest := []) rfl rfl (ok_readCode_0 hq71) ?_
        refine ob hm_31 4 78 [qr 1, qi v1, qi v2, qi r33, qu] [.int a, .int r33] (c0 :: bk0 ze R Q zg X F j I zd zf W V H Y C K b t k a f g Z za D z zh zi r U O zb s34 J B T G po) rfl ?_
        by_cases hc72 : r33 = a
        · simp only [if_pos hc72] at h
          refine OEnds.icmpF hm_31 rfl ((teq hc72).2) ?_
          refine ob hm_31 18 45 [qr 1, qi v1, qi (v2 + 1), qi r33, qu] [] (c0 :: bk0 ze R Q zg X F j I zd zf W V H Y C K b t k a f g Z za D z zh zi r U O zb s34 (k + 1) (a + 2) (-1) G po) rfl ?_
          exact ih h
        · simp only [if_neg hc72] at h
          refine OEnds.icmpT hm_31 rfl (q := 109) rfl ((feq hc72).2) ?_
          refine oa hm_31 5 116 [qr 1, qi v1, qi v2, qi r33, qu] [.int (a + 1), .int r33] rfl ?_
          by_cases hc73 : r33 = (a + 1)
          · simp only [if_pos hc73] at h
            refine OEnds.icmpF hm_31 rfl ((teq hc73).2) ?_
            refine oa hm_31 1 120 [qr 1, qi v1, qi v2, qi r33, qu] [.int 0] rfl ?_
            cases h
            exact OEnds.iret hm_31 rfl rfl
          · simp only [if_neg hc73] at h
            refine OEnds.icmpT hm_31 rfl (q := 121) rfl ((feq hc73).2) ?_
            refine oa hm_31 2 123 [qr 1, qi v1, qi v2, qi r33, qu] [.int r33, .ref 1] rfl ?_
            obtain ⟨⟨r35, s36, s37, s38, s39, s40, s41, s42, s43, s44⟩, hq74, h⟩ := bnd h
            refine OEnds.call0 hm_31 rfl rfl (by decide) rfl (as := [.ref 1, .int r33]) (rest := []) rfl rfl (ok_handleCode_0 hq74) ?_
            refine ob hm_31 2 130 [qr 1, qi v1, qi v2, qi r33, qi r35] [.int r35] (c0 :: bk0 ze R Q zg X s36 j I zd zf s37 s38 s39 s40 C K b t k a f g Z za D z zh zi r U O zb s34 s41 s42 s43 s44 po) rfl ?_
            by_cases hc75 : r35 = 0
            · simp only [if_pos hc75] at h
              refine OEnds.ifT hm_31 rfl (q := 136) rfl ((teq hc75).1) ?_
              refine oa hm_31 2 45 [qr 1, qi v1, qi (v2 + 1), qi r33, qi r35] [] rfl ?_
              exact ih h
            · simp only [if_neg hc75] at h
              refine OEnds.ifF hm_31 rfl ((feq hc75).1) ?_
              refine oa hm_31 1 135 [qr 1, qi v1, qi v2, qi r33, qi r35] [.int r35] rfl ?_
              cases h
              exact OEnds.iret hm_31 rfl rfl
    · simp only [if_neg hc69] at h
      refine OEnds.icmpT hm_31 rfl (q := 142) rfl ((flt hc69).2.1) ?_
      refine oa hm_31 1 144 [qr 1, qi v1, qi v2, qu, qu] [.int (-4)] rfl ?_
      cases h
      exact OEnds.iret hm_31 rfl rfl
theorem ok_decompress_0 {res : Int32} (h : f_decompress j b t k a f g zb F W V H Y zc J B T G = some (res, zk, zp, zq, zr, zs, yd, zt, zu, zw, zx)) : OEnds own_P 31 0 [qr 1, qu, qu, qu, qu] [] (c0 :: bk0 ze R Q zg X F j I zd zf W V H Y C K b t k a f g Z za D z zh zi r U O zb zc J B T G po) (some (.int res), (c0 :: bk0 ze R Q zg X zk j I zd zf zp zq zr zs C K b t k a f g Z za D z zh zi r U O zb yd zt zu zw zx po), 0, 0) := by
  unfold f_decompress at h
  refine ob hm_31 28 45 [qr 1, qi (zb * 8), qi 0, qu, qu] [] (c0 :: bk0 ze R Q zg X F j I zd zf W V H Y C K b t k a f g Z za D z zh zi r U O zb 0 (k + 1) (a + 2) (-1) 0 po) rfl ?_
  exact ok_decompress_45_0 100000 h
theorem ok_decodeSteps_0 {res : Int32} (h : f_decodeSteps Q b t k a f g z F j W V H Y zb zc J B T G = some (res, zk, zj, zp, zq, zr, zs, yc, yd, zt, zu, zw, zx)) : OEnds own_P 13 0 [qr 1, qu] [] (c0 :: bk0 ze R Q zg X F j I zd zf W V H Y C K b t k a f g Z za D z zh zi r U O zb zc J B T G po) (some (.int res), (c0 :: bk0 ze R Q zg X zk zj I zd zf zp zq zr zs C K b t k a f g Z za D z zh zi r U O yc yd zt zu zw zx po), 0, 0) := by
  unfold f_decodeSteps at h
  refine oa hm_13 2 4 [qr 1, qu] [.int z] rfl ?_
  by_cases hc76 : z = 0
  · simp only [if_pos hc76] at h
    refine OEnds.ifF hm_13 rfl ((teq hc76).2) ?_
    refine oa hm_13 1 8 [qr 1, qu] [.int (-1)] rfl ?_
    cases h
    exact OEnds.iret hm_13 rfl rfl
  · simp only [if_neg hc76] at h
    refine OEnds.ifT hm_13 rfl (q := 9) rfl ((feq hc76).2) ?_
    refine oa hm_13 3 14 [qr 1, qu] [.int 0, .ref 4] rfl ?_
    obtain ⟨x45, hx45, h⟩ := bnd h
    refine OEnds.plain hm_13 rfl rfl (x_iaload rfl hx45) ?_
    refine ob hm_13 2 19 [qr 1, qu] [.int k, .int x45] (c0 :: bk0 ze R Q zg X F j I zd zf W V H Y C K b t k a f g Z za D z zh zi r U O zb zc J B T G po) rfl ?_
    by_cases hc77 : x45 = k
    · simp only [if_pos hc77] at h
      refine OEnds.icmpT hm_13 rfl (q := 25) rfl ((teq hc77).1) ?_
      refine oa hm_13 1 26 [qr 1, qu] [.ref 1] rfl ?_
      obtain ⟨⟨r46, s47, s48⟩, hq78, h⟩ := bnd h
      refine OEnds.call0 hm_13 rfl rfl (by decide) rfl (as := [.ref 1]) (rest := []) rfl rfl (ok_gatherBlocks_0 hq78) ?_
      show OEnds own_P 13 29 [qr 1, qu] [.int r46] (c0 :: bk0 ze R Q zg X F s47 I zd zf W V H Y C K b t k a f g Z za D z zh zi r U O s48 zc J B T G po) _
      by_cases hc79 : r46 = 0
      · simp only [if_pos hc79] at h
        refine OEnds.ifF hm_13 rfl ((teq hc79).2) ?_
        refine oa hm_13 1 34 [qr 1, qu] [.int (-3)] rfl ?_
        cases h
        exact OEnds.iret hm_13 rfl rfl
      · simp only [if_neg hc79] at h
        refine OEnds.ifT hm_13 rfl (q := 35) rfl ((feq hc79).2) ?_
        refine oa hm_13 1 36 [qr 1, qu] [.ref 1] rfl ?_
        obtain ⟨⟨r49, s50, s51, s52, s53, s54, s55, s56, s57, s58, s59⟩, hq80, h⟩ := bnd h
        refine OEnds.call0 hm_13 rfl rfl (by decide) rfl (as := [.ref 1]) (rest := []) rfl rfl (ok_decompress_0 hq80) ?_
        refine ob hm_13 2 41 [qr 1, qi r49] [.int r49] (c0 :: bk0 ze R Q zg X s50 s47 I zd zf s51 s52 s53 s54 C K b t k a f g Z za D z zh zi r U O s48 s55 s56 s57 s58 s59 po) rfl ?_
        by_cases hc81 : r49 = 0
        · simp only [if_pos hc81] at h
          refine OEnds.ifT hm_13 rfl (q := 46) rfl ((teq hc81).1) ?_
          refine oa hm_13 4 54 [qr 1, qi r49] [.int b, .int s59] rfl ?_
          by_cases hc82 : s59 < b
          · simp only [if_pos hc82] at h
            refine OEnds.icmpF hm_13 rfl ((tlt hc82).2.1) ?_
            refine oa hm_13 1 59 [qr 1, qi r49] [.int (-8)] rfl ?_
            cases h
            exact OEnds.iret hm_13 rfl rfl
          · simp only [if_neg hc82] at h
            refine OEnds.icmpT hm_13 rfl (q := 60) rfl ((flt hc82).2.1) ?_
            refine oa hm_13 1 61 [qr 1, qi r49] [.int 0] rfl ?_
            cases h
            exact OEnds.iret hm_13 rfl rfl
        · simp only [if_neg hc81] at h
          refine OEnds.ifF hm_13 rfl ((feq hc81).1) ?_
          refine oa hm_13 1 45 [qr 1, qi r49] [.int r49] rfl ?_
          cases h
          exact OEnds.iret hm_13 rfl rfl
    · simp only [if_neg hc77] at h
      refine OEnds.icmpF hm_13 rfl ((feq hc77).1) ?_
      refine oa hm_13 1 24 [qr 1, qu] [.int (-2)] rfl ?_
      cases h
      exact OEnds.iret hm_13 rfl rfl
theorem ok_addRows_36_0 {kb : List Int32 → Int32 → Int32 → Int32 → Option (Int32 × List Int32)} (hkb : ∀ {X : List Int32} {v3 v4 v5 : Int32} {d1 d2 : Slot} {res : Int32} {zo : List Int32}, kb X v3 v4 v5 = some (res, zo) → OEnds own_P 29 6 [qr 1, d1, d2, qi v3, qi v4, qi v5] [] (c0 :: bk0 ze R Q zg X F j I zd zf W V H Y C K b t k a f g Z za D z zh zi r U O zb zc J B T G po) (some (.int res), (c0 :: bk0 ze R Q zg zo F j I zd zf W V H Y C K b t k a f g Z za D z zh zi r U O zb zc J B T G po), 0, 0)) : ∀ {X : List Int32} {v3 v4 v5 : Int32} {d1 d2 : Slot} {res : Int32} {zo : List Int32}, f_addRows_36 kb K X v3 v4 v5 = some (res, zo) → OEnds own_P 29 36 [qr 1, d1, d2, qi v3, qi v4, qi v5] [] (c0 :: bk0 ze R Q zg X F j I zd zf W V H Y C K b t k a f g Z za D z zh zi r U O zb zc J B T G po) (some (.int res), (c0 :: bk0 ze R Q zg zo F j I zd zf W V H Y C K b t k a f g Z za D z zh zi r U O zb zc J B T G po), 0, 0) := by
  intro X v3 v4 v5 d1 d2 res zo h
  unfold f_addRows_36 at h
  refine oa hm_29 6 6 [qr 1, qu, qu, qi v3, qi (v4 + 1), qi (v5 + v3)] [] rfl ?_
  exact hkb h
theorem ok_addRows_6_0 : ∀ (n : Nat), ∀ {X : List Int32} {v3 v4 v5 : Int32} {d1 d2 : Slot} {res : Int32} {zo : List Int32}, f_addRows_6 K n X v3 v4 v5 = some (res, zo) → OEnds own_P 29 6 [qr 1, d1, d2, qi v3, qi v4, qi v5] [] (c0 :: bk0 ze R Q zg X F j I zd zf W V H Y C K b t k a f g Z za D z zh zi r U O zb zc J B T G po) (some (.int res), (c0 :: bk0 ze R Q zg zo F j I zd zf W V H Y C K b t k a f g Z za D z zh zi r U O zb zc J B T G po), 0, 0) := by
  intro n
  induction n with
  | zero => intro X v3 v4 v5 d1 d2 res zo h; cases h
  | succ n ih =>
    intro X v3 v4 v5 d1 d2 res zo h
    unfold f_addRows_6 at h
    refine ob hm_29 3 12 [qr 1, qu, qu, qi v3, qi v4, qi v5] [.int K, .int v5] (c0 :: bk0 ze R Q zg X F j I zd zf W V H Y C K b t k a f g Z za D z zh zi r U O zb zc J B T G po) rfl ?_
    by_cases hc83 : v5 < K
    · simp only [if_pos hc83] at h
      refine OEnds.icmpF hm_29 rfl ((tlt hc83).2.1) ?_
      refine oa hm_29 1 17 [qr 1, qu, qu, qi v3, qi v4, qi v5] [.int v4] rfl ?_
      by_cases hc84 : v4 < 0
      · simp only [if_pos hc84] at h
        refine OEnds.ifT hm_29 rfl (q := 36) rfl ((tlt hc84).1) ?_
        refine oc 36 [qr 1, qu, qu, qi v3, qi v4, qi v5] [] ?_
        exact ok_addRows_36_0 ih h
      · simp only [if_neg hc84] at h
        refine OEnds.ifF hm_29 rfl ((flt hc84).1) ?_
        refine oa hm_29 2 24 [qr 1, qu, qu, qi v3, qi v4, qi v5] [.int 16, .int v4] rfl ?_
        by_cases hc85 : v4 < 16
        · simp only [if_pos hc85] at h
          refine OEnds.icmpF hm_29 rfl ((tlt hc85).2.1) ?_
          refine oa hm_29 4 35 [qr 1, qu, qu, qi v3, qi v4, qi v5] [.int v5, .int v4, .ref 6] rfl ?_
          obtain ⟨A60, hA60, h⟩ := bnd h
          refine OEnds.plain hm_29 rfl rfl (x_iastore rfl (Nat.le_of_ble_eq_true rfl) hA60) ?_
          show OEnds own_P 29 36 [qr 1, qu, qu, qi v3, qi v4, qi v5] [] (c0 :: bk0 ze R Q zg A60 F j I zd zf W V H Y C K b t k a f g Z za D z zh zi r U O zb zc J B T G po) _
          exact ok_addRows_36_0 ih h
        · simp only [if_neg hc85] at h
          refine OEnds.icmpT hm_29 rfl (q := 36) rfl ((flt hc85).2.1) ?_
          refine oc 36 [qr 1, qu, qu, qi v3, qi v4, qi v5] [] ?_
          exact ok_addRows_36_0 ih h
    · simp only [if_neg hc83] at h
      refine OEnds.icmpT hm_29 rfl (q := 48) rfl ((flt hc83).2.1) ?_
      refine oa hm_29 1 50 [qr 1, qu, qu, qi v3, qi v4, qi v5] [.int v4] rfl ?_
      cases h
      exact OEnds.iret hm_29 rfl rfl
theorem ok_addRows_0 {v1 v2 v3 res : Int32} (h : f_addRows K X v1 v2 v3 = some (res, zo)) : OEnds own_P 29 0 [qr 1, qi v1, qi v2, qi v3, qu, qu] [] (c0 :: bk0 ze R Q zg X F j I zd zf W V H Y C K b t k a f g Z za D z zh zi r U O zb zc J B T G po) (some (.int res), (c0 :: bk0 ze R Q zg zo F j I zd zf W V H Y C K b t k a f g Z za D z zh zi r U O zb zc J B T G po), 0, 0) := by
  unfold f_addRows at h
  refine oa hm_29 4 6 [qr 1, qi v1, qi v2, qi v3, qi v1, qi v2] [] rfl ?_
  exact ok_addRows_6_0 100000 h
theorem ok_buildRowOrder_9_0 : ∀ (n : Nat), ∀ {X : List Int32} {v1 : Int32} {zo : List Int32}, f_buildRowOrder_9 K Z n X v1 = some zo → OEnds own_P 19 9 [qr 1, qi v1] [] (c0 :: bk0 ze R Q zg X F j I zd zf W V H Y C K b t k a f g Z za D z zh zi r U O zb zc J B T G po) (none, (c0 :: bk0 ze R Q zg zo F j I zd zf W V H Y C K b t k a f g Z za D z zh zi r U O zb zc J B T G po), 0, 0) := by
  intro n
  induction n with
  | zero => intro X v1 zo h; cases h
  | succ n ih =>
    intro X v1 zo h
    unfold f_buildRowOrder_9 at h
    refine ob hm_19 3 14 [qr 1, qi v1] [.int K, .int v1] (c0 :: bk0 ze R Q zg X F j I zd zf W V H Y C K b t k a f g Z za D z zh zi r U O zb zc J B T G po) rfl ?_
    by_cases hc86 : v1 < K
    · simp only [if_pos hc86] at h
      refine OEnds.icmpF hm_19 rfl ((tlt hc86).2.1) ?_
      refine oa hm_19 2 20 [qr 1, qi v1] [.int 16, .int v1] rfl ?_
      by_cases hc87 : v1 < 16
      · simp only [if_pos hc87] at h
        refine OEnds.icmpF hm_19 rfl ((tlt hc87).2.1) ?_
        refine oa hm_19 4 29 [qr 1, qi v1] [.int v1, .int v1, .ref 6] rfl ?_
        obtain ⟨A69, hA69, h⟩ := bnd h
        refine OEnds.plain hm_19 rfl rfl (x_iastore rfl (Nat.le_of_ble_eq_true rfl) hA69) ?_
        refine ob hm_19 2 9 [qr 1, qi (v1 + 1)] [] (c0 :: bk0 ze R Q zg A69 F j I zd zf W V H Y C K b t k a f g Z za D z zh zi r U O zb zc J B T G po) rfl ?_
        exact ih h
      · simp only [if_neg hc87] at h
        refine OEnds.icmpT hm_19 rfl (q := 36) rfl ((flt hc87).2.1) ?_
        refine oc 36 [qr 1, qi v1] [] ?_
        cases h
        exact OEnds.vret hm_19 rfl rfl
    · simp only [if_neg hc86] at h
      refine OEnds.icmpT hm_19 rfl (q := 36) rfl ((flt hc86).2.1) ?_
      refine oc 36 [qr 1, qi v1] [] ?_
      cases h
      exact OEnds.vret hm_19 rfl rfl
theorem ok_buildRowOrder_0 (h : f_buildRowOrder K Z X = some zo) : OEnds own_P 19 0 [qr 1, qu] [] (c0 :: bk0 ze R Q zg X F j I zd zf W V H Y C K b t k a f g Z za D z zh zi r U O zb zc J B T G po) (none, (c0 :: bk0 ze R Q zg zo F j I zd zf W V H Y C K b t k a f g Z za D z zh zi r U O zb zc J B T G po), 0, 0) := by
  unfold f_buildRowOrder at h
  refine oa hm_19 2 4 [qr 1, qu] [.int Z] rfl ?_
  by_cases hc88 : Z = 0
  · simp only [if_pos hc88] at h
    refine OEnds.ifF hm_19 rfl ((teq hc88).2) ?_
    refine oa hm_19 2 9 [qr 1, qi 0] [] rfl ?_
    exact ok_buildRowOrder_9_0 100000 h
  · simp only [if_neg hc88] at h
    refine OEnds.ifT hm_19 rfl (q := 37) rfl ((feq hc88).2) ?_
    refine oa hm_19 4 42 [qr 1, qu] [.int 8, .int 0, .int 0, .ref 1] rfl ?_
    obtain ⟨⟨r61, s62⟩, hq89, h⟩ := bnd h
    refine OEnds.call0 hm_19 rfl rfl (by decide) rfl (as := [.ref 1, .int 0, .int 0, .int 8]) (rest := []) rfl rfl (ok_addRows_0 hq89) ?_
    refine ob hm_19 5 51 [qr 1, qi r61] [.int 8, .int 4, .int r61, .ref 1] (c0 :: bk0 ze R Q zg s62 F j I zd zf W V H Y C K b t k a f g Z za D z zh zi r U O zb zc J B T G po) rfl ?_
    obtain ⟨⟨r63, s64⟩, hq90, h⟩ := bnd h
    refine OEnds.call0 hm_19 rfl rfl (by decide) rfl (as := [.ref 1, .int r61, .int 4, .int 8]) (rest := []) rfl rfl (ok_addRows_0 hq90) ?_
    refine ob hm_19 5 59 [qr 1, qi r63] [.int 4, .int 2, .int r63, .ref 1] (c0 :: bk0 ze R Q zg s64 F j I zd zf W V H Y C K b t k a f g Z za D z zh zi r U O zb zc J B T G po) rfl ?_
    obtain ⟨⟨r65, s66⟩, hq91, h⟩ := bnd h
    refine OEnds.call0 hm_19 rfl rfl (by decide) rfl (as := [.ref 1, .int r63, .int 2, .int 4]) (rest := []) rfl rfl (ok_addRows_0 hq91) ?_
    refine ob hm_19 5 67 [qr 1, qi r65] [.int 2, .int 1, .int r65, .ref 1] (c0 :: bk0 ze R Q zg s66 F j I zd zf W V H Y C K b t k a f g Z za D z zh zi r U O zb zc J B T G po) rfl ?_
    obtain ⟨⟨r67, s68⟩, hq92, h⟩ := bnd h
    refine OEnds.call0 hm_19 rfl rfl (by decide) rfl (as := [.ref 1, .int r65, .int 1, .int 2]) (rest := []) rfl rfl (ok_addRows_0 hq92) ?_
    refine ob hm_19 1 71 [qr 1, qi r65] [] (c0 :: bk0 ze R Q zg s68 F j I zd zf W V H Y C K b t k a f g Z za D z zh zi r U O zb zc J B T G po) rfl ?_
    cases h
    exact OEnds.vret hm_19 rfl rfl
theorem ok_rasterOf_0 {v1 res : Int32} (h : f_rasterOf X C v1 = some res) : OEnds own_P 20 0 [qr 1, qi v1, qu, qu] [] (c0 :: bk0 ze R Q zg X F j I zd zf W V H Y C K b t k a f g Z za D z zh zi r U O zb zc J B T G po) (some (.int res), (c0 :: bk0 ze R Q zg X F j I zd zf W V H Y C K b t k a f g Z za D z zh zi r U O zb zc J B T G po), 0, 0) := by
  unfold f_rasterOf at h
  refine oa hm_20 3 5 [qr 1, qi v1, qu, qu] [.int C, .int v1] rfl ?_
  by_cases hz93 : C = 0
  · simp only [if_pos hz93] at h
    cases h
  simp only [if_neg hz93] at h
  refine OEnds.plain hm_20 rfl rfl (x_idiv hz93) ?_
  refine ob hm_20 4 12 [qr 1, qi v1, qi (v1 / C), qu] [.int C, .int v1] (c0 :: bk0 ze R Q zg X F j I zd zf W V H Y C K b t k a f g Z za D z zh zi r U O zb zc J B T G po) rfl ?_
  refine OEnds.plain hm_20 rfl rfl (x_irem hz93) ?_
  refine ob hm_20 2 15 [qr 1, qi v1, qi (v1 / C), qi (v1 % C)] [.int (v1 / C)] (c0 :: bk0 ze R Q zg X F j I zd zf W V H Y C K b t k a f g Z za D z zh zi r U O zb zc J B T G po) rfl ?_
  by_cases hc94 : (v1 / C) < 0
  · simp only [if_pos hc94] at h
    refine OEnds.ifT hm_20 rfl (q := 24) rfl ((tlt hc94).1) ?_
    refine oa hm_20 1 25 [qr 1, qi v1, qi (v1 / C), qi (v1 % C)] [.int 0] rfl ?_
    cases h
    exact OEnds.iret hm_20 rfl rfl
  · simp only [if_neg hc94] at h
    refine OEnds.ifF hm_20 rfl ((flt hc94).1) ?_
    refine oa hm_20 2 21 [qr 1, qi v1, qi (v1 / C), qi (v1 % C)] [.int 16, .int (v1 / C)] rfl ?_
    by_cases hc95 : (v1 / C) < 16
    · simp only [if_pos hc95] at h
      refine OEnds.icmpT hm_20 rfl (q := 26) rfl ((tlt hc95).1) ?_
      refine oa hm_20 3 31 [qr 1, qi v1, qi (v1 / C), qi (v1 % C)] [.int (v1 / C), .ref 6] rfl ?_
      obtain ⟨x70, hx70, h⟩ := bnd h
      refine OEnds.plain hm_20 rfl rfl (x_iaload rfl hx70) ?_
      refine ob hm_20 5 39 [qr 1, qi v1, qi (v1 / C), qi (v1 % C)] [.int ((x70 * C) + (v1 % C))] (c0 :: bk0 ze R Q zg X F j I zd zf W V H Y C K b t k a f g Z za D z zh zi r U O zb zc J B T G po) rfl ?_
      cases h
      exact OEnds.iret hm_20 rfl rfl
    · simp only [if_neg hc95] at h
      refine OEnds.icmpF hm_20 rfl ((flt hc95).1) ?_
      refine oa hm_20 1 25 [qr 1, qi v1, qi (v1 / C), qi (v1 % C)] [.int 0] rfl ?_
      cases h
      exact OEnds.iret hm_20 rfl rfl
theorem ok_decode_63_0 : ∀ {zg X F j W V H Y : List Int32} {zh zi zb zc J B T G v1 : Int32} {d2 d3 : Slot} {res : Int32} {xs zo zk zj zp zq zr zs : List Int32} {xt xu yc yd zt zu zw : Int32} {zx : Int32}, f_decode_63 Q C K b t k a f g Z z zg X F j W V H Y zh zi zb zc J B T G v1 = some (res, xs, zo, zk, zj, zp, zq, zr, zs, xt, xu, yc, yd, zt, zu, zw, zx) → OEnds own_P 12 63 [qr 1, qi v1, d2, d3] [] (c0 :: bk0 ze R Q zg X F j I zd zf W V H Y C K b t k a f g Z za D z zh zi r U O zb zc J B T G po) (some (.int res), (c0 :: bk0 ze R Q xs zo zk zj I zd zf zp zq zr zs C K b t k a f g Z za D z xt xu r U O yc yd zt zu zw zx po), 0, 0) := by
  intro zg X F j W V H Y zh zi zb zc J B T G v1 d2 d3 res xs zo zk zj zp zq zr zs xt xu yc yd zt zu zw zx h
  unfold f_decode_63 at h
  refine ob hm_12 5 77 [qr 1, qi v1, qu, qu] [.int v1] (c0 :: bk0 ze R Q zg X F j I zd zf W V H Y C K b t k a f g Z za D z 1 zi r U O zb zc J B T G po) rfl ?_
  cases h
  exact OEnds.iret hm_12 rfl rfl
theorem ok_decode_20_0 {k63 : List Int32 → List Int32 → List Int32 → List Int32 → List Int32 → List Int32 → List Int32 → List Int32 → Int32 → Int32 → Int32 → Int32 → Int32 → Int32 → Int32 → Int32 → Int32 → Option (Int32 × List Int32 × List Int32 × List Int32 × List Int32 × List Int32 × List Int32 × List Int32 × List Int32 × Int32 × Int32 × Int32 × Int32 × Int32 × Int32 × Int32 × Int32)} (hk63 : ∀ {zg X F j W V H Y : List Int32} {zh zi zb zc J B T G v1 : Int32} {d2 d3 : Slot} {res : Int32} {xs zo zk zj zp zq zr zs : List Int32} {xt xu yc yd zt zu zw : Int32} {zx : Int32}, k63 zg X F j W V H Y zh zi zb zc J B T G v1 = some (res, xs, zo, zk, zj, zp, zq, zr, zs, xt, xu, yc, yd, zt, zu, zw, zx) → OEnds own_P 12 63 [qr 1, qi v1, d2, d3] [] (c0 :: bk0 ze R Q zg X F j I zd zf W V H Y C K b t k a f g Z za D z zh zi r U O zb zc J B T G po) (some (.int res), (c0 :: bk0 ze R Q xs zo zk zj I zd zf zp zq zr zs C K b t k a f g Z za D z xt xu r U O yc yd zt zu zw zx po), 0, 0)) : ∀ (n : Nat), ∀ {zg X F j W V H Y : List Int32} {zh zi zb zc J B T G v1 v2 : Int32} {d3 : Slot} {res : Int32} {xs zo zk zj zp zq zr zs : List Int32} {xt xu yc yd zt zu zw : Int32} {zx : Int32}, f_decode_20 k63 Q C K b t k a f g Z z n zg X F j W V H Y zh zi zb zc J B T G v1 v2 = some (res, xs, zo, zk, zj, zp, zq, zr, zs, xt, xu, yc, yd, zt, zu, zw, zx) → OEnds own_P 12 20 [qr 1, qi v1, qi v2, d3] [] (c0 :: bk0 ze R Q zg X F j I zd zf W V H Y C K b t k a f g Z za D z zh zi r U O zb zc J B T G po) (some (.int res), (c0 :: bk0 ze R Q xs zo zk zj I zd zf zp zq zr zs C K b t k a f g Z za D z xt xu r U O yc yd zt zu zw zx po), 0, 0) := by
  intro n
  induction n with
  | zero => intro zg X F j W V H Y zh zi zb zc J B T G v1 v2 d3 res xs zo zk zj zp zq zr zs xt xu yc yd zt zu zw zx h; cases h
  | succ n ih =>
    intro zg X F j W V H Y zh zi zb zc J B T G v1 v2 d3 res xs zo zk zj zp zq zr zs xt xu yc yd zt zu zw zx h
    unfold f_decode_20 at h
    refine ob hm_12 3 25 [qr 1, qi v1, qi v2, qu] [.int b, .int v2] (c0 :: bk0 ze R Q zg X F j I zd zf W V H Y C K b t k a f g Z za D z zh zi r U O zb zc J B T G po) rfl ?_
    by_cases hc96 : v2 < b
    · simp only [if_pos hc96] at h
      refine OEnds.icmpF hm_12 rfl ((tlt hc96).2.1) ?_
      refine oa hm_12 2 30 [qr 1, qi v1, qi v2, qu] [.int v2, .ref 1] rfl ?_
      obtain ⟨r85, hq97, h⟩ := bnd h
      refine OEnds.call0 hm_12 rfl rfl (by decide) rfl (as := [.ref 1, .int v2]) (rest := []) rfl rfl (ok_rasterOf_0 hq97) ?_
      refine ob hm_12 2 35 [qr 1, qi v1, qi v2, qi r85] [.int r85] (c0 :: bk0 ze R Q zg X F j I zd zf W V H Y C K b t k a f g Z za D z zh zi r U O zb zc J B T G po) rfl ?_
      by_cases hc98 : r85 < 0
      · simp only [if_pos hc98] at h
        refine OEnds.ifT hm_12 rfl (q := 57) rfl ((tlt hc98).1) ?_
        refine oa hm_12 2 20 [qr 1, qi v1, qi (v2 + 1), qi r85] [] rfl ?_
        exact ih h
      · simp only [if_neg hc98] at h
        refine OEnds.ifF hm_12 rfl ((flt hc98).1) ?_
        refine oa hm_12 2 42 [qr 1, qi v1, qi v2, qi r85] [.int 256, .int r85] rfl ?_
        by_cases hc99 : r85 < 256
        · simp only [if_pos hc99] at h
          refine OEnds.icmpF hm_12 rfl ((tlt hc99).2.1) ?_
          refine oa hm_12 6 55 [qr 1, qi v1, qi v2, qi r85] [.int v2, .ref 7, .int r85, .ref 5] rfl ?_
          obtain ⟨x86, hx86, h⟩ := bnd h
          refine OEnds.plain hm_12 rfl rfl (x_iaload rfl hx86) ?_
          show OEnds own_P 12 56 [qr 1, qi v1, qi v2, qi r85] [.int x86, .int r85, .ref 5] (c0 :: bk0 ze R Q zg X F j I zd zf W V H Y C K b t k a f g Z za D z zh zi r U O zb zc J B T G po) _
          obtain ⟨A87, hA87, h⟩ := bnd h
          refine OEnds.plain hm_12 rfl rfl (x_iastore rfl (Nat.le_of_ble_eq_true rfl) hA87) ?_
          refine ob hm_12 2 20 [qr 1, qi v1, qi (v2 + 1), qi r85] [] (c0 :: bk0 ze R Q A87 X F j I zd zf W V H Y C K b t k a f g Z za D z zh zi r U O zb zc J B T G po) rfl ?_
          exact ih h
        · simp only [if_neg hc99] at h
          refine OEnds.icmpT hm_12 rfl (q := 57) rfl ((flt hc99).2.1) ?_
          refine oa hm_12 2 20 [qr 1, qi v1, qi (v2 + 1), qi r85] [] rfl ?_
          exact ih h
    · simp only [if_neg hc96] at h
      refine OEnds.icmpT hm_12 rfl (q := 63) rfl ((flt hc96).2.1) ?_
      refine oc 63 [qr 1, qi v1, qi v2, qu] [] ?_
      exact hk63 h
theorem ok_decode_0 {res : Int32} (h : f_decode Q C K b t k a f g Z z zg X F j W V H Y zh zi zb zc J B T G = some (res, xs, zo, zk, zj, zp, zq, zr, zs, xt, xu, yc, yd, zt, zu, zw, zx)) : OEnds own_P 12 0 [qr 1, qu, qu, qu] [] (c0 :: bk0 ze R Q zg X F j I zd zf W V H Y C K b t k a f g Z za D z zh zi r U O zb zc J B T G po) (some (.int res), (c0 :: bk0 ze R Q xs zo zk zj I zd zf zp zq zr zs C K b t k a f g Z za D z xt xu r U O yc yd zt zu zw zx po), 0, 0) := by
  unfold f_decode at h
  refine oa hm_12 1 1 [qr 1, qu, qu, qu] [.ref 1] rfl ?_
  obtain ⟨⟨r71, s72, s73, s74, s75, s76, s77, s78, s79, s80, s81, s82, s83⟩, hq100, h⟩ := bnd h
  refine OEnds.call0 hm_12 rfl rfl (by decide) rfl (as := [.ref 1]) (rest := []) rfl rfl (ok_decodeSteps_0 hq100) ?_
  refine ob hm_12 5 11 [qr 1, qi r71, qu, qu] [.int r71] (c0 :: bk0 ze R Q zg X s72 s73 I zd zf s74 s75 s76 s77 C K b t k a f g Z za D z zh r71 r U O s78 s79 s80 s81 s82 s83 po) rfl ?_
  by_cases hc101 : r71 = 0
  · simp only [if_pos hc101] at h
    refine OEnds.ifF hm_12 rfl ((teq hc101).2) ?_
    refine oa hm_12 1 15 [qr 1, qi r71, qu, qu] [.ref 1] rfl ?_
    obtain ⟨s84, hq102, h⟩ := bnd h
    refine OEnds.call0 hm_12 rfl rfl (by decide) rfl (as := [.ref 1]) (rest := []) rfl rfl (ok_buildRowOrder_0 hq102) ?_
    refine ob hm_12 2 20 [qr 1, qi r71, qi 0, qu] [] (c0 :: bk0 ze R Q zg s84 s72 s73 I zd zf s74 s75 s76 s77 C K b t k a f g Z za D z zh r71 r U O s78 s79 s80 s81 s82 s83 po) rfl ?_
    exact ok_decode_20_0 (k63 := f_decode_63 Q C K b t k a f g Z z) ok_decode_63_0 100000 h
  · simp only [if_neg hc101] at h
    refine OEnds.ifT hm_12 rfl (q := 71) rfl ((feq hc101).2) ?_
    refine ob hm_12 4 77 [qr 1, qi r71, qu, qu] [.int r71] (c0 :: bk0 ze R Q zg X s72 s73 I zd zf s74 s75 s76 s77 C K b t k a f g Z za D z 0 r71 r U O s78 s79 s80 s81 s82 s83 po) rfl ?_
    cases h
    exact OEnds.iret hm_12 rfl rfl
theorem ok_setBlockSize_0 {v1 res : Int32} (h : f_setBlockSize za v1 = some (res, xw)) : OEnds own_P 5 0 [qr 1, qi v1] [] (c0 :: bk0 ze R Q zg X F j I zd zf W V H Y C K b t k a f g Z za D z zh zi r U O zb zc J B T G po) (some (.int res), (c0 :: bk0 ze R Q zg X F j I zd zf W V H Y C K b t k a f g Z xw D z zh zi r U O zb zc J B T G po), 0, 0) := by
  unfold f_setBlockSize at h
  refine oa hm_5 5 7 [qr 1, qi v1] [.int 255, .int 4, .int v1, .ref 1, .ref 1] rfl ?_
  obtain ⟨r88, hq103, h⟩ := bnd h
  refine OEnds.call0 hm_5 rfl rfl (by decide) rfl (as := [.ref 1, .int v1, .int 4, .int 255]) (rest := [.ref 1]) rfl rfl (ok_clamp_0 hq103) ?_
  refine ob hm_5 3 17 [qr 1, qi v1] [.int r88] (c0 :: bk0 ze R Q zg X F j I zd zf W V H Y C K b t k a f g Z r88 D z zh zi r U O zb zc J B T G po) rfl ?_
  cases h
  exact OEnds.iret hm_5 rfl rfl
theorem ok_setPixel_0 {v1 v2 res : Int32} (h : f_setPixel b t ze v1 v2 = some (res, xr)) : OEnds own_P 7 0 [qr 1, qi v1, qi v2] [] (c0 :: bk0 ze R Q zg X F j I zd zf W V H Y C K b t k a f g Z za D z zh zi r U O zb zc J B T G po) (some (.int res), (c0 :: bk0 xr R Q zg X F j I zd zf W V H Y C K b t k a f g Z za D z zh zi r U O zb zc J B T G po), 0, 0) := by
  unfold f_setPixel at h
  refine oa hm_7 1 1 [qr 1, qi v1, qi v2] [.int v1] rfl ?_
  by_cases hc104 : v1 < 0
  · simp only [if_pos hc104] at h
    refine OEnds.ifT hm_7 rfl (q := 24) rfl ((tlt hc104).1) ?_
    refine oa hm_7 1 25 [qr 1, qi v1, qi v2] [.int 0] rfl ?_
    cases h
    exact OEnds.iret hm_7 rfl rfl
  · simp only [if_neg hc104] at h
    refine OEnds.ifF hm_7 rfl ((flt hc104).1) ?_
    refine oa hm_7 3 9 [qr 1, qi v1, qi v2] [.int b, .int v1] rfl ?_
    by_cases hc105 : v1 < b
    · simp only [if_pos hc105] at h
      refine OEnds.icmpF hm_7 rfl ((tlt hc105).2.1) ?_
      refine oa hm_7 1 13 [qr 1, qi v1, qi v2] [.int v2] rfl ?_
      by_cases hc106 : v2 < 0
      · simp only [if_pos hc106] at h
        refine OEnds.ifT hm_7 rfl (q := 24) rfl ((tlt hc106).1) ?_
        refine oa hm_7 1 25 [qr 1, qi v1, qi v2] [.int 0] rfl ?_
        cases h
        exact OEnds.iret hm_7 rfl rfl
      · simp only [if_neg hc106] at h
        refine OEnds.ifF hm_7 rfl ((flt hc106).1) ?_
        refine oa hm_7 3 21 [qr 1, qi v1, qi v2] [.int t, .int v2] rfl ?_
        by_cases hc107 : v2 < t
        · simp only [if_pos hc107] at h
          refine OEnds.icmpT hm_7 rfl (q := 26) rfl ((tlt hc107).1) ?_
          refine oa hm_7 4 32 [qr 1, qi v1, qi v2] [.int v2, .int v1, .ref 2] rfl ?_
          obtain ⟨A89, hA89, h⟩ := bnd h
          refine OEnds.plain hm_7 rfl rfl (x_iastore rfl (Nat.le_of_ble_eq_true rfl) hA89) ?_
          refine ob hm_7 1 34 [qr 1, qi v1, qi v2] [.int 1] (c0 :: bk0 A89 R Q zg X F j I zd zf W V H Y C K b t k a f g Z za D z zh zi r U O zb zc J B T G po) rfl ?_
          cases h
          exact OEnds.iret hm_7 rfl rfl
        · simp only [if_neg hc107] at h
          refine OEnds.icmpF hm_7 rfl ((flt hc107).1) ?_
          refine oa hm_7 1 25 [qr 1, qi v1, qi v2] [.int 0] rfl ?_
          cases h
          exact OEnds.iret hm_7 rfl rfl
    · simp only [if_neg hc105] at h
      refine OEnds.icmpT hm_7 rfl (q := 24) rfl ((flt hc105).2.1) ?_
      refine oa hm_7 1 25 [qr 1, qi v1, qi v2] [.int 0] rfl ?_
      cases h
      exact OEnds.iret hm_7 rfl rfl
theorem ok_fill_46_0 : ∀ (n : Nat), ∀ {ze : List Int32} {v1 v2 v3 v4 res : Int32} {xr : List Int32}, f_fill_46 b t n ze v1 v2 v3 v4 = some (res, xr) → OEnds own_P 4 46 [qr 1, qi v1, qi v2, qi v3, qi v4] [] (c0 :: bk0 ze R Q zg X F j I zd zf W V H Y C K b t k a f g Z za D z zh zi r U O zb zc J B T G po) (some (.int res), (c0 :: bk0 xr R Q zg X F j I zd zf W V H Y C K b t k a f g Z za D z zh zi r U O zb zc J B T G po), 0, 0) := by
  intro n
  induction n with
  | zero => intro ze v1 v2 v3 v4 res xr h; cases h
  | succ n ih =>
    intro ze v1 v2 v3 v4 res xr h
    unfold f_fill_46 at h
    refine ob hm_4 4 51 [qr 1, qi v1, qi v2, qi v3, qi v4] [.int (v1 + v2), .int v4] (c0 :: bk0 ze R Q zg X F j I zd zf W V H Y C K b t k a f g Z za D z zh zi r U O zb zc J B T G po) rfl ?_
    by_cases hc108 : v4 < (v1 + v2)
    · simp only [if_pos hc108] at h
      refine OEnds.icmpF hm_4 rfl ((tlt hc108).2.1) ?_
      refine oa hm_4 2 59 [qr 1, qi v1, qi v2, qi v3, qi v4] [.int 256, .int v4] rfl ?_
      by_cases hc109 : v4 < 256
      · simp only [if_pos hc109] at h
        refine OEnds.icmpF hm_4 rfl ((tlt hc109).2.1) ?_
        refine oa hm_4 4 69 [qr 1, qi v1, qi v2, qi v3, qi v4] [.int v3, .int v4, .ref 2] rfl ?_
        obtain ⟨A90, hA90, h⟩ := bnd h
        refine OEnds.plain hm_4 rfl rfl (x_iastore rfl (Nat.le_of_ble_eq_true rfl) hA90) ?_
        refine ob hm_4 2 46 [qr 1, qi v1, qi v2, qi v3, qi (v4 + 1)] [] (c0 :: bk0 A90 R Q zg X F j I zd zf W V H Y C K b t k a f g Z za D z zh zi r U O zb zc J B T G po) rfl ?_
        exact ih h
      · simp only [if_neg hc109] at h
        refine OEnds.icmpT hm_4 rfl (q := 76) rfl ((flt hc109).2.1) ?_
        refine oa hm_4 1 77 [qr 1, qi v1, qi v2, qi v3, qi v4] [.int 1] rfl ?_
        cases h
        exact OEnds.iret hm_4 rfl rfl
    · simp only [if_neg hc108] at h
      refine OEnds.icmpT hm_4 rfl (q := 76) rfl ((flt hc108).2.1) ?_
      refine oa hm_4 1 77 [qr 1, qi v1, qi v2, qi v3, qi v4] [.int 1] rfl ?_
      cases h
      exact OEnds.iret hm_4 rfl rfl
theorem ok_fill_0 {v1 v2 v3 res : Int32} (h : f_fill b t ze v1 v2 v3 = some (res, xr)) : OEnds own_P 4 0 [qr 1, qi v1, qi v2, qi v3, qu] [] (c0 :: bk0 ze R Q zg X F j I zd zf W V H Y C K b t k a f g Z za D z zh zi r U O zb zc J B T G po) (some (.int res), (c0 :: bk0 xr R Q zg X F j I zd zf W V H Y C K b t k a f g Z za D z zh zi r U O zb zc J B T G po), 0, 0) := by
  unfold f_fill at h
  refine oa hm_4 1 1 [qr 1, qi v1, qi v2, qi v3, qu] [.int v3] rfl ?_
  by_cases hc110 : v3 < 0
  · simp only [if_pos hc110] at h
    refine OEnds.ifT hm_4 rfl (q := 24) rfl ((tlt hc110).1) ?_
    refine oa hm_4 1 25 [qr 1, qi v1, qi v2, qi v3, qu] [.int 0] rfl ?_
    cases h
    exact OEnds.iret hm_4 rfl rfl
  · simp only [if_neg hc110] at h
    refine OEnds.ifF hm_4 rfl ((flt hc110).1) ?_
    refine oa hm_4 3 9 [qr 1, qi v1, qi v2, qi v3, qu] [.int t, .int v3] rfl ?_
    by_cases hc111 : v3 < t
    · simp only [if_pos hc111] at h
      refine OEnds.icmpF hm_4 rfl ((tlt hc111).2.1) ?_
      refine oa hm_4 1 13 [qr 1, qi v1, qi v2, qi v3, qu] [.int v1] rfl ?_
      by_cases hc112 : v1 < 0
      · simp only [if_pos hc112] at h
        refine OEnds.ifT hm_4 rfl (q := 24) rfl ((tlt hc112).1) ?_
        refine oa hm_4 1 25 [qr 1, qi v1, qi v2, qi v3, qu] [.int 0] rfl ?_
        cases h
        exact OEnds.iret hm_4 rfl rfl
      · simp only [if_neg hc112] at h
        refine OEnds.ifF hm_4 rfl ((flt hc112).1) ?_
        refine oa hm_4 3 21 [qr 1, qi v1, qi v2, qi v3, qu] [.int b, .int v1] rfl ?_
        by_cases hc113 : v1 < b
        · simp only [if_pos hc113] at h
          refine OEnds.icmpT hm_4 rfl (q := 26) rfl ((tlt hc113).1) ?_
          refine oa hm_4 2 28 [qr 1, qi v1, qi v2, qi v3, qu] [.int 1, .int v2] rfl ?_
          by_cases hc114 : v2 < 1
          · simp only [if_pos hc114] at h
            refine OEnds.icmpT hm_4 rfl (q := 41) rfl ((tlt hc114).1) ?_
            refine oa hm_4 1 42 [qr 1, qi v1, qi v2, qi v3, qu] [.int 0] rfl ?_
            cases h
            exact OEnds.iret hm_4 rfl rfl
          · simp only [if_neg hc114] at h
            refine OEnds.icmpF hm_4 rfl ((flt hc114).1) ?_
            refine oa hm_4 5 38 [qr 1, qi v1, qi v2, qi v3, qu] [.int (b - v1), .int v2] rfl ?_
            by_cases hc115 : (b - v1) < v2
            · simp only [if_pos hc115] at h
              refine OEnds.icmpF hm_4 rfl ((tlt hc115).2.2.2) ?_
              refine oa hm_4 1 42 [qr 1, qi v1, qi v2, qi v3, qu] [.int 0] rfl ?_
              cases h
              exact OEnds.iret hm_4 rfl rfl
            · simp only [if_neg hc115] at h
              refine OEnds.icmpT hm_4 rfl (q := 43) rfl ((flt hc115).2.2.2) ?_
              refine oa hm_4 2 46 [qr 1, qi v1, qi v2, qi v3, qi v1] [] rfl ?_
              exact ok_fill_46_0 100000 h
        · simp only [if_neg hc113] at h
          refine OEnds.icmpF hm_4 rfl ((flt hc113).1) ?_
          refine oa hm_4 1 25 [qr 1, qi v1, qi v2, qi v3, qu] [.int 0] rfl ?_
          cases h
          exact OEnds.iret hm_4 rfl rfl
    · simp only [if_neg hc111] at h
      refine OEnds.icmpT hm_4 rfl (q := 24) rfl ((flt hc111).2.1) ?_
      refine oa hm_4 1 25 [qr 1, qi v1, qi v2, qi v3, qu] [.int 0] rfl ?_
      cases h
      exact OEnds.iret hm_4 rfl rfl
theorem ok_resetEncoderTable_2_0 : ∀ (n : Nat), ∀ {I : List Int32} {v1 v2 : Int32} {zv : List Int32}, f_resetEncoderTable_2 n I v1 v2 = some zv → OEnds own_P 22 2 [qr 1, qi v1, qi v2] [] (c0 :: bk0 ze R Q zg X F j I zd zf W V H Y C K b t k a f g Z za D z zh zi r U O zb zc J B T G po) (none, (c0 :: bk0 ze R Q zg X F j zv zd zf W V H Y C K b t k a f g Z za D z zh zi r U O zb zc J B T G po), 0, 0) := by
  intro n
  induction n with
  | zero => intro I v1 v2 zv h; cases h
  | succ n ih =>
    intro I v1 v2 zv h
    unfold f_resetEncoderTable_2 at h
    refine ob hm_22 2 4 [qr 1, qi v1, qi v2] [.int v1, .int v2] (c0 :: bk0 ze R Q zg X F j I zd zf W V H Y C K b t k a f g Z za D z zh zi r U O zb zc J B T G po) rfl ?_
    by_cases hc116 : v2 < v1
    · simp only [if_pos hc116] at h
      refine OEnds.icmpF hm_22 rfl ((tlt hc116).2.1) ?_
      refine oa hm_22 2 11 [qr 1, qi v1, qi v2] [.int 512, .int v2] rfl ?_
      by_cases hc117 : v2 < 512
      · simp only [if_pos hc117] at h
        refine OEnds.icmpF hm_22 rfl ((tlt hc117).2.1) ?_
        refine oa hm_22 4 20 [qr 1, qi v1, qi v2] [.int (-1), .int v2, .ref 9] rfl ?_
        obtain ⟨A91, hA91, h⟩ := bnd h
        refine OEnds.plain hm_22 rfl rfl (x_iastore rfl (Nat.le_of_ble_eq_true rfl) hA91) ?_
        refine ob hm_22 2 2 [qr 1, qi v1, qi (v2 + 1)] [] (c0 :: bk0 ze R Q zg X F j A91 zd zf W V H Y C K b t k a f g Z za D z zh zi r U O zb zc J B T G po) rfl ?_
        exact ih h
      · simp only [if_neg hc117] at h
        refine OEnds.icmpT hm_22 rfl (q := 27) rfl ((flt hc117).2.1) ?_
        refine oc 27 [qr 1, qi v1, qi v2] [] ?_
        cases h
        exact OEnds.vret hm_22 rfl rfl
    · simp only [if_neg hc116] at h
      refine OEnds.icmpT hm_22 rfl (q := 27) rfl ((flt hc116).2.1) ?_
      refine oc 27 [qr 1, qi v1, qi v2] [] ?_
      cases h
      exact OEnds.vret hm_22 rfl rfl
theorem ok_resetEncoderTable_0 {v1 : Int32} (h : f_resetEncoderTable I v1 = some zv) : OEnds own_P 22 0 [qr 1, qi v1, qu] [] (c0 :: bk0 ze R Q zg X F j I zd zf W V H Y C K b t k a f g Z za D z zh zi r U O zb zc J B T G po) (none, (c0 :: bk0 ze R Q zg X F j zv zd zf W V H Y C K b t k a f g Z za D z zh zi r U O zb zc J B T G po), 0, 0) := by
  unfold f_resetEncoderTable at h
  refine oa hm_22 2 2 [qr 1, qi v1, qi 0] [] rfl ?_
  exact ok_resetEncoderTable_2_0 100000 h
theorem ok_putCode_74_0 {kb : List Int32 → Int32 → Int32 → Int32 → Option (List Int32 × Int32)} (hkb : ∀ {j : List Int32} {r v1 v2 : Int32} {d3 d4 : Slot} {zj : List Int32} {zl : Int32}, kb j r v1 v2 = some (zj, zl) → OEnds own_P 23 2 [qr 1, qi v1, qi v2, d3, d4] [] (c0 :: bk0 ze R Q zg X F j I zd zf W V H Y C K b t k a f g Z za D z zh zi r U O zb zc J B T G po) (none, (c0 :: bk0 ze R Q zg X F zj I zd zf W V H Y C K b t k a f g Z za D z zh zi zl U O zb zc J B T G po), 0, 0)) : ∀ {j : List Int32} {r v1 v2 : Int32} {d3 d4 : Slot} {zj : List Int32} {zl : Int32}, f_putCode_74 kb U j r v1 v2 = some (zj, zl) → OEnds own_P 23 74 [qr 1, qi v1, qi v2, d3, d4] [] (c0 :: bk0 ze R Q zg X F j I zd zf W V H Y C K b t k a f g Z za D z zh zi r U O zb zc J B T G po) (none, (c0 :: bk0 ze R Q zg X F zj I zd zf W V H Y C K b t k a f g Z za D z zh zi zl U O zb zc J B T G po), 0, 0) := by
  intro j r v1 v2 d3 d4 zj zl h
  unfold f_putCode_74 at h
  refine ob hm_23 8 2 [qr 1, qi v1, qi (v2 + 1), qu, qu] [] (c0 :: bk0 ze R Q zg X F j I zd zf W V H Y C K b t k a f g Z za D z zh zi (r + 1) U O zb zc J B T G po) rfl ?_
  exact hkb h
theorem ok_putCode_49_0 {kb : List Int32 → Int32 → Int32 → Int32 → Option (List Int32 × Int32)} (hkb : ∀ {j : List Int32} {r v1 v2 : Int32} {d3 d4 : Slot} {zj : List Int32} {zl : Int32}, kb j r v1 v2 = some (zj, zl) → OEnds own_P 23 2 [qr 1, qi v1, qi v2, d3, d4] [] (c0 :: bk0 ze R Q zg X F j I zd zf W V H Y C K b t k a f g Z za D z zh zi r U O zb zc J B T G po) (none, (c0 :: bk0 ze R Q zg X F zj I zd zf W V H Y C K b t k a f g Z za D z zh zi zl U O zb zc J B T G po), 0, 0)) : ∀ {j : List Int32} {r v1 v2 v3 v4 : Int32} {zj : List Int32} {zl : Int32}, f_putCode_49 kb U j r v1 v2 v3 v4 = some (zj, zl) → OEnds own_P 23 49 [qr 1, qi v1, qi v2, qi v3, qi v4] [] (c0 :: bk0 ze R Q zg X F j I zd zf W V H Y C K b t k a f g Z za D z zh zi r U O zb zc J B T G po) (none, (c0 :: bk0 ze R Q zg X F zj I zd zf W V H Y C K b t k a f g Z za D z zh zi zl U O zb zc J B T G po), 0, 0) := by
  intro j r v1 v2 v3 v4 zj zl h
  unfold f_putCode_49 at h
  refine oa hm_23 5 54 [qr 1, qi v1, qi v2, qi v3, qi v4] [.int ((v1 >>> (v2 &&& 31)) &&& 1)] rfl ?_
  by_cases hc118 : ((v1 >>> (v2 &&& 31)) &&& 1) = 0
  · simp only [if_pos hc118] at h
    refine OEnds.ifT hm_23 rfl (q := 74) rfl ((teq hc118).1) ?_
    refine oc 74 [qr 1, qi v1, qi v2, qi v3, qi v4] [] ?_
    exact ok_putCode_74_0 hkb h
  · simp only [if_neg hc118] at h
    refine OEnds.ifF hm_23 rfl ((feq hc118).1) ?_
    refine oa hm_23 6 67 [qr 1, qi v1, qi v2, qi v3, qi v4] [.int v3, .ref 8, .int v3, .ref 8] rfl ?_
    obtain ⟨x93, hx93, h⟩ := bnd h
    refine OEnds.plain hm_23 rfl rfl (x_iaload rfl hx93) ?_
    refine ob hm_23 4 73 [qr 1, qi v1, qi v2, qi v3, qi v4] [.int (x93 ||| ((1 : Int32) <<< (v4 &&& 31))), .int v3, .ref 8] (c0 :: bk0 ze R Q zg X F j I zd zf W V H Y C K b t k a f g Z za D z zh zi r U O zb zc J B T G po) rfl ?_
    obtain ⟨A94, hA94, h⟩ := bnd h
    refine OEnds.plain hm_23 rfl rfl (x_iastore rfl (Nat.le_of_ble_eq_true rfl) hA94) ?_
    show OEnds own_P 23 74 [qr 1, qi v1, qi v2, qi v3, qi v4] [] (c0 :: bk0 ze R Q zg X F A94 I zd zf W V H Y C K b t k a f g Z za D z zh zi r U O zb zc J B T G po) _
    exact ok_putCode_74_0 hkb h
theorem ok_putCode_2_0 : ∀ (n : Nat), ∀ {j : List Int32} {r v1 v2 : Int32} {d3 d4 : Slot} {zj : List Int32} {zl : Int32}, f_putCode_2 U n j r v1 v2 = some (zj, zl) → OEnds own_P 23 2 [qr 1, qi v1, qi v2, d3, d4] [] (c0 :: bk0 ze R Q zg X F j I zd zf W V H Y C K b t k a f g Z za D z zh zi r U O zb zc J B T G po) (none, (c0 :: bk0 ze R Q zg X F zj I zd zf W V H Y C K b t k a f g Z za D z zh zi zl U O zb zc J B T G po), 0, 0) := by
  intro n
  induction n with
  | zero => intro j r v1 v2 d3 d4 zj zl h; cases h
  | succ n ih =>
    intro j r v1 v2 d3 d4 zj zl h
    unfold f_putCode_2 at h
    refine ob hm_23 3 7 [qr 1, qi v1, qi v2, qu, qu] [.int U, .int v2] (c0 :: bk0 ze R Q zg X F j I zd zf W V H Y C K b t k a f g Z za D z zh zi r U O zb zc J B T G po) rfl ?_
    by_cases hc119 : v2 < U
    · simp only [if_pos hc119] at h
      refine OEnds.icmpF hm_23 rfl ((tlt hc119).2.1) ?_
      refine oa hm_23 11 27 [qr 1, qi v1, qi v2, qi (r >>> ((3 : Int32) &&& 31)), qi (r &&& 7)] [.int (r >>> ((3 : Int32) &&& 31))] rfl ?_
      by_cases hc120 : (r >>> ((3 : Int32) &&& 31)) < 0
      · simp only [if_pos hc120] at h
        refine OEnds.ifT hm_23 rfl (q := 74) rfl ((tlt hc120).1) ?_
        refine oc 74 [qr 1, qi v1, qi v2, qi (r >>> ((3 : Int32) &&& 31)), qi (r &&& 7)] [] ?_
        exact ok_putCode_74_0 ih h
      · simp only [if_neg hc120] at h
        refine OEnds.ifF hm_23 rfl ((flt hc120).1) ?_
        refine oa hm_23 2 34 [qr 1, qi v1, qi v2, qi (r >>> ((3 : Int32) &&& 31)), qi (r &&& 7)] [.int 512, .int (r >>> ((3 : Int32) &&& 31))] rfl ?_
        by_cases hc121 : (r >>> ((3 : Int32) &&& 31)) < 512
        · simp only [if_pos hc121] at h
          refine OEnds.icmpF hm_23 rfl ((tlt hc121).2.1) ?_
          refine oa hm_23 1 39 [qr 1, qi v1, qi v2, qi (r >>> ((3 : Int32) &&& 31)), qi (r &&& 7)] [.int (r &&& 7)] rfl ?_
          by_cases hc122 : (r &&& 7) = 0
          · simp only [if_pos hc122] at h
            refine OEnds.ifF hm_23 rfl ((teq hc122).2) ?_
            refine oa hm_23 4 48 [qr 1, qi v1, qi v2, qi (r >>> ((3 : Int32) &&& 31)), qi (r &&& 7)] [.int 0, .int (r >>> ((3 : Int32) &&& 31)), .ref 8] rfl ?_
            obtain ⟨A92, hA92, h⟩ := bnd h
            refine OEnds.plain hm_23 rfl rfl (x_iastore rfl (Nat.le_of_ble_eq_true rfl) hA92) ?_
            show OEnds own_P 23 49 [qr 1, qi v1, qi v2, qi (r >>> ((3 : Int32) &&& 31)), qi (r &&& 7)] [] (c0 :: bk0 ze R Q zg X F A92 I zd zf W V H Y C K b t k a f g Z za D z zh zi r U O zb zc J B T G po) _
            exact ok_putCode_49_0 ih h
          · simp only [if_neg hc122] at h
            refine OEnds.ifT hm_23 rfl (q := 49) rfl ((feq hc122).2) ?_
            refine oc 49 [qr 1, qi v1, qi v2, qi (r >>> ((3 : Int32) &&& 31)), qi (r &&& 7)] [] ?_
            exact ok_putCode_49_0 ih h
        · simp only [if_neg hc121] at h
          refine OEnds.icmpT hm_23 rfl (q := 74) rfl ((flt hc121).2.1) ?_
          refine oc 74 [qr 1, qi v1, qi v2, qi (r >>> ((3 : Int32) &&& 31)), qi (r &&& 7)] [] ?_
          exact ok_putCode_74_0 ih h
    · simp only [if_neg hc119] at h
      refine OEnds.icmpT hm_23 rfl (q := 90) rfl ((flt hc119).2.1) ?_
      refine oc 90 [qr 1, qi v1, qi v2, qu, qu] [] ?_
      cases h
      exact OEnds.vret hm_23 rfl rfl
theorem ok_putCode_0 {v1 : Int32} (h : f_putCode U j r v1 = some (zj, zl)) : OEnds own_P 23 0 [qr 1, qi v1, qu, qu, qu] [] (c0 :: bk0 ze R Q zg X F j I zd zf W V H Y C K b t k a f g Z za D z zh zi r U O zb zc J B T G po) (none, (c0 :: bk0 ze R Q zg X F zj I zd zf W V H Y C K b t k a f g Z za D z zh zi zl U O zb zc J B T G po), 0, 0) := by
  unfold f_putCode at h
  refine oa hm_23 2 2 [qr 1, qi v1, qi 0, qu, qu] [] rfl ?_
  exact ok_putCode_2_0 100000 h
theorem ok_findChild_23_0 : ∀ (n : Nat), ∀ {v2 v3 v4 : Int32} {d1 : Slot} {res : Int32}, f_findChild_23 I zd zf n v2 v3 v4 = some res → OEnds own_P 24 23 [qr 1, d1, qi v2, qi v3, qi v4] [] (c0 :: bk0 ze R Q zg X F j I zd zf W V H Y C K b t k a f g Z za D z zh zi r U O zb zc J B T G po) (some (.int res), (c0 :: bk0 ze R Q zg X F j I zd zf W V H Y C K b t k a f g Z za D z zh zi r U O zb zc J B T G po), 0, 0) := by
  intro n
  induction n with
  | zero => intro v2 v3 v4 d1 res h; cases h
  | succ n ih =>
    intro v2 v3 v4 d1 res h
    unfold f_findChild_23 at h
    refine ob hm_24 2 28 [qr 1, qu, qi v2, qi v3, qi v4] [.int 512, .int v4] (c0 :: bk0 ze R Q zg X F j I zd zf W V H Y C K b t k a f g Z za D z zh zi r U O zb zc J B T G po) rfl ?_
    by_cases hc123 : v4 < 512
    · simp only [if_pos hc123] at h
      refine OEnds.icmpF hm_24 rfl ((tlt hc123).2.1) ?_
      refine oa hm_24 1 32 [qr 1, qu, qi v2, qi v3, qi v4] [.int v3] rfl ?_
      by_cases hc124 : v3 < 0
      · simp only [if_pos hc124] at h
        refine OEnds.ifT hm_24 rfl (q := 67) rfl ((tlt hc124).1) ?_
        refine oa hm_24 1 68 [qr 1, qu, qi v2, qi v3, qi v4] [.int (-1)] rfl ?_
        cases h
        exact OEnds.iret hm_24 rfl rfl
      · simp only [if_neg hc124] at h
        refine OEnds.ifF hm_24 rfl ((flt hc124).1) ?_
        refine oa hm_24 2 39 [qr 1, qu, qi v2, qi v3, qi v4] [.int 512, .int v3] rfl ?_
        by_cases hc125 : v3 < 512
        · simp only [if_pos hc125] at h
          refine OEnds.icmpF hm_24 rfl ((tlt hc125).2.1) ?_
          refine oa hm_24 3 47 [qr 1, qu, qi v2, qi v3, qi v4] [.int v3, .ref 11] rfl ?_
          obtain ⟨x96, hx96, h⟩ := bnd h
          refine OEnds.plain hm_24 rfl rfl (x_iaload rfl hx96) ?_
          refine ob hm_24 1 49 [qr 1, qu, qi v2, qi v3, qi v4] [.int v2, .int x96] (c0 :: bk0 ze R Q zg X F j I zd zf W V H Y C K b t k a f g Z za D z zh zi r U O zb zc J B T G po) rfl ?_
          by_cases hc126 : x96 = v2
          · simp only [if_pos hc126] at h
            refine OEnds.icmpF hm_24 rfl ((teq hc126).2) ?_
            refine oa hm_24 1 53 [qr 1, qu, qi v2, qi v3, qi v4] [.int v3] rfl ?_
            cases h
            exact OEnds.iret hm_24 rfl rfl
          · simp only [if_neg hc126] at h
            refine OEnds.icmpT hm_24 rfl (q := 54) rfl ((feq hc126).2) ?_
            refine oa hm_24 3 59 [qr 1, qu, qi v2, qi v3, qi v4] [.int v3, .ref 10] rfl ?_
            obtain ⟨x97, hx97, h⟩ := bnd h
            refine OEnds.plain hm_24 rfl rfl (x_iaload rfl hx97) ?_
            refine ob hm_24 3 23 [qr 1, qu, qi v2, qi x97, qi (v4 + 1)] [] (c0 :: bk0 ze R Q zg X F j I zd zf W V H Y C K b t k a f g Z za D z zh zi r U O zb zc J B T G po) rfl ?_
            exact ih h
        · simp only [if_neg hc125] at h
          refine OEnds.icmpT hm_24 rfl (q := 67) rfl ((flt hc125).2.1) ?_
          refine oa hm_24 1 68 [qr 1, qu, qi v2, qi v3, qi v4] [.int (-1)] rfl ?_
          cases h
          exact OEnds.iret hm_24 rfl rfl
    · simp only [if_neg hc123] at h
      refine OEnds.icmpT hm_24 rfl (q := 67) rfl ((flt hc123).2.1) ?_
      refine oa hm_24 1 68 [qr 1, qu, qi v2, qi v3, qi v4] [.int (-1)] rfl ?_
      cases h
      exact OEnds.iret hm_24 rfl rfl
theorem ok_findChild_0 {v1 v2 res : Int32} (h : f_findChild I zd zf v1 v2 = some res) : OEnds own_P 24 0 [qr 1, qi v1, qi v2, qu, qu] [] (c0 :: bk0 ze R Q zg X F j I zd zf W V H Y C K b t k a f g Z za D z zh zi r U O zb zc J B T G po) (some (.int res), (c0 :: bk0 ze R Q zg X F j I zd zf W V H Y C K b t k a f g Z za D z zh zi r U O zb zc J B T G po), 0, 0) := by
  unfold f_findChild at h
  refine oa hm_24 1 1 [qr 1, qi v1, qi v2, qu, qu] [.int v1] rfl ?_
  by_cases hc127 : v1 < 0
  · simp only [if_pos hc127] at h
    refine OEnds.ifT hm_24 rfl (q := 11) rfl ((tlt hc127).1) ?_
    refine oa hm_24 1 12 [qr 1, qi v1, qi v2, qu, qu] [.int (-1)] rfl ?_
    cases h
    exact OEnds.iret hm_24 rfl rfl
  · simp only [if_neg hc127] at h
    refine OEnds.ifF hm_24 rfl ((flt hc127).1) ?_
    refine oa hm_24 2 8 [qr 1, qi v1, qi v2, qu, qu] [.int 512, .int v1] rfl ?_
    by_cases hc128 : v1 < 512
    · simp only [if_pos hc128] at h
      refine OEnds.icmpT hm_24 rfl (q := 13) rfl ((tlt hc128).1) ?_
      refine oa hm_24 3 18 [qr 1, qi v1, qi v2, qu, qu] [.int v1, .ref 9] rfl ?_
      obtain ⟨x95, hx95, h⟩ := bnd h
      refine OEnds.plain hm_24 rfl rfl (x_iaload rfl hx95) ?_
      refine ob hm_24 3 23 [qr 1, qi v1, qi v2, qi x95, qi 0] [] (c0 :: bk0 ze R Q zg X F j I zd zf W V H Y C K b t k a f g Z za D z zh zi r U O zb zc J B T G po) rfl ?_
      exact ok_findChild_23_0 100000 h
    · simp only [if_neg hc128] at h
      refine OEnds.icmpF hm_24 rfl ((flt hc128).1) ?_
      refine oa hm_24 1 12 [qr 1, qi v1, qi v2, qu, qu] [.int (-1)] rfl ?_
      cases h
      exact OEnds.iret hm_24 rfl rfl
theorem ok_addEncoderCode_101_0 : ∀ {j I zd zf : List Int32} {r U O : Int32} {d1 d2 d3 : Slot} {zj zv zy zz : List Int32} {zl ya : Int32} {yb : Int32}, f_addEncoderCode_101 k a f g j I zd zf r U O = some (zj, zv, zy, zz, zl, ya, yb) → OEnds own_P 25 101 [qr 1, d1, d2, d3] [] (c0 :: bk0 ze R Q zg X F j I zd zf W V H Y C K b t k a f g Z za D z zh zi r U O zb zc J B T G po) (none, (c0 :: bk0 ze R Q zg X F zj zv zy zz W V H Y C K b t k a f g Z za D z zh zi zl ya yb zb zc J B T G po), 0, 0) := by
  intro j I zd zf r U O d1 d2 d3 zj zv zy zz zl ya yb h
  unfold f_addEncoderCode_101 at h
  refine oa hm_25 4 109 [qr 1, qu, qu, qu] [.int g, .int O] rfl ?_
  by_cases hc129 : O = g
  · simp only [if_pos hc129] at h
    refine OEnds.icmpF hm_25 rfl ((teq hc129).2) ?_
    refine oa hm_25 3 117 [qr 1, qu, qu, qu] [.int a, .ref 1] rfl ?_
    obtain ⟨⟨s103, s104⟩, hq130, h⟩ := bnd h
    refine OEnds.call0 hm_25 rfl rfl (by decide) rfl (as := [.ref 1, .int a]) (rest := []) rfl rfl (ok_putCode_0 hq130) ?_
    refine ob hm_25 3 125 [qr 1, qu, qu, qu] [.int O, .ref 1] (c0 :: bk0 ze R Q zg X F s103 I zd zf W V H Y C K b t k a f g Z za D z zh zi s104 U O zb zc J B T G po) rfl ?_
    obtain ⟨s105, hq131, h⟩ := bnd h
    refine OEnds.call0 hm_25 rfl rfl (by decide) rfl (as := [.ref 1, .int O]) (rest := []) rfl rfl (ok_resetEncoderTable_0 hq131) ?_
    refine ob hm_25 12 148 [qr 1, qu, qu, qu] [] (c0 :: bk0 ze R Q zg X F s103 s105 zd zf W V H Y C K b t k a f g Z za D z zh zi s104 (k + 1) (a + 2) zb zc J B T G po) rfl ?_
    cases h
    exact OEnds.vret hm_25 rfl rfl
  · simp only [if_neg hc129] at h
    refine OEnds.icmpT hm_25 rfl (q := 148) rfl ((feq hc129).2) ?_
    refine oc 148 [qr 1, qu, qu, qu] [] ?_
    cases h
    exact OEnds.vret hm_25 rfl rfl
theorem ok_addEncoderCode_60_0 : ∀ {j I zd zf : List Int32} {r U O v3 : Int32} {d1 d2 : Slot} {zj zv zy zz : List Int32} {zl ya : Int32} {yb : Int32}, f_addEncoderCode_60 k a f g j I zd zf r U O v3 = some (zj, zv, zy, zz, zl, ya, yb) → OEnds own_P 25 60 [qr 1, d1, d2, qi v3] [] (c0 :: bk0 ze R Q zg X F j I zd zf W V H Y C K b t k a f g Z za D z zh zi r U O zb zc J B T G po) (none, (c0 :: bk0 ze R Q zg X F zj zv zy zz W V H Y C K b t k a f g Z za D z zh zi zl ya yb zb zc J B T G po), 0, 0) := by
  intro j I zd zf r U O v3 d1 d2 zj zv zy zz zl ya yb h
  unfold f_addEncoderCode_60 at h
  refine ob hm_25 11 77 [qr 1, qu, qu, qi v3] [.int ((1 : Int32) <<< (U &&& 31)), .int (v3 + 1)] (c0 :: bk0 ze R Q zg X F j I zd zf W V H Y C K b t k a f g Z za D z zh zi r U (v3 + 1) zb zc J B T G po) rfl ?_
  by_cases hc132 : ((1 : Int32) <<< (U &&& 31)) < (v3 + 1)
  · simp only [if_pos hc132] at h
    refine OEnds.icmpF hm_25 rfl ((tlt hc132).2.2.2) ?_
    refine oa hm_25 4 88 [qr 1, qu, qu, qi v3] [.int f, .int U] rfl ?_
    by_cases hc133 : U < f
    · simp only [if_pos hc133] at h
      refine OEnds.icmpF hm_25 rfl ((tlt hc133).2.1) ?_
      refine ob hm_25 6 101 [qr 1, qu, qu, qi v3] [] (c0 :: bk0 ze R Q zg X F j I zd zf W V H Y C K b t k a f g Z za D z zh zi r (U + 1) (v3 + 1) zb zc J B T G po) rfl ?_
      exact ok_addEncoderCode_101_0 h
    · simp only [if_neg hc133] at h
      refine OEnds.icmpT hm_25 rfl (q := 101) rfl ((flt hc133).2.1) ?_
      refine oc 101 [qr 1, qu, qu, qi v3] [] ?_
      exact ok_addEncoderCode_101_0 h
  · simp only [if_neg hc132] at h
    refine OEnds.icmpT hm_25 rfl (q := 101) rfl ((flt hc132).2.2.2) ?_
    refine oc 101 [qr 1, qu, qu, qi v3] [] ?_
    exact ok_addEncoderCode_101_0 h
theorem ok_addEncoderCode_0 {v1 v2 : Int32} (h : f_addEncoderCode k a f g j I zd zf r U O v1 v2 = some (zj, zv, zy, zz, zl, ya, yb)) : OEnds own_P 25 0 [qr 1, qi v1, qi v2, qu] [] (c0 :: bk0 ze R Q zg X F j I zd zf W V H Y C K b t k a f g Z za D z zh zi r U O zb zc J B T G po) (none, (c0 :: bk0 ze R Q zg X F zj zv zy zz W V H Y C K b t k a f g Z za D z zh zi zl ya yb zb zc J B T G po), 0, 0) := by
  unfold f_addEncoderCode at h
  refine oa hm_25 4 6 [qr 1, qi v1, qi v2, qi O] [.int O] rfl ?_
  by_cases hc134 : O < 0
  · simp only [if_pos hc134] at h
    refine OEnds.ifT hm_25 rfl (q := 60) rfl ((tlt hc134).1) ?_
    refine oc 60 [qr 1, qi v1, qi v2, qi O] [] ?_
    exact ok_addEncoderCode_60_0 h
  · simp only [if_neg hc134] at h
    refine OEnds.ifF hm_25 rfl ((flt hc134).1) ?_
    refine oa hm_25 2 13 [qr 1, qi v1, qi v2, qi O] [.int 512, .int O] rfl ?_
    by_cases hc135 : O < 512
    · simp only [if_pos hc135] at h
      refine OEnds.icmpF hm_25 rfl ((tlt hc135).2.1) ?_
      refine oa hm_25 1 17 [qr 1, qi v1, qi v2, qi O] [.int v1] rfl ?_
      by_cases hc136 : v1 < 0
      · simp only [if_pos hc136] at h
        refine OEnds.ifT hm_25 rfl (q := 60) rfl ((tlt hc136).1) ?_
        refine oc 60 [qr 1, qi v1, qi v2, qi O] [] ?_
        exact ok_addEncoderCode_60_0 h
      · simp only [if_neg hc136] at h
        refine OEnds.ifF hm_25 rfl ((flt hc136).1) ?_
        refine oa hm_25 2 24 [qr 1, qi v1, qi v2, qi O] [.int 512, .int v1] rfl ?_
        by_cases hc137 : v1 < 512
        · simp only [if_pos hc137] at h
          refine OEnds.icmpF hm_25 rfl ((tlt hc137).2.1) ?_
          refine oa hm_25 4 33 [qr 1, qi v1, qi v2, qi O] [.int v2, .int O, .ref 11] rfl ?_
          obtain ⟨A98, hA98, h⟩ := bnd h
          refine OEnds.plain hm_25 rfl rfl (x_iastore rfl (Nat.le_of_ble_eq_true rfl) hA98) ?_
          refine ob hm_25 6 44 [qr 1, qi v1, qi v2, qi O] [.int v1, .ref 9, .int O, .ref 10] (c0 :: bk0 ze R Q zg X F j I zd A98 W V H Y C K b t k a f g Z za D z zh zi r U O zb zc J B T G po) rfl ?_
          obtain ⟨x99, hx99, h⟩ := bnd h
          refine OEnds.plain hm_25 rfl rfl (x_iaload rfl hx99) ?_
          show OEnds own_P 25 45 [qr 1, qi v1, qi v2, qi O] [.int x99, .int O, .ref 10] (c0 :: bk0 ze R Q zg X F j I zd A98 W V H Y C K b t k a f g Z za D z zh zi r U O zb zc J B T G po) _
          obtain ⟨A100, hA100, h⟩ := bnd h
          refine OEnds.plain hm_25 rfl rfl (x_iastore rfl (Nat.le_of_ble_eq_true rfl) hA100) ?_
          refine ob hm_25 4 52 [qr 1, qi v1, qi v2, qi O] [.int O, .int v1, .ref 9] (c0 :: bk0 ze R Q zg X F j I A100 A98 W V H Y C K b t k a f g Z za D z zh zi r U O zb zc J B T G po) rfl ?_
          obtain ⟨A101, hA101, h⟩ := bnd h
          refine OEnds.plain hm_25 rfl rfl (x_iastore rfl (Nat.le_of_ble_eq_true rfl) hA101) ?_
          refine ob hm_25 4 59 [qr 1, qi v1, qi v2, qi O] [.int (-1), .int O, .ref 9] (c0 :: bk0 ze R Q zg X F j A101 A100 A98 W V H Y C K b t k a f g Z za D z zh zi r U O zb zc J B T G po) rfl ?_
          obtain ⟨A102, hA102, h⟩ := bnd h
          refine OEnds.plain hm_25 rfl rfl (x_iastore rfl (Nat.le_of_ble_eq_true rfl) hA102) ?_
          show OEnds own_P 25 60 [qr 1, qi v1, qi v2, qi O] [] (c0 :: bk0 ze R Q zg X F j A102 A100 A98 W V H Y C K b t k a f g Z za D z zh zi r U O zb zc J B T G po) _
          exact ok_addEncoderCode_60_0 h
        · simp only [if_neg hc137] at h
          refine OEnds.icmpT hm_25 rfl (q := 60) rfl ((flt hc137).2.1) ?_
          refine oc 60 [qr 1, qi v1, qi v2, qi O] [] ?_
          exact ok_addEncoderCode_60_0 h
    · simp only [if_neg hc135] at h
      refine OEnds.icmpT hm_25 rfl (q := 60) rfl ((flt hc135).2.1) ?_
      refine oc 60 [qr 1, qi v1, qi v2, qi O] [] ?_
      exact ok_addEncoderCode_60_0 h
theorem ok_compress_103_0 : ∀ {j I zd zf : List Int32} {r U O v1 : Int32} {d2 d3 d4 : Slot} {zj zv zy zz : List Int32} {zl ya : Int32} {yb : Int32}, f_compress_103 F b k a f g j I zd zf r U O v1 = some (zj, zv, zy, zz, zl, ya, yb) → OEnds own_P 21 103 [qr 1, qi v1, d2, d3, d4] [] (c0 :: bk0 ze R Q zg X F j I zd zf W V H Y C K b t k a f g Z za D z zh zi r U O zb zc J B T G po) (none, (c0 :: bk0 ze R Q zg X F zj zv zy zz W V H Y C K b t k a f g Z za D z zh zi zl ya yb zb zc J B T G po), 0, 0) := by
  intro j I zd zf r U O v1 d2 d3 d4 zj zv zy zz zl ya yb h
  unfold f_compress_103 at h
  refine oa hm_21 2 105 [qr 1, qi v1, qu, qu, qu] [.int v1, .ref 1] rfl ?_
  obtain ⟨⟨s121, s122⟩, hq138, h⟩ := bnd h
  refine OEnds.call0 hm_21 rfl rfl (by decide) rfl (as := [.ref 1, .int v1]) (rest := []) rfl rfl (ok_putCode_0 hq138) ?_
  refine ob hm_21 5 115 [qr 1, qi v1, qu, qu, qu] [.int (a + 1), .ref 1] (c0 :: bk0 ze R Q zg X F s121 I zd zf W V H Y C K b t k a f g Z za D z zh zi s122 U O zb zc J B T G po) rfl ?_
  obtain ⟨⟨s123, s124⟩, hq139, h⟩ := bnd h
  refine OEnds.call0 hm_21 rfl rfl (by decide) rfl (as := [.ref 1, .int (a + 1)]) (rest := []) rfl rfl (ok_putCode_0 hq139) ?_
  show OEnds own_P 21 118 [qr 1, qi v1, qu, qu, qu] [] (c0 :: bk0 ze R Q zg X F s123 I zd zf W V H Y C K b t k a f g Z za D z zh zi s124 U O zb zc J B T G po) _
  cases h
  exact OEnds.vret hm_21 rfl rfl
theorem ok_compress_50_0 {k103 : List Int32 → List Int32 → List Int32 → List Int32 → Int32 → Int32 → Int32 → Int32 → Option (List Int32 × List Int32 × List Int32 × List Int32 × Int32 × Int32 × Int32)} (hk103 : ∀ {j I zd zf : List Int32} {r U O v1 : Int32} {d2 d3 d4 : Slot} {zj zv zy zz : List Int32} {zl ya : Int32} {yb : Int32}, k103 j I zd zf r U O v1 = some (zj, zv, zy, zz, zl, ya, yb) → OEnds own_P 21 103 [qr 1, qi v1, d2, d3, d4] [] (c0 :: bk0 ze R Q zg X F j I zd zf W V H Y C K b t k a f g Z za D z zh zi r U O zb zc J B T G po) (none, (c0 :: bk0 ze R Q zg X F zj zv zy zz W V H Y C K b t k a f g Z za D z zh zi zl ya yb zb zc J B T G po), 0, 0)) : ∀ (n : Nat), ∀ {j I zd zf : List Int32} {r U O v1 v2 : Int32} {d3 d4 : Slot} {zj zv zy zz : List Int32} {zl ya : Int32} {yb : Int32}, f_compress_50 k103 F b k a f g n j I zd zf r U O v1 v2 = some (zj, zv, zy, zz, zl, ya, yb) → OEnds own_P 21 50 [qr 1, qi v1, qi v2, d3, d4] [] (c0 :: bk0 ze R Q zg X F j I zd zf W V H Y C K b t k a f g Z za D z zh zi r U O zb zc J B T G po) (none, (c0 :: bk0 ze R Q zg X F zj zv zy zz W V H Y C K b t k a f g Z za D z zh zi zl ya yb zb zc J B T G po), 0, 0) := by
  intro n
  induction n with
  | zero => intro j I zd zf r U O v1 v2 d3 d4 zj zv zy zz zl ya yb h; cases h
  | succ n ih =>
    intro j I zd zf r U O v1 v2 d3 d4 zj zv zy zz zl ya yb h
    unfold f_compress_50 at h
    refine ob hm_21 3 55 [qr 1, qi v1, qi v2, qu, qu] [.int b, .int v2] (c0 :: bk0 ze R Q zg X F j I zd zf W V H Y C K b t k a f g Z za D z zh zi r U O zb zc J B T G po) rfl ?_
    by_cases hc140 : v2 < b
    · simp only [if_pos hc140] at h
      refine OEnds.icmpF hm_21 rfl ((tlt hc140).2.1) ?_
      refine oa hm_21 3 63 [qr 1, qi v1, qi v2, qu, qu] [.int v2, .ref 7] rfl ?_
      obtain ⟨x110, hx110, h⟩ := bnd h
      refine OEnds.plain hm_21 rfl rfl (x_iaload rfl hx110) ?_
      refine ob hm_21 4 68 [qr 1, qi v1, qi v2, qi x110, qu] [.int x110, .int v1, .ref 1] (c0 :: bk0 ze R Q zg X F j I zd zf W V H Y C K b t k a f g Z za D z zh zi r U O zb zc J B T G po) rfl ?_
      obtain ⟨r111, hq141, h⟩ := bnd h
      refine OEnds.call0 hm_21 rfl rfl (by decide) rfl (as := [.ref 1, .int v1, .int x110]) (rest := []) rfl rfl (ok_findChild_0 hq141) ?_
      refine ob hm_21 2 75 [qr 1, qi v1, qi v2, qi x110, qi r111] [.int r111] (c0 :: bk0 ze R Q zg X F j I zd zf W V H Y C K b t k a f g Z za D z zh zi r U O zb zc J B T G po) rfl ?_
      by_cases hc142 : r111 < 0
      · simp only [if_pos hc142] at h
        refine OEnds.ifT hm_21 rfl (q := 84) rfl ((tlt hc142).1) ?_
        refine oa hm_21 2 86 [qr 1, qi v1, qi v2, qi x110, qi r111] [.int v1, .ref 1] rfl ?_
        obtain ⟨⟨s112, s113⟩, hq143, h⟩ := bnd h
        refine OEnds.call0 hm_21 rfl rfl (by decide) rfl (as := [.ref 1, .int v1]) (rest := []) rfl rfl (ok_putCode_0 hq143) ?_
        refine ob hm_21 3 92 [qr 1, qi v1, qi v2, qi x110, qi r111] [.int x110, .int v1, .ref 1] (c0 :: bk0 ze R Q zg X F s112 I zd zf W V H Y C K b t k a f g Z za D z zh zi s113 U O zb zc J B T G po) rfl ?_
        obtain ⟨⟨s114, s115, s116, s117, s118, s119, s120⟩, hq144, h⟩ := bnd h
        refine OEnds.call0 hm_21 rfl rfl (by decide) rfl (as := [.ref 1, .int v1, .int x110]) (rest := []) rfl rfl (ok_addEncoderCode_0 hq144) ?_
        refine ob hm_21 4 50 [qr 1, qi x110, qi (v2 + 1), qi x110, qi r111] [] (c0 :: bk0 ze R Q zg X F s114 s115 s116 s117 W V H Y C K b t k a f g Z za D z zh zi s118 s119 s120 zb zc J B T G po) rfl ?_
        exact ih h
      · simp only [if_neg hc142] at h
        refine OEnds.ifF hm_21 rfl ((flt hc142).1) ?_
        refine oa hm_21 5 50 [qr 1, qi r111, qi (v2 + 1), qi x110, qi r111] [] rfl ?_
        exact ih h
    · simp only [if_neg hc140] at h
      refine OEnds.icmpT hm_21 rfl (q := 103) rfl ((flt hc140).2.1) ?_
      refine oc 103 [qr 1, qi v1, qi v2, qu, qu] [] ?_
      exact hk103 h
theorem ok_compress_0 (h : f_compress F b k a f g j I zd zf r U O = some (zj, zv, zy, zz, zl, ya, yb)) : OEnds own_P 21 0 [qr 1, qu, qu, qu, qu] [] (c0 :: bk0 ze R Q zg X F j I zd zf W V H Y C K b t k a f g Z za D z zh zi r U O zb zc J B T G po) (none, (c0 :: bk0 ze R Q zg X F zj zv zy zz W V H Y C K b t k a f g Z za D z zh zi zl ya yb zb zc J B T G po), 0, 0) := by
  unfold f_compress at h
  refine ob hm_21 6 10 [qr 1, qu, qu, qu, qu] [.int g, .ref 1] (c0 :: bk0 ze R Q zg X F j I zd zf W V H Y C K b t k a f g Z za D z zh zi 0 U O zb zc J B T G po) rfl ?_
  obtain ⟨s106, hq145, h⟩ := bnd h
  refine OEnds.call0 hm_21 rfl rfl (by decide) rfl (as := [.ref 1, .int g]) (rest := []) rfl rfl (ok_resetEncoderTable_0 hq145) ?_
  refine ob hm_21 15 38 [qr 1, qu, qu, qu, qu] [.int a, .ref 1] (c0 :: bk0 ze R Q zg X F j s106 zd zf W V H Y C K b t k a f g Z za D z zh zi 0 (k + 1) (a + 2) zb zc J B T G po) rfl ?_
  obtain ⟨⟨s107, s108⟩, hq146, h⟩ := bnd h
  refine OEnds.call0 hm_21 rfl rfl (by decide) rfl (as := [.ref 1, .int a]) (rest := []) rfl rfl (ok_putCode_0 hq146) ?_
  refine ob hm_21 3 46 [qr 1, qu, qu, qu, qu] [.int 0, .ref 7] (c0 :: bk0 ze R Q zg X F s107 s106 zd zf W V H Y C K b t k a f g Z za D z zh zi s108 (k + 1) (a + 2) zb zc J B T G po) rfl ?_
  obtain ⟨x109, hx109, h⟩ := bnd h
  refine OEnds.plain hm_21 rfl rfl (x_iaload rfl hx109) ?_
  refine ob hm_21 3 50 [qr 1, qi x109, qi 1, qu, qu] [] (c0 :: bk0 ze R Q zg X F s107 s106 zd zf W V H Y C K b t k a f g Z za D z zh zi s108 (k + 1) (a + 2) zb zc J B T G po) rfl ?_
  exact ok_compress_50_0 (k103 := f_compress_103 F b k a f g) ok_compress_103_0 100000 h
theorem ok_writeOut_0 {v1 : Int32} (h : f_writeOut R D v1 = some (zm, zn)) : OEnds own_P 27 0 [qr 1, qi v1] [] (c0 :: bk0 ze R Q zg X F j I zd zf W V H Y C K b t k a f g Z za D z zh zi r U O zb zc J B T G po) (none, (c0 :: bk0 ze zm Q zg X F j I zd zf W V H Y C K b t k a f g Z za zn z zh zi r U O zb zc J B T G po), 0, 0) := by
  unfold f_writeOut at h
  refine oa hm_27 2 4 [qr 1, qi v1] [.int D] rfl ?_
  by_cases hc147 : D < 0
  · simp only [if_pos hc147] at h
    refine OEnds.ifT hm_27 rfl (q := 41) rfl ((tlt hc147).1) ?_
    refine oc 41 [qr 1, qi v1] [] ?_
    cases h
    exact OEnds.vret hm_27 rfl rfl
  · simp only [if_neg hc147] at h
    refine OEnds.ifF hm_27 rfl ((flt hc147).1) ?_
    refine oa hm_27 3 14 [qr 1, qi v1] [.int 400, .int D] rfl ?_
    by_cases hc148 : D < 400
    · simp only [if_pos hc148] at h
      refine OEnds.icmpF hm_27 rfl ((tlt hc148).2.1) ?_
      refine oa hm_27 7 30 [qr 1, qi v1] [.int (v1 &&& 255), .int D, .ref 3] rfl ?_
      obtain ⟨A125, hA125, h⟩ := bnd h
      refine OEnds.plain hm_27 rfl rfl (x_iastore rfl (Nat.le_of_ble_eq_true rfl) hA125) ?_
      refine ob hm_27 6 41 [qr 1, qi v1] [] (c0 :: bk0 ze A125 Q zg X F j I zd zf W V H Y C K b t k a f g Z za (D + 1) z zh zi r U O zb zc J B T G po) rfl ?_
      cases h
      exact OEnds.vret hm_27 rfl rfl
    · simp only [if_neg hc148] at h
      refine OEnds.icmpT hm_27 rfl (q := 41) rfl ((flt hc148).2.1) ?_
      refine oc 41 [qr 1, qi v1] [] ?_
      cases h
      exact OEnds.vret hm_27 rfl rfl
theorem ok_packBlocks_111_0 : ∀ {R : List Int32} {D : Int32} {d1 d2 d3 d4 d5 : Slot} {zm : List Int32} {zn : Int32}, f_packBlocks_111 j k za r R D = some (zm, zn) → OEnds own_P 26 111 [qr 1, d1, d2, d3, d4, d5] [] (c0 :: bk0 ze R Q zg X F j I zd zf W V H Y C K b t k a f g Z za D z zh zi r U O zb zc J B T G po) (none, (c0 :: bk0 ze zm Q zg X F j I zd zf W V H Y C K b t k a f g Z za zn z zh zi r U O zb zc J B T G po), 0, 0) := by
  intro R D d1 d2 d3 d4 d5 zm zn h
  unfold f_packBlocks_111 at h
  refine oa hm_26 2 113 [qr 1, qu, qu, qu, qu, qu] [.int 0, .ref 1] rfl ?_
  obtain ⟨⟨s133, s134⟩, hq149, h⟩ := bnd h
  refine OEnds.call0 hm_26 rfl rfl (by decide) rfl (as := [.ref 1, .int 0]) (rest := []) rfl rfl (ok_writeOut_0 hq149) ?_
  show OEnds own_P 26 116 [qr 1, qu, qu, qu, qu, qu] [] (c0 :: bk0 ze s133 Q zg X F j I zd zf W V H Y C K b t k a f g Z za s134 z zh zi r U O zb zc J B T G po) _
  cases h
  exact OEnds.vret hm_26 rfl rfl
theorem ok_packBlocks_79_0 {k38 : List Int32 → Int32 → Int32 → Int32 → Int32 → Option (List Int32 × Int32)} (hk38 : ∀ {R : List Int32} {D v1 v2 v3 : Int32} {d4 d5 : Slot} {zm : List Int32} {zn : Int32}, k38 R D v1 v2 v3 = some (zm, zn) → OEnds own_P 26 38 [qr 1, qi v1, qi v2, qi v3, d4, d5] [] (c0 :: bk0 ze R Q zg X F j I zd zf W V H Y C K b t k a f g Z za D z zh zi r U O zb zc J B T G po) (none, (c0 :: bk0 ze zm Q zg X F j I zd zf W V H Y C K b t k a f g Z za zn z zh zi r U O zb zc J B T G po), 0, 0)) : ∀ (n : Nat), ∀ {R : List Int32} {D v1 v2 v3 v4 v5 : Int32} {zm : List Int32} {zn : Int32}, f_packBlocks_79 k38 j k za r n R D v1 v2 v3 v4 v5 = some (zm, zn) → OEnds own_P 26 79 [qr 1, qi v1, qi v2, qi v3, qi v4, qi v5] [] (c0 :: bk0 ze R Q zg X F j I zd zf W V H Y C K b t k a f g Z za D z zh zi r U O zb zc J B T G po) (none, (c0 :: bk0 ze zm Q zg X F j I zd zf W V H Y C K b t k a f g Z za zn z zh zi r U O zb zc J B T G po), 0, 0) := by
  intro n
  induction n with
  | zero => intro R D v1 v2 v3 v4 v5 zm zn h; cases h
  | succ n ih =>
    intro R D v1 v2 v3 v4 v5 zm zn h
    unfold f_packBlocks_79 at h
    refine ob hm_26 2 83 [qr 1, qi v1, qi v2, qi v3, qi v4, qi v5] [.int v4, .int v5] (c0 :: bk0 ze R Q zg X F j I zd zf W V H Y C K b t k a f g Z za D z zh zi r U O zb zc J B T G po) rfl ?_
    by_cases hc150 : v5 < v4
    · simp only [if_pos hc150] at h
      refine OEnds.icmpF hm_26 rfl ((tlt hc150).2.1) ?_
      refine oa hm_26 4 92 [qr 1, qi v1, qi v2, qi v3, qi v4, qi v5] [.int v2, .ref 8, .ref 1] rfl ?_
      obtain ⟨x130, hx130, h⟩ := bnd h
      refine OEnds.plain hm_26 rfl rfl (x_iaload rfl hx130) ?_
      show OEnds own_P 26 93 [qr 1, qi v1, qi v2, qi v3, qi v4, qi v5] [.int x130, .ref 1] (c0 :: bk0 ze R Q zg X F j I zd zf W V H Y C K b t k a f g Z za D z zh zi r U O zb zc J B T G po) _
      obtain ⟨⟨s131, s132⟩, hq151, h⟩ := bnd h
      refine OEnds.call0 hm_26 rfl rfl (by decide) rfl (as := [.ref 1, .int x130]) (rest := []) rfl rfl (ok_writeOut_0 hq151) ?_
      refine ob hm_26 3 79 [qr 1, qi v1, qi (v2 + 1), qi v3, qi v4, qi (v5 + 1)] [] (c0 :: bk0 ze s131 Q zg X F j I zd zf W V H Y C K b t k a f g Z za s132 z zh zi r U O zb zc J B T G po) rfl ?_
      exact ih h
    · simp only [if_neg hc150] at h
      refine OEnds.icmpT hm_26 rfl (q := 105) rfl ((flt hc150).2.1) ?_
      refine oa hm_26 2 38 [qr 1, qi v1, qi v2, qi (v3 + 1), qi v4, qi v5] [] rfl ?_
      exact hk38 h
theorem ok_packBlocks_70_0 {kb : List Int32 → Int32 → Int32 → Int32 → Int32 → Option (List Int32 × Int32)} {k111 : List Int32 → Int32 → Option (List Int32 × Int32)} (hkb : ∀ {R : List Int32} {D v1 v2 v3 : Int32} {d4 d5 : Slot} {zm : List Int32} {zn : Int32}, kb R D v1 v2 v3 = some (zm, zn) → OEnds own_P 26 38 [qr 1, qi v1, qi v2, qi v3, d4, d5] [] (c0 :: bk0 ze R Q zg X F j I zd zf W V H Y C K b t k a f g Z za D z zh zi r U O zb zc J B T G po) (none, (c0 :: bk0 ze zm Q zg X F j I zd zf W V H Y C K b t k a f g Z za zn z zh zi r U O zb zc J B T G po), 0, 0)) (hk111 : ∀ {R : List Int32} {D : Int32} {d1 d2 d3 d4 d5 : Slot} {zm : List Int32} {zn : Int32}, k111 R D = some (zm, zn) → OEnds own_P 26 111 [qr 1, d1, d2, d3, d4, d5] [] (c0 :: bk0 ze R Q zg X F j I zd zf W V H Y C K b t k a f g Z za D z zh zi r U O zb zc J B T G po) (none, (c0 :: bk0 ze zm Q zg X F j I zd zf W V H Y C K b t k a f g Z za zn z zh zi r U O zb zc J B T G po), 0, 0)) : ∀ {R : List Int32} {D v1 v2 v3 v4 : Int32} {d5 : Slot} {zm : List Int32} {zn : Int32}, f_packBlocks_70 kb k111 j k za r R D v1 v2 v3 v4 = some (zm, zn) → OEnds own_P 26 70 [qr 1, qi v1, qi v2, qi v3, qi v4, d5] [] (c0 :: bk0 ze R Q zg X F j I zd zf W V H Y C K b t k a f g Z za D z zh zi r U O zb zc J B T G po) (none, (c0 :: bk0 ze zm Q zg X F j I zd zf W V H Y C K b t k a f g Z za zn z zh zi r U O zb zc J B T G po), 0, 0) := by
  intro R D v1 v2 v3 v4 d5 zm zn h
  unfold f_packBlocks_70 at h
  refine oa hm_26 2 73 [qr 1, qi v1, qi v2, qi v3, qi v4, qu] [.int v4, .ref 1] rfl ?_
  obtain ⟨⟨s128, s129⟩, hq152, h⟩ := bnd h
  refine OEnds.call0 hm_26 rfl rfl (by decide) rfl (as := [.ref 1, .int v4]) (rest := []) rfl rfl (ok_writeOut_0 hq152) ?_
  refine ob hm_26 2 79 [qr 1, qi v1, qi v2, qi v3, qi v4, qi 0] [] (c0 :: bk0 ze s128 Q zg X F j I zd zf W V H Y C K b t k a f g Z za s129 z zh zi r U O zb zc J B T G po) rfl ?_
  exact ok_packBlocks_79_0 (k38 := kb) hkb 100000 h
theorem ok_packBlocks_38_0 {k111 : List Int32 → Int32 → Option (List Int32 × Int32)} (hk111 : ∀ {R : List Int32} {D : Int32} {d1 d2 d3 d4 d5 : Slot} {zm : List Int32} {zn : Int32}, k111 R D = some (zm, zn) → OEnds own_P 26 111 [qr 1, d1, d2, d3, d4, d5] [] (c0 :: bk0 ze R Q zg X F j I zd zf W V H Y C K b t k a f g Z za D z zh zi r U O zb zc J B T G po) (none, (c0 :: bk0 ze zm Q zg X F j I zd zf W V H Y C K b t k a f g Z za zn z zh zi r U O zb zc J B T G po), 0, 0)) : ∀ (n : Nat), ∀ {R : List Int32} {D v1 v2 v3 : Int32} {d4 d5 : Slot} {zm : List Int32} {zn : Int32}, f_packBlocks_38 k111 j k za r n R D v1 v2 v3 = some (zm, zn) → OEnds own_P 26 38 [qr 1, qi v1, qi v2, qi v3, d4, d5] [] (c0 :: bk0 ze R Q zg X F j I zd zf W V H Y C K b t k a f g Z za D z zh zi r U O zb zc J B T G po) (none, (c0 :: bk0 ze zm Q zg X F j I zd zf W V H Y C K b t k a f g Z za zn z zh zi r U O zb zc J B T G po), 0, 0) := by
  intro n
  induction n with
  | zero => intro R D v1 v2 v3 d4 d5 zm zn h; cases h
  | succ n ih =>
    intro R D v1 v2 v3 d4 d5 zm zn h
    unfold f_packBlocks_38 at h
    refine ob hm_26 2 42 [qr 1, qi v1, qi v2, qi v3, qu, qu] [.int 512, .int v3] (c0 :: bk0 ze R Q zg X F j I zd zf W V H Y C K b t k a f g Z za D z zh zi r U O zb zc J B T G po) rfl ?_
    by_cases hc153 : v3 < 512
    · simp only [if_pos hc153] at h
      refine OEnds.icmpF hm_26 rfl ((tlt hc153).2.1) ?_
      refine oa hm_26 2 47 [qr 1, qi v1, qi v2, qi v3, qu, qu] [.int v1, .int v2] rfl ?_
      by_cases hc154 : v2 < v1
      · simp only [if_pos hc154] at h
        refine OEnds.icmpF hm_26 rfl ((tlt hc154).2.1) ?_
        refine oa hm_26 7 61 [qr 1, qi v1, qi v2, qi v3, qi (v1 - v2), qu] [.int za, .int (v1 - v2)] rfl ?_
        by_cases hc155 : za < (v1 - v2)
        · simp only [if_pos hc155] at h
          refine OEnds.icmpF hm_26 rfl ((tlt hc155).2.2.2) ?_
          refine oa hm_26 3 70 [qr 1, qi v1, qi v2, qi v3, qi za, qu] [] rfl ?_
          exact ok_packBlocks_70_0 ih hk111 h
        · simp only [if_neg hc155] at h
          refine OEnds.icmpT hm_26 rfl (q := 70) rfl ((flt hc155).2.2.2) ?_
          refine oc 70 [qr 1, qi v1, qi v2, qi v3, qi (v1 - v2), qu] [] ?_
          exact ok_packBlocks_70_0 ih hk111 h
      · simp only [if_neg hc154] at h
        refine OEnds.icmpT hm_26 rfl (q := 111) rfl ((flt hc154).2.1) ?_
        refine oc 111 [qr 1, qi v1, qi v2, qi v3, qu, qu] [] ?_
        exact hk111 h
    · simp only [if_neg hc153] at h
      refine OEnds.icmpT hm_26 rfl (q := 111) rfl ((flt hc153).2.1) ?_
      refine oc 111 [qr 1, qi v1, qi v2, qi v3, qu, qu] [] ?_
      exact hk111 h
theorem ok_packBlocks_21_0 : ∀ {R : List Int32} {D v1 : Int32} {d2 d3 d4 d5 : Slot} {zm : List Int32} {zn : Int32}, f_packBlocks_21 j k za r R D v1 = some (zm, zn) → OEnds own_P 26 21 [qr 1, qi v1, d2, d3, d4, d5] [] (c0 :: bk0 ze R Q zg X F j I zd zf W V H Y C K b t k a f g Z za D z zh zi r U O zb zc J B T G po) (none, (c0 :: bk0 ze zm Q zg X F j I zd zf W V H Y C K b t k a f g Z za zn z zh zi r U O zb zc J B T G po), 0, 0) := by
  intro R D v1 d2 d3 d4 d5 zm zn h
  unfold f_packBlocks_21 at h
  refine ob hm_26 6 31 [qr 1, qi v1, qu, qu, qu, qu] [.int k, .ref 1] (c0 :: bk0 ze R Q zg X F j I zd zf W V H Y C K b t k a f g Z za 0 z zh zi r U O zb zc J B T G po) rfl ?_
  obtain ⟨⟨s126, s127⟩, hq156, h⟩ := bnd h
  refine OEnds.call0 hm_26 rfl rfl (by decide) rfl (as := [.ref 1, .int k]) (rest := []) rfl rfl (ok_writeOut_0 hq156) ?_
  refine ob hm_26 4 38 [qr 1, qi v1, qi 0, qi 0, qu, qu] [] (c0 :: bk0 ze s126 Q zg X F j I zd zf W V H Y C K b t k a f g Z za s127 z zh zi r U O zb zc J B T G po) rfl ?_
  exact ok_packBlocks_38_0 (k111 := f_packBlocks_111 j k za r) ok_packBlocks_111_0 100000 h
theorem ok_packBlocks_0 (h : f_packBlocks j k za r R D = some (zm, zn)) : OEnds own_P 26 0 [qr 1, qu, qu, qu, qu, qu] [] (c0 :: bk0 ze R Q zg X F j I zd zf W V H Y C K b t k a f g Z za D z zh zi r U O zb zc J B T G po) (none, (c0 :: bk0 ze zm Q zg X F j I zd zf W V H Y C K b t k a f g Z za zn z zh zi r U O zb zc J B T G po), 0, 0) := by
  unfold f_packBlocks at h
  refine oa hm_26 9 14 [qr 1, qi ((r + 7) >>> ((3 : Int32) &&& 31)), qu, qu, qu, qu] [.int 512, .int ((r + 7) >>> ((3 : Int32) &&& 31))] rfl ?_
  by_cases hc157 : 512 < ((r + 7) >>> ((3 : Int32) &&& 31))
  · simp only [if_pos hc157] at h
    refine OEnds.icmpF hm_26 rfl ((tlt hc157).2.2.2) ?_
    refine oa hm_26 2 21 [qr 1, qi 512, qu, qu, qu, qu] [] rfl ?_
    exact ok_packBlocks_21_0 h
  · simp only [if_neg hc157] at h
    refine OEnds.icmpT hm_26 rfl (q := 21) rfl ((flt hc157).2.2.2) ?_
    refine oc 21 [qr 1, qi ((r + 7) >>> ((3 : Int32) &&& 31)), qu, qu, qu, qu] [] ?_
    exact ok_packBlocks_21_0 h
theorem ok_encode_49_0 : ∀ {R X F j I zd zf : List Int32} {D r U O : Int32} {d1 d2 : Slot} {res : Int32} {zm zo zk zj zv zy zz : List Int32} {zn zl ya : Int32} {yb : Int32}, f_encode_49 ze C K b k a f g Z za R X F j I zd zf D r U O = some (res, zm, zo, zk, zj, zv, zy, zz, zn, zl, ya, yb) → OEnds own_P 18 49 [qr 1, d1, d2] [] (c0 :: bk0 ze R Q zg X F j I zd zf W V H Y C K b t k a f g Z za D z zh zi r U O zb zc J B T G po) (some (.int res), (c0 :: bk0 ze zm Q zg zo zk zj zv zy zz W V H Y C K b t k a f g Z za zn z zh zi zl ya yb zb zc J B T G po), 0, 0) := by
  intro R X F j I zd zf D r U O d1 d2 res zm zo zk zj zv zy zz zn zl ya yb h
  unfold f_encode_49 at h
  refine oa hm_18 1 50 [qr 1, qu, qu] [.ref 1] rfl ?_
  obtain ⟨⟨s139, s140, s141, s142, s143, s144, s145⟩, hq158, h⟩ := bnd h
  refine OEnds.call0 hm_18 rfl rfl (by decide) rfl (as := [.ref 1]) (rest := []) rfl rfl (ok_compress_0 hq158) ?_
  refine ob hm_18 1 54 [qr 1, qu, qu] [.ref 1] (c0 :: bk0 ze R Q zg X F s139 s140 s141 s142 W V H Y C K b t k a f g Z za D z zh zi s143 s144 s145 zb zc J B T G po) rfl ?_
  obtain ⟨⟨s146, s147⟩, hq159, h⟩ := bnd h
  refine OEnds.call0 hm_18 rfl rfl (by decide) rfl (as := [.ref 1]) (rest := []) rfl rfl (ok_packBlocks_0 hq159) ?_
  refine ob hm_18 2 61 [qr 1, qu, qu] [.int s147] (c0 :: bk0 ze s146 Q zg X F s139 s140 s141 s142 W V H Y C K b t k a f g Z za s147 z zh zi s143 s144 s145 zb zc J B T G po) rfl ?_
  cases h
  exact OEnds.iret hm_18 rfl rfl
theorem ok_encode_6_0 {k49 : List Int32 → List Int32 → List Int32 → List Int32 → List Int32 → List Int32 → List Int32 → Int32 → Int32 → Int32 → Int32 → Option (Int32 × List Int32 × List Int32 × List Int32 × List Int32 × List Int32 × List Int32 × List Int32 × Int32 × Int32 × Int32 × Int32)} (hk49 : ∀ {R X F j I zd zf : List Int32} {D r U O : Int32} {d1 d2 : Slot} {res : Int32} {zm zo zk zj zv zy zz : List Int32} {zn zl ya : Int32} {yb : Int32}, k49 R X F j I zd zf D r U O = some (res, zm, zo, zk, zj, zv, zy, zz, zn, zl, ya, yb) → OEnds own_P 18 49 [qr 1, d1, d2] [] (c0 :: bk0 ze R Q zg X F j I zd zf W V H Y C K b t k a f g Z za D z zh zi r U O zb zc J B T G po) (some (.int res), (c0 :: bk0 ze zm Q zg zo zk zj zv zy zz W V H Y C K b t k a f g Z za zn z zh zi zl ya yb zb zc J B T G po), 0, 0)) : ∀ (n : Nat), ∀ {R X F j I zd zf : List Int32} {D r U O v1 : Int32} {d2 : Slot} {res : Int32} {zm zo zk zj zv zy zz : List Int32} {zn zl ya : Int32} {yb : Int32}, f_encode_6 k49 ze C K b k a f g Z za n R X F j I zd zf D r U O v1 = some (res, zm, zo, zk, zj, zv, zy, zz, zn, zl, ya, yb) → OEnds own_P 18 6 [qr 1, qi v1, d2] [] (c0 :: bk0 ze R Q zg X F j I zd zf W V H Y C K b t k a f g Z za D z zh zi r U O zb zc J B T G po) (some (.int res), (c0 :: bk0 ze zm Q zg zo zk zj zv zy zz W V H Y C K b t k a f g Z za zn z zh zi zl ya yb zb zc J B T G po), 0, 0) := by
  intro n
  induction n with
  | zero => intro R X F j I zd zf D r U O v1 d2 res zm zo zk zj zv zy zz zn zl ya yb h; cases h
  | succ n ih =>
    intro R X F j I zd zf D r U O v1 d2 res zm zo zk zj zv zy zz zn zl ya yb h
    unfold f_encode_6 at h
    refine ob hm_18 3 11 [qr 1, qi v1, qu] [.int b, .int v1] (c0 :: bk0 ze R Q zg X F j I zd zf W V H Y C K b t k a f g Z za D z zh zi r U O zb zc J B T G po) rfl ?_
    by_cases hc160 : v1 < b
    · simp only [if_pos hc160] at h
      refine OEnds.icmpF hm_18 rfl ((tlt hc160).2.1) ?_
      refine oa hm_18 2 16 [qr 1, qi v1, qu] [.int v1, .ref 1] rfl ?_
      obtain ⟨r136, hq161, h⟩ := bnd h
      refine OEnds.call0 hm_18 rfl rfl (by decide) rfl (as := [.ref 1, .int v1]) (rest := []) rfl rfl (ok_rasterOf_0 hq161) ?_
      refine ob hm_18 2 21 [qr 1, qi v1, qi r136] [.int r136] (c0 :: bk0 ze R Q zg X F j I zd zf W V H Y C K b t k a f g Z za D z zh zi r U O zb zc J B T G po) rfl ?_
      by_cases hc162 : r136 < 0
      · simp only [if_pos hc162] at h
        refine OEnds.ifT hm_18 rfl (q := 43) rfl ((tlt hc162).1) ?_
        refine oa hm_18 2 6 [qr 1, qi (v1 + 1), qi r136] [] rfl ?_
        exact ih h
      · simp only [if_neg hc162] at h
        refine OEnds.ifF hm_18 rfl ((flt hc162).1) ?_
        refine oa hm_18 2 28 [qr 1, qi v1, qi r136] [.int 256, .int r136] rfl ?_
        by_cases hc163 : r136 < 256
        · simp only [if_pos hc163] at h
          refine OEnds.icmpF hm_18 rfl ((tlt hc163).2.1) ?_
          refine oa hm_18 6 41 [qr 1, qi v1, qi r136] [.int r136, .ref 2, .int v1, .ref 7] rfl ?_
          obtain ⟨x137, hx137, h⟩ := bnd h
          refine OEnds.plain hm_18 rfl rfl (x_iaload rfl hx137) ?_
          show OEnds own_P 18 42 [qr 1, qi v1, qi r136] [.int x137, .int v1, .ref 7] (c0 :: bk0 ze R Q zg X F j I zd zf W V H Y C K b t k a f g Z za D z zh zi r U O zb zc J B T G po) _
          obtain ⟨A138, hA138, h⟩ := bnd h
          refine OEnds.plain hm_18 rfl rfl (x_iastore rfl (Nat.le_of_ble_eq_true rfl) hA138) ?_
          refine ob hm_18 2 6 [qr 1, qi (v1 + 1), qi r136] [] (c0 :: bk0 ze R Q zg X A138 j I zd zf W V H Y C K b t k a f g Z za D z zh zi r U O zb zc J B T G po) rfl ?_
          exact ih h
        · simp only [if_neg hc163] at h
          refine OEnds.icmpT hm_18 rfl (q := 43) rfl ((flt hc163).2.1) ?_
          refine oa hm_18 2 6 [qr 1, qi (v1 + 1), qi r136] [] rfl ?_
          exact ih h
    · simp only [if_neg hc160] at h
      refine OEnds.icmpT hm_18 rfl (q := 49) rfl ((flt hc160).2.1) ?_
      refine oc 49 [qr 1, qi v1, qu] [] ?_
      exact hk49 h
theorem ok_encode_0 {res : Int32} (h : f_encode ze C K b k a f g Z za R X F j I zd zf D r U O = some (res, zm, zo, zk, zj, zv, zy, zz, zn, zl, ya, yb)) : OEnds own_P 18 0 [qr 1, qu, qu] [] (c0 :: bk0 ze R Q zg X F j I zd zf W V H Y C K b t k a f g Z za D z zh zi r U O zb zc J B T G po) (some (.int res), (c0 :: bk0 ze zm Q zg zo zk zj zv zy zz W V H Y C K b t k a f g Z za zn z zh zi zl ya yb zb zc J B T G po), 0, 0) := by
  unfold f_encode at h
  refine oa hm_18 1 1 [qr 1, qu, qu] [.ref 1] rfl ?_
  obtain ⟨s135, hq164, h⟩ := bnd h
  refine OEnds.call0 hm_18 rfl rfl (by decide) rfl (as := [.ref 1]) (rest := []) rfl rfl (ok_buildRowOrder_0 hq164) ?_
  refine ob hm_18 2 6 [qr 1, qi 0, qu] [] (c0 :: bk0 ze R Q zg s135 F j I zd zf W V H Y C K b t k a f g Z za D z zh zi r U O zb zc J B T G po) rfl ?_
  exact ok_encode_6_0 (k49 := f_encode_49 ze C K b k a f g Z za) ok_encode_49_0 100000 h
theorem ok_clearInput_0 (h : f_clearInput z = some xd) : OEnds own_P 28 0 [qr 1] [] (c0 :: bk0 ze R Q zg X F j I zd zf W V H Y C K b t k a f g Z za D z zh zi r U O zb zc J B T G po) (none, (c0 :: bk0 ze R Q zg X F j I zd zf W V H Y C K b t k a f g Z za D xd zh zi r U O zb zc J B T G po), 0, 0) := by
  unfold f_clearInput at h
  refine ob hm_28 3 5 [qr 1] [] (c0 :: bk0 ze R Q zg X F j I zd zf W V H Y C K b t k a f g Z za D 0 zh zi r U O zb zc J B T G po) rfl ?_
  cases h
  exact OEnds.vret hm_28 rfl rfl
theorem ok_setInByte_0 {v1 v2 res : Int32} (h : f_setInByte z Q v1 v2 = some (res, xc)) : OEnds own_P 17 0 [qr 1, qi v1, qi v2] [] (c0 :: bk0 ze R Q zg X F j I zd zf W V H Y C K b t k a f g Z za D z zh zi r U O zb zc J B T G po) (some (.int res), (c0 :: bk0 ze R xc zg X F j I zd zf W V H Y C K b t k a f g Z za D z zh zi r U O zb zc J B T G po), 0, 0) := by
  unfold f_setInByte at h
  refine oa hm_17 1 1 [qr 1, qi v1, qi v2] [.int v1] rfl ?_
  by_cases hc165 : v1 < 0
  · simp only [if_pos hc165] at h
    refine OEnds.ifT hm_17 rfl (q := 23) rfl ((tlt hc165).1) ?_
    refine oa hm_17 1 24 [qr 1, qi v1, qi v2] [.int 0] rfl ?_
    cases h
    exact OEnds.iret hm_17 rfl rfl
  · simp only [if_neg hc165] at h
    refine OEnds.ifF hm_17 rfl ((flt hc165).1) ?_
    refine oa hm_17 3 9 [qr 1, qi v1, qi v2] [.int z, .int v1] rfl ?_
    by_cases hc166 : v1 < z
    · simp only [if_pos hc166] at h
      refine OEnds.icmpF hm_17 rfl ((tlt hc166).2.1) ?_
      refine oa hm_17 1 13 [qr 1, qi v1, qi v2] [.int v2] rfl ?_
      by_cases hc167 : v2 < 0
      · simp only [if_pos hc167] at h
        refine OEnds.ifT hm_17 rfl (q := 23) rfl ((tlt hc167).1) ?_
        refine oa hm_17 1 24 [qr 1, qi v1, qi v2] [.int 0] rfl ?_
        cases h
        exact OEnds.iret hm_17 rfl rfl
      · simp only [if_neg hc167] at h
        refine OEnds.ifF hm_17 rfl ((flt hc167).1) ?_
        refine oa hm_17 2 20 [qr 1, qi v1, qi v2] [.int 255, .int v2] rfl ?_
        by_cases hc168 : 255 < v2
        · simp only [if_pos hc168] at h
          refine OEnds.icmpF hm_17 rfl ((tlt hc168).2.2.2) ?_
          refine oa hm_17 1 24 [qr 1, qi v1, qi v2] [.int 0] rfl ?_
          cases h
          exact OEnds.iret hm_17 rfl rfl
        · simp only [if_neg hc168] at h
          refine OEnds.icmpT hm_17 rfl (q := 25) rfl ((flt hc168).2.2.2) ?_
          refine oa hm_17 4 31 [qr 1, qi v1, qi v2] [.int v2, .int v1, .ref 4] rfl ?_
          obtain ⟨A148, hA148, h⟩ := bnd h
          refine OEnds.plain hm_17 rfl rfl (x_iastore rfl (Nat.le_of_ble_eq_true rfl) hA148) ?_
          refine ob hm_17 1 33 [qr 1, qi v1, qi v2] [.int 1] (c0 :: bk0 ze R A148 zg X F j I zd zf W V H Y C K b t k a f g Z za D z zh zi r U O zb zc J B T G po) rfl ?_
          cases h
          exact OEnds.iret hm_17 rfl rfl
    · simp only [if_neg hc166] at h
      refine OEnds.icmpT hm_17 rfl (q := 23) rfl ((flt hc166).2.1) ?_
      refine oa hm_17 1 24 [qr 1, qi v1, qi v2] [.int 0] rfl ?_
      cases h
      exact OEnds.iret hm_17 rfl rfl
theorem ok_loadInFromOut_40_0 : ∀ {Q : List Int32} {z v1 : Int32} {d2 : Slot} {res : Int32} {xc : List Int32} {xd : Int32}, f_loadInFromOut_40 R D Q z v1 = some (res, xc, xd) → OEnds own_P 15 40 [qr 1, qi v1, d2] [] (c0 :: bk0 ze R Q zg X F j I zd zf W V H Y C K b t k a f g Z za D z zh zi r U O zb zc J B T G po) (some (.int res), (c0 :: bk0 ze R xc zg X F j I zd zf W V H Y C K b t k a f g Z za D xd zh zi r U O zb zc J B T G po), 0, 0) := by
  intro Q z v1 d2 res xc xd h
  unfold f_loadInFromOut_40 at h
  refine ob hm_15 5 49 [qr 1, qi v1, qu] [.int v1] (c0 :: bk0 ze R Q zg X F j I zd zf W V H Y C K b t k a f g Z za D v1 zh zi r U O zb zc J B T G po) rfl ?_
  cases h
  exact OEnds.iret hm_15 rfl rfl
theorem ok_loadInFromOut_4_0 {k40 : List Int32 → Int32 → Int32 → Option (Int32 × List Int32 × Int32)} (hk40 : ∀ {Q : List Int32} {z v1 : Int32} {d2 : Slot} {res : Int32} {xc : List Int32} {xd : Int32}, k40 Q z v1 = some (res, xc, xd) → OEnds own_P 15 40 [qr 1, qi v1, d2] [] (c0 :: bk0 ze R Q zg X F j I zd zf W V H Y C K b t k a f g Z za D z zh zi r U O zb zc J B T G po) (some (.int res), (c0 :: bk0 ze R xc zg X F j I zd zf W V H Y C K b t k a f g Z za D xd zh zi r U O zb zc J B T G po), 0, 0)) : ∀ (n : Nat), ∀ {Q : List Int32} {z v1 v2 res : Int32} {xc : List Int32} {xd : Int32}, f_loadInFromOut_4 k40 R D n Q z v1 v2 = some (res, xc, xd) → OEnds own_P 15 4 [qr 1, qi v1, qi v2] [] (c0 :: bk0 ze R Q zg X F j I zd zf W V H Y C K b t k a f g Z za D z zh zi r U O zb zc J B T G po) (some (.int res), (c0 :: bk0 ze R xc zg X F j I zd zf W V H Y C K b t k a f g Z za D xd zh zi r U O zb zc J B T G po), 0, 0) := by
  intro n
  induction n with
  | zero => intro Q z v1 v2 res xc xd h; cases h
  | succ n ih =>
    intro Q z v1 v2 res xc xd h
    unfold f_loadInFromOut_4 at h
    refine ob hm_15 3 9 [qr 1, qi v1, qi v2] [.int D, .int v2] (c0 :: bk0 ze R Q zg X F j I zd zf W V H Y C K b t k a f g Z za D z zh zi r U O zb zc J B T G po) rfl ?_
    by_cases hc169 : v2 < D
    · simp only [if_pos hc169] at h
      refine OEnds.icmpF hm_15 rfl ((tlt hc169).2.1) ?_
      refine oa hm_15 2 16 [qr 1, qi v1, qi v2] [.int 512, .int v2] rfl ?_
      by_cases hc170 : v2 < 512
      · simp only [if_pos hc170] at h
        refine OEnds.icmpF hm_15 rfl ((tlt hc170).2.1) ?_
        refine oa hm_15 6 29 [qr 1, qi v1, qi v2] [.int v2, .ref 3, .int v2, .ref 4] rfl ?_
        obtain ⟨x149, hx149, h⟩ := bnd h
        refine OEnds.plain hm_15 rfl rfl (x_iaload rfl hx149) ?_
        show OEnds own_P 15 30 [qr 1, qi v1, qi v2] [.int x149, .int v2, .ref 4] (c0 :: bk0 ze R Q zg X F j I zd zf W V H Y C K b t k a f g Z za D z zh zi r U O zb zc J B T G po) _
        obtain ⟨A150, hA150, h⟩ := bnd h
        refine OEnds.plain hm_15 rfl rfl (x_iastore rfl (Nat.le_of_ble_eq_true rfl) hA150) ?_
        refine ob hm_15 3 4 [qr 1, qi (v1 + 1), qi (v2 + 1)] [] (c0 :: bk0 ze R A150 zg X F j I zd zf W V H Y C K b t k a f g Z za D z zh zi r U O zb zc J B T G po) rfl ?_
        exact ih h
      · simp only [if_neg hc170] at h
        refine OEnds.icmpT hm_15 rfl (q := 40) rfl ((flt hc170).2.1) ?_
        refine oc 40 [qr 1, qi v1, qi v2] [] ?_
        exact hk40 h
    · simp only [if_neg hc169] at h
      refine OEnds.icmpT hm_15 rfl (q := 40) rfl ((flt hc169).2.1) ?_
      refine oc 40 [qr 1, qi v1, qi v2] [] ?_
      exact hk40 h
theorem ok_loadInFromOut_0 {res : Int32} (h : f_loadInFromOut R D Q z = some (res, xc, xd)) : OEnds own_P 15 0 [qr 1, qu, qu] [] (c0 :: bk0 ze R Q zg X F j I zd zf W V H Y C K b t k a f g Z za D z zh zi r U O zb zc J B T G po) (some (.int res), (c0 :: bk0 ze R xc zg X F j I zd zf W V H Y C K b t k a f g Z za D xd zh zi r U O zb zc J B T G po), 0, 0) := by
  unfold f_loadInFromOut at h
  refine oa hm_15 4 4 [qr 1, qi 0, qi 0] [] rfl ?_
  exact ok_loadInFromOut_4_0 (k40 := f_loadInFromOut_40 R D) ok_loadInFromOut_40_0 100000 h
theorem ok_putInByte_0 {v1 res : Int32} (h : f_putInByte Q z v1 = some (res, xc, xd)) : OEnds own_P 16 0 [qr 1, qi v1] [] (c0 :: bk0 ze R Q zg X F j I zd zf W V H Y C K b t k a f g Z za D z zh zi r U O zb zc J B T G po) (some (.int res), (c0 :: bk0 ze R xc zg X F j I zd zf W V H Y C K b t k a f g Z za D xd zh zi r U O zb zc J B T G po), 0, 0) := by
  unfold f_putInByte at h
  refine oa hm_16 1 1 [qr 1, qi v1] [.int v1] rfl ?_
  by_cases hc171 : v1 < 0
  · simp only [if_pos hc171] at h
    refine OEnds.ifT hm_16 rfl (q := 21) rfl ((tlt hc171).1) ?_
    refine oa hm_16 1 22 [qr 1, qi v1] [.int 0] rfl ?_
    cases h
    exact OEnds.iret hm_16 rfl rfl
  · simp only [if_neg hc171] at h
    refine OEnds.ifF hm_16 rfl ((flt hc171).1) ?_
    refine oa hm_16 2 8 [qr 1, qi v1] [.int 255, .int v1] rfl ?_
    by_cases hc172 : 255 < v1
    · simp only [if_pos hc172] at h
      refine OEnds.icmpT hm_16 rfl (q := 21) rfl ((tlt hc172).2.2.1) ?_
      refine oa hm_16 1 22 [qr 1, qi v1] [.int 0] rfl ?_
      cases h
      exact OEnds.iret hm_16 rfl rfl
    · simp only [if_neg hc172] at h
      refine OEnds.icmpF hm_16 rfl ((flt hc172).2.2.1) ?_
      refine oa hm_16 3 18 [qr 1, qi v1] [.int 512, .int z] rfl ?_
      by_cases hc173 : z < 512
      · simp only [if_pos hc173] at h
        refine OEnds.icmpT hm_16 rfl (q := 23) rfl ((tlt hc173).1) ?_
        refine oa hm_16 5 32 [qr 1, qi v1] [.int v1, .int z, .ref 4] rfl ?_
        obtain ⟨A151, hA151, h⟩ := bnd h
        refine OEnds.plain hm_16 rfl rfl (x_iastore rfl (Nat.le_of_ble_eq_true rfl) hA151) ?_
        refine ob hm_16 7 44 [qr 1, qi v1] [.int 1] (c0 :: bk0 ze R A151 zg X F j I zd zf W V H Y C K b t k a f g Z za D (z + 1) zh zi r U O zb zc J B T G po) rfl ?_
        cases h
        exact OEnds.iret hm_16 rfl rfl
      · simp only [if_neg hc173] at h
        refine OEnds.icmpF hm_16 rfl ((flt hc173).1) ?_
        refine oa hm_16 1 22 [qr 1, qi v1] [.int 0] rfl ?_
        cases h
        exact OEnds.iret hm_16 rfl rfl
theorem ok_setInterlaced_0 {v1 : Int32} (h : f_setInterlaced Z v1 = some xv) : OEnds own_P 6 0 [qr 1, qi v1] [] (c0 :: bk0 ze R Q zg X F j I zd zf W V H Y C K b t k a f g Z za D z zh zi r U O zb zc J B T G po) (none, (c0 :: bk0 ze R Q zg X F j I zd zf W V H Y C K b t k a f g xv za D z zh zi r U O zb zc J B T G po), 0, 0) := by
  unfold f_setInterlaced at h
  refine oa hm_6 2 2 [qr 1, qi v1] [.int v1, .ref 1] rfl ?_
  by_cases hz174 : v1 = 0 ∨ v1 = 1
  · simp only [if_pos hz174] at h
    refine OEnds.plain hm_6 rfl rfl (x_putZ rfl (Nat.le_of_ble_eq_true rfl) rfl hz174) ?_
    show OEnds own_P 6 5 [qr 1, qi v1] [] (c0 :: bk0 ze R Q zg X F j I zd zf W V H Y C K b t k a f g v1 za D z zh zi r U O zb zc J B T G po) _
    cases h
    exact OEnds.vret hm_6 rfl rfl
  · simp only [if_neg hz174] at h
    cases h
theorem ok_L_step_14_0 : ∀ {ze R Q X F j I zd zf : List Int32} {Z za D z r U O t0 : Int32} {d0 d1 d2 d3 d4 : Slot} {xr zm xc zo zk zj zv zy zz : List Int32} {xv xw zn xd zl ya : Int32} {yb : Int32}, f_L_step_14 C K b t k a f g ze R Q X F j I zd zf Z za D z r U O t0 = some (xr, zm, xc, zo, zk, zj, zv, zy, zz, xv, xw, zn, xd, zl, ya, yb) → OEnds own_P 3 14 [d0, d1, d2, d3, d4] [.int t0, .ref 1] (c0 :: bk0 ze R Q zg X F j I zd zf W V H Y C K b t k a f g Z za D z zh zi r U O zb zc J B T G po) (none, (c0 :: bk0 xr zm xc zg zo zk zj zv zy zz W V H Y C K b t k a f g xv xw zn xd zh zi zl ya yb zb zc J B T G po), 0, 0) := by
  intro ze R Q X F j I zd zf Z za D z r U O t0 d0 d1 d2 d3 d4 xr zm xc zo zk zj zv zy zz xv xw zn xd zl ya yb h
  unfold f_L_step_14 at h
  obtain ⟨s179, hq175, h⟩ := bnd h
  refine OEnds.call0 hm_3 rfl rfl (by decide) rfl (as := [.ref 1, .int t0]) (rest := []) rfl rfl (ok_setInterlaced_0 hq175) ?_
  refine ob hm_3 1 127 [qu, qu, qu, qu, qu] [] (c0 :: bk0 ze R Q zg X F j I zd zf W V H Y C K b t k a f g s179 za D z zh zi r U O zb zc J B T G po) rfl ?_
  cases h
  exact OEnds.vret hm_3 rfl rfl
theorem ok_L_step_0 {v1 v2 v3 v4 : Int32} (h : f_L_step C K b t k a f g ze R Q X F j I zd zf Z za D z r U O v1 v2 v3 v4 = some (xr, zm, xc, zo, zk, zj, zv, zy, zz, xv, xw, zn, xd, zl, ya, yb)) : OEnds own_P 3 0 [qr 1, qi v1, qi v2, qi v3, qi v4] [] (c0 :: bk0 ze R Q zg X F j I zd zf W V H Y C K b t k a f g Z za D z zh zi r U O zb zc J B T G po) (none, (c0 :: bk0 xr zm xc zg zo zk zj zv zy zz W V H Y C K b t k a f g xv xw zn xd zh zi zl ya yb zb zc J B T G po), 0, 0) := by
  unfold f_L_step at h
  refine oa hm_3 1 1 [qr 1, qi v1, qi v2, qi v3, qi v4] [.int v1] rfl ?_
  by_cases hc176 : v1 = 0
  · simp only [if_pos hc176] at h
    refine OEnds.ifF hm_3 rfl ((teq hc176).2) ?_
    refine oa hm_3 2 6 [qr 1, qi v1, qi v2, qi v3, qi v4] [.int v2, .ref 1] rfl ?_
    by_cases hc177 : v2 = 0
    · simp only [if_pos hc177] at h
      refine OEnds.ifT hm_3 rfl (q := 13) rfl ((teq hc177).1) ?_
      refine oa hm_3 1 14 [qr 1, qi v1, qi v2, qi v3, qi v4] [.int 0, .ref 1] rfl ?_
      exact ok_L_step_14_0 h
    · simp only [if_neg hc177] at h
      refine OEnds.ifF hm_3 rfl ((feq hc177).1) ?_
      refine oa hm_3 2 14 [qr 1, qi v1, qi v2, qi v3, qi v4] [.int 1, .ref 1] rfl ?_
      exact ok_L_step_14_0 h
  · simp only [if_neg hc176] at h
    refine OEnds.ifT hm_3 rfl (q := 20) rfl ((feq hc176).2) ?_
    refine oa hm_3 2 22 [qr 1, qi v1, qi v2, qi v3, qi v4] [.int 1, .int v1] rfl ?_
    by_cases hc178 : v1 = 1
    · simp only [if_pos hc178] at h
      refine OEnds.icmpF hm_3 rfl ((teq hc178).2) ?_
      refine oa hm_3 2 27 [qr 1, qi v1, qi v2, qi v3, qi v4] [.int v2, .ref 1] rfl ?_
      obtain ⟨⟨r177, s178⟩, hq179, h⟩ := bnd h
      refine OEnds.call0 hm_3 rfl rfl (by decide) rfl (as := [.ref 1, .int v2]) (rest := []) rfl rfl (ok_setBlockSize_0 hq179) ?_
      refine ob hm_3 2 127 [qr 1, qi v1, qi v2, qi v3, qi v4] [] (c0 :: bk0 ze R Q zg X F j I zd zf W V H Y C K b t k a f g Z s178 D z zh zi r U O zb zc J B T G po) rfl ?_
      cases h
      exact OEnds.vret hm_3 rfl rfl
    · simp only [if_neg hc178] at h
      refine OEnds.icmpT hm_3 rfl (q := 34) rfl ((feq hc178).2) ?_
      refine oa hm_3 2 36 [qr 1, qi v1, qi v2, qi v3, qi v4] [.int 2, .int v1] rfl ?_
      by_cases hc180 : v1 = 2
      · simp only [if_pos hc180] at h
        refine OEnds.icmpF hm_3 rfl ((teq hc180).2) ?_
        refine oa hm_3 3 42 [qr 1, qi v1, qi v2, qi v3, qi v4] [.int v3, .int v2, .ref 1] rfl ?_
        obtain ⟨⟨r175, s176⟩, hq181, h⟩ := bnd h
        refine OEnds.call0 hm_3 rfl rfl (by decide) rfl (as := [.ref 1, .int v2, .int v3]) (rest := []) rfl rfl (ok_setPixel_0 hq181) ?_
        refine ob hm_3 2 127 [qr 1, qi v1, qi v2, qi v3, qi v4] [] (c0 :: bk0 s176 R Q zg X F j I zd zf W V H Y C K b t k a f g Z za D z zh zi r U O zb zc J B T G po) rfl ?_
        cases h
        exact OEnds.vret hm_3 rfl rfl
      · simp only [if_neg hc180] at h
        refine OEnds.icmpT hm_3 rfl (q := 49) rfl ((feq hc180).2) ?_
        refine oa hm_3 2 51 [qr 1, qi v1, qi v2, qi v3, qi v4] [.int 3, .int v1] rfl ?_
        by_cases hc182 : v1 = 3
        · simp only [if_pos hc182] at h
          refine OEnds.icmpF hm_3 rfl ((teq hc182).2) ?_
          refine oa hm_3 4 59 [qr 1, qi v1, qi v2, qi v3, qi v4] [.int v4, .int v3, .int v2, .ref 1] rfl ?_
          obtain ⟨⟨r173, s174⟩, hq183, h⟩ := bnd h
          refine OEnds.call0 hm_3 rfl rfl (by decide) rfl (as := [.ref 1, .int v2, .int v3, .int v4]) (rest := []) rfl rfl (ok_fill_0 hq183) ?_
          refine ob hm_3 2 127 [qr 1, qi v1, qi v2, qi v3, qi v4] [] (c0 :: bk0 s174 R Q zg X F j I zd zf W V H Y C K b t k a f g Z za D z zh zi r U O zb zc J B T G po) rfl ?_
          cases h
          exact OEnds.vret hm_3 rfl rfl
        · simp only [if_neg hc182] at h
          refine OEnds.icmpT hm_3 rfl (q := 66) rfl ((feq hc182).2) ?_
          refine oa hm_3 2 68 [qr 1, qi v1, qi v2, qi v3, qi v4] [.int 4, .int v1] rfl ?_
          by_cases hc184 : v1 = 4
          · simp only [if_pos hc184] at h
            refine OEnds.icmpF hm_3 rfl ((teq hc184).2) ?_
            refine oa hm_3 1 72 [qr 1, qi v1, qi v2, qi v3, qi v4] [.ref 1] rfl ?_
            obtain ⟨⟨r161, s162, s163, s164, s165, s166, s167, s168, s169, s170, s171, s172⟩, hq185, h⟩ := bnd h
            refine OEnds.call0 hm_3 rfl rfl (by decide) rfl (as := [.ref 1]) (rest := []) rfl rfl (ok_encode_0 hq185) ?_
            refine ob hm_3 2 127 [qr 1, qi v1, qi v2, qi v3, qi v4] [] (c0 :: bk0 ze s162 Q zg s163 s164 s165 s166 s167 s168 W V H Y C K b t k a f g Z za s169 z zh zi s170 s171 s172 zb zc J B T G po) rfl ?_
            cases h
            exact OEnds.vret hm_3 rfl rfl
          · simp only [if_neg hc184] at h
            refine OEnds.icmpT hm_3 rfl (q := 79) rfl ((feq hc184).2) ?_
            refine oa hm_3 2 81 [qr 1, qi v1, qi v2, qi v3, qi v4] [.int 5, .int v1] rfl ?_
            by_cases hc186 : v1 = 5
            · simp only [if_pos hc186] at h
              refine OEnds.icmpF hm_3 rfl ((teq hc186).2) ?_
              refine oa hm_3 1 85 [qr 1, qi v1, qi v2, qi v3, qi v4] [.ref 1] rfl ?_
              obtain ⟨s160, hq187, h⟩ := bnd h
              refine OEnds.call0 hm_3 rfl rfl (by decide) rfl (as := [.ref 1]) (rest := []) rfl rfl (ok_clearInput_0 hq187) ?_
              refine ob hm_3 1 127 [qr 1, qi v1, qi v2, qi v3, qi v4] [] (c0 :: bk0 ze R Q zg X F j I zd zf W V H Y C K b t k a f g Z za D s160 zh zi r U O zb zc J B T G po) rfl ?_
              cases h
              exact OEnds.vret hm_3 rfl rfl
            · simp only [if_neg hc186] at h
              refine OEnds.icmpT hm_3 rfl (q := 91) rfl ((feq hc186).2) ?_
              refine oa hm_3 2 94 [qr 1, qi v1, qi v2, qi v3, qi v4] [.int 7, .int v1] rfl ?_
              by_cases hc188 : v1 = 7
              · simp only [if_pos hc188] at h
                refine OEnds.icmpF hm_3 rfl ((teq hc188).2) ?_
                refine oa hm_3 3 100 [qr 1, qi v1, qi v2, qi v3, qi v4] [.int v3, .int v2, .ref 1] rfl ?_
                obtain ⟨⟨r158, s159⟩, hq189, h⟩ := bnd h
                refine OEnds.call0 hm_3 rfl rfl (by decide) rfl (as := [.ref 1, .int v2, .int v3]) (rest := []) rfl rfl (ok_setInByte_0 hq189) ?_
                refine ob hm_3 2 127 [qr 1, qi v1, qi v2, qi v3, qi v4] [] (c0 :: bk0 ze R s159 zg X F j I zd zf W V H Y C K b t k a f g Z za D z zh zi r U O zb zc J B T G po) rfl ?_
                cases h
                exact OEnds.vret hm_3 rfl rfl
              · simp only [if_neg hc188] at h
                refine OEnds.icmpT hm_3 rfl (q := 107) rfl ((feq hc188).2) ?_
                refine oa hm_3 2 110 [qr 1, qi v1, qi v2, qi v3, qi v4] [.int 8, .int v1] rfl ?_
                by_cases hc190 : v1 = 8
                · simp only [if_pos hc190] at h
                  refine OEnds.icmpF hm_3 rfl ((teq hc190).2) ?_
                  refine oa hm_3 1 114 [qr 1, qi v1, qi v2, qi v3, qi v4] [.ref 1] rfl ?_
                  obtain ⟨⟨r155, s156, s157⟩, hq191, h⟩ := bnd h
                  refine OEnds.call0 hm_3 rfl rfl (by decide) rfl (as := [.ref 1]) (rest := []) rfl rfl (ok_loadInFromOut_0 hq191) ?_
                  refine ob hm_3 2 127 [qr 1, qi v1, qi v2, qi v3, qi v4] [] (c0 :: bk0 ze R s156 zg X F j I zd zf W V H Y C K b t k a f g Z za D s157 zh zi r U O zb zc J B T G po) rfl ?_
                  cases h
                  exact OEnds.vret hm_3 rfl rfl
                · simp only [if_neg hc190] at h
                  refine OEnds.icmpT hm_3 rfl (q := 121) rfl ((feq hc190).2) ?_
                  refine oa hm_3 2 123 [qr 1, qi v1, qi v2, qi v3, qi v4] [.int v2, .ref 1] rfl ?_
                  obtain ⟨⟨r152, s153, s154⟩, hq192, h⟩ := bnd h
                  refine OEnds.call0 hm_3 rfl rfl (by decide) rfl (as := [.ref 1, .int v2]) (rest := []) rfl rfl (ok_putInByte_0 hq192) ?_
                  refine ob hm_3 1 127 [qr 1, qi v1, qi v2, qi v3, qi v4] [] (c0 :: bk0 ze R s153 zg X F j I zd zf W V H Y C K b t k a f g Z za D s154 zh zi r U O zb zc J B T G po) rfl ?_
                  cases h
                  exact OEnds.vret hm_3 rfl rfl
theorem ok_setBlockSize_1 {v1 res : Int32} (h : f_setBlockSize za v1 = some (res, xw)) : OEnds own_P 5 0 [qr 16, qi v1] [] (bl1 c0 c1 c2 c3 c4 c5 c6 c7 c8 c9 c10 c11 c12 c13 c14 c15 ze R Q zg X F j I zd zf W V H Y C K b t k a f g Z za D z zh zi r U O zb zc J B T G po) (some (.int res), (bl1 c0 c1 c2 c3 c4 c5 c6 c7 c8 c9 c10 c11 c12 c13 c14 c15 ze R Q zg X F j I zd zf W V H Y C K b t k a f g Z xw D z zh zi r U O zb zc J B T G po), 0, 0) := by
  unfold f_setBlockSize at h
  refine oa hm_5 5 7 [qr 16, qi v1] [.int 255, .int 4, .int v1, .ref 16, .ref 16] rfl ?_
  obtain ⟨r88, hq193, h⟩ := bnd h
  refine OEnds.call0 hm_5 rfl rfl (by decide) rfl (as := [.ref 16, .int v1, .int 4, .int 255]) (rest := [.ref 16]) rfl rfl (ok_clamp_1 hq193) ?_
  refine ob hm_5 3 17 [qr 16, qi v1] [.int r88] (bl1 c0 c1 c2 c3 c4 c5 c6 c7 c8 c9 c10 c11 c12 c13 c14 c15 ze R Q zg X F j I zd zf W V H Y C K b t k a f g Z r88 D z zh zi r U O zb zc J B T G po) rfl ?_
  cases h
  exact OEnds.iret hm_5 rfl rfl
theorem ok_setPixel_1 {v1 v2 res : Int32} (h : f_setPixel b t ze v1 v2 = some (res, xr)) : OEnds own_P 7 0 [qr 16, qi v1, qi v2] [] (bl1 c0 c1 c2 c3 c4 c5 c6 c7 c8 c9 c10 c11 c12 c13 c14 c15 ze R Q zg X F j I zd zf W V H Y C K b t k a f g Z za D z zh zi r U O zb zc J B T G po) (some (.int res), (bl1 c0 c1 c2 c3 c4 c5 c6 c7 c8 c9 c10 c11 c12 c13 c14 c15 xr R Q zg X F j I zd zf W V H Y C K b t k a f g Z za D z zh zi r U O zb zc J B T G po), 0, 0) := by
  unfold f_setPixel at h
  refine oa hm_7 1 1 [qr 16, qi v1, qi v2] [.int v1] rfl ?_
  by_cases hc194 : v1 < 0
  · simp only [if_pos hc194] at h
    refine OEnds.ifT hm_7 rfl (q := 24) rfl ((tlt hc194).1) ?_
    refine oa hm_7 1 25 [qr 16, qi v1, qi v2] [.int 0] rfl ?_
    cases h
    exact OEnds.iret hm_7 rfl rfl
  · simp only [if_neg hc194] at h
    refine OEnds.ifF hm_7 rfl ((flt hc194).1) ?_
    refine oa hm_7 3 9 [qr 16, qi v1, qi v2] [.int b, .int v1] rfl ?_
    by_cases hc195 : v1 < b
    · simp only [if_pos hc195] at h
      refine OEnds.icmpF hm_7 rfl ((tlt hc195).2.1) ?_
      refine oa hm_7 1 13 [qr 16, qi v1, qi v2] [.int v2] rfl ?_
      by_cases hc196 : v2 < 0
      · simp only [if_pos hc196] at h
        refine OEnds.ifT hm_7 rfl (q := 24) rfl ((tlt hc196).1) ?_
        refine oa hm_7 1 25 [qr 16, qi v1, qi v2] [.int 0] rfl ?_
        cases h
        exact OEnds.iret hm_7 rfl rfl
      · simp only [if_neg hc196] at h
        refine OEnds.ifF hm_7 rfl ((flt hc196).1) ?_
        refine oa hm_7 3 21 [qr 16, qi v1, qi v2] [.int t, .int v2] rfl ?_
        by_cases hc197 : v2 < t
        · simp only [if_pos hc197] at h
          refine OEnds.icmpT hm_7 rfl (q := 26) rfl ((tlt hc197).1) ?_
          refine oa hm_7 4 32 [qr 16, qi v1, qi v2] [.int v2, .int v1, .ref 17] rfl ?_
          obtain ⟨A89, hA89, h⟩ := bnd h
          refine OEnds.plain hm_7 rfl rfl (x_iastore rfl (Nat.le_of_ble_eq_true rfl) hA89) ?_
          refine ob hm_7 1 34 [qr 16, qi v1, qi v2] [.int 1] (bl1 c0 c1 c2 c3 c4 c5 c6 c7 c8 c9 c10 c11 c12 c13 c14 c15 A89 R Q zg X F j I zd zf W V H Y C K b t k a f g Z za D z zh zi r U O zb zc J B T G po) rfl ?_
          cases h
          exact OEnds.iret hm_7 rfl rfl
        · simp only [if_neg hc197] at h
          refine OEnds.icmpF hm_7 rfl ((flt hc197).1) ?_
          refine oa hm_7 1 25 [qr 16, qi v1, qi v2] [.int 0] rfl ?_
          cases h
          exact OEnds.iret hm_7 rfl rfl
    · simp only [if_neg hc195] at h
      refine OEnds.icmpT hm_7 rfl (q := 24) rfl ((flt hc195).2.1) ?_
      refine oa hm_7 1 25 [qr 16, qi v1, qi v2] [.int 0] rfl ?_
      cases h
      exact OEnds.iret hm_7 rfl rfl
theorem ok_fill_46_1 : ∀ (n : Nat), ∀ {ze : List Int32} {v1 v2 v3 v4 res : Int32} {xr : List Int32}, f_fill_46 b t n ze v1 v2 v3 v4 = some (res, xr) → OEnds own_P 4 46 [qr 16, qi v1, qi v2, qi v3, qi v4] [] (bl1 c0 c1 c2 c3 c4 c5 c6 c7 c8 c9 c10 c11 c12 c13 c14 c15 ze R Q zg X F j I zd zf W V H Y C K b t k a f g Z za D z zh zi r U O zb zc J B T G po) (some (.int res), (bl1 c0 c1 c2 c3 c4 c5 c6 c7 c8 c9 c10 c11 c12 c13 c14 c15 xr R Q zg X F j I zd zf W V H Y C K b t k a f g Z za D z zh zi r U O zb zc J B T G po), 0, 0) := by
  intro n
  induction n with
  | zero => intro ze v1 v2 v3 v4 res xr h; cases h
  | succ n ih =>
    intro ze v1 v2 v3 v4 res xr h
    unfold f_fill_46 at h
    refine ob hm_4 4 51 [qr 16, qi v1, qi v2, qi v3, qi v4] [.int (v1 + v2), .int v4] (bl1 c0 c1 c2 c3 c4 c5 c6 c7 c8 c9 c10 c11 c12 c13 c14 c15 ze R Q zg X F j I zd zf W V H Y C K b t k a f g Z za D z zh zi r U O zb zc J B T G po) rfl ?_
    by_cases hc198 : v4 < (v1 + v2)
    · simp only [if_pos hc198] at h
      refine OEnds.icmpF hm_4 rfl ((tlt hc198).2.1) ?_
      refine oa hm_4 2 59 [qr 16, qi v1, qi v2, qi v3, qi v4] [.int 256, .int v4] rfl ?_
      by_cases hc199 : v4 < 256
      · simp only [if_pos hc199] at h
        refine OEnds.icmpF hm_4 rfl ((tlt hc199).2.1) ?_
        refine oa hm_4 4 69 [qr 16, qi v1, qi v2, qi v3, qi v4] [.int v3, .int v4, .ref 17] rfl ?_
        obtain ⟨A90, hA90, h⟩ := bnd h
        refine OEnds.plain hm_4 rfl rfl (x_iastore rfl (Nat.le_of_ble_eq_true rfl) hA90) ?_
        refine ob hm_4 2 46 [qr 16, qi v1, qi v2, qi v3, qi (v4 + 1)] [] (bl1 c0 c1 c2 c3 c4 c5 c6 c7 c8 c9 c10 c11 c12 c13 c14 c15 A90 R Q zg X F j I zd zf W V H Y C K b t k a f g Z za D z zh zi r U O zb zc J B T G po) rfl ?_
        exact ih h
      · simp only [if_neg hc199] at h
        refine OEnds.icmpT hm_4 rfl (q := 76) rfl ((flt hc199).2.1) ?_
        refine oa hm_4 1 77 [qr 16, qi v1, qi v2, qi v3, qi v4] [.int 1] rfl ?_
        cases h
        exact OEnds.iret hm_4 rfl rfl
    · simp only [if_neg hc198] at h
      refine OEnds.icmpT hm_4 rfl (q := 76) rfl ((flt hc198).2.1) ?_
      refine oa hm_4 1 77 [qr 16, qi v1, qi v2, qi v3, qi v4] [.int 1] rfl ?_
      cases h
      exact OEnds.iret hm_4 rfl rfl
theorem ok_fill_1 {v1 v2 v3 res : Int32} (h : f_fill b t ze v1 v2 v3 = some (res, xr)) : OEnds own_P 4 0 [qr 16, qi v1, qi v2, qi v3, qu] [] (bl1 c0 c1 c2 c3 c4 c5 c6 c7 c8 c9 c10 c11 c12 c13 c14 c15 ze R Q zg X F j I zd zf W V H Y C K b t k a f g Z za D z zh zi r U O zb zc J B T G po) (some (.int res), (bl1 c0 c1 c2 c3 c4 c5 c6 c7 c8 c9 c10 c11 c12 c13 c14 c15 xr R Q zg X F j I zd zf W V H Y C K b t k a f g Z za D z zh zi r U O zb zc J B T G po), 0, 0) := by
  unfold f_fill at h
  refine oa hm_4 1 1 [qr 16, qi v1, qi v2, qi v3, qu] [.int v3] rfl ?_
  by_cases hc200 : v3 < 0
  · simp only [if_pos hc200] at h
    refine OEnds.ifT hm_4 rfl (q := 24) rfl ((tlt hc200).1) ?_
    refine oa hm_4 1 25 [qr 16, qi v1, qi v2, qi v3, qu] [.int 0] rfl ?_
    cases h
    exact OEnds.iret hm_4 rfl rfl
  · simp only [if_neg hc200] at h
    refine OEnds.ifF hm_4 rfl ((flt hc200).1) ?_
    refine oa hm_4 3 9 [qr 16, qi v1, qi v2, qi v3, qu] [.int t, .int v3] rfl ?_
    by_cases hc201 : v3 < t
    · simp only [if_pos hc201] at h
      refine OEnds.icmpF hm_4 rfl ((tlt hc201).2.1) ?_
      refine oa hm_4 1 13 [qr 16, qi v1, qi v2, qi v3, qu] [.int v1] rfl ?_
      by_cases hc202 : v1 < 0
      · simp only [if_pos hc202] at h
        refine OEnds.ifT hm_4 rfl (q := 24) rfl ((tlt hc202).1) ?_
        refine oa hm_4 1 25 [qr 16, qi v1, qi v2, qi v3, qu] [.int 0] rfl ?_
        cases h
        exact OEnds.iret hm_4 rfl rfl
      · simp only [if_neg hc202] at h
        refine OEnds.ifF hm_4 rfl ((flt hc202).1) ?_
        refine oa hm_4 3 21 [qr 16, qi v1, qi v2, qi v3, qu] [.int b, .int v1] rfl ?_
        by_cases hc203 : v1 < b
        · simp only [if_pos hc203] at h
          refine OEnds.icmpT hm_4 rfl (q := 26) rfl ((tlt hc203).1) ?_
          refine oa hm_4 2 28 [qr 16, qi v1, qi v2, qi v3, qu] [.int 1, .int v2] rfl ?_
          by_cases hc204 : v2 < 1
          · simp only [if_pos hc204] at h
            refine OEnds.icmpT hm_4 rfl (q := 41) rfl ((tlt hc204).1) ?_
            refine oa hm_4 1 42 [qr 16, qi v1, qi v2, qi v3, qu] [.int 0] rfl ?_
            cases h
            exact OEnds.iret hm_4 rfl rfl
          · simp only [if_neg hc204] at h
            refine OEnds.icmpF hm_4 rfl ((flt hc204).1) ?_
            refine oa hm_4 5 38 [qr 16, qi v1, qi v2, qi v3, qu] [.int (b - v1), .int v2] rfl ?_
            by_cases hc205 : (b - v1) < v2
            · simp only [if_pos hc205] at h
              refine OEnds.icmpF hm_4 rfl ((tlt hc205).2.2.2) ?_
              refine oa hm_4 1 42 [qr 16, qi v1, qi v2, qi v3, qu] [.int 0] rfl ?_
              cases h
              exact OEnds.iret hm_4 rfl rfl
            · simp only [if_neg hc205] at h
              refine OEnds.icmpT hm_4 rfl (q := 43) rfl ((flt hc205).2.2.2) ?_
              refine oa hm_4 2 46 [qr 16, qi v1, qi v2, qi v3, qi v1] [] rfl ?_
              exact ok_fill_46_1 100000 h
        · simp only [if_neg hc203] at h
          refine OEnds.icmpF hm_4 rfl ((flt hc203).1) ?_
          refine oa hm_4 1 25 [qr 16, qi v1, qi v2, qi v3, qu] [.int 0] rfl ?_
          cases h
          exact OEnds.iret hm_4 rfl rfl
    · simp only [if_neg hc201] at h
      refine OEnds.icmpT hm_4 rfl (q := 24) rfl ((flt hc201).2.1) ?_
      refine oa hm_4 1 25 [qr 16, qi v1, qi v2, qi v3, qu] [.int 0] rfl ?_
      cases h
      exact OEnds.iret hm_4 rfl rfl
theorem ok_addRows_36_1 {kb : List Int32 → Int32 → Int32 → Int32 → Option (Int32 × List Int32)} (hkb : ∀ {X : List Int32} {v3 v4 v5 : Int32} {d1 d2 : Slot} {res : Int32} {zo : List Int32}, kb X v3 v4 v5 = some (res, zo) → OEnds own_P 29 6 [qr 16, d1, d2, qi v3, qi v4, qi v5] [] (bl1 c0 c1 c2 c3 c4 c5 c6 c7 c8 c9 c10 c11 c12 c13 c14 c15 ze R Q zg X F j I zd zf W V H Y C K b t k a f g Z za D z zh zi r U O zb zc J B T G po) (some (.int res), (bl1 c0 c1 c2 c3 c4 c5 c6 c7 c8 c9 c10 c11 c12 c13 c14 c15 ze R Q zg zo F j I zd zf W V H Y C K b t k a f g Z za D z zh zi r U O zb zc J B T G po), 0, 0)) : ∀ {X : List Int32} {v3 v4 v5 : Int32} {d1 d2 : Slot} {res : Int32} {zo : List Int32}, f_addRows_36 kb K X v3 v4 v5 = some (res, zo) → OEnds own_P 29 36 [qr 16, d1, d2, qi v3, qi v4, qi v5] [] (bl1 c0 c1 c2 c3 c4 c5 c6 c7 c8 c9 c10 c11 c12 c13 c14 c15 ze R Q zg X F j I zd zf W V H Y C K b t k a f g Z za D z zh zi r U O zb zc J B T G po) (some (.int res), (bl1 c0 c1 c2 c3 c4 c5 c6 c7 c8 c9 c10 c11 c12 c13 c14 c15 ze R Q zg zo F j I zd zf W V H Y C K b t k a f g Z za D z zh zi r U O zb zc J B T G po), 0, 0) := by
  intro X v3 v4 v5 d1 d2 res zo h
  unfold f_addRows_36 at h
  refine oa hm_29 6 6 [qr 16, qu, qu, qi v3, qi (v4 + 1), qi (v5 + v3)] [] rfl ?_
  exact hkb h
theorem ok_addRows_6_1 : ∀ (n : Nat), ∀ {X : List Int32} {v3 v4 v5 : Int32} {d1 d2 : Slot} {res : Int32} {zo : List Int32}, f_addRows_6 K n X v3 v4 v5 = some (res, zo) → OEnds own_P 29 6 [qr 16, d1, d2, qi v3, qi v4, qi v5] [] (bl1 c0 c1 c2 c3 c4 c5 c6 c7 c8 c9 c10 c11 c12 c13 c14 c15 ze R Q zg X F j I zd zf W V H Y C K b t k a f g Z za D z zh zi r U O zb zc J B T G po) (some (.int res), (bl1 c0 c1 c2 c3 c4 c5 c6 c7 c8 c9 c10 c11 c12 c13 c14 c15 ze R Q zg zo F j I zd zf W V H Y C K b t k a f g Z za D z zh zi r U O zb zc J B T G po), 0, 0) := by
  intro n
  induction n with
  | zero => intro X v3 v4 v5 d1 d2 res zo h; cases h
  | succ n ih =>
    intro X v3 v4 v5 d1 d2 res zo h
    unfold f_addRows_6 at h
    refine ob hm_29 3 12 [qr 16, qu, qu, qi v3, qi v4, qi v5] [.int K, .int v5] (bl1 c0 c1 c2 c3 c4 c5 c6 c7 c8 c9 c10 c11 c12 c13 c14 c15 ze R Q zg X F j I zd zf W V H Y C K b t k a f g Z za D z zh zi r U O zb zc J B T G po) rfl ?_
    by_cases hc206 : v5 < K
    · simp only [if_pos hc206] at h
      refine OEnds.icmpF hm_29 rfl ((tlt hc206).2.1) ?_
      refine oa hm_29 1 17 [qr 16, qu, qu, qi v3, qi v4, qi v5] [.int v4] rfl ?_
      by_cases hc207 : v4 < 0
      · simp only [if_pos hc207] at h
        refine OEnds.ifT hm_29 rfl (q := 36) rfl ((tlt hc207).1) ?_
        refine oc 36 [qr 16, qu, qu, qi v3, qi v4, qi v5] [] ?_
        exact ok_addRows_36_1 ih h
      · simp only [if_neg hc207] at h
        refine OEnds.ifF hm_29 rfl ((flt hc207).1) ?_
        refine oa hm_29 2 24 [qr 16, qu, qu, qi v3, qi v4, qi v5] [.int 16, .int v4] rfl ?_
        by_cases hc208 : v4 < 16
        · simp only [if_pos hc208] at h
          refine OEnds.icmpF hm_29 rfl ((tlt hc208).2.1) ?_
          refine oa hm_29 4 35 [qr 16, qu, qu, qi v3, qi v4, qi v5] [.int v5, .int v4, .ref 21] rfl ?_
          obtain ⟨A60, hA60, h⟩ := bnd h
          refine OEnds.plain hm_29 rfl rfl (x_iastore rfl (Nat.le_of_ble_eq_true rfl) hA60) ?_
          show OEnds own_P 29 36 [qr 16, qu, qu, qi v3, qi v4, qi v5] [] (bl1 c0 c1 c2 c3 c4 c5 c6 c7 c8 c9 c10 c11 c12 c13 c14 c15 ze R Q zg A60 F j I zd zf W V H Y C K b t k a f g Z za D z zh zi r U O zb zc J B T G po) _
          exact ok_addRows_36_1 ih h
        · simp only [if_neg hc208] at h
          refine OEnds.icmpT hm_29 rfl (q := 36) rfl ((flt hc208).2.1) ?_
          refine oc 36 [qr 16, qu, qu, qi v3, qi v4, qi v5] [] ?_
          exact ok_addRows_36_1 ih h
    · simp only [if_neg hc206] at h
      refine OEnds.icmpT hm_29 rfl (q := 48) rfl ((flt hc206).2.1) ?_
      refine oa hm_29 1 50 [qr 16, qu, qu, qi v3, qi v4, qi v5] [.int v4] rfl ?_
      cases h
      exact OEnds.iret hm_29 rfl rfl
theorem ok_addRows_1 {v1 v2 v3 res : Int32} (h : f_addRows K X v1 v2 v3 = some (res, zo)) : OEnds own_P 29 0 [qr 16, qi v1, qi v2, qi v3, qu, qu] [] (bl1 c0 c1 c2 c3 c4 c5 c6 c7 c8 c9 c10 c11 c12 c13 c14 c15 ze R Q zg X F j I zd zf W V H Y C K b t k a f g Z za D z zh zi r U O zb zc J B T G po) (some (.int res), (bl1 c0 c1 c2 c3 c4 c5 c6 c7 c8 c9 c10 c11 c12 c13 c14 c15 ze R Q zg zo F j I zd zf W V H Y C K b t k a f g Z za D z zh zi r U O zb zc J B T G po), 0, 0) := by
  unfold f_addRows at h
  refine oa hm_29 4 6 [qr 16, qi v1, qi v2, qi v3, qi v1, qi v2] [] rfl ?_
  exact ok_addRows_6_1 100000 h
theorem ok_buildRowOrder_9_1 : ∀ (n : Nat), ∀ {X : List Int32} {v1 : Int32} {zo : List Int32}, f_buildRowOrder_9 K Z n X v1 = some zo → OEnds own_P 19 9 [qr 16, qi v1] [] (bl1 c0 c1 c2 c3 c4 c5 c6 c7 c8 c9 c10 c11 c12 c13 c14 c15 ze R Q zg X F j I zd zf W V H Y C K b t k a f g Z za D z zh zi r U O zb zc J B T G po) (none, (bl1 c0 c1 c2 c3 c4 c5 c6 c7 c8 c9 c10 c11 c12 c13 c14 c15 ze R Q zg zo F j I zd zf W V H Y C K b t k a f g Z za D z zh zi r U O zb zc J B T G po), 0, 0) := by
  intro n
  induction n with
  | zero => intro X v1 zo h; cases h
  | succ n ih =>
    intro X v1 zo h
    unfold f_buildRowOrder_9 at h
    refine ob hm_19 3 14 [qr 16, qi v1] [.int K, .int v1] (bl1 c0 c1 c2 c3 c4 c5 c6 c7 c8 c9 c10 c11 c12 c13 c14 c15 ze R Q zg X F j I zd zf W V H Y C K b t k a f g Z za D z zh zi r U O zb zc J B T G po) rfl ?_
    by_cases hc209 : v1 < K
    · simp only [if_pos hc209] at h
      refine OEnds.icmpF hm_19 rfl ((tlt hc209).2.1) ?_
      refine oa hm_19 2 20 [qr 16, qi v1] [.int 16, .int v1] rfl ?_
      by_cases hc210 : v1 < 16
      · simp only [if_pos hc210] at h
        refine OEnds.icmpF hm_19 rfl ((tlt hc210).2.1) ?_
        refine oa hm_19 4 29 [qr 16, qi v1] [.int v1, .int v1, .ref 21] rfl ?_
        obtain ⟨A69, hA69, h⟩ := bnd h
        refine OEnds.plain hm_19 rfl rfl (x_iastore rfl (Nat.le_of_ble_eq_true rfl) hA69) ?_
        refine ob hm_19 2 9 [qr 16, qi (v1 + 1)] [] (bl1 c0 c1 c2 c3 c4 c5 c6 c7 c8 c9 c10 c11 c12 c13 c14 c15 ze R Q zg A69 F j I zd zf W V H Y C K b t k a f g Z za D z zh zi r U O zb zc J B T G po) rfl ?_
        exact ih h
      · simp only [if_neg hc210] at h
        refine OEnds.icmpT hm_19 rfl (q := 36) rfl ((flt hc210).2.1) ?_
        refine oc 36 [qr 16, qi v1] [] ?_
        cases h
        exact OEnds.vret hm_19 rfl rfl
    · simp only [if_neg hc209] at h
      refine OEnds.icmpT hm_19 rfl (q := 36) rfl ((flt hc209).2.1) ?_
      refine oc 36 [qr 16, qi v1] [] ?_
      cases h
      exact OEnds.vret hm_19 rfl rfl
theorem ok_buildRowOrder_1 (h : f_buildRowOrder K Z X = some zo) : OEnds own_P 19 0 [qr 16, qu] [] (bl1 c0 c1 c2 c3 c4 c5 c6 c7 c8 c9 c10 c11 c12 c13 c14 c15 ze R Q zg X F j I zd zf W V H Y C K b t k a f g Z za D z zh zi r U O zb zc J B T G po) (none, (bl1 c0 c1 c2 c3 c4 c5 c6 c7 c8 c9 c10 c11 c12 c13 c14 c15 ze R Q zg zo F j I zd zf W V H Y C K b t k a f g Z za D z zh zi r U O zb zc J B T G po), 0, 0) := by
  unfold f_buildRowOrder at h
  refine oa hm_19 2 4 [qr 16, qu] [.int Z] rfl ?_
  by_cases hc211 : Z = 0
  · simp only [if_pos hc211] at h
    refine OEnds.ifF hm_19 rfl ((teq hc211).2) ?_
    refine oa hm_19 2 9 [qr 16, qi 0] [] rfl ?_
    exact ok_buildRowOrder_9_1 100000 h
  · simp only [if_neg hc211] at h
    refine OEnds.ifT hm_19 rfl (q := 37) rfl ((feq hc211).2) ?_
    refine oa hm_19 4 42 [qr 16, qu] [.int 8, .int 0, .int 0, .ref 16] rfl ?_
    obtain ⟨⟨r61, s62⟩, hq212, h⟩ := bnd h
    refine OEnds.call0 hm_19 rfl rfl (by decide) rfl (as := [.ref 16, .int 0, .int 0, .int 8]) (rest := []) rfl rfl (ok_addRows_1 hq212) ?_
    refine ob hm_19 5 51 [qr 16, qi r61] [.int 8, .int 4, .int r61, .ref 16] (bl1 c0 c1 c2 c3 c4 c5 c6 c7 c8 c9 c10 c11 c12 c13 c14 c15 ze R Q zg s62 F j I zd zf W V H Y C K b t k a f g Z za D z zh zi r U O zb zc J B T G po) rfl ?_
    obtain ⟨⟨r63, s64⟩, hq213, h⟩ := bnd h
    refine OEnds.call0 hm_19 rfl rfl (by decide) rfl (as := [.ref 16, .int r61, .int 4, .int 8]) (rest := []) rfl rfl (ok_addRows_1 hq213) ?_
    refine ob hm_19 5 59 [qr 16, qi r63] [.int 4, .int 2, .int r63, .ref 16] (bl1 c0 c1 c2 c3 c4 c5 c6 c7 c8 c9 c10 c11 c12 c13 c14 c15 ze R Q zg s64 F j I zd zf W V H Y C K b t k a f g Z za D z zh zi r U O zb zc J B T G po) rfl ?_
    obtain ⟨⟨r65, s66⟩, hq214, h⟩ := bnd h
    refine OEnds.call0 hm_19 rfl rfl (by decide) rfl (as := [.ref 16, .int r63, .int 2, .int 4]) (rest := []) rfl rfl (ok_addRows_1 hq214) ?_
    refine ob hm_19 5 67 [qr 16, qi r65] [.int 2, .int 1, .int r65, .ref 16] (bl1 c0 c1 c2 c3 c4 c5 c6 c7 c8 c9 c10 c11 c12 c13 c14 c15 ze R Q zg s66 F j I zd zf W V H Y C K b t k a f g Z za D z zh zi r U O zb zc J B T G po) rfl ?_
    obtain ⟨⟨r67, s68⟩, hq215, h⟩ := bnd h
    refine OEnds.call0 hm_19 rfl rfl (by decide) rfl (as := [.ref 16, .int r65, .int 1, .int 2]) (rest := []) rfl rfl (ok_addRows_1 hq215) ?_
    refine ob hm_19 1 71 [qr 16, qi r65] [] (bl1 c0 c1 c2 c3 c4 c5 c6 c7 c8 c9 c10 c11 c12 c13 c14 c15 ze R Q zg s68 F j I zd zf W V H Y C K b t k a f g Z za D z zh zi r U O zb zc J B T G po) rfl ?_
    cases h
    exact OEnds.vret hm_19 rfl rfl
theorem ok_rasterOf_1 {v1 res : Int32} (h : f_rasterOf X C v1 = some res) : OEnds own_P 20 0 [qr 16, qi v1, qu, qu] [] (bl1 c0 c1 c2 c3 c4 c5 c6 c7 c8 c9 c10 c11 c12 c13 c14 c15 ze R Q zg X F j I zd zf W V H Y C K b t k a f g Z za D z zh zi r U O zb zc J B T G po) (some (.int res), (bl1 c0 c1 c2 c3 c4 c5 c6 c7 c8 c9 c10 c11 c12 c13 c14 c15 ze R Q zg X F j I zd zf W V H Y C K b t k a f g Z za D z zh zi r U O zb zc J B T G po), 0, 0) := by
  unfold f_rasterOf at h
  refine oa hm_20 3 5 [qr 16, qi v1, qu, qu] [.int C, .int v1] rfl ?_
  by_cases hz216 : C = 0
  · simp only [if_pos hz216] at h
    cases h
  simp only [if_neg hz216] at h
  refine OEnds.plain hm_20 rfl rfl (x_idiv hz216) ?_
  refine ob hm_20 4 12 [qr 16, qi v1, qi (v1 / C), qu] [.int C, .int v1] (bl1 c0 c1 c2 c3 c4 c5 c6 c7 c8 c9 c10 c11 c12 c13 c14 c15 ze R Q zg X F j I zd zf W V H Y C K b t k a f g Z za D z zh zi r U O zb zc J B T G po) rfl ?_
  refine OEnds.plain hm_20 rfl rfl (x_irem hz216) ?_
  refine ob hm_20 2 15 [qr 16, qi v1, qi (v1 / C), qi (v1 % C)] [.int (v1 / C)] (bl1 c0 c1 c2 c3 c4 c5 c6 c7 c8 c9 c10 c11 c12 c13 c14 c15 ze R Q zg X F j I zd zf W V H Y C K b t k a f g Z za D z zh zi r U O zb zc J B T G po) rfl ?_
  by_cases hc217 : (v1 / C) < 0
  · simp only [if_pos hc217] at h
    refine OEnds.ifT hm_20 rfl (q := 24) rfl ((tlt hc217).1) ?_
    refine oa hm_20 1 25 [qr 16, qi v1, qi (v1 / C), qi (v1 % C)] [.int 0] rfl ?_
    cases h
    exact OEnds.iret hm_20 rfl rfl
  · simp only [if_neg hc217] at h
    refine OEnds.ifF hm_20 rfl ((flt hc217).1) ?_
    refine oa hm_20 2 21 [qr 16, qi v1, qi (v1 / C), qi (v1 % C)] [.int 16, .int (v1 / C)] rfl ?_
    by_cases hc218 : (v1 / C) < 16
    · simp only [if_pos hc218] at h
      refine OEnds.icmpT hm_20 rfl (q := 26) rfl ((tlt hc218).1) ?_
      refine oa hm_20 3 31 [qr 16, qi v1, qi (v1 / C), qi (v1 % C)] [.int (v1 / C), .ref 21] rfl ?_
      obtain ⟨x70, hx70, h⟩ := bnd h
      refine OEnds.plain hm_20 rfl rfl (x_iaload rfl hx70) ?_
      refine ob hm_20 5 39 [qr 16, qi v1, qi (v1 / C), qi (v1 % C)] [.int ((x70 * C) + (v1 % C))] (bl1 c0 c1 c2 c3 c4 c5 c6 c7 c8 c9 c10 c11 c12 c13 c14 c15 ze R Q zg X F j I zd zf W V H Y C K b t k a f g Z za D z zh zi r U O zb zc J B T G po) rfl ?_
      cases h
      exact OEnds.iret hm_20 rfl rfl
    · simp only [if_neg hc218] at h
      refine OEnds.icmpF hm_20 rfl ((flt hc218).1) ?_
      refine oa hm_20 1 25 [qr 16, qi v1, qi (v1 / C), qi (v1 % C)] [.int 0] rfl ?_
      cases h
      exact OEnds.iret hm_20 rfl rfl
theorem ok_resetEncoderTable_2_1 : ∀ (n : Nat), ∀ {I : List Int32} {v1 v2 : Int32} {zv : List Int32}, f_resetEncoderTable_2 n I v1 v2 = some zv → OEnds own_P 22 2 [qr 16, qi v1, qi v2] [] (bl1 c0 c1 c2 c3 c4 c5 c6 c7 c8 c9 c10 c11 c12 c13 c14 c15 ze R Q zg X F j I zd zf W V H Y C K b t k a f g Z za D z zh zi r U O zb zc J B T G po) (none, (bl1 c0 c1 c2 c3 c4 c5 c6 c7 c8 c9 c10 c11 c12 c13 c14 c15 ze R Q zg X F j zv zd zf W V H Y C K b t k a f g Z za D z zh zi r U O zb zc J B T G po), 0, 0) := by
  intro n
  induction n with
  | zero => intro I v1 v2 zv h; cases h
  | succ n ih =>
    intro I v1 v2 zv h
    unfold f_resetEncoderTable_2 at h
    refine ob hm_22 2 4 [qr 16, qi v1, qi v2] [.int v1, .int v2] (bl1 c0 c1 c2 c3 c4 c5 c6 c7 c8 c9 c10 c11 c12 c13 c14 c15 ze R Q zg X F j I zd zf W V H Y C K b t k a f g Z za D z zh zi r U O zb zc J B T G po) rfl ?_
    by_cases hc219 : v2 < v1
    · simp only [if_pos hc219] at h
      refine OEnds.icmpF hm_22 rfl ((tlt hc219).2.1) ?_
      refine oa hm_22 2 11 [qr 16, qi v1, qi v2] [.int 512, .int v2] rfl ?_
      by_cases hc220 : v2 < 512
      · simp only [if_pos hc220] at h
        refine OEnds.icmpF hm_22 rfl ((tlt hc220).2.1) ?_
        refine oa hm_22 4 20 [qr 16, qi v1, qi v2] [.int (-1), .int v2, .ref 24] rfl ?_
        obtain ⟨A91, hA91, h⟩ := bnd h
        refine OEnds.plain hm_22 rfl rfl (x_iastore rfl (Nat.le_of_ble_eq_true rfl) hA91) ?_
        refine ob hm_22 2 2 [qr 16, qi v1, qi (v2 + 1)] [] (bl1 c0 c1 c2 c3 c4 c5 c6 c7 c8 c9 c10 c11 c12 c13 c14 c15 ze R Q zg X F j A91 zd zf W V H Y C K b t k a f g Z za D z zh zi r U O zb zc J B T G po) rfl ?_
        exact ih h
      · simp only [if_neg hc220] at h
        refine OEnds.icmpT hm_22 rfl (q := 27) rfl ((flt hc220).2.1) ?_
        refine oc 27 [qr 16, qi v1, qi v2] [] ?_
        cases h
        exact OEnds.vret hm_22 rfl rfl
    · simp only [if_neg hc219] at h
      refine OEnds.icmpT hm_22 rfl (q := 27) rfl ((flt hc219).2.1) ?_
      refine oc 27 [qr 16, qi v1, qi v2] [] ?_
      cases h
      exact OEnds.vret hm_22 rfl rfl
theorem ok_resetEncoderTable_1 {v1 : Int32} (h : f_resetEncoderTable I v1 = some zv) : OEnds own_P 22 0 [qr 16, qi v1, qu] [] (bl1 c0 c1 c2 c3 c4 c5 c6 c7 c8 c9 c10 c11 c12 c13 c14 c15 ze R Q zg X F j I zd zf W V H Y C K b t k a f g Z za D z zh zi r U O zb zc J B T G po) (none, (bl1 c0 c1 c2 c3 c4 c5 c6 c7 c8 c9 c10 c11 c12 c13 c14 c15 ze R Q zg X F j zv zd zf W V H Y C K b t k a f g Z za D z zh zi r U O zb zc J B T G po), 0, 0) := by
  unfold f_resetEncoderTable at h
  refine oa hm_22 2 2 [qr 16, qi v1, qi 0] [] rfl ?_
  exact ok_resetEncoderTable_2_1 100000 h
theorem ok_putCode_74_1 {kb : List Int32 → Int32 → Int32 → Int32 → Option (List Int32 × Int32)} (hkb : ∀ {j : List Int32} {r v1 v2 : Int32} {d3 d4 : Slot} {zj : List Int32} {zl : Int32}, kb j r v1 v2 = some (zj, zl) → OEnds own_P 23 2 [qr 16, qi v1, qi v2, d3, d4] [] (bl1 c0 c1 c2 c3 c4 c5 c6 c7 c8 c9 c10 c11 c12 c13 c14 c15 ze R Q zg X F j I zd zf W V H Y C K b t k a f g Z za D z zh zi r U O zb zc J B T G po) (none, (bl1 c0 c1 c2 c3 c4 c5 c6 c7 c8 c9 c10 c11 c12 c13 c14 c15 ze R Q zg X F zj I zd zf W V H Y C K b t k a f g Z za D z zh zi zl U O zb zc J B T G po), 0, 0)) : ∀ {j : List Int32} {r v1 v2 : Int32} {d3 d4 : Slot} {zj : List Int32} {zl : Int32}, f_putCode_74 kb U j r v1 v2 = some (zj, zl) → OEnds own_P 23 74 [qr 16, qi v1, qi v2, d3, d4] [] (bl1 c0 c1 c2 c3 c4 c5 c6 c7 c8 c9 c10 c11 c12 c13 c14 c15 ze R Q zg X F j I zd zf W V H Y C K b t k a f g Z za D z zh zi r U O zb zc J B T G po) (none, (bl1 c0 c1 c2 c3 c4 c5 c6 c7 c8 c9 c10 c11 c12 c13 c14 c15 ze R Q zg X F zj I zd zf W V H Y C K b t k a f g Z za D z zh zi zl U O zb zc J B T G po), 0, 0) := by
  intro j r v1 v2 d3 d4 zj zl h
  unfold f_putCode_74 at h
  refine ob hm_23 8 2 [qr 16, qi v1, qi (v2 + 1), qu, qu] [] (bl1 c0 c1 c2 c3 c4 c5 c6 c7 c8 c9 c10 c11 c12 c13 c14 c15 ze R Q zg X F j I zd zf W V H Y C K b t k a f g Z za D z zh zi (r + 1) U O zb zc J B T G po) rfl ?_
  exact hkb h
theorem ok_putCode_49_1 {kb : List Int32 → Int32 → Int32 → Int32 → Option (List Int32 × Int32)} (hkb : ∀ {j : List Int32} {r v1 v2 : Int32} {d3 d4 : Slot} {zj : List Int32} {zl : Int32}, kb j r v1 v2 = some (zj, zl) → OEnds own_P 23 2 [qr 16, qi v1, qi v2, d3, d4] [] (bl1 c0 c1 c2 c3 c4 c5 c6 c7 c8 c9 c10 c11 c12 c13 c14 c15 ze R Q zg X F j I zd zf W V H Y C K b t k a f g Z za D z zh zi r U O zb zc J B T G po) (none, (bl1 c0 c1 c2 c3 c4 c5 c6 c7 c8 c9 c10 c11 c12 c13 c14 c15 ze R Q zg X F zj I zd zf W V H Y C K b t k a f g Z za D z zh zi zl U O zb zc J B T G po), 0, 0)) : ∀ {j : List Int32} {r v1 v2 v3 v4 : Int32} {zj : List Int32} {zl : Int32}, f_putCode_49 kb U j r v1 v2 v3 v4 = some (zj, zl) → OEnds own_P 23 49 [qr 16, qi v1, qi v2, qi v3, qi v4] [] (bl1 c0 c1 c2 c3 c4 c5 c6 c7 c8 c9 c10 c11 c12 c13 c14 c15 ze R Q zg X F j I zd zf W V H Y C K b t k a f g Z za D z zh zi r U O zb zc J B T G po) (none, (bl1 c0 c1 c2 c3 c4 c5 c6 c7 c8 c9 c10 c11 c12 c13 c14 c15 ze R Q zg X F zj I zd zf W V H Y C K b t k a f g Z za D z zh zi zl U O zb zc J B T G po), 0, 0) := by
  intro j r v1 v2 v3 v4 zj zl h
  unfold f_putCode_49 at h
  refine oa hm_23 5 54 [qr 16, qi v1, qi v2, qi v3, qi v4] [.int ((v1 >>> (v2 &&& 31)) &&& 1)] rfl ?_
  by_cases hc221 : ((v1 >>> (v2 &&& 31)) &&& 1) = 0
  · simp only [if_pos hc221] at h
    refine OEnds.ifT hm_23 rfl (q := 74) rfl ((teq hc221).1) ?_
    refine oc 74 [qr 16, qi v1, qi v2, qi v3, qi v4] [] ?_
    exact ok_putCode_74_1 hkb h
  · simp only [if_neg hc221] at h
    refine OEnds.ifF hm_23 rfl ((feq hc221).1) ?_
    refine oa hm_23 6 67 [qr 16, qi v1, qi v2, qi v3, qi v4] [.int v3, .ref 23, .int v3, .ref 23] rfl ?_
    obtain ⟨x93, hx93, h⟩ := bnd h
    refine OEnds.plain hm_23 rfl rfl (x_iaload rfl hx93) ?_
    refine ob hm_23 4 73 [qr 16, qi v1, qi v2, qi v3, qi v4] [.int (x93 ||| ((1 : Int32) <<< (v4 &&& 31))), .int v3, .ref 23] (bl1 c0 c1 c2 c3 c4 c5 c6 c7 c8 c9 c10 c11 c12 c13 c14 c15 ze R Q zg X F j I zd zf W V H Y C K b t k a f g Z za D z zh zi r U O zb zc J B T G po) rfl ?_
    obtain ⟨A94, hA94, h⟩ := bnd h
    refine OEnds.plain hm_23 rfl rfl (x_iastore rfl (Nat.le_of_ble_eq_true rfl) hA94) ?_
    show OEnds own_P 23 74 [qr 16, qi v1, qi v2, qi v3, qi v4] [] (bl1 c0 c1 c2 c3 c4 c5 c6 c7 c8 c9 c10 c11 c12 c13 c14 c15 ze R Q zg X F A94 I zd zf W V H Y C K b t k a f g Z za D z zh zi r U O zb zc J B T G po) _
    exact ok_putCode_74_1 hkb h
theorem ok_putCode_2_1 : ∀ (n : Nat), ∀ {j : List Int32} {r v1 v2 : Int32} {d3 d4 : Slot} {zj : List Int32} {zl : Int32}, f_putCode_2 U n j r v1 v2 = some (zj, zl) → OEnds own_P 23 2 [qr 16, qi v1, qi v2, d3, d4] [] (bl1 c0 c1 c2 c3 c4 c5 c6 c7 c8 c9 c10 c11 c12 c13 c14 c15 ze R Q zg X F j I zd zf W V H Y C K b t k a f g Z za D z zh zi r U O zb zc J B T G po) (none, (bl1 c0 c1 c2 c3 c4 c5 c6 c7 c8 c9 c10 c11 c12 c13 c14 c15 ze R Q zg X F zj I zd zf W V H Y C K b t k a f g Z za D z zh zi zl U O zb zc J B T G po), 0, 0) := by
  intro n
  induction n with
  | zero => intro j r v1 v2 d3 d4 zj zl h; cases h
  | succ n ih =>
    intro j r v1 v2 d3 d4 zj zl h
    unfold f_putCode_2 at h
    refine ob hm_23 3 7 [qr 16, qi v1, qi v2, qu, qu] [.int U, .int v2] (bl1 c0 c1 c2 c3 c4 c5 c6 c7 c8 c9 c10 c11 c12 c13 c14 c15 ze R Q zg X F j I zd zf W V H Y C K b t k a f g Z za D z zh zi r U O zb zc J B T G po) rfl ?_
    by_cases hc222 : v2 < U
    · simp only [if_pos hc222] at h
      refine OEnds.icmpF hm_23 rfl ((tlt hc222).2.1) ?_
      refine oa hm_23 11 27 [qr 16, qi v1, qi v2, qi (r >>> ((3 : Int32) &&& 31)), qi (r &&& 7)] [.int (r >>> ((3 : Int32) &&& 31))] rfl ?_
      by_cases hc223 : (r >>> ((3 : Int32) &&& 31)) < 0
      · simp only [if_pos hc223] at h
        refine OEnds.ifT hm_23 rfl (q := 74) rfl ((tlt hc223).1) ?_
        refine oc 74 [qr 16, qi v1, qi v2, qi (r >>> ((3 : Int32) &&& 31)), qi (r &&& 7)] [] ?_
        exact ok_putCode_74_1 ih h
      · simp only [if_neg hc223] at h
        refine OEnds.ifF hm_23 rfl ((flt hc223).1) ?_
        refine oa hm_23 2 34 [qr 16, qi v1, qi v2, qi (r >>> ((3 : Int32) &&& 31)), qi (r &&& 7)] [.int 512, .int (r >>> ((3 : Int32) &&& 31))] rfl ?_
        by_cases hc224 : (r >>> ((3 : Int32) &&& 31)) < 512
        · simp only [if_pos hc224] at h
          refine OEnds.icmpF hm_23 rfl ((tlt hc224).2.1) ?_
          refine oa hm_23 1 39 [qr 16, qi v1, qi v2, qi (r >>> ((3 : Int32) &&& 31)), qi (r &&& 7)] [.int (r &&& 7)] rfl ?_
          by_cases hc225 : (r &&& 7) = 0
          · simp only [if_pos hc225] at h
            refine OEnds.ifF hm_23 rfl ((teq hc225).2) ?_
            refine oa hm_23 4 48 [qr 16, qi v1, qi v2, qi (r >>> ((3 : Int32) &&& 31)), qi (r &&& 7)] [.int 0, .int (r >>> ((3 : Int32) &&& 31)), .ref 23] rfl ?_
            obtain ⟨A92, hA92, h⟩ := bnd h
            refine OEnds.plain hm_23 rfl rfl (x_iastore rfl (Nat.le_of_ble_eq_true rfl) hA92) ?_
            show OEnds own_P 23 49 [qr 16, qi v1, qi v2, qi (r >>> ((3 : Int32) &&& 31)), qi (r &&& 7)] [] (bl1 c0 c1 c2 c3 c4 c5 c6 c7 c8 c9 c10 c11 c12 c13 c14 c15 ze R Q zg X F A92 I zd zf W V H Y C K b t k a f g Z za D z zh zi r U O zb zc J B T G po) _
            exact ok_putCode_49_1 ih h
          · simp only [if_neg hc225] at h
            refine OEnds.ifT hm_23 rfl (q := 49) rfl ((feq hc225).2) ?_
            refine oc 49 [qr 16, qi v1, qi v2, qi (r >>> ((3 : Int32) &&& 31)), qi (r &&& 7)] [] ?_
            exact ok_putCode_49_1 ih h
        · simp only [if_neg hc224] at h
          refine OEnds.icmpT hm_23 rfl (q := 74) rfl ((flt hc224).2.1) ?_
          refine oc 74 [qr 16, qi v1, qi v2, qi (r >>> ((3 : Int32) &&& 31)), qi (r &&& 7)] [] ?_
          exact ok_putCode_74_1 ih h
    · simp only [if_neg hc222] at h
      refine OEnds.icmpT hm_23 rfl (q := 90) rfl ((flt hc222).2.1) ?_
      refine oc 90 [qr 16, qi v1, qi v2, qu, qu] [] ?_
      cases h
      exact OEnds.vret hm_23 rfl rfl
theorem ok_putCode_1 {v1 : Int32} (h : f_putCode U j r v1 = some (zj, zl)) : OEnds own_P 23 0 [qr 16, qi v1, qu, qu, qu] [] (bl1 c0 c1 c2 c3 c4 c5 c6 c7 c8 c9 c10 c11 c12 c13 c14 c15 ze R Q zg X F j I zd zf W V H Y C K b t k a f g Z za D z zh zi r U O zb zc J B T G po) (none, (bl1 c0 c1 c2 c3 c4 c5 c6 c7 c8 c9 c10 c11 c12 c13 c14 c15 ze R Q zg X F zj I zd zf W V H Y C K b t k a f g Z za D z zh zi zl U O zb zc J B T G po), 0, 0) := by
  unfold f_putCode at h
  refine oa hm_23 2 2 [qr 16, qi v1, qi 0, qu, qu] [] rfl ?_
  exact ok_putCode_2_1 100000 h
theorem ok_findChild_23_1 : ∀ (n : Nat), ∀ {v2 v3 v4 : Int32} {d1 : Slot} {res : Int32}, f_findChild_23 I zd zf n v2 v3 v4 = some res → OEnds own_P 24 23 [qr 16, d1, qi v2, qi v3, qi v4] [] (bl1 c0 c1 c2 c3 c4 c5 c6 c7 c8 c9 c10 c11 c12 c13 c14 c15 ze R Q zg X F j I zd zf W V H Y C K b t k a f g Z za D z zh zi r U O zb zc J B T G po) (some (.int res), (bl1 c0 c1 c2 c3 c4 c5 c6 c7 c8 c9 c10 c11 c12 c13 c14 c15 ze R Q zg X F j I zd zf W V H Y C K b t k a f g Z za D z zh zi r U O zb zc J B T G po), 0, 0) := by
  intro n
  induction n with
  | zero => intro v2 v3 v4 d1 res h; cases h
  | succ n ih =>
    intro v2 v3 v4 d1 res h
    unfold f_findChild_23 at h
    refine ob hm_24 2 28 [qr 16, qu, qi v2, qi v3, qi v4] [.int 512, .int v4] (bl1 c0 c1 c2 c3 c4 c5 c6 c7 c8 c9 c10 c11 c12 c13 c14 c15 ze R Q zg X F j I zd zf W V H Y C K b t k a f g Z za D z zh zi r U O zb zc J B T G po) rfl ?_
    by_cases hc226 : v4 < 512
    · simp only [if_pos hc226] at h
      refine OEnds.icmpF hm_24 rfl ((tlt hc226).2.1) ?_
      refine oa hm_24 1 32 [qr 16, qu, qi v2, qi v3, qi v4] [.int v3] rfl ?_
      by_cases hc227 : v3 < 0
      · simp only [if_pos hc227] at h
        refine OEnds.ifT hm_24 rfl (q := 67) rfl ((tlt hc227).1) ?_
        refine oa hm_24 1 68 [qr 16, qu, qi v2, qi v3, qi v4] [.int (-1)] rfl ?_
        cases h
        exact OEnds.iret hm_24 rfl rfl
      · simp only [if_neg hc227] at h
        refine OEnds.ifF hm_24 rfl ((flt hc227).1) ?_
        refine oa hm_24 2 39 [qr 16, qu, qi v2, qi v3, qi v4] [.int 512, .int v3] rfl ?_
        by_cases hc228 : v3 < 512
        · simp only [if_pos hc228] at h
          refine OEnds.icmpF hm_24 rfl ((tlt hc228).2.1) ?_
          refine oa hm_24 3 47 [qr 16, qu, qi v2, qi v3, qi v4] [.int v3, .ref 26] rfl ?_
          obtain ⟨x96, hx96, h⟩ := bnd h
          refine OEnds.plain hm_24 rfl rfl (x_iaload rfl hx96) ?_
          refine ob hm_24 1 49 [qr 16, qu, qi v2, qi v3, qi v4] [.int v2, .int x96] (bl1 c0 c1 c2 c3 c4 c5 c6 c7 c8 c9 c10 c11 c12 c13 c14 c15 ze R Q zg X F j I zd zf W V H Y C K b t k a f g Z za D z zh zi r U O zb zc J B T G po) rfl ?_
          by_cases hc229 : x96 = v2
          · simp only [if_pos hc229] at h
            refine OEnds.icmpF hm_24 rfl ((teq hc229).2) ?_
            refine oa hm_24 1 53 [qr 16, qu, qi v2, qi v3, qi v4] [.int v3] rfl ?_
            cases h
            exact OEnds.iret hm_24 rfl rfl
          · simp only [if_neg hc229] at h
            refine OEnds.icmpT hm_24 rfl (q := 54) rfl ((feq hc229).2) ?_
            refine oa hm_24 3 59 [qr 16, qu, qi v2, qi v3, qi v4] [.int v3, .ref 25] rfl ?_
            obtain ⟨x97, hx97, h⟩ := bnd h
            refine OEnds.plain hm_24 rfl rfl (x_iaload rfl hx97) ?_
            refine ob hm_24 3 23 [qr 16, qu, qi v2, qi x97, qi (v4 + 1)] [] (bl1 c0 c1 c2 c3 c4 c5 c6 c7 c8 c9 c10 c11 c12 c13 c14 c15 ze R Q zg X F j I zd zf W V H Y C K b t k a f g Z za D z zh zi r U O zb zc J B T G po) rfl ?_
            exact ih h
        · simp only [if_neg hc228] at h
          refine OEnds.icmpT hm_24 rfl (q := 67) rfl ((flt hc228).2.1) ?_
          refine oa hm_24 1 68 [qr 16, qu, qi v2, qi v3, qi v4] [.int (-1)] rfl ?_
          cases h
          exact OEnds.iret hm_24 rfl rfl
    · simp only [if_neg hc226] at h
      refine OEnds.icmpT hm_24 rfl (q := 67) rfl ((flt hc226).2.1) ?_
      refine oa hm_24 1 68 [qr 16, qu, qi v2, qi v3, qi v4] [.int (-1)] rfl ?_
      cases h
      exact OEnds.iret hm_24 rfl rfl
theorem ok_findChild_1 {v1 v2 res : Int32} (h : f_findChild I zd zf v1 v2 = some res) : OEnds own_P 24 0 [qr 16, qi v1, qi v2, qu, qu] [] (bl1 c0 c1 c2 c3 c4 c5 c6 c7 c8 c9 c10 c11 c12 c13 c14 c15 ze R Q zg X F j I zd zf W V H Y C K b t k a f g Z za D z zh zi r U O zb zc J B T G po) (some (.int res), (bl1 c0 c1 c2 c3 c4 c5 c6 c7 c8 c9 c10 c11 c12 c13 c14 c15 ze R Q zg X F j I zd zf W V H Y C K b t k a f g Z za D z zh zi r U O zb zc J B T G po), 0, 0) := by
  unfold f_findChild at h
  refine oa hm_24 1 1 [qr 16, qi v1, qi v2, qu, qu] [.int v1] rfl ?_
  by_cases hc230 : v1 < 0
  · simp only [if_pos hc230] at h
    refine OEnds.ifT hm_24 rfl (q := 11) rfl ((tlt hc230).1) ?_
    refine oa hm_24 1 12 [qr 16, qi v1, qi v2, qu, qu] [.int (-1)] rfl ?_
    cases h
    exact OEnds.iret hm_24 rfl rfl
  · simp only [if_neg hc230] at h
    refine OEnds.ifF hm_24 rfl ((flt hc230).1) ?_
    refine oa hm_24 2 8 [qr 16, qi v1, qi v2, qu, qu] [.int 512, .int v1] rfl ?_
    by_cases hc231 : v1 < 512
    · simp only [if_pos hc231] at h
      refine OEnds.icmpT hm_24 rfl (q := 13) rfl ((tlt hc231).1) ?_
      refine oa hm_24 3 18 [qr 16, qi v1, qi v2, qu, qu] [.int v1, .ref 24] rfl ?_
      obtain ⟨x95, hx95, h⟩ := bnd h
      refine OEnds.plain hm_24 rfl rfl (x_iaload rfl hx95) ?_
      refine ob hm_24 3 23 [qr 16, qi v1, qi v2, qi x95, qi 0] [] (bl1 c0 c1 c2 c3 c4 c5 c6 c7 c8 c9 c10 c11 c12 c13 c14 c15 ze R Q zg X F j I zd zf W V H Y C K b t k a f g Z za D z zh zi r U O zb zc J B T G po) rfl ?_
      exact ok_findChild_23_1 100000 h
    · simp only [if_neg hc231] at h
      refine OEnds.icmpF hm_24 rfl ((flt hc231).1) ?_
      refine oa hm_24 1 12 [qr 16, qi v1, qi v2, qu, qu] [.int (-1)] rfl ?_
      cases h
      exact OEnds.iret hm_24 rfl rfl
theorem ok_addEncoderCode_101_1 : ∀ {j I zd zf : List Int32} {r U O : Int32} {d1 d2 d3 : Slot} {zj zv zy zz : List Int32} {zl ya : Int32} {yb : Int32}, f_addEncoderCode_101 k a f g j I zd zf r U O = some (zj, zv, zy, zz, zl, ya, yb) → OEnds own_P 25 101 [qr 16, d1, d2, d3] [] (bl1 c0 c1 c2 c3 c4 c5 c6 c7 c8 c9 c10 c11 c12 c13 c14 c15 ze R Q zg X F j I zd zf W V H Y C K b t k a f g Z za D z zh zi r U O zb zc J B T G po) (none, (bl1 c0 c1 c2 c3 c4 c5 c6 c7 c8 c9 c10 c11 c12 c13 c14 c15 ze R Q zg X F zj zv zy zz W V H Y C K b t k a f g Z za D z zh zi zl ya yb zb zc J B T G po), 0, 0) := by
  intro j I zd zf r U O d1 d2 d3 zj zv zy zz zl ya yb h
  unfold f_addEncoderCode_101 at h
  refine oa hm_25 4 109 [qr 16, qu, qu, qu] [.int g, .int O] rfl ?_
  by_cases hc232 : O = g
  · simp only [if_pos hc232] at h
    refine OEnds.icmpF hm_25 rfl ((teq hc232).2) ?_
    refine oa hm_25 3 117 [qr 16, qu, qu, qu] [.int a, .ref 16] rfl ?_
    obtain ⟨⟨s103, s104⟩, hq233, h⟩ := bnd h
    refine OEnds.call0 hm_25 rfl rfl (by decide) rfl (as := [.ref 16, .int a]) (rest := []) rfl rfl (ok_putCode_1 hq233) ?_
    refine ob hm_25 3 125 [qr 16, qu, qu, qu] [.int O, .ref 16] (bl1 c0 c1 c2 c3 c4 c5 c6 c7 c8 c9 c10 c11 c12 c13 c14 c15 ze R Q zg X F s103 I zd zf W V H Y C K b t k a f g Z za D z zh zi s104 U O zb zc J B T G po) rfl ?_
    obtain ⟨s105, hq234, h⟩ := bnd h
    refine OEnds.call0 hm_25 rfl rfl (by decide) rfl (as := [.ref 16, .int O]) (rest := []) rfl rfl (ok_resetEncoderTable_1 hq234) ?_
    refine ob hm_25 12 148 [qr 16, qu, qu, qu] [] (bl1 c0 c1 c2 c3 c4 c5 c6 c7 c8 c9 c10 c11 c12 c13 c14 c15 ze R Q zg X F s103 s105 zd zf W V H Y C K b t k a f g Z za D z zh zi s104 (k + 1) (a + 2) zb zc J B T G po) rfl ?_
    cases h
    exact OEnds.vret hm_25 rfl rfl
  · simp only [if_neg hc232] at h
    refine OEnds.icmpT hm_25 rfl (q := 148) rfl ((feq hc232).2) ?_
    refine oc 148 [qr 16, qu, qu, qu] [] ?_
    cases h
    exact OEnds.vret hm_25 rfl rfl
theorem ok_addEncoderCode_60_1 : ∀ {j I zd zf : List Int32} {r U O v3 : Int32} {d1 d2 : Slot} {zj zv zy zz : List Int32} {zl ya : Int32} {yb : Int32}, f_addEncoderCode_60 k a f g j I zd zf r U O v3 = some (zj, zv, zy, zz, zl, ya, yb) → OEnds own_P 25 60 [qr 16, d1, d2, qi v3] [] (bl1 c0 c1 c2 c3 c4 c5 c6 c7 c8 c9 c10 c11 c12 c13 c14 c15 ze R Q zg X F j I zd zf W V H Y C K b t k a f g Z za D z zh zi r U O zb zc J B T G po) (none, (bl1 c0 c1 c2 c3 c4 c5 c6 c7 c8 c9 c10 c11 c12 c13 c14 c15 ze R Q zg X F zj zv zy zz W V H Y C K b t k a f g Z za D z zh zi zl ya yb zb zc J B T G po), 0, 0) := by
  intro j I zd zf r U O v3 d1 d2 zj zv zy zz zl ya yb h
  unfold f_addEncoderCode_60 at h
  refine ob hm_25 11 77 [qr 16, qu, qu, qi v3] [.int ((1 : Int32) <<< (U &&& 31)), .int (v3 + 1)] (bl1 c0 c1 c2 c3 c4 c5 c6 c7 c8 c9 c10 c11 c12 c13 c14 c15 ze R Q zg X F j I zd zf W V H Y C K b t k a f g Z za D z zh zi r U (v3 + 1) zb zc J B T G po) rfl ?_
  by_cases hc235 : ((1 : Int32) <<< (U &&& 31)) < (v3 + 1)
  · simp only [if_pos hc235] at h
    refine OEnds.icmpF hm_25 rfl ((tlt hc235).2.2.2) ?_
    refine oa hm_25 4 88 [qr 16, qu, qu, qi v3] [.int f, .int U] rfl ?_
    by_cases hc236 : U < f
    · simp only [if_pos hc236] at h
      refine OEnds.icmpF hm_25 rfl ((tlt hc236).2.1) ?_
      refine ob hm_25 6 101 [qr 16, qu, qu, qi v3] [] (bl1 c0 c1 c2 c3 c4 c5 c6 c7 c8 c9 c10 c11 c12 c13 c14 c15 ze R Q zg X F j I zd zf W V H Y C K b t k a f g Z za D z zh zi r (U + 1) (v3 + 1) zb zc J B T G po) rfl ?_
      exact ok_addEncoderCode_101_1 h
    · simp only [if_neg hc236] at h
      refine OEnds.icmpT hm_25 rfl (q := 101) rfl ((flt hc236).2.1) ?_
      refine oc 101 [qr 16, qu, qu, qi v3] [] ?_
      exact ok_addEncoderCode_101_1 h
  · simp only [if_neg hc235] at h
    refine OEnds.icmpT hm_25 rfl (q := 101) rfl ((flt hc235).2.2.2) ?_
    refine oc 101 [qr 16, qu, qu, qi v3] [] ?_
    exact ok_addEncoderCode_101_1 h
theorem ok_addEncoderCode_1 {v1 v2 : Int32} (h : f_addEncoderCode k a f g j I zd zf r U O v1 v2 = some (zj, zv, zy, zz, zl, ya, yb)) : OEnds own_P 25 0 [qr 16, qi v1, qi v2, qu] [] (bl1 c0 c1 c2 c3 c4 c5 c6 c7 c8 c9 c10 c11 c12 c13 c14 c15 ze R Q zg X F j I zd zf W V H Y C K b t k a f g Z za D z zh zi r U O zb zc J B T G po) (none, (bl1 c0 c1 c2 c3 c4 c5 c6 c7 c8 c9 c10 c11 c12 c13 c14 c15 ze R Q zg X F zj zv zy zz W V H Y C K b t k a f g Z za D z zh zi zl ya yb zb zc J B T G po), 0, 0) := by
  unfold f_addEncoderCode at h
  refine oa hm_25 4 6 [qr 16, qi v1, qi v2, qi O] [.int O] rfl ?_
  by_cases hc237 : O < 0
  · simp only [if_pos hc237] at h
    refine OEnds.ifT hm_25 rfl (q := 60) rfl ((tlt hc237).1) ?_
    refine oc 60 [qr 16, qi v1, qi v2, qi O] [] ?_
    exact ok_addEncoderCode_60_1 h
  · simp only [if_neg hc237] at h
    refine OEnds.ifF hm_25 rfl ((flt hc237).1) ?_
    refine oa hm_25 2 13 [qr 16, qi v1, qi v2, qi O] [.int 512, .int O] rfl ?_
    by_cases hc238 : O < 512
    · simp only [if_pos hc238] at h
      refine OEnds.icmpF hm_25 rfl ((tlt hc238).2.1) ?_
      refine oa hm_25 1 17 [qr 16, qi v1, qi v2, qi O] [.int v1] rfl ?_
      by_cases hc239 : v1 < 0
      · simp only [if_pos hc239] at h
        refine OEnds.ifT hm_25 rfl (q := 60) rfl ((tlt hc239).1) ?_
        refine oc 60 [qr 16, qi v1, qi v2, qi O] [] ?_
        exact ok_addEncoderCode_60_1 h
      · simp only [if_neg hc239] at h
        refine OEnds.ifF hm_25 rfl ((flt hc239).1) ?_
        refine oa hm_25 2 24 [qr 16, qi v1, qi v2, qi O] [.int 512, .int v1] rfl ?_
        by_cases hc240 : v1 < 512
        · simp only [if_pos hc240] at h
          refine OEnds.icmpF hm_25 rfl ((tlt hc240).2.1) ?_
          refine oa hm_25 4 33 [qr 16, qi v1, qi v2, qi O] [.int v2, .int O, .ref 26] rfl ?_
          obtain ⟨A98, hA98, h⟩ := bnd h
          refine OEnds.plain hm_25 rfl rfl (x_iastore rfl (Nat.le_of_ble_eq_true rfl) hA98) ?_
          refine ob hm_25 6 44 [qr 16, qi v1, qi v2, qi O] [.int v1, .ref 24, .int O, .ref 25] (bl1 c0 c1 c2 c3 c4 c5 c6 c7 c8 c9 c10 c11 c12 c13 c14 c15 ze R Q zg X F j I zd A98 W V H Y C K b t k a f g Z za D z zh zi r U O zb zc J B T G po) rfl ?_
          obtain ⟨x99, hx99, h⟩ := bnd h
          refine OEnds.plain hm_25 rfl rfl (x_iaload rfl hx99) ?_
          show OEnds own_P 25 45 [qr 16, qi v1, qi v2, qi O] [.int x99, .int O, .ref 25] (bl1 c0 c1 c2 c3 c4 c5 c6 c7 c8 c9 c10 c11 c12 c13 c14 c15 ze R Q zg X F j I zd A98 W V H Y C K b t k a f g Z za D z zh zi r U O zb zc J B T G po) _
          obtain ⟨A100, hA100, h⟩ := bnd h
          refine OEnds.plain hm_25 rfl rfl (x_iastore rfl (Nat.le_of_ble_eq_true rfl) hA100) ?_
          refine ob hm_25 4 52 [qr 16, qi v1, qi v2, qi O] [.int O, .int v1, .ref 24] (bl1 c0 c1 c2 c3 c4 c5 c6 c7 c8 c9 c10 c11 c12 c13 c14 c15 ze R Q zg X F j I A100 A98 W V H Y C K b t k a f g Z za D z zh zi r U O zb zc J B T G po) rfl ?_
          obtain ⟨A101, hA101, h⟩ := bnd h
          refine OEnds.plain hm_25 rfl rfl (x_iastore rfl (Nat.le_of_ble_eq_true rfl) hA101) ?_
          refine ob hm_25 4 59 [qr 16, qi v1, qi v2, qi O] [.int (-1), .int O, .ref 24] (bl1 c0 c1 c2 c3 c4 c5 c6 c7 c8 c9 c10 c11 c12 c13 c14 c15 ze R Q zg X F j A101 A100 A98 W V H Y C K b t k a f g Z za D z zh zi r U O zb zc J B T G po) rfl ?_
          obtain ⟨A102, hA102, h⟩ := bnd h
          refine OEnds.plain hm_25 rfl rfl (x_iastore rfl (Nat.le_of_ble_eq_true rfl) hA102) ?_
          show OEnds own_P 25 60 [qr 16, qi v1, qi v2, qi O] [] (bl1 c0 c1 c2 c3 c4 c5 c6 c7 c8 c9 c10 c11 c12 c13 c14 c15 ze R Q zg X F j A102 A100 A98 W V H Y C K b t k a f g Z za D z zh zi r U O zb zc J B T G po) _
          exact ok_addEncoderCode_60_1 h
        · simp only [if_neg hc240] at h
          refine OEnds.icmpT hm_25 rfl (q := 60) rfl ((flt hc240).2.1) ?_
          refine oc 60 [qr 16, qi v1, qi v2, qi O] [] ?_
          exact ok_addEncoderCode_60_1 h
    · simp only [if_neg hc238] at h
      refine OEnds.icmpT hm_25 rfl (q := 60) rfl ((flt hc238).2.1) ?_
      refine oc 60 [qr 16, qi v1, qi v2, qi O] [] ?_
      exact ok_addEncoderCode_60_1 h
theorem ok_compress_103_1 : ∀ {j I zd zf : List Int32} {r U O v1 : Int32} {d2 d3 d4 : Slot} {zj zv zy zz : List Int32} {zl ya : Int32} {yb : Int32}, f_compress_103 F b k a f g j I zd zf r U O v1 = some (zj, zv, zy, zz, zl, ya, yb) → OEnds own_P 21 103 [qr 16, qi v1, d2, d3, d4] [] (bl1 c0 c1 c2 c3 c4 c5 c6 c7 c8 c9 c10 c11 c12 c13 c14 c15 ze R Q zg X F j I zd zf W V H Y C K b t k a f g Z za D z zh zi r U O zb zc J B T G po) (none, (bl1 c0 c1 c2 c3 c4 c5 c6 c7 c8 c9 c10 c11 c12 c13 c14 c15 ze R Q zg X F zj zv zy zz W V H Y C K b t k a f g Z za D z zh zi zl ya yb zb zc J B T G po), 0, 0) := by
  intro j I zd zf r U O v1 d2 d3 d4 zj zv zy zz zl ya yb h
  unfold f_compress_103 at h
  refine oa hm_21 2 105 [qr 16, qi v1, qu, qu, qu] [.int v1, .ref 16] rfl ?_
  obtain ⟨⟨s121, s122⟩, hq241, h⟩ := bnd h
  refine OEnds.call0 hm_21 rfl rfl (by decide) rfl (as := [.ref 16, .int v1]) (rest := []) rfl rfl (ok_putCode_1 hq241) ?_
  refine ob hm_21 5 115 [qr 16, qi v1, qu, qu, qu] [.int (a + 1), .ref 16] (bl1 c0 c1 c2 c3 c4 c5 c6 c7 c8 c9 c10 c11 c12 c13 c14 c15 ze R Q zg X F s121 I zd zf W V H Y C K b t k a f g Z za D z zh zi s122 U O zb zc J B T G po) rfl ?_
  obtain ⟨⟨s123, s124⟩, hq242, h⟩ := bnd h
  refine OEnds.call0 hm_21 rfl rfl (by decide) rfl (as := [.ref 16, .int (a + 1)]) (rest := []) rfl rfl (ok_putCode_1 hq242) ?_
  show OEnds own_P 21 118 [qr 16, qi v1, qu, qu, qu] [] (bl1 c0 c1 c2 c3 c4 c5 c6 c7 c8 c9 c10 c11 c12 c13 c14 c15 ze R Q zg X F s123 I zd zf W V H Y C K b t k a f g Z za D z zh zi s124 U O zb zc J B T G po) _
  cases h
  exact OEnds.vret hm_21 rfl rfl
theorem ok_compress_50_1 {k103 : List Int32 → List Int32 → List Int32 → List Int32 → Int32 → Int32 → Int32 → Int32 → Option (List Int32 × List Int32 × List Int32 × List Int32 × Int32 × Int32 × Int32)} (hk103 : ∀ {j I zd zf : List Int32} {r U O v1 : Int32} {d2 d3 d4 : Slot} {zj zv zy zz : List Int32} {zl ya : Int32} {yb : Int32}, k103 j I zd zf r U O v1 = some (zj, zv, zy, zz, zl, ya, yb) → OEnds own_P 21 103 [qr 16, qi v1, d2, d3, d4] [] (bl1 c0 c1 c2 c3 c4 c5 c6 c7 c8 c9 c10 c11 c12 c13 c14 c15 ze R Q zg X F j I zd zf W V H Y C K b t k a f g Z za D z zh zi r U O zb zc J B T G po) (none, (bl1 c0 c1 c2 c3 c4 c5 c6 c7 c8 c9 c10 c11 c12 c13 c14 c15 ze R Q zg X F zj zv zy zz W V H Y C K b t k a f g Z za D z zh zi zl ya yb zb zc J B T G po), 0, 0)) : ∀ (n : Nat), ∀ {j I zd zf : List Int32} {r U O v1 v2 : Int32} {d3 d4 : Slot} {zj zv zy zz : List Int32} {zl ya : Int32} {yb : Int32}, f_compress_50 k103 F b k a f g n j I zd zf r U O v1 v2 = some (zj, zv, zy, zz, zl, ya, yb) → OEnds own_P 21 50 [qr 16, qi v1, qi v2, d3, d4] [] (bl1 c0 c1 c2 c3 c4 c5 c6 c7 c8 c9 c10 c11 c12 c13 c14 c15 ze R Q zg X F j I zd zf W V H Y C K b t k a f g Z za D z zh zi r U O zb zc J B T G po) (none, (bl1 c0 c1 c2 c3 c4 c5 c6 c7 c8 c9 c10 c11 c12 c13 c14 c15 ze R Q zg X F zj zv zy zz W V H Y C K b t k a f g Z za D z zh zi zl ya yb zb zc J B T G po), 0, 0) := by
  intro n
  induction n with
  | zero => intro j I zd zf r U O v1 v2 d3 d4 zj zv zy zz zl ya yb h; cases h
  | succ n ih =>
    intro j I zd zf r U O v1 v2 d3 d4 zj zv zy zz zl ya yb h
    unfold f_compress_50 at h
    refine ob hm_21 3 55 [qr 16, qi v1, qi v2, qu, qu] [.int b, .int v2] (bl1 c0 c1 c2 c3 c4 c5 c6 c7 c8 c9 c10 c11 c12 c13 c14 c15 ze R Q zg X F j I zd zf W V H Y C K b t k a f g Z za D z zh zi r U O zb zc J B T G po) rfl ?_
    by_cases hc243 : v2 < b
    · simp only [if_pos hc243] at h
      refine OEnds.icmpF hm_21 rfl ((tlt hc243).2.1) ?_
      refine oa hm_21 3 63 [qr 16, qi v1, qi v2, qu, qu] [.int v2, .ref 22] rfl ?_
      obtain ⟨x110, hx110, h⟩ := bnd h
      refine OEnds.plain hm_21 rfl rfl (x_iaload rfl hx110) ?_
      refine ob hm_21 4 68 [qr 16, qi v1, qi v2, qi x110, qu] [.int x110, .int v1, .ref 16] (bl1 c0 c1 c2 c3 c4 c5 c6 c7 c8 c9 c10 c11 c12 c13 c14 c15 ze R Q zg X F j I zd zf W V H Y C K b t k a f g Z za D z zh zi r U O zb zc J B T G po) rfl ?_
      obtain ⟨r111, hq244, h⟩ := bnd h
      refine OEnds.call0 hm_21 rfl rfl (by decide) rfl (as := [.ref 16, .int v1, .int x110]) (rest := []) rfl rfl (ok_findChild_1 hq244) ?_
      refine ob hm_21 2 75 [qr 16, qi v1, qi v2, qi x110, qi r111] [.int r111] (bl1 c0 c1 c2 c3 c4 c5 c6 c7 c8 c9 c10 c11 c12 c13 c14 c15 ze R Q zg X F j I zd zf W V H Y C K b t k a f g Z za D z zh zi r U O zb zc J B T G po) rfl ?_
      by_cases hc245 : r111 < 0
      · simp only [if_pos hc245] at h
        refine OEnds.ifT hm_21 rfl (q := 84) rfl ((tlt hc245).1) ?_
        refine oa hm_21 2 86 [qr 16, qi v1, qi v2, qi x110, qi r111] [.int v1, .ref 16] rfl ?_
        obtain ⟨⟨s112, s113⟩, hq246, h⟩ := bnd h
        refine OEnds.call0 hm_21 rfl rfl (by decide) rfl (as := [.ref 16, .int v1]) (rest := []) rfl rfl (ok_putCode_1 hq246) ?_
        refine ob hm_21 3 92 [qr 16, qi v1, qi v2, qi x110, qi r111] [.int x110, .int v1, .ref 16] (bl1 c0 c1 c2 c3 c4 c5 c6 c7 c8 c9 c10 c11 c12 c13 c14 c15 ze R Q zg X F s112 I zd zf W V H Y C K b t k a f g Z za D z zh zi s113 U O zb zc J B T G po) rfl ?_
        obtain ⟨⟨s114, s115, s116, s117, s118, s119, s120⟩, hq247, h⟩ := bnd h
        refine OEnds.call0 hm_21 rfl rfl (by decide) rfl (as := [.ref 16, .int v1, .int x110]) (rest := []) rfl rfl (ok_addEncoderCode_1 hq247) ?_
        refine ob hm_21 4 50 [qr 16, qi x110, qi (v2 + 1), qi x110, qi r111] [] (bl1 c0 c1 c2 c3 c4 c5 c6 c7 c8 c9 c10 c11 c12 c13 c14 c15 ze R Q zg X F s114 s115 s116 s117 W V H Y C K b t k a f g Z za D z zh zi s118 s119 s120 zb zc J B T G po) rfl ?_
        exact ih h
      · simp only [if_neg hc245] at h
        refine OEnds.ifF hm_21 rfl ((flt hc245).1) ?_
        refine oa hm_21 5 50 [qr 16, qi r111, qi (v2 + 1), qi x110, qi r111] [] rfl ?_
        exact ih h
    · simp only [if_neg hc243] at h
      refine OEnds.icmpT hm_21 rfl (q := 103) rfl ((flt hc243).2.1) ?_
      refine oc 103 [qr 16, qi v1, qi v2, qu, qu] [] ?_
      exact hk103 h
theorem ok_compress_1 (h : f_compress F b k a f g j I zd zf r U O = some (zj, zv, zy, zz, zl, ya, yb)) : OEnds own_P 21 0 [qr 16, qu, qu, qu, qu] [] (bl1 c0 c1 c2 c3 c4 c5 c6 c7 c8 c9 c10 c11 c12 c13 c14 c15 ze R Q zg X F j I zd zf W V H Y C K b t k a f g Z za D z zh zi r U O zb zc J B T G po) (none, (bl1 c0 c1 c2 c3 c4 c5 c6 c7 c8 c9 c10 c11 c12 c13 c14 c15 ze R Q zg X F zj zv zy zz W V H Y C K b t k a f g Z za D z zh zi zl ya yb zb zc J B T G po), 0, 0) := by
  unfold f_compress at h
  refine ob hm_21 6 10 [qr 16, qu, qu, qu, qu] [.int g, .ref 16] (bl1 c0 c1 c2 c3 c4 c5 c6 c7 c8 c9 c10 c11 c12 c13 c14 c15 ze R Q zg X F j I zd zf W V H Y C K b t k a f g Z za D z zh zi 0 U O zb zc J B T G po) rfl ?_
  obtain ⟨s106, hq248, h⟩ := bnd h
  refine OEnds.call0 hm_21 rfl rfl (by decide) rfl (as := [.ref 16, .int g]) (rest := []) rfl rfl (ok_resetEncoderTable_1 hq248) ?_
  refine ob hm_21 15 38 [qr 16, qu, qu, qu, qu] [.int a, .ref 16] (bl1 c0 c1 c2 c3 c4 c5 c6 c7 c8 c9 c10 c11 c12 c13 c14 c15 ze R Q zg X F j s106 zd zf W V H Y C K b t k a f g Z za D z zh zi 0 (k + 1) (a + 2) zb zc J B T G po) rfl ?_
  obtain ⟨⟨s107, s108⟩, hq249, h⟩ := bnd h
  refine OEnds.call0 hm_21 rfl rfl (by decide) rfl (as := [.ref 16, .int a]) (rest := []) rfl rfl (ok_putCode_1 hq249) ?_
  refine ob hm_21 3 46 [qr 16, qu, qu, qu, qu] [.int 0, .ref 22] (bl1 c0 c1 c2 c3 c4 c5 c6 c7 c8 c9 c10 c11 c12 c13 c14 c15 ze R Q zg X F s107 s106 zd zf W V H Y C K b t k a f g Z za D z zh zi s108 (k + 1) (a + 2) zb zc J B T G po) rfl ?_
  obtain ⟨x109, hx109, h⟩ := bnd h
  refine OEnds.plain hm_21 rfl rfl (x_iaload rfl hx109) ?_
  refine ob hm_21 3 50 [qr 16, qi x109, qi 1, qu, qu] [] (bl1 c0 c1 c2 c3 c4 c5 c6 c7 c8 c9 c10 c11 c12 c13 c14 c15 ze R Q zg X F s107 s106 zd zf W V H Y C K b t k a f g Z za D z zh zi s108 (k + 1) (a + 2) zb zc J B T G po) rfl ?_
  exact ok_compress_50_1 (k103 := f_compress_103 F b k a f g) ok_compress_103_1 100000 h
theorem ok_writeOut_1 {v1 : Int32} (h : f_writeOut R D v1 = some (zm, zn)) : OEnds own_P 27 0 [qr 16, qi v1] [] (bl1 c0 c1 c2 c3 c4 c5 c6 c7 c8 c9 c10 c11 c12 c13 c14 c15 ze R Q zg X F j I zd zf W V H Y C K b t k a f g Z za D z zh zi r U O zb zc J B T G po) (none, (bl1 c0 c1 c2 c3 c4 c5 c6 c7 c8 c9 c10 c11 c12 c13 c14 c15 ze zm Q zg X F j I zd zf W V H Y C K b t k a f g Z za zn z zh zi r U O zb zc J B T G po), 0, 0) := by
  unfold f_writeOut at h
  refine oa hm_27 2 4 [qr 16, qi v1] [.int D] rfl ?_
  by_cases hc250 : D < 0
  · simp only [if_pos hc250] at h
    refine OEnds.ifT hm_27 rfl (q := 41) rfl ((tlt hc250).1) ?_
    refine oc 41 [qr 16, qi v1] [] ?_
    cases h
    exact OEnds.vret hm_27 rfl rfl
  · simp only [if_neg hc250] at h
    refine OEnds.ifF hm_27 rfl ((flt hc250).1) ?_
    refine oa hm_27 3 14 [qr 16, qi v1] [.int 400, .int D] rfl ?_
    by_cases hc251 : D < 400
    · simp only [if_pos hc251] at h
      refine OEnds.icmpF hm_27 rfl ((tlt hc251).2.1) ?_
      refine oa hm_27 7 30 [qr 16, qi v1] [.int (v1 &&& 255), .int D, .ref 18] rfl ?_
      obtain ⟨A125, hA125, h⟩ := bnd h
      refine OEnds.plain hm_27 rfl rfl (x_iastore rfl (Nat.le_of_ble_eq_true rfl) hA125) ?_
      refine ob hm_27 6 41 [qr 16, qi v1] [] (bl1 c0 c1 c2 c3 c4 c5 c6 c7 c8 c9 c10 c11 c12 c13 c14 c15 ze A125 Q zg X F j I zd zf W V H Y C K b t k a f g Z za (D + 1) z zh zi r U O zb zc J B T G po) rfl ?_
      cases h
      exact OEnds.vret hm_27 rfl rfl
    · simp only [if_neg hc251] at h
      refine OEnds.icmpT hm_27 rfl (q := 41) rfl ((flt hc251).2.1) ?_
      refine oc 41 [qr 16, qi v1] [] ?_
      cases h
      exact OEnds.vret hm_27 rfl rfl
theorem ok_packBlocks_111_1 : ∀ {R : List Int32} {D : Int32} {d1 d2 d3 d4 d5 : Slot} {zm : List Int32} {zn : Int32}, f_packBlocks_111 j k za r R D = some (zm, zn) → OEnds own_P 26 111 [qr 16, d1, d2, d3, d4, d5] [] (bl1 c0 c1 c2 c3 c4 c5 c6 c7 c8 c9 c10 c11 c12 c13 c14 c15 ze R Q zg X F j I zd zf W V H Y C K b t k a f g Z za D z zh zi r U O zb zc J B T G po) (none, (bl1 c0 c1 c2 c3 c4 c5 c6 c7 c8 c9 c10 c11 c12 c13 c14 c15 ze zm Q zg X F j I zd zf W V H Y C K b t k a f g Z za zn z zh zi r U O zb zc J B T G po), 0, 0) := by
  intro R D d1 d2 d3 d4 d5 zm zn h
  unfold f_packBlocks_111 at h
  refine oa hm_26 2 113 [qr 16, qu, qu, qu, qu, qu] [.int 0, .ref 16] rfl ?_
  obtain ⟨⟨s133, s134⟩, hq252, h⟩ := bnd h
  refine OEnds.call0 hm_26 rfl rfl (by decide) rfl (as := [.ref 16, .int 0]) (rest := []) rfl rfl (ok_writeOut_1 hq252) ?_
  show OEnds own_P 26 116 [qr 16, qu, qu, qu, qu, qu] [] (bl1 c0 c1 c2 c3 c4 c5 c6 c7 c8 c9 c10 c11 c12 c13 c14 c15 ze s133 Q zg X F j I zd zf W V H Y C K b t k a f g Z za s134 z zh zi r U O zb zc J B T G po) _
  cases h
  exact OEnds.vret hm_26 rfl rfl
theorem ok_packBlocks_79_1 {k38 : List Int32 → Int32 → Int32 → Int32 → Int32 → Option (List Int32 × Int32)} (hk38 : ∀ {R : List Int32} {D v1 v2 v3 : Int32} {d4 d5 : Slot} {zm : List Int32} {zn : Int32}, k38 R D v1 v2 v3 = some (zm, zn) → OEnds own_P 26 38 [qr 16, qi v1, qi v2, qi v3, d4, d5] [] (bl1 c0 c1 c2 c3 c4 c5 c6 c7 c8 c9 c10 c11 c12 c13 c14 c15 ze R Q zg X F j I zd zf W V H Y C K b t k a f g Z za D z zh zi r U O zb zc J B T G po) (none, (bl1 c0 c1 c2 c3 c4 c5 c6 c7 c8 c9 c10 c11 c12 c13 c14 c15 ze zm Q zg X F j I zd zf W V H Y C K b t k a f g Z za zn z zh zi r U O zb zc J B T G po), 0, 0)) : ∀ (n : Nat), ∀ {R : List Int32} {D v1 v2 v3 v4 v5 : Int32} {zm : List Int32} {zn : Int32}, f_packBlocks_79 k38 j k za r n R D v1 v2 v3 v4 v5 = some (zm, zn) → OEnds own_P 26 79 [qr 16, qi v1, qi v2, qi v3, qi v4, qi v5] [] (bl1 c0 c1 c2 c3 c4 c5 c6 c7 c8 c9 c10 c11 c12 c13 c14 c15 ze R Q zg X F j I zd zf W V H Y C K b t k a f g Z za D z zh zi r U O zb zc J B T G po) (none, (bl1 c0 c1 c2 c3 c4 c5 c6 c7 c8 c9 c10 c11 c12 c13 c14 c15 ze zm Q zg X F j I zd zf W V H Y C K b t k a f g Z za zn z zh zi r U O zb zc J B T G po), 0, 0) := by
  intro n
  induction n with
  | zero => intro R D v1 v2 v3 v4 v5 zm zn h; cases h
  | succ n ih =>
    intro R D v1 v2 v3 v4 v5 zm zn h
    unfold f_packBlocks_79 at h
    refine ob hm_26 2 83 [qr 16, qi v1, qi v2, qi v3, qi v4, qi v5] [.int v4, .int v5] (bl1 c0 c1 c2 c3 c4 c5 c6 c7 c8 c9 c10 c11 c12 c13 c14 c15 ze R Q zg X F j I zd zf W V H Y C K b t k a f g Z za D z zh zi r U O zb zc J B T G po) rfl ?_
    by_cases hc253 : v5 < v4
    · simp only [if_pos hc253] at h
      refine OEnds.icmpF hm_26 rfl ((tlt hc253).2.1) ?_
      refine oa hm_26 4 92 [qr 16, qi v1, qi v2, qi v3, qi v4, qi v5] [.int v2, .ref 23, .ref 16] rfl ?_
      obtain ⟨x130, hx130, h⟩ := bnd h
      refine OEnds.plain hm_26 rfl rfl (x_iaload rfl hx130) ?_
      show OEnds own_P 26 93 [qr 16, qi v1, qi v2, qi v3, qi v4, qi v5] [.int x130, .ref 16] (bl1 c0 c1 c2 c3 c4 c5 c6 c7 c8 c9 c10 c11 c12 c13 c14 c15 ze R Q zg X F j I zd zf W V H Y C K b t k a f g Z za D z zh zi r U O zb zc J B T G po) _
      obtain ⟨⟨s131, s132⟩, hq254, h⟩ := bnd h
      refine OEnds.call0 hm_26 rfl rfl (by decide) rfl (as := [.ref 16, .int x130]) (rest := []) rfl rfl (ok_writeOut_1 hq254) ?_
      refine ob hm_26 3 79 [qr 16, qi v1, qi (v2 + 1), qi v3, qi v4, qi (v5 + 1)] [] (bl1 c0 c1 c2 c3 c4 c5 c6 c7 c8 c9 c10 c11 c12 c13 c14 c15 ze s131 Q zg X F j I zd zf W V H Y C K b t k a f g Z za s132 z zh zi r U O zb zc J B T G po) rfl ?_
      exact ih h
    · simp only [if_neg hc253] at h
      refine OEnds.icmpT hm_26 rfl (q := 105) rfl ((flt hc253).2.1) ?_
      refine oa hm_26 2 38 [qr 16, qi v1, qi v2, qi (v3 + 1), qi v4, qi v5] [] rfl ?_
      exact hk38 h
theorem ok_packBlocks_70_1 {kb : List Int32 → Int32 → Int32 → Int32 → Int32 → Option (List Int32 × Int32)} {k111 : List Int32 → Int32 → Option (List Int32 × Int32)} (hkb : ∀ {R : List Int32} {D v1 v2 v3 : Int32} {d4 d5 : Slot} {zm : List Int32} {zn : Int32}, kb R D v1 v2 v3 = some (zm, zn) → OEnds own_P 26 38 [qr 16, qi v1, qi v2, qi v3, d4, d5] [] (bl1 c0 c1 c2 c3 c4 c5 c6 c7 c8 c9 c10 c11 c12 c13 c14 c15 ze R Q zg X F j I zd zf W V H Y C K b t k a f g Z za D z zh zi r U O zb zc J B T G po) (none, (bl1 c0 c1 c2 c3 c4 c5 c6 c7 c8 c9 c10 c11 c12 c13 c14 c15 ze zm Q zg X F j I zd zf W V H Y C K b t k a f g Z za zn z zh zi r U O zb zc J B T G po), 0, 0)) (hk111 : ∀ {R : List Int32} {D : Int32} {d1 d2 d3 d4 d5 : Slot} {zm : List Int32} {zn : Int32}, k111 R D = some (zm, zn) → OEnds own_P 26 111 [qr 16, d1, d2, d3, d4, d5] [] (bl1 c0 c1 c2 c3 c4 c5 c6 c7 c8 c9 c10 c11 c12 c13 c14 c15 ze R Q zg X F j I zd zf W V H Y C K b t k a f g Z za D z zh zi r U O zb zc J B T G po) (none, (bl1 c0 c1 c2 c3 c4 c5 c6 c7 c8 c9 c10 c11 c12 c13 c14 c15 ze zm Q zg X F j I zd zf W V H Y C K b t k a f g Z za zn z zh zi r U O zb zc J B T G po), 0, 0)) : ∀ {R : List Int32} {D v1 v2 v3 v4 : Int32} {d5 : Slot} {zm : List Int32} {zn : Int32}, f_packBlocks_70 kb k111 j k za r R D v1 v2 v3 v4 = some (zm, zn) → OEnds own_P 26 70 [qr 16, qi v1, qi v2, qi v3, qi v4, d5] [] (bl1 c0 c1 c2 c3 c4 c5 c6 c7 c8 c9 c10 c11 c12 c13 c14 c15 ze R Q zg X F j I zd zf W V H Y C K b t k a f g Z za D z zh zi r U O zb zc J B T G po) (none, (bl1 c0 c1 c2 c3 c4 c5 c6 c7 c8 c9 c10 c11 c12 c13 c14 c15 ze zm Q zg X F j I zd zf W V H Y C K b t k a f g Z za zn z zh zi r U O zb zc J B T G po), 0, 0) := by
  intro R D v1 v2 v3 v4 d5 zm zn h
  unfold f_packBlocks_70 at h
  refine oa hm_26 2 73 [qr 16, qi v1, qi v2, qi v3, qi v4, qu] [.int v4, .ref 16] rfl ?_
  obtain ⟨⟨s128, s129⟩, hq255, h⟩ := bnd h
  refine OEnds.call0 hm_26 rfl rfl (by decide) rfl (as := [.ref 16, .int v4]) (rest := []) rfl rfl (ok_writeOut_1 hq255) ?_
  refine ob hm_26 2 79 [qr 16, qi v1, qi v2, qi v3, qi v4, qi 0] [] (bl1 c0 c1 c2 c3 c4 c5 c6 c7 c8 c9 c10 c11 c12 c13 c14 c15 ze s128 Q zg X F j I zd zf W V H Y C K b t k a f g Z za s129 z zh zi r U O zb zc J B T G po) rfl ?_
  exact ok_packBlocks_79_1 (k38 := kb) hkb 100000 h
theorem ok_packBlocks_38_1 {k111 : List Int32 → Int32 → Option (List Int32 × Int32)} (hk111 : ∀ {R : List Int32} {D : Int32} {d1 d2 d3 d4 d5 : Slot} {zm : List Int32} {zn : Int32}, k111 R D = some (zm, zn) → OEnds own_P 26 111 [qr 16, d1, d2, d3, d4, d5] [] (bl1 c0 c1 c2 c3 c4 c5 c6 c7 c8 c9 c10 c11 c12 c13 c14 c15 ze R Q zg X F j I zd zf W V H Y C K b t k a f g Z za D z zh zi r U O zb zc J B T G po) (none, (bl1 c0 c1 c2 c3 c4 c5 c6 c7 c8 c9 c10 c11 c12 c13 c14 c15 ze zm Q zg X F j I zd zf W V H Y C K b t k a f g Z za zn z zh zi r U O zb zc J B T G po), 0, 0)) : ∀ (n : Nat), ∀ {R : List Int32} {D v1 v2 v3 : Int32} {d4 d5 : Slot} {zm : List Int32} {zn : Int32}, f_packBlocks_38 k111 j k za r n R D v1 v2 v3 = some (zm, zn) → OEnds own_P 26 38 [qr 16, qi v1, qi v2, qi v3, d4, d5] [] (bl1 c0 c1 c2 c3 c4 c5 c6 c7 c8 c9 c10 c11 c12 c13 c14 c15 ze R Q zg X F j I zd zf W V H Y C K b t k a f g Z za D z zh zi r U O zb zc J B T G po) (none, (bl1 c0 c1 c2 c3 c4 c5 c6 c7 c8 c9 c10 c11 c12 c13 c14 c15 ze zm Q zg X F j I zd zf W V H Y C K b t k a f g Z za zn z zh zi r U O zb zc J B T G po), 0, 0) := by
  intro n
  induction n with
  | zero => intro R D v1 v2 v3 d4 d5 zm zn h; cases h
  | succ n ih =>
    intro R D v1 v2 v3 d4 d5 zm zn h
    unfold f_packBlocks_38 at h
    refine ob hm_26 2 42 [qr 16, qi v1, qi v2, qi v3, qu, qu] [.int 512, .int v3] (bl1 c0 c1 c2 c3 c4 c5 c6 c7 c8 c9 c10 c11 c12 c13 c14 c15 ze R Q zg X F j I zd zf W V H Y C K b t k a f g Z za D z zh zi r U O zb zc J B T G po) rfl ?_
    by_cases hc256 : v3 < 512
    · simp only [if_pos hc256] at h
      refine OEnds.icmpF hm_26 rfl ((tlt hc256).2.1) ?_
      refine oa hm_26 2 47 [qr 16, qi v1, qi v2, qi v3, qu, qu] [.int v1, .int v2] rfl ?_
      by_cases hc257 : v2 < v1
      · simp only [if_pos hc257] at h
        refine OEnds.icmpF hm_26 rfl ((tlt hc257).2.1) ?_
        refine oa hm_26 7 61 [qr 16, qi v1, qi v2, qi v3, qi (v1 - v2), qu] [.int za, .int (v1 - v2)] rfl ?_
        by_cases hc258 : za < (v1 - v2)
        · simp only [if_pos hc258] at h
          refine OEnds.icmpF hm_26 rfl ((tlt hc258).2.2.2) ?_
          refine oa hm_26 3 70 [qr 16, qi v1, qi v2, qi v3, qi za, qu] [] rfl ?_
          exact ok_packBlocks_70_1 ih hk111 h
        · simp only [if_neg hc258] at h
          refine OEnds.icmpT hm_26 rfl (q := 70) rfl ((flt hc258).2.2.2) ?_
          refine oc 70 [qr 16, qi v1, qi v2, qi v3, qi (v1 - v2), qu] [] ?_
          exact ok_packBlocks_70_1 ih hk111 h
      · simp only [if_neg hc257] at h
        refine OEnds.icmpT hm_26 rfl (q := 111) rfl ((flt hc257).2.1) ?_
        refine oc 111 [qr 16, qi v1, qi v2, qi v3, qu, qu] [] ?_
        exact hk111 h
    · simp only [if_neg hc256] at h
      refine OEnds.icmpT hm_26 rfl (q := 111) rfl ((flt hc256).2.1) ?_
      refine oc 111 [qr 16, qi v1, qi v2, qi v3, qu, qu] [] ?_
      exact hk111 h
theorem ok_packBlocks_21_1 : ∀ {R : List Int32} {D v1 : Int32} {d2 d3 d4 d5 : Slot} {zm : List Int32} {zn : Int32}, f_packBlocks_21 j k za r R D v1 = some (zm, zn) → OEnds own_P 26 21 [qr 16, qi v1, d2, d3, d4, d5] [] (bl1 c0 c1 c2 c3 c4 c5 c6 c7 c8 c9 c10 c11 c12 c13 c14 c15 ze R Q zg X F j I zd zf W V H Y C K b t k a f g Z za D z zh zi r U O zb zc J B T G po) (none, (bl1 c0 c1 c2 c3 c4 c5 c6 c7 c8 c9 c10 c11 c12 c13 c14 c15 ze zm Q zg X F j I zd zf W V H Y C K b t k a f g Z za zn z zh zi r U O zb zc J B T G po), 0, 0) := by
  intro R D v1 d2 d3 d4 d5 zm zn h
  unfold f_packBlocks_21 at h
  refine ob hm_26 6 31 [qr 16, qi v1, qu, qu, qu, qu] [.int k, .ref 16] (bl1 c0 c1 c2 c3 c4 c5 c6 c7 c8 c9 c10 c11 c12 c13 c14 c15 ze R Q zg X F j I zd zf W V H Y C K b t k a f g Z za 0 z zh zi r U O zb zc J B T G po) rfl ?_
  obtain ⟨⟨s126, s127⟩, hq259, h⟩ := bnd h
  refine OEnds.call0 hm_26 rfl rfl (by decide) rfl (as := [.ref 16, .int k]) (rest := []) rfl rfl (ok_writeOut_1 hq259) ?_
  refine ob hm_26 4 38 [qr 16, qi v1, qi 0, qi 0, qu, qu] [] (bl1 c0 c1 c2 c3 c4 c5 c6 c7 c8 c9 c10 c11 c12 c13 c14 c15 ze s126 Q zg X F j I zd zf W V H Y C K b t k a f g Z za s127 z zh zi r U O zb zc J B T G po) rfl ?_
  exact ok_packBlocks_38_1 (k111 := f_packBlocks_111 j k za r) ok_packBlocks_111_1 100000 h
theorem ok_packBlocks_1 (h : f_packBlocks j k za r R D = some (zm, zn)) : OEnds own_P 26 0 [qr 16, qu, qu, qu, qu, qu] [] (bl1 c0 c1 c2 c3 c4 c5 c6 c7 c8 c9 c10 c11 c12 c13 c14 c15 ze R Q zg X F j I zd zf W V H Y C K b t k a f g Z za D z zh zi r U O zb zc J B T G po) (none, (bl1 c0 c1 c2 c3 c4 c5 c6 c7 c8 c9 c10 c11 c12 c13 c14 c15 ze zm Q zg X F j I zd zf W V H Y C K b t k a f g Z za zn z zh zi r U O zb zc J B T G po), 0, 0) := by
  unfold f_packBlocks at h
  refine oa hm_26 9 14 [qr 16, qi ((r + 7) >>> ((3 : Int32) &&& 31)), qu, qu, qu, qu] [.int 512, .int ((r + 7) >>> ((3 : Int32) &&& 31))] rfl ?_
  by_cases hc260 : 512 < ((r + 7) >>> ((3 : Int32) &&& 31))
  · simp only [if_pos hc260] at h
    refine OEnds.icmpF hm_26 rfl ((tlt hc260).2.2.2) ?_
    refine oa hm_26 2 21 [qr 16, qi 512, qu, qu, qu, qu] [] rfl ?_
    exact ok_packBlocks_21_1 h
  · simp only [if_neg hc260] at h
    refine OEnds.icmpT hm_26 rfl (q := 21) rfl ((flt hc260).2.2.2) ?_
    refine oc 21 [qr 16, qi ((r + 7) >>> ((3 : Int32) &&& 31)), qu, qu, qu, qu] [] ?_
    exact ok_packBlocks_21_1 h
theorem ok_encode_49_1 : ∀ {R X F j I zd zf : List Int32} {D r U O : Int32} {d1 d2 : Slot} {res : Int32} {zm zo zk zj zv zy zz : List Int32} {zn zl ya : Int32} {yb : Int32}, f_encode_49 ze C K b k a f g Z za R X F j I zd zf D r U O = some (res, zm, zo, zk, zj, zv, zy, zz, zn, zl, ya, yb) → OEnds own_P 18 49 [qr 16, d1, d2] [] (bl1 c0 c1 c2 c3 c4 c5 c6 c7 c8 c9 c10 c11 c12 c13 c14 c15 ze R Q zg X F j I zd zf W V H Y C K b t k a f g Z za D z zh zi r U O zb zc J B T G po) (some (.int res), (bl1 c0 c1 c2 c3 c4 c5 c6 c7 c8 c9 c10 c11 c12 c13 c14 c15 ze zm Q zg zo zk zj zv zy zz W V H Y C K b t k a f g Z za zn z zh zi zl ya yb zb zc J B T G po), 0, 0) := by
  intro R X F j I zd zf D r U O d1 d2 res zm zo zk zj zv zy zz zn zl ya yb h
  unfold f_encode_49 at h
  refine oa hm_18 1 50 [qr 16, qu, qu] [.ref 16] rfl ?_
  obtain ⟨⟨s139, s140, s141, s142, s143, s144, s145⟩, hq261, h⟩ := bnd h
  refine OEnds.call0 hm_18 rfl rfl (by decide) rfl (as := [.ref 16]) (rest := []) rfl rfl (ok_compress_1 hq261) ?_
  refine ob hm_18 1 54 [qr 16, qu, qu] [.ref 16] (bl1 c0 c1 c2 c3 c4 c5 c6 c7 c8 c9 c10 c11 c12 c13 c14 c15 ze R Q zg X F s139 s140 s141 s142 W V H Y C K b t k a f g Z za D z zh zi s143 s144 s145 zb zc J B T G po) rfl ?_
  obtain ⟨⟨s146, s147⟩, hq262, h⟩ := bnd h
  refine OEnds.call0 hm_18 rfl rfl (by decide) rfl (as := [.ref 16]) (rest := []) rfl rfl (ok_packBlocks_1 hq262) ?_
  refine ob hm_18 2 61 [qr 16, qu, qu] [.int s147] (bl1 c0 c1 c2 c3 c4 c5 c6 c7 c8 c9 c10 c11 c12 c13 c14 c15 ze s146 Q zg X F s139 s140 s141 s142 W V H Y C K b t k a f g Z za s147 z zh zi s143 s144 s145 zb zc J B T G po) rfl ?_
  cases h
  exact OEnds.iret hm_18 rfl rfl
theorem ok_encode_6_1 {k49 : List Int32 → List Int32 → List Int32 → List Int32 → List Int32 → List Int32 → List Int32 → Int32 → Int32 → Int32 → Int32 → Option (Int32 × List Int32 × List Int32 × List Int32 × List Int32 × List Int32 × List Int32 × List Int32 × Int32 × Int32 × Int32 × Int32)} (hk49 : ∀ {R X F j I zd zf : List Int32} {D r U O : Int32} {d1 d2 : Slot} {res : Int32} {zm zo zk zj zv zy zz : List Int32} {zn zl ya : Int32} {yb : Int32}, k49 R X F j I zd zf D r U O = some (res, zm, zo, zk, zj, zv, zy, zz, zn, zl, ya, yb) → OEnds own_P 18 49 [qr 16, d1, d2] [] (bl1 c0 c1 c2 c3 c4 c5 c6 c7 c8 c9 c10 c11 c12 c13 c14 c15 ze R Q zg X F j I zd zf W V H Y C K b t k a f g Z za D z zh zi r U O zb zc J B T G po) (some (.int res), (bl1 c0 c1 c2 c3 c4 c5 c6 c7 c8 c9 c10 c11 c12 c13 c14 c15 ze zm Q zg zo zk zj zv zy zz W V H Y C K b t k a f g Z za zn z zh zi zl ya yb zb zc J B T G po), 0, 0)) : ∀ (n : Nat), ∀ {R X F j I zd zf : List Int32} {D r U O v1 : Int32} {d2 : Slot} {res : Int32} {zm zo zk zj zv zy zz : List Int32} {zn zl ya : Int32} {yb : Int32}, f_encode_6 k49 ze C K b k a f g Z za n R X F j I zd zf D r U O v1 = some (res, zm, zo, zk, zj, zv, zy, zz, zn, zl, ya, yb) → OEnds own_P 18 6 [qr 16, qi v1, d2] [] (bl1 c0 c1 c2 c3 c4 c5 c6 c7 c8 c9 c10 c11 c12 c13 c14 c15 ze R Q zg X F j I zd zf W V H Y C K b t k a f g Z za D z zh zi r U O zb zc J B T G po) (some (.int res), (bl1 c0 c1 c2 c3 c4 c5 c6 c7 c8 c9 c10 c11 c12 c13 c14 c15 ze zm Q zg zo zk zj zv zy zz W V H Y C K b t k a f g Z za zn z zh zi zl ya yb zb zc J B T G po), 0, 0) := by
  intro n
  induction n with
  | zero => intro R X F j I zd zf D r U O v1 d2 res zm zo zk zj zv zy zz zn zl ya yb h; cases h
  | succ n ih =>
    intro R X F j I zd zf D r U O v1 d2 res zm zo zk zj zv zy zz zn zl ya yb h
    unfold f_encode_6 at h
    refine ob hm_18 3 11 [qr 16, qi v1, qu] [.int b, .int v1] (bl1 c0 c1 c2 c3 c4 c5 c6 c7 c8 c9 c10 c11 c12 c13 c14 c15 ze R Q zg X F j I zd zf W V H Y C K b t k a f g Z za D z zh zi r U O zb zc J B T G po) rfl ?_
    by_cases hc263 : v1 < b
    · simp only [if_pos hc263] at h
      refine OEnds.icmpF hm_18 rfl ((tlt hc263).2.1) ?_
      refine oa hm_18 2 16 [qr 16, qi v1, qu] [.int v1, .ref 16] rfl ?_
      obtain ⟨r136, hq264, h⟩ := bnd h
      refine OEnds.call0 hm_18 rfl rfl (by decide) rfl (as := [.ref 16, .int v1]) (rest := []) rfl rfl (ok_rasterOf_1 hq264) ?_
      refine ob hm_18 2 21 [qr 16, qi v1, qi r136] [.int r136] (bl1 c0 c1 c2 c3 c4 c5 c6 c7 c8 c9 c10 c11 c12 c13 c14 c15 ze R Q zg X F j I zd zf W V H Y C K b t k a f g Z za D z zh zi r U O zb zc J B T G po) rfl ?_
      by_cases hc265 : r136 < 0
      · simp only [if_pos hc265] at h
        refine OEnds.ifT hm_18 rfl (q := 43) rfl ((tlt hc265).1) ?_
        refine oa hm_18 2 6 [qr 16, qi (v1 + 1), qi r136] [] rfl ?_
        exact ih h
      · simp only [if_neg hc265] at h
        refine OEnds.ifF hm_18 rfl ((flt hc265).1) ?_
        refine oa hm_18 2 28 [qr 16, qi v1, qi r136] [.int 256, .int r136] rfl ?_
        by_cases hc266 : r136 < 256
        · simp only [if_pos hc266] at h
          refine OEnds.icmpF hm_18 rfl ((tlt hc266).2.1) ?_
          refine oa hm_18 6 41 [qr 16, qi v1, qi r136] [.int r136, .ref 17, .int v1, .ref 22] rfl ?_
          obtain ⟨x137, hx137, h⟩ := bnd h
          refine OEnds.plain hm_18 rfl rfl (x_iaload rfl hx137) ?_
          show OEnds own_P 18 42 [qr 16, qi v1, qi r136] [.int x137, .int v1, .ref 22] (bl1 c0 c1 c2 c3 c4 c5 c6 c7 c8 c9 c10 c11 c12 c13 c14 c15 ze R Q zg X F j I zd zf W V H Y C K b t k a f g Z za D z zh zi r U O zb zc J B T G po) _
          obtain ⟨A138, hA138, h⟩ := bnd h
          refine OEnds.plain hm_18 rfl rfl (x_iastore rfl (Nat.le_of_ble_eq_true rfl) hA138) ?_
          refine ob hm_18 2 6 [qr 16, qi (v1 + 1), qi r136] [] (bl1 c0 c1 c2 c3 c4 c5 c6 c7 c8 c9 c10 c11 c12 c13 c14 c15 ze R Q zg X A138 j I zd zf W V H Y C K b t k a f g Z za D z zh zi r U O zb zc J B T G po) rfl ?_
          exact ih h
        · simp only [if_neg hc266] at h
          refine OEnds.icmpT hm_18 rfl (q := 43) rfl ((flt hc266).2.1) ?_
          refine oa hm_18 2 6 [qr 16, qi (v1 + 1), qi r136] [] rfl ?_
          exact ih h
    · simp only [if_neg hc263] at h
      refine OEnds.icmpT hm_18 rfl (q := 49) rfl ((flt hc263).2.1) ?_
      refine oc 49 [qr 16, qi v1, qu] [] ?_
      exact hk49 h
theorem ok_encode_1 {res : Int32} (h : f_encode ze C K b k a f g Z za R X F j I zd zf D r U O = some (res, zm, zo, zk, zj, zv, zy, zz, zn, zl, ya, yb)) : OEnds own_P 18 0 [qr 16, qu, qu] [] (bl1 c0 c1 c2 c3 c4 c5 c6 c7 c8 c9 c10 c11 c12 c13 c14 c15 ze R Q zg X F j I zd zf W V H Y C K b t k a f g Z za D z zh zi r U O zb zc J B T G po) (some (.int res), (bl1 c0 c1 c2 c3 c4 c5 c6 c7 c8 c9 c10 c11 c12 c13 c14 c15 ze zm Q zg zo zk zj zv zy zz W V H Y C K b t k a f g Z za zn z zh zi zl ya yb zb zc J B T G po), 0, 0) := by
  unfold f_encode at h
  refine oa hm_18 1 1 [qr 16, qu, qu] [.ref 16] rfl ?_
  obtain ⟨s135, hq267, h⟩ := bnd h
  refine OEnds.call0 hm_18 rfl rfl (by decide) rfl (as := [.ref 16]) (rest := []) rfl rfl (ok_buildRowOrder_1 hq267) ?_
  refine ob hm_18 2 6 [qr 16, qi 0, qu] [] (bl1 c0 c1 c2 c3 c4 c5 c6 c7 c8 c9 c10 c11 c12 c13 c14 c15 ze R Q zg s135 F j I zd zf W V H Y C K b t k a f g Z za D z zh zi r U O zb zc J B T G po) rfl ?_
  exact ok_encode_6_1 (k49 := f_encode_49 ze C K b k a f g Z za) ok_encode_49_1 100000 h
theorem ok_clearInput_1 (h : f_clearInput z = some xd) : OEnds own_P 28 0 [qr 16] [] (bl1 c0 c1 c2 c3 c4 c5 c6 c7 c8 c9 c10 c11 c12 c13 c14 c15 ze R Q zg X F j I zd zf W V H Y C K b t k a f g Z za D z zh zi r U O zb zc J B T G po) (none, (bl1 c0 c1 c2 c3 c4 c5 c6 c7 c8 c9 c10 c11 c12 c13 c14 c15 ze R Q zg X F j I zd zf W V H Y C K b t k a f g Z za D xd zh zi r U O zb zc J B T G po), 0, 0) := by
  unfold f_clearInput at h
  refine ob hm_28 3 5 [qr 16] [] (bl1 c0 c1 c2 c3 c4 c5 c6 c7 c8 c9 c10 c11 c12 c13 c14 c15 ze R Q zg X F j I zd zf W V H Y C K b t k a f g Z za D 0 zh zi r U O zb zc J B T G po) rfl ?_
  cases h
  exact OEnds.vret hm_28 rfl rfl
theorem ok_setInByte_1 {v1 v2 res : Int32} (h : f_setInByte z Q v1 v2 = some (res, xc)) : OEnds own_P 17 0 [qr 16, qi v1, qi v2] [] (bl1 c0 c1 c2 c3 c4 c5 c6 c7 c8 c9 c10 c11 c12 c13 c14 c15 ze R Q zg X F j I zd zf W V H Y C K b t k a f g Z za D z zh zi r U O zb zc J B T G po) (some (.int res), (bl1 c0 c1 c2 c3 c4 c5 c6 c7 c8 c9 c10 c11 c12 c13 c14 c15 ze R xc zg X F j I zd zf W V H Y C K b t k a f g Z za D z zh zi r U O zb zc J B T G po), 0, 0) := by
  unfold f_setInByte at h
  refine oa hm_17 1 1 [qr 16, qi v1, qi v2] [.int v1] rfl ?_
  by_cases hc268 : v1 < 0
  · simp only [if_pos hc268] at h
    refine OEnds.ifT hm_17 rfl (q := 23) rfl ((tlt hc268).1) ?_
    refine oa hm_17 1 24 [qr 16, qi v1, qi v2] [.int 0] rfl ?_
    cases h
    exact OEnds.iret hm_17 rfl rfl
  · simp only [if_neg hc268] at h
    refine OEnds.ifF hm_17 rfl ((flt hc268).1) ?_
    refine oa hm_17 3 9 [qr 16, qi v1, qi v2] [.int z, .int v1] rfl ?_
    by_cases hc269 : v1 < z
    · simp only [if_pos hc269] at h
      refine OEnds.icmpF hm_17 rfl ((tlt hc269).2.1) ?_
      refine oa hm_17 1 13 [qr 16, qi v1, qi v2] [.int v2] rfl ?_
      by_cases hc270 : v2 < 0
      · simp only [if_pos hc270] at h
        refine OEnds.ifT hm_17 rfl (q := 23) rfl ((tlt hc270).1) ?_
        refine oa hm_17 1 24 [qr 16, qi v1, qi v2] [.int 0] rfl ?_
        cases h
        exact OEnds.iret hm_17 rfl rfl
      · simp only [if_neg hc270] at h
        refine OEnds.ifF hm_17 rfl ((flt hc270).1) ?_
        refine oa hm_17 2 20 [qr 16, qi v1, qi v2] [.int 255, .int v2] rfl ?_
        by_cases hc271 : 255 < v2
        · simp only [if_pos hc271] at h
          refine OEnds.icmpF hm_17 rfl ((tlt hc271).2.2.2) ?_
          refine oa hm_17 1 24 [qr 16, qi v1, qi v2] [.int 0] rfl ?_
          cases h
          exact OEnds.iret hm_17 rfl rfl
        · simp only [if_neg hc271] at h
          refine OEnds.icmpT hm_17 rfl (q := 25) rfl ((flt hc271).2.2.2) ?_
          refine oa hm_17 4 31 [qr 16, qi v1, qi v2] [.int v2, .int v1, .ref 19] rfl ?_
          obtain ⟨A148, hA148, h⟩ := bnd h
          refine OEnds.plain hm_17 rfl rfl (x_iastore rfl (Nat.le_of_ble_eq_true rfl) hA148) ?_
          refine ob hm_17 1 33 [qr 16, qi v1, qi v2] [.int 1] (bl1 c0 c1 c2 c3 c4 c5 c6 c7 c8 c9 c10 c11 c12 c13 c14 c15 ze R A148 zg X F j I zd zf W V H Y C K b t k a f g Z za D z zh zi r U O zb zc J B T G po) rfl ?_
          cases h
          exact OEnds.iret hm_17 rfl rfl
    · simp only [if_neg hc269] at h
      refine OEnds.icmpT hm_17 rfl (q := 23) rfl ((flt hc269).2.1) ?_
      refine oa hm_17 1 24 [qr 16, qi v1, qi v2] [.int 0] rfl ?_
      cases h
      exact OEnds.iret hm_17 rfl rfl
theorem ok_loadInFromOut_40_1 : ∀ {Q : List Int32} {z v1 : Int32} {d2 : Slot} {res : Int32} {xc : List Int32} {xd : Int32}, f_loadInFromOut_40 R D Q z v1 = some (res, xc, xd) → OEnds own_P 15 40 [qr 16, qi v1, d2] [] (bl1 c0 c1 c2 c3 c4 c5 c6 c7 c8 c9 c10 c11 c12 c13 c14 c15 ze R Q zg X F j I zd zf W V H Y C K b t k a f g Z za D z zh zi r U O zb zc J B T G po) (some (.int res), (bl1 c0 c1 c2 c3 c4 c5 c6 c7 c8 c9 c10 c11 c12 c13 c14 c15 ze R xc zg X F j I zd zf W V H Y C K b t k a f g Z za D xd zh zi r U O zb zc J B T G po), 0, 0) := by
  intro Q z v1 d2 res xc xd h
  unfold f_loadInFromOut_40 at h
  refine ob hm_15 5 49 [qr 16, qi v1, qu] [.int v1] (bl1 c0 c1 c2 c3 c4 c5 c6 c7 c8 c9 c10 c11 c12 c13 c14 c15 ze R Q zg X F j I zd zf W V H Y C K b t k a f g Z za D v1 zh zi r U O zb zc J B T G po) rfl ?_
  cases h
  exact OEnds.iret hm_15 rfl rfl
theorem ok_loadInFromOut_4_1 {k40 : List Int32 → Int32 → Int32 → Option (Int32 × List Int32 × Int32)} (hk40 : ∀ {Q : List Int32} {z v1 : Int32} {d2 : Slot} {res : Int32} {xc : List Int32} {xd : Int32}, k40 Q z v1 = some (res, xc, xd) → OEnds own_P 15 40 [qr 16, qi v1, d2] [] (bl1 c0 c1 c2 c3 c4 c5 c6 c7 c8 c9 c10 c11 c12 c13 c14 c15 ze R Q zg X F j I zd zf W V H Y C K b t k a f g Z za D z zh zi r U O zb zc J B T G po) (some (.int res), (bl1 c0 c1 c2 c3 c4 c5 c6 c7 c8 c9 c10 c11 c12 c13 c14 c15 ze R xc zg X F j I zd zf W V H Y C K b t k a f g Z za D xd zh zi r U O zb zc J B T G po), 0, 0)) : ∀ (n : Nat), ∀ {Q : List Int32} {z v1 v2 res : Int32} {xc : List Int32} {xd : Int32}, f_loadInFromOut_4 k40 R D n Q z v1 v2 = some (res, xc, xd) → OEnds own_P 15 4 [qr 16, qi v1, qi v2] [] (bl1 c0 c1 c2 c3 c4 c5 c6 c7 c8 c9 c10 c11 c12 c13 c14 c15 ze R Q zg X F j I zd zf W V H Y C K b t k a f g Z za D z zh zi r U O zb zc J B T G po) (some (.int res), (bl1 c0 c1 c2 c3 c4 c5 c6 c7 c8 c9 c10 c11 c12 c13 c14 c15 ze R xc zg X F j I zd zf W V H Y C K b t k a f g Z za D xd zh zi r U O zb zc J B T G po), 0, 0) := by
  intro n
  induction n with
  | zero => intro Q z v1 v2 res xc xd h; cases h
  | succ n ih =>
    intro Q z v1 v2 res xc xd h
    unfold f_loadInFromOut_4 at h
    refine ob hm_15 3 9 [qr 16, qi v1, qi v2] [.int D, .int v2] (bl1 c0 c1 c2 c3 c4 c5 c6 c7 c8 c9 c10 c11 c12 c13 c14 c15 ze R Q zg X F j I zd zf W V H Y C K b t k a f g Z za D z zh zi r U O zb zc J B T G po) rfl ?_
    by_cases hc272 : v2 < D
    · simp only [if_pos hc272] at h
      refine OEnds.icmpF hm_15 rfl ((tlt hc272).2.1) ?_
      refine oa hm_15 2 16 [qr 16, qi v1, qi v2] [.int 512, .int v2] rfl ?_
      by_cases hc273 : v2 < 512
      · simp only [if_pos hc273] at h
        refine OEnds.icmpF hm_15 rfl ((tlt hc273).2.1) ?_
        refine oa hm_15 6 29 [qr 16, qi v1, qi v2] [.int v2, .ref 18, .int v2, .ref 19] rfl ?_
        obtain ⟨x149, hx149, h⟩ := bnd h
        refine OEnds.plain hm_15 rfl rfl (x_iaload rfl hx149) ?_
        show OEnds own_P 15 30 [qr 16, qi v1, qi v2] [.int x149, .int v2, .ref 19] (bl1 c0 c1 c2 c3 c4 c5 c6 c7 c8 c9 c10 c11 c12 c13 c14 c15 ze R Q zg X F j I zd zf W V H Y C K b t k a f g Z za D z zh zi r U O zb zc J B T G po) _
        obtain ⟨A150, hA150, h⟩ := bnd h
        refine OEnds.plain hm_15 rfl rfl (x_iastore rfl (Nat.le_of_ble_eq_true rfl) hA150) ?_
        refine ob hm_15 3 4 [qr 16, qi (v1 + 1), qi (v2 + 1)] [] (bl1 c0 c1 c2 c3 c4 c5 c6 c7 c8 c9 c10 c11 c12 c13 c14 c15 ze R A150 zg X F j I zd zf W V H Y C K b t k a f g Z za D z zh zi r U O zb zc J B T G po) rfl ?_
        exact ih h
      · simp only [if_neg hc273] at h
        refine OEnds.icmpT hm_15 rfl (q := 40) rfl ((flt hc273).2.1) ?_
        refine oc 40 [qr 16, qi v1, qi v2] [] ?_
        exact hk40 h
    · simp only [if_neg hc272] at h
      refine OEnds.icmpT hm_15 rfl (q := 40) rfl ((flt hc272).2.1) ?_
      refine oc 40 [qr 16, qi v1, qi v2] [] ?_
      exact hk40 h
theorem ok_loadInFromOut_1 {res : Int32} (h : f_loadInFromOut R D Q z = some (res, xc, xd)) : OEnds own_P 15 0 [qr 16, qu, qu] [] (bl1 c0 c1 c2 c3 c4 c5 c6 c7 c8 c9 c10 c11 c12 c13 c14 c15 ze R Q zg X F j I zd zf W V H Y C K b t k a f g Z za D z zh zi r U O zb zc J B T G po) (some (.int res), (bl1 c0 c1 c2 c3 c4 c5 c6 c7 c8 c9 c10 c11 c12 c13 c14 c15 ze R xc zg X F j I zd zf W V H Y C K b t k a f g Z za D xd zh zi r U O zb zc J B T G po), 0, 0) := by
  unfold f_loadInFromOut at h
  refine oa hm_15 4 4 [qr 16, qi 0, qi 0] [] rfl ?_
  exact ok_loadInFromOut_4_1 (k40 := f_loadInFromOut_40 R D) ok_loadInFromOut_40_1 100000 h
theorem ok_putInByte_1 {v1 res : Int32} (h : f_putInByte Q z v1 = some (res, xc, xd)) : OEnds own_P 16 0 [qr 16, qi v1] [] (bl1 c0 c1 c2 c3 c4 c5 c6 c7 c8 c9 c10 c11 c12 c13 c14 c15 ze R Q zg X F j I zd zf W V H Y C K b t k a f g Z za D z zh zi r U O zb zc J B T G po) (some (.int res), (bl1 c0 c1 c2 c3 c4 c5 c6 c7 c8 c9 c10 c11 c12 c13 c14 c15 ze R xc zg X F j I zd zf W V H Y C K b t k a f g Z za D xd zh zi r U O zb zc J B T G po), 0, 0) := by
  unfold f_putInByte at h
  refine oa hm_16 1 1 [qr 16, qi v1] [.int v1] rfl ?_
  by_cases hc274 : v1 < 0
  · simp only [if_pos hc274] at h
    refine OEnds.ifT hm_16 rfl (q := 21) rfl ((tlt hc274).1) ?_
    refine oa hm_16 1 22 [qr 16, qi v1] [.int 0] rfl ?_
    cases h
    exact OEnds.iret hm_16 rfl rfl
  · simp only [if_neg hc274] at h
    refine OEnds.ifF hm_16 rfl ((flt hc274).1) ?_
    refine oa hm_16 2 8 [qr 16, qi v1] [.int 255, .int v1] rfl ?_
    by_cases hc275 : 255 < v1
    · simp only [if_pos hc275] at h
      refine OEnds.icmpT hm_16 rfl (q := 21) rfl ((tlt hc275).2.2.1) ?_
      refine oa hm_16 1 22 [qr 16, qi v1] [.int 0] rfl ?_
      cases h
      exact OEnds.iret hm_16 rfl rfl
    · simp only [if_neg hc275] at h
      refine OEnds.icmpF hm_16 rfl ((flt hc275).2.2.1) ?_
      refine oa hm_16 3 18 [qr 16, qi v1] [.int 512, .int z] rfl ?_
      by_cases hc276 : z < 512
      · simp only [if_pos hc276] at h
        refine OEnds.icmpT hm_16 rfl (q := 23) rfl ((tlt hc276).1) ?_
        refine oa hm_16 5 32 [qr 16, qi v1] [.int v1, .int z, .ref 19] rfl ?_
        obtain ⟨A151, hA151, h⟩ := bnd h
        refine OEnds.plain hm_16 rfl rfl (x_iastore rfl (Nat.le_of_ble_eq_true rfl) hA151) ?_
        refine ob hm_16 7 44 [qr 16, qi v1] [.int 1] (bl1 c0 c1 c2 c3 c4 c5 c6 c7 c8 c9 c10 c11 c12 c13 c14 c15 ze R A151 zg X F j I zd zf W V H Y C K b t k a f g Z za D (z + 1) zh zi r U O zb zc J B T G po) rfl ?_
        cases h
        exact OEnds.iret hm_16 rfl rfl
      · simp only [if_neg hc276] at h
        refine OEnds.icmpF hm_16 rfl ((flt hc276).1) ?_
        refine oa hm_16 1 22 [qr 16, qi v1] [.int 0] rfl ?_
        cases h
        exact OEnds.iret hm_16 rfl rfl
theorem ok_setInterlaced_1 {v1 : Int32} (h : f_setInterlaced Z v1 = some xv) : OEnds own_P 6 0 [qr 16, qi v1] [] (bl1 c0 c1 c2 c3 c4 c5 c6 c7 c8 c9 c10 c11 c12 c13 c14 c15 ze R Q zg X F j I zd zf W V H Y C K b t k a f g Z za D z zh zi r U O zb zc J B T G po) (none, (bl1 c0 c1 c2 c3 c4 c5 c6 c7 c8 c9 c10 c11 c12 c13 c14 c15 ze R Q zg X F j I zd zf W V H Y C K b t k a f g xv za D z zh zi r U O zb zc J B T G po), 0, 0) := by
  unfold f_setInterlaced at h
  refine oa hm_6 2 2 [qr 16, qi v1] [.int v1, .ref 16] rfl ?_
  by_cases hz277 : v1 = 0 ∨ v1 = 1
  · simp only [if_pos hz277] at h
    refine OEnds.plain hm_6 rfl rfl (x_putZ rfl (Nat.le_of_ble_eq_true rfl) rfl hz277) ?_
    show OEnds own_P 6 5 [qr 16, qi v1] [] (bl1 c0 c1 c2 c3 c4 c5 c6 c7 c8 c9 c10 c11 c12 c13 c14 c15 ze R Q zg X F j I zd zf W V H Y C K b t k a f g v1 za D z zh zi r U O zb zc J B T G po) _
    cases h
    exact OEnds.vret hm_6 rfl rfl
  · simp only [if_neg hz277] at h
    cases h
theorem ok_L_step_14_1 : ∀ {ze R Q X F j I zd zf : List Int32} {Z za D z r U O t0 : Int32} {d0 d1 d2 d3 d4 : Slot} {xr zm xc zo zk zj zv zy zz : List Int32} {xv xw zn xd zl ya : Int32} {yb : Int32}, f_L_step_14 C K b t k a f g ze R Q X F j I zd zf Z za D z r U O t0 = some (xr, zm, xc, zo, zk, zj, zv, zy, zz, xv, xw, zn, xd, zl, ya, yb) → OEnds own_P 3 14 [d0, d1, d2, d3, d4] [.int t0, .ref 16] (bl1 c0 c1 c2 c3 c4 c5 c6 c7 c8 c9 c10 c11 c12 c13 c14 c15 ze R Q zg X F j I zd zf W V H Y C K b t k a f g Z za D z zh zi r U O zb zc J B T G po) (none, (bl1 c0 c1 c2 c3 c4 c5 c6 c7 c8 c9 c10 c11 c12 c13 c14 c15 xr zm xc zg zo zk zj zv zy zz W V H Y C K b t k a f g xv xw zn xd zh zi zl ya yb zb zc J B T G po), 0, 0) := by
  intro ze R Q X F j I zd zf Z za D z r U O t0 d0 d1 d2 d3 d4 xr zm xc zo zk zj zv zy zz xv xw zn xd zl ya yb h
  unfold f_L_step_14 at h
  obtain ⟨s179, hq278, h⟩ := bnd h
  refine OEnds.call0 hm_3 rfl rfl (by decide) rfl (as := [.ref 16, .int t0]) (rest := []) rfl rfl (ok_setInterlaced_1 hq278) ?_
  refine ob hm_3 1 127 [qu, qu, qu, qu, qu] [] (bl1 c0 c1 c2 c3 c4 c5 c6 c7 c8 c9 c10 c11 c12 c13 c14 c15 ze R Q zg X F j I zd zf W V H Y C K b t k a f g s179 za D z zh zi r U O zb zc J B T G po) rfl ?_
  cases h
  exact OEnds.vret hm_3 rfl rfl
theorem ok_L_step_1 {v1 v2 v3 v4 : Int32} (h : f_L_step C K b t k a f g ze R Q X F j I zd zf Z za D z r U O v1 v2 v3 v4 = some (xr, zm, xc, zo, zk, zj, zv, zy, zz, xv, xw, zn, xd, zl, ya, yb)) : OEnds own_P 3 0 [qr 16, qi v1, qi v2, qi v3, qi v4] [] (bl1 c0 c1 c2 c3 c4 c5 c6 c7 c8 c9 c10 c11 c12 c13 c14 c15 ze R Q zg X F j I zd zf W V H Y C K b t k a f g Z za D z zh zi r U O zb zc J B T G po) (none, (bl1 c0 c1 c2 c3 c4 c5 c6 c7 c8 c9 c10 c11 c12 c13 c14 c15 xr zm xc zg zo zk zj zv zy zz W V H Y C K b t k a f g xv xw zn xd zh zi zl ya yb zb zc J B T G po), 0, 0) := by
  unfold f_L_step at h
  refine oa hm_3 1 1 [qr 16, qi v1, qi v2, qi v3, qi v4] [.int v1] rfl ?_
  by_cases hc279 : v1 = 0
  · simp only [if_pos hc279] at h
    refine OEnds.ifF hm_3 rfl ((teq hc279).2) ?_
    refine oa hm_3 2 6 [qr 16, qi v1, qi v2, qi v3, qi v4] [.int v2, .ref 16] rfl ?_
    by_cases hc280 : v2 = 0
    · simp only [if_pos hc280] at h
      refine OEnds.ifT hm_3 rfl (q := 13) rfl ((teq hc280).1) ?_
      refine oa hm_3 1 14 [qr 16, qi v1, qi v2, qi v3, qi v4] [.int 0, .ref 16] rfl ?_
      exact ok_L_step_14_1 h
    · simp only [if_neg hc280] at h
      refine OEnds.ifF hm_3 rfl ((feq hc280).1) ?_
      refine oa hm_3 2 14 [qr 16, qi v1, qi v2, qi v3, qi v4] [.int 1, .ref 16] rfl ?_
      exact ok_L_step_14_1 h
  · simp only [if_neg hc279] at h
    refine OEnds.ifT hm_3 rfl (q := 20) rfl ((feq hc279).2) ?_
    refine oa hm_3 2 22 [qr 16, qi v1, qi v2, qi v3, qi v4] [.int 1, .int v1] rfl ?_
    by_cases hc281 : v1 = 1
    · simp only [if_pos hc281] at h
      refine OEnds.icmpF hm_3 rfl ((teq hc281).2) ?_
      refine oa hm_3 2 27 [qr 16, qi v1, qi v2, qi v3, qi v4] [.int v2, .ref 16] rfl ?_
      obtain ⟨⟨r177, s178⟩, hq282, h⟩ := bnd h
      refine OEnds.call0 hm_3 rfl rfl (by decide) rfl (as := [.ref 16, .int v2]) (rest := []) rfl rfl (ok_setBlockSize_1 hq282) ?_
      refine ob hm_3 2 127 [qr 16, qi v1, qi v2, qi v3, qi v4] [] (bl1 c0 c1 c2 c3 c4 c5 c6 c7 c8 c9 c10 c11 c12 c13 c14 c15 ze R Q zg X F j I zd zf W V H Y C K b t k a f g Z s178 D z zh zi r U O zb zc J B T G po) rfl ?_
      cases h
      exact OEnds.vret hm_3 rfl rfl
    · simp only [if_neg hc281] at h
      refine OEnds.icmpT hm_3 rfl (q := 34) rfl ((feq hc281).2) ?_
      refine oa hm_3 2 36 [qr 16, qi v1, qi v2, qi v3, qi v4] [.int 2, .int v1] rfl ?_
      by_cases hc283 : v1 = 2
      · simp only [if_pos hc283] at h
        refine OEnds.icmpF hm_3 rfl ((teq hc283).2) ?_
        refine oa hm_3 3 42 [qr 16, qi v1, qi v2, qi v3, qi v4] [.int v3, .int v2, .ref 16] rfl ?_
        obtain ⟨⟨r175, s176⟩, hq284, h⟩ := bnd h
        refine OEnds.call0 hm_3 rfl rfl (by decide) rfl (as := [.ref 16, .int v2, .int v3]) (rest := []) rfl rfl (ok_setPixel_1 hq284) ?_
        refine ob hm_3 2 127 [qr 16, qi v1, qi v2, qi v3, qi v4] [] (bl1 c0 c1 c2 c3 c4 c5 c6 c7 c8 c9 c10 c11 c12 c13 c14 c15 s176 R Q zg X F j I zd zf W V H Y C K b t k a f g Z za D z zh zi r U O zb zc J B T G po) rfl ?_
        cases h
        exact OEnds.vret hm_3 rfl rfl
      · simp only [if_neg hc283] at h
        refine OEnds.icmpT hm_3 rfl (q := 49) rfl ((feq hc283).2) ?_
        refine oa hm_3 2 51 [qr 16, qi v1, qi v2, qi v3, qi v4] [.int 3, .int v1] rfl ?_
        by_cases hc285 : v1 = 3
        · simp only [if_pos hc285] at h
          refine OEnds.icmpF hm_3 rfl ((teq hc285).2) ?_
          refine oa hm_3 4 59 [qr 16, qi v1, qi v2, qi v3, qi v4] [.int v4, .int v3, .int v2, .ref 16] rfl ?_
          obtain ⟨⟨r173, s174⟩, hq286, h⟩ := bnd h
          refine OEnds.call0 hm_3 rfl rfl (by decide) rfl (as := [.ref 16, .int v2, .int v3, .int v4]) (rest := []) rfl rfl (ok_fill_1 hq286) ?_
          refine ob hm_3 2 127 [qr 16, qi v1, qi v2, qi v3, qi v4] [] (bl1 c0 c1 c2 c3 c4 c5 c6 c7 c8 c9 c10 c11 c12 c13 c14 c15 s174 R Q zg X F j I zd zf W V H Y C K b t k a f g Z za D z zh zi r U O zb zc J B T G po) rfl ?_
          cases h
          exact OEnds.vret hm_3 rfl rfl
        · simp only [if_neg hc285] at h
          refine OEnds.icmpT hm_3 rfl (q := 66) rfl ((feq hc285).2) ?_
          refine oa hm_3 2 68 [qr 16, qi v1, qi v2, qi v3, qi v4] [.int 4, .int v1] rfl ?_
          by_cases hc287 : v1 = 4
          · simp only [if_pos hc287] at h
            refine OEnds.icmpF hm_3 rfl ((teq hc287).2) ?_
            refine oa hm_3 1 72 [qr 16, qi v1, qi v2, qi v3, qi v4] [.ref 16] rfl ?_
            obtain ⟨⟨r161, s162, s163, s164, s165, s166, s167, s168, s169, s170, s171, s172⟩, hq288, h⟩ := bnd h
            refine OEnds.call0 hm_3 rfl rfl (by decide) rfl (as := [.ref 16]) (rest := []) rfl rfl (ok_encode_1 hq288) ?_
            refine ob hm_3 2 127 [qr 16, qi v1, qi v2, qi v3, qi v4] [] (bl1 c0 c1 c2 c3 c4 c5 c6 c7 c8 c9 c10 c11 c12 c13 c14 c15 ze s162 Q zg s163 s164 s165 s166 s167 s168 W V H Y C K b t k a f g Z za s169 z zh zi s170 s171 s172 zb zc J B T G po) rfl ?_
            cases h
            exact OEnds.vret hm_3 rfl rfl
          · simp only [if_neg hc287] at h
            refine OEnds.icmpT hm_3 rfl (q := 79) rfl ((feq hc287).2) ?_
            refine oa hm_3 2 81 [qr 16, qi v1, qi v2, qi v3, qi v4] [.int 5, .int v1] rfl ?_
            by_cases hc289 : v1 = 5
            · simp only [if_pos hc289] at h
              refine OEnds.icmpF hm_3 rfl ((teq hc289).2) ?_
              refine oa hm_3 1 85 [qr 16, qi v1, qi v2, qi v3, qi v4] [.ref 16] rfl ?_
              obtain ⟨s160, hq290, h⟩ := bnd h
              refine OEnds.call0 hm_3 rfl rfl (by decide) rfl (as := [.ref 16]) (rest := []) rfl rfl (ok_clearInput_1 hq290) ?_
              refine ob hm_3 1 127 [qr 16, qi v1, qi v2, qi v3, qi v4] [] (bl1 c0 c1 c2 c3 c4 c5 c6 c7 c8 c9 c10 c11 c12 c13 c14 c15 ze R Q zg X F j I zd zf W V H Y C K b t k a f g Z za D s160 zh zi r U O zb zc J B T G po) rfl ?_
              cases h
              exact OEnds.vret hm_3 rfl rfl
            · simp only [if_neg hc289] at h
              refine OEnds.icmpT hm_3 rfl (q := 91) rfl ((feq hc289).2) ?_
              refine oa hm_3 2 94 [qr 16, qi v1, qi v2, qi v3, qi v4] [.int 7, .int v1] rfl ?_
              by_cases hc291 : v1 = 7
              · simp only [if_pos hc291] at h
                refine OEnds.icmpF hm_3 rfl ((teq hc291).2) ?_
                refine oa hm_3 3 100 [qr 16, qi v1, qi v2, qi v3, qi v4] [.int v3, .int v2, .ref 16] rfl ?_
                obtain ⟨⟨r158, s159⟩, hq292, h⟩ := bnd h
                refine OEnds.call0 hm_3 rfl rfl (by decide) rfl (as := [.ref 16, .int v2, .int v3]) (rest := []) rfl rfl (ok_setInByte_1 hq292) ?_
                refine ob hm_3 2 127 [qr 16, qi v1, qi v2, qi v3, qi v4] [] (bl1 c0 c1 c2 c3 c4 c5 c6 c7 c8 c9 c10 c11 c12 c13 c14 c15 ze R s159 zg X F j I zd zf W V H Y C K b t k a f g Z za D z zh zi r U O zb zc J B T G po) rfl ?_
                cases h
                exact OEnds.vret hm_3 rfl rfl
              · simp only [if_neg hc291] at h
                refine OEnds.icmpT hm_3 rfl (q := 107) rfl ((feq hc291).2) ?_
                refine oa hm_3 2 110 [qr 16, qi v1, qi v2, qi v3, qi v4] [.int 8, .int v1] rfl ?_
                by_cases hc293 : v1 = 8
                · simp only [if_pos hc293] at h
                  refine OEnds.icmpF hm_3 rfl ((teq hc293).2) ?_
                  refine oa hm_3 1 114 [qr 16, qi v1, qi v2, qi v3, qi v4] [.ref 16] rfl ?_
                  obtain ⟨⟨r155, s156, s157⟩, hq294, h⟩ := bnd h
                  refine OEnds.call0 hm_3 rfl rfl (by decide) rfl (as := [.ref 16]) (rest := []) rfl rfl (ok_loadInFromOut_1 hq294) ?_
                  refine ob hm_3 2 127 [qr 16, qi v1, qi v2, qi v3, qi v4] [] (bl1 c0 c1 c2 c3 c4 c5 c6 c7 c8 c9 c10 c11 c12 c13 c14 c15 ze R s156 zg X F j I zd zf W V H Y C K b t k a f g Z za D s157 zh zi r U O zb zc J B T G po) rfl ?_
                  cases h
                  exact OEnds.vret hm_3 rfl rfl
                · simp only [if_neg hc293] at h
                  refine OEnds.icmpT hm_3 rfl (q := 121) rfl ((feq hc293).2) ?_
                  refine oa hm_3 2 123 [qr 16, qi v1, qi v2, qi v3, qi v4] [.int v2, .ref 16] rfl ?_
                  obtain ⟨⟨r152, s153, s154⟩, hq295, h⟩ := bnd h
                  refine OEnds.call0 hm_3 rfl rfl (by decide) rfl (as := [.ref 16, .int v2]) (rest := []) rfl rfl (ok_putInByte_1 hq295) ?_
                  refine ob hm_3 1 127 [qr 16, qi v1, qi v2, qi v3, qi v4] [] (bl1 c0 c1 c2 c3 c4 c5 c6 c7 c8 c9 c10 c11 c12 c13 c14 c15 ze R s153 zg X F j I zd zf W V H Y C K b t k a f g Z za D s154 zh zi r U O zb zc J B T G po) rfl ?_
                  cases h
                  exact OEnds.vret hm_3 rfl rfl
theorem ok_getPixel_0 {v1 res : Int32} (h : f_getPixel ze b v1 = some res) : OEnds own_P 8 0 [qr 1, qi v1] [] (c0 :: bk0 ze R Q zg X F j I zd zf W V H Y C K b t k a f g Z za D z zh zi r U O zb zc J B T G po) (some (.int res), (c0 :: bk0 ze R Q zg X F j I zd zf W V H Y C K b t k a f g Z za D z zh zi r U O zb zc J B T G po), 0, 0) := by
  unfold f_getPixel at h
  refine oa hm_8 1 1 [qr 1, qi v1] [.int v1] rfl ?_
  by_cases hc296 : v1 < 0
  · simp only [if_pos hc296] at h
    refine OEnds.ifT hm_8 rfl (q := 12) rfl ((tlt hc296).1) ?_
    refine oa hm_8 1 13 [qr 1, qi v1] [.int (-1)] rfl ?_
    cases h
    exact OEnds.iret hm_8 rfl rfl
  · simp only [if_neg hc296] at h
    refine OEnds.ifF hm_8 rfl ((flt hc296).1) ?_
    refine oa hm_8 3 9 [qr 1, qi v1] [.int b, .int v1] rfl ?_
    by_cases hc297 : v1 < b
    · simp only [if_pos hc297] at h
      refine OEnds.icmpT hm_8 rfl (q := 14) rfl ((tlt hc297).1) ?_
      refine oa hm_8 3 19 [qr 1, qi v1] [.int v1, .ref 2] rfl ?_
      obtain ⟨x180, hx180, h⟩ := bnd h
      refine OEnds.plain hm_8 rfl rfl (x_iaload rfl hx180) ?_
      show OEnds own_P 8 20 [qr 1, qi v1] [.int x180] (c0 :: bk0 ze R Q zg X F j I zd zf W V H Y C K b t k a f g Z za D z zh zi r U O zb zc J B T G po) _
      cases h
      exact OEnds.iret hm_8 rfl rfl
    · simp only [if_neg hc297] at h
      refine OEnds.icmpF hm_8 rfl ((flt hc297).1) ?_
      refine oa hm_8 1 13 [qr 1, qi v1] [.int (-1)] rfl ?_
      cases h
      exact OEnds.iret hm_8 rfl rfl
theorem ok_getPixel_1 {v1 res : Int32} (h : f_getPixel ze b v1 = some res) : OEnds own_P 8 0 [qr 16, qi v1] [] (bl1 c0 c1 c2 c3 c4 c5 c6 c7 c8 c9 c10 c11 c12 c13 c14 c15 ze R Q zg X F j I zd zf W V H Y C K b t k a f g Z za D z zh zi r U O zb zc J B T G po) (some (.int res), (bl1 c0 c1 c2 c3 c4 c5 c6 c7 c8 c9 c10 c11 c12 c13 c14 c15 ze R Q zg X F j I zd zf W V H Y C K b t k a f g Z za D z zh zi r U O zb zc J B T G po), 0, 0) := by
  unfold f_getPixel at h
  refine oa hm_8 1 1 [qr 16, qi v1] [.int v1] rfl ?_
  by_cases hc298 : v1 < 0
  · simp only [if_pos hc298] at h
    refine OEnds.ifT hm_8 rfl (q := 12) rfl ((tlt hc298).1) ?_
    refine oa hm_8 1 13 [qr 16, qi v1] [.int (-1)] rfl ?_
    cases h
    exact OEnds.iret hm_8 rfl rfl
  · simp only [if_neg hc298] at h
    refine OEnds.ifF hm_8 rfl ((flt hc298).1) ?_
    refine oa hm_8 3 9 [qr 16, qi v1] [.int b, .int v1] rfl ?_
    by_cases hc299 : v1 < b
    · simp only [if_pos hc299] at h
      refine OEnds.icmpT hm_8 rfl (q := 14) rfl ((tlt hc299).1) ?_
      refine oa hm_8 3 19 [qr 16, qi v1] [.int v1, .ref 17] rfl ?_
      obtain ⟨x180, hx180, h⟩ := bnd h
      refine OEnds.plain hm_8 rfl rfl (x_iaload rfl hx180) ?_
      show OEnds own_P 8 20 [qr 16, qi v1] [.int x180] (bl1 c0 c1 c2 c3 c4 c5 c6 c7 c8 c9 c10 c11 c12 c13 c14 c15 ze R Q zg X F j I zd zf W V H Y C K b t k a f g Z za D z zh zi r U O zb zc J B T G po) _
      cases h
      exact OEnds.iret hm_8 rfl rfl
    · simp only [if_neg hc299] at h
      refine OEnds.icmpF hm_8 rfl ((flt hc299).1) ?_
      refine oa hm_8 1 13 [qr 16, qi v1] [.int (-1)] rfl ?_
      cases h
      exact OEnds.iret hm_8 rfl rfl
theorem ok_getOutLength_0 {res : Int32} (h : f_getOutLength D = some res) : OEnds own_P 9 0 [qr 1] [] (c0 :: bk0 ze R Q zg X F j I zd zf W V H Y C K b t k a f g Z za D z zh zi r U O zb zc J B T G po) (some (.int res), (c0 :: bk0 ze R Q zg X F j I zd zf W V H Y C K b t k a f g Z za D z zh zi r U O zb zc J B T G po), 0, 0) := by
  unfold f_getOutLength at h
  refine oa hm_9 2 4 [qr 1] [.int D] rfl ?_
  cases h
  exact OEnds.iret hm_9 rfl rfl
theorem ok_getOutLength_1 {res : Int32} (h : f_getOutLength D = some res) : OEnds own_P 9 0 [qr 16] [] (bl1 c0 c1 c2 c3 c4 c5 c6 c7 c8 c9 c10 c11 c12 c13 c14 c15 ze R Q zg X F j I zd zf W V H Y C K b t k a f g Z za D z zh zi r U O zb zc J B T G po) (some (.int res), (bl1 c0 c1 c2 c3 c4 c5 c6 c7 c8 c9 c10 c11 c12 c13 c14 c15 ze R Q zg X F j I zd zf W V H Y C K b t k a f g Z za D z zh zi r U O zb zc J B T G po), 0, 0) := by
  unfold f_getOutLength at h
  refine oa hm_9 2 4 [qr 16] [.int D] rfl ?_
  cases h
  exact OEnds.iret hm_9 rfl rfl
theorem ok_getInLength_0 {res : Int32} (h : f_getInLength z = some res) : OEnds own_P 10 0 [qr 1] [] (c0 :: bk0 ze R Q zg X F j I zd zf W V H Y C K b t k a f g Z za D z zh zi r U O zb zc J B T G po) (some (.int res), (c0 :: bk0 ze R Q zg X F j I zd zf W V H Y C K b t k a f g Z za D z zh zi r U O zb zc J B T G po), 0, 0) := by
  unfold f_getInLength at h
  refine oa hm_10 2 4 [qr 1] [.int z] rfl ?_
  cases h
  exact OEnds.iret hm_10 rfl rfl
theorem ok_getInLength_1 {res : Int32} (h : f_getInLength z = some res) : OEnds own_P 10 0 [qr 16] [] (bl1 c0 c1 c2 c3 c4 c5 c6 c7 c8 c9 c10 c11 c12 c13 c14 c15 ze R Q zg X F j I zd zf W V H Y C K b t k a f g Z za D z zh zi r U O zb zc J B T G po) (some (.int res), (bl1 c0 c1 c2 c3 c4 c5 c6 c7 c8 c9 c10 c11 c12 c13 c14 c15 ze R Q zg X F j I zd zf W V H Y C K b t k a f g Z za D z zh zi r U O zb zc J B T G po), 0, 0) := by
  unfold f_getInLength at h
  refine oa hm_10 2 4 [qr 16] [.int z] rfl ?_
  cases h
  exact OEnds.iret hm_10 rfl rfl
theorem ok_getOutByte_0 {v1 res : Int32} (h : f_getOutByte R D v1 = some res) : OEnds own_P 11 0 [qr 1, qi v1] [] (c0 :: bk0 ze R Q zg X F j I zd zf W V H Y C K b t k a f g Z za D z zh zi r U O zb zc J B T G po) (some (.int res), (c0 :: bk0 ze R Q zg X F j I zd zf W V H Y C K b t k a f g Z za D z zh zi r U O zb zc J B T G po), 0, 0) := by
  unfold f_getOutByte at h
  refine oa hm_11 1 1 [qr 1, qi v1] [.int v1] rfl ?_
  by_cases hc300 : v1 < 0
  · simp only [if_pos hc300] at h
    refine OEnds.ifT hm_11 rfl (q := 12) rfl ((tlt hc300).1) ?_
    refine oa hm_11 1 13 [qr 1, qi v1] [.int (-1)] rfl ?_
    cases h
    exact OEnds.iret hm_11 rfl rfl
  · simp only [if_neg hc300] at h
    refine OEnds.ifF hm_11 rfl ((flt hc300).1) ?_
    refine oa hm_11 3 9 [qr 1, qi v1] [.int D, .int v1] rfl ?_
    by_cases hc301 : v1 < D
    · simp only [if_pos hc301] at h
      refine OEnds.icmpT hm_11 rfl (q := 14) rfl ((tlt hc301).1) ?_
      refine oa hm_11 3 19 [qr 1, qi v1] [.int v1, .ref 3] rfl ?_
      obtain ⟨x181, hx181, h⟩ := bnd h
      refine OEnds.plain hm_11 rfl rfl (x_iaload rfl hx181) ?_
      show OEnds own_P 11 20 [qr 1, qi v1] [.int x181] (c0 :: bk0 ze R Q zg X F j I zd zf W V H Y C K b t k a f g Z za D z zh zi r U O zb zc J B T G po) _
      cases h
      exact OEnds.iret hm_11 rfl rfl
    · simp only [if_neg hc301] at h
      refine OEnds.icmpF hm_11 rfl ((flt hc301).1) ?_
      refine oa hm_11 1 13 [qr 1, qi v1] [.int (-1)] rfl ?_
      cases h
      exact OEnds.iret hm_11 rfl rfl
theorem ok_getOutByte_1 {v1 res : Int32} (h : f_getOutByte R D v1 = some res) : OEnds own_P 11 0 [qr 16, qi v1] [] (bl1 c0 c1 c2 c3 c4 c5 c6 c7 c8 c9 c10 c11 c12 c13 c14 c15 ze R Q zg X F j I zd zf W V H Y C K b t k a f g Z za D z zh zi r U O zb zc J B T G po) (some (.int res), (bl1 c0 c1 c2 c3 c4 c5 c6 c7 c8 c9 c10 c11 c12 c13 c14 c15 ze R Q zg X F j I zd zf W V H Y C K b t k a f g Z za D z zh zi r U O zb zc J B T G po), 0, 0) := by
  unfold f_getOutByte at h
  refine oa hm_11 1 1 [qr 16, qi v1] [.int v1] rfl ?_
  by_cases hc302 : v1 < 0
  · simp only [if_pos hc302] at h
    refine OEnds.ifT hm_11 rfl (q := 12) rfl ((tlt hc302).1) ?_
    refine oa hm_11 1 13 [qr 16, qi v1] [.int (-1)] rfl ?_
    cases h
    exact OEnds.iret hm_11 rfl rfl
  · simp only [if_neg hc302] at h
    refine OEnds.ifF hm_11 rfl ((flt hc302).1) ?_
    refine oa hm_11 3 9 [qr 16, qi v1] [.int D, .int v1] rfl ?_
    by_cases hc303 : v1 < D
    · simp only [if_pos hc303] at h
      refine OEnds.icmpT hm_11 rfl (q := 14) rfl ((tlt hc303).1) ?_
      refine oa hm_11 3 19 [qr 16, qi v1] [.int v1, .ref 18] rfl ?_
      obtain ⟨x181, hx181, h⟩ := bnd h
      refine OEnds.plain hm_11 rfl rfl (x_iaload rfl hx181) ?_
      show OEnds own_P 11 20 [qr 16, qi v1] [.int x181] (bl1 c0 c1 c2 c3 c4 c5 c6 c7 c8 c9 c10 c11 c12 c13 c14 c15 ze R Q zg X F j I zd zf W V H Y C K b t k a f g Z za D z zh zi r U O zb zc J B T G po) _
      cases h
      exact OEnds.iret hm_11 rfl rfl
    · simp only [if_neg hc303] at h
      refine OEnds.icmpF hm_11 rfl ((flt hc303).1) ?_
      refine oa hm_11 1 13 [qr 16, qi v1] [.int (-1)] rfl ?_
      cases h
      exact OEnds.iret hm_11 rfl rfl
theorem ok_gatherBlocks_117_1 {kb : List Int32 → Int32 → Int32 → Int32 → Option (Int32 × List Int32 × Int32)} (hkb : ∀ {j : List Int32} {zb v1 v2 : Int32} {d3 d4 : Slot} {res : Int32} {zj : List Int32} {yc : Int32}, kb j zb v1 v2 = some (res, zj, yc) → OEnds own_P 30 9 [qr 16, qi v1, qi v2, d3, d4] [] (bl1 c0 c1 c2 c3 c4 c5 c6 c7 c8 c9 c10 c11 c12 c13 c14 c15 ze R Q zg X F j I zd zf W V H Y C K b t k a f g Z za D z zh zi r U O zb zc J B T G po) (some (.int res), (bl1 c0 c1 c2 c3 c4 c5 c6 c7 c8 c9 c10 c11 c12 c13 c14 c15 ze R Q zg X F zj I zd zf W V H Y C K b t k a f g Z za D z zh zi r U O yc zc J B T G po), 0, 0)) : ∀ {j : List Int32} {zb v1 v2 v3 : Int32} {d4 : Slot} {res : Int32} {zj : List Int32} {yc : Int32}, f_gatherBlocks_117 kb Q z j zb v1 v2 v3 = some (res, zj, yc) → OEnds own_P 30 117 [qr 16, qi v1, qi v2, qi v3, d4] [] (bl1 c0 c1 c2 c3 c4 c5 c6 c7 c8 c9 c10 c11 c12 c13 c14 c15 ze R Q zg X F j I zd zf W V H Y C K b t k a f g Z za D z zh zi r U O zb zc J B T G po) (some (.int res), (bl1 c0 c1 c2 c3 c4 c5 c6 c7 c8 c9 c10 c11 c12 c13 c14 c15 ze R Q zg X F zj I zd zf W V H Y C K b t k a f g Z za D z zh zi r U O yc zc J B T G po), 0, 0) := by
  intro j zb v1 v2 v3 d4 res zj yc h
  unfold f_gatherBlocks_117 at h
  refine oa hm_30 6 9 [qr 16, qi (v1 + v3), qi (v2 + 1), qi v3, qu] [] rfl ?_
  exact hkb h
theorem ok_gatherBlocks_57_1 {k117 : List Int32 → Int32 → Int32 → Int32 → Int32 → Option (Int32 × List Int32 × Int32)} (hk117 : ∀ {j : List Int32} {zb v1 v2 v3 : Int32} {d4 : Slot} {res : Int32} {zj : List Int32} {yc : Int32}, k117 j zb v1 v2 v3 = some (res, zj, yc) → OEnds own_P 30 117 [qr 16, qi v1, qi v2, qi v3, d4] [] (bl1 c0 c1 c2 c3 c4 c5 c6 c7 c8 c9 c10 c11 c12 c13 c14 c15 ze R Q zg X F j I zd zf W V H Y C K b t k a f g Z za D z zh zi r U O zb zc J B T G po) (some (.int res), (bl1 c0 c1 c2 c3 c4 c5 c6 c7 c8 c9 c10 c11 c12 c13 c14 c15 ze R Q zg X F zj I zd zf W V H Y C K b t k a f g Z za D z zh zi r U O yc zc J B T G po), 0, 0)) : ∀ (n : Nat), ∀ {j : List Int32} {zb v1 v2 v3 v4 res : Int32} {zj : List Int32} {yc : Int32}, f_gatherBlocks_57 k117 Q z n j zb v1 v2 v3 v4 = some (res, zj, yc) → OEnds own_P 30 57 [qr 16, qi v1, qi v2, qi v3, qi v4] [] (bl1 c0 c1 c2 c3 c4 c5 c6 c7 c8 c9 c10 c11 c12 c13 c14 c15 ze R Q zg X F j I zd zf W V H Y C K b t k a f g Z za D z zh zi r U O zb zc J B T G po) (some (.int res), (bl1 c0 c1 c2 c3 c4 c5 c6 c7 c8 c9 c10 c11 c12 c13 c14 c15 ze R Q zg X F zj I zd zf W V H Y C K b t k a f g Z za D z zh zi r U O yc zc J B T G po), 0, 0) := by
  intro n
  induction n with
  | zero => intro j zb v1 v2 v3 v4 res zj yc h; cases h
  | succ n ih =>
    intro j zb v1 v2 v3 v4 res zj yc h
    unfold f_gatherBlocks_57 at h
    refine ob hm_30 2 60 [qr 16, qi v1, qi v2, qi v3, qi v4] [.int v3, .int v4] (bl1 c0 c1 c2 c3 c4 c5 c6 c7 c8 c9 c10 c11 c12 c13 c14 c15 ze R Q zg X F j I zd zf W V H Y C K b t k a f g Z za D z zh zi r U O zb zc J B T G po) rfl ?_
    by_cases hc304 : v4 < v3
    · simp only [if_pos hc304] at h
      refine OEnds.icmpF hm_30 rfl ((tlt hc304).2.1) ?_
      refine oa hm_30 3 70 [qr 16, qi v1, qi v2, qi v3, qi v4] [.int 512, .int zb] rfl ?_
      by_cases hc305 : zb < 512
      · simp only [if_pos hc305] at h
        refine OEnds.icmpF hm_30 rfl ((tlt hc305).2.1) ?_
        refine oa hm_30 4 80 [qr 16, qi v1, qi v2, qi v3, qi v4] [.int 512, .int (v1 + v4)] rfl ?_
        by_cases hc306 : (v1 + v4) < 512
        · simp only [if_pos hc306] at h
          refine OEnds.icmpF hm_30 rfl ((tlt hc306).2.1) ?_
          refine oa hm_30 9 99 [qr 16, qi v1, qi v2, qi v3, qi v4] [.int (v1 + v4), .ref 19, .int zb, .ref 23] rfl ?_
          obtain ⟨x6, hx6, h⟩ := bnd h
          refine OEnds.plain hm_30 rfl rfl (x_iaload rfl hx6) ?_
          show OEnds own_P 30 100 [qr 16, qi v1, qi v2, qi v3, qi v4] [.int x6, .int zb, .ref 23] (bl1 c0 c1 c2 c3 c4 c5 c6 c7 c8 c9 c10 c11 c12 c13 c14 c15 ze R Q zg X F j I zd zf W V H Y C K b t k a f g Z za D z zh zi r U O zb zc J B T G po) _
          obtain ⟨A7, hA7, h⟩ := bnd h
          refine OEnds.plain hm_30 rfl rfl (x_iastore rfl (Nat.le_of_ble_eq_true rfl) hA7) ?_
          refine ob hm_30 8 57 [qr 16, qi v1, qi v2, qi v3, qi (v4 + 1)] [] (bl1 c0 c1 c2 c3 c4 c5 c6 c7 c8 c9 c10 c11 c12 c13 c14 c15 ze R Q zg X F A7 I zd zf W V H Y C K b t k a f g Z za D z zh zi r U O (zb + 1) zc J B T G po) rfl ?_
          exact ih h
        · simp only [if_neg hc306] at h
          refine OEnds.icmpT hm_30 rfl (q := 111) rfl ((flt hc306).2.1) ?_
          refine oa hm_30 2 57 [qr 16, qi v1, qi v2, qi v3, qi (v4 + 1)] [] rfl ?_
          exact ih h
      · simp only [if_neg hc305] at h
        refine OEnds.icmpT hm_30 rfl (q := 111) rfl ((flt hc305).2.1) ?_
        refine oa hm_30 2 57 [qr 16, qi v1, qi v2, qi v3, qi (v4 + 1)] [] rfl ?_
        exact ih h
    · simp only [if_neg hc304] at h
      refine OEnds.icmpT hm_30 rfl (q := 117) rfl ((flt hc304).2.1) ?_
      refine oc 117 [qr 16, qi v1, qi v2, qi v3, qi v4] [] ?_
      exact hk117 h
theorem ok_gatherBlocks_9_1 : ∀ (n : Nat), ∀ {j : List Int32} {zb v1 v2 : Int32} {d3 d4 : Slot} {res : Int32} {zj : List Int32} {yc : Int32}, f_gatherBlocks_9 Q z n j zb v1 v2 = some (res, zj, yc) → OEnds own_P 30 9 [qr 16, qi v1, qi v2, d3, d4] [] (bl1 c0 c1 c2 c3 c4 c5 c6 c7 c8 c9 c10 c11 c12 c13 c14 c15 ze R Q zg X F j I zd zf W V H Y C K b t k a f g Z za D z zh zi r U O zb zc J B T G po) (some (.int res), (bl1 c0 c1 c2 c3 c4 c5 c6 c7 c8 c9 c10 c11 c12 c13 c14 c15 ze R Q zg X F zj I zd zf W V H Y C K b t k a f g Z za D z zh zi r U O yc zc J B T G po), 0, 0) := by
  intro n
  induction n with
  | zero => intro j zb v1 v2 d3 d4 res zj yc h; cases h
  | succ n ih =>
    intro j zb v1 v2 d3 d4 res zj yc h
    unfold f_gatherBlocks_9 at h
    refine ob hm_30 2 13 [qr 16, qi v1, qi v2, qu, qu] [.int 512, .int v2] (bl1 c0 c1 c2 c3 c4 c5 c6 c7 c8 c9 c10 c11 c12 c13 c14 c15 ze R Q zg X F j I zd zf W V H Y C K b t k a f g Z za D z zh zi r U O zb zc J B T G po) rfl ?_
    by_cases hc307 : 512 < v2
    · simp only [if_pos hc307] at h
      refine OEnds.icmpT hm_30 rfl (q := 127) rfl ((tlt hc307).2.2.1) ?_
      refine oa hm_30 1 128 [qr 16, qi v1, qi v2, qu, qu] [.int 0] rfl ?_
      cases h
      exact OEnds.iret hm_30 rfl rfl
    · simp only [if_neg hc307] at h
      refine OEnds.icmpF hm_30 rfl ((flt hc307).2.2.1) ?_
      refine oa hm_30 3 21 [qr 16, qi v1, qi v2, qu, qu] [.int z, .int v1] rfl ?_
      by_cases hc308 : v1 < z
      · simp only [if_pos hc308] at h
        refine OEnds.icmpT hm_30 rfl (q := 26) rfl ((tlt hc308).1) ?_
        refine oa hm_30 3 31 [qr 16, qi v1, qi v2, qu, qu] [.int v1, .ref 19] rfl ?_
        obtain ⟨x5, hx5, h⟩ := bnd h
        refine OEnds.plain hm_30 rfl rfl (x_iaload rfl hx5) ?_
        refine ob hm_30 3 37 [qr 16, qi (v1 + 1), qi v2, qi x5, qu] [.int x5] (bl1 c0 c1 c2 c3 c4 c5 c6 c7 c8 c9 c10 c11 c12 c13 c14 c15 ze R Q zg X F j I zd zf W V H Y C K b t k a f g Z za D z zh zi r U O zb zc J B T G po) rfl ?_
        by_cases hc309 : x5 = 0
        · simp only [if_pos hc309] at h
          refine OEnds.ifF hm_30 rfl ((teq hc309).2) ?_
          refine oa hm_30 1 41 [qr 16, qi (v1 + 1), qi v2, qi x5, qu] [.int 1] rfl ?_
          cases h
          exact OEnds.iret hm_30 rfl rfl
        · simp only [if_neg hc309] at h
          refine OEnds.ifT hm_30 rfl (q := 42) rfl ((feq hc309).2) ?_
          refine oa hm_30 5 49 [qr 16, qi (v1 + 1), qi v2, qi x5, qu] [.int (z - (v1 + 1)), .int x5] rfl ?_
          by_cases hc310 : (z - (v1 + 1)) < x5
          · simp only [if_pos hc310] at h
            refine OEnds.icmpF hm_30 rfl ((tlt hc310).2.2.2) ?_
            refine oa hm_30 1 53 [qr 16, qi (v1 + 1), qi v2, qi x5, qu] [.int 0] rfl ?_
            cases h
            exact OEnds.iret hm_30 rfl rfl
          · simp only [if_neg hc310] at h
            refine OEnds.icmpT hm_30 rfl (q := 54) rfl ((flt hc310).2.2.2) ?_
            refine oa hm_30 2 57 [qr 16, qi (v1 + 1), qi v2, qi x5, qi 0] [] rfl ?_
            exact ok_gatherBlocks_57_1 (k117 := f_gatherBlocks_117 (f_gatherBlocks_9 Q z n) Q z) (ok_gatherBlocks_117_1 ih) 100000 h
      · simp only [if_neg hc308] at h
        refine OEnds.icmpF hm_30 rfl ((flt hc308).1) ?_
        refine oa hm_30 1 25 [qr 16, qi v1, qi v2, qu, qu] [.int 0] rfl ?_
        cases h
        exact OEnds.iret hm_30 rfl rfl
theorem ok_gatherBlocks_1 {res : Int32} (h : f_gatherBlocks Q z j zb = some (res, zj, yc)) : OEnds own_P 30 0 [qr 16, qu, qu, qu, qu] [] (bl1 c0 c1 c2 c3 c4 c5 c6 c7 c8 c9 c10 c11 c12 c13 c14 c15 ze R Q zg X F j I zd zf W V H Y C K b t k a f g Z za D z zh zi r U O zb zc J B T G po) (some (.int res), (bl1 c0 c1 c2 c3 c4 c5 c6 c7 c8 c9 c10 c11 c12 c13 c14 c15 ze R Q zg X F zj I zd zf W V H Y C K b t k a f g Z za D z zh zi r U O yc zc J B T G po), 0, 0) := by
  unfold f_gatherBlocks at h
  refine ob hm_30 7 9 [qr 16, qi 1, qi 0, qu, qu] [] (bl1 c0 c1 c2 c3 c4 c5 c6 c7 c8 c9 c10 c11 c12 c13 c14 c15 ze R Q zg X F j I zd zf W V H Y C K b t k a f g Z za D z zh zi r U O 0 zc J B T G po) rfl ?_
  exact ok_gatherBlocks_9_1 100000 h
theorem ok_readCode_51_1 {kb : Int32 → Int32 → Int32 → Option (Int32 × Int32)} (hkb : ∀ {zc v1 v2 : Int32} {d3 d4 : Slot} {res : Int32} {yd : Int32}, kb zc v1 v2 = some (res, yd) → OEnds own_P 32 4 [qr 16, qi v1, qi v2, d3, d4] [] (bl1 c0 c1 c2 c3 c4 c5 c6 c7 c8 c9 c10 c11 c12 c13 c14 c15 ze R Q zg X F j I zd zf W V H Y C K b t k a f g Z za D z zh zi r U O zb zc J B T G po) (some (.int res), (bl1 c0 c1 c2 c3 c4 c5 c6 c7 c8 c9 c10 c11 c12 c13 c14 c15 ze R Q zg X F j I zd zf W V H Y C K b t k a f g Z za D z zh zi r U O zb yd J B T G po), 0, 0)) : ∀ {zc v1 v2 v4 : Int32} {d3 : Slot} {res : Int32} {yd : Int32}, f_readCode_51 kb j J zc v1 v2 v4 = some (res, yd) → OEnds own_P 32 51 [qr 16, qi v1, qi v2, d3, qi v4] [] (bl1 c0 c1 c2 c3 c4 c5 c6 c7 c8 c9 c10 c11 c12 c13 c14 c15 ze R Q zg X F j I zd zf W V H Y C K b t k a f g Z za D z zh zi r U O zb zc J B T G po) (some (.int res), (bl1 c0 c1 c2 c3 c4 c5 c6 c7 c8 c9 c10 c11 c12 c13 c14 c15 ze R Q zg X F j I zd zf W V H Y C K b t k a f g Z za D z zh zi r U O zb yd J B T G po), 0, 0) := by
  intro zc v1 v2 v4 d3 res yd h
  unfold f_readCode_51 at h
  refine ob hm_32 14 4 [qr 16, qi (v1 ||| (v4 <<< (v2 &&& 31))), qi (v2 + 1), qu, qi v4] [] (bl1 c0 c1 c2 c3 c4 c5 c6 c7 c8 c9 c10 c11 c12 c13 c14 c15 ze R Q zg X F j I zd zf W V H Y C K b t k a f g Z za D z zh zi r U O zb (zc + 1) J B T G po) rfl ?_
  exact hkb h
theorem ok_readCode_4_1 : ∀ (n : Nat), ∀ {zc v1 v2 : Int32} {d3 d4 : Slot} {res : Int32} {yd : Int32}, f_readCode_4 j J n zc v1 v2 = some (res, yd) → OEnds own_P 32 4 [qr 16, qi v1, qi v2, d3, d4] [] (bl1 c0 c1 c2 c3 c4 c5 c6 c7 c8 c9 c10 c11 c12 c13 c14 c15 ze R Q zg X F j I zd zf W V H Y C K b t k a f g Z za D z zh zi r U O zb zc J B T G po) (some (.int res), (bl1 c0 c1 c2 c3 c4 c5 c6 c7 c8 c9 c10 c11 c12 c13 c14 c15 ze R Q zg X F j I zd zf W V H Y C K b t k a f g Z za D z zh zi r U O zb yd J B T G po), 0, 0) := by
  intro n
  induction n with
  | zero => intro zc v1 v2 d3 d4 res yd h; cases h
  | succ n ih =>
    intro zc v1 v2 d3 d4 res yd h
    unfold f_readCode_4 at h
    refine ob hm_32 3 9 [qr 16, qi v1, qi v2, qu, qu] [.int J, .int v2] (bl1 c0 c1 c2 c3 c4 c5 c6 c7 c8 c9 c10 c11 c12 c13 c14 c15 ze R Q zg X F j I zd zf W V H Y C K b t k a f g Z za D z zh zi r U O zb zc J B T G po) rfl ?_
    by_cases hc311 : v2 < J
    · simp only [if_pos hc311] at h
      refine OEnds.icmpF hm_32 rfl ((tlt hc311).2.1) ?_
      refine oa hm_32 8 23 [qr 16, qi v1, qi v2, qi (zc >>> ((3 : Int32) &&& 31)), qi 0] [.int (zc >>> ((3 : Int32) &&& 31))] rfl ?_
      by_cases hc312 : (zc >>> ((3 : Int32) &&& 31)) < 0
      · simp only [if_pos hc312] at h
        refine OEnds.ifT hm_32 rfl (q := 51) rfl ((tlt hc312).1) ?_
        refine oc 51 [qr 16, qi v1, qi v2, qi (zc >>> ((3 : Int32) &&& 31)), qi 0] [] ?_
        exact ok_readCode_51_1 ih h
      · simp only [if_neg hc312] at h
        refine OEnds.ifF hm_32 rfl ((flt hc312).1) ?_
        refine oa hm_32 2 30 [qr 16, qi v1, qi v2, qi (zc >>> ((3 : Int32) &&& 31)), qi 0] [.int 512, .int (zc >>> ((3 : Int32) &&& 31))] rfl ?_
        by_cases hc313 : (zc >>> ((3 : Int32) &&& 31)) < 512
        · simp only [if_pos hc313] at h
          refine OEnds.icmpF hm_32 rfl ((tlt hc313).2.1) ?_
          refine oa hm_32 3 38 [qr 16, qi v1, qi v2, qi (zc >>> ((3 : Int32) &&& 31)), qi 0] [.int (zc >>> ((3 : Int32) &&& 31)), .ref 23] rfl ?_
          obtain ⟨x8, hx8, h⟩ := bnd h
          refine OEnds.plain hm_32 rfl rfl (x_iaload rfl hx8) ?_
          refine ob hm_32 8 51 [qr 16, qi v1, qi v2, qi (zc >>> ((3 : Int32) &&& 31)), qi ((x8 >>> ((zc &&& 7) &&& 31)) &&& 1)] [] (bl1 c0 c1 c2 c3 c4 c5 c6 c7 c8 c9 c10 c11 c12 c13 c14 c15 ze R Q zg X F j I zd zf W V H Y C K b t k a f g Z za D z zh zi r U O zb zc J B T G po) rfl ?_
          exact ok_readCode_51_1 ih h
        · simp only [if_neg hc313] at h
          refine OEnds.icmpT hm_32 rfl (q := 51) rfl ((flt hc313).2.1) ?_
          refine oc 51 [qr 16, qi v1, qi v2, qi (zc >>> ((3 : Int32) &&& 31)), qi 0] [] ?_
          exact ok_readCode_51_1 ih h
    · simp only [if_neg hc311] at h
      refine OEnds.icmpT hm_32 rfl (q := 74) rfl ((flt hc311).2.1) ?_
      refine oa hm_32 1 75 [qr 16, qi v1, qi v2, qu, qu] [.int v1] rfl ?_
      cases h
      exact OEnds.iret hm_32 rfl rfl
theorem ok_readCode_1 {res : Int32} (h : f_readCode j J zc = some (res, yd)) : OEnds own_P 32 0 [qr 16, qu, qu, qu, qu] [] (bl1 c0 c1 c2 c3 c4 c5 c6 c7 c8 c9 c10 c11 c12 c13 c14 c15 ze R Q zg X F j I zd zf W V H Y C K b t k a f g Z za D z zh zi r U O zb zc J B T G po) (some (.int res), (bl1 c0 c1 c2 c3 c4 c5 c6 c7 c8 c9 c10 c11 c12 c13 c14 c15 ze R Q zg X F j I zd zf W V H Y C K b t k a f g Z za D z zh zi r U O zb yd J B T G po), 0, 0) := by
  unfold f_readCode at h
  refine oa hm_32 4 4 [qr 16, qi 0, qi 0, qu, qu] [] rfl ?_
  exact ok_readCode_4_1 100000 h
theorem ok_lengthOf_1 {v1 res : Int32} (h : f_lengthOf Y a v1 = some res) : OEnds own_P 34 0 [qr 16, qi v1] [] (bl1 c0 c1 c2 c3 c4 c5 c6 c7 c8 c9 c10 c11 c12 c13 c14 c15 ze R Q zg X F j I zd zf W V H Y C K b t k a f g Z za D z zh zi r U O zb zc J B T G po) (some (.int res), (bl1 c0 c1 c2 c3 c4 c5 c6 c7 c8 c9 c10 c11 c12 c13 c14 c15 ze R Q zg X F j I zd zf W V H Y C K b t k a f g Z za D z zh zi r U O zb zc J B T G po), 0, 0) := by
  unfold f_lengthOf at h
  refine oa hm_34 3 5 [qr 16, qi v1] [.int a, .int v1] rfl ?_
  by_cases hc314 : v1 < a
  · simp only [if_pos hc314] at h
    refine OEnds.icmpF hm_34 rfl ((tlt hc314).2.1) ?_
    refine oa hm_34 1 9 [qr 16, qi v1] [.int 1] rfl ?_
    cases h
    exact OEnds.iret hm_34 rfl rfl
  · simp only [if_neg hc314] at h
    refine OEnds.icmpT hm_34 rfl (q := 10) rfl ((flt hc314).2.1) ?_
    refine oa hm_34 2 14 [qr 16, qi v1] [.int 512, .int v1] rfl ?_
    by_cases hc315 : v1 < 512
    · simp only [if_pos hc315] at h
      refine OEnds.icmpT hm_34 rfl (q := 19) rfl ((tlt hc315).1) ?_
      refine oa hm_34 3 24 [qr 16, qi v1] [.int v1, .ref 30] rfl ?_
      obtain ⟨x9, hx9, h⟩ := bnd h
      refine OEnds.plain hm_34 rfl rfl (x_iaload rfl hx9) ?_
      show OEnds own_P 34 25 [qr 16, qi v1] [.int x9] (bl1 c0 c1 c2 c3 c4 c5 c6 c7 c8 c9 c10 c11 c12 c13 c14 c15 ze R Q zg X F j I zd zf W V H Y C K b t k a f g Z za D z zh zi r U O zb zc J B T G po) _
      cases h
      exact OEnds.iret hm_34 rfl rfl
    · simp only [if_neg hc315] at h
      refine OEnds.icmpF hm_34 rfl ((flt hc315).1) ?_
      refine oa hm_34 1 18 [qr 16, qi v1] [.int 1] rfl ?_
      cases h
      exact OEnds.iret hm_34 rfl rfl
theorem ok_writeString_86_1 {kb : List Int32 → Int32 → Int32 → Int32 → Int32 → Option (List Int32)} (hkb : ∀ {F : List Int32} {v3 v4 v5 v6 : Int32} {d1 d2 d7 : Slot} {zk : List Int32}, kb F v3 v4 v5 v6 = some zk → OEnds own_P 35 13 [qr 16, d1, d2, qi v3, qi v4, qi v5, qi v6, d7] [] (bl1 c0 c1 c2 c3 c4 c5 c6 c7 c8 c9 c10 c11 c12 c13 c14 c15 ze R Q zg X F j I zd zf W V H Y C K b t k a f g Z za D z zh zi r U O zb zc J B T G po) (none, (bl1 c0 c1 c2 c3 c4 c5 c6 c7 c8 c9 c10 c11 c12 c13 c14 c15 ze R Q zg X zk j I zd zf W V H Y C K b t k a f g Z za D z zh zi r U O zb zc J B T G po), 0, 0)) : ∀ {F : List Int32} {v3 v4 v5 v6 : Int32} {d1 d2 d7 : Slot} {zk : List Int32}, f_writeString_86 kb W V a F v3 v4 v5 v6 = some zk → OEnds own_P 35 86 [qr 16, d1, d2, qi v3, qi v4, qi v5, qi v6, d7] [] (bl1 c0 c1 c2 c3 c4 c5 c6 c7 c8 c9 c10 c11 c12 c13 c14 c15 ze R Q zg X F j I zd zf W V H Y C K b t k a f g Z za D z zh zi r U O zb zc J B T G po) (none, (bl1 c0 c1 c2 c3 c4 c5 c6 c7 c8 c9 c10 c11 c12 c13 c14 c15 ze R Q zg X zk j I zd zf W V H Y C K b t k a f g Z za D z zh zi r U O zb zc J B T G po), 0, 0) := by
  intro F v3 v4 v5 v6 d1 d2 d7 zk h
  unfold f_writeString_86 at h
  refine oa hm_35 4 95 [qr 16, qu, qu, qi v3, qi v4, qi (v5 + (-1 : Int32)), qi v6, qu] [.int a, .int v4] rfl ?_
  by_cases hc316 : v4 < a
  · simp only [if_pos hc316] at h
    refine OEnds.icmpF hm_35 rfl ((tlt hc316).2.1) ?_
    refine oa hm_35 5 13 [qr 16, qu, qu, qi v3, qi (-1), qi (v5 + (-1 : Int32)), qi (v6 + 1), qu] [] rfl ?_
    exact hkb h
  · simp only [if_neg hc316] at h
    refine OEnds.icmpT hm_35 rfl (q := 102) rfl ((flt hc316).2.1) ?_
    refine oa hm_35 3 108 [qr 16, qu, qu, qi v3, qi v4, qi (v5 + (-1 : Int32)), qi v6, qu] [.int v4, .ref 27] rfl ?_
    obtain ⟨x12, hx12, h⟩ := bnd h
    refine OEnds.plain hm_35 rfl rfl (x_iaload rfl hx12) ?_
    refine ob hm_35 3 13 [qr 16, qu, qu, qi v3, qi x12, qi (v5 + (-1 : Int32)), qi (v6 + 1), qu] [] (bl1 c0 c1 c2 c3 c4 c5 c6 c7 c8 c9 c10 c11 c12 c13 c14 c15 ze R Q zg X F j I zd zf W V H Y C K b t k a f g Z za D z zh zi r U O zb zc J B T G po) rfl ?_
    exact hkb h
theorem ok_writeString_62_1 {kb : List Int32 → Int32 → Int32 → Int32 → Int32 → Option (List Int32)} (hkb : ∀ {F : List Int32} {v3 v4 v5 v6 : Int32} {d1 d2 d7 : Slot} {zk : List Int32}, kb F v3 v4 v5 v6 = some zk → OEnds own_P 35 13 [qr 16, d1, d2, qi v3, qi v4, qi v5, qi v6, d7] [] (bl1 c0 c1 c2 c3 c4 c5 c6 c7 c8 c9 c10 c11 c12 c13 c14 c15 ze R Q zg X F j I zd zf W V H Y C K b t k a f g Z za D z zh zi r U O zb zc J B T G po) (none, (bl1 c0 c1 c2 c3 c4 c5 c6 c7 c8 c9 c10 c11 c12 c13 c14 c15 ze R Q zg X zk j I zd zf W V H Y C K b t k a f g Z za D z zh zi r U O zb zc J B T G po), 0, 0)) : ∀ {F : List Int32} {v3 v4 v5 v6 t0 : Int32} {d1 d2 d7 : Slot} {zk : List Int32}, f_writeString_62 kb W V a F v3 v4 v5 v6 t0 = some zk → OEnds own_P 35 62 [qr 16, d1, d2, qi v3, qi v4, qi v5, qi v6, d7] [.int t0] (bl1 c0 c1 c2 c3 c4 c5 c6 c7 c8 c9 c10 c11 c12 c13 c14 c15 ze R Q zg X F j I zd zf W V H Y C K b t k a f g Z za D z zh zi r U O zb zc J B T G po) (none, (bl1 c0 c1 c2 c3 c4 c5 c6 c7 c8 c9 c10 c11 c12 c13 c14 c15 ze R Q zg X zk j I zd zf W V H Y C K b t k a f g Z za D z zh zi r U O zb zc J B T G po), 0, 0) := by
  intro F v3 v4 v5 v6 t0 d1 d2 d7 zk h
  unfold f_writeString_62 at h
  refine oa hm_35 2 66 [qr 16, qu, qu, qi v3, qi v4, qi v5, qi v6, qi t0] [.int v5] rfl ?_
  by_cases hc317 : v5 < 0
  · simp only [if_pos hc317] at h
    refine OEnds.ifT hm_35 rfl (q := 86) rfl ((tlt hc317).1) ?_
    refine oc 86 [qr 16, qu, qu, qi v3, qi v4, qi v5, qi v6, qi t0] [] ?_
    exact ok_writeString_86_1 hkb h
  · simp only [if_neg hc317] at h
    refine OEnds.ifF hm_35 rfl ((flt hc317).1) ?_
    refine oa hm_35 2 74 [qr 16, qu, qu, qi v3, qi v4, qi v5, qi v6, qi t0] [.int 256, .int v5] rfl ?_
    by_cases hc318 : v5 < 256
    · simp only [if_pos hc318] at h
      refine OEnds.icmpF hm_35 rfl ((tlt hc318).2.1) ?_
      refine oa hm_35 4 85 [qr 16, qu, qu, qi v3, qi v4, qi v5, qi v6, qi t0] [.int t0, .int v5, .ref 22] rfl ?_
      obtain ⟨A11, hA11, h⟩ := bnd h
      refine OEnds.plain hm_35 rfl rfl (x_iastore rfl (Nat.le_of_ble_eq_true rfl) hA11) ?_
      show OEnds own_P 35 86 [qr 16, qu, qu, qi v3, qi v4, qi v5, qi v6, qi t0] [] (bl1 c0 c1 c2 c3 c4 c5 c6 c7 c8 c9 c10 c11 c12 c13 c14 c15 ze R Q zg X A11 j I zd zf W V H Y C K b t k a f g Z za D z zh zi r U O zb zc J B T G po) _
      exact ok_writeString_86_1 hkb h
    · simp only [if_neg hc318] at h
      refine OEnds.icmpT hm_35 rfl (q := 86) rfl ((flt hc318).2.1) ?_
      refine oc 86 [qr 16, qu, qu, qi v3, qi v4, qi v5, qi v6, qi t0] [] ?_
      exact ok_writeString_86_1 hkb h
theorem ok_writeString_13_1 : ∀ (n : Nat), ∀ {F : List Int32} {v3 v4 v5 v6 : Int32} {d1 d2 d7 : Slot} {zk : List Int32}, f_writeString_13 W V a n F v3 v4 v5 v6 = some zk → OEnds own_P 35 13 [qr 16, d1, d2, qi v3, qi v4, qi v5, qi v6, d7] [] (bl1 c0 c1 c2 c3 c4 c5 c6 c7 c8 c9 c10 c11 c12 c13 c14 c15 ze R Q zg X F j I zd zf W V H Y C K b t k a f g Z za D z zh zi r U O zb zc J B T G po) (none, (bl1 c0 c1 c2 c3 c4 c5 c6 c7 c8 c9 c10 c11 c12 c13 c14 c15 ze R Q zg X zk j I zd zf W V H Y C K b t k a f g Z za D z zh zi r U O zb zc J B T G po), 0, 0) := by
  intro n
  induction n with
  | zero => intro F v3 v4 v5 v6 d1 d2 d7 zk h; cases h
  | succ n ih =>
    intro F v3 v4 v5 v6 d1 d2 d7 zk h
    unfold f_writeString_13 at h
    refine ob hm_35 2 16 [qr 16, qu, qu, qi v3, qi v4, qi v5, qi v6, qu] [.int v3, .int v6] (bl1 c0 c1 c2 c3 c4 c5 c6 c7 c8 c9 c10 c11 c12 c13 c14 c15 ze R Q zg X F j I zd zf W V H Y C K b t k a f g Z za D z zh zi r U O zb zc J B T G po) rfl ?_
    by_cases hc319 : v6 < v3
    · simp only [if_pos hc319] at h
      refine OEnds.icmpF hm_35 rfl ((tlt hc319).2.1) ?_
      refine oa hm_35 2 24 [qr 16, qu, qu, qi v3, qi v4, qi v5, qi v6, qu] [.int 512, .int v6] rfl ?_
      by_cases hc320 : v6 < 512
      · simp only [if_pos hc320] at h
        refine OEnds.icmpF hm_35 rfl ((tlt hc320).2.1) ?_
        refine oa hm_35 1 29 [qr 16, qu, qu, qi v3, qi v4, qi v5, qi v6, qu] [.int v4] rfl ?_
        by_cases hc321 : v4 < 0
        · simp only [if_pos hc321] at h
          refine OEnds.ifT hm_35 rfl (q := 40) rfl ((tlt hc321).1) ?_
          refine oc 40 [qr 16, qu, qu, qi v3, qi v4, qi v5, qi v6, qu] [] ?_
          cases h
          exact OEnds.vret hm_35 rfl rfl
        · simp only [if_neg hc321] at h
          refine OEnds.ifF hm_35 rfl ((flt hc321).1) ?_
          refine oa hm_35 2 37 [qr 16, qu, qu, qi v3, qi v4, qi v5, qi v6, qu] [.int 512, .int v4] rfl ?_
          by_cases hc322 : v4 < 512
          · simp only [if_pos hc322] at h
            refine OEnds.icmpT hm_35 rfl (q := 41) rfl ((tlt hc322).1) ?_
            refine oa hm_35 3 47 [qr 16, qu, qu, qi v3, qi v4, qi v5, qi v6, qu] [.int a, .int v4] rfl ?_
            by_cases hc323 : v4 < a
            · simp only [if_pos hc323] at h
              refine OEnds.icmpF hm_35 rfl ((tlt hc323).2.1) ?_
              refine oa hm_35 2 62 [qr 16, qu, qu, qi v3, qi v4, qi v5, qi v6, qu] [.int v4] rfl ?_
              exact ok_writeString_62_1 ih h
            · simp only [if_neg hc323] at h
              refine OEnds.icmpT hm_35 rfl (q := 55) rfl ((flt hc323).2.1) ?_
              refine oa hm_35 3 61 [qr 16, qu, qu, qi v3, qi v4, qi v5, qi v6, qu] [.int v4, .ref 28] rfl ?_
              obtain ⟨x10, hx10, h⟩ := bnd h
              refine OEnds.plain hm_35 rfl rfl (x_iaload rfl hx10) ?_
              show OEnds own_P 35 62 [qr 16, qu, qu, qi v3, qi v4, qi v5, qi v6, qu] [.int x10] (bl1 c0 c1 c2 c3 c4 c5 c6 c7 c8 c9 c10 c11 c12 c13 c14 c15 ze R Q zg X F j I zd zf W V H Y C K b t k a f g Z za D z zh zi r U O zb zc J B T G po) _
              exact ok_writeString_62_1 ih h
          · simp only [if_neg hc322] at h
            refine OEnds.icmpF hm_35 rfl ((flt hc322).1) ?_
            refine oc 40 [qr 16, qu, qu, qi v3, qi v4, qi v5, qi v6, qu] [] ?_
            cases h
            exact OEnds.vret hm_35 rfl rfl
      · simp only [if_neg hc320] at h
        refine OEnds.icmpT hm_35 rfl (q := 117) rfl ((flt hc320).2.1) ?_
        refine oc 117 [qr 16, qu, qu, qi v3, qi v4, qi v5, qi v6, qu] [] ?_
        cases h
        exact OEnds.vret hm_35 rfl rfl
    · simp only [if_neg hc319] at h
      refine OEnds.icmpT hm_35 rfl (q := 117) rfl ((flt hc319).2.1) ?_
      refine oc 117 [qr 16, qu, qu, qi v3, qi v4, qi v5, qi v6, qu] [] ?_
      cases h
      exact OEnds.vret hm_35 rfl rfl
theorem ok_writeString_1 {v1 v2 v3 : Int32} (h : f_writeString W V a F v1 v2 v3 = some zk) : OEnds own_P 35 0 [qr 16, qi v1, qi v2, qi v3, qu, qu, qu, qu] [] (bl1 c0 c1 c2 c3 c4 c5 c6 c7 c8 c9 c10 c11 c12 c13 c14 c15 ze R Q zg X F j I zd zf W V H Y C K b t k a f g Z za D z zh zi r U O zb zc J B T G po) (none, (bl1 c0 c1 c2 c3 c4 c5 c6 c7 c8 c9 c10 c11 c12 c13 c14 c15 ze R Q zg X zk j I zd zf W V H Y C K b t k a f g Z za D z zh zi r U O zb zc J B T G po), 0, 0) := by
  unfold f_writeString at h
  refine oa hm_35 10 13 [qr 16, qi v1, qi v2, qi v3, qi v1, qi ((v2 + v3) - 1), qi 0, qu] [] rfl ?_
  exact ok_writeString_13_1 100000 h
theorem ok_firstOf_1 {v1 res : Int32} (h : f_firstOf H a v1 = some res) : OEnds own_P 36 0 [qr 16, qi v1] [] (bl1 c0 c1 c2 c3 c4 c5 c6 c7 c8 c9 c10 c11 c12 c13 c14 c15 ze R Q zg X F j I zd zf W V H Y C K b t k a f g Z za D z zh zi r U O zb zc J B T G po) (some (.int res), (bl1 c0 c1 c2 c3 c4 c5 c6 c7 c8 c9 c10 c11 c12 c13 c14 c15 ze R Q zg X F j I zd zf W V H Y C K b t k a f g Z za D z zh zi r U O zb zc J B T G po), 0, 0) := by
  unfold f_firstOf at h
  refine oa hm_36 3 5 [qr 16, qi v1] [.int a, .int v1] rfl ?_
  by_cases hc324 : v1 < a
  · simp only [if_pos hc324] at h
    refine OEnds.icmpF hm_36 rfl ((tlt hc324).2.1) ?_
    refine oa hm_36 1 9 [qr 16, qi v1] [.int v1] rfl ?_
    cases h
    exact OEnds.iret hm_36 rfl rfl
  · simp only [if_neg hc324] at h
    refine OEnds.icmpT hm_36 rfl (q := 10) rfl ((flt hc324).2.1) ?_
    refine oa hm_36 2 14 [qr 16, qi v1] [.int 512, .int v1] rfl ?_
    by_cases hc325 : v1 < 512
    · simp only [if_pos hc325] at h
      refine OEnds.icmpT hm_36 rfl (q := 19) rfl ((tlt hc325).1) ?_
      refine oa hm_36 3 24 [qr 16, qi v1] [.int v1, .ref 29] rfl ?_
      obtain ⟨x13, hx13, h⟩ := bnd h
      refine OEnds.plain hm_36 rfl rfl (x_iaload rfl hx13) ?_
      show OEnds own_P 36 25 [qr 16, qi v1] [.int x13] (bl1 c0 c1 c2 c3 c4 c5 c6 c7 c8 c9 c10 c11 c12 c13 c14 c15 ze R Q zg X F j I zd zf W V H Y C K b t k a f g Z za D z zh zi r U O zb zc J B T G po) _
      cases h
      exact OEnds.iret hm_36 rfl rfl
    · simp only [if_neg hc325] at h
      refine OEnds.icmpF hm_36 rfl ((flt hc325).1) ?_
      refine oa hm_36 1 18 [qr 16, qi v1] [.int 0] rfl ?_
      cases h
      exact OEnds.iret hm_36 rfl rfl
theorem ok_addDecoderCode_54_1 : ∀ {W V H Y : List Int32} {J B v3 : Int32} {d1 d2 : Slot} {zp zq zr zs : List Int32} {zt : Int32} {zu : Int32}, f_addDecoderCode_54 a f W V H Y J B v3 = some (zp, zq, zr, zs, zt, zu) → OEnds own_P 37 54 [qr 16, d1, d2, qi v3] [] (bl1 c0 c1 c2 c3 c4 c5 c6 c7 c8 c9 c10 c11 c12 c13 c14 c15 ze R Q zg X F j I zd zf W V H Y C K b t k a f g Z za D z zh zi r U O zb zc J B T G po) (none, (bl1 c0 c1 c2 c3 c4 c5 c6 c7 c8 c9 c10 c11 c12 c13 c14 c15 ze R Q zg X F j I zd zf zp zq zr zs C K b t k a f g Z za D z zh zi r U O zb zc zt zu T G po), 0, 0) := by
  intro W V H Y J B v3 d1 d2 zp zq zr zs zt zu h
  unfold f_addDecoderCode_54 at h
  refine ob hm_37 11 71 [qr 16, qu, qu, qi v3] [.int ((1 : Int32) <<< (J &&& 31)), .int (v3 + 1)] (bl1 c0 c1 c2 c3 c4 c5 c6 c7 c8 c9 c10 c11 c12 c13 c14 c15 ze R Q zg X F j I zd zf W V H Y C K b t k a f g Z za D z zh zi r U O zb zc J (v3 + 1) T G po) rfl ?_
  by_cases hc326 : (v3 + 1) = ((1 : Int32) <<< (J &&& 31))
  · simp only [if_pos hc326] at h
    refine OEnds.icmpF hm_37 rfl ((teq hc326).2) ?_
    refine oa hm_37 4 82 [qr 16, qu, qu, qi v3] [.int f, .int J] rfl ?_
    by_cases hc327 : J < f
    · simp only [if_pos hc327] at h
      refine OEnds.icmpF hm_37 rfl ((tlt hc327).2.1) ?_
      refine ob hm_37 6 95 [qr 16, qu, qu, qi v3] [] (bl1 c0 c1 c2 c3 c4 c5 c6 c7 c8 c9 c10 c11 c12 c13 c14 c15 ze R Q zg X F j I zd zf W V H Y C K b t k a f g Z za D z zh zi r U O zb zc (J + 1) (v3 + 1) T G po) rfl ?_
      cases h
      exact OEnds.vret hm_37 rfl rfl
    · simp only [if_neg hc327] at h
      refine OEnds.icmpT hm_37 rfl (q := 95) rfl ((flt hc327).2.1) ?_
      refine oc 95 [qr 16, qu, qu, qi v3] [] ?_
      cases h
      exact OEnds.vret hm_37 rfl rfl
  · simp only [if_neg hc326] at h
    refine OEnds.icmpT hm_37 rfl (q := 95) rfl ((feq hc326).2) ?_
    refine oc 95 [qr 16, qu, qu, qi v3] [] ?_
    cases h
    exact OEnds.vret hm_37 rfl rfl
theorem ok_addDecoderCode_1 {v1 v2 : Int32} (h : f_addDecoderCode a f W V H Y J B v1 v2 = some (zp, zq, zr, zs, zt, zu)) : OEnds own_P 37 0 [qr 16, qi v1, qi v2, qu] [] (bl1 c0 c1 c2 c3 c4 c5 c6 c7 c8 c9 c10 c11 c12 c13 c14 c15 ze R Q zg X F j I zd zf W V H Y C K b t k a f g Z za D z zh zi r U O zb zc J B T G po) (none, (bl1 c0 c1 c2 c3 c4 c5 c6 c7 c8 c9 c10 c11 c12 c13 c14 c15 ze R Q zg X F j I zd zf zp zq zr zs C K b t k a f g Z za D z zh zi r U O zb zc zt zu T G po), 0, 0) := by
  unfold f_addDecoderCode at h
  refine oa hm_37 4 6 [qr 16, qi v1, qi v2, qi B] [.int B] rfl ?_
  by_cases hc328 : B < 0
  · simp only [if_pos hc328] at h
    refine OEnds.ifT hm_37 rfl (q := 54) rfl ((tlt hc328).1) ?_
    refine oc 54 [qr 16, qi v1, qi v2, qi B] [] ?_
    exact ok_addDecoderCode_54_1 h
  · simp only [if_neg hc328] at h
    refine OEnds.ifF hm_37 rfl ((flt hc328).1) ?_
    refine oa hm_37 2 13 [qr 16, qi v1, qi v2, qi B] [.int 512, .int B] rfl ?_
    by_cases hc329 : B < 512
    · simp only [if_pos hc329] at h
      refine OEnds.icmpF hm_37 rfl ((tlt hc329).2.1) ?_
      refine oa hm_37 4 22 [qr 16, qi v1, qi v2, qi B] [.int v1, .int B, .ref 27] rfl ?_
      obtain ⟨A14, hA14, h⟩ := bnd h
      refine OEnds.plain hm_37 rfl rfl (x_iastore rfl (Nat.le_of_ble_eq_true rfl) hA14) ?_
      refine ob hm_37 4 29 [qr 16, qi v1, qi v2, qi B] [.int v2, .int B, .ref 28] (bl1 c0 c1 c2 c3 c4 c5 c6 c7 c8 c9 c10 c11 c12 c13 c14 c15 ze R Q zg X F j I zd zf A14 V H Y C K b t k a f g Z za D z zh zi r U O zb zc J B T G po) rfl ?_
      obtain ⟨A15, hA15, h⟩ := bnd h
      refine OEnds.plain hm_37 rfl rfl (x_iastore rfl (Nat.le_of_ble_eq_true rfl) hA15) ?_
      refine ob hm_37 5 37 [qr 16, qi v1, qi v2, qi B] [.int v1, .ref 16, .int B, .ref 29] (bl1 c0 c1 c2 c3 c4 c5 c6 c7 c8 c9 c10 c11 c12 c13 c14 c15 ze R Q zg X F j I zd zf A14 A15 H Y C K b t k a f g Z za D z zh zi r U O zb zc J B T G po) rfl ?_
      obtain ⟨r16, hq330, h⟩ := bnd h
      refine OEnds.call0 hm_37 rfl rfl (by decide) rfl (as := [.ref 16, .int v1]) (rest := [.int B, .ref 29]) rfl rfl (ok_firstOf_1 hq330) ?_
      show OEnds own_P 37 40 [qr 16, qi v1, qi v2, qi B] [.int r16, .int B, .ref 29] (bl1 c0 c1 c2 c3 c4 c5 c6 c7 c8 c9 c10 c11 c12 c13 c14 c15 ze R Q zg X F j I zd zf A14 A15 H Y C K b t k a f g Z za D z zh zi r U O zb zc J B T G po) _
      obtain ⟨A17, hA17, h⟩ := bnd h
      refine OEnds.plain hm_37 rfl rfl (x_iastore rfl (Nat.le_of_ble_eq_true rfl) hA17) ?_
      refine ob hm_37 5 48 [qr 16, qi v1, qi v2, qi B] [.int v1, .ref 16, .int B, .ref 30] (bl1 c0 c1 c2 c3 c4 c5 c6 c7 c8 c9 c10 c11 c12 c13 c14 c15 ze R Q zg X F j I zd zf A14 A15 A17 Y C K b t k a f g Z za D z zh zi r U O zb zc J B T G po) rfl ?_
      obtain ⟨r18, hq331, h⟩ := bnd h
      refine OEnds.call0 hm_37 rfl rfl (by decide) rfl (as := [.ref 16, .int v1]) (rest := [.int B, .ref 30]) rfl rfl (ok_lengthOf_1 hq331) ?_
      refine ob hm_37 2 53 [qr 16, qi v1, qi v2, qi B] [.int (r18 + 1), .int B, .ref 30] (bl1 c0 c1 c2 c3 c4 c5 c6 c7 c8 c9 c10 c11 c12 c13 c14 c15 ze R Q zg X F j I zd zf A14 A15 A17 Y C K b t k a f g Z za D z zh zi r U O zb zc J B T G po) rfl ?_
      obtain ⟨A19, hA19, h⟩ := bnd h
      refine OEnds.plain hm_37 rfl rfl (x_iastore rfl (Nat.le_of_ble_eq_true rfl) hA19) ?_
      show OEnds own_P 37 54 [qr 16, qi v1, qi v2, qi B] [] (bl1 c0 c1 c2 c3 c4 c5 c6 c7 c8 c9 c10 c11 c12 c13 c14 c15 ze R Q zg X F j I zd zf A14 A15 A17 A19 C K b t k a f g Z za D z zh zi r U O zb zc J B T G po) _
      exact ok_addDecoderCode_54_1 h
    · simp only [if_neg hc329] at h
      refine OEnds.icmpT hm_37 rfl (q := 54) rfl ((flt hc329).2.1) ?_
      refine oc 54 [qr 16, qi v1, qi v2, qi B] [] ?_
      exact ok_addDecoderCode_54_1 h
theorem ok_handleCode_233_1 : ∀ {F W V H Y : List Int32} {J B T G v1 : Int32} {d2 d3 d4 : Slot} {res : Int32} {zk zp zq zr zs : List Int32} {zt zu zw : Int32} {zx : Int32}, f_handleCode_233 b t a f g F W V H Y J B T G v1 = some (res, zk, zp, zq, zr, zs, zt, zu, zw, zx) → OEnds own_P 33 233 [qr 16, qi v1, d2, d3, d4] [] (bl1 c0 c1 c2 c3 c4 c5 c6 c7 c8 c9 c10 c11 c12 c13 c14 c15 ze R Q zg X F j I zd zf W V H Y C K b t k a f g Z za D z zh zi r U O zb zc J B T G po) (some (.int res), (bl1 c0 c1 c2 c3 c4 c5 c6 c7 c8 c9 c10 c11 c12 c13 c14 c15 ze R Q zg X zk j I zd zf zp zq zr zs C K b t k a f g Z za D z zh zi r U O zb zc zt zu zw zx po), 0, 0) := by
  intro F W V H Y J B T G v1 d2 d3 d4 res zk zp zq zr zs zt zu zw zx h
  unfold f_handleCode_233 at h
  refine ob hm_33 4 239 [qr 16, qi v1, qu, qu, qu] [.int 0] (bl1 c0 c1 c2 c3 c4 c5 c6 c7 c8 c9 c10 c11 c12 c13 c14 c15 ze R Q zg X F j I zd zf W V H Y C K b t k a f g Z za D z zh zi r U O zb zc J B v1 G po) rfl ?_
  cases h
  exact OEnds.iret hm_33 rfl rfl
theorem ok_handleCode_206_1 : ∀ {F W V H Y : List Int32} {J B T G v1 v2 : Int32} {d3 d4 : Slot} {res : Int32} {zk zp zq zr zs : List Int32} {zt zu zw : Int32} {zx : Int32}, f_handleCode_206 b t a f g F W V H Y J B T G v1 v2 = some (res, zk, zp, zq, zr, zs, zt, zu, zw, zx) → OEnds own_P 33 206 [qr 16, qi v1, qi v2, d3, d4] [] (bl1 c0 c1 c2 c3 c4 c5 c6 c7 c8 c9 c10 c11 c12 c13 c14 c15 ze R Q zg X F j I zd zf W V H Y C K b t k a f g Z za D z zh zi r U O zb zc J B T G po) (some (.int res), (bl1 c0 c1 c2 c3 c4 c5 c6 c7 c8 c9 c10 c11 c12 c13 c14 c15 ze R Q zg X zk j I zd zf zp zq zr zs C K b t k a f g Z za D z zh zi r U O zb zc zt zu zw zx po), 0, 0) := by
  intro F W V H Y J B T G v1 v2 d3 d4 res zk zp zq zr zs zt zu zw zx h
  unfold f_handleCode_206 at h
  refine oa hm_33 2 210 [qr 16, qi v1, qi v2, qu, qu] [.int T] rfl ?_
  by_cases hc332 : T < 0
  · simp only [if_pos hc332] at h
    refine OEnds.ifT hm_33 rfl (q := 233) rfl ((tlt hc332).1) ?_
    refine oc 233 [qr 16, qi v1, qi v2, qu, qu] [] ?_
    exact ok_handleCode_233_1 h
  · simp only [if_neg hc332] at h
    refine OEnds.ifF hm_33 rfl ((flt hc332).1) ?_
    refine oa hm_33 4 221 [qr 16, qi v1, qi v2, qu, qu] [.int g, .int B] rfl ?_
    by_cases hc333 : B < g
    · simp only [if_pos hc333] at h
      refine OEnds.icmpF hm_33 rfl ((tlt hc333).2.1) ?_
      refine oa hm_33 4 230 [qr 16, qi v1, qi v2, qu, qu] [.int v2, .int T, .ref 16] rfl ?_
      obtain ⟨⟨s27, s28, s29, s30, s31, s32⟩, hq334, h⟩ := bnd h
      refine OEnds.call0 hm_33 rfl rfl (by decide) rfl (as := [.ref 16, .int T, .int v2]) (rest := []) rfl rfl (ok_addDecoderCode_1 hq334) ?_
      show OEnds own_P 33 233 [qr 16, qi v1, qi v2, qu, qu] [] (bl1 c0 c1 c2 c3 c4 c5 c6 c7 c8 c9 c10 c11 c12 c13 c14 c15 ze R Q zg X F j I zd zf s27 s28 s29 s30 C K b t k a f g Z za D z zh zi r U O zb zc s31 s32 T G po) _
      exact ok_handleCode_233_1 h
    · simp only [if_neg hc333] at h
      refine OEnds.icmpT hm_33 rfl (q := 233) rfl ((flt hc333).2.1) ?_
      refine oc 233 [qr 16, qi v1, qi v2, qu, qu] [] ?_
      exact ok_handleCode_233_1 h
theorem ok_handleCode_196_1 : ∀ {F W V H Y : List Int32} {J B T G v1 v2 v3 : Int32} {d4 : Slot} {res : Int32} {zk zp zq zr zs : List Int32} {zt zu zw : Int32} {zx : Int32}, f_handleCode_196 b t a f g F W V H Y J B T G v1 v2 v3 = some (res, zk, zp, zq, zr, zs, zt, zu, zw, zx) → OEnds own_P 33 196 [qr 16, qi v1, qi v2, qi v3, d4] [] (bl1 c0 c1 c2 c3 c4 c5 c6 c7 c8 c9 c10 c11 c12 c13 c14 c15 ze R Q zg X F j I zd zf W V H Y C K b t k a f g Z za D z zh zi r U O zb zc J B T G po) (some (.int res), (bl1 c0 c1 c2 c3 c4 c5 c6 c7 c8 c9 c10 c11 c12 c13 c14 c15 ze R Q zg X zk j I zd zf zp zq zr zs C K b t k a f g Z za D z zh zi r U O zb zc zt zu zw zx po), 0, 0) := by
  intro F W V H Y J B T G v1 v2 v3 d4 res zk zp zq zr zs zt zu zw zx h
  unfold f_handleCode_196 at h
  refine ob hm_33 6 206 [qr 16, qi v1, qi v2, qi v3, qu] [] (bl1 c0 c1 c2 c3 c4 c5 c6 c7 c8 c9 c10 c11 c12 c13 c14 c15 ze R Q zg X F j I zd zf W V H Y C K b t k a f g Z za D z zh zi r U O zb zc J B T (G + v3) po) rfl ?_
  exact ok_handleCode_206_1 h
theorem ok_handleCode_55_1 : ∀ {F W V H Y : List Int32} {J B T G v1 : Int32} {d2 d3 d4 : Slot} {res : Int32} {zk zp zq zr zs : List Int32} {zt zu zw : Int32} {zx : Int32}, f_handleCode_55 b t a f g F W V H Y J B T G v1 = some (res, zk, zp, zq, zr, zs, zt, zu, zw, zx) → OEnds own_P 33 55 [qr 16, qi v1, d2, d3, d4] [] (bl1 c0 c1 c2 c3 c4 c5 c6 c7 c8 c9 c10 c11 c12 c13 c14 c15 ze R Q zg X F j I zd zf W V H Y C K b t k a f g Z za D z zh zi r U O zb zc J B T G po) (some (.int res), (bl1 c0 c1 c2 c3 c4 c5 c6 c7 c8 c9 c10 c11 c12 c13 c14 c15 ze R Q zg X zk j I zd zf zp zq zr zs C K b t k a f g Z za D z zh zi r U O zb zc zt zu zw zx po), 0, 0) := by
  intro F W V H Y J B T G v1 d2 d3 d4 res zk zp zq zr zs zt zu zw zx h
  unfold f_handleCode_55 at h
  refine oa hm_33 3 60 [qr 16, qi v1, qu, qu, qu] [.int B, .int v1] rfl ?_
  by_cases hc335 : v1 < B
  · simp only [if_pos hc335] at h
    refine OEnds.icmpF hm_33 rfl ((tlt hc335).2.1) ?_
    refine oa hm_33 2 65 [qr 16, qi v1, qu, qu, qu] [.int v1, .ref 16] rfl ?_
    obtain ⟨r24, hq336, h⟩ := bnd h
    refine OEnds.call0 hm_33 rfl rfl (by decide) rfl (as := [.ref 16, .int v1]) (rest := []) rfl rfl (ok_lengthOf_1 hq336) ?_
    refine ob hm_33 7 79 [qr 16, qi v1, qu, qi r24, qu] [.int b, .int (G + r24)] (bl1 c0 c1 c2 c3 c4 c5 c6 c7 c8 c9 c10 c11 c12 c13 c14 c15 ze R Q zg X F j I zd zf W V H Y C K b t k a f g Z za D z zh zi r U O zb zc J B T G po) rfl ?_
    by_cases hc337 : b < (G + r24)
    · simp only [if_pos hc337] at h
      refine OEnds.icmpF hm_33 rfl ((tlt hc337).2.2.2) ?_
      refine oa hm_33 1 84 [qr 16, qi v1, qu, qi r24, qu] [.int (-7)] rfl ?_
      cases h
      exact OEnds.iret hm_33 rfl rfl
    · simp only [if_neg hc337] at h
      refine OEnds.icmpT hm_33 rfl (q := 85) rfl ((flt hc337).2.2.2) ?_
      refine oa hm_33 5 92 [qr 16, qi v1, qu, qi r24, qu] [.int r24, .int G, .int v1, .ref 16] rfl ?_
      obtain ⟨s25, hq338, h⟩ := bnd h
      refine OEnds.call0 hm_33 rfl rfl (by decide) rfl (as := [.ref 16, .int v1, .int G, .int r24]) (rest := []) rfl rfl (ok_writeString_1 hq338) ?_
      refine ob hm_33 8 107 [qr 16, qi v1, qu, qi r24, qu] [.int v1, .ref 16] (bl1 c0 c1 c2 c3 c4 c5 c6 c7 c8 c9 c10 c11 c12 c13 c14 c15 ze R Q zg X s25 j I zd zf W V H Y C K b t k a f g Z za D z zh zi r U O zb zc J B T (G + r24) po) rfl ?_
      obtain ⟨r26, hq339, h⟩ := bnd h
      refine OEnds.call0 hm_33 rfl rfl (by decide) rfl (as := [.ref 16, .int v1]) (rest := []) rfl rfl (ok_firstOf_1 hq339) ?_
      refine ob hm_33 2 206 [qr 16, qi v1, qi r26, qi r24, qu] [] (bl1 c0 c1 c2 c3 c4 c5 c6 c7 c8 c9 c10 c11 c12 c13 c14 c15 ze R Q zg X s25 j I zd zf W V H Y C K b t k a f g Z za D z zh zi r U O zb zc J B T (G + r24) po) rfl ?_
      exact ok_handleCode_206_1 h
  · simp only [if_neg hc335] at h
    refine OEnds.icmpT hm_33 rfl (q := 114) rfl ((flt hc335).2.1) ?_
    refine oa hm_33 3 119 [qr 16, qi v1, qu, qu, qu] [.int T, .ref 16] rfl ?_
    obtain ⟨r20, hq340, h⟩ := bnd h
    refine OEnds.call0 hm_33 rfl rfl (by decide) rfl (as := [.ref 16, .int T]) (rest := []) rfl rfl (ok_lengthOf_1 hq340) ?_
    refine ob hm_33 9 135 [qr 16, qi v1, qu, qi (r20 + 1), qu] [.int b, .int (G + (r20 + 1))] (bl1 c0 c1 c2 c3 c4 c5 c6 c7 c8 c9 c10 c11 c12 c13 c14 c15 ze R Q zg X F j I zd zf W V H Y C K b t k a f g Z za D z zh zi r U O zb zc J B T G po) rfl ?_
    by_cases hc341 : b < (G + (r20 + 1))
    · simp only [if_pos hc341] at h
      refine OEnds.icmpF hm_33 rfl ((tlt hc341).2.2.2) ?_
      refine oa hm_33 1 140 [qr 16, qi v1, qu, qi (r20 + 1), qu] [.int (-7)] rfl ?_
      cases h
      exact OEnds.iret hm_33 rfl rfl
    · simp only [if_neg hc341] at h
      refine OEnds.icmpT hm_33 rfl (q := 141) rfl ((flt hc341).2.2.2) ?_
      refine oa hm_33 8 153 [qr 16, qi v1, qu, qi (r20 + 1), qu] [.int ((r20 + 1) - 1), .int G, .int T, .ref 16] rfl ?_
      obtain ⟨s21, hq342, h⟩ := bnd h
      refine OEnds.call0 hm_33 rfl rfl (by decide) rfl (as := [.ref 16, .int T, .int G, .int ((r20 + 1) - 1)]) (rest := []) rfl rfl (ok_writeString_1 hq342) ?_
      refine ob hm_33 3 161 [qr 16, qi v1, qu, qi (r20 + 1), qu] [.int T, .ref 16] (bl1 c0 c1 c2 c3 c4 c5 c6 c7 c8 c9 c10 c11 c12 c13 c14 c15 ze R Q zg X s21 j I zd zf W V H Y C K b t k a f g Z za D z zh zi r U O zb zc J B T G po) rfl ?_
      obtain ⟨r22, hq343, h⟩ := bnd h
      refine OEnds.call0 hm_33 rfl rfl (by decide) rfl (as := [.ref 16, .int T]) (rest := []) rfl rfl (ok_firstOf_1 hq343) ?_
      refine ob hm_33 9 177 [qr 16, qi v1, qi r22, qi (r20 + 1), qi ((G + (r20 + 1)) - 1)] [.int ((G + (r20 + 1)) - 1)] (bl1 c0 c1 c2 c3 c4 c5 c6 c7 c8 c9 c10 c11 c12 c13 c14 c15 ze R Q zg X s21 j I zd zf W V H Y C K b t k a f g Z za D z zh zi r U O zb zc J B T G po) rfl ?_
      by_cases hc344 : ((G + (r20 + 1)) - 1) < 0
      · simp only [if_pos hc344] at h
        refine OEnds.ifT hm_33 rfl (q := 196) rfl ((tlt hc344).1) ?_
        refine oc 196 [qr 16, qi v1, qi r22, qi (r20 + 1), qi ((G + (r20 + 1)) - 1)] [] ?_
        exact ok_handleCode_196_1 h
      · simp only [if_neg hc344] at h
        refine OEnds.ifF hm_33 rfl ((flt hc344).1) ?_
        refine oa hm_33 2 185 [qr 16, qi v1, qi r22, qi (r20 + 1), qi ((G + (r20 + 1)) - 1)] [.int 256, .int ((G + (r20 + 1)) - 1)] rfl ?_
        by_cases hc345 : ((G + (r20 + 1)) - 1) < 256
        · simp only [if_pos hc345] at h
          refine OEnds.icmpF hm_33 rfl ((tlt hc345).2.1) ?_
          refine oa hm_33 4 195 [qr 16, qi v1, qi r22, qi (r20 + 1), qi ((G + (r20 + 1)) - 1)] [.int r22, .int ((G + (r20 + 1)) - 1), .ref 22] rfl ?_
          obtain ⟨A23, hA23, h⟩ := bnd h
          refine OEnds.plain hm_33 rfl rfl (x_iastore rfl (Nat.le_of_ble_eq_true rfl) hA23) ?_
          show OEnds own_P 33 196 [qr 16, qi v1, qi r22, qi (r20 + 1), qi ((G + (r20 + 1)) - 1)] [] (bl1 c0 c1 c2 c3 c4 c5 c6 c7 c8 c9 c10 c11 c12 c13 c14 c15 ze R Q zg X A23 j I zd zf W V H Y C K b t k a f g Z za D z zh zi r U O zb zc J B T G po) _
          exact ok_handleCode_196_1 h
        · simp only [if_neg hc345] at h
          refine OEnds.icmpT hm_33 rfl (q := 196) rfl ((flt hc345).2.1) ?_
          refine oc 196 [qr 16, qi v1, qi r22, qi (r20 + 1), qi ((G + (r20 + 1)) - 1)] [] ?_
          exact ok_handleCode_196_1 h
theorem ok_handleCode_36_1 : ∀ {F W V H Y : List Int32} {J B T G v1 : Int32} {d2 d3 d4 : Slot} {res : Int32} {zk zp zq zr zs : List Int32} {zt zu zw : Int32} {zx : Int32}, f_handleCode_36 b t a f g F W V H Y J B T G v1 = some (res, zk, zp, zq, zr, zs, zt, zu, zw, zx) → OEnds own_P 33 36 [qr 16, qi v1, d2, d3, d4] [] (bl1 c0 c1 c2 c3 c4 c5 c6 c7 c8 c9 c10 c11 c12 c13 c14 c15 ze R Q zg X F j I zd zf W V H Y C K b t k a f g Z za D z zh zi r U O zb zc J B T G po) (some (.int res), (bl1 c0 c1 c2 c3 c4 c5 c6 c7 c8 c9 c10 c11 c12 c13 c14 c15 ze R Q zg X zk j I zd zf zp zq zr zs C K b t k a f g Z za D z zh zi r U O zb zc zt zu zw zx po), 0, 0) := by
  intro F W V H Y J B T G v1 d2 d3 d4 res zk zp zq zr zs zt zu zw zx h
  unfold f_handleCode_36 at h
  refine oa hm_33 3 41 [qr 16, qi v1, qu, qu, qu] [.int a, .int v1] rfl ?_
  by_cases hc346 : v1 < a
  · simp only [if_pos hc346] at h
    refine OEnds.icmpF hm_33 rfl ((tlt hc346).2.1) ?_
    refine oa hm_33 3 49 [qr 16, qi v1, qu, qu, qu] [.int t, .int v1] rfl ?_
    by_cases hc347 : v1 < t
    · simp only [if_pos hc347] at h
      refine OEnds.icmpT hm_33 rfl (q := 55) rfl ((tlt hc347).1) ?_
      refine oc 55 [qr 16, qi v1, qu, qu, qu] [] ?_
      exact ok_handleCode_55_1 h
    · simp only [if_neg hc347] at h
      refine OEnds.icmpF hm_33 rfl ((flt hc347).1) ?_
      refine oa hm_33 1 54 [qr 16, qi v1, qu, qu, qu] [.int (-6)] rfl ?_
      cases h
      exact OEnds.iret hm_33 rfl rfl
  · simp only [if_neg hc346] at h
    refine OEnds.icmpT hm_33 rfl (q := 55) rfl ((flt hc346).2.1) ?_
    refine oc 55 [qr 16, qi v1, qu, qu, qu] [] ?_
    exact ok_handleCode_55_1 h
theorem ok_handleCode_18_1 : ∀ {F W V H Y : List Int32} {J B T G v1 : Int32} {d2 d3 d4 : Slot} {res : Int32} {zk zp zq zr zs : List Int32} {zt zu zw : Int32} {zx : Int32}, f_handleCode_18 b t a f g F W V H Y J B T G v1 = some (res, zk, zp, zq, zr, zs, zt, zu, zw, zx) → OEnds own_P 33 18 [qr 16, qi v1, d2, d3, d4] [] (bl1 c0 c1 c2 c3 c4 c5 c6 c7 c8 c9 c10 c11 c12 c13 c14 c15 ze R Q zg X F j I zd zf W V H Y C K b t k a f g Z za D z zh zi r U O zb zc J B T G po) (some (.int res), (bl1 c0 c1 c2 c3 c4 c5 c6 c7 c8 c9 c10 c11 c12 c13 c14 c15 ze R Q zg X zk j I zd zf zp zq zr zs C K b t k a f g Z za D z zh zi r U O zb zc zt zu zw zx po), 0, 0) := by
  intro F W V H Y J B T G v1 d2 d3 d4 res zk zp zq zr zs zt zu zw zx h
  unfold f_handleCode_18 at h
  refine oa hm_33 2 22 [qr 16, qi v1, qu, qu, qu] [.int T] rfl ?_
  by_cases hc348 : T < 0
  · simp only [if_pos hc348] at h
    refine OEnds.ifT hm_33 rfl (q := 36) rfl ((tlt hc348).1) ?_
    refine oc 36 [qr 16, qi v1, qu, qu, qu] [] ?_
    exact ok_handleCode_36_1 h
  · simp only [if_neg hc348] at h
    refine OEnds.ifF hm_33 rfl ((flt hc348).1) ?_
    refine oa hm_33 3 30 [qr 16, qi v1, qu, qu, qu] [.int B, .int v1] rfl ?_
    by_cases hc349 : B < v1
    · simp only [if_pos hc349] at h
      refine OEnds.icmpF hm_33 rfl ((tlt hc349).2.2.2) ?_
      refine oa hm_33 1 35 [qr 16, qi v1, qu, qu, qu] [.int (-5)] rfl ?_
      cases h
      exact OEnds.iret hm_33 rfl rfl
    · simp only [if_neg hc349] at h
      refine OEnds.icmpT hm_33 rfl (q := 36) rfl ((flt hc349).2.2.2) ?_
      refine oc 36 [qr 16, qi v1, qu, qu, qu] [] ?_
      exact ok_handleCode_36_1 h
theorem ok_handleCode_1 {v1 res : Int32} (h : f_handleCode b t a f g F W V H Y J B T G v1 = some (res, zk, zp, zq, zr, zs, zt, zu, zw, zx)) : OEnds own_P 33 0 [qr 16, qi v1, qu, qu, qu] [] (bl1 c0 c1 c2 c3 c4 c5 c6 c7 c8 c9 c10 c11 c12 c13 c14 c15 ze R Q zg X F j I zd zf W V H Y C K b t k a f g Z za D z zh zi r U O zb zc J B T G po) (some (.int res), (bl1 c0 c1 c2 c3 c4 c5 c6 c7 c8 c9 c10 c11 c12 c13 c14 c15 ze R Q zg X zk j I zd zf zp zq zr zs C K b t k a f g Z za D z zh zi r U O zb zc zt zu zw zx po), 0, 0) := by
  unfold f_handleCode at h
  refine oa hm_33 2 4 [qr 16, qi v1, qu, qu, qu] [.int T] rfl ?_
  by_cases hc350 : T < 0
  · simp only [if_pos hc350] at h
    refine OEnds.ifF hm_33 rfl ((tlt hc350).2.1) ?_
    refine oa hm_33 3 12 [qr 16, qi v1, qu, qu, qu] [.int a, .int v1] rfl ?_
    by_cases hc351 : v1 < a
    · simp only [if_pos hc351] at h
      refine OEnds.icmpT hm_33 rfl (q := 18) rfl ((tlt hc351).1) ?_
      refine oc 18 [qr 16, qi v1, qu, qu, qu] [] ?_
      exact ok_handleCode_18_1 h
    · simp only [if_neg hc351] at h
      refine OEnds.icmpF hm_33 rfl ((flt hc351).1) ?_
      refine oa hm_33 1 17 [qr 16, qi v1, qu, qu, qu] [.int (-5)] rfl ?_
      cases h
      exact OEnds.iret hm_33 rfl rfl
  · simp only [if_neg hc350] at h
    refine OEnds.ifT hm_33 rfl (q := 18) rfl ((flt hc350).2.1) ?_
    refine oc 18 [qr 16, qi v1, qu, qu, qu] [] ?_
    exact ok_handleCode_18_1 h
theorem ok_decompress_45_1 : ∀ (n : Nat), ∀ {F W V H Y : List Int32} {zc J B T G v1 v2 : Int32} {d3 d4 : Slot} {res : Int32} {zk zp zq zr zs : List Int32} {yd zt zu zw : Int32} {zx : Int32}, f_decompress_45 j b t k a f g zb n F W V H Y zc J B T G v1 v2 = some (res, zk, zp, zq, zr, zs, yd, zt, zu, zw, zx) → OEnds own_P 31 45 [qr 16, qi v1, qi v2, d3, d4] [] (bl1 c0 c1 c2 c3 c4 c5 c6 c7 c8 c9 c10 c11 c12 c13 c14 c15 ze R Q zg X F j I zd zf W V H Y C K b t k a f g Z za D z zh zi r U O zb zc J B T G po) (some (.int res), (bl1 c0 c1 c2 c3 c4 c5 c6 c7 c8 c9 c10 c11 c12 c13 c14 c15 ze R Q zg X zk j I zd zf zp zq zr zs C K b t k a f g Z za D z zh zi r U O zb yd zt zu zw zx po), 0, 0) := by
  intro n
  induction n with
  | zero => intro F W V H Y zc J B T G v1 v2 d3 d4 res zk zp zq zr zs yd zt zu zw zx h; cases h
  | succ n ih =>
    intro F W V H Y zc J B T G v1 v2 d3 d4 res zk zp zq zr zs yd zt zu zw zx h
    unfold f_decompress_45 at h
    refine ob hm_31 2 49 [qr 16, qi v1, qi v2, qu, qu] [.int 5000, .int v2] (bl1 c0 c1 c2 c3 c4 c5 c6 c7 c8 c9 c10 c11 c12 c13 c14 c15 ze R Q zg X F j I zd zf W V H Y C K b t k a f g Z za D z zh zi r U O zb zc J B T G po) rfl ?_
    by_cases hc352 : v2 < 5000
    · simp only [if_pos hc352] at h
      refine OEnds.icmpF hm_31 rfl ((tlt hc352).2.1) ?_
      refine oa hm_31 6 62 [qr 16, qi v1, qi v2, qu, qu] [.int J, .int (v1 - zc)] rfl ?_
      by_cases hc353 : (v1 - zc) < J
      · simp only [if_pos hc353] at h
        refine OEnds.icmpF hm_31 rfl ((tlt hc353).2.1) ?_
        refine oa hm_31 1 67 [qr 16, qi v1, qi v2, qu, qu] [.int (-4)] rfl ?_
        cases h
        exact OEnds.iret hm_31 rfl rfl
      · simp only [if_neg hc353] at h
        refine OEnds.icmpT hm_31 rfl (q := 68) rfl ((flt hc353).2.1) ?_
        refine oa hm_31 1 69 [qr 16, qi v1, qi v2, qu, qu] [.ref 16] rfl ?_
        obtain ⟨⟨r33, s34⟩, hq354, h⟩ := bnd h
        refine OEnds.call0 hm_31 rfl rfl (by decide) rfl (as := [.ref 16]) (rest := []) rfl rfl (ok_readCode_1 hq354) ?_
        refine ob hm_31 4 78 [qr 16, qi v1, qi v2, qi r33, qu] [.int a, .int r33] (bl1 c0 c1 c2 c3 c4 c5 c6 c7 c8 c9 c10 c11 c12 c13 c14 c15 ze R Q zg X F j I zd zf W V H Y C K b t k a f g Z za D z zh zi r U O zb s34 J B T G po) rfl ?_
        by_cases hc355 : r33 = a
        · simp only [if_pos hc355] at h
          refine OEnds.icmpF hm_31 rfl ((teq hc355).2) ?_
          refine ob hm_31 18 45 [qr 16, qi v1, qi (v2 + 1), qi r33, qu] [] (bl1 c0 c1 c2 c3 c4 c5 c6 c7 c8 c9 c10 c11 c12 c13 c14 c15 ze R Q zg X F j I zd zf W V H Y C K b t k a f g Z za D z zh zi r U O zb s34 (k + 1) (a + 2) (-1) G po) rfl ?_
          exact ih h
        · simp only [if_neg hc355] at h
          refine OEnds.icmpT hm_31 rfl (q := 109) rfl ((feq hc355).2) ?_
          refine oa hm_31 5 116 [qr 16, qi v1, qi v2, qi r33, qu] [.int (a + 1), .int r33] rfl ?_
          by_cases hc356 : r33 = (a + 1)
          · simp only [if_pos hc356] at h
            refine OEnds.icmpF hm_31 rfl ((teq hc356).2) ?_
            refine oa hm_31 1 120 [qr 16, qi v1, qi v2, qi r33, qu] [.int 0] rfl ?_
            cases h
            exact OEnds.iret hm_31 rfl rfl
          · simp only [if_neg hc356] at h
            refine OEnds.icmpT hm_31 rfl (q := 121) rfl ((feq hc356).2) ?_
            refine oa hm_31 2 123 [qr 16, qi v1, qi v2, qi r33, qu] [.int r33, .ref 16] rfl ?_
            obtain ⟨⟨r35, s36, s37, s38, s39, s40, s41, s42, s43, s44⟩, hq357, h⟩ := bnd h
            refine OEnds.call0 hm_31 rfl rfl (by decide) rfl (as := [.ref 16, .int r33]) (rest := []) rfl rfl (ok_handleCode_1 hq357) ?_
            refine ob hm_31 2 130 [qr 16, qi v1, qi v2, qi r33, qi r35] [.int r35] (bl1 c0 c1 c2 c3 c4 c5 c6 c7 c8 c9 c10 c11 c12 c13 c14 c15 ze R Q zg X s36 j I zd zf s37 s38 s39 s40 C K b t k a f g Z za D z zh zi r U O zb s34 s41 s42 s43 s44 po) rfl ?_
            by_cases hc358 : r35 = 0
            · simp only [if_pos hc358] at h
              refine OEnds.ifT hm_31 rfl (q := 136) rfl ((teq hc358).1) ?_
              refine oa hm_31 2 45 [qr 16, qi v1, qi (v2 + 1), qi r33, qi r35] [] rfl ?_
              exact ih h
            · simp only [if_neg hc358] at h
              refine OEnds.ifF hm_31 rfl ((feq hc358).1) ?_
              refine oa hm_31 1 135 [qr 16, qi v1, qi v2, qi r33, qi r35] [.int r35] rfl ?_
              cases h
              exact OEnds.iret hm_31 rfl rfl
    · simp only [if_neg hc352] at h
      refine OEnds.icmpT hm_31 rfl (q := 142) rfl ((flt hc352).2.1) ?_
      refine oa hm_31 1 144 [qr 16, qi v1, qi v2, qu, qu] [.int (-4)] rfl ?_
      cases h
      exact OEnds.iret hm_31 rfl rfl
theorem ok_decompress_1 {res : Int32} (h : f_decompress j b t k a f g zb F W V H Y zc J B T G = some (res, zk, zp, zq, zr, zs, yd, zt, zu, zw, zx)) : OEnds own_P 31 0 [qr 16, qu, qu, qu, qu] [] (bl1 c0 c1 c2 c3 c4 c5 c6 c7 c8 c9 c10 c11 c12 c13 c14 c15 ze R Q zg X F j I zd zf W V H Y C K b t k a f g Z za D z zh zi r U O zb zc J B T G po) (some (.int res), (bl1 c0 c1 c2 c3 c4 c5 c6 c7 c8 c9 c10 c11 c12 c13 c14 c15 ze R Q zg X zk j I zd zf zp zq zr zs C K b t k a f g Z za D z zh zi r U O zb yd zt zu zw zx po), 0, 0) := by
  unfold f_decompress at h
  refine ob hm_31 28 45 [qr 16, qi (zb * 8), qi 0, qu, qu] [] (bl1 c0 c1 c2 c3 c4 c5 c6 c7 c8 c9 c10 c11 c12 c13 c14 c15 ze R Q zg X F j I zd zf W V H Y C K b t k a f g Z za D z zh zi r U O zb 0 (k + 1) (a + 2) (-1) 0 po) rfl ?_
  exact ok_decompress_45_1 100000 h
theorem ok_decodeSteps_1 {res : Int32} (h : f_decodeSteps Q b t k a f g z F j W V H Y zb zc J B T G = some (res, zk, zj, zp, zq, zr, zs, yc, yd, zt, zu, zw, zx)) : OEnds own_P 13 0 [qr 16, qu] [] (bl1 c0 c1 c2 c3 c4 c5 c6 c7 c8 c9 c10 c11 c12 c13 c14 c15 ze R Q zg X F j I zd zf W V H Y C K b t k a f g Z za D z zh zi r U O zb zc J B T G po) (some (.int res), (bl1 c0 c1 c2 c3 c4 c5 c6 c7 c8 c9 c10 c11 c12 c13 c14 c15 ze R Q zg X zk zj I zd zf zp zq zr zs C K b t k a f g Z za D z zh zi r U O yc yd zt zu zw zx po), 0, 0) := by
  unfold f_decodeSteps at h
  refine oa hm_13 2 4 [qr 16, qu] [.int z] rfl ?_
  by_cases hc359 : z = 0
  · simp only [if_pos hc359] at h
    refine OEnds.ifF hm_13 rfl ((teq hc359).2) ?_
    refine oa hm_13 1 8 [qr 16, qu] [.int (-1)] rfl ?_
    cases h
    exact OEnds.iret hm_13 rfl rfl
  · simp only [if_neg hc359] at h
    refine OEnds.ifT hm_13 rfl (q := 9) rfl ((feq hc359).2) ?_
    refine oa hm_13 3 14 [qr 16, qu] [.int 0, .ref 19] rfl ?_
    obtain ⟨x45, hx45, h⟩ := bnd h
    refine OEnds.plain hm_13 rfl rfl (x_iaload rfl hx45) ?_
    refine ob hm_13 2 19 [qr 16, qu] [.int k, .int x45] (bl1 c0 c1 c2 c3 c4 c5 c6 c7 c8 c9 c10 c11 c12 c13 c14 c15 ze R Q zg X F j I zd zf W V H Y C K b t k a f g Z za D z zh zi r U O zb zc J B T G po) rfl ?_
    by_cases hc360 : x45 = k
    · simp only [if_pos hc360] at h
      refine OEnds.icmpT hm_13 rfl (q := 25) rfl ((teq hc360).1) ?_
      refine oa hm_13 1 26 [qr 16, qu] [.ref 16] rfl ?_
      obtain ⟨⟨r46, s47, s48⟩, hq361, h⟩ := bnd h
      refine OEnds.call0 hm_13 rfl rfl (by decide) rfl (as := [.ref 16]) (rest := []) rfl rfl (ok_gatherBlocks_1 hq361) ?_
      show OEnds own_P 13 29 [qr 16, qu] [.int r46] (bl1 c0 c1 c2 c3 c4 c5 c6 c7 c8 c9 c10 c11 c12 c13 c14 c15 ze R Q zg X F s47 I zd zf W V H Y C K b t k a f g Z za D z zh zi r U O s48 zc J B T G po) _
      by_cases hc362 : r46 = 0
      · simp only [if_pos hc362] at h
        refine OEnds.ifF hm_13 rfl ((teq hc362).2) ?_
        refine oa hm_13 1 34 [qr 16, qu] [.int (-3)] rfl ?_
        cases h
        exact OEnds.iret hm_13 rfl rfl
      · simp only [if_neg hc362] at h
        refine OEnds.ifT hm_13 rfl (q := 35) rfl ((feq hc362).2) ?_
        refine oa hm_13 1 36 [qr 16, qu] [.ref 16] rfl ?_
        obtain ⟨⟨r49, s50, s51, s52, s53, s54, s55, s56, s57, s58, s59⟩, hq363, h⟩ := bnd h
        refine OEnds.call0 hm_13 rfl rfl (by decide) rfl (as := [.ref 16]) (rest := []) rfl rfl (ok_decompress_1 hq363) ?_
        refine ob hm_13 2 41 [qr 16, qi r49] [.int r49] (bl1 c0 c1 c2 c3 c4 c5 c6 c7 c8 c9 c10 c11 c12 c13 c14 c15 ze R Q zg X s50 s47 I zd zf s51 s52 s53 s54 C K b t k a f g Z za D z zh zi r U O s48 s55 s56 s57 s58 s59 po) rfl ?_
        by_cases hc364 : r49 = 0
        · simp only [if_pos hc364] at h
          refine OEnds.ifT hm_13 rfl (q := 46) rfl ((teq hc364).1) ?_
          refine oa hm_13 4 54 [qr 16, qi r49] [.int b, .int s59] rfl ?_
          by_cases hc365 : s59 < b
          · simp only [if_pos hc365] at h
            refine OEnds.icmpF hm_13 rfl ((tlt hc365).2.1) ?_
            refine oa hm_13 1 59 [qr 16, qi r49] [.int (-8)] rfl ?_
            cases h
            exact OEnds.iret hm_13 rfl rfl
          · simp only [if_neg hc365] at h
            refine OEnds.icmpT hm_13 rfl (q := 60) rfl ((flt hc365).2.1) ?_
            refine oa hm_13 1 61 [qr 16, qi r49] [.int 0] rfl ?_
            cases h
            exact OEnds.iret hm_13 rfl rfl
        · simp only [if_neg hc364] at h
          refine OEnds.ifF hm_13 rfl ((feq hc364).1) ?_
          refine oa hm_13 1 45 [qr 16, qi r49] [.int r49] rfl ?_
          cases h
          exact OEnds.iret hm_13 rfl rfl
    · simp only [if_neg hc360] at h
      refine OEnds.icmpF hm_13 rfl ((feq hc360).1) ?_
      refine oa hm_13 1 24 [qr 16, qu] [.int (-2)] rfl ?_
      cases h
      exact OEnds.iret hm_13 rfl rfl
theorem ok_decode_63_1 : ∀ {zg X F j W V H Y : List Int32} {zh zi zb zc J B T G v1 : Int32} {d2 d3 : Slot} {res : Int32} {xs zo zk zj zp zq zr zs : List Int32} {xt xu yc yd zt zu zw : Int32} {zx : Int32}, f_decode_63 Q C K b t k a f g Z z zg X F j W V H Y zh zi zb zc J B T G v1 = some (res, xs, zo, zk, zj, zp, zq, zr, zs, xt, xu, yc, yd, zt, zu, zw, zx) → OEnds own_P 12 63 [qr 16, qi v1, d2, d3] [] (bl1 c0 c1 c2 c3 c4 c5 c6 c7 c8 c9 c10 c11 c12 c13 c14 c15 ze R Q zg X F j I zd zf W V H Y C K b t k a f g Z za D z zh zi r U O zb zc J B T G po) (some (.int res), (bl1 c0 c1 c2 c3 c4 c5 c6 c7 c8 c9 c10 c11 c12 c13 c14 c15 ze R Q xs zo zk zj I zd zf zp zq zr zs C K b t k a f g Z za D z xt xu r U O yc yd zt zu zw zx po), 0, 0) := by
  intro zg X F j W V H Y zh zi zb zc J B T G v1 d2 d3 res xs zo zk zj zp zq zr zs xt xu yc yd zt zu zw zx h
  unfold f_decode_63 at h
  refine ob hm_12 5 77 [qr 16, qi v1, qu, qu] [.int v1] (bl1 c0 c1 c2 c3 c4 c5 c6 c7 c8 c9 c10 c11 c12 c13 c14 c15 ze R Q zg X F j I zd zf W V H Y C K b t k a f g Z za D z 1 zi r U O zb zc J B T G po) rfl ?_
  cases h
  exact OEnds.iret hm_12 rfl rfl
theorem ok_decode_20_1 {k63 : List Int32 → List Int32 → List Int32 → List Int32 → List Int32 → List Int32 → List Int32 → List Int32 → Int32 → Int32 → Int32 → Int32 → Int32 → Int32 → Int32 → Int32 → Int32 → Option (Int32 × List Int32 × List Int32 × List Int32 × List Int32 × List Int32 × List Int32 × List Int32 × List Int32 × Int32 × Int32 × Int32 × Int32 × Int32 × Int32 × Int32 × Int32)} (hk63 : ∀ {zg X F j W V H Y : List Int32} {zh zi zb zc J B T G v1 : Int32} {d2 d3 : Slot} {res : Int32} {xs zo zk zj zp zq zr zs : List Int32} {xt xu yc yd zt zu zw : Int32} {zx : Int32}, k63 zg X F j W V H Y zh zi zb zc J B T G v1 = some (res, xs, zo, zk, zj, zp, zq, zr, zs, xt, xu, yc, yd, zt, zu, zw, zx) → OEnds own_P 12 63 [qr 16, qi v1, d2, d3] [] (bl1 c0 c1 c2 c3 c4 c5 c6 c7 c8 c9 c10 c11 c12 c13 c14 c15 ze R Q zg X F j I zd zf W V H Y C K b t k a f g Z za D z zh zi r U O zb zc J B T G po) (some (.int res), (bl1 c0 c1 c2 c3 c4 c5 c6 c7 c8 c9 c10 c11 c12 c13 c14 c15 ze R Q xs zo zk zj I zd zf zp zq zr zs C K b t k a f g Z za D z xt xu r U O yc yd zt zu zw zx po), 0, 0)) : ∀ (n : Nat), ∀ {zg X F j W V H Y : List Int32} {zh zi zb zc J B T G v1 v2 : Int32} {d3 : Slot} {res : Int32} {xs zo zk zj zp zq zr zs : List Int32} {xt xu yc yd zt zu zw : Int32} {zx : Int32}, f_decode_20 k63 Q C K b t k a f g Z z n zg X F j W V H Y zh zi zb zc J B T G v1 v2 = some (res, xs, zo, zk, zj, zp, zq, zr, zs, xt, xu, yc, yd, zt, zu, zw, zx) → OEnds own_P 12 20 [qr 16, qi v1, qi v2, d3] [] (bl1 c0 c1 c2 c3 c4 c5 c6 c7 c8 c9 c10 c11 c12 c13 c14 c15 ze R Q zg X F j I zd zf W V H Y C K b t k a f g Z za D z zh zi r U O zb zc J B T G po) (some (.int res), (bl1 c0 c1 c2 c3 c4 c5 c6 c7 c8 c9 c10 c11 c12 c13 c14 c15 ze R Q xs zo zk zj I zd zf zp zq zr zs C K b t k a f g Z za D z xt xu r U O yc yd zt zu zw zx po), 0, 0) := by
  intro n
  induction n with
  | zero => intro zg X F j W V H Y zh zi zb zc J B T G v1 v2 d3 res xs zo zk zj zp zq zr zs xt xu yc yd zt zu zw zx h; cases h
  | succ n ih =>
    intro zg X F j W V H Y zh zi zb zc J B T G v1 v2 d3 res xs zo zk zj zp zq zr zs xt xu yc yd zt zu zw zx h
    unfold f_decode_20 at h
    refine ob hm_12 3 25 [qr 16, qi v1, qi v2, qu] [.int b, .int v2] (bl1 c0 c1 c2 c3 c4 c5 c6 c7 c8 c9 c10 c11 c12 c13 c14 c15 ze R Q zg X F j I zd zf W V H Y C K b t k a f g Z za D z zh zi r U O zb zc J B T G po) rfl ?_
    by_cases hc366 : v2 < b
    · simp only [if_pos hc366] at h
      refine OEnds.icmpF hm_12 rfl ((tlt hc366).2.1) ?_
      refine oa hm_12 2 30 [qr 16, qi v1, qi v2, qu] [.int v2, .ref 16] rfl ?_
      obtain ⟨r85, hq367, h⟩ := bnd h
      refine OEnds.call0 hm_12 rfl rfl (by decide) rfl (as := [.ref 16, .int v2]) (rest := []) rfl rfl (ok_rasterOf_1 hq367) ?_
      refine ob hm_12 2 35 [qr 16, qi v1, qi v2, qi r85] [.int r85] (bl1 c0 c1 c2 c3 c4 c5 c6 c7 c8 c9 c10 c11 c12 c13 c14 c15 ze R Q zg X F j I zd zf W V H Y C K b t k a f g Z za D z zh zi r U O zb zc J B T G po) rfl ?_
      by_cases hc368 : r85 < 0
      · simp only [if_pos hc368] at h
        refine OEnds.ifT hm_12 rfl (q := 57) rfl ((tlt hc368).1) ?_
        refine oa hm_12 2 20 [qr 16, qi v1, qi (v2 + 1), qi r85] [] rfl ?_
        exact ih h
      · simp only [if_neg hc368] at h
        refine OEnds.ifF hm_12 rfl ((flt hc368).1) ?_
        refine oa hm_12 2 42 [qr 16, qi v1, qi v2, qi r85] [.int 256, .int r85] rfl ?_
        by_cases hc369 : r85 < 256
        · simp only [if_pos hc369] at h
          refine OEnds.icmpF hm_12 rfl ((tlt hc369).2.1) ?_
          refine oa hm_12 6 55 [qr 16, qi v1, qi v2, qi r85] [.int v2, .ref 22, .int r85, .ref 20] rfl ?_
          obtain ⟨x86, hx86, h⟩ := bnd h
          refine OEnds.plain hm_12 rfl rfl (x_iaload rfl hx86) ?_
          show OEnds own_P 12 56 [qr 16, qi v1, qi v2, qi r85] [.int x86, .int r85, .ref 20] (bl1 c0 c1 c2 c3 c4 c5 c6 c7 c8 c9 c10 c11 c12 c13 c14 c15 ze R Q zg X F j I zd zf W V H Y C K b t k a f g Z za D z zh zi r U O zb zc J B T G po) _
          obtain ⟨A87, hA87, h⟩ := bnd h
          refine OEnds.plain hm_12 rfl rfl (x_iastore rfl (Nat.le_of_ble_eq_true rfl) hA87) ?_
          refine ob hm_12 2 20 [qr 16, qi v1, qi (v2 + 1), qi r85] [] (bl1 c0 c1 c2 c3 c4 c5 c6 c7 c8 c9 c10 c11 c12 c13 c14 c15 ze R Q A87 X F j I zd zf W V H Y C K b t k a f g Z za D z zh zi r U O zb zc J B T G po) rfl ?_
          exact ih h
        · simp only [if_neg hc369] at h
          refine OEnds.icmpT hm_12 rfl (q := 57) rfl ((flt hc369).2.1) ?_
          refine oa hm_12 2 20 [qr 16, qi v1, qi (v2 + 1), qi r85] [] rfl ?_
          exact ih h
    · simp only [if_neg hc366] at h
      refine OEnds.icmpT hm_12 rfl (q := 63) rfl ((flt hc366).2.1) ?_
      refine oc 63 [qr 16, qi v1, qi v2, qu] [] ?_
      exact hk63 h
theorem ok_decode_1 {res : Int32} (h : f_decode Q C K b t k a f g Z z zg X F j W V H Y zh zi zb zc J B T G = some (res, xs, zo, zk, zj, zp, zq, zr, zs, xt, xu, yc, yd, zt, zu, zw, zx)) : OEnds own_P 12 0 [qr 16, qu, qu, qu] [] (bl1 c0 c1 c2 c3 c4 c5 c6 c7 c8 c9 c10 c11 c12 c13 c14 c15 ze R Q zg X F j I zd zf W V H Y C K b t k a f g Z za D z zh zi r U O zb zc J B T G po) (some (.int res), (bl1 c0 c1 c2 c3 c4 c5 c6 c7 c8 c9 c10 c11 c12 c13 c14 c15 ze R Q xs zo zk zj I zd zf zp zq zr zs C K b t k a f g Z za D z xt xu r U O yc yd zt zu zw zx po), 0, 0) := by
  unfold f_decode at h
  refine oa hm_12 1 1 [qr 16, qu, qu, qu] [.ref 16] rfl ?_
  obtain ⟨⟨r71, s72, s73, s74, s75, s76, s77, s78, s79, s80, s81, s82, s83⟩, hq370, h⟩ := bnd h
  refine OEnds.call0 hm_12 rfl rfl (by decide) rfl (as := [.ref 16]) (rest := []) rfl rfl (ok_decodeSteps_1 hq370) ?_
  refine ob hm_12 5 11 [qr 16, qi r71, qu, qu] [.int r71] (bl1 c0 c1 c2 c3 c4 c5 c6 c7 c8 c9 c10 c11 c12 c13 c14 c15 ze R Q zg X s72 s73 I zd zf s74 s75 s76 s77 C K b t k a f g Z za D z zh r71 r U O s78 s79 s80 s81 s82 s83 po) rfl ?_
  by_cases hc371 : r71 = 0
  · simp only [if_pos hc371] at h
    refine OEnds.ifF hm_12 rfl ((teq hc371).2) ?_
    refine oa hm_12 1 15 [qr 16, qi r71, qu, qu] [.ref 16] rfl ?_
    obtain ⟨s84, hq372, h⟩ := bnd h
    refine OEnds.call0 hm_12 rfl rfl (by decide) rfl (as := [.ref 16]) (rest := []) rfl rfl (ok_buildRowOrder_1 hq372) ?_
    refine ob hm_12 2 20 [qr 16, qi r71, qi 0, qu] [] (bl1 c0 c1 c2 c3 c4 c5 c6 c7 c8 c9 c10 c11 c12 c13 c14 c15 ze R Q zg s84 s72 s73 I zd zf s74 s75 s76 s77 C K b t k a f g Z za D z zh r71 r U O s78 s79 s80 s81 s82 s83 po) rfl ?_
    exact ok_decode_20_1 (k63 := f_decode_63 Q C K b t k a f g Z z) ok_decode_63_1 100000 h
  · simp only [if_neg hc371] at h
    refine OEnds.ifT hm_12 rfl (q := 71) rfl ((feq hc371).2) ?_
    refine ob hm_12 4 77 [qr 16, qi r71, qu, qu] [.int r71] (bl1 c0 c1 c2 c3 c4 c5 c6 c7 c8 c9 c10 c11 c12 c13 c14 c15 ze R Q zg X s72 s73 I zd zf s74 s75 s76 s77 C K b t k a f g Z za D z 0 r71 r U O s78 s79 s80 s81 s82 s83 po) rfl ?_
    cases h
    exact OEnds.iret hm_12 rfl rfl
theorem ok_getDecodedPixel_0 {v1 res : Int32} (h : f_getDecodedPixel zg b zh v1 = some res) : OEnds own_P 14 0 [qr 1, qi v1] [] (c0 :: bk0 ze R Q zg X F j I zd zf W V H Y C K b t k a f g Z za D z zh zi r U O zb zc J B T G po) (some (.int res), (c0 :: bk0 ze R Q zg X F j I zd zf W V H Y C K b t k a f g Z za D z zh zi r U O zb zc J B T G po), 0, 0) := by
  unfold f_getDecodedPixel at h
  refine oa hm_14 2 4 [qr 1, qi v1] [.int zh] rfl ?_
  by_cases hc373 : zh = 0
  · simp only [if_pos hc373] at h
    refine OEnds.ifT hm_14 rfl (q := 19) rfl ((teq hc373).1) ?_
    refine oa hm_14 1 20 [qr 1, qi v1] [.int (-1)] rfl ?_
    cases h
    exact OEnds.iret hm_14 rfl rfl
  · simp only [if_neg hc373] at h
    refine OEnds.ifF hm_14 rfl ((feq hc373).1) ?_
    refine oa hm_14 1 8 [qr 1, qi v1] [.int v1] rfl ?_
    by_cases hc374 : v1 < 0
    · simp only [if_pos hc374] at h
      refine OEnds.ifT hm_14 rfl (q := 19) rfl ((tlt hc374).1) ?_
      refine oa hm_14 1 20 [qr 1, qi v1] [.int (-1)] rfl ?_
      cases h
      exact OEnds.iret hm_14 rfl rfl
    · simp only [if_neg hc374] at h
      refine OEnds.ifF hm_14 rfl ((flt hc374).1) ?_
      refine oa hm_14 3 16 [qr 1, qi v1] [.int b, .int v1] rfl ?_
      by_cases hc375 : v1 < b
      · simp only [if_pos hc375] at h
        refine OEnds.icmpT hm_14 rfl (q := 21) rfl ((tlt hc375).1) ?_
        refine oa hm_14 3 26 [qr 1, qi v1] [.int v1, .ref 5] rfl ?_
        obtain ⟨x182, hx182, h⟩ := bnd h
        refine OEnds.plain hm_14 rfl rfl (x_iaload rfl hx182) ?_
        show OEnds own_P 14 27 [qr 1, qi v1] [.int x182] (c0 :: bk0 ze R Q zg X F j I zd zf W V H Y C K b t k a f g Z za D z zh zi r U O zb zc J B T G po) _
        cases h
        exact OEnds.iret hm_14 rfl rfl
      · simp only [if_neg hc375] at h
        refine OEnds.icmpF hm_14 rfl ((flt hc375).1) ?_
        refine oa hm_14 1 20 [qr 1, qi v1] [.int (-1)] rfl ?_
        cases h
        exact OEnds.iret hm_14 rfl rfl
theorem ok_getDecodedPixel_1 {v1 res : Int32} (h : f_getDecodedPixel zg b zh v1 = some res) : OEnds own_P 14 0 [qr 16, qi v1] [] (bl1 c0 c1 c2 c3 c4 c5 c6 c7 c8 c9 c10 c11 c12 c13 c14 c15 ze R Q zg X F j I zd zf W V H Y C K b t k a f g Z za D z zh zi r U O zb zc J B T G po) (some (.int res), (bl1 c0 c1 c2 c3 c4 c5 c6 c7 c8 c9 c10 c11 c12 c13 c14 c15 ze R Q zg X F j I zd zf W V H Y C K b t k a f g Z za D z zh zi r U O zb zc J B T G po), 0, 0) := by
  unfold f_getDecodedPixel at h
  refine oa hm_14 2 4 [qr 16, qi v1] [.int zh] rfl ?_
  by_cases hc376 : zh = 0
  · simp only [if_pos hc376] at h
    refine OEnds.ifT hm_14 rfl (q := 19) rfl ((teq hc376).1) ?_
    refine oa hm_14 1 20 [qr 16, qi v1] [.int (-1)] rfl ?_
    cases h
    exact OEnds.iret hm_14 rfl rfl
  · simp only [if_neg hc376] at h
    refine OEnds.ifF hm_14 rfl ((feq hc376).1) ?_
    refine oa hm_14 1 8 [qr 16, qi v1] [.int v1] rfl ?_
    by_cases hc377 : v1 < 0
    · simp only [if_pos hc377] at h
      refine OEnds.ifT hm_14 rfl (q := 19) rfl ((tlt hc377).1) ?_
      refine oa hm_14 1 20 [qr 16, qi v1] [.int (-1)] rfl ?_
      cases h
      exact OEnds.iret hm_14 rfl rfl
    · simp only [if_neg hc377] at h
      refine OEnds.ifF hm_14 rfl ((flt hc377).1) ?_
      refine oa hm_14 3 16 [qr 16, qi v1] [.int b, .int v1] rfl ?_
      by_cases hc378 : v1 < b
      · simp only [if_pos hc378] at h
        refine OEnds.icmpT hm_14 rfl (q := 21) rfl ((tlt hc378).1) ?_
        refine oa hm_14 3 26 [qr 16, qi v1] [.int v1, .ref 20] rfl ?_
        obtain ⟨x182, hx182, h⟩ := bnd h
        refine OEnds.plain hm_14 rfl rfl (x_iaload rfl hx182) ?_
        show OEnds own_P 14 27 [qr 16, qi v1] [.int x182] (bl1 c0 c1 c2 c3 c4 c5 c6 c7 c8 c9 c10 c11 c12 c13 c14 c15 ze R Q zg X F j I zd zf W V H Y C K b t k a f g Z za D z zh zi r U O zb zc J B T G po) _
        cases h
        exact OEnds.iret hm_14 rfl rfl
      · simp only [if_neg hc378] at h
        refine OEnds.icmpF hm_14 rfl ((flt hc378).1) ?_
        refine oa hm_14 1 20 [qr 16, qi v1] [.int (-1)] rfl ?_
        cases h
        exact OEnds.iret hm_14 rfl rfl
theorem ok_L_law_257 {scr : List Int32} : ∀ (n : Nat), ∀ {zg : List Int32} {b zh : Int32} {yf : List Int32} {ye yg v9 C K t k a f g Z za D z zi r U O zb zc J B T G : Int32} {ze R Q X F j I zd zf W V H Y : List Int32} {yh yi yj yk yl ym yn yq xn xh yo yv xo xp xq yw yx yy yz xa xb : Int32} {xj xi yp xe xf xg xk xl xm yr ys yt yu : List Int32} {d0 d3 d4 d5 d6 d7 d8 d10 d11 : Slot} {res : Int32}, f_L_law_257 scr n zg b zh yf ye yg v9 = some res → OEndsQ own_P 0 257 [d0, qr 1, qr 16, d3, d4, d5, d6, d7, d8, qi v9, d10, d11] [] (qa scr :: bk0 ze R Q zg X F j I zd zf W V H Y C K b t k a f g Z za D z zh zi r U O zb zc J B T G (bk1 xj xi yp yf xe xf xg xk xl xm yr ys yt yu yh yi ye yj yk yl ym yn yq xn xh yo yg yv xo xp xq yw yx yy yz xa xb [])) (LawQ res 0 0) := by
  intro n
  induction n with
  | zero => intro zg b zh yf ye yg v9 C K t k a f g Z za D z zi r U O zb zc J B T G ze R Q X F j I zd zf W V H Y yh yi yj yk yl ym yn yq xn xh yo yv xo xp xq yw yx yy yz xa xb xj xi yp xe xf xg xk xl xm yr ys yt yu d0 d3 d4 d5 d6 d7 d8 d10 d11 res h; cases h
  | succ n ih =>
    intro zg b zh yf ye yg v9 C K t k a f g Z za D z zi r U O zb zc J B T G ze R Q X F j I zd zf W V H Y yh yi yj yk yl ym yn yq xn xh yo yv xo xp xq yw yx yy yz xa xb xj xi yp xe xf xg xk xl xm yr ys yt yu d0 d3 d4 d5 d6 d7 d8 d10 d11 res h
    unfold f_L_law_257 at h
    refine OEndsQ.adv hm_0 2 (pc' := 261) (L' := [qu, qr 1, qr 16, qu, qu, qu, qu, qu, qu, qi v9, qu, qu]) (S' := [.int 15, .int v9]) (H' := (qa scr :: bk0 ze R Q zg X F j I zd zf W V H Y C K b t k a f g Z za D z zh zi r U O zb zc J B T G (bk1 xj xi yp yf xe xf xg xk xl xm yr ys yt yu yh yi ye yj yk yl ym yn yq xn xh yo yg yv xo xp xq yw yx yy yz xa xb []))) rfl ?_
    by_cases hc379 : v9 < 15
    · simp only [if_pos hc379] at h
      refine OEndsQ.icmpF hm_0 rfl ((tlt hc379).2.1) ?_
      refine od hm_0 2 267 [qu, qr 1, qr 16, qu, qu, qu, qu, qu, qu, qi v9, qu, qu] [.int v9, .ref 1] rfl ?_
      obtain ⟨r352, hq380, h⟩ := bnd h
      refine OEndsQ.call0 hm_0 rfl rfl (by decide) rfl (as := [.ref 1, .int v9]) (rest := []) rfl rfl (ok_getDecodedPixel_0 hq380) ?_
      refine OEndsQ.adv hm_0 3 (pc' := 275) (L' := [qu, qr 1, qr 16, qu, qu, qu, qu, qu, qu, qi v9, qi r352, qu]) (S' := [.int v9, .ref 16]) (H' := (qa scr :: bk0 ze R Q zg X F j I zd zf W V H Y C K b t k a f g Z za D z zh zi r U O zb zc J B T G (bk1 xj xi yp yf xe xf xg xk xl xm yr ys yt yu yh yi ye yj yk yl ym yn yq xn xh yo yg yv xo xp xq yw yx yy yz xa xb []))) rfl ?_
      obtain ⟨r353, hq381, h⟩ := bnd h
      refine OEndsQ.call0 hm_0 rfl rfl (by decide) rfl (as := [.ref 16, .int v9]) (rest := []) rfl rfl (ok_getDecodedPixel_1 hq381) ?_
      refine OEndsQ.adv hm_0 3 (pc' := 284) (L' := [qu, qr 1, qr 16, qu, qu, qu, qu, qu, qu, qi v9, qi r352, qi r353]) (S' := [.int r353, .int r352]) (H' := (qa scr :: bk0 ze R Q zg X F j I zd zf W V H Y C K b t k a f g Z za D z zh zi r U O zb zc J B T G (bk1 xj xi yp yf xe xf xg xk xl xm yr ys yt yu yh yi ye yj yk yl ym yn yq xn xh yo yg yv xo xp xq yw yx yy yz xa xb []))) rfl ?_
      by_cases hc382 : r352 = r353
      · simp only [if_pos hc382] at h
        refine OEndsQ.icmpT hm_0 rfl (q := 289) rfl ((teq hc382).1) ?_
        refine od hm_0 2 257 [qu, qr 1, qr 16, qu, qu, qu, qu, qu, qu, qi (v9 + 1), qi r352, qi r353] [] rfl ?_
        exact ih h
      · simp only [if_neg hc382] at h
        refine OEndsQ.icmpF hm_0 rfl ((feq hc382).1) ?_
        refine od hm_0 1 288 [qu, qr 1, qr 16, qu, qu, qu, qu, qu, qu, qi v9, qi r352, qi r353] [.int 0] rfl ?_
        cases h
        exact OEndsQ.iret hm_0 rfl rfl
    · simp only [if_neg hc379] at h
      refine OEndsQ.icmpT hm_0 rfl (q := 295) rfl ((flt hc379).2.1) ?_
      refine od hm_0 1 296 [qu, qr 1, qr 16, qu, qu, qu, qu, qu, qu, qi v9, qu, qu] [.int 1] rfl ?_
      cases h
      exact OEndsQ.iret hm_0 rfl rfl
theorem ok_L_law_233 {scr : List Int32} : ∀ {Q zg X F j W V H Y : List Int32} {C K b t k a f g Z z zh zi zb zc J B T G : Int32} {yp yf xe xf xg yr ys yt yu : List Int32} {yh yi ye yj yk yl ym yn yq yo yg yv yw yx yy yz xa xb za D r U O : Int32} {ze R I zd zf : List Int32} {xn xh xo xp xq : Int32} {xj xi xk xl xm : List Int32} {d0 d3 d4 d5 d6 d7 d8 d9 d10 d11 : Slot} {res : Int32}, f_L_law_233 scr Q zg X F j W V H Y C K b t k a f g Z z zh zi zb zc J B T G yp yf xe xf xg yr ys yt yu yh yi ye yj yk yl ym yn yq yo yg yv yw yx yy yz xa xb = some res → OEndsQ own_P 0 233 [d0, qr 1, qr 16, d3, d4, d5, d6, d7, d8, d9, d10, d11] [] (qa scr :: bk0 ze R Q zg X F j I zd zf W V H Y C K b t k a f g Z za D z zh zi r U O zb zc J B T G (bk1 xj xi yp yf xe xf xg xk xl xm yr ys yt yu yh yi ye yj yk yl ym yn yq xn xh yo yg yv xo xp xq yw yx yy yz xa xb [])) (LawQ res 0 0) := by
  intro Q zg X F j W V H Y C K b t k a f g Z z zh zi zb zc J B T G yp yf xe xf xg yr ys yt yu yh yi ye yj yk yl ym yn yq yo yg yv yw yx yy yz xa xb za D r U O ze R I zd zf xn xh xo xp xq xj xi xk xl xm d0 d3 d4 d5 d6 d7 d8 d9 d10 d11 res h
  unfold f_L_law_233 at h
  refine od hm_0 1 234 [qu, qr 1, qr 16, qu, qu, qu, qu, qu, qu, qu, qu, qu] [.ref 1] rfl ?_
  obtain ⟨⟨r318, s319, s320, s321, s322, s323, s324, s325, s326, s327, s328, s329, s330, s331, s332, s333, s334⟩, hq383, h⟩ := bnd h
  refine OEndsQ.call0 hm_0 rfl rfl (by decide) rfl (as := [.ref 1]) (rest := []) rfl rfl (ok_decode_0 hq383) ?_
  refine OEndsQ.adv hm_0 2 (pc' := 240) (L' := [qu, qr 1, qr 16, qu, qu, qu, qu, qi r318, qu, qu, qu, qu]) (S' := [.ref 16]) (H' := (qa scr :: bk0 ze R Q s319 s320 s321 s322 I zd zf s323 s324 s325 s326 C K b t k a f g Z za D z s327 s328 r U O s329 s330 s331 s332 s333 s334 (bk1 xj xi yp yf xe xf xg xk xl xm yr ys yt yu yh yi ye yj yk yl ym yn yq xn xh yo yg yv xo xp xq yw yx yy yz xa xb []))) rfl ?_
  obtain ⟨⟨r335, s336, s337, s338, s339, s340, s341, s342, s343, s344, s345, s346, s347, s348, s349, s350, s351⟩, hq384, h⟩ := bnd h
  refine OEndsQ.call0 hm_0 rfl rfl (by decide) rfl (as := [.ref 16]) (rest := []) rfl rfl (ok_decode_1 hq384) ?_
  refine OEndsQ.adv hm_0 3 (pc' := 249) (L' := [qu, qr 1, qr 16, qu, qu, qu, qu, qi r318, qi r335, qu, qu, qu]) (S' := [.int r335, .int r318]) (H' := (qa scr :: bk0 ze R Q s319 s320 s321 s322 I zd zf s323 s324 s325 s326 C K b t k a f g Z za D z s327 s328 r U O s329 s330 s331 s332 s333 s334 (bk1 xj xi yp s336 s337 s338 s339 xk xl xm s340 s341 s342 s343 yh yi ye yj yk yl ym yn yq xn xh yo s344 s345 xo xp xq s346 s347 s348 s349 s350 s351 []))) rfl ?_
  by_cases hc385 : r318 = r335
  · simp only [if_pos hc385] at h
    refine OEndsQ.icmpT hm_0 rfl (q := 254) rfl ((teq hc385).1) ?_
    refine od hm_0 2 257 [qu, qr 1, qr 16, qu, qu, qu, qu, qi r318, qi r335, qi 0, qu, qu] [] rfl ?_
    exact ok_L_law_257 100000 h
  · simp only [if_neg hc385] at h
    refine OEndsQ.icmpF hm_0 rfl ((feq hc385).1) ?_
    refine od hm_0 1 253 [qu, qr 1, qr 16, qu, qu, qu, qu, qi r318, qi r335, qu, qu, qu] [.int 0] rfl ?_
    cases h
    exact OEndsQ.iret hm_0 rfl rfl
theorem ok_L_law_194 {scr : List Int32} {k233 : List Int32 → List Int32 → List Int32 → List Int32 → List Int32 → List Int32 → List Int32 → List Int32 → List Int32 → Int32 → Int32 → Int32 → Int32 → Int32 → Int32 → Int32 → Int32 → Int32 → Int32 → Int32 → Int32 → Int32 → Int32 → Int32 → Int32 → Int32 → Int32 → List Int32 → List Int32 → List Int32 → List Int32 → List Int32 → List Int32 → List Int32 → List Int32 → List Int32 → Int32 → Int32 → Int32 → Int32 → Int32 → Int32 → Int32 → Int32 → Int32 → Int32 → Int32 → Int32 → Int32 → Int32 → Int32 → Int32 → Int32 → Int32 → Option (Int32)} (hk233 : ∀ {Q zg X F j W V H Y : List Int32} {C K b t k a f g Z z zh zi zb zc J B T G : Int32} {yp yf xe xf xg yr ys yt yu : List Int32} {yh yi ye yj yk yl ym yn yq yo yg yv yw yx yy yz xa xb za D r U O : Int32} {ze R I zd zf : List Int32} {xn xh xo xp xq : Int32} {xj xi xk xl xm : List Int32} {d0 d3 d4 d5 d6 d7 d8 d9 d10 d11 : Slot} {res : Int32}, k233 Q zg X F j W V H Y C K b t k a f g Z z zh zi zb zc J B T G yp yf xe xf xg yr ys yt yu yh yi ye yj yk yl ym yn yq yo yg yv yw yx yy yz xa xb = some res → OEndsQ own_P 0 233 [d0, qr 1, qr 16, d3, d4, d5, d6, d7, d8, d9, d10, d11] [] (qa scr :: bk0 ze R Q zg X F j I zd zf W V H Y C K b t k a f g Z za D z zh zi r U O zb zc J B T G (bk1 xj xi yp yf xe xf xg xk xl xm yr ys yt yu yh yi ye yj yk yl ym yn yq xn xh yo yg yv xo xp xq yw yx yy yz xa xb [])) (LawQ res 0 0)) : ∀ (n : Nat), ∀ {R Q zg X F j W V H Y : List Int32} {C K b t k a f g Z D z zh zi zb zc J B T G : Int32} {xi yp yf xe xf xg yr ys yt yu : List Int32} {yh yi ye yj yk yl ym yn yq xh yo yg yv yw yx yy yz xa xb v7 za r U O : Int32} {ze I zd zf : List Int32} {xn xo xp xq : Int32} {xj xk xl xm : List Int32} {d0 d3 d4 d5 d6 d8 d9 d10 d11 : Slot} {res : Int32}, f_L_law_194 k233 scr n R Q zg X F j W V H Y C K b t k a f g Z D z zh zi zb zc J B T G xi yp yf xe xf xg yr ys yt yu yh yi ye yj yk yl ym yn yq xh yo yg yv yw yx yy yz xa xb v7 = some res → OEndsQ own_P 0 194 [d0, qr 1, qr 16, d3, d4, d5, d6, qi v7, d8, d9, d10, d11] [] (qa scr :: bk0 ze R Q zg X F j I zd zf W V H Y C K b t k a f g Z za D z zh zi r U O zb zc J B T G (bk1 xj xi yp yf xe xf xg xk xl xm yr ys yt yu yh yi ye yj yk yl ym yn yq xn xh yo yg yv xo xp xq yw yx yy yz xa xb [])) (LawQ res 0 0) := by
  intro n
  induction n with
  | zero => intro R Q zg X F j W V H Y C K b t k a f g Z D z zh zi zb zc J B T G xi yp yf xe xf xg yr ys yt yu yh yi ye yj yk yl ym yn yq xh yo yg yv yw yx yy yz xa xb v7 za r U O ze I zd zf xn xo xp xq xj xk xl xm d0 d3 d4 d5 d6 d8 d9 d10 d11 res h; cases h
  | succ n ih =>
    intro R Q zg X F j W V H Y C K b t k a f g Z D z zh zi zb zc J B T G xi yp yf xe xf xg yr ys yt yu yh yi ye yj yk yl ym yn yq xh yo yg yv yw yx yy yz xa xb v7 za r U O ze I zd zf xn xo xp xq xj xk xl xm d0 d3 d4 d5 d6 d8 d9 d10 d11 res h
    unfold f_L_law_194 at h
    refine OEndsQ.adv hm_0 2 (pc' := 199) (L' := [qu, qr 1, qr 16, qu, qu, qu, qu, qi v7, qu, qu, qu, qu]) (S' := [.int 400, .int v7]) (H' := (qa scr :: bk0 ze R Q zg X F j I zd zf W V H Y C K b t k a f g Z za D z zh zi r U O zb zc J B T G (bk1 xj xi yp yf xe xf xg xk xl xm yr ys yt yu yh yi ye yj yk yl ym yn yq xn xh yo yg yv xo xp xq yw yx yy yz xa xb []))) rfl ?_
    by_cases hc386 : v7 < 400
    · simp only [if_pos hc386] at h
      refine OEndsQ.icmpF hm_0 rfl ((tlt hc386).2.1) ?_
      refine od hm_0 2 205 [qu, qr 1, qr 16, qu, qu, qu, qu, qi v7, qu, qu, qu, qu] [.int v7, .ref 1] rfl ?_
      obtain ⟨r316, hq387, h⟩ := bnd h
      refine OEndsQ.call0 hm_0 rfl rfl (by decide) rfl (as := [.ref 1, .int v7]) (rest := []) rfl rfl (ok_getOutByte_0 hq387) ?_
      refine OEndsQ.adv hm_0 3 (pc' := 213) (L' := [qu, qr 1, qr 16, qu, qu, qu, qu, qi v7, qi r316, qu, qu, qu]) (S' := [.int v7, .ref 16]) (H' := (qa scr :: bk0 ze R Q zg X F j I zd zf W V H Y C K b t k a f g Z za D z zh zi r U O zb zc J B T G (bk1 xj xi yp yf xe xf xg xk xl xm yr ys yt yu yh yi ye yj yk yl ym yn yq xn xh yo yg yv xo xp xq yw yx yy yz xa xb []))) rfl ?_
      obtain ⟨r317, hq388, h⟩ := bnd h
      refine OEndsQ.call0 hm_0 rfl rfl (by decide) rfl (as := [.ref 16, .int v7]) (rest := []) rfl rfl (ok_getOutByte_1 hq388) ?_
      refine OEndsQ.adv hm_0 3 (pc' := 222) (L' := [qu, qr 1, qr 16, qu, qu, qu, qu, qi v7, qi r316, qi r317, qu, qu]) (S' := [.int r317, .int r316]) (H' := (qa scr :: bk0 ze R Q zg X F j I zd zf W V H Y C K b t k a f g Z za D z zh zi r U O zb zc J B T G (bk1 xj xi yp yf xe xf xg xk xl xm yr ys yt yu yh yi ye yj yk yl ym yn yq xn xh yo yg yv xo xp xq yw yx yy yz xa xb []))) rfl ?_
      by_cases hc389 : r316 = r317
      · simp only [if_pos hc389] at h
        refine OEndsQ.icmpT hm_0 rfl (q := 227) rfl ((teq hc389).1) ?_
        refine od hm_0 2 194 [qu, qr 1, qr 16, qu, qu, qu, qu, qi (v7 + 1), qi r316, qi r317, qu, qu] [] rfl ?_
        exact ih h
      · simp only [if_neg hc389] at h
        refine OEndsQ.icmpF hm_0 rfl ((feq hc389).1) ?_
        refine od hm_0 1 226 [qu, qr 1, qr 16, qu, qu, qu, qu, qi v7, qi r316, qi r317, qu, qu] [.int 0] rfl ?_
        cases h
        exact OEndsQ.iret hm_0 rfl rfl
    · simp only [if_neg hc386] at h
      refine OEndsQ.icmpT hm_0 rfl (q := 233) rfl ((flt hc386).2.1) ?_
      show OEndsQ own_P 0 233 [qu, qr 1, qr 16, qu, qu, qu, qu, qi v7, qu, qu, qu, qu] [] (qa scr :: bk0 ze R Q zg X F j I zd zf W V H Y C K b t k a f g Z za D z zh zi r U O zb zc J B T G (bk1 xj xi yp yf xe xf xg xk xl xm yr ys yt yu yh yi ye yj yk yl ym yn yq xn xh yo yg yv xo xp xq yw yx yy yz xa xb [])) _
      exact hk233 h
theorem ok_L_law_153 {scr : List Int32} : ∀ {R Q zg X F j W V H Y : List Int32} {C K b t k a f g Z D z zh zi zb zc J B T G : Int32} {xi yp yf xe xf xg yr ys yt yu : List Int32} {yh yi ye yj yk yl ym yn yq xh yo yg yv yw yx yy yz xa xb za r U O : Int32} {ze I zd zf : List Int32} {xn xo xp xq : Int32} {xj xk xl xm : List Int32} {d0 d3 d4 d5 d6 d7 d8 d9 d10 d11 : Slot} {res : Int32}, f_L_law_153 scr R Q zg X F j W V H Y C K b t k a f g Z D z zh zi zb zc J B T G xi yp yf xe xf xg yr ys yt yu yh yi ye yj yk yl ym yn yq xh yo yg yv yw yx yy yz xa xb = some res → OEndsQ own_P 0 153 [d0, qr 1, qr 16, d3, d4, d5, d6, d7, d8, d9, d10, d11] [] (qa scr :: bk0 ze R Q zg X F j I zd zf W V H Y C K b t k a f g Z za D z zh zi r U O zb zc J B T G (bk1 xj xi yp yf xe xf xg xk xl xm yr ys yt yu yh yi ye yj yk yl ym yn yq xn xh yo yg yv xo xp xq yw yx yy yz xa xb [])) (LawQ res 0 0) := by
  intro R Q zg X F j W V H Y C K b t k a f g Z D z zh zi zb zc J B T G xi yp yf xe xf xg yr ys yt yu yh yi ye yj yk yl ym yn yq xh yo yg yv yw yx yy yz xa xb za r U O ze I zd zf xn xo xp xq xj xk xl xm d0 d3 d4 d5 d6 d7 d8 d9 d10 d11 res h
  unfold f_L_law_153 at h
  refine od hm_0 1 154 [qu, qr 1, qr 16, qu, qu, qu, qu, qu, qu, qu, qu, qu] [.ref 1] rfl ?_
  obtain ⟨r312, hq390, h⟩ := bnd h
  refine OEndsQ.call0 hm_0 rfl rfl (by decide) rfl (as := [.ref 1]) (rest := []) rfl rfl (ok_getOutLength_0 hq390) ?_
  refine OEndsQ.adv hm_0 2 (pc' := 159) (L' := [qu, qr 1, qr 16, qi r312, qu, qu, qu, qu, qu, qu, qu, qu]) (S' := [.ref 16]) (H' := (qa scr :: bk0 ze R Q zg X F j I zd zf W V H Y C K b t k a f g Z za D z zh zi r U O zb zc J B T G (bk1 xj xi yp yf xe xf xg xk xl xm yr ys yt yu yh yi ye yj yk yl ym yn yq xn xh yo yg yv xo xp xq yw yx yy yz xa xb []))) rfl ?_
  obtain ⟨r313, hq391, h⟩ := bnd h
  refine OEndsQ.call0 hm_0 rfl rfl (by decide) rfl (as := [.ref 16]) (rest := []) rfl rfl (ok_getOutLength_1 hq391) ?_
  refine OEndsQ.adv hm_0 2 (pc' := 165) (L' := [qu, qr 1, qr 16, qi r312, qi r313, qu, qu, qu, qu, qu, qu, qu]) (S' := [.ref 1]) (H' := (qa scr :: bk0 ze R Q zg X F j I zd zf W V H Y C K b t k a f g Z za D z zh zi r U O zb zc J B T G (bk1 xj xi yp yf xe xf xg xk xl xm yr ys yt yu yh yi ye yj yk yl ym yn yq xn xh yo yg yv xo xp xq yw yx yy yz xa xb []))) rfl ?_
  obtain ⟨r314, hq392, h⟩ := bnd h
  refine OEndsQ.call0 hm_0 rfl rfl (by decide) rfl (as := [.ref 1]) (rest := []) rfl rfl (ok_getInLength_0 hq392) ?_
  refine OEndsQ.adv hm_0 2 (pc' := 171) (L' := [qu, qr 1, qr 16, qi r312, qi r313, qi r314, qu, qu, qu, qu, qu, qu]) (S' := [.ref 16]) (H' := (qa scr :: bk0 ze R Q zg X F j I zd zf W V H Y C K b t k a f g Z za D z zh zi r U O zb zc J B T G (bk1 xj xi yp yf xe xf xg xk xl xm yr ys yt yu yh yi ye yj yk yl ym yn yq xn xh yo yg yv xo xp xq yw yx yy yz xa xb []))) rfl ?_
  obtain ⟨r315, hq393, h⟩ := bnd h
  refine OEndsQ.call0 hm_0 rfl rfl (by decide) rfl (as := [.ref 16]) (rest := []) rfl rfl (ok_getInLength_1 hq393) ?_
  refine OEndsQ.adv hm_0 3 (pc' := 179) (L' := [qu, qr 1, qr 16, qi r312, qi r313, qi r314, qi r315, qu, qu, qu, qu, qu]) (S' := [.int r313, .int r312]) (H' := (qa scr :: bk0 ze R Q zg X F j I zd zf W V H Y C K b t k a f g Z za D z zh zi r U O zb zc J B T G (bk1 xj xi yp yf xe xf xg xk xl xm yr ys yt yu yh yi ye yj yk yl ym yn yq xn xh yo yg yv xo xp xq yw yx yy yz xa xb []))) rfl ?_
  by_cases hc394 : r312 = r313
  · simp only [if_pos hc394] at h
    refine OEndsQ.icmpF hm_0 rfl ((teq hc394).2) ?_
    refine od hm_0 2 186 [qu, qr 1, qr 16, qi r312, qi r313, qi r314, qi r315, qu, qu, qu, qu, qu] [.int r315, .int r314] rfl ?_
    by_cases hc395 : r314 = r315
    · simp only [if_pos hc395] at h
      refine OEndsQ.icmpT hm_0 rfl (q := 191) rfl ((teq hc395).1) ?_
      refine od hm_0 2 194 [qu, qr 1, qr 16, qi r312, qi r313, qi r314, qi r315, qi 0, qu, qu, qu, qu] [] rfl ?_
      exact ok_L_law_194 (k233 := f_L_law_233 scr) ok_L_law_233 100000 h
    · simp only [if_neg hc395] at h
      refine OEndsQ.icmpF hm_0 rfl ((feq hc395).1) ?_
      refine od hm_0 1 190 [qu, qr 1, qr 16, qi r312, qi r313, qi r314, qi r315, qu, qu, qu, qu, qu] [.int 0] rfl ?_
      cases h
      exact OEndsQ.iret hm_0 rfl rfl
  · simp only [if_neg hc394] at h
    refine OEndsQ.icmpT hm_0 rfl (q := 189) rfl ((feq hc394).2) ?_
    refine od hm_0 1 190 [qu, qr 1, qr 16, qi r312, qi r313, qi r314, qi r315, qu, qu, qu, qu, qu] [.int 0] rfl ?_
    cases h
    exact OEndsQ.iret hm_0 rfl rfl
theorem ok_L_law_118 {scr : List Int32} {k153 : List Int32 → List Int32 → List Int32 → List Int32 → List Int32 → List Int32 → List Int32 → List Int32 → List Int32 → List Int32 → Int32 → Int32 → Int32 → Int32 → Int32 → Int32 → Int32 → Int32 → Int32 → Int32 → Int32 → Int32 → Int32 → Int32 → Int32 → Int32 → Int32 → Int32 → Int32 → List Int32 → List Int32 → List Int32 → List Int32 → List Int32 → List Int32 → List Int32 → List Int32 → List Int32 → List Int32 → Int32 → Int32 → Int32 → Int32 → Int32 → Int32 → Int32 → Int32 → Int32 → Int32 → Int32 → Int32 → Int32 → Int32 → Int32 → Int32 → Int32 → Int32 → Int32 → Option (Int32)} (hk153 : ∀ {R Q zg X F j W V H Y : List Int32} {C K b t k a f g Z D z zh zi zb zc J B T G : Int32} {xi yp yf xe xf xg yr ys yt yu : List Int32} {yh yi ye yj yk yl ym yn yq xh yo yg yv yw yx yy yz xa xb za r U O : Int32} {ze I zd zf : List Int32} {xn xo xp xq : Int32} {xj xk xl xm : List Int32} {d0 d3 d4 d5 d6 d7 d8 d9 d10 d11 : Slot} {res : Int32}, k153 R Q zg X F j W V H Y C K b t k a f g Z D z zh zi zb zc J B T G xi yp yf xe xf xg yr ys yt yu yh yi ye yj yk yl ym yn yq xh yo yg yv yw yx yy yz xa xb = some res → OEndsQ own_P 0 153 [d0, qr 1, qr 16, d3, d4, d5, d6, d7, d8, d9, d10, d11] [] (qa scr :: bk0 ze R Q zg X F j I zd zf W V H Y C K b t k a f g Z za D z zh zi r U O zb zc J B T G (bk1 xj xi yp yf xe xf xg xk xl xm yr ys yt yu yh yi ye yj yk yl ym yn yq xn xh yo yg yv xo xp xq yw yx yy yz xa xb [])) (LawQ res 0 0)) : ∀ (n : Nat), ∀ {ze R Q zg X F j W V H Y : List Int32} {C K b t k a f g Z D z zh zi zb zc J B T G : Int32} {xj xi yp yf xe xf xg yr ys yt yu : List Int32} {yh yi ye yj yk yl ym yn yq xh yo yg yv yw yx yy yz xa xb v3 za r U O : Int32} {I zd zf : List Int32} {xn xo xp xq : Int32} {xk xl xm : List Int32} {d0 d4 d5 d6 d7 d8 d9 d10 d11 : Slot} {res : Int32}, f_L_law_118 k153 scr n ze R Q zg X F j W V H Y C K b t k a f g Z D z zh zi zb zc J B T G xj xi yp yf xe xf xg yr ys yt yu yh yi ye yj yk yl ym yn yq xh yo yg yv yw yx yy yz xa xb v3 = some res → OEndsQ own_P 0 118 [d0, qr 1, qr 16, qi v3, d4, d5, d6, d7, d8, d9, d10, d11] [] (qa scr :: bk0 ze R Q zg X F j I zd zf W V H Y C K b t k a f g Z za D z zh zi r U O zb zc J B T G (bk1 xj xi yp yf xe xf xg xk xl xm yr ys yt yu yh yi ye yj yk yl ym yn yq xn xh yo yg yv xo xp xq yw yx yy yz xa xb [])) (LawQ res 0 0) := by
  intro n
  induction n with
  | zero => intro ze R Q zg X F j W V H Y C K b t k a f g Z D z zh zi zb zc J B T G xj xi yp yf xe xf xg yr ys yt yu yh yi ye yj yk yl ym yn yq xh yo yg yv yw yx yy yz xa xb v3 za r U O I zd zf xn xo xp xq xk xl xm d0 d4 d5 d6 d7 d8 d9 d10 d11 res h; cases h
  | succ n ih =>
    intro ze R Q zg X F j W V H Y C K b t k a f g Z D z zh zi zb zc J B T G xj xi yp yf xe xf xg yr ys yt yu yh yi ye yj yk yl ym yn yq xh yo yg yv yw yx yy yz xa xb v3 za r U O I zd zf xn xo xp xq xk xl xm d0 d4 d5 d6 d7 d8 d9 d10 d11 res h
    unfold f_L_law_118 at h
    refine OEndsQ.adv hm_0 2 (pc' := 121) (L' := [qu, qr 1, qr 16, qi v3, qu, qu, qu, qu, qu, qu, qu, qu]) (S' := [.int 15, .int v3]) (H' := (qa scr :: bk0 ze R Q zg X F j I zd zf W V H Y C K b t k a f g Z za D z zh zi r U O zb zc J B T G (bk1 xj xi yp yf xe xf xg xk xl xm yr ys yt yu yh yi ye yj yk yl ym yn yq xn xh yo yg yv xo xp xq yw yx yy yz xa xb []))) rfl ?_
    by_cases hc396 : v3 < 15
    · simp only [if_pos hc396] at h
      refine OEndsQ.icmpF hm_0 rfl ((tlt hc396).2.1) ?_
      refine od hm_0 2 126 [qu, qr 1, qr 16, qi v3, qu, qu, qu, qu, qu, qu, qu, qu] [.int v3, .ref 1] rfl ?_
      obtain ⟨r310, hq397, h⟩ := bnd h
      refine OEndsQ.call0 hm_0 rfl rfl (by decide) rfl (as := [.ref 1, .int v3]) (rest := []) rfl rfl (ok_getPixel_0 hq397) ?_
      refine OEndsQ.adv hm_0 3 (pc' := 133) (L' := [qu, qr 1, qr 16, qi v3, qi r310, qu, qu, qu, qu, qu, qu, qu]) (S' := [.int v3, .ref 16]) (H' := (qa scr :: bk0 ze R Q zg X F j I zd zf W V H Y C K b t k a f g Z za D z zh zi r U O zb zc J B T G (bk1 xj xi yp yf xe xf xg xk xl xm yr ys yt yu yh yi ye yj yk yl ym yn yq xn xh yo yg yv xo xp xq yw yx yy yz xa xb []))) rfl ?_
      obtain ⟨r311, hq398, h⟩ := bnd h
      refine OEndsQ.call0 hm_0 rfl rfl (by decide) rfl (as := [.ref 16, .int v3]) (rest := []) rfl rfl (ok_getPixel_1 hq398) ?_
      refine OEndsQ.adv hm_0 3 (pc' := 142) (L' := [qu, qr 1, qr 16, qi v3, qi r310, qi r311, qu, qu, qu, qu, qu, qu]) (S' := [.int r311, .int r310]) (H' := (qa scr :: bk0 ze R Q zg X F j I zd zf W V H Y C K b t k a f g Z za D z zh zi r U O zb zc J B T G (bk1 xj xi yp yf xe xf xg xk xl xm yr ys yt yu yh yi ye yj yk yl ym yn yq xn xh yo yg yv xo xp xq yw yx yy yz xa xb []))) rfl ?_
      by_cases hc399 : r310 = r311
      · simp only [if_pos hc399] at h
        refine OEndsQ.icmpT hm_0 rfl (q := 147) rfl ((teq hc399).1) ?_
        refine od hm_0 2 118 [qu, qr 1, qr 16, qi (v3 + 1), qi r310, qi r311, qu, qu, qu, qu, qu, qu] [] rfl ?_
        exact ih h
      · simp only [if_neg hc399] at h
        refine OEndsQ.icmpF hm_0 rfl ((feq hc399).1) ?_
        refine od hm_0 1 146 [qu, qr 1, qr 16, qi v3, qi r310, qi r311, qu, qu, qu, qu, qu, qu] [.int 0] rfl ?_
        cases h
        exact OEndsQ.iret hm_0 rfl rfl
    · simp only [if_neg hc396] at h
      refine OEndsQ.icmpT hm_0 rfl (q := 153) rfl ((flt hc396).2.1) ?_
      show OEndsQ own_P 0 153 [qu, qr 1, qr 16, qi v3, qu, qu, qu, qu, qu, qu, qu, qu] [] (qa scr :: bk0 ze R Q zg X F j I zd zf W V H Y C K b t k a f g Z za D z zh zi r U O zb zc J B T G (bk1 xj xi yp yf xe xf xg xk xl xm yr ys yt yu yh yi ye yj yk yl ym yn yq xn xh yo yg yv xo xp xq yw yx yy yz xa xb [])) _
      exact hk153 h
theorem ok_L_law_34 {scr : List Int32} {k118 : List Int32 → List Int32 → List Int32 → List Int32 → List Int32 → List Int32 → List Int32 → List Int32 → List Int32 → List Int32 → List Int32 → Int32 → Int32 → Int32 → Int32 → Int32 → Int32 → Int32 → Int32 → Int32 → Int32 → Int32 → Int32 → Int32 → Int32 → Int32 → Int32 → Int32 → Int32 → Int32 → List Int32 → List Int32 → List Int32 → List Int32 → List Int32 → List Int32 → List Int32 → List Int32 → List Int32 → List Int32 → List Int32 → Int32 → Int32 → Int32 → Int32 → Int32 → Int32 → Int32 → Int32 → Int32 → Int32 → Int32 → Int32 → Int32 → Int32 → Int32 → Int32 → Int32 → Int32 → Int32 → Int32 → Option (Int32)} (hk118 : ∀ {ze R Q zg X F j W V H Y : List Int32} {C K b t k a f g Z D z zh zi zb zc J B T G : Int32} {xj xi yp yf xe xf xg yr ys yt yu : List Int32} {yh yi ye yj yk yl ym yn yq xh yo yg yv yw yx yy yz xa xb v3 za r U O : Int32} {I zd zf : List Int32} {xn xo xp xq : Int32} {xk xl xm : List Int32} {d0 d4 d5 d6 d7 d8 d9 d10 d11 : Slot} {res : Int32}, k118 ze R Q zg X F j W V H Y C K b t k a f g Z D z zh zi zb zc J B T G xj xi yp yf xe xf xg yr ys yt yu yh yi ye yj yk yl ym yn yq xh yo yg yv yw yx yy yz xa xb v3 = some res → OEndsQ own_P 0 118 [d0, qr 1, qr 16, qi v3, d4, d5, d6, d7, d8, d9, d10, d11] [] (qa scr :: bk0 ze R Q zg X F j I zd zf W V H Y C K b t k a f g Z za D z zh zi r U O zb zc J B T G (bk1 xj xi yp yf xe xf xg xk xl xm yr ys yt yu yh yi ye yj yk yl ym yn yq xn xh yo yg yv xo xp xq yw yx yy yz xa xb [])) (LawQ res 0 0)) : ∀ (n : Nat), ∀ {ze R Q zg X F j I zd zf W V H Y : List Int32} {C K b t k a f g Z za D z zh zi r U O zb zc J B T G : Int32} {xj xi yp yf xe xf xg xk xl xm yr ys yt yu : List Int32} {yh yi ye yj yk yl ym yn yq xn xh yo yg yv xo xp xq yw yx yy yz xa xb v3 : Int32} {d4 d5 d6 d7 d8 d9 d10 d11 : Slot} {res : Int32}, f_L_law_34 k118 scr n ze R Q zg X F j I zd zf W V H Y C K b t k a f g Z za D z zh zi r U O zb zc J B T G xj xi yp yf xe xf xg xk xl xm yr ys yt yu yh yi ye yj yk yl ym yn yq xn xh yo yg yv xo xp xq yw yx yy yz xa xb v3 = some res → OEndsQ own_P 0 34 [qr 0, qr 1, qr 16, qi v3, d4, d5, d6, d7, d8, d9, d10, d11] [] (qa scr :: bk0 ze R Q zg X F j I zd zf W V H Y C K b t k a f g Z za D z zh zi r U O zb zc J B T G (bk1 xj xi yp yf xe xf xg xk xl xm yr ys yt yu yh yi ye yj yk yl ym yn yq xn xh yo yg yv xo xp xq yw yx yy yz xa xb [])) (LawQ res 0 0) := by
  intro n
  induction n with
  | zero => intro ze R Q zg X F j I zd zf W V H Y C K b t k a f g Z za D z zh zi r U O zb zc J B T G xj xi yp yf xe xf xg xk xl xm yr ys yt yu yh yi ye yj yk yl ym yn yq xn xh yo yg yv xo xp xq yw yx yy yz xa xb v3 d4 d5 d6 d7 d8 d9 d10 d11 res h; cases h
  | succ n ih =>
    intro ze R Q zg X F j I zd zf W V H Y C K b t k a f g Z za D z zh zi r U O zb zc J B T G xj xi yp yf xe xf xg xk xl xm yr ys yt yu yh yi ye yj yk yl ym yn yq xn xh yo yg yv xo xp xq yw yx yy yz xa xb v3 d4 d5 d6 d7 d8 d9 d10 d11 res h
    unfold f_L_law_34 at h
    refine OEndsQ.adv hm_0 5 (pc' := 39) (L' := [qr 0, qr 1, qr 16, qi v3, qu, qu, qu, qu, qu, qu, qu, qu]) (S' := [.int scr.length.toInt32, .int (v3 + 4)]) (H' := (qa scr :: bk0 ze R Q zg X F j I zd zf W V H Y C K b t k a f g Z za D z zh zi r U O zb zc J B T G (bk1 xj xi yp yf xe xf xg xk xl xm yr ys yt yu yh yi ye yj yk yl ym yn yq xn xh yo yg yv xo xp xq yw yx yy yz xa xb []))) rfl ?_
    by_cases hc400 : scr.length.toInt32 < (v3 + 4)
    · simp only [if_pos hc400] at h
      refine OEndsQ.icmpT hm_0 rfl (q := 116) rfl ((tlt hc400).2.2.1) ?_
      refine od hm_0 2 118 [qr 0, qr 1, qr 16, qi 0, qu, qu, qu, qu, qu, qu, qu, qu] [] rfl ?_
      exact hk118 h
    · simp only [if_neg hc400] at h
      refine OEndsQ.icmpF hm_0 rfl ((flt hc400).2.2.1) ?_
      refine od hm_0 2 44 [qr 0, qr 1, qr 16, qi v3, qu, qu, qu, qu, qu, qu, qu, qu] [.int v3, .ref 0] rfl ?_
      obtain ⟨x257, hx257, h⟩ := bnd h
      refine OEndsQ.plain hm_0 rfl rfl (x_iaload rfl hx257) ?_
      refine OEndsQ.adv hm_0 7 (pc' := 54) (L' := [qr 0, qr 1, qr 16, qi v3, qi (x257 &&& 15), qu, qu, qu, qu, qu, qu, qu]) (S' := [.int (v3 + 1), .ref 0]) (H' := (qa scr :: bk0 ze R Q zg X F j I zd zf W V H Y C K b t k a f g Z za D z zh zi r U O zb zc J B T G (bk1 xj xi yp yf xe xf xg xk xl xm yr ys yt yu yh yi ye yj yk yl ym yn yq xn xh yo yg yv xo xp xq yw yx yy yz xa xb []))) rfl ?_
      obtain ⟨x258, hx258, h⟩ := bnd h
      refine OEndsQ.plain hm_0 rfl rfl (x_iaload rfl hx258) ?_
      refine OEndsQ.adv hm_0 5 (pc' := 61) (L' := [qr 0, qr 1, qr 16, qi v3, qi (x257 &&& 15), qi x258, qu, qu, qu, qu, qu, qu]) (S' := [.int (v3 + 2), .ref 0]) (H' := (qa scr :: bk0 ze R Q zg X F j I zd zf W V H Y C K b t k a f g Z za D z zh zi r U O zb zc J B T G (bk1 xj xi yp yf xe xf xg xk xl xm yr ys yt yu yh yi ye yj yk yl ym yn yq xn xh yo yg yv xo xp xq yw yx yy yz xa xb []))) rfl ?_
      obtain ⟨x259, hx259, h⟩ := bnd h
      refine OEndsQ.plain hm_0 rfl rfl (x_iaload rfl hx259) ?_
      refine OEndsQ.adv hm_0 5 (pc' := 68) (L' := [qr 0, qr 1, qr 16, qi v3, qi (x257 &&& 15), qi x258, qi x259, qu, qu, qu, qu, qu]) (S' := [.int (v3 + 3), .ref 0]) (H' := (qa scr :: bk0 ze R Q zg X F j I zd zf W V H Y C K b t k a f g Z za D z zh zi r U O zb zc J B T G (bk1 xj xi yp yf xe xf xg xk xl xm yr ys yt yu yh yi ye yj yk yl ym yn yq xn xh yo yg yv xo xp xq yw yx yy yz xa xb []))) rfl ?_
      obtain ⟨x260, hx260, h⟩ := bnd h
      refine OEndsQ.plain hm_0 rfl rfl (x_iaload rfl hx260) ?_
      refine OEndsQ.adv hm_0 3 (pc' := 75) (L' := [qr 0, qr 1, qr 16, qi v3, qi (x257 &&& 15), qi x258, qi x259, qi x260, qu, qu, qu, qu]) (S' := [.int 9, .int (x257 &&& 15)]) (H' := (qa scr :: bk0 ze R Q zg X F j I zd zf W V H Y C K b t k a f g Z za D z zh zi r U O zb zc J B T G (bk1 xj xi yp yf xe xf xg xk xl xm yr ys yt yu yh yi ye yj yk yl ym yn yq xn xh yo yg yv xo xp xq yw yx yy yz xa xb []))) rfl ?_
      by_cases hc401 : (x257 &&& 15) = 9
      · simp only [if_pos hc401] at h
        refine OEndsQ.icmpF hm_0 rfl ((teq hc401).2) ?_
        refine od hm_0 1 79 [qr 0, qr 1, qr 16, qi v3, qi (x257 &&& 15), qi x258, qi x259, qi x260, qu, qu, qu, qu] [.ref 1] rfl ?_
        obtain ⟨⟨r293, s294, s295, s296, s297, s298, s299, s300, s301, s302, s303, s304, s305, s306, s307, s308, s309⟩, hq402, h⟩ := bnd h
        refine OEndsQ.call0 hm_0 rfl rfl (by decide) rfl (as := [.ref 1]) (rest := []) rfl rfl (ok_decode_0 hq402) ?_
        refine OEndsQ.adv hm_0 4 (pc' := 34) (L' := [qr 0, qr 1, qr 16, qi (v3 + 4), qi (x257 &&& 15), qi x258, qi x259, qi x260, qu, qu, qu, qu]) (S' := []) (H' := (qa scr :: bk0 ze R Q s294 s295 s296 s297 I zd zf s298 s299 s300 s301 C K b t k a f g Z za D z s302 s303 r U O s304 s305 s306 s307 s308 s309 (bk1 xj xi yp yf xe xf xg xk xl xm yr ys yt yu yh yi ye yj yk yl ym yn yq xn xh yo yg yv xo xp xq yw yx yy yz xa xb []))) rfl ?_
        exact ih h
      · simp only [if_neg hc401] at h
        refine OEndsQ.icmpT hm_0 rfl (q := 86) rfl ((feq hc401).2) ?_
        refine od hm_0 5 95 [qr 0, qr 1, qr 16, qi v3, qi (x257 &&& 15), qi x258, qi x259, qi x260, qu, qu, qu, qu] [.int x260, .int x259, .int x258, .int (x257 &&& 15), .ref 1] rfl ?_
        obtain ⟨⟨s261, s262, s263, s264, s265, s266, s267, s268, s269, s270, s271, s272, s273, s274, s275, s276⟩, hq403, h⟩ := bnd h
        refine OEndsQ.call0 hm_0 rfl rfl (by decide) rfl (as := [.ref 1, .int (x257 &&& 15), .int x258, .int x259, .int x260]) (rest := []) rfl rfl (ok_L_step_0 hq403) ?_
        refine OEndsQ.adv hm_0 5 (pc' := 107) (L' := [qr 0, qr 1, qr 16, qi v3, qi (x257 &&& 15), qi x258, qi x259, qi x260, qu, qu, qu, qu]) (S' := [.int x260, .int x259, .int x258, .int (x257 &&& 15), .ref 16]) (H' := (qa scr :: bk0 s261 s262 s263 zg s264 s265 s266 s267 s268 s269 W V H Y C K b t k a f g s270 s271 s272 s273 zh zi s274 s275 s276 zb zc J B T G (bk1 xj xi yp yf xe xf xg xk xl xm yr ys yt yu yh yi ye yj yk yl ym yn yq xn xh yo yg yv xo xp xq yw yx yy yz xa xb []))) rfl ?_
        obtain ⟨⟨s277, s278, s279, s280, s281, s282, s283, s284, s285, s286, s287, s288, s289, s290, s291, s292⟩, hq404, h⟩ := bnd h
        refine OEndsQ.call0 hm_0 rfl rfl (by decide) rfl (as := [.ref 16, .int (x257 &&& 15), .int x258, .int x259, .int x260]) (rest := []) rfl rfl (ok_L_step_1 hq404) ?_
        refine OEndsQ.adv hm_0 2 (pc' := 34) (L' := [qr 0, qr 1, qr 16, qi (v3 + 4), qi (x257 &&& 15), qi x258, qi x259, qi x260, qu, qu, qu, qu]) (S' := []) (H' := (qa scr :: bk0 s261 s262 s263 zg s264 s265 s266 s267 s268 s269 W V H Y C K b t k a f g s270 s271 s272 s273 zh zi s274 s275 s276 zb zc J B T G (bk1 s277 s278 s279 yf s280 s281 s282 s283 s284 s285 yr ys yt yu yh yi ye yj yk yl ym yn s286 s287 s288 s289 yg yv s290 s291 s292 yw yx yy yz xa xb []))) rfl ?_
        exact ih h
theorem ok_L_law {scr : List Int32} {res : Int32} (h : f_L_law scr = some res) : OEndsQ own_P 0 0 [qr 0, qu, qu, qu, qu, qu, qu, qu, qu, qu, qu, qu] [] (qa scr :: []) (LawQ res 30 11658) := by
  unfold f_L_law at h
  refine od hm_0 1 1 [qr 0, qu, qu, qu, qu, qu, qu, qu, qu, qu, qu, qu] [.ref 0] rfl ?_
  refine OEndsQ.nonnull hm_0 rfl (q := 6) rfl ?_
  show OEndsQ own_P 0 6 [qr 0, qu, qu, qu, qu, qu, qu, qu, qu, qu, qu, qu] [] (qa scr :: []) _
  refine OEndsQ.made hm_0 rfl rfl (ks := 37) (c0 := 29) (s0 := 11621) rfl (Nat.le_of_ble_eq_true rfl) (Nat.le_of_ble_eq_true rfl) ?_
  refine OEndsQ.adv hm_0 5 (pc' := 15) (L' := [qr 0, qu, qu, qu, qu, qu, qu, qu, qu, qu, qu, qu]) (S' := [.int 4, .int 9, .int 5, .int 3, .ref 1, .ref 1]) (H' := (qa scr :: (.inl (0, [.null, .null, .null, .null, .null, .null, .null, .null, .null, .null, .null, .null, .null, .null, .int 0, .int 0, .int 0, .int 0, .int 0, .int 0, .int 0, .int 0, .int 0, .int 0, .int 0, .int 0, .int 0, .int 0, .int 0, .int 0, .int 0, .int 0, .int 0, .int 0, .int 0, .int 0, .int 0]) : ACell) :: [])) rfl ?_
  obtain ⟨⟨s183, s184, s185, s186, s187, s188, s189, s190, s191, s192, s193, s194, s195, s196, s197, s198, s199, s200, s201, s202, s203, s204, s205, s206, s207, s208, s209, s210, s211, s212, s213, s214, s215, s216, s217, s218, s219⟩, hq405, h⟩ := bnd h
  refine OEndsQ.callN hm_0 rfl rfl (by decide) rfl (as := [.ref 1, .int 3, .int 5, .int 9, .int 4]) (rest := [.ref 1]) rfl rfl (c0 := 15) (s0 := 5829) (ok_init_0 hq405) (Nat.le_of_ble_eq_true rfl) (Nat.le_of_ble_eq_true rfl) ?_
  refine OEndsQ.adv hm_0 1 (pc' := 19) (L' := [qr 0, qr 1, qu, qu, qu, qu, qu, qu, qu, qu, qu, qu]) (S' := []) (H' := (qa scr :: bk0 s183 s184 s185 s186 s187 s188 s189 s190 s191 s192 s193 s194 s195 s196 s197 s198 s199 s200 s201 s202 s203 s204 s205 s206 s207 s208 s209 s210 s211 s212 s213 s214 s215 s216 s217 s218 s219 [])) rfl ?_
  refine OEndsQ.made hm_0 rfl rfl (ks := 37) (c0 := 14) (s0 := 5792) rfl (Nat.le_of_ble_eq_true rfl) (Nat.le_of_ble_eq_true rfl) ?_
  refine OEndsQ.adv hm_0 5 (pc' := 28) (L' := [qr 0, qr 1, qu, qu, qu, qu, qu, qu, qu, qu, qu, qu]) (S' := [.int 4, .int 9, .int 5, .int 3, .ref 16, .ref 16]) (H' := (qa scr :: bk0 s183 s184 s185 s186 s187 s188 s189 s190 s191 s192 s193 s194 s195 s196 s197 s198 s199 s200 s201 s202 s203 s204 s205 s206 s207 s208 s209 s210 s211 s212 s213 s214 s215 s216 s217 s218 s219 ((.inl (0, [.null, .null, .null, .null, .null, .null, .null, .null, .null, .null, .null, .null, .null, .null, .int 0, .int 0, .int 0, .int 0, .int 0, .int 0, .int 0, .int 0, .int 0, .int 0, .int 0, .int 0, .int 0, .int 0, .int 0, .int 0, .int 0, .int 0, .int 0, .int 0, .int 0, .int 0, .int 0]) : ACell) :: []))) rfl ?_
  obtain ⟨⟨s220, s221, s222, s223, s224, s225, s226, s227, s228, s229, s230, s231, s232, s233, s234, s235, s236, s237, s238, s239, s240, s241, s242, s243, s244, s245, s246, s247, s248, s249, s250, s251, s252, s253, s254, s255, s256⟩, hq406, h⟩ := bnd h
  refine OEndsQ.callN hm_0 rfl rfl (by decide) rfl (as := [.ref 16, .int 3, .int 5, .int 9, .int 4]) (rest := [.ref 16]) rfl rfl (c0 := 0) (s0 := 0) (ok_init_1 hq406) (Nat.le_of_ble_eq_true rfl) (Nat.le_of_ble_eq_true rfl) ?_
  refine OEndsQ.adv hm_0 3 (pc' := 34) (L' := [qr 0, qr 1, qr 16, qi 0, qu, qu, qu, qu, qu, qu, qu, qu]) (S' := []) (H' := (qa scr :: bk0 s183 s184 s185 s186 s187 s188 s189 s190 s191 s192 s193 s194 s195 s196 s197 s198 s199 s200 s201 s202 s203 s204 s205 s206 s207 s208 s209 s210 s211 s212 s213 s214 s215 s216 s217 s218 s219 (bk1 s220 s221 s222 s223 s224 s225 s226 s227 s228 s229 s230 s231 s232 s233 s234 s235 s236 s237 s238 s239 s240 s241 s242 s243 s244 s245 s246 s247 s248 s249 s250 s251 s252 s253 s254 s255 s256 []))) rfl ?_
  exact ok_L_law_34 (k118 := f_L_law_118 (f_L_law_153 scr) scr 100000) (ok_L_law_118 (k153 := f_L_law_153 scr) ok_L_law_153 100000) 100000 h
end Ok
theorem own_iL {α : Type} {Q : α → Prop} {a b : Int32} {x y : Option α} (h1 : a.toInt < b.toInt → Tot x Q) (h2 : b.toInt ≤ a.toInt → Tot y Q) : Tot (if a < b then x else y) Q :=
  Tot.ite (fun c => h1 (ilt.mp c)) (fun c => h2 (by rw [ilt] at c; omega))
theorem own_iE {α : Type} {Q : α → Prop} {a b : Int32} {x y : Option α} (h1 : a = b → Tot x Q) (h2 : ¬ a = b → Tot y Q) : Tot (if a = b then x else y) Q :=
  Tot.ite h1 h2
theorem own_bs {α β : Type} {a : α} {f : α → Option β} {Q : β → Prop} (h : Tot (f a) Q) : Tot ((some a).bind f) Q := h
theorem own_p1 {a : Int32} (h : a.toInt < 2147483647) : (a + 1).toInt = a.toInt + 1 := by
  have := Int32.le_toInt a
  ((try simp only [ilt, ile, ieq, iadd_e, isub_e, imul_e, Int32.reduceToInt] at *) <;> omega)
theorem own_m1 {a : Int32} (h : -2147483648 < a.toInt) : (a - 1).toInt = a.toInt - 1 := by
  have := Int32.toInt_lt a
  ((try simp only [ilt, ile, ieq, iadd_e, isub_e, imul_e, Int32.reduceToInt] at *) <;> omega)
def own_R (m : Int) (L : List Int32) : Prop := ∀ x ∈ L, 0 ≤ x.toInt ∧ x.toInt < m
theorem own_Rg {m : Int} {L : List Int32} (h : own_R m L) {j : Int32} (h0 : 0 ≤ j.toInt) (h1 : j.toInt < L.length) : 0 ≤ (gI L j).toInt ∧ (gI L j).toInt < m := by
  have h2 : j.toInt.toNat < L.length := by omega
  unfold gI
  rw [rdA_in h0 h2]
  exact h _ (List.getElem_mem h2)
theorem own_Rs {m : Int} {L : List Int32} (h : own_R m L) {j : Nat} {x : Int32} (x0 : 0 ≤ x.toInt) (x1 : x.toInt < m) : own_R m (L.set j x) := by
  intro y hy
  rcases List.mem_or_eq_of_mem_set hy with h' | h'
  · exact h y h'
  · rw [h']; exact ⟨x0, x1⟩
theorem own_rdR {β : Type} {m : Int} {L : List Int32} {j : Int32} {f : Int32 → Option β} {Q : β → Prop} (hR : own_R m L) (h0 : 0 ≤ j.toInt) (h1 : j.toInt < L.length) (g : ∀ a : Int32, 0 ≤ a.toInt → a.toInt < m → Tot (f a) Q) : Tot ((rdA L j).bind f) Q := by
  rw [rdg h0 h1]
  exact g _ (own_Rg hR h0 h1).1 (own_Rg hR h0 h1).2
theorem own_wrR {β : Type} {m : Int} {L : List Int32} {j x : Int32} {f : List Int32 → Option β} {Q : β → Prop} (hR : own_R m L) (h0 : 0 ≤ j.toInt) (h1 : j.toInt < L.length) (x0 : 0 ≤ x.toInt) (x1 : x.toInt < m) (g : ∀ L' : List Int32, own_R m L' → L'.length = L.length → Tot (f L') Q) : Tot ((wrA L j x).bind f) Q :=
  Tot.wr h0 h1 (fun L' e l => g L' (by rw [e]; exact own_Rs hR x0 x1) l)
theorem own_Rrep {m : Int} (n : Nat) (h : 0 < m) : own_R m (List.replicate n 0) := by
  intro x hx
  rw [List.eq_of_mem_replicate hx]
  exact ⟨by decide, h⟩
theorem own_ret2 : ∀ (n : Nat) (FC : List Int32) (v1 v2 : Int32), FC.length = 512 → 0 ≤ v2.toInt → v2.toInt ≤ 512 → 513 - v2.toInt ≤ n → Tot (f_resetEncoderTable_2 n FC v1 v2) (fun p => p.length = 512) := by
  intro n
  have e : (512 : Int32).toInt = 512 := rfl
  induction n with
  | zero => intro FC v1 v2 l a b c; omega
  | succ n ih =>
    intro FC v1 v2 l a b c
    have p := own_p1 (a := v2) (by omega)
    unfold f_resetEncoderTable_2
    (repeat' (first | with_reducible refine own_iL (fun _ => ?_) (fun _ => ?_) | with_reducible refine own_iE (fun _ => ?_) (fun _ => ?_) | with_reducible refine own_rdR (by assumption) (by omega) (by omega) (fun _ _ _ => ?_) | with_reducible refine Tot.rd (by omega) (by omega) (fun _ _ => ?_) | with_reducible refine own_wrR (by assumption) (by omega) (by omega) (by omega) (by omega) (fun _ _ _ => ?_) | with_reducible refine Tot.wr (by omega) (by omega) (fun _ _ _ => ?_) | with_reducible refine own_bs ?_))
    all_goals first | exact Tot.mk l | exact ih _ _ _ (by omega) (by omega) (by omega) (by omega)
theorem own_ret {FC : List Int32} (l : FC.length = 512) (v : Int32) : Tot (f_resetEncoderTable FC v) (fun p => p.length = 512) :=
  own_ret2 100000 FC v 0 l (by decide) (by decide) (by decide)
theorem own_fc {FC NS CP : List Int32} (l1 : FC.length = 512) (l2 : NS.length = 512) (l3 : CP.length = 512) (v1 v2 : Int32) : Tot (f_findChild FC NS CP v1 v2) (fun _ => True) := by
  have e0 : (0 : Int32).toInt = 0 := rfl
  have e : (512 : Int32).toInt = 512 := rfl
  have key : ∀ (n : Nat) (v3 v4 : Int32), 0 ≤ v4.toInt → v4.toInt ≤ 512 → 513 - v4.toInt ≤ n → Tot (f_findChild_23 FC NS CP n v2 v3 v4) (fun _ => True) := by
    intro n
    induction n with
    | zero => intro v3 v4 a b c; omega
    | succ n ih =>
      intro v3 v4 a b c
      have p := own_p1 (a := v4) (by omega)
      unfold f_findChild_23
      (repeat' (first | with_reducible refine own_iL (fun _ => ?_) (fun _ => ?_) | with_reducible refine own_iE (fun _ => ?_) (fun _ => ?_) | with_reducible refine own_rdR (by assumption) (by omega) (by omega) (fun _ _ _ => ?_) | with_reducible refine Tot.rd (by omega) (by omega) (fun _ _ => ?_) | with_reducible refine own_wrR (by assumption) (by omega) (by omega) (by omega) (by omega) (fun _ _ _ => ?_) | with_reducible refine Tot.wr (by omega) (by omega) (fun _ _ _ => ?_) | with_reducible refine own_bs ?_))
      all_goals first | exact Tot.mk trivial | exact ih _ _ (by omega) (by omega) (by omega)
  unfold f_findChild
  (repeat' (first | with_reducible refine own_iL (fun _ => ?_) (fun _ => ?_) | with_reducible refine own_iE (fun _ => ?_) (fun _ => ?_) | with_reducible refine own_rdR (by assumption) (by omega) (by omega) (fun _ _ _ => ?_) | with_reducible refine Tot.rd (by omega) (by omega) (fun _ _ => ?_) | with_reducible refine own_wrR (by assumption) (by omega) (by omega) (by omega) (by omega) (fun _ _ _ => ?_) | with_reducible refine Tot.wr (by omega) (by omega) (fun _ _ _ => ?_) | with_reducible refine own_bs ?_))
  · exact Tot.mk trivial
  · exact key 100000 _ 0 (by omega) (by omega) (by omega)
  · exact Tot.mk trivial
theorem own_of {x : Int32} (h : 0 ≤ x.toInt) : x = Int32.ofNat x.toInt.toNat := by
  have := Int32.toInt_lt x
  rw [ieq, Int32.toInt_ofNat_of_lt (by omega)]
  omega
theorem own_wo {OUT : List Int32} {OL : Int32} (l : OUT.length = 400) (h0 : 0 ≤ OL.toInt) (h1 : OL.toInt < 400) (v : Int32) : f_writeOut OUT OL v = some (OUT.set OL.toInt.toNat (v &&& 255), OL + 1) := by
  have e0 : (0 : Int32).toInt = 0 := rfl
  have e : (400 : Int32).toInt = 400 := rfl
  unfold f_writeOut
  rw [if_neg (by rw [ilt]; omega), if_pos (by rw [ilt]; omega), wrA_in h0 (by omega), Option.bind_some]
theorem own_r255 (v : Int32) : 0 ≤ (v &&& 255).toInt ∧ (v &&& 255).toInt < 256 := by
  have := iand_rng v 255 (by decide)
  have e : (255 : Int32).toInt = 255 := rfl
  omega
theorem own_ld {OUT IN : List Int32} {OL : Int32} (IL : Int32) (lO : OUT.length = 400) (rO : own_R 256 OUT) (lI : IN.length = 512) (rI : own_R 256 IN) (h0 : 0 ≤ OL.toInt) (h1 : OL.toInt ≤ 400) :
    Tot (f_loadInFromOut OUT OL IN IL) (fun (r, IN, IL) => r = OL ∧ IL = OL ∧ IN.length = 512 ∧ own_R 256 IN) := by
  have e0 : (0 : Int32).toInt = 0 := rfl
  have e512 : (512 : Int32).toInt = 512 := rfl
  have key : ∀ (n : Nat) (IN : List Int32) (v : Int32), IN.length = 512 → own_R 256 IN → 0 ≤ v.toInt → v.toInt ≤ OL.toInt → OL.toInt - v.toInt < n → Tot (f_loadInFromOut_4 (f_loadInFromOut_40 OUT OL) OUT OL n IN IL v v) (fun (r, IN, IL) => r = OL ∧ IL = OL ∧ IN.length = 512 ∧ own_R 256 IN) := by
    intro n
    induction n with
    | zero => intro IN v a1 a2 a3 a4 a5; omega
    | succ n ih =>
      intro IN v a1 a2 a3 a4 a5
      have p := own_p1 (a := v) (by omega)
      unfold f_loadInFromOut_4
      refine own_iL (fun c => own_iL (fun c1 => ?_) (fun c1 => absurd c1 (by omega))) (fun c => ?_)
      · refine own_rdR rO (by omega) (by omega) fun x x0 x1 => ?_
        refine own_wrR a2 (by omega) (by omega) x0 x1 fun S' h1 h2 => ?_
        exact ih _ _ (by omega) h1 (by omega) (by omega) (by omega)
      · have hv : v = OL := by rw [ieq]; omega
        exact Tot.mk ⟨hv, hv, a1, a2⟩
  exact key 100000 IN 0 lI rI (by omega) (by omega) (by omega)
def own_B {α β : Type} (o : Option α) (o' : Option β) (R : α → β → Prop) : Prop := ∃ r r', o = some r ∧ o' = some r' ∧ R r r'
theorem own_B.bd {α β γ δ : Type} {o : Option α} {o' : Option β} {R : α → β → Prop} {f : α → Option γ} {f' : β → Option δ} {S : γ → δ → Prop} (h : own_B o o' R) (g : ∀ r r', R r r' → own_B (f r) (f' r') S) : own_B (o.bind f) (o'.bind f') S := by
  obtain ⟨r, r', e, e', hr⟩ := h
  rw [e, e']
  exact g r r' hr
theorem own_B.so {α β : Type} {a : α} {b : β} {R : α → β → Prop} (h : R a b) : own_B (some a) (some b) R := ⟨a, b, rfl, rfl, h⟩
theorem own_B.it {α β : Type} {p : Prop} [Decidable p] {a b : Option α} {a' b' : Option β} {R : α → β → Prop} (h1 : p → own_B a a' R) (h2 : ¬ p → own_B b b' R) : own_B (if p then a else b) (if p then a' else b') R := by
  by_cases q : p
  · rw [if_pos q, if_pos q]; exact h1 q
  · rw [if_neg q, if_neg q]; exact h2 q
theorem own_B.il {α β : Type} {x y : Int32} {a b : Option α} {a' b' : Option β} {R : α → β → Prop} (h1 : x.toInt < y.toInt → own_B a a' R) (h2 : y.toInt ≤ x.toInt → own_B b b' R) : own_B (if x < y then a else b) (if x < y then a' else b') R :=
  own_B.it (fun c => h1 (ilt.mp c)) (fun c => h2 (by rw [ilt] at c; omega))
theorem own_B.mn {α β : Type} {o : Option α} {o' : Option β} {R S : α → β → Prop} (h : own_B o o' R) (g : ∀ r r', R r r' → S r r') : own_B o o' S := by
  obtain ⟨r, r', e, e', hr⟩ := h
  exact ⟨r, r', e, e', g r r' hr⟩
theorem own_B.tt {α : Type} {o : Option α} {P : α → Prop} (h : Tot o P) : own_B o o (fun r r' => r = r' ∧ P r) := by
  obtain ⟨r, e, p⟩ := h
  exact ⟨r, r, e, e, rfl, p⟩
theorem own_B.rd {β γ : Type} {A A' : List Int32} {k : Int32} {f : Int32 → Option β} {f' : Int32 → Option γ} {S : β → γ → Prop} (k0 : 0 ≤ k.toInt) (l : k.toInt < A.length) (l' : k.toInt < A'.length) (e : gI A k = gI A' k) (g : own_B (f (gI A k)) (f' (gI A k)) S) : own_B ((rdA A k).bind f) ((rdA A' k).bind f') S := by
  rw [rdg k0 l, rdg k0 l', ← e]
  exact g
theorem own_B.wr {β γ : Type} {A A' : List Int32} {k x : Int32} {f : List Int32 → Option β} {f' : List Int32 → Option γ} {S : β → γ → Prop} (k0 : 0 ≤ k.toInt) (l : k.toInt < A.length) (l' : k.toInt < A'.length) (g : own_B (f (A.set k.toInt.toNat x)) (f' (A'.set k.toInt.toNat x)) S) : own_B ((wrA A k x).bind f) ((wrA A' k x).bind f') S := by
  rw [wrA_in k0 (by omega), wrA_in k0 (by omega)]
  exact g
def own_ag (n : Int) (A A' : List Int32) : Prop := ∀ k : Int32, 0 ≤ k.toInt → k.toInt < n → gI A k = gI A' k
theorem own_ag.mn {m n : Int} {A A' : List Int32} (h : own_ag n A A') (l : m ≤ n) : own_ag m A A' := fun k a b => h k a (by omega)
theorem own_ag.z {n : Int} (A A' : List Int32) (l : n ≤ 0) : own_ag n A A' := fun k a b => by omega
theorem own_ag.st {m n : Int} {A A' : List Int32} (h : own_ag n A A') {k : Int32} (x : Int32) (k0 : 0 ≤ k.toInt) (l : k.toInt < A.length) (l' : k.toInt < A'.length) (hm : m ≤ n ∨ (n = k.toInt ∧ m = n + 1)) : own_ag m (A.set k.toInt.toNat x) (A'.set k.toInt.toNat x) := by
  intro j a b
  rw [gset k0 l a, gset k0 l' a]
  by_cases q : k = j
  · rw [if_pos q, if_pos q]
  · rw [if_neg q, if_neg q]
    refine h j a ?_
    rw [ieq] at q
    omega
def own_rl (b : Bool) : List Int32 := if b then [0, 1, 2, 3, 4] else [0, 4, 2, 1, 3]
def own_rw (b : Bool) (RO : List Int32) : Prop := RO.length = 16 ∧ own_ag 5 RO (own_rl b)
theorem own_ar1 {n : Nat} {RO : List Int32} {v3 v4 v5 : Int32} (l : RO.length = 16) (h5 : v5 < 5) (h4 : 0 ≤ v4.toInt) (h4' : v4.toInt < 16) : f_addRows_6 5 (n + 1) RO v3 v4 v5 = f_addRows_6 5 n (RO.set v4.toInt.toNat v5) v3 (v4 + 1) (v5 + v3) := by
  have e0 : (0 : Int32).toInt = 0 := rfl
  have e16 : (16 : Int32).toInt = 16 := rfl
  conv => lhs; unfold f_addRows_6
  rw [if_pos h5, if_neg (by rw [ilt]; omega), if_pos (by rw [ilt]; omega), wrA_in h4 (by omega), Option.bind_some]
  rfl
theorem own_ar0 {n : Nat} {RO : List Int32} {v3 v4 v5 : Int32} (h5 : ¬ v5 < 5) : f_addRows_6 5 (n + 1) RO v3 v4 v5 = some (v4, RO) := by
  unfold f_addRows_6
  rw [if_neg h5]
theorem own_br1 {n : Nat} {I : Int32} {RO : List Int32} {v : Int32} (l : RO.length = 16) (h5 : v < 5) (h4 : 0 ≤ v.toInt) (h4' : v.toInt < 16) : f_buildRowOrder_9 5 I (n + 1) RO v = f_buildRowOrder_9 5 I n (RO.set v.toInt.toNat v) (v + 1) := by
  have e16 : (16 : Int32).toInt = 16 := rfl
  conv => lhs; unfold f_buildRowOrder_9
  rw [if_pos h5, if_pos (by rw [ilt]; omega), wrA_in h4 (by omega), Option.bind_some]
theorem own_br0 {n : Nat} {I : Int32} {RO : List Int32} {v : Int32} (h5 : ¬ v < 5) : f_buildRowOrder_9 5 I (n + 1) RO v = some RO := by
  unfold f_buildRowOrder_9
  rw [if_neg h5]
theorem own_rs {RO : List Int32} (l : RO.length = 16) (a b c d e : Int32) : own_ag 5 (((((RO.set 0 a).set 1 b).set 2 c).set 3 d).set 4 e) [a, b, c, d, e] := by
  intro k k0 k5
  have h : k = 0 ∨ k = 1 ∨ k = 2 ∨ k = 3 ∨ k = 4 := by
    have e1 : (0 : Int32).toInt = 0 := rfl
    have e2 : (1 : Int32).toInt = 1 := rfl
    have e3 : (2 : Int32).toInt = 2 := rfl
    have e4 : (3 : Int32).toInt = 3 := rfl
    have e5 : (4 : Int32).toInt = 4 := rfl
    rw [ieq, ieq, ieq, ieq, ieq]
    omega
  unfold gI
  rw [rdA_nn k0, rdA_nn k0]
  have g : ∀ i : Nat, i < 5 → (((((RO.set 0 a).set 1 b).set 2 c).set 3 d).set 4 e)[i]? = [a, b, c, d, e][i]? := by
    intro i hi
    have : i = 0 ∨ i = 1 ∨ i = 2 ∨ i = 3 ∨ i = 4 := by omega
    rcases this with h | h | h | h | h <;> subst h <;> simp [List.getElem?_set, l]
  rw [g _ (by omega)]
theorem own_ro (I : Int32) {RO : List Int32} (l : RO.length = 16) : Tot (f_buildRowOrder 5 I RO) (own_rw (decide (I = 0))) := by
  unfold f_buildRowOrder f_addRows
  refine own_iE (fun c => ?_) (fun c => ?_)
  · rw [decide_eq_true c]
    refine Tot.of (a := ((((RO.set 0 0).set 1 1).set 2 2).set 3 3).set 4 4) ?_ ⟨by simp [l], own_rs l 0 1 2 3 4⟩
    rw [own_br1 l (by decide) (by decide) (by decide), own_br1 (by simp [l]) (by decide) (by decide) (by decide), own_br1 (by simp [l]) (by decide) (by decide) (by decide), own_br1 (by simp [l]) (by decide) (by decide) (by decide), own_br1 (by simp [l]) (by decide) (by decide) (by decide), own_br0 (by decide)]
    rfl
  · rw [decide_eq_false c]
    refine Tot.of (a := ((((RO.set 0 0).set 1 4).set 2 2).set 3 1).set 4 3) ?_ ⟨by simp [l], own_rs l 0 4 2 1 3⟩
    rw [own_ar1 l (by decide) (by decide) (by decide), own_ar0 (by decide), Option.bind_some]
    show (f_addRows_6 5 100000 _ _ _ _).bind _ = _
    rw [own_ar1 (by simp [l]) (by decide) (by decide) (by decide), own_ar0 (by decide), Option.bind_some]
    show (f_addRows_6 5 100000 _ _ _ _).bind _ = _
    rw [own_ar1 (by simp [l]) (by decide) (by decide) (by decide), own_ar0 (by decide), Option.bind_some]
    show (f_addRows_6 5 100000 _ _ _ _).bind _ = _
    rw [own_ar1 (by simp [l]) (by decide) (by decide) (by decide), own_ar1 (by simp [l]) (by decide) (by decide) (by decide), own_ar0 (by decide), Option.bind_some]
    rfl
def own_ra (b : Bool) (v : Int32) : Int32 := gI (own_rl b) (v / 3) * 3 + v % 3
theorem own_ra1 (b : Bool) {v : Int32} (h0 : 0 ≤ v.toInt) (h1 : v.toInt < 15) : 0 ≤ (own_ra b v).toInt ∧ (own_ra b v).toInt < 15 := by
  have key : ∀ b : Bool, ∀ n : Nat, n < 15 → 0 ≤ (own_ra b (Int32.ofNat n)).toInt ∧ (own_ra b (Int32.ofNat n)).toInt < 15 := by decide +kernel
  have e := key b v.toInt.toNat (by omega)
  rw [← own_of h0] at e
  exact e
theorem own_ra2 (b : Bool) {k : Int32} (h0 : 0 ≤ k.toInt) (h1 : k.toInt < 15) : ∃ v : Int32, 0 ≤ v.toInt ∧ v.toInt < 15 ∧ own_ra b v = k := by
  have key : ∀ b : Bool, ∀ n : Nat, n < 15 → ∃ m : Fin 15, own_ra b (Int32.ofNat m.val) = Int32.ofNat n := by decide +kernel
  obtain ⟨m, e⟩ := key b k.toInt.toNat (by omega)
  rw [← own_of h0] at e
  have q : (Int32.ofNat m.val).toInt = m.val := Int32.toInt_ofNat_of_lt (by have := m.isLt; omega)
  exact ⟨_, by omega, by have := m.isLt; omega, e⟩
theorem own_rf {b : Bool} {RO : List Int32} (h : own_rw b RO) {v : Int32} (h0 : 0 ≤ v.toInt) (h1 : v.toInt < 15) : f_rasterOf RO 3 v = some (own_ra b v) := by
  have e0 : (0 : Int32).toInt = 0 := rfl
  have e16 : (16 : Int32).toInt = 16 := rfl
  obtain ⟨l, g⟩ := h
  have key : ∀ n : Nat, n < 15 → 0 ≤ (Int32.ofNat n / 3).toInt ∧ (Int32.ofNat n / 3).toInt < 5 := by decide +kernel
  have e := key v.toInt.toNat (by omega)
  rw [← own_of h0] at e
  unfold f_rasterOf
  rw [if_neg (by decide), if_neg (by decide), if_neg (by rw [ilt]; omega), if_pos (by rw [ilt]; omega), rdg e.1 (by omega), Option.bind_some, g _ e.1 e.2]
  rfl
theorem own_b8 {x : Int32} (h0 : 0 ≤ x.toInt) (h1 : x.toInt ≤ 4200) : (x >>> ((3 : Int32) &&& 31)).toInt = x.toInt / 8 ∧ (x &&& 7).toInt = x.toInt % 8 := by
  have key : ∀ k : Nat, k < 4201 → (Int32.ofNat k >>> ((3 : Int32) &&& 31)).toInt = (k : Int) / 8 ∧ (Int32.ofNat k &&& 7).toInt = (k : Int) % 8 := by decide +kernel
  have e := key x.toInt.toNat (by omega)
  rw [← own_of h0] at e
  have q : (x.toInt.toNat : Int) = x.toInt := by omega
  rw [q] at e
  exact e
theorem own_pb2 : ∀ (n : Nat) (D D' : List Int32) (bp v1 v2 : Int32), D.length = 512 → D'.length = 512 → own_ag ((bp.toInt + 7) / 8) D D' → 0 ≤ v2.toInt → v2.toInt ≤ 5 → 5 - v2.toInt < n → 0 ≤ bp.toInt → bp.toInt + (5 - v2.toInt) ≤ 1000 → own_B (f_putCode_2 5 n D bp v1 v2) (f_putCode_2 5 n D' bp v1 v2) (fun p p' => p.2 = p'.2 ∧ p.1.length = 512 ∧ p'.1.length = 512 ∧ own_ag ((p.2.toInt + 7) / 8) p.1 p'.1 ∧ p.2.toInt = bp.toInt + (5 - v2.toInt)) := by
  intro n
  have e0 : (0 : Int32).toInt = 0 := rfl
  have e5 : (5 : Int32).toInt = 5 := rfl
  have e : (512 : Int32).toInt = 512 := rfl
  induction n with
  | zero => intro D D' bp v1 v2 l l' g a b c; omega
  | succ n ih =>
    intro D D' bp v1 v2 l l' g a b c d f
    have p := own_p1 (a := v2) (by omega)
    have q := own_p1 (a := bp) (by omega)
    obtain ⟨b8, b7⟩ := own_b8 (x := bp) d (by omega)
    unfold f_putCode_2 f_putCode_49 f_putCode_74
    refine own_B.il (fun c1 => ?_) (fun c1 => own_B.so ⟨rfl, l, l', g, by dsimp only; omega⟩)
    have go : ∀ A A' : List Int32, A.length = 512 → A'.length = 512 → own_ag (((bp + 1).toInt + 7) / 8) A A' → own_B (f_putCode_2 5 n A (bp + 1) v1 (v2 + 1)) (f_putCode_2 5 n A' (bp + 1) v1 (v2 + 1)) (fun p p' => p.2 = p'.2 ∧ p.1.length = 512 ∧ p'.1.length = 512 ∧ own_ag ((p.2.toInt + 7) / 8) p.1 p'.1 ∧ p.2.toInt = bp.toInt + (5 - v2.toInt)) := by
      intro A A' m m' k
      refine own_B.mn (ih A A' (bp + 1) v1 (v2 + 1) m m' k (by omega) (by omega) (by omega) (by omega) (by omega)) ?_
      rintro r r' ⟨q1, q2, q3, q4, q5⟩
      exact ⟨q1, q2, q3, q4, by omega⟩
    have wk : ∀ A A' : List Int32, A.length = 512 → A'.length = 512 → own_ag (bp.toInt / 8 + 1) A A' → own_B (if ((v1 >>> (v2 &&& 31)) &&& (1 : Int32)) = (0 : Int32) then f_putCode_2 5 n A (bp + 1) v1 (v2 + 1) else (rdA A (bp >>> ((3 : Int32) &&& 31))).bind fun x => (wrA A (bp >>> ((3 : Int32) &&& 31)) (x ||| ((1 : Int32) <<< ((bp &&& (7 : Int32)) &&& 31)))).bind fun A => f_putCode_2 5 n A (bp + 1) v1 (v2 + 1)) (if ((v1 >>> (v2 &&& 31)) &&& (1 : Int32)) = (0 : Int32) then f_putCode_2 5 n A' (bp + 1) v1 (v2 + 1) else (rdA A' (bp >>> ((3 : Int32) &&& 31))).bind fun x => (wrA A' (bp >>> ((3 : Int32) &&& 31)) (x ||| ((1 : Int32) <<< ((bp &&& (7 : Int32)) &&& 31)))).bind fun A => f_putCode_2 5 n A (bp + 1) v1 (v2 + 1)) (fun p p' => p.2 = p'.2 ∧ p.1.length = 512 ∧ p'.1.length = 512 ∧ own_ag ((p.2.toInt + 7) / 8) p.1 p'.1 ∧ p.2.toInt = bp.toInt + (5 - v2.toInt)) := by
      intro A A' m m' k
      refine own_B.it (fun _ => go A A' m m' (k.mn (by omega))) (fun _ => ?_)
      refine own_B.rd (by omega) (by omega) (by omega) (k _ (by omega) (by omega)) ?_
      refine own_B.wr (by omega) (by omega) (by omega) ?_
      exact go _ _ (by rw [List.length_set]; exact m) (by rw [List.length_set]; exact m') (k.st _ (by omega) (by omega) (by omega) (Or.inl (by omega)))
    refine own_B.il (fun c2 => by omega) (fun c2 => own_B.il (fun c3 => ?_) (fun c3 => by omega))
    refine own_B.it (fun c4 => ?_) (fun c4 => ?_)
    · rw [ieq] at c4
      refine own_B.wr (by omega) (by omega) (by omega) ?_
      exact wk _ _ (by rw [List.length_set]; exact l) (by rw [List.length_set]; exact l') (g.st (m := bp.toInt / 8 + 1) 0 (by omega) (by omega) (by omega) (Or.inr (by omega)))
    · rw [ieq] at c4
      exact wk D D' l l' (g.mn (by omega))
theorem own_pb {D D' : List Int32} (l : D.length = 512) (l' : D'.length = 512) {bp : Int32} (g : own_ag ((bp.toInt + 7) / 8) D D') (v : Int32) (b0 : 0 ≤ bp.toInt) (b1 : bp.toInt ≤ 990) : own_B (f_putCode 5 D bp v) (f_putCode 5 D' bp v) (fun p p' => p.2 = p'.2 ∧ p.1.length = 512 ∧ p'.1.length = 512 ∧ own_ag ((p.2.toInt + 7) / 8) p.1 p'.1 ∧ p.2.toInt = bp.toInt + 5) := by
  have e0 : (0 : Int32).toInt = 0 := rfl
  refine own_B.mn (own_pb2 100000 D D' bp v 0 l l' g (by omega) (by omega) (by omega) b0 (by omega)) ?_
  rintro r r' ⟨q1, q2, q3, q4, q5⟩
  exact ⟨q1, q2, q3, q4, by omega⟩
def own_Ec (b : Int) (r r' : List Int32 × List Int32 × List Int32 × List Int32 × Int32 × Int32 × Int32) : Prop := ∃ (D D' FC NS CP : List Int32) (bp EN : Int32), r = (D, FC, NS, CP, bp, 5, EN) ∧ r' = (D', FC, NS, CP, bp, 5, EN) ∧ D.length = 512 ∧ D'.length = 512 ∧ FC.length = 512 ∧ NS.length = 512 ∧ CP.length = 512 ∧ own_ag ((bp.toInt + 7) / 8) D D' ∧ 0 ≤ bp.toInt ∧ bp.toInt ≤ b
theorem own_ew (x : Int32) : (if ((1 : Int32) <<< ((5 : Int32) &&& 31)) < x then (if (5 : Int32) < 5 then ((5 : Int32) + (1 : Int32)) else 5) else 5) = (5 : Int32) := by
  split
  · decide
  · rfl
theorem own_ae60 {D D' FC NS CP : List Int32} {bp : Int32} (lD : D.length = 512) (lD' : D'.length = 512) (lF : FC.length = 512) (lN : NS.length = 512) (lC : CP.length = 512) (g : own_ag ((bp.toInt + 7) / 8) D D') (b0 : 0 ≤ bp.toInt) (b1 : bp.toInt ≤ 900) (EN v : Int32) :
    own_B (f_addEncoderCode_60 4 16 5 32 D FC NS CP bp 5 EN v) (f_addEncoderCode_60 4 16 5 32 D' FC NS CP bp 5 EN v) (own_Ec (bp.toInt + 5)) := by
  unfold f_addEncoderCode_60 f_addEncoderCode_101
  rw [own_ew]
  refine own_B.it (fun c => ?_) (fun c => ?_)
  · refine own_B.bd (own_pb lD lD' g 16 b0 (by omega)) ?_
    rintro ⟨s, t⟩ ⟨s', t'⟩ ⟨q1, q2, q3, q4, q5⟩
    cases q1
    refine own_B.bd (own_B.tt (own_ret lF _)) ?_
    rintro r _ ⟨rfl, hr⟩
    exact own_B.so ⟨s, s', r, NS, CP, t, _, rfl, rfl, q2, q3, hr, lN, lC, q4, by dsimp only at q5; omega, by dsimp only at q5; omega⟩
  · exact own_B.so ⟨D, D', FC, NS, CP, bp, _, rfl, rfl, lD, lD', lF, lN, lC, g, b0, by omega⟩
theorem own_ae {D D' FC NS CP : List Int32} {bp : Int32} (lD : D.length = 512) (lD' : D'.length = 512) (lF : FC.length = 512) (lN : NS.length = 512) (lC : CP.length = 512) (g : own_ag ((bp.toInt + 7) / 8) D D') (b0 : 0 ≤ bp.toInt) (b1 : bp.toInt ≤ 900) (EN v1 v2 : Int32) :
    own_B (f_addEncoderCode 4 16 5 32 D FC NS CP bp 5 EN v1 v2) (f_addEncoderCode 4 16 5 32 D' FC NS CP bp 5 EN v1 v2) (own_Ec (bp.toInt + 5)) := by
  have e0 : (0 : Int32).toInt = 0 := rfl
  have e : (512 : Int32).toInt = 512 := rfl
  have st := own_ae60 lD lD' lF lN lC g b0 b1 EN EN
  unfold f_addEncoderCode
  refine own_B.il (fun _ => st) (fun c1 => own_B.il (fun c2 => own_B.il (fun _ => st) (fun c3 => own_B.il (fun c4 => ?_) (fun _ => st))) (fun _ => st))
  refine own_B.wr (by omega) (by omega) (by omega) ?_
  refine own_B.rd (by omega) (by omega) (by omega) rfl ?_
  refine own_B.wr (by omega) (by omega) (by omega) ?_
  refine own_B.wr (by omega) (by omega) (by omega) ?_
  refine own_B.wr (by omega) (by rw [List.length_set]; omega) (by rw [List.length_set]; omega) ?_
  exact own_ae60 lD lD' (by rw [List.length_set, List.length_set]; exact lF) (by rw [List.length_set]; exact lN) (by rw [List.length_set]; exact lC) g b0 b1 EN EN
theorem own_c50 {SB SB' : List Int32} (lS : SB.length = 256) (lS' : SB'.length = 256) (gS : own_ag 15 SB SB') : ∀ (n : Nat) (D D' FC NS CP : List Int32) (bp EN v1 v2 : Int32), D.length = 512 → D'.length = 512 → FC.length = 512 → NS.length = 512 → CP.length = 512 → own_ag ((bp.toInt + 7) / 8) D D' → 0 ≤ bp.toInt → bp.toInt ≤ 10 * v2.toInt → 1 ≤ v2.toInt → v2.toInt ≤ 15 → 15 - v2.toInt < n →
    own_B (f_compress_50 (f_compress_103 SB 15 4 16 5 32) SB 15 4 16 5 32 n D FC NS CP bp 5 EN v1 v2) (f_compress_50 (f_compress_103 SB' 15 4 16 5 32) SB' 15 4 16 5 32 n D' FC NS CP bp 5 EN v1 v2) (own_Ec 200) := by
  intro n
  have e0 : (0 : Int32).toInt = 0 := rfl
  have e15 : (15 : Int32).toInt = 15 := rfl
  induction n with
  | zero => intro D D' FC NS CP bp EN v1 v2 lD lD' lF lN lC g b0 b1 a0 a1 a2; omega
  | succ n ih =>
    intro D D' FC NS CP bp EN v1 v2 lD lD' lF lN lC g b0 b1 a0 a1 a2
    have p := own_p1 (a := v2) (by omega)
    unfold f_compress_50
    refine own_B.il (fun c => ?_) (fun c => ?_)
    · refine own_B.rd (by omega) (by omega) (by omega) (gS _ (by omega) (by omega)) ?_
      refine own_B.bd (own_B.tt (own_fc lF lN lC v1 (gI SB v2))) ?_
      rintro r _ ⟨rfl, -⟩
      refine own_B.it (fun _ => ?_) (fun _ => ?_)
      · refine own_B.bd (own_pb lD lD' g v1 b0 (by omega)) ?_
        rintro ⟨s, t⟩ ⟨s', t'⟩ ⟨q1, q2, q3, q4, q5⟩
        cases q1
        dsimp only at q2 q3 q4 q5
        refine own_B.bd (own_ae q2 q3 lF lN lC q4 (by omega) (by omega) EN v1 (gI SB v2)) ?_
        rintro _ _ ⟨D1, D1', FC1, NS1, CP1, bp1, EN1, rfl, rfl, m1, m2, m3, m4, m5, m6, m7, m8⟩
        exact ih D1 D1' FC1 NS1 CP1 bp1 EN1 _ _ m1 m2 m3 m4 m5 m6 m7 (by omega) (by omega) (by omega) (by omega)
      · exact ih D D' FC NS CP bp EN _ _ lD lD' lF lN lC g b0 (by omega) (by omega) (by omega) (by omega)
    · unfold f_compress_103
      refine own_B.bd (own_pb lD lD' g v1 b0 (by omega)) ?_
      rintro ⟨s, t⟩ ⟨s', t'⟩ ⟨q1, q2, q3, q4, q5⟩
      cases q1
      dsimp only at q2 q3 q4 q5
      refine own_B.bd (own_pb q2 q3 q4 (16 + 1) (by omega) (by omega)) ?_
      rintro ⟨u, w⟩ ⟨u', w'⟩ ⟨z1, z2, z3, z4, z5⟩
      cases z1
      dsimp only at z2 z3 z4 z5
      exact own_B.so ⟨u, u', FC, NS, CP, w, EN, rfl, rfl, z2, z3, lF, lN, lC, z4, by omega, by omega⟩
theorem own_cmB {SB SB' D D' FC NS CP : List Int32} (lS : SB.length = 256) (lS' : SB'.length = 256) (gS : own_ag 15 SB SB') (lD : D.length = 512) (lD' : D'.length = 512) (lF : FC.length = 512) (lN : NS.length = 512) (lC : CP.length = 512) (bp EW EN : Int32) :
    own_B (f_compress SB 15 4 16 5 32 D FC NS CP bp EW EN) (f_compress SB' 15 4 16 5 32 D' FC NS CP bp EW EN) (own_Ec 200) := by
  have e0 : (0 : Int32).toInt = 0 := rfl
  have e1 : (1 : Int32).toInt = 1 := rfl
  have e5 : (4 : Int32) + 1 = 5 := rfl
  unfold f_compress
  rw [e5]
  refine own_B.bd (own_B.tt (own_ret lF 32)) ?_
  rintro F _ ⟨rfl, hF⟩
  refine own_B.bd (own_pb lD lD' (bp := 0) (own_ag.z D D' (by decide)) 16 (by decide) (by decide)) ?_
  rintro ⟨s, t⟩ ⟨s', t'⟩ ⟨q1, q2, q3, q4, q5⟩
  cases q1
  dsimp only at q2 q3 q4 q5
  refine own_B.rd (by omega) (by omega) (by omega) (gS _ (by decide) (by decide)) ?_
  exact own_c50 lS lS' gS 100000 s s' F NS CP t _ _ 1 q2 q3 hF lN lC q4 (by omega) (by omega) (by omega) (by omega) (by omega)
def own_O (OUT : List Int32) (OL : Int32) : Prop := OUT.length = 400 ∧ own_R 256 OUT ∧ 0 ≤ OL.toInt ∧ OL.toInt ≤ 400
theorem own_woT {OUT : List Int32} {OL : Int32} (h : own_O OUT OL) (v : Int32) : Tot (f_writeOut OUT OL v) (fun r => own_O r.1 r.2) := by
  have e0 : (0 : Int32).toInt = 0 := rfl
  have e : (400 : Int32).toInt = 400 := rfl
  obtain ⟨l, r, o0, o1⟩ := h
  by_cases q : OL.toInt < 400
  · rw [own_wo l o0 q v]
    have b := own_r255 v
    have p := own_p1 (a := OL) (by omega)
    exact Tot.mk ⟨by rw [List.length_set]; exact l, own_Rs r b.1 b.2, by dsimp only; omega, by dsimp only; omega⟩
  · unfold f_writeOut
    rw [if_neg (by rw [ilt]; omega), if_neg (by rw [ilt]; omega)]
    exact Tot.mk ⟨l, r, o0, o1⟩
theorem own_k79 {D D' : List Int32} {N : Int} (lD : D.length = 512) (lD' : D'.length = 512) (hN : N ≤ 512) (g : own_ag N D D') (M B bp v1 v3 v4 : Int32) {k k' : List Int32 → Int32 → Int32 → Int32 → Int32 → Option (List Int32 × Int32)} {R : List Int32 × Int32 → List Int32 × Int32 → Prop} (e2 : Int) (hv4 : v4.toInt ≤ 512) (he : e2 ≤ N)
    (hk : ∀ (OUT : List Int32) (OL v2 : Int32), own_O OUT OL → v2.toInt = e2 → own_B (k OUT OL v1 v2 (v3 + 1)) (k' OUT OL v1 v2 (v3 + 1)) R) :
    ∀ (n : Nat) (OUT : List Int32) (OL v2 v5 : Int32), own_O OUT OL → 0 ≤ v2.toInt → v2.toInt + (v4.toInt - v5.toInt) = e2 → 0 ≤ v5.toInt → v5.toInt ≤ v4.toInt → v4.toInt - v5.toInt < n → own_B (f_packBlocks_79 k D M B bp n OUT OL v1 v2 v3 v4 v5) (f_packBlocks_79 k' D' M B bp n OUT OL v1 v2 v3 v4 v5) R := by
  intro n
  induction n with
  | zero => intro OUT OL v2 v5 a b c d e f; omega
  | succ n ih =>
    intro OUT OL v2 v5 a b c d e f
    unfold f_packBlocks_79
    refine own_B.il (fun c1 => ?_) (fun c1 => ?_)
    · have p2 := own_p1 (a := v2) (by omega)
      have p5 := own_p1 (a := v5) (by omega)
      refine own_B.rd (by omega) (by omega) (by omega) (g _ (by omega) (by omega)) ?_
      refine own_B.bd (own_B.tt (own_woT a (gI D v2))) ?_
      rintro ⟨O, L⟩ _ ⟨rfl, ho⟩
      exact ih O L _ _ ho (by omega) (by omega) (by omega) (by omega) (by omega)
    · exact hk OUT OL v2 a (by omega)
theorem own_k38 {D D' : List Int32} {v1 : Int32} (lD : D.length = 512) (lD' : D'.length = 512) (hN : v1.toInt ≤ 512) (g : own_ag v1.toInt D D') (M B bp : Int32) (hB0 : 4 ≤ B.toInt) (hB1 : B.toInt ≤ 255) :
    ∀ (n : Nat) (OUT : List Int32) (OL v2 v3 : Int32), own_O OUT OL → 0 ≤ v2.toInt → v2.toInt ≤ v1.toInt → 0 ≤ v3.toInt → v3.toInt ≤ 512 → 513 - v3.toInt ≤ n → own_B (f_packBlocks_38 (f_packBlocks_111 D M B bp) D M B bp n OUT OL v1 v2 v3) (f_packBlocks_38 (f_packBlocks_111 D' M B bp) D' M B bp n OUT OL v1 v2 v3) (fun r r' => r = r' ∧ own_O r.1 r.2) := by
  intro n
  have e0 : (0 : Int32).toInt = 0 := rfl
  have e512 : (512 : Int32).toInt = 512 := rfl
  induction n with
  | zero => intro OUT OL v2 v3 a b c d e f; omega
  | succ n ih =>
    intro OUT OL v2 v3 a b c d e f
    have st : own_B (f_packBlocks_111 D M B bp OUT OL) (f_packBlocks_111 D' M B bp OUT OL) (fun r r' => r = r' ∧ own_O r.1 r.2) := by
      unfold f_packBlocks_111
      refine own_B.bd (own_B.tt (own_woT a 0)) ?_
      rintro ⟨O, L⟩ _ ⟨rfl, ho⟩
      exact own_B.so ⟨rfl, ho⟩
    unfold f_packBlocks_38
    refine own_B.il (fun c1 => own_B.il (fun c2 => ?_) (fun _ => st)) (fun _ => st)
    have ps : (v1 - v2).toInt = v1.toInt - v2.toInt := isub_i (by omega) (by omega)
    have p3 := own_p1 (a := v3) (by omega)
    have hlen : ∃ len : Int32, (if B < (v1 - v2) then B else (v1 - v2)) = len ∧ 0 ≤ len.toInt ∧ len.toInt ≤ v1.toInt - v2.toInt := by
      refine ⟨_, rfl, ?_⟩
      by_cases hb : B < v1 - v2
      · rw [if_pos hb]; rw [ilt] at hb; omega
      · rw [if_neg hb]; omega
    obtain ⟨len, el, l0, l1⟩ := hlen
    rw [el]
    unfold f_packBlocks_70
    refine own_B.bd (own_B.tt (own_woT a len)) ?_
    rintro ⟨O, L⟩ _ ⟨rfl, ho⟩
    refine own_k79 lD lD' hN g M B bp v1 v3 len (v2.toInt + len.toInt) (by omega) (by omega) ?_ 100000 O L v2 0 ho b (by omega) (by omega) (by omega) (by omega)
    intro O' L' v2' ho' h2
    exact ih O' L' v2' (v3 + 1) ho' (by omega) (by omega) (by omega) (by omega) (by omega)
theorem own_pkB {D D' OUT : List Int32} {bp : Int32} (lD : D.length = 512) (lD' : D'.length = 512) (g : own_ag ((bp.toInt + 7) / 8) D D') {B : Int32} (hB0 : 4 ≤ B.toInt) (hB1 : B.toInt ≤ 255) (b0 : 0 ≤ bp.toInt) (b1 : bp.toInt ≤ 1000) (OL : Int32) (lO : OUT.length = 400) (rO : own_R 256 OUT) :
    own_B (f_packBlocks D 4 B bp OUT OL) (f_packBlocks D' 4 B bp OUT OL) (fun r r' => r = r' ∧ own_O r.1 r.2) := by
  have e0 : (0 : Int32).toInt = 0 := rfl
  have e512 : (512 : Int32).toInt = 512 := rfl
  unfold f_packBlocks f_packBlocks_21
  have e7 : (7 : Int32).toInt = 7 := rfl
  have q : (bp + 7).toInt = bp.toInt + 7 := iadd_i (by omega) (by omega)
  have hb := (own_b8 (x := bp + 7) (by omega) (by omega)).1
  generalize ((bp + 7) >>> ((3 : Int32) &&& 31)) = v1 at hb ⊢
  rw [if_neg (by rw [ilt]; omega)]
  refine own_B.bd (own_B.tt (own_woT (OL := 0) ⟨lO, rO, by decide, by decide⟩ 4)) ?_
  rintro ⟨O, L⟩ _ ⟨rfl, ho⟩
  exact own_k38 lD lD' (by omega) (g.mn (by omega)) 4 B bp hB0 hB1 100000 O L 0 0 ho (by decide) (by omega) (by decide) (by decide) (by decide)
def own_Er (r r' : Int32 × List Int32 × List Int32 × List Int32 × List Int32 × List Int32 × List Int32 × List Int32 × Int32 × Int32 × Int32 × Int32) : Prop := ∃ (O RO RO' SB SB' D D' FC NS CP : List Int32) (x N bp EW EN : Int32), r = (x, O, RO, SB, D, FC, NS, CP, N, bp, EW, EN) ∧ r' = (x, O, RO', SB', D', FC, NS, CP, N, bp, EW, EN) ∧ own_O O N ∧ RO.length = 16 ∧ RO'.length = 16 ∧ SB.length = 256 ∧ SB'.length = 256 ∧ D.length = 512 ∧ D'.length = 512 ∧ FC.length = 512 ∧ NS.length = 512 ∧ CP.length = 512
theorem own_encB {PX OUT RO RO' SB SB' D D' FC NS CP : List Int32} (I : Int32) {B : Int32} (hB0 : 4 ≤ B.toInt) (hB1 : B.toInt ≤ 255) (lP : PX.length = 256) (lO : OUT.length = 400) (rO : own_R 256 OUT) (lR : RO.length = 16) (lR' : RO'.length = 16) (lS : SB.length = 256) (lS' : SB'.length = 256) (lD : D.length = 512) (lD' : D'.length = 512) (lF : FC.length = 512) (lN : NS.length = 512) (lC : CP.length = 512) (OL bp EW EN : Int32) :
    own_B (f_encode PX 3 5 15 4 16 5 32 I B OUT RO SB D FC NS CP OL bp EW EN) (f_encode PX 3 5 15 4 16 5 32 I B OUT RO' SB' D' FC NS CP OL bp EW EN) own_Er := by
  have e0 : (0 : Int32).toInt = 0 := rfl
  have e15 : (15 : Int32).toInt = 15 := rfl
  have e256 : (256 : Int32).toInt = 256 := rfl
  unfold f_encode
  obtain ⟨R1, h1, w1⟩ := own_ro I lR
  obtain ⟨R2, h2, w2⟩ := own_ro I lR'
  rw [h1, h2, Option.bind_some, Option.bind_some]
  clear h1 h2
  have key : ∀ (n : Nat) (SB SB' : List Int32) (v : Int32), SB.length = 256 → SB'.length = 256 → own_ag v.toInt SB SB' → 0 ≤ v.toInt → v.toInt ≤ 15 → 15 - v.toInt < n → own_B (f_encode_6 (f_encode_49 PX 3 5 15 4 16 5 32 I B) PX 3 5 15 4 16 5 32 I B n OUT R1 SB D FC NS CP OL bp EW EN v) (f_encode_6 (f_encode_49 PX 3 5 15 4 16 5 32 I B) PX 3 5 15 4 16 5 32 I B n OUT R2 SB' D' FC NS CP OL bp EW EN v) own_Er := by
    intro n
    induction n with
    | zero => intro SB SB' v a1 a2 a3 a4 a5 a6; omega
    | succ n ih =>
      intro SB SB' v a1 a2 a3 a4 a5 a6
      have p := own_p1 (a := v) (by omega)
      unfold f_encode_6
      refine own_B.il (fun c => ?_) (fun c => ?_)
      · rw [own_rf w1 a4 (by omega), own_rf w2 a4 (by omega), Option.bind_some, Option.bind_some]
        have b := own_ra1 (decide (I = 0)) a4 (by omega)
        refine own_B.il (fun c1 => by omega) (fun c1 => own_B.il (fun c2 => ?_) (fun c2 => by omega))
        refine own_B.rd (by omega) (by omega) (by omega) rfl ?_
        refine own_B.wr (by omega) (by omega) (by omega) ?_
        exact ih _ _ _ (by rw [List.length_set]; exact a1) (by rw [List.length_set]; exact a2) (a3.st _ a4 (by omega) (by omega) (Or.inr ⟨rfl, p⟩)) (by omega) (by omega) (by omega)
      · unfold f_encode_49
        refine own_B.bd (own_cmB a1 a2 (a3.mn (by omega)) lD lD' lF lN lC bp EW EN) ?_
        rintro _ _ ⟨D1, D1', FC1, NS1, CP1, bp1, EN1, rfl, rfl, m1, m2, m3, m4, m5, m6, m7, m8⟩
        refine own_B.bd (own_pkB m1 m2 m6 hB0 hB1 m7 (by omega) OL lO rO) ?_
        rintro ⟨O, N⟩ _ ⟨rfl, ho⟩
        exact own_B.so ⟨O, R1, R2, SB, SB', D1, D1', FC1, NS1, CP1, N, N, bp1, 5, EN1, rfl, rfl, ho, w1.1, w2.1, a1, a2, m1, m2, m3, m4, m5⟩
  exact key 100000 SB SB' 0 lS lS' (own_ag.z _ _ (by decide)) (by decide) (by decide) (by decide)
def own_Gb (r r' : Int32 × List Int32 × Int32) : Prop := ∃ (x : Int32) (A A' : List Int32) (L : Int32), r = (x, A, L) ∧ r' = (x, A', L) ∧ A.length = 512 ∧ A'.length = 512 ∧ own_ag L.toInt A A' ∧ 0 ≤ L.toInt ∧ L.toInt ≤ 512
theorem own_gbB {IN D D' : List Int32} {IL : Int32} (DL DL' : Int32) (lI : IN.length = 512) (rI : own_R 256 IN) (h0 : 0 ≤ IL.toInt) (h1 : IL.toInt ≤ 512) (lD : D.length = 512) (lD' : D'.length = 512) :
    own_B (f_gatherBlocks IN IL D DL) (f_gatherBlocks IN IL D' DL') own_Gb := by
  have e0 : (0 : Int32).toInt = 0 := rfl
  have e512 : (512 : Int32).toInt = 512 := rfl
  have k57 : ∀ (kb : List Int32 → Int32 → Int32 → Int32 → Int32 → Option (Int32 × List Int32 × Int32)) (v1 v2 v3 : Int32), 0 ≤ v1.toInt → v1.toInt ≤ 512 → v3.toInt ≤ 255 → (∀ A A' L, A.length = 512 → A'.length = 512 → own_ag L.toInt A A' → 0 ≤ L.toInt → L.toInt ≤ 512 → own_B (kb A L v1 v2 v3) (kb A' L v1 v2 v3) own_Gb) → ∀ (n : Nat) (D D' : List Int32) (L v4 : Int32), D.length = 512 → D'.length = 512 → own_ag L.toInt D D' → 0 ≤ L.toInt → L.toInt ≤ 512 → 0 ≤ v4.toInt → v4.toInt ≤ 256 → 257 - v4.toInt ≤ n → own_B (f_gatherBlocks_57 kb IN IL n D L v1 v2 v3 v4) (f_gatherBlocks_57 kb IN IL n D' L v1 v2 v3 v4) own_Gb := by
    intro kb v1 v2 v3 a0 a1 a2 hk n
    induction n with
    | zero => intro D D' L v4 b1 b2 b3 b4 b5 b6 b7 b8; omega
    | succ n ih =>
      intro D D' L v4 b1 b2 b3 b4 b5 b6 b7 b8
      have p4 := own_p1 (a := v4) (by omega)
      have pD := own_p1 (a := L) (by omega)
      have ps : (v1 + v4).toInt = v1.toInt + v4.toInt := iadd_i (by omega) (by omega)
      unfold f_gatherBlocks_57
      refine own_B.il (fun c1 => ?_) (fun _ => hk _ _ _ b1 b2 b3 b4 b5)
      refine own_B.il (fun c2 => own_B.il (fun c3 => ?_) (fun _ => ih _ _ _ _ b1 b2 b3 b4 b5 (by omega) (by omega) (by omega))) (fun _ => ih _ _ _ _ b1 b2 b3 b4 b5 (by omega) (by omega) (by omega))
      refine own_B.rd (by omega) (by omega) (by omega) rfl ?_
      refine own_B.wr (by omega) (by omega) (by omega) ?_
      exact ih _ _ _ _ (by rw [List.length_set]; exact b1) (by rw [List.length_set]; exact b2) (b3.st _ b4 (by omega) (by omega) (Or.inr ⟨rfl, pD⟩)) (by omega) (by omega) (by omega) (by omega) (by omega)
  have key : ∀ (n : Nat) (D D' : List Int32) (L v1 v2 : Int32), D.length = 512 → D'.length = 512 → own_ag L.toInt D D' → 0 ≤ L.toInt → L.toInt ≤ 512 → 0 ≤ v1.toInt → 0 ≤ v2.toInt → v2.toInt ≤ 513 → 514 - v2.toInt ≤ n → own_B (f_gatherBlocks_9 IN IL n D L v1 v2) (f_gatherBlocks_9 IN IL n D' L v1 v2) own_Gb := by
    intro n
    induction n with
    | zero => intro D D' L v1 v2 b1 b2 b3 b4 b5 b6 b7 b8 b9; omega
    | succ n ih =>
      intro D D' L v1 v2 b1 b2 b3 b4 b5 b6 b7 b8 b9
      have p2 := own_p1 (a := v2) (by omega)
      have st : ∀ x : Int32, own_B (some (x, D, L)) (some (x, D', L)) own_Gb := fun x => own_B.so ⟨x, D, D', L, rfl, rfl, b1, b2, b3, b4, b5⟩
      unfold f_gatherBlocks_9
      refine own_B.il (fun _ => st _) (fun c => own_B.il (fun c1 => ?_) (fun _ => st _))
      have p1 := own_p1 (a := v1) (by omega)
      refine own_B.rd (by omega) (by omega) (by omega) rfl ?_
      obtain ⟨x0, x1⟩ := own_Rg rI b6 (by omega)
      generalize gI IN v1 = x at x0 x1 ⊢
      refine own_B.it (fun _ => st _) (fun c2 => own_B.il (fun _ => st _) (fun c3 => ?_))
      refine k57 _ (v1 + 1) v2 x (by omega) (by omega) (by omega) ?_ 100000 D D' L 0 b1 b2 b3 b4 b5 (by omega) (by omega) (by omega)
      intro A A' L' d1 d2 d3 d4 d5
      have ps : (v1 + 1 + x).toInt = v1.toInt + 1 + x.toInt := by rw [iadd_i (by omega) (by omega), p1]
      unfold f_gatherBlocks_117
      exact ih _ _ _ _ _ d1 d2 d3 d4 d5 (by omega) (by omega) (by omega) (by omega)
  exact key 100000 D D' 0 1 0 lD lD' (own_ag.z _ _ (by decide)) (by decide) (by decide) (by decide) (by decide) (by decide) (by decide)
theorem own_bit {x : Int32} : (x &&& 1) = 0 ∨ (x &&& 1) = 1 := by
  have e0 : (0 : Int32).toInt = 0 := rfl
  have e1 : (1 : Int32).toInt = 1 := rfl
  have := iand_rng x 1 (by decide)
  by_cases h : (x &&& 1) = 0
  · exact Or.inl h
  · refine Or.inr ?_
    rw [ieq] at h ⊢
    omega
theorem own_o5 {x v b : Int32} (x0 : 0 ≤ x.toInt) (x1 : x.toInt < 32) (hv : v = 0 ∨ v = 1) (h0 : 0 ≤ b.toInt) (h1 : b.toInt < 5) : 0 ≤ (x ||| (v <<< (b &&& 31))).toInt ∧ (x ||| (v <<< (b &&& 31))).toInt < 32 := by
  have key : ∀ a : Nat, a < 32 → ∀ k : Nat, k < 5 → (0 ≤ (Int32.ofNat a ||| ((0 : Int32) <<< (Int32.ofNat k &&& 31))).toInt ∧ (Int32.ofNat a ||| ((0 : Int32) <<< (Int32.ofNat k &&& 31))).toInt < 32) ∧ (0 ≤ (Int32.ofNat a ||| ((1 : Int32) <<< (Int32.ofNat k &&& 31))).toInt ∧ (Int32.ofNat a ||| ((1 : Int32) <<< (Int32.ofNat k &&& 31))).toInt < 32) := by decide +kernel
  have e := key x.toInt.toNat (by omega) b.toInt.toNat (by omega)
  rw [← own_of h0, ← own_of x0] at e
  rcases hv with h | h <;> rw [h]
  · exact e.1
  · exact e.2
theorem own_rcB {D D' : List Int32} {L rp : Int32} (lD : D.length = 512) (lD' : D'.length = 512) (g : own_ag L.toInt D D') (hL : L.toInt ≤ 512) (r0 : 0 ≤ rp.toInt) (r1 : rp.toInt + 5 ≤ 8 * L.toInt) : own_B (f_readCode D 5 rp) (f_readCode D' 5 rp) (fun r r' => r = r' ∧ 0 ≤ r.1.toInt ∧ r.1.toInt < 32 ∧ r.2.toInt = rp.toInt + 5) := by
  have e0 : (0 : Int32).toInt = 0 := rfl
  have e5 : (5 : Int32).toInt = 5 := rfl
  have e512 : (512 : Int32).toInt = 512 := rfl
  have key : ∀ (n : Nat) (rq v1 v2 : Int32), 0 ≤ v1.toInt → v1.toInt < 32 → 0 ≤ v2.toInt → v2.toInt ≤ 5 → rq.toInt = rp.toInt + v2.toInt → 5 - v2.toInt < n → own_B (f_readCode_4 D 5 n rq v1 v2) (f_readCode_4 D' 5 n rq v1 v2) (fun r r' => r = r' ∧ 0 ≤ r.1.toInt ∧ r.1.toInt < 32 ∧ r.2.toInt = rp.toInt + 5) := by
    intro n
    induction n with
    | zero => intro rq v1 v2 a b c d e f; omega
    | succ n ih =>
      intro rq v1 v2 a b c d e f
      have p := own_p1 (a := v2) (by omega)
      have q := own_p1 (a := rq) (by omega)
      have b8 := (own_b8 (x := rq) (by omega) (by omega)).1
      unfold f_readCode_4 f_readCode_51
      refine own_B.il (fun c1 => ?_) (fun _ => own_B.so ⟨rfl, a, b, by dsimp only; omega⟩)
      refine own_B.il (fun c2 => by omega) (fun _ => own_B.il (fun c3 => ?_) (fun c3 => by omega))
      refine own_B.rd (by omega) (by omega) (by omega) (g _ (by omega) (by omega)) ?_
      have o := own_o5 (x := v1) (b := v2) a b (own_bit (x := (gI D (rq >>> ((3 : Int32) &&& 31)) >>> ((rq &&& (7 : Int32)) &&& 31)))) c (by omega)
      exact ih _ _ _ o.1 o.2 (by omega) (by omega) (by omega) (by omega)
  exact key 100000 rp 0 0 (by decide) (by decide) (by decide) (by decide) (by omega) (by decide)
def own_ln (SL : List Int32) (c : Int32) : Int32 := if c < 16 then 1 else gI SL c
def own_cd (n : Int) (c : Int32) : Prop := 0 ≤ c.toInt ∧ (c.toInt < 16 ∨ (18 ≤ c.toInt ∧ c.toInt < n))
abbrev own_Dt (n : Int) (PF SF FP SL PF' SF' FP' SL' : List Int32) : Prop := (PF.length = 512) ∧ (SF.length = 512) ∧ (FP.length = 512) ∧ (SL.length = 512) ∧ (PF'.length = 512) ∧ (SF'.length = 512) ∧ (FP'.length = 512) ∧ (SL'.length = 512) ∧ (∀ c : Int32, 18 ≤ c.toInt → c.toInt < n → gI PF c = gI PF' c ∧ gI SF c = gI SF' c ∧ gI FP c = gI FP' c ∧ gI SL c = gI SL' c ∧ own_cd c.toInt (gI PF c) ∧ (gI SL c).toInt = (own_ln SL (gI PF c)).toInt + 1 ∧ 2 ≤ (gI SL c).toInt ∧ (gI SL c).toInt ≤ c.toInt)
theorem own_Dt.l1 {n : Int} {PF SF FP SL PF' SF' FP' SL' : List Int32} (self : own_Dt n PF SF FP SL PF' SF' FP' SL') : PF.length = 512 := self.1
theorem own_Dt.l2 {n : Int} {PF SF FP SL PF' SF' FP' SL' : List Int32} (self : own_Dt n PF SF FP SL PF' SF' FP' SL') : SF.length = 512 := self.2.1
theorem own_Dt.l3 {n : Int} {PF SF FP SL PF' SF' FP' SL' : List Int32} (self : own_Dt n PF SF FP SL PF' SF' FP' SL') : FP.length = 512 := self.2.2.1
theorem own_Dt.l4 {n : Int} {PF SF FP SL PF' SF' FP' SL' : List Int32} (self : own_Dt n PF SF FP SL PF' SF' FP' SL') : SL.length = 512 := self.2.2.2.1
theorem own_Dt.m1 {n : Int} {PF SF FP SL PF' SF' FP' SL' : List Int32} (self : own_Dt n PF SF FP SL PF' SF' FP' SL') : PF'.length = 512 := self.2.2.2.2.1
theorem own_Dt.m2 {n : Int} {PF SF FP SL PF' SF' FP' SL' : List Int32} (self : own_Dt n PF SF FP SL PF' SF' FP' SL') : SF'.length = 512 := self.2.2.2.2.2.1
theorem own_Dt.m3 {n : Int} {PF SF FP SL PF' SF' FP' SL' : List Int32} (self : own_Dt n PF SF FP SL PF' SF' FP' SL') : FP'.length = 512 := self.2.2.2.2.2.2.1
theorem own_Dt.m4 {n : Int} {PF SF FP SL PF' SF' FP' SL' : List Int32} (self : own_Dt n PF SF FP SL PF' SF' FP' SL') : SL'.length = 512 := self.2.2.2.2.2.2.2.1
theorem own_Dt.g {n : Int} {PF SF FP SL PF' SF' FP' SL' : List Int32} (self : own_Dt n PF SF FP SL PF' SF' FP' SL') : ∀ c : Int32, 18 ≤ c.toInt → c.toInt < n → gI PF c = gI PF' c ∧ gI SF c = gI SF' c ∧ gI FP c = gI FP' c ∧ gI SL c = gI SL' c ∧ own_cd c.toInt (gI PF c) ∧ (gI SL c).toInt = (own_ln SL (gI PF c)).toInt + 1 ∧ 2 ≤ (gI SL c).toInt ∧ (gI SL c).toInt ≤ c.toInt := self.2.2.2.2.2.2.2.2
theorem own_ln0 {SL : List Int32} {c : Int32} (h : c.toInt < 16) : own_ln SL c = 1 := by
  have e : (16 : Int32).toInt = 16 := rfl
  unfold own_ln
  rw [if_pos (by rw [ilt]; omega)]
theorem own_ln1 {SL : List Int32} {c : Int32} (h : 18 ≤ c.toInt) : own_ln SL c = gI SL c := by
  have e : (16 : Int32).toInt = 16 := rfl
  unfold own_ln
  rw [if_neg (by rw [ilt]; omega)]
theorem own_Dt.ln {n : Int} {PF SF FP SL PF' SF' FP' SL' : List Int32} (t : own_Dt n PF SF FP SL PF' SF' FP' SL') {c : Int32} (h : own_cd n c) : own_ln SL c = own_ln SL' c ∧ 1 ≤ (own_ln SL c).toInt ∧ ((own_ln SL c).toInt = 1 ∨ (own_ln SL c).toInt ≤ c.toInt) := by
  have e1 : (1 : Int32).toInt = 1 := rfl
  obtain ⟨c0, h1 | h1⟩ := h
  · rw [own_ln0 h1, own_ln0 h1]
    exact ⟨rfl, by omega, by omega⟩
  · rw [own_ln1 h1.1, own_ln1 h1.1]
    obtain ⟨_, _, _, q4, _, _, q7, q8⟩ := t.g c h1.1 h1.2
    exact ⟨q4, by omega, Or.inr q8⟩
theorem own_loE {n : Int} {SL : List Int32} (l : SL.length = 512) (hn : n ≤ 32) {c : Int32} (h : own_cd n c) : f_lengthOf SL 16 c = some (own_ln SL c) := by
  have e : (16 : Int32).toInt = 16 := rfl
  have e512 : (512 : Int32).toInt = 512 := rfl
  obtain ⟨c0, h1 | h1⟩ := h
  · unfold f_lengthOf
    rw [own_ln0 h1, if_pos (by rw [ilt]; omega)]
  · unfold f_lengthOf
    rw [own_ln1 h1.1, if_neg (by rw [ilt]; omega), if_pos (by rw [ilt]; omega), rdg c0 (by omega), Option.bind_some]
theorem own_foB {n : Int} {PF SF FP SL PF' SF' FP' SL' : List Int32} (t : own_Dt n PF SF FP SL PF' SF' FP' SL') (hn : n ≤ 32) {c : Int32} (h : own_cd n c) : own_B (f_firstOf FP 16 c) (f_firstOf FP' 16 c) Eq := by
  have e : (16 : Int32).toInt = 16 := rfl
  have e512 : (512 : Int32).toInt = 512 := rfl
  have l3 := t.l3
  have m3 := t.m3
  obtain ⟨c0, h1⟩ := h
  unfold f_firstOf
  refine own_B.il (fun _ => own_B.so rfl) (fun c1 => own_B.il (fun c2 => ?_) (fun _ => own_B.so rfl))
  have h2 := h1.resolve_left (by omega)
  exact own_B.rd c0 (by omega) (by omega) (t.g c h2.1 h2.2).2.2.1 (own_B.so rfl)
theorem own_q1 {v : Int32} (h : 0 ≤ v.toInt + 2) : (v + (-1 : Int32)).toInt = v.toInt - 1 := by
  have e : (-1 : Int32).toInt = -1 := rfl
  have := Int32.toInt_lt v
  rw [iadd_i (by omega) (by omega)]
  omega
theorem own_wsB {n : Int} {PF SF FP SL PF' SF' FP' SL' : List Int32} (t : own_Dt n PF SF FP SL PF' SF' FP' SL') (hn : n ≤ 32) (v3 : Int32) (d E : Int) (d0 : 0 ≤ d) (hE : d + v3.toInt = E) (E1 : E ≤ 15) : ∀ (m : Nat) (SB SB' : List Int32) (v4 v5 v6 : Int32), SB.length = 256 → SB'.length = 256 → (∀ k : Int32, 0 ≤ k.toInt → k.toInt < E → (k.toInt < d ∨ v5.toInt < k.toInt) → gI SB k = gI SB' k) → 0 ≤ v6.toInt → v6.toInt ≤ v3.toInt → v5.toInt = d + (v3.toInt - v6.toInt) - 1 → (v6.toInt < v3.toInt → own_cd n v4 ∧ (own_ln SL v4).toInt = v3.toInt - v6.toInt) → v3.toInt - v6.toInt < m →
    own_B (f_writeString_13 PF SF 16 m SB v3 v4 v5 v6) (f_writeString_13 PF' SF' 16 m SB' v3 v4 v5 v6) (fun A A' => A.length = 256 ∧ A'.length = 256 ∧ own_ag E A A') := by
  intro m
  have e0 : (0 : Int32).toInt = 0 := rfl
  have e16 : (16 : Int32).toInt = 16 := rfl
  have e256 : (256 : Int32).toInt = 256 := rfl
  have e512 : (512 : Int32).toInt = 512 := rfl
  have em1 : (-1 : Int32).toInt = -1 := rfl
  have e1 : (1 : Int32).toInt = 1 := rfl
  have l1 := t.l1
  have l2 := t.l2
  have m1 := t.m1
  have m2 := t.m2
  induction m with
  | zero => intro SB SB' v4 v5 v6 a1 a2 a3 a4 a5 a6 a7 a8; omega
  | succ m ih =>
    intro SB SB' v4 v5 v6 a1 a2 a3 a4 a5 a6 a7 a8
    obtain ⟨w5, hw5, p5⟩ : ∃ w : Int32, v5 + (-1 : Int32) = w ∧ w.toInt = v5.toInt - 1 := ⟨_, rfl, own_q1 (by omega)⟩
    have p6 := own_p1 (a := v6) (by omega)
    unfold f_writeString_13
    refine own_B.il (fun c1 => ?_) (fun c1 => own_B.so ⟨a1, a2, fun k k0 k1 => a3 k k0 k1 (by omega)⟩)
    obtain ⟨⟨h0, h1⟩, h2⟩ := a7 c1
    refine own_B.il (fun c2 => ?_) (fun c2 => by omega)
    refine own_B.il (fun c3 => by omega) (fun c3 => ?_)
    refine own_B.il (fun c4 => ?_) (fun c4 => by omega)
    have nx : ∀ (x w : Int32), (v6.toInt + 1 < v3.toInt → own_cd n w ∧ (own_ln SL w).toInt = v3.toInt - (v6.toInt + 1)) → own_B (f_writeString_13 PF SF 16 m (SB.set v5.toInt.toNat x) v3 w w5 (v6 + 1)) (f_writeString_13 PF' SF' 16 m (SB'.set v5.toInt.toNat x) v3 w w5 (v6 + 1)) (fun A A' => A.length = 256 ∧ A'.length = 256 ∧ own_ag E A A') := by
      intro x w hw
      refine ih _ _ _ _ _ (by rw [List.length_set]; exact a1) (by rw [List.length_set]; exact a2) ?_ (by omega) (by omega) (by omega) (fun q => ?_) (by omega)
      · intro k k0 k1 k2
        rw [gset (by omega) (by omega) k0, gset (by omega) (by omega) k0]
        by_cases z : v5 = k
        · rw [if_pos z, if_pos z]
        · rw [if_neg z, if_neg z]
          rw [ieq] at z
          exact a3 k k0 k1 (by omega)
      · have := hw (by omega)
        rw [p6]
        exact this
    unfold f_writeString_62 f_writeString_86
    rw [hw5]
    refine own_B.il (fun c5 => ?_) (fun c5 => ?_)
    · refine own_B.il (fun c6 => by omega) (fun c6 => own_B.il (fun c7 => ?_) (fun c7 => by omega))
      refine own_B.wr (by omega) (by omega) (by omega) ?_
      refine own_B.il (fun c8 => ?_) (fun c8 => by omega)
      refine nx _ _ (fun q => ?_)
      rw [own_ln0 (by omega)] at h2
      omega
    · have h3 := h1.resolve_left (by omega)
      obtain ⟨q1, q2, q3, q4, q5, q6, q7, q8⟩ := t.g v4 h3.1 h3.2
      refine own_B.rd (by omega) (by omega) (by omega) q2 ?_
      refine own_B.il (fun c6 => by omega) (fun c6 => own_B.il (fun c7 => ?_) (fun c7 => by omega))
      refine own_B.wr (by omega) (by omega) (by omega) ?_
      refine own_B.il (fun c8 => by omega) (fun c8 => ?_)
      refine own_B.rd (by omega) (by omega) (by omega) q1 ?_
      refine nx _ _ (fun q => ⟨⟨q5.1, ?_⟩, ?_⟩)
      · rcases q5.2 with z | z
        · exact Or.inl z
        · exact Or.inr ⟨z.1, by omega⟩
      · rw [own_ln1 h3.1] at h2
        omega
def own_Ad (n : Int) (r r' : List Int32 × List Int32 × List Int32 × List Int32 × Int32 × Int32) : Prop := ∃ (PF SF FP SL PF' SF' FP' SL' : List Int32) (DN : Int32), r = (PF, SF, FP, SL, 5, DN) ∧ r' = (PF', SF', FP', SL', 5, DN) ∧ DN.toInt = n ∧ own_Dt n PF SF FP SL PF' SF' FP' SL'
theorem own_dw (x : Int32) : (if x = ((1 : Int32) <<< ((5 : Int32) &&& 31)) then (if (5 : Int32) < 5 then ((5 : Int32) + (1 : Int32)) else 5) else 5) = (5 : Int32) := by
  split
  · decide
  · rfl
theorem own_adB {DN : Int32} {PF SF FP SL PF' SF' FP' SL' : List Int32} (t : own_Dt DN.toInt PF SF FP SL PF' SF' FP' SL') (n0 : 18 ≤ DN.toInt) (n1 : DN.toInt < 32) {v1 : Int32} (h : own_cd DN.toInt v1) (v2 : Int32) : own_B (f_addDecoderCode 16 5 PF SF FP SL 5 DN v1 v2) (f_addDecoderCode 16 5 PF' SF' FP' SL' 5 DN v1 v2) (own_Ad (DN.toInt + 1)) := by
  have e0 : (0 : Int32).toInt = 0 := rfl
  have e1 : (1 : Int32).toInt = 1 := rfl
  have e512 : (512 : Int32).toInt = 512 := rfl
  have pn := own_p1 (a := DN) (by omega)
  obtain ⟨l1, l2, l3, l4, m1, m2, m3, m4, g⟩ := id t
  obtain ⟨z1, z2, z3⟩ := t.ln h
  unfold f_addDecoderCode f_addDecoderCode_54
  refine own_B.il (fun c => by omega) (fun _ => own_B.il (fun c => ?_) (fun c => by omega))
  refine own_B.wr (by omega) (by omega) (by omega) ?_
  refine own_B.wr (by omega) (by omega) (by omega) ?_
  refine own_B.bd (own_foB t (by omega) h) ?_
  rintro r _ rfl
  refine own_B.wr (by omega) (by omega) (by omega) ?_
  rw [own_loE l4 (by omega) h, own_loE m4 (by omega) h, ← z1, Option.bind_some, Option.bind_some]
  refine own_B.wr (by omega) (by omega) (by omega) ?_
  rw [own_dw]
  have hv : v1.toInt < DN.toInt := by have := h.2; omega
  have pl := own_p1 (a := own_ln SL v1) (by omega)
  have S1 : ∀ (A : List Int32) (x c : Int32), A.length = 512 → 0 ≤ c.toInt → c.toInt < DN.toInt → gI (A.set DN.toInt.toNat x) c = gI A c := by
    intro A x c lA c0 c1
    rw [gset (by omega) (by omega) c0, if_neg (by rw [ieq]; omega)]
  have S2 : ∀ (A : List Int32) (x c : Int32), A.length = 512 → c.toInt = DN.toInt → gI (A.set DN.toInt.toNat x) c = x := by
    intro A x c lA c1
    rw [gset (by omega) (by omega) (by omega), if_pos (by rw [ieq]; omega)]
  have S3 : ∀ (A : List Int32) (x c : Int32), A.length = 512 → 0 ≤ c.toInt → c.toInt < DN.toInt → own_ln (A.set DN.toInt.toNat x) c = own_ln A c := by
    intro A x c lA c0 c1
    unfold own_ln
    rw [S1 A x c lA c0 c1]
  refine own_B.so ⟨_, _, _, _, _, _, _, _, _, rfl, rfl, pn, ?_⟩
  refine ⟨by rw [List.length_set]; exact l1, by rw [List.length_set]; exact l2, by rw [List.length_set]; exact l3, by rw [List.length_set]; exact l4, by rw [List.length_set]; exact m1, by rw [List.length_set]; exact m2, by rw [List.length_set]; exact m3, by rw [List.length_set]; exact m4, ?_⟩
  intro c c0 c1
  by_cases q : c.toInt = DN.toInt
  · rw [S2 PF _ c l1 q, S2 SF _ c l2 q, S2 FP _ c l3 q, S2 SL _ c l4 q, S2 PF' _ c m1 q, S2 SF' _ c m2 q, S2 FP' _ c m3 q, S2 SL' _ c m4 q, S3 SL _ v1 l4 h.1 hv, pl, q]
    exact ⟨rfl, rfl, rfl, rfl, h, rfl, by omega, by omega⟩
  · obtain ⟨q1, q2, q3, q4, q5, q6, q7, q8⟩ := g c c0 (by omega)
    have q9 : (gI PF c).toInt < DN.toInt := by have := q5.2; omega
    rw [S1 PF _ c l1 (by omega) (by omega), S1 SF _ c l2 (by omega) (by omega), S1 FP _ c l3 (by omega) (by omega), S1 SL _ c l4 (by omega) (by omega), S1 PF' _ c m1 (by omega) (by omega), S1 SF' _ c m2 (by omega) (by omega), S1 FP' _ c m3 (by omega) (by omega), S1 SL' _ c m4 (by omega) (by omega), S3 SL _ _ l4 q5.1 q9]
    exact ⟨q1, q2, q3, q4, q5, q6, q7, q8⟩
abbrev own_Hs (SB PF SF FP SL SB' PF' SF' FP' SL' : List Int32) (DN DP DC : Int32) : Prop := (SB.length = 256) ∧ (SB'.length = 256) ∧ (own_ag DC.toInt SB SB') ∧ (own_Dt DN.toInt PF SF FP SL PF' SF' FP' SL') ∧ (18 ≤ DN.toInt) ∧ (DN.toInt ≤ 32) ∧ (DP.toInt < 0 ∨ own_cd DN.toInt DP) ∧ (0 ≤ DC.toInt) ∧ (DC.toInt ≤ 15)
theorem own_Hs.s {SB PF SF FP SL SB' PF' SF' FP' SL' : List Int32} {DN DP DC : Int32} (self : own_Hs SB PF SF FP SL SB' PF' SF' FP' SL' DN DP DC) : SB.length = 256 := self.1
theorem own_Hs.s' {SB PF SF FP SL SB' PF' SF' FP' SL' : List Int32} {DN DP DC : Int32} (self : own_Hs SB PF SF FP SL SB' PF' SF' FP' SL' DN DP DC) : SB'.length = 256 := self.2.1
theorem own_Hs.a {SB PF SF FP SL SB' PF' SF' FP' SL' : List Int32} {DN DP DC : Int32} (self : own_Hs SB PF SF FP SL SB' PF' SF' FP' SL' DN DP DC) : own_ag DC.toInt SB SB' := self.2.2.1
theorem own_Hs.t {SB PF SF FP SL SB' PF' SF' FP' SL' : List Int32} {DN DP DC : Int32} (self : own_Hs SB PF SF FP SL SB' PF' SF' FP' SL' DN DP DC) : own_Dt DN.toInt PF SF FP SL PF' SF' FP' SL' := self.2.2.2.1
theorem own_Hs.n0 {SB PF SF FP SL SB' PF' SF' FP' SL' : List Int32} {DN DP DC : Int32} (self : own_Hs SB PF SF FP SL SB' PF' SF' FP' SL' DN DP DC) : 18 ≤ DN.toInt := self.2.2.2.2.1
theorem own_Hs.n1 {SB PF SF FP SL SB' PF' SF' FP' SL' : List Int32} {DN DP DC : Int32} (self : own_Hs SB PF SF FP SL SB' PF' SF' FP' SL' DN DP DC) : DN.toInt ≤ 32 := self.2.2.2.2.2.1
theorem own_Hs.p {SB PF SF FP SL SB' PF' SF' FP' SL' : List Int32} {DN DP DC : Int32} (self : own_Hs SB PF SF FP SL SB' PF' SF' FP' SL' DN DP DC) : DP.toInt < 0 ∨ own_cd DN.toInt DP := self.2.2.2.2.2.2.1
theorem own_Hs.c0 {SB PF SF FP SL SB' PF' SF' FP' SL' : List Int32} {DN DP DC : Int32} (self : own_Hs SB PF SF FP SL SB' PF' SF' FP' SL' DN DP DC) : 0 ≤ DC.toInt := self.2.2.2.2.2.2.2.1
theorem own_Hs.c1 {SB PF SF FP SL SB' PF' SF' FP' SL' : List Int32} {DN DP DC : Int32} (self : own_Hs SB PF SF FP SL SB' PF' SF' FP' SL' DN DP DC) : DC.toInt ≤ 15 := self.2.2.2.2.2.2.2.2
def own_Hr (r r' : Int32 × List Int32 × List Int32 × List Int32 × List Int32 × List Int32 × Int32 × Int32 × Int32 × Int32) : Prop := ∃ (x : Int32) (SB PF SF FP SL SB' PF' SF' FP' SL' : List Int32) (DN DP DC : Int32), r = (x, SB, PF, SF, FP, SL, 5, DN, DP, DC) ∧ r' = (x, SB', PF', SF', FP', SL', 5, DN, DP, DC) ∧ own_Hs SB PF SF FP SL SB' PF' SF' FP' SL' DN DP DC
theorem own_h6B {SB PF SF FP SL SB' PF' SF' FP' SL' : List Int32} {DN DP DC v1 : Int32} (h : own_Hs SB PF SF FP SL SB' PF' SF' FP' SL' DN DP DC) (v2 : Int32) (hv : own_cd DN.toInt v1 ∨ (v1.toInt = DN.toInt ∧ DN.toInt < 32 ∧ 0 ≤ DP.toInt)) : own_B (f_handleCode_206 15 9 16 5 32 SB PF SF FP SL 5 DN DP DC v1 v2) (f_handleCode_206 15 9 16 5 32 SB' PF' SF' FP' SL' 5 DN DP DC v1 v2) own_Hr := by
  have e0 : (0 : Int32).toInt = 0 := rfl
  have e32 : (32 : Int32).toInt = 32 := rfl
  obtain ⟨s, s', a, t, n0, n1, p, c0, c1⟩ := h
  unfold f_handleCode_206 f_handleCode_233
  refine own_B.il (fun q => ?_) (fun q => own_B.il (fun q2 => ?_) (fun q2 => ?_))
  · exact own_B.so ⟨0, SB, PF, SF, FP, SL, SB', PF', SF', FP', SL', DN, v1, DC, rfl, rfl, s, s', a, t, n0, n1, Or.inr (hv.resolve_right (by omega)), c0, c1⟩
  · refine own_B.bd (own_adB t n0 (by omega) (p.resolve_left (by omega)) v2) ?_
    rintro _ _ ⟨PF1, SF1, FP1, SL1, PF2, SF2, FP2, SL2, DN1, rfl, rfl, hn, t1⟩
    rw [← hn] at t1
    refine own_B.so ⟨0, SB, PF1, SF1, FP1, SL1, SB', PF2, SF2, FP2, SL2, DN1, v1, DC, rfl, rfl, s, s', a, t1, by omega, by omega, Or.inr ?_, c0, c1⟩
    rcases hv with z | z
    · exact ⟨z.1, by have := z.2; omega⟩
    · exact ⟨by omega, Or.inr (by omega)⟩
  · exact own_B.so ⟨0, SB, PF, SF, FP, SL, SB', PF', SF', FP', SL', DN, v1, DC, rfl, rfl, s, s', a, t, n0, n1, Or.inr (hv.resolve_right (by omega)), c0, c1⟩
theorem own_h5B {SB PF SF FP SL SB' PF' SF' FP' SL' : List Int32} {DN DP DC v1 : Int32} (h : own_Hs SB PF SF FP SL SB' PF' SF' FP' SL' DN DP DC) (v0 : 0 ≤ v1.toInt) (v32 : v1.toInt < 32) (hd : DP.toInt < 0 → v1.toInt < 16) (hn : v1.toInt ≤ DN.toInt) (h16 : v1.toInt < 16 ∨ 18 ≤ v1.toInt) : own_B (f_handleCode_55 15 9 16 5 32 SB PF SF FP SL 5 DN DP DC v1) (f_handleCode_55 15 9 16 5 32 SB' PF' SF' FP' SL' 5 DN DP DC v1) own_Hr := by
  have e0 : (0 : Int32).toInt = 0 := rfl
  have e1 : (1 : Int32).toInt = 1 := rfl
  have e15 : (15 : Int32).toInt = 15 := rfl
  have e256 : (256 : Int32).toInt = 256 := rfl
  obtain ⟨s, s', a, t, n0, n1, p, c0, c1⟩ := id h
  unfold f_handleCode_55 f_writeString
  refine own_B.il (fun q => ?_) (fun q => ?_)
  · have hv : own_cd DN.toInt v1 := ⟨v0, by omega⟩
    obtain ⟨z1, z2, z3⟩ := t.ln hv
    rw [own_loE t.l4 n1 hv, own_loE t.m4 n1 hv, ← z1, Option.bind_some, Option.bind_some]
    generalize hr : own_ln SL v1 = r at z2 z3
    have ps : (DC + r).toInt = DC.toInt + r.toInt := iadd_i (by omega) (by omega)
    refine own_B.il (fun _ => own_B.so ⟨-7, SB, PF, SF, FP, SL, SB', PF', SF', FP', SL', DN, DP, DC, rfl, rfl, h⟩) (fun q2 => ?_)
    have pm := own_m1 (a := DC + r) (by omega)
    refine own_B.bd (own_wsB t n1 r DC.toInt (DC.toInt + r.toInt) c0 rfl (by omega) 100000 SB SB' v1 (DC + r - 1) 0 s s' (fun k k0 k1 k2 => a k k0 (by omega)) (by omega) (by omega) (by omega) (fun _ => ⟨hv, by rw [hr]; omega⟩) (by omega)) ?_
    rintro A A' ⟨w1, w2, w3⟩
    refine own_B.bd (own_foB t n1 hv) ?_
    rintro f _ rfl
    exact own_h6B ⟨w1, w2, w3.mn (by omega), t, n0, n1, p, by omega, by omega⟩ f (Or.inl hv)
  · have hp : own_cd DN.toInt DP := p.resolve_left (fun z => by have := hd z; omega)
    have hp0 : 0 ≤ DP.toInt := hp.1
    have hvn : v1.toInt = DN.toInt := by omega
    obtain ⟨z1, z2, z3⟩ := t.ln hp
    rw [own_loE t.l4 n1 hp, own_loE t.m4 n1 hp, ← z1, Option.bind_some, Option.bind_some]
    generalize hr : own_ln SL DP = r at z2 z3
    have hb : r.toInt ≤ 32 := by have := hp.2; omega
    have p1 := own_p1 (a := r) (by omega)
    have ps : (DC + (r + 1)).toInt = DC.toInt + r.toInt + 1 := by rw [iadd_i (by omega) (by omega)]; omega
    have er : r + 1 - 1 = r := by
      have := own_m1 (a := r + 1) (by omega)
      rw [ieq]
      omega
    rw [er]
    have pq : (DC + r).toInt = DC.toInt + r.toInt := iadd_i (by omega) (by omega)
    have ed : DC + (r + 1) - 1 = DC + r := by
      have := own_m1 (a := DC + (r + 1)) (by omega)
      rw [ieq]
      omega
    rw [ed]
    refine own_B.il (fun _ => own_B.so ⟨-7, SB, PF, SF, FP, SL, SB', PF', SF', FP', SL', DN, DP, DC, rfl, rfl, h⟩) (fun q2 => ?_)
    have pm := own_m1 (a := DC + r) (by omega)
    refine own_B.bd (own_wsB t n1 r DC.toInt (DC.toInt + r.toInt) c0 rfl (by omega) 100000 SB SB' DP (DC + r - 1) 0 s s' (fun k k0 k1 k2 => a k k0 (by omega)) (by omega) (by omega) (by omega) (fun _ => ⟨hp, by rw [hr]; omega⟩) (by omega)) ?_
    rintro A A' ⟨w1, w2, w3⟩
    refine own_B.bd (own_foB t n1 hp) ?_
    rintro f _ rfl
    refine own_B.il (fun q3 => by omega) (fun q3 => own_B.il (fun q4 => ?_) (fun q4 => by omega))
    refine own_B.wr (by omega) (by omega) (by omega) ?_
    unfold f_handleCode_196
    exact own_h6B ⟨by rw [List.length_set]; exact w1, by rw [List.length_set]; exact w2, w3.st f (by omega) (by omega) (by omega) (Or.inr (by omega)), t, n0, n1, p, by omega, by omega⟩ f (Or.inr ⟨hvn, by omega, hp0⟩)
theorem own_hcB {SB PF SF FP SL SB' PF' SF' FP' SL' : List Int32} {DN DP DC v1 : Int32} (h : own_Hs SB PF SF FP SL SB' PF' SF' FP' SL' DN DP DC) (v0 : 0 ≤ v1.toInt) (v32 : v1.toInt < 32) (h16 : ¬ v1 = 16) (h17 : ¬ v1 = 16 + 1) : own_B (f_handleCode 15 9 16 5 32 SB PF SF FP SL 5 DN DP DC v1) (f_handleCode 15 9 16 5 32 SB' PF' SF' FP' SL' 5 DN DP DC v1) own_Hr := by
  have e0 : (0 : Int32).toInt = 0 := rfl
  have e16 : (16 : Int32).toInt = 16 := rfl
  have e17 : ((16 : Int32) + 1).toInt = 17 := rfl
  have e9 : (9 : Int32).toInt = 9 := rfl
  have n0 := h.n0
  rw [ieq] at h16 h17
  have st : ∀ x : Int32, own_B (some (x, SB, PF, SF, FP, SL, (5 : Int32), DN, DP, DC)) (some (x, SB', PF', SF', FP', SL', (5 : Int32), DN, DP, DC)) own_Hr := fun x => own_B.so ⟨x, SB, PF, SF, FP, SL, SB', PF', SF', FP', SL', DN, DP, DC, rfl, rfl, h⟩
  have k36 : (DP.toInt < 0 → v1.toInt < 16) → v1.toInt ≤ DN.toInt → own_B (f_handleCode_36 15 9 16 5 32 SB PF SF FP SL 5 DN DP DC v1) (f_handleCode_36 15 9 16 5 32 SB' PF' SF' FP' SL' 5 DN DP DC v1) own_Hr := by
    intro hd hn
    have g := own_h5B h v0 v32 hd hn (by omega)
    unfold f_handleCode_36
    exact own_B.il (fun _ => own_B.il (fun _ => g) (fun _ => st _)) (fun _ => g)
  have k18 : (DP.toInt < 0 → v1.toInt < 16) → own_B (f_handleCode_18 15 9 16 5 32 SB PF SF FP SL 5 DN DP DC v1) (f_handleCode_18 15 9 16 5 32 SB' PF' SF' FP' SL' 5 DN DP DC v1) own_Hr := by
    intro hd
    unfold f_handleCode_18
    refine own_B.il (fun q => k36 hd ?_) (fun _ => own_B.il (fun _ => st _) (fun q => k36 hd q))
    have := hd (by omega)
    omega
  unfold f_handleCode
  exact own_B.il (fun q => own_B.il (fun q2 => k18 (fun _ => by omega)) (fun _ => st _)) (fun q => k18 (fun z => by omega))
def own_Lt (SB PF SF FP SL : List Int32) : Prop := SB.length = 256 ∧ PF.length = 512 ∧ SF.length = 512 ∧ FP.length = 512 ∧ SL.length = 512
def own_Dr (r r' : Int32 × List Int32 × List Int32 × List Int32 × List Int32 × List Int32 × Int32 × Int32 × Int32 × Int32 × Int32) : Prop := ∃ (x : Int32) (SB PF SF FP SL SB' PF' SF' FP' SL' : List Int32) (rp DW DN DP DC : Int32), r = (x, SB, PF, SF, FP, SL, rp, DW, DN, DP, DC) ∧ r' = (x, SB', PF', SF', FP', SL', rp, DW, DN, DP, DC) ∧ own_Lt SB PF SF FP SL ∧ own_Lt SB' PF' SF' FP' SL' ∧ own_ag DC.toInt SB SB'
theorem own_Hs.lt {SB PF SF FP SL SB' PF' SF' FP' SL' : List Int32} {DN DP DC : Int32} (h : own_Hs SB PF SF FP SL SB' PF' SF' FP' SL' DN DP DC) : own_Lt SB PF SF FP SL ∧ own_Lt SB' PF' SF' FP' SL' ∧ own_ag DC.toInt SB SB' :=
  ⟨⟨h.s, h.t.l1, h.t.l2, h.t.l3, h.t.l4⟩, ⟨h.s', h.t.m1, h.t.m2, h.t.m3, h.t.m4⟩, h.a⟩
theorem own_d45 {D D' : List Int32} {L v1 : Int32} (lD : D.length = 512) (lD' : D'.length = 512) (g : own_ag L.toInt D D') (hL0 : 0 ≤ L.toInt) (hL : L.toInt ≤ 512) (hv : v1.toInt = 8 * L.toInt) : ∀ (n : Nat) (SB PF SF FP SL SB' PF' SF' FP' SL' : List Int32) (rp DN DP DC v2 : Int32), own_Hs SB PF SF FP SL SB' PF' SF' FP' SL' DN DP DC → 0 ≤ rp.toInt → rp.toInt ≤ 8 * L.toInt → 0 ≤ v2.toInt → v2.toInt ≤ 5000 → 5001 - v2.toInt ≤ n →
    own_B (f_decompress_45 D 15 9 4 16 5 32 L n SB PF SF FP SL rp 5 DN DP DC v1 v2) (f_decompress_45 D' 15 9 4 16 5 32 L n SB' PF' SF' FP' SL' rp 5 DN DP DC v1 v2) own_Dr := by
  intro n
  have e5 : (5 : Int32).toInt = 5 := rfl
  have e5000 : (5000 : Int32).toInt = 5000 := rfl
  have f5 : (4 : Int32) + 1 = 5 := rfl
  have f18 : (16 : Int32) + 2 = 18 := rfl
  induction n with
  | zero => intro SB PF SF FP SL SB' PF' SF' FP' SL' rp DN DP DC v2 h a b c d e; omega
  | succ n ih =>
    intro SB PF SF FP SL SB' PF' SF' FP' SL' rp DN DP DC v2 h a b c d e
    have p := own_p1 (a := v2) (by omega)
    have pv : (v1 - rp).toInt = v1.toInt - rp.toInt := isub_i (by omega) (by omega)
    have st : ∀ x rq : Int32, own_B (some (x, SB, PF, SF, FP, SL, rq, (5 : Int32), DN, DP, DC)) (some (x, SB', PF', SF', FP', SL', rq, (5 : Int32), DN, DP, DC)) own_Dr := fun x rq => own_B.so ⟨x, SB, PF, SF, FP, SL, SB', PF', SF', FP', SL', rq, 5, DN, DP, DC, rfl, rfl, h.lt⟩
    unfold f_decompress_45
    refine own_B.il (fun c1 => own_B.il (fun _ => st _ _) (fun c2 => ?_)) (fun _ => st _ _)
    refine own_B.bd (own_rcB lD lD' g hL a (by omega)) ?_
    rintro ⟨r, s⟩ _ ⟨rfl, r0, r1, r2⟩
    dsimp only at r0 r1 r2
    refine own_B.it (fun _ => ?_) (fun q1 => own_B.it (fun _ => st _ _) (fun q2 => ?_))
    · rw [f5, f18]
      have t := h.t
      exact ih _ _ _ _ _ _ _ _ _ _ s 18 (-1) DC _ ⟨h.s, h.s', h.a, ⟨t.l1, t.l2, t.l3, t.l4, t.m1, t.m2, t.m3, t.m4, fun c x y => by have : (18 : Int32).toInt = 18 := rfl; omega⟩, by decide, by decide, Or.inl (by decide), h.c0, h.c1⟩ (by omega) (by omega) (by omega) (by omega) (by omega)
    · refine own_B.bd (own_hcB h r0 r1 q1 q2) ?_
      rintro _ _ ⟨x, SB1, PF1, SF1, FP1, SL1, SB2, PF2, SF2, FP2, SL2, DN1, DP1, DC1, rfl, rfl, h1⟩
      refine own_B.it (fun _ => ?_) (fun _ => ?_)
      · exact ih _ _ _ _ _ _ _ _ _ _ s DN1 DP1 DC1 _ h1 (by omega) (by omega) (by omega) (by omega) (by omega)
      · exact own_B.so ⟨x, SB1, PF1, SF1, FP1, SL1, SB2, PF2, SF2, FP2, SL2, s, 5, DN1, DP1, DC1, rfl, rfl, h1.lt⟩
def own_Sr (r r' : Int32 × List Int32 × List Int32 × List Int32 × List Int32 × List Int32 × List Int32 × Int32 × Int32 × Int32 × Int32 × Int32 × Int32) : Prop := ∃ (x : Int32) (SB D PF SF FP SL SB' D' PF' SF' FP' SL' : List Int32) (n1 n2 n3 n4 n5 n6 m1 m2 m3 m4 m5 m6 : Int32), r = (x, SB, D, PF, SF, FP, SL, n1, n2, n3, n4, n5, n6) ∧ r' = (x, SB', D', PF', SF', FP', SL', m1, m2, m3, m4, m5, m6) ∧ own_Lt SB PF SF FP SL ∧ own_Lt SB' PF' SF' FP' SL' ∧ D.length = 512 ∧ D'.length = 512 ∧ (x = 0 → own_ag 15 SB SB')
theorem own_dsB {IN SB D PF SF FP SL SB' D' PF' SF' FP' SL' : List Int32} {IL : Int32} (lI : IN.length = 512) (rI : own_R 256 IN) (i0 : 0 ≤ IL.toInt) (i1 : IL.toInt ≤ 512) (t : own_Lt SB PF SF FP SL) (t' : own_Lt SB' PF' SF' FP' SL') (lD : D.length = 512) (lD' : D'.length = 512) (n1 n2 n3 n4 n5 n6 m1 m2 m3 m4 m5 m6 : Int32) :
    own_B (f_decodeSteps IN 15 9 4 16 5 32 IL SB D PF SF FP SL n1 n2 n3 n4 n5 n6) (f_decodeSteps IN 15 9 4 16 5 32 IL SB' D' PF' SF' FP' SL' m1 m2 m3 m4 m5 m6) own_Sr := by
  have e0 : (0 : Int32).toInt = 0 := rfl
  have e8 : (8 : Int32).toInt = 8 := rfl
  have e15 : (15 : Int32).toInt = 15 := rfl
  have f5 : (4 : Int32) + 1 = 5 := rfl
  have f18 : (16 : Int32) + 2 = 18 := rfl
  unfold f_decodeSteps f_decompress
  refine own_B.it (fun _ => own_B.so ⟨-1, SB, D, PF, SF, FP, SL, SB', D', PF', SF', FP', SL', n1, n2, n3, n4, n5, n6, m1, m2, m3, m4, m5, m6, rfl, rfl, t, t', lD, lD', fun h => absurd h (by decide)⟩) (fun cz => ?_)
  refine own_B.rd (by decide) (by omega) (by omega) rfl ?_
  refine own_B.it (fun _ => ?_) (fun _ => own_B.so ⟨-2, SB, D, PF, SF, FP, SL, SB', D', PF', SF', FP', SL', n1, n2, n3, n4, n5, n6, m1, m2, m3, m4, m5, m6, rfl, rfl, t, t', lD, lD', fun h => absurd h (by decide)⟩)
  refine own_B.bd (own_gbB n1 m1 lI rI i0 i1 lD lD') ?_
  rintro _ _ ⟨x, A, A', L, rfl, rfl, a1, a2, a3, a4, a5⟩
  refine own_B.it (fun _ => own_B.so ⟨-3, SB, A, PF, SF, FP, SL, SB', A', PF', SF', FP', SL', L, n2, n3, n4, n5, n6, L, m2, m3, m4, m5, m6, rfl, rfl, t, t', a1, a2, fun h => absurd h (by decide)⟩) (fun _ => ?_)
  rw [f5, f18]
  have pv : (L * 8).toInt = 8 * L.toInt := by rw [imul_e, e8]; omega
  refine own_B.bd (own_d45 a1 a2 a3 a4 a5 pv 100000 SB PF SF FP SL SB' PF' SF' FP' SL' 0 18 (-1) 0 0 ⟨t.1, t'.1, own_ag.z _ _ (by decide), ⟨t.2.1, t.2.2.1, t.2.2.2.1, t.2.2.2.2, t'.2.1, t'.2.2.1, t'.2.2.2.1, t'.2.2.2.2, fun c x y => by have : (18 : Int32).toInt = 18 := rfl; omega⟩, by decide, by decide, Or.inl (by decide), by decide, by decide⟩ (by decide) (by omega) (by decide) (by decide) (by decide)) ?_
  rintro _ _ ⟨y, SB1, PF1, SF1, FP1, SL1, SB2, PF2, SF2, FP2, SL2, rp, DW, DN, DP, DC, rfl, rfl, u1, u2, u3⟩
  refine own_B.so ⟨_, SB1, A, PF1, SF1, FP1, SL1, SB2, A', PF2, SF2, FP2, SL2, L, rp, DW, DN, DP, DC, L, rp, DW, DN, DP, DC, rfl, rfl, u1, u2, a1, a2, fun h => ?_⟩
  by_cases hy : y = 0
  · rw [if_pos hy] at h
    by_cases hc : DC < 15
    · rw [if_pos hc] at h
      exact absurd h (by decide)
    · rw [ilt] at hc
      exact u3.mn (by omega)
  · rw [if_neg hy] at h
    exact absurd h hy
def own_Ls (DX RO SB D PF SF FP SL : List Int32) : Prop := DX.length = 256 ∧ RO.length = 16 ∧ D.length = 512 ∧ own_Lt SB PF SF FP SL
def own_De (r r' : Int32 × List Int32 × List Int32 × List Int32 × List Int32 × List Int32 × List Int32 × List Int32 × List Int32 × Int32 × Int32 × Int32 × Int32 × Int32 × Int32 × Int32 × Int32) : Prop := ∃ (x : Int32) (DX RO SB D PF SF FP SL DX' RO' SB' D' PF' SF' FP' SL' : List Int32) (hd st n1 n2 n3 n4 n5 n6 st' m1 m2 m3 m4 m5 m6 : Int32), r = (x, DX, RO, SB, D, PF, SF, FP, SL, hd, st, n1, n2, n3, n4, n5, n6) ∧ r' = (x, DX', RO', SB', D', PF', SF', FP', SL', hd, st', m1, m2, m3, m4, m5, m6) ∧ own_Ls DX RO SB D PF SF FP SL ∧ own_Ls DX' RO' SB' D' PF' SF' FP' SL' ∧ (hd = 0 ∨ own_ag 15 DX DX')
theorem own_deB {IN DX RO SB D PF SF FP SL DX' RO' SB' D' PF' SF' FP' SL' : List Int32} {IL : Int32} (I : Int32) (lI : IN.length = 512) (rI : own_R 256 IN) (i0 : 0 ≤ IL.toInt) (i1 : IL.toInt ≤ 512) (t : own_Ls DX RO SB D PF SF FP SL) (t' : own_Ls DX' RO' SB' D' PF' SF' FP' SL') (hd st n1 n2 n3 n4 n5 n6 hd' st' m1 m2 m3 m4 m5 m6 : Int32) :
    own_B (f_decode IN 3 5 15 9 4 16 5 32 I IL DX RO SB D PF SF FP SL hd st n1 n2 n3 n4 n5 n6) (f_decode IN 3 5 15 9 4 16 5 32 I IL DX' RO' SB' D' PF' SF' FP' SL' hd' st' m1 m2 m3 m4 m5 m6) own_De := by
  have e0 : (0 : Int32).toInt = 0 := rfl
  have e15 : (15 : Int32).toInt = 15 := rfl
  have e256 : (256 : Int32).toInt = 256 := rfl
  obtain ⟨lX, lR, lD, lt⟩ := t
  obtain ⟨lX', lR', lD', lt'⟩ := t'
  unfold f_decode
  refine own_B.bd (own_dsB lI rI i0 i1 lt lt' lD lD' n1 n2 n3 n4 n5 n6 m1 m2 m3 m4 m5 m6) ?_
  rintro _ _ ⟨x, SB1, D1, PF1, SF1, FP1, SL1, SB2, D2, PF2, SF2, FP2, SL2, a1, a2, a3, a4, a5, a6, b1, b2, b3, b4, b5, b6, rfl, rfl, u1, u2, d1, d2, g⟩
  refine own_B.it (fun hx => ?_) (fun hx => own_B.so ⟨x, DX, RO, SB1, D1, PF1, SF1, FP1, SL1, DX', RO', SB2, D2, PF2, SF2, FP2, SL2, 0, x, a1, a2, a3, a4, a5, a6, x, b1, b2, b3, b4, b5, b6, rfl, rfl, ⟨lX, lR, d1, u1⟩, ⟨lX', lR', d2, u2⟩, Or.inl rfl⟩)
  have ga := g hx
  obtain ⟨R1, h1, w1⟩ := own_ro I lR
  obtain ⟨R2, h2, w2⟩ := own_ro I lR'
  rw [h1, h2, Option.bind_some, Option.bind_some]
  clear h1 h2
  have ls1 := u1.1
  have ls2 := u2.1
  have key : ∀ (n : Nat) (DX DX' : List Int32) (v : Int32), DX.length = 256 → DX'.length = 256 → (∀ j : Int32, 0 ≤ j.toInt → j.toInt < v.toInt → gI DX (own_ra (decide (I = 0)) j) = gI DX' (own_ra (decide (I = 0)) j)) → 0 ≤ v.toInt → v.toInt ≤ 15 → 15 - v.toInt < n → own_B (f_decode_20 (f_decode_63 IN 3 5 15 9 4 16 5 32 I IL) IN 3 5 15 9 4 16 5 32 I IL n DX R1 SB1 D1 PF1 SF1 FP1 SL1 hd x a1 a2 a3 a4 a5 a6 x v) (f_decode_20 (f_decode_63 IN 3 5 15 9 4 16 5 32 I IL) IN 3 5 15 9 4 16 5 32 I IL n DX' R2 SB2 D2 PF2 SF2 FP2 SL2 hd' x b1 b2 b3 b4 b5 b6 x v) own_De := by
    intro n
    induction n with
    | zero => intro DX DX' v c1 c2 c3 c4 c5 c6; omega
    | succ n ih =>
      intro DX DX' v c1 c2 c3 c4 c5 c6
      have p := own_p1 (a := v) (by omega)
      unfold f_decode_20
      refine own_B.il (fun c => ?_) (fun c => ?_)
      · rw [own_rf w1 c4 (by omega), own_rf w2 c4 (by omega), Option.bind_some, Option.bind_some]
        have b := own_ra1 (decide (I = 0)) c4 (by omega)
        refine own_B.il (fun z1 => by omega) (fun z1 => own_B.il (fun z2 => ?_) (fun z2 => by omega))
        refine own_B.rd (by omega) (by omega) (by omega) (ga _ c4 (by omega)) ?_
        refine own_B.wr (by omega) (by omega) (by omega) ?_
        refine ih _ _ _ (by rw [List.length_set]; exact c1) (by rw [List.length_set]; exact c2) ?_ (by omega) (by omega) (by omega)
        intro j j0 j1
        have bj := own_ra1 (decide (I = 0)) j0 (by omega)
        rw [gset (by omega) (by omega) bj.1, gset (by omega) (by omega) bj.1]
        by_cases q : own_ra (decide (I = 0)) v = own_ra (decide (I = 0)) j
        · rw [if_pos q, if_pos q]
        · rw [if_neg q, if_neg q]
          refine c3 j j0 ?_
          have : ¬ j.toInt = v.toInt := fun z => q (by rw [ieq.mpr z])
          omega
      · unfold f_decode_63
        refine own_B.so ⟨x, DX, R1, SB1, D1, PF1, SF1, FP1, SL1, DX', R2, SB2, D2, PF2, SF2, FP2, SL2, 1, x, a1, a2, a3, a4, a5, a6, x, b1, b2, b3, b4, b5, b6, rfl, rfl, ⟨c1, w1.1, d1, u1⟩, ⟨c2, w2.1, d2, u2⟩, Or.inr ?_⟩
        intro k k0 k1
        obtain ⟨j, j0, j1, e⟩ := own_ra2 (decide (I = 0)) k0 k1
        rw [← e]
        exact c3 j j0 (by omega)
  exact key 100000 DX DX' 0 lX lX' (fun j j0 j1 => by omega) (by decide) (by decide) (by decide)
abbrev own_Sh (PX OUT IN FC NS CP : List Int32) (B OL IL : Int32) : Prop := (PX.length = 256) ∧ (own_O OUT OL) ∧ (IN.length = 512) ∧ (own_R 256 IN) ∧ (FC.length = 512) ∧ (NS.length = 512) ∧ (CP.length = 512) ∧ (4 ≤ B.toInt) ∧ (B.toInt ≤ 255) ∧ (0 ≤ IL.toInt) ∧ (IL.toInt ≤ 512)
theorem own_Sh.px {PX OUT IN FC NS CP : List Int32} {B OL IL : Int32} (self : own_Sh PX OUT IN FC NS CP B OL IL) : PX.length = 256 := self.1
theorem own_Sh.o {PX OUT IN FC NS CP : List Int32} {B OL IL : Int32} (self : own_Sh PX OUT IN FC NS CP B OL IL) : own_O OUT OL := self.2.1
theorem own_Sh.i {PX OUT IN FC NS CP : List Int32} {B OL IL : Int32} (self : own_Sh PX OUT IN FC NS CP B OL IL) : IN.length = 512 := self.2.2.1
theorem own_Sh.ri {PX OUT IN FC NS CP : List Int32} {B OL IL : Int32} (self : own_Sh PX OUT IN FC NS CP B OL IL) : own_R 256 IN := self.2.2.2.1
theorem own_Sh.f {PX OUT IN FC NS CP : List Int32} {B OL IL : Int32} (self : own_Sh PX OUT IN FC NS CP B OL IL) : FC.length = 512 := self.2.2.2.2.1
theorem own_Sh.n {PX OUT IN FC NS CP : List Int32} {B OL IL : Int32} (self : own_Sh PX OUT IN FC NS CP B OL IL) : NS.length = 512 := self.2.2.2.2.2.1
theorem own_Sh.c {PX OUT IN FC NS CP : List Int32} {B OL IL : Int32} (self : own_Sh PX OUT IN FC NS CP B OL IL) : CP.length = 512 := self.2.2.2.2.2.2.1
theorem own_Sh.b0 {PX OUT IN FC NS CP : List Int32} {B OL IL : Int32} (self : own_Sh PX OUT IN FC NS CP B OL IL) : 4 ≤ B.toInt := self.2.2.2.2.2.2.2.1
theorem own_Sh.b1 {PX OUT IN FC NS CP : List Int32} {B OL IL : Int32} (self : own_Sh PX OUT IN FC NS CP B OL IL) : B.toInt ≤ 255 := self.2.2.2.2.2.2.2.2.1
theorem own_Sh.i0 {PX OUT IN FC NS CP : List Int32} {B OL IL : Int32} (self : own_Sh PX OUT IN FC NS CP B OL IL) : 0 ≤ IL.toInt := self.2.2.2.2.2.2.2.2.2.1
theorem own_Sh.i1 {PX OUT IN FC NS CP : List Int32} {B OL IL : Int32} (self : own_Sh PX OUT IN FC NS CP B OL IL) : IL.toInt ≤ 512 := self.2.2.2.2.2.2.2.2.2.2
def own_J (RO SB D : List Int32) : Prop := RO.length = 16 ∧ SB.length = 256 ∧ D.length = 512
def own_St (r r' : List Int32 × List Int32 × List Int32 × List Int32 × List Int32 × List Int32 × List Int32 × List Int32 × List Int32 × Int32 × Int32 × Int32 × Int32 × Int32 × Int32 × Int32) : Prop := ∃ (PX OUT IN RO SB D FC NS CP RO' SB' D' : List Int32) (I B OL IL bp EW EN : Int32), r = (PX, OUT, IN, RO, SB, D, FC, NS, CP, I, B, OL, IL, bp, EW, EN) ∧ r' = (PX, OUT, IN, RO', SB', D', FC, NS, CP, I, B, OL, IL, bp, EW, EN) ∧ own_Sh PX OUT IN FC NS CP B OL IL ∧ own_J RO SB D ∧ own_J RO' SB' D'
theorem own_sbT (B v : Int32) : Tot (f_setBlockSize B v) (fun r => 4 ≤ r.2.toInt ∧ r.2.toInt ≤ 255) := by
  have e4 : (4 : Int32).toInt = 4 := rfl
  have e255 : (255 : Int32).toInt = 255 := rfl
  unfold f_setBlockSize f_clamp
  refine own_bs (Tot.mk ?_)
  dsimp only
  by_cases h : v < 4
  · rw [if_pos h]; omega
  · rw [if_neg h]
    rw [ilt] at h
    by_cases g : 255 < v
    · rw [if_pos g]; omega
    · rw [if_neg g]
      rw [ilt] at g
      omega
theorem own_spT {PX : List Int32} (l : PX.length = 256) (v1 v2 : Int32) : Tot (f_setPixel 15 9 PX v1 v2) (fun r => r.2.length = 256) := by
  have e0 : (0 : Int32).toInt = 0 := rfl
  have e15 : (15 : Int32).toInt = 15 := rfl
  unfold f_setPixel
  refine own_iL (fun _ => Tot.mk l) (fun c1 => own_iL (fun c2 => own_iL (fun _ => Tot.mk l) (fun _ => own_iL (fun _ => ?_) (fun _ => Tot.mk l))) (fun _ => Tot.mk l))
  exact Tot.wr c1 (by omega) (fun A _ e => Tot.mk (e.trans l))
theorem own_flT {PX : List Int32} (l : PX.length = 256) (v1 v2 v3 : Int32) : Tot (f_fill 15 9 PX v1 v2 v3) (fun r => r.2.length = 256) := by
  have e0 : (0 : Int32).toInt = 0 := rfl
  have e256 : (256 : Int32).toInt = 256 := rfl
  have key : ∀ (n : Nat) (PX : List Int32) (v4 : Int32), PX.length = 256 → 0 ≤ v4.toInt → v4.toInt ≤ 256 → 257 - v4.toInt ≤ n → Tot (f_fill_46 15 9 n PX v1 v2 v3 v4) (fun r => r.2.length = 256) := by
    intro n
    induction n with
    | zero => intro PX v4 a b c d; omega
    | succ n ih =>
      intro PX v4 a b c d
      have p := own_p1 (a := v4) (by omega)
      unfold f_fill_46
      refine own_iL (fun _ => own_iL (fun c1 => ?_) (fun _ => Tot.mk a)) (fun _ => Tot.mk a)
      exact Tot.wr b (by omega) (fun A _ e => ih A _ (by omega) (by omega) (by omega) (by omega))
  have e15 : (15 : Int32).toInt = 15 := rfl
  unfold f_fill
  refine own_iL (fun _ => Tot.mk l) (fun _ => own_iL (fun _ => own_iL (fun _ => Tot.mk l) (fun c1 => own_iL (fun c2 => own_iL (fun _ => Tot.mk l) (fun _ => own_iL (fun _ => Tot.mk l) (fun _ => ?_))) (fun _ => Tot.mk l))) (fun _ => Tot.mk l))
  exact key 100000 PX v1 l (by omega) (by omega) (by omega)
theorem own_siT {IN : List Int32} {IL : Int32} (l : IN.length = 512) (r : own_R 256 IN) (h : IL.toInt ≤ 512) (v1 v2 : Int32) : Tot (f_setInByte IL IN v1 v2) (fun r => r.2.length = 512 ∧ own_R 256 r.2) := by
  have e0 : (0 : Int32).toInt = 0 := rfl
  have e255 : (255 : Int32).toInt = 255 := rfl
  have st : Tot (some ((0 : Int32), IN)) (fun r => r.2.length = 512 ∧ own_R 256 r.2) := Tot.mk ⟨l, r⟩
  unfold f_setInByte
  refine own_iL (fun _ => st) (fun c1 => own_iL (fun c2 => own_iL (fun _ => st) (fun c3 => own_iL (fun _ => st) (fun c4 => ?_))) (fun _ => st))
  exact own_wrR r (by omega) (by omega) (by omega) (by omega) (fun A h1 h2 => Tot.mk ⟨h2.trans l, h1⟩)
theorem own_piT {IN : List Int32} {IL : Int32} (l : IN.length = 512) (r : own_R 256 IN) (h0 : 0 ≤ IL.toInt) (h : IL.toInt ≤ 512) (v1 : Int32) : Tot (f_putInByte IN IL v1) (fun r => r.2.1.length = 512 ∧ own_R 256 r.2.1 ∧ 0 ≤ r.2.2.toInt ∧ r.2.2.toInt ≤ 512) := by
  have e0 : (0 : Int32).toInt = 0 := rfl
  have e255 : (255 : Int32).toInt = 255 := rfl
  have e512 : (512 : Int32).toInt = 512 := rfl
  have p := own_p1 (a := IL) (by omega)
  have st : Tot (some ((0 : Int32), IN, IL)) (fun r => r.2.1.length = 512 ∧ own_R 256 r.2.1 ∧ 0 ≤ r.2.2.toInt ∧ r.2.2.toInt ≤ 512) := Tot.mk ⟨l, r, h0, h⟩
  unfold f_putInByte
  refine own_iL (fun _ => st) (fun c1 => own_iL (fun _ => st) (fun c2 => own_iL (fun c3 => ?_) (fun _ => st)))
  exact own_wrR r (by omega) (by omega) (by omega) (by omega) (fun A h1 h2 => Tot.mk ⟨h2.trans l, h1, by dsimp only; omega, by dsimp only; omega⟩)
theorem own_stB {PX OUT IN RO SB D FC NS CP RO' SB' D' : List Int32} {B OL IL : Int32} (h : own_Sh PX OUT IN FC NS CP B OL IL) (j : own_J RO SB D) (j' : own_J RO' SB' D') (I bp EW EN v1 v2 v3 v4 : Int32) : own_B (f_L_step 3 5 15 9 4 16 5 32 PX OUT IN RO SB D FC NS CP I B OL IL bp EW EN v1 v2 v3 v4) (f_L_step 3 5 15 9 4 16 5 32 PX OUT IN RO' SB' D' FC NS CP I B OL IL bp EW EN v1 v2 v3 v4) own_St := by
  obtain ⟨px, o, i, ri, f, n, c, b0, b1, i0, i1⟩ := id h
  have e0 : (0 : Int32).toInt = 0 := rfl
  unfold f_L_step f_L_step_14
  refine own_B.it (fun _ => ?_) (fun _ => own_B.it (fun _ => ?_) (fun _ => own_B.it (fun _ => ?_) (fun _ => own_B.it (fun _ => ?_) (fun _ => own_B.it (fun _ => ?_) (fun _ => own_B.it (fun _ => ?_) (fun _ => own_B.it (fun _ => ?_) (fun _ => own_B.it (fun _ => ?_) (fun _ => ?_))))))))
  · have q : ∃ t : Int32, f_setInterlaced I (if v2 = (0 : Int32) then (0 : Int32) else (1 : Int32)) = some t := by
      unfold f_setInterlaced
      by_cases z : v2 = 0
      · rw [if_pos z]; exact ⟨_, if_pos (Or.inl rfl)⟩
      · rw [if_neg z]; exact ⟨_, if_pos (Or.inr rfl)⟩
    obtain ⟨t, q⟩ := q
    rw [q, Option.bind_some]
    exact own_B.so ⟨PX, OUT, IN, RO, SB, D, FC, NS, CP, RO', SB', D', t, B, OL, IL, bp, EW, EN, rfl, rfl, h, j, j'⟩
  · refine own_B.bd (own_B.tt (own_sbT B v2)) ?_
    rintro ⟨r, s⟩ _ ⟨rfl, q⟩
    exact own_B.so ⟨PX, OUT, IN, RO, SB, D, FC, NS, CP, RO', SB', D', I, s, OL, IL, bp, EW, EN, rfl, rfl, ⟨px, o, i, ri, f, n, c, q.1, q.2, i0, i1⟩, j, j'⟩
  · refine own_B.bd (own_B.tt (own_spT px v2 v3)) ?_
    rintro ⟨r, s⟩ _ ⟨rfl, q⟩
    exact own_B.so ⟨s, OUT, IN, RO, SB, D, FC, NS, CP, RO', SB', D', I, B, OL, IL, bp, EW, EN, rfl, rfl, ⟨q, o, i, ri, f, n, c, b0, b1, i0, i1⟩, j, j'⟩
  · refine own_B.bd (own_B.tt (own_flT px v2 v3 v4)) ?_
    rintro ⟨r, s⟩ _ ⟨rfl, q⟩
    exact own_B.so ⟨s, OUT, IN, RO, SB, D, FC, NS, CP, RO', SB', D', I, B, OL, IL, bp, EW, EN, rfl, rfl, ⟨q, o, i, ri, f, n, c, b0, b1, i0, i1⟩, j, j'⟩
  · refine own_B.bd (own_encB I b0 b1 px o.1 o.2.1 j.1 j'.1 j.2.1 j'.2.1 j.2.2 j'.2.2 f n c OL bp EW EN) ?_
    rintro _ _ ⟨O, R1, R2, S1, S2, D1, D2, F1, N1, C1, x, N, b, W, E, rfl, rfl, q, r1, r2, s1, s2, d1, d2, f1, n1, c1⟩
    exact own_B.so ⟨PX, O, IN, R1, S1, D1, F1, N1, C1, R2, S2, D2, I, B, N, IL, b, W, E, rfl, rfl, ⟨px, q, i, ri, f1, n1, c1, b0, b1, i0, i1⟩, ⟨r1, s1, d1⟩, ⟨r2, s2, d2⟩⟩
  · exact own_B.so ⟨PX, OUT, IN, RO, SB, D, FC, NS, CP, RO', SB', D', I, B, OL, 0, bp, EW, EN, rfl, rfl, ⟨px, o, i, ri, f, n, c, b0, b1, by decide, by decide⟩, j, j'⟩
  · refine own_B.bd (own_B.tt (own_siT i ri i1 v2 v3)) ?_
    rintro ⟨r, s⟩ _ ⟨rfl, q⟩
    exact own_B.so ⟨PX, OUT, s, RO, SB, D, FC, NS, CP, RO', SB', D', I, B, OL, IL, bp, EW, EN, rfl, rfl, ⟨px, o, q.1, q.2, f, n, c, b0, b1, i0, i1⟩, j, j'⟩
  · refine own_B.bd (own_B.tt (own_ld IL o.1 o.2.1 i ri o.2.2.1 o.2.2.2)) ?_
    rintro ⟨r, s, t⟩ _ ⟨rfl, q⟩
    obtain ⟨q1, q2, q3, q4⟩ := q
    exact own_B.so ⟨PX, OUT, s, RO, SB, D, FC, NS, CP, RO', SB', D', I, B, OL, t, bp, EW, EN, rfl, rfl, ⟨px, o, q3, q4, f, n, c, b0, b1, by rw [q2]; exact o.2.2.1, by rw [q2]; have := o.2.2.2; omega⟩, j, j'⟩
  · refine own_B.bd (own_B.tt (own_piT i ri i0 i1 v2)) ?_
    rintro ⟨r, s, t⟩ _ ⟨rfl, q⟩
    exact own_B.so ⟨PX, OUT, s, RO, SB, D, FC, NS, CP, RO', SB', D', I, B, OL, t, bp, EW, EN, rfl, rfl, ⟨px, o, q.1, q.2.1, f, n, c, b0, b1, q.2.2.1, q.2.2.2⟩, j, j'⟩
theorem own_w257 (scr : List Int32) {DX DX' : List Int32} {hd : Int32} (l : DX.length = 256) (l' : DX'.length = 256) (g : hd = 0 ∨ own_ag 15 DX DX') : ∀ (n : Nat) (v : Int32), 0 ≤ v.toInt → v.toInt ≤ 15 → 15 - v.toInt < n → f_L_law_257 scr n DX 15 hd DX' 15 hd v = some 1 := by
  intro n
  have e0 : (0 : Int32).toInt = 0 := rfl
  have e15 : (15 : Int32).toInt = 15 := rfl
  induction n with
  | zero => intro v a b c; omega
  | succ n ih =>
    intro v a b c
    unfold f_L_law_257
    by_cases h : v < 15
    · rw [if_pos h]
      rw [ilt] at h
      have p := own_p1 (a := v) (by omega)
      have q : ∃ r : Int32, f_getDecodedPixel DX 15 hd v = some r ∧ f_getDecodedPixel DX' 15 hd v = some r := by
        unfold f_getDecodedPixel
        by_cases z : hd = 0
        · rw [if_pos z, if_pos z]; exact ⟨_, rfl, rfl⟩
        · rw [if_neg z, if_neg z, if_neg (by rw [ilt]; omega), if_pos (by rw [ilt]; omega), if_neg (by rw [ilt]; omega), if_pos (by rw [ilt]; omega), rdg a (by omega), rdg a (by omega), (g.resolve_left z) v a (by omega)]
          exact ⟨_, rfl, rfl⟩
      obtain ⟨r, q1, q2⟩ := q
      rw [q1, q2, Option.bind_some, Option.bind_some, if_pos rfl]
      exact ih _ (by omega) (by omega) (by omega)
    · rw [if_neg h]
theorem own_w233 (scr : List Int32) {IN DX RO SB D PF SF FP SL DX' RO' SB' D' PF' SF' FP' SL' : List Int32} {IL : Int32} (I : Int32) (lI : IN.length = 512) (rI : own_R 256 IN) (i0 : 0 ≤ IL.toInt) (i1 : IL.toInt ≤ 512) (t : own_Ls DX RO SB D PF SF FP SL) (t' : own_Ls DX' RO' SB' D' PF' SF' FP' SL') (hd st DL rp DW DN DP DC hd' st' DL' rp' DW' DN' DP' DC' : Int32) : f_L_law_233 scr IN DX RO SB D PF SF FP SL 3 5 15 9 4 16 5 32 I IL hd st DL rp DW DN DP DC IN DX' RO' SB' D' PF' SF' FP' SL' 3 5 15 9 4 16 5 32 I IL hd' st' DL' rp' DW' DN' DP' DC' = some 1 := by
  unfold f_L_law_233
  obtain ⟨_, _, q1, q2, x, DX1, RO1, SB1, D1, PF1, SF1, FP1, SL1, DX2, RO2, SB2, D2, PF2, SF2, FP2, SL2, hd1, st1, a1, a2, a3, a4, a5, a6, st2, b1, b2, b3, b4, b5, b6, rfl, rfl, u1, u2, u3⟩ := own_deB I lI rI i0 i1 t t' hd st DL rp DW DN DP DC hd' st' DL' rp' DW' DN' DP' DC'
  rw [q1, q2]
  show (if x = x then f_L_law_257 scr 100000 DX1 15 hd1 DX2 15 hd1 0 else some 0) = some 1
  rw [if_pos rfl]
  exact own_w257 scr u1.1 u2.1 u3 100000 0 (by decide) (by decide) (by decide)
theorem own_w194 (scr : List Int32) {k} {OUT IN DX RO SB D PF SF FP SL DX' RO' SB' D' PF' SF' FP' SL' : List Int32} {OL : Int32} (o : own_O OUT OL) (I IL : Int32) (hd st DL rp DW DN DP DC hd' st' DL' rp' DW' DN' DP' DC' : Int32) : ∀ (n : Nat) (v : Int32), 0 ≤ v.toInt → v.toInt ≤ 400 → 400 - v.toInt < n → f_L_law_194 k scr n OUT IN DX RO SB D PF SF FP SL 3 5 15 9 4 16 5 32 I OL IL hd st DL rp DW DN DP DC OUT IN DX' RO' SB' D' PF' SF' FP' SL' 3 5 15 9 4 16 5 32 I OL IL hd' st' DL' rp' DW' DN' DP' DC' v = k IN DX RO SB D PF SF FP SL 3 5 15 9 4 16 5 32 I IL hd st DL rp DW DN DP DC IN DX' RO' SB' D' PF' SF' FP' SL' 3 5 15 9 4 16 5 32 I IL hd' st' DL' rp' DW' DN' DP' DC' := by
  intro n
  have e0 : (0 : Int32).toInt = 0 := rfl
  have e400 : (400 : Int32).toInt = 400 := rfl
  induction n with
  | zero => intro v a b c; omega
  | succ n ih =>
    intro v a b c
    unfold f_L_law_194
    by_cases h : v < 400
    · rw [if_pos h]
      rw [ilt] at h
      have p := own_p1 (a := v) (by omega)
      have q : ∃ r : Int32, f_getOutByte OUT OL v = some r := by
        unfold f_getOutByte
        rw [if_neg (by rw [ilt]; omega)]
        by_cases z : v < OL
        · rw [if_pos z, rdg a (by have := o.1; omega)]; exact ⟨_, rfl⟩
        · rw [if_neg z]; exact ⟨_, rfl⟩
      obtain ⟨r, q1⟩ := q
      rw [q1, Option.bind_some, Option.bind_some, if_pos rfl]
      exact ih _ (by omega) (by omega) (by omega)
    · rw [if_neg h]
theorem own_w118 (scr : List Int32) {k} {PX OUT IN DX RO SB D PF SF FP SL DX' RO' SB' D' PF' SF' FP' SL' : List Int32} (l : PX.length = 256) (I OL IL : Int32) (hd st DL rp DW DN DP DC hd' st' DL' rp' DW' DN' DP' DC' : Int32) : ∀ (n : Nat) (v : Int32), 0 ≤ v.toInt → v.toInt ≤ 15 → 15 - v.toInt < n → f_L_law_118 k scr n PX OUT IN DX RO SB D PF SF FP SL 3 5 15 9 4 16 5 32 I OL IL hd st DL rp DW DN DP DC PX OUT IN DX' RO' SB' D' PF' SF' FP' SL' 3 5 15 9 4 16 5 32 I OL IL hd' st' DL' rp' DW' DN' DP' DC' v = k OUT IN DX RO SB D PF SF FP SL 3 5 15 9 4 16 5 32 I OL IL hd st DL rp DW DN DP DC OUT IN DX' RO' SB' D' PF' SF' FP' SL' 3 5 15 9 4 16 5 32 I OL IL hd' st' DL' rp' DW' DN' DP' DC' := by
  intro n
  have e0 : (0 : Int32).toInt = 0 := rfl
  have e15 : (15 : Int32).toInt = 15 := rfl
  induction n with
  | zero => intro v a b c; omega
  | succ n ih =>
    intro v a b c
    unfold f_L_law_118
    by_cases h : v < 15
    · rw [if_pos h]
      rw [ilt] at h
      have p := own_p1 (a := v) (by omega)
      have q : ∃ r : Int32, f_getPixel PX 15 v = some r := by
        unfold f_getPixel
        rw [if_neg (by rw [ilt]; omega), if_pos (by rw [ilt]; omega), rdg a (by omega)]
        exact ⟨_, rfl⟩
      obtain ⟨r, q1⟩ := q
      rw [q1, Option.bind_some, Option.bind_some, if_pos rfl]
      exact ih _ (by omega) (by omega) (by omega)
    · rw [if_neg h]
theorem own_w153 (scr : List Int32) {OUT IN DX RO SB D PF SF FP SL DX' RO' SB' D' PF' SF' FP' SL' : List Int32} {OL IL : Int32} (o : own_O OUT OL) (I : Int32) (lI : IN.length = 512) (rI : own_R 256 IN) (i0 : 0 ≤ IL.toInt) (i1 : IL.toInt ≤ 512) (t : own_Ls DX RO SB D PF SF FP SL) (t' : own_Ls DX' RO' SB' D' PF' SF' FP' SL') (hd st DL rp DW DN DP DC hd' st' DL' rp' DW' DN' DP' DC' : Int32) : f_L_law_153 scr OUT IN DX RO SB D PF SF FP SL 3 5 15 9 4 16 5 32 I OL IL hd st DL rp DW DN DP DC OUT IN DX' RO' SB' D' PF' SF' FP' SL' 3 5 15 9 4 16 5 32 I OL IL hd' st' DL' rp' DW' DN' DP' DC' = some 1 := by
  unfold f_L_law_153 f_getOutLength f_getInLength
  rw [Option.bind_some, Option.bind_some, Option.bind_some, Option.bind_some, if_pos rfl, if_pos rfl, own_w194 scr o I IL hd st DL rp DW DN DP DC hd' st' DL' rp' DW' DN' DP' DC' 100000 0 (by decide) (by decide) (by decide)]
  exact own_w233 scr I lI rI i0 i1 t t' hd st DL rp DW DN DP DC hd' st' DL' rp' DW' DN' DP' DC'
theorem own_w34 (scr : List Int32) (h : scr.length ≤ 260) : ∀ (n : Nat) (PX OUT IN FC NS CP DX RO SB D PF SF FP SL DX' RO' SB' D' PF' SF' FP' SL' : List Int32) (I B OL IL bp EW EN hd st DL rp DW DN DP DC hd' st' DL' rp' DW' DN' DP' DC' v : Int32), own_Sh PX OUT IN FC NS CP B OL IL → own_Ls DX RO SB D PF SF FP SL → own_Ls DX' RO' SB' D' PF' SF' FP' SL' → 0 ≤ v.toInt → v.toInt ≤ 260 → 270 - v.toInt ≤ n → f_L_law_34 (f_L_law_118 (f_L_law_153 scr) scr 100000) scr n PX OUT IN DX RO SB D FC NS CP PF SF FP SL 3 5 15 9 4 16 5 32 I B OL IL hd st bp EW EN DL rp DW DN DP DC PX OUT IN DX' RO' SB' D' FC NS CP PF' SF' FP' SL' 3 5 15 9 4 16 5 32 I B OL IL hd' st' bp EW EN DL' rp' DW' DN' DP' DC' v = some 1 := by
  intro n
  have hl := iscr h
  have e1 : (1 : Int32).toInt = 1 := rfl
  have e2 : (2 : Int32).toInt = 2 := rfl
  have e3 : (3 : Int32).toInt = 3 := rfl
  have e4 : (4 : Int32).toInt = 4 := rfl
  induction n with
  | zero => intro PX OUT IN FC NS CP DX RO SB D PF SF FP SL DX' RO' SB' D' PF' SF' FP' SL' I B OL IL bp EW EN hd st DL rp DW DN DP DC hd' st' DL' rp' DW' DN' DP' DC' v s t t' a b c; omega
  | succ n ih =>
    intro PX OUT IN FC NS CP DX RO SB D PF SF FP SL DX' RO' SB' D' PF' SF' FP' SL' I B OL IL bp EW EN hd st DL rp DW DN DP DC hd' st' DL' rp' DW' DN' DP' DC' v s t t' a b c
    have p1 : (v + 1).toInt = v.toInt + 1 := iadd_i (by omega) (by omega)
    have p2 : (v + 2).toInt = v.toInt + 2 := iadd_i (by omega) (by omega)
    have p3 : (v + 3).toInt = v.toInt + 3 := iadd_i (by omega) (by omega)
    have p4 : (v + 4).toInt = v.toInt + 4 := iadd_i (by omega) (by omega)
    unfold f_L_law_34
    by_cases q : scr.length.toInt32 < v + 4
    · rw [if_pos q, own_w118 scr s.px I OL IL hd st DL rp DW DN DP DC hd' st' DL' rp' DW' DN' DP' DC' 100000 0 (by decide) (by decide) (by decide)]
      exact own_w153 scr s.o I s.i s.ri s.i0 s.i1 t t' hd st DL rp DW DN DP DC hd' st' DL' rp' DW' DN' DP' DC'
    · rw [if_neg q]
      rw [ilt] at q
      rw [rdg a (by omega), rdg (j := v + 1) (by omega) (by omega), rdg (j := v + 2) (by omega) (by omega), rdg (j := v + 3) (by omega) (by omega), Option.bind_some, Option.bind_some, Option.bind_some, Option.bind_some]
      generalize gI scr v = x0
      generalize gI scr (v + 1) = x1
      generalize gI scr (v + 2) = x2
      generalize gI scr (v + 3) = x3
      by_cases z : (x0 &&& 15) = 9
      · rw [if_pos z]
        obtain ⟨_, _, q1, q2, x, DX1, RO1, SB1, D1, PF1, SF1, FP1, SL1, DX2, RO2, SB2, D2, PF2, SF2, FP2, SL2, hd1, st1, a1, a2, a3, a4, a5, a6, st2, b1, b2, b3, b4, b5, b6, rfl, rfl, u1, u2, u3⟩ := own_deB I s.i s.ri s.i0 s.i1 t t hd st DL rp DW DN DP DC hd st DL rp DW DN DP DC
        rw [q1, Option.bind_some]
        exact ih PX OUT IN FC NS CP DX1 RO1 SB1 D1 PF1 SF1 FP1 SL1 DX' RO' SB' D' PF' SF' FP' SL' I B OL IL bp EW EN hd1 st1 a1 a2 a3 a4 a5 a6 hd' st' DL' rp' DW' DN' DP' DC' _ s u1 t' (by omega) (by omega) (by omega)
      · rw [if_neg z]
        obtain ⟨_, _, q1, q2, PX1, OUT1, IN1, R1, S1, D1, F1, N1, C1, R2, S2, D2, I1, B1, OL1, IL1, bp1, EW1, EN1, rfl, rfl, s1, j1, j2⟩ := own_stB s (RO := RO) (SB := SB) (D := D) (RO' := RO') (SB' := SB') (D' := D') ⟨t.2.1, t.2.2.2.1, t.2.2.1⟩ ⟨t'.2.1, t'.2.2.2.1, t'.2.2.1⟩ I bp EW EN (x0 &&& 15) x1 x2 x3
        rw [q1, q2, Option.bind_some]
        exact ih PX1 OUT1 IN1 F1 N1 C1 DX R1 S1 D1 PF SF FP SL DX' R2 S2 D2 PF' SF' FP' SL' I1 B1 OL1 IL1 bp1 EW1 EN1 hd st DL rp DW DN DP DC hd' st' DL' rp' DW' DN' DP' DC' _ s1 ⟨t.1, j1.1, j1.2.2, j1.2.1, t.2.2.2.2⟩ ⟨t'.1, j2.1, j2.2.2, j2.2.1, t'.2.2.2.2⟩ (by omega) (by omega) (by omega)
theorem own_ini : f_init 3 5 9 4 = some (List.replicate 256 0, List.replicate 400 0, List.replicate 512 0, List.replicate 256 0, List.replicate 16 0, List.replicate 256 0, List.replicate 512 0, List.replicate 512 0, List.replicate 512 0, List.replicate 512 0, List.replicate 512 0, List.replicate 512 0, List.replicate 512 0, List.replicate 512 0, 3, 5, 15, 9, 4, 16, 5, 32, 0, 255, 0, 0, 0, 1, 0, 0, 0, 0, 0, 0, 0, 0, 0) := by
  rfl
theorem own_true (scr : List Int32) (h : scr.length ≤ 260) : f_L_law scr = some 1 := by
  have lr : ∀ n : Nat, (List.replicate n (0 : Int32)).length = n := fun n => List.length_replicate
  have t : own_Ls (List.replicate 256 0) (List.replicate 16 0) (List.replicate 256 0) (List.replicate 512 0) (List.replicate 512 0) (List.replicate 512 0) (List.replicate 512 0) (List.replicate 512 0) := ⟨lr 256, lr 16, lr 512, lr 256, lr 512, lr 512, lr 512, lr 512⟩
  have s : own_Sh (List.replicate 256 0) (List.replicate 400 0) (List.replicate 512 0) (List.replicate 512 0) (List.replicate 512 0) (List.replicate 512 0) 255 0 0 := ⟨lr 256, ⟨lr 400, own_Rrep 400 (by decide), by decide, by decide⟩, lr 512, own_Rrep 512 (by decide), lr 512, lr 512, lr 512, by decide, by decide, by decide, by decide⟩
  unfold f_L_law
  rw [own_ini, Option.bind_some]
  exact own_w34 scr h 100000 _ _ _ _ _ _ _ _ _ _ _ _ _ _ _ _ _ _ _ _ _ _ _ _ _ _ _ _ _ _ _ _ _ _ _ _ _ _ _ _ _ _ _ _ _ _ s t t (by decide) (by decide) (by decide)
set_option maxRecDepth 65536 in
theorem comes_1 {Post : Tables → Env → Array Value → State → Outcome → State → Prop} (hpost : ∀ tb e args s v u, (limb_1_1.after args s (.returned v) u = true ∧ limb_1_2.after args s (.returned v) u = true ∧ True) → FrameEnd s (.returned v) u (Jvm.fieldLocs frame_1_writes args s ++ Jvm.arrayLocs frame_1_arrays args s ++ Jvm.staticLocs frame_1_statics s) 72 23424 → Post tb e args s (.returned v) u) :
    ArmFor flags0 classFile x code maxLocals ret World_1 tables_1 room_1 Calls_1 rest_1 Pre_1 Post := by
  intro l hfl _ _ p e ha hc hk s m args below hf hA hF happ hP
  obtain ⟨hcalls, hrest, hpre⟩ := hP
  obtain ⟨-, -, -, hnamed, -, -, -, hat⟩ := (Spec.applies_iff hf).mp happ
  obtain ⟨hg, hn⟩ := and_e (Cond.before_iff.mp (show (Jvm.Cond.and given_1 narrow_1).before args s = true from hpre))
  obtain ⟨h1, h2⟩ := and_e hg
  have hw := fun d (hd : d ∈ tables_1) => atoms_spec (ws := Jvm.Cond.code x code maxLocals ret :: tables_1) hat d (List.mem_cons_of_mem _ hd)
  obtain ⟨w0, rfl⟩ : ∃ w0 : Value, args = #[w0] := by
    have hs : args.size = 1 := by simpa [Cond.value, given_1] using h1
    obtain ⟨L⟩ := args
    match L, hs with
    | [w0], _ => exact ⟨w0, rfl⟩
  have hfit : Fit s := fun {y c} hc i hi => by
    obtain ⟨ha, rfl⟩ := Array.getElem?_eq_some_iff.mp hc
    have q := List.all_eq_true.mp ((Array.all_eq_true_iff_forall_mem.mp hF) _ (Array.getElem_mem ha)) i (List.mem_range.mpr hi)
    simpa [Array.getElem?_eq_getElem hi] using q
  obtain ⟨hn1, hn2⟩ := and_e hn
  obtain ⟨ad, e0⟩ := arr_v hn1
  obtain ⟨cl, A⟩ := Arr.start e0 hn1
  obtain rfl : w0 = .ref ad := Option.some.inj e0
  obtain ⟨scr, hs1, hs2, hs3⟩ := script_of hfit A e0 hn2
  have E : OEndsQ own_P 0 0 (entL [.ref 0] d_0.maxL) [] [.inr (.inl (false, scr))] (LawQ 1 30 11658) := ok_L_law (own_true scr hs2)
  have hS : SR [ad] [.ref 0] [.ref ad] := ⟨_, _, rfl, ⟨ad, rfl, rfl⟩, rfl⟩
  have hH : HR own_P s s.heap.size s.heap [ad] [.inr (.inl (false, scr))] := hr_script rfl A hs1 hs2 hs3
  have M := law_met (l := l) own_chk (fun w hw' => hw w (own_in w hw')) hm_0 E hS (Nat.le_of_ble_eq_true rfl) hH tables_1 room_1 (Nat.le_of_ble_eq_true rfl) (Nat.le_of_ble_eq_true rfl) (Nat.le_of_ble_eq_true rfl) (Nat.le_of_ble_eq_true rfl)
  obtain ⟨n, o, h1, h2, h3, L, rfl, N, hq⟩ := M p e ha hc hk s m _ below hf ((Spec.applies_iff_loose hf).mp happ).1 ⟨rfl, State.Warmed39.refl s, rfl⟩ trivial
  refine ⟨n, _, h1, h2, h3, hpost _ _ _ _ _ _ ⟨Cond.after_iff.mpr rfl, Cond.after_iff.mpr (eq_i res_at (Term.int_eval (1)) rfl), trivial⟩ ⟨hq.1, hq.2.1, (hq.2.2.sift fun y hy => Or.inr (N y hy)).mono (by decide) (by decide)⟩⟩
theorem main_1_1 : Claimed_1_1 := comes_1 fun _ _ _ _ _ _ h hF => ⟨h.1, hF⟩
theorem main_1_2 : Claimed_1_2 := comes_1 fun _ _ _ _ _ _ h hF => ⟨h.2.1, hF⟩
end Jvm.Pilot.@@N@@
namespace Jvm.Pilot.@@N@@
open Jvm Jvm.ClassFile Sem Op Lib Jvm.Free Jvm.Stand Jvm.Pilot.@@N@@.Jvm.D
/-! MADE BY PROGRAM (witnessworld.py) out of the Statement's table words and the real class files: 9 classes; the members and pool entries that the words name. The judged class is class 1, her method 1. -/
namespace start1
open Jvm.ClassFile
def u (s : String) : CpInfo := .utf8 (stringToUtf16 s)
/-- a pool by its gaps: so many unusable entries, then the entry; so many at the end -/
def gap : Nat → List CpInfo → List CpInfo
  | 0, r => r
  | n + 1, r => .unusable :: gap n r
def poolList (es : List (Nat × CpInfo)) (last : Nat) : List CpInfo := es.foldr (fun e r => gap e.1 (e.2 :: r)) (gap last [])
def pool (es : List (Nat × CpInfo)) (last : Nat) : Array CpInfo := ⟨poolList es last⟩
def fileOf (pool : Array CpInfo) (this : Nat) (attrs : Array Attribute := #[]) (ms : Array MethodInfo := #[]) (fl : Nat := 33) (sup : Nat := 0) (ifs : Array Nat := #[]) (fds : Array FieldInfo := #[]) : ClassFile where
  minorVersion := 0
  majorVersion := 65
  constantPool := pool
  accessFlags := fl
  thisClass := this
  superClass := sup
  interfaces := ifs
  fields := fds
  methods := ms
  attributes := attrs
def plain (name : String) (sup : Option ClassId) : Class where
  name := name
  kind := .ordinary
  loader := none
  accessFlags := 33
  super := sup
  interfaces := #[]
  cf := none
  fields := #[]
  methods := #[]
  instanceTypes := #[]
  staticTypes := #[]
  resolved := #[]
  callSites := []
  init := .initialized
  statics := none
  mirror := none

def pool0 : Array CpInfo := pool [(5, u "<init>"), (0, u "()V"), (1, .class_ 10), (1, u "java/lang/Object")] 113

def k0c0 : Code := { maxStack := 0, maxLocals := 1, code := object_method_1_code, exceptionTable := #[], attributes := #[] }
def k0m0 : Method := { name := "<init>", desc := "()V", sig := { parameters := [], returnType := none }, accessFlags := 1, code := some k0c0 }
/-- java/lang/Object -/
def k0 : Class := { plain "java/lang/Object" none with
  accessFlags := 33
  interfaces := #[]
  cf := some (fileOf pool0 8 #[] #[{ accessFlags := 1, nameIndex := 5, descriptorIndex := 6, attributes := #[] }] 33 0 #[] #[])
  fields := #[]
  methods := #[k0m0]
  instanceTypes := #[]
  staticTypes := #[]
  resolved := Array.replicate 124 none
  statics := none }

def pool1 : Array CpInfo := pool [(2, .class_ 4), (1, u "java/lang/Object"), (0, u "<init>"), (0, u "()V"), (0, .class_ 8), (0, u "LzwIndexedImage"), (0, .methodref 7 10), (0, .nameAndType 5 11), (0, u "(IIII)V"), (0, .methodref 7 13), (0, .nameAndType 14 15), (0, u "decode"), (0, u "()I"), (0, .methodref 17 18), (0, .class_ 19), (0, .nameAndType 20 21), (0, u "LzwIndexedImageL5"), (0, u "step"), (0, u "(LLzwIndexedImage;IIII)V"), (0, .methodref 7 23), (0, .nameAndType 24 25), (0, u "getPixel"), (0, u "(I)I"), (0, .methodref 7 27), (0, .nameAndType 28 15), (0, u "getOutLength"), (0, .methodref 7 30), (0, .nameAndType 31 15), (0, u "getInLength"), (0, .methodref 7 33), (0, .nameAndType 34 25), (0, u "getOutByte"), (0, .methodref 7 36), (0, .nameAndType 37 25), (0, u "getDecodedPixel"), (0, .methodref 7 39), (0, .nameAndType 40 41), (0, u "setInterlaced"), (0, u "(Z)V"), (0, .methodref 7 43), (0, .nameAndType 44 25), (0, u "setBlockSize"), (0, .methodref 7 46), (0, .nameAndType 47 48), (0, u "setPixel"), (0, u "(II)Z"), (0, .methodref 7 50), (0, .nameAndType 51 52), (0, u "fill"), (0, u "(III)Z"), (0, .methodref 7 54), (0, .nameAndType 55 15), (0, u "encode"), (0, .methodref 7 57), (0, .nameAndType 58 6), (0, u "clearInput"), (0, .methodref 7 60), (0, .nameAndType 61 48), (0, u "setInByte"), (0, .methodref 7 63), (0, .nameAndType 64 15), (0, u "loadInFromOut"), (0, .methodref 7 66), (0, .nameAndType 67 68), (0, u "putInByte"), (0, u "(I)Z"), (2, u "law"), (0, u "([I)Z")] 5

def k1m0 : Method := { name := "<init>", desc := "()V", sig := { parameters := [], returnType := none }, accessFlags := 1, code := none }
def k1c1 : Code := { maxStack := 6, maxLocals := 12, code := code, exceptionTable := #[], attributes := #[] }
def k1m1 : Method := { name := "law", desc := "([I)Z", sig := { parameters := [(.array .int)], returnType := some .boolean }, accessFlags := 9, code := some k1c1 }
def k1c2 : Code := { maxStack := 4, maxLocals := 5, code := method_3_code, exceptionTable := #[], attributes := #[] }
def k1m2 : Method := { name := "step", desc := "(LLzwIndexedImage;IIII)V", sig := { parameters := [(.object "LzwIndexedImage"), .int, .int, .int, .int], returnType := none }, accessFlags := 10, code := some k1c2 }
/-- LzwIndexedImageL5 -/
def k1 : Class := { plain "LzwIndexedImageL5" (some 0) with
  accessFlags := 49
  interfaces := #[]
  cf := some (fileOf pool1 17 #[] #[{ accessFlags := 1, nameIndex := 5, descriptorIndex := 6, attributes := #[] }, { accessFlags := 9, nameIndex := 71, descriptorIndex := 72, attributes := #[] }, { accessFlags := 10, nameIndex := 20, descriptorIndex := 21, attributes := #[] }] 49 2 #[] #[])
  fields := #[]
  methods := #[k1m0, k1m1, k1m2]
  instanceTypes := #[]
  staticTypes := #[]
  resolved := Array.replicate 78 none
  statics := none }

def pool2 : Array CpInfo := pool [(1, .methodref 2 3), (0, .class_ 4), (0, .nameAndType 5 6), (0, u "java/lang/Object"), (0, u "<init>"), (0, u "()V"), (0, .fieldref 8 9), (0, .class_ 10), (0, .nameAndType 11 12), (0, u "LzwIndexedImage"), (0, u "pixels"), (0, u "[I"), (0, .fieldref 8 14), (0, .nameAndType 15 12), (0, u "out"), (0, .fieldref 8 17), (0, .nameAndType 18 12), (0, u "in"), (0, .fieldref 8 20), (0, .nameAndType 21 12), (0, u "decodedPix"), (0, .fieldref 8 23), (0, .nameAndType 24 12), (0, u "rowOrder"), (0, .fieldref 8 26), (0, .nameAndType 27 12), (0, u "streamBuf"), (0, .fieldref 8 29), (0, .nameAndType 30 12), (0, u "data"), (0, .fieldref 8 32), (0, .nameAndType 33 12), (0, u "firstChild"), (0, .fieldref 8 35), (0, .nameAndType 36 12), (0, u "nextSibling"), (0, .fieldref 8 38), (0, .nameAndType 39 12), (0, u "childPixel"), (0, .fieldref 8 41), (0, .nameAndType 42 12), (0, u "prefix"), (0, .fieldref 8 44), (0, .nameAndType 45 12), (0, u "suffix"), (0, .fieldref 8 47), (0, .nameAndType 48 12), (0, u "firstPix"), (0, .fieldref 8 50), (0, .nameAndType 51 12), (0, u "strLen"), (0, .methodref 8 53), (0, .nameAndType 54 55), (0, u "clamp"), (0, u "(III)I"), (0, .fieldref 8 57), (0, .nameAndType 58 59), (0, u "width"), (0, u "I"), (0, .fieldref 8 61), (0, .nameAndType 62 59), (0, u "height"), (0, .fieldref 8 64), (0, .nameAndType 65 59), (0, u "total"), (0, .fieldref 8 67), (0, .nameAndType 68 59), (0, u "palette"), (0, .fieldref 8 70), (0, .nameAndType 71 59), (0, u "minSize"), (0, .fieldref 8 73), (0, .nameAndType 74 59), (0, u "clearCode"), (0, .fieldref 8 76), (0, .nameAndType 77 59), (0, u "maxWidth"), (0, .fieldref 8 79), (0, .nameAndType 80 59), (0, u "codeLimit"), (0, .fieldref 8 82), (0, .nameAndType 83 84), (0, u "interlaced"), (0, u "Z"), (0, .fieldref 8 86), (0, .nameAndType 87 59), (0, u "blockSize"), (0, .fieldref 8 89), (0, .nameAndType 90 59), (0, u "outLen"), (0, .fieldref 8 92), (0, .nameAndType 93 59), (0, u "inLen"), (0, .fieldref 8 95), (0, .nameAndType 96 84), (0, u "hasDecoded"), (0, .fieldref 8 98), (0, .nameAndType 99 59), (0, u "status"), (0, .methodref 8 101), (0, .nameAndType 102 55), (0, u "addRows"), (0, .methodref 8 104), (0, .nameAndType 105 6), (0, u "buildRowOrder"), (0, .methodref 8 107), (0, .nameAndType 108 109), (0, u "rasterOf"), (0, u "(I)I"), (0, .methodref 8 111), (0, .nameAndType 112 6), (0, u "compress"), (0, .methodref 8 114), (0, .nameAndType 115 6), (0, u "packBlocks"), (0, .fieldref 8 117), (0, .nameAndType 118 59), (0, u "bitPos"), (0, .methodref 8 120), (0, .nameAndType 121 122), (0, u "resetEncoderTable"), (0, u "(I)V"), (0, .fieldref 8 124), (0, .nameAndType 125 59), (0, u "encWidth"), (0, .fieldref 8 127), (0, .nameAndType 128 59), (0, u "encNext"), (0, .methodref 8 130), (0, .nameAndType 131 122), (0, u "putCode"), (0, .methodref 8 133), (0, .nameAndType 134 135), (0, u "findChild"), (0, u "(II)I"), (0, .methodref 8 137), (0, .nameAndType 138 139), (0, u "addEncoderCode"), (0, u "(II)V"), (0, .methodref 8 141), (0, .nameAndType 142 122), (0, u "writeOut"), (0, .methodref 8 144), (0, .nameAndType 145 146), (0, u "decodeSteps"), (0, u "()I"), (0, .methodref 8 148), (0, .nameAndType 149 150), (0, u "gatherBlocks"), (0, u "()Z"), (0, .methodref 8 152), (0, .nameAndType 153 146), (0, u "decompress"), (0, .fieldref 8 155), (0, .nameAndType 156 59), (0, u "decCount"), (0, .fieldref 8 158), (0, .nameAndType 159 59), (0, u "dataLen"), (0, .fieldref 8 161), (0, .nameAndType 162 59), (0, u "readPos"), (0, .fieldref 8 164), (0, .nameAndType 165 59), (0, u "decWidth"), (0, .fieldref 8 167), (0, .nameAndType 168 59), (0, u "decNext"), (0, .fieldref 8 170), (0, .nameAndType 171 59), (0, u "decPrev"), (0, .methodref 8 173), (0, .nameAndType 174 146), (0, u "readCode"), (0, .methodref 8 176), (0, .nameAndType 177 109), (0, u "handleCode"), (0, .methodref 8 179), (0, .nameAndType 180 109), (0, u "lengthOf"), (0, .methodref 8 182), (0, .nameAndType 183 184), (0, u "writeString"), (0, u "(III)V"), (0, .methodref 8 186), (0, .nameAndType 187 109), (0, u "firstOf"), (0, .methodref 8 189), (0, .nameAndType 190 139), (0, u "addDecoderCode"), (0, u "OK"), (2, u "NONE"), (1, u "ERR_EMPTY"), (1, u "ERR_MIN_CODE_SIZE"), (1, u "ERR_BLOCKS"), (1, u "ERR_NO_END"), (1, u "ERR_BAD_CODE"), (1, u "ERR_BAD_INDEX"), (1, u "ERR_LONG"), (1, u "ERR_SHORT"), (1, u "IN_CAPACITY"), (1, u "(IIII)V"), (3, u "setInterlaced"), (0, u "(Z)V"), (0, u "setBlockSize"), (0, u "setPixel"), (0, u "(II)Z"), (0, u "fill"), (0, u "(III)Z"), (0, u "getPixel"), (0, u "encode"), (0, u "getOutLength"), (0, u "getOutByte"), (0, u "clearInput"), (0, u "putInByte"), (0, u "(I)Z"), (0, u "setInByte"), (0, u "loadInFromOut"), (0, u "getInLength"), (0, u "decode"), (0, u "getDecodedPixel")] 3

def k2c0 : Code := { maxStack := 5, maxLocals := 7, code := prog_1_method_1_code, exceptionTable := #[], attributes := #[] }
def k2m0 : Method := { name := "<init>", desc := "(IIII)V", sig := { parameters := [.int, .int, .int, .int], returnType := none }, accessFlags := 1, code := some k2c0 }
def k2c1 : Code := { maxStack := 2, maxLocals := 4, code := prog_1_method_2_code, exceptionTable := #[], attributes := #[] }
def k2m1 : Method := { name := "clamp", desc := "(III)I", sig := { parameters := [.int, .int, .int], returnType := some .int }, accessFlags := 2, code := some k2c1 }
def k2c2 : Code := { maxStack := 2, maxLocals := 2, code := prog_1_method_3_code, exceptionTable := #[], attributes := #[] }
def k2m2 : Method := { name := "setInterlaced", desc := "(Z)V", sig := { parameters := [.boolean], returnType := none }, accessFlags := 1, code := some k2c2 }
def k2c3 : Code := { maxStack := 5, maxLocals := 2, code := prog_1_method_4_code, exceptionTable := #[], attributes := #[] }
def k2m3 : Method := { name := "setBlockSize", desc := "(I)I", sig := { parameters := [.int], returnType := some .int }, accessFlags := 1, code := some k2c3 }
def k2c4 : Code := { maxStack := 3, maxLocals := 3, code := prog_1_method_5_code, exceptionTable := #[], attributes := #[] }
def k2m4 : Method := { name := "setPixel", desc := "(II)Z", sig := { parameters := [.int, .int], returnType := some .boolean }, accessFlags := 1, code := some k2c4 }
def k2c5 : Code := { maxStack := 3, maxLocals := 5, code := prog_1_method_6_code, exceptionTable := #[], attributes := #[] }
def k2m5 : Method := { name := "fill", desc := "(III)Z", sig := { parameters := [.int, .int, .int], returnType := some .boolean }, accessFlags := 1, code := some k2c5 }
def k2c6 : Code := { maxStack := 2, maxLocals := 2, code := prog_1_method_7_code, exceptionTable := #[], attributes := #[] }
def k2m6 : Method := { name := "getPixel", desc := "(I)I", sig := { parameters := [.int], returnType := some .int }, accessFlags := 1, code := some k2c6 }
def k2c7 : Code := { maxStack := 4, maxLocals := 2, code := prog_1_method_8_code, exceptionTable := #[], attributes := #[] }
def k2m7 : Method := { name := "buildRowOrder", desc := "()V", sig := { parameters := [], returnType := none }, accessFlags := 2, code := some k2c7 }
def k2c8 : Code := { maxStack := 3, maxLocals := 6, code := prog_1_method_9_code, exceptionTable := #[], attributes := #[] }
def k2m8 : Method := { name := "addRows", desc := "(III)I", sig := { parameters := [.int, .int, .int], returnType := some .int }, accessFlags := 2, code := some k2c8 }
def k2c9 : Code := { maxStack := 2, maxLocals := 4, code := prog_1_method_10_code, exceptionTable := #[], attributes := #[] }
def k2m9 : Method := { name := "rasterOf", desc := "(I)I", sig := { parameters := [.int], returnType := some .int }, accessFlags := 2, code := some k2c9 }
def k2c10 : Code := { maxStack := 4, maxLocals := 3, code := prog_1_method_11_code, exceptionTable := #[], attributes := #[] }
def k2m10 : Method := { name := "encode", desc := "()I", sig := { parameters := [], returnType := some .int }, accessFlags := 1, code := some k2c10 }
def k2c11 : Code := { maxStack := 3, maxLocals := 5, code := prog_1_method_12_code, exceptionTable := #[], attributes := #[] }
def k2m11 : Method := { name := "compress", desc := "()V", sig := { parameters := [], returnType := none }, accessFlags := 2, code := some k2c11 }
def k2c12 : Code := { maxStack := 3, maxLocals := 3, code := prog_1_method_13_code, exceptionTable := #[], attributes := #[] }
def k2m12 : Method := { name := "resetEncoderTable", desc := "(I)V", sig := { parameters := [.int], returnType := none }, accessFlags := 2, code := some k2c12 }
def k2c13 : Code := { maxStack := 2, maxLocals := 5, code := prog_1_method_14_code, exceptionTable := #[], attributes := #[] }
def k2m13 : Method := { name := "findChild", desc := "(II)I", sig := { parameters := [.int, .int], returnType := some .int }, accessFlags := 2, code := some k2c13 }
def k2c14 : Code := { maxStack := 4, maxLocals := 4, code := prog_1_method_15_code, exceptionTable := #[], attributes := #[] }
def k2m14 : Method := { name := "addEncoderCode", desc := "(II)V", sig := { parameters := [.int, .int], returnType := none }, accessFlags := 2, code := some k2c14 }
def k2c15 : Code := { maxStack := 5, maxLocals := 5, code := prog_1_method_16_code, exceptionTable := #[], attributes := #[] }
def k2m15 : Method := { name := "putCode", desc := "(I)V", sig := { parameters := [.int], returnType := none }, accessFlags := 2, code := some k2c15 }
def k2c16 : Code := { maxStack := 3, maxLocals := 6, code := prog_1_method_17_code, exceptionTable := #[], attributes := #[] }
def k2m16 : Method := { name := "packBlocks", desc := "()V", sig := { parameters := [], returnType := none }, accessFlags := 2, code := some k2c16 }
def k2c17 : Code := { maxStack := 4, maxLocals := 2, code := prog_1_method_18_code, exceptionTable := #[], attributes := #[] }
def k2m17 : Method := { name := "writeOut", desc := "(I)V", sig := { parameters := [.int], returnType := none }, accessFlags := 2, code := some k2c17 }
def k2c18 : Code := { maxStack := 1, maxLocals := 1, code := prog_1_method_19_code, exceptionTable := #[], attributes := #[] }
def k2m18 : Method := { name := "getOutLength", desc := "()I", sig := { parameters := [], returnType := some .int }, accessFlags := 1, code := some k2c18 }
def k2c19 : Code := { maxStack := 2, maxLocals := 2, code := prog_1_method_20_code, exceptionTable := #[], attributes := #[] }
def k2m19 : Method := { name := "getOutByte", desc := "(I)I", sig := { parameters := [.int], returnType := some .int }, accessFlags := 1, code := some k2c19 }
def k2c20 : Code := { maxStack := 2, maxLocals := 1, code := prog_1_method_21_code, exceptionTable := #[], attributes := #[] }
def k2m20 : Method := { name := "clearInput", desc := "()V", sig := { parameters := [], returnType := none }, accessFlags := 1, code := some k2c20 }
def k2c21 : Code := { maxStack := 3, maxLocals := 2, code := prog_1_method_22_code, exceptionTable := #[], attributes := #[] }
def k2m21 : Method := { name := "putInByte", desc := "(I)Z", sig := { parameters := [.int], returnType := some .boolean }, accessFlags := 1, code := some k2c21 }
def k2c22 : Code := { maxStack := 3, maxLocals := 3, code := prog_1_method_23_code, exceptionTable := #[], attributes := #[] }
def k2m22 : Method := { name := "setInByte", desc := "(II)Z", sig := { parameters := [.int, .int], returnType := some .boolean }, accessFlags := 1, code := some k2c22 }
def k2c23 : Code := { maxStack := 4, maxLocals := 3, code := prog_1_method_24_code, exceptionTable := #[], attributes := #[] }
def k2m23 : Method := { name := "loadInFromOut", desc := "()I", sig := { parameters := [], returnType := some .int }, accessFlags := 1, code := some k2c23 }
def k2c24 : Code := { maxStack := 1, maxLocals := 1, code := prog_1_method_25_code, exceptionTable := #[], attributes := #[] }
def k2m24 : Method := { name := "getInLength", desc := "()I", sig := { parameters := [], returnType := some .int }, accessFlags := 1, code := some k2c24 }
def k2c25 : Code := { maxStack := 4, maxLocals := 4, code := prog_1_method_26_code, exceptionTable := #[], attributes := #[] }
def k2m25 : Method := { name := "decode", desc := "()I", sig := { parameters := [], returnType := some .int }, accessFlags := 1, code := some k2c25 }
def k2c26 : Code := { maxStack := 2, maxLocals := 2, code := prog_1_method_27_code, exceptionTable := #[], attributes := #[] }
def k2m26 : Method := { name := "decodeSteps", desc := "()I", sig := { parameters := [], returnType := some .int }, accessFlags := 2, code := some k2c26 }
def k2c27 : Code := { maxStack := 5, maxLocals := 5, code := prog_1_method_28_code, exceptionTable := #[], attributes := #[] }
def k2m27 : Method := { name := "gatherBlocks", desc := "()Z", sig := { parameters := [], returnType := some .boolean }, accessFlags := 2, code := some k2c27 }
def k2c28 : Code := { maxStack := 3, maxLocals := 5, code := prog_1_method_29_code, exceptionTable := #[], attributes := #[] }
def k2m28 : Method := { name := "decompress", desc := "()I", sig := { parameters := [], returnType := some .int }, accessFlags := 2, code := some k2c28 }
def k2c29 : Code := { maxStack := 3, maxLocals := 5, code := prog_1_method_30_code, exceptionTable := #[], attributes := #[] }
def k2m29 : Method := { name := "readCode", desc := "()I", sig := { parameters := [], returnType := some .int }, accessFlags := 2, code := some k2c29 }
def k2c30 : Code := { maxStack := 5, maxLocals := 5, code := prog_1_method_31_code, exceptionTable := #[], attributes := #[] }
def k2m30 : Method := { name := "handleCode", desc := "(I)I", sig := { parameters := [.int], returnType := some .int }, accessFlags := 2, code := some k2c30 }
def k2c31 : Code := { maxStack := 2, maxLocals := 2, code := prog_1_method_32_code, exceptionTable := #[], attributes := #[] }
def k2m31 : Method := { name := "lengthOf", desc := "(I)I", sig := { parameters := [.int], returnType := some .int }, accessFlags := 2, code := some k2c31 }
def k2c32 : Code := { maxStack := 2, maxLocals := 2, code := prog_1_method_33_code, exceptionTable := #[], attributes := #[] }
def k2m32 : Method := { name := "firstOf", desc := "(I)I", sig := { parameters := [.int], returnType := some .int }, accessFlags := 2, code := some k2c32 }
def k2c33 : Code := { maxStack := 3, maxLocals := 8, code := prog_1_method_34_code, exceptionTable := #[], attributes := #[] }
def k2m33 : Method := { name := "writeString", desc := "(III)V", sig := { parameters := [.int, .int, .int], returnType := none }, accessFlags := 2, code := some k2c33 }
def k2c34 : Code := { maxStack := 4, maxLocals := 4, code := prog_1_method_35_code, exceptionTable := #[], attributes := #[] }
def k2m34 : Method := { name := "addDecoderCode", desc := "(II)V", sig := { parameters := [.int, .int], returnType := none }, accessFlags := 2, code := some k2c34 }
def k2c35 : Code := { maxStack := 2, maxLocals := 2, code := prog_1_method_36_code, exceptionTable := #[], attributes := #[] }
def k2m35 : Method := { name := "getDecodedPixel", desc := "(I)I", sig := { parameters := [.int], returnType := some .int }, accessFlags := 1, code := some k2c35 }
/-- LzwIndexedImage -/
def k2 : Class := { plain "LzwIndexedImage" (some 0) with
  accessFlags := 49
  interfaces := #[]
  cf := some (fileOf pool2 8 #[] #[{ accessFlags := 1, nameIndex := 5, descriptorIndex := 214, attributes := #[] }, { accessFlags := 2, nameIndex := 54, descriptorIndex := 55, attributes := #[] }, { accessFlags := 1, nameIndex := 218, descriptorIndex := 219, attributes := #[] }, { accessFlags := 1, nameIndex := 220, descriptorIndex := 109, attributes := #[] }, { accessFlags := 1, nameIndex := 221, descriptorIndex := 222, attributes := #[] }, { accessFlags := 1, nameIndex := 223, descriptorIndex := 224, attributes := #[] }, { accessFlags := 1, nameIndex := 225, descriptorIndex := 109, attributes := #[] }, { accessFlags := 2, nameIndex := 105, descriptorIndex := 6, attributes := #[] }, { accessFlags := 2, nameIndex := 102, descriptorIndex := 55, attributes := #[] }, { accessFlags := 2, nameIndex := 108, descriptorIndex := 109, attributes := #[] }, { accessFlags := 1, nameIndex := 226, descriptorIndex := 146, attributes := #[] }, { accessFlags := 2, nameIndex := 112, descriptorIndex := 6, attributes := #[] }, { accessFlags := 2, nameIndex := 121, descriptorIndex := 122, attributes := #[] }, { accessFlags := 2, nameIndex := 134, descriptorIndex := 135, attributes := #[] }, { accessFlags := 2, nameIndex := 138, descriptorIndex := 139, attributes := #[] }, { accessFlags := 2, nameIndex := 131, descriptorIndex := 122, attributes := #[] }, { accessFlags := 2, nameIndex := 115, descriptorIndex := 6, attributes := #[] }, { accessFlags := 2, nameIndex := 142, descriptorIndex := 122, attributes := #[] }, { accessFlags := 1, nameIndex := 227, descriptorIndex := 146, attributes := #[] }, { accessFlags := 1, nameIndex := 228, descriptorIndex := 109, attributes := #[] }, { accessFlags := 1, nameIndex := 229, descriptorIndex := 6, attributes := #[] }, { accessFlags := 1, nameIndex := 230, descriptorIndex := 231, attributes := #[] }, { accessFlags := 1, nameIndex := 232, descriptorIndex := 222, attributes := #[] }, { accessFlags := 1, nameIndex := 233, descriptorIndex := 146, attributes := #[] }, { accessFlags := 1, nameIndex := 234, descriptorIndex := 146, attributes := #[] }, { accessFlags := 1, nameIndex := 235, descriptorIndex := 146, attributes := #[] }, { accessFlags := 2, nameIndex := 145, descriptorIndex := 146, attributes := #[] }, { accessFlags := 2, nameIndex := 149, descriptorIndex := 150, attributes := #[] }, { accessFlags := 2, nameIndex := 153, descriptorIndex := 146, attributes := #[] }, { accessFlags := 2, nameIndex := 174, descriptorIndex := 146, attributes := #[] }, { accessFlags := 2, nameIndex := 177, descriptorIndex := 109, attributes := #[] }, { accessFlags := 2, nameIndex := 180, descriptorIndex := 109, attributes := #[] }, { accessFlags := 2, nameIndex := 187, descriptorIndex := 109, attributes := #[] }, { accessFlags := 2, nameIndex := 183, descriptorIndex := 184, attributes := #[] }, { accessFlags := 2, nameIndex := 190, descriptorIndex := 139, attributes := #[] }, { accessFlags := 1, nameIndex := 236, descriptorIndex := 109, attributes := #[] }] 49 2 #[] #[{ accessFlags := 25, nameIndex := 191, descriptorIndex := 59, attributes := #[] }, { accessFlags := 25, nameIndex := 194, descriptorIndex := 59, attributes := #[] }, { accessFlags := 25, nameIndex := 196, descriptorIndex := 59, attributes := #[] }, { accessFlags := 25, nameIndex := 198, descriptorIndex := 59, attributes := #[] }, { accessFlags := 25, nameIndex := 200, descriptorIndex := 59, attributes := #[] }, { accessFlags := 25, nameIndex := 202, descriptorIndex := 59, attributes := #[] }, { accessFlags := 25, nameIndex := 204, descriptorIndex := 59, attributes := #[] }, { accessFlags := 25, nameIndex := 206, descriptorIndex := 59, attributes := #[] }, { accessFlags := 25, nameIndex := 208, descriptorIndex := 59, attributes := #[] }, { accessFlags := 25, nameIndex := 210, descriptorIndex := 59, attributes := #[] }, { accessFlags := 25, nameIndex := 212, descriptorIndex := 59, attributes := #[] }, { accessFlags := 2, nameIndex := 58, descriptorIndex := 59, attributes := #[] }, { accessFlags := 2, nameIndex := 62, descriptorIndex := 59, attributes := #[] }, { accessFlags := 2, nameIndex := 65, descriptorIndex := 59, attributes := #[] }, { accessFlags := 2, nameIndex := 68, descriptorIndex := 59, attributes := #[] }, { accessFlags := 2, nameIndex := 71, descriptorIndex := 59, attributes := #[] }, { accessFlags := 2, nameIndex := 74, descriptorIndex := 59, attributes := #[] }, { accessFlags := 2, nameIndex := 77, descriptorIndex := 59, attributes := #[] }, { accessFlags := 2, nameIndex := 80, descriptorIndex := 59, attributes := #[] }, { accessFlags := 2, nameIndex := 83, descriptorIndex := 84, attributes := #[] }, { accessFlags := 2, nameIndex := 87, descriptorIndex := 59, attributes := #[] }, { accessFlags := 2, nameIndex := 11, descriptorIndex := 12, attributes := #[] }, { accessFlags := 2, nameIndex := 15, descriptorIndex := 12, attributes := #[] }, { accessFlags := 2, nameIndex := 90, descriptorIndex := 59, attributes := #[] }, { accessFlags := 2, nameIndex := 18, descriptorIndex := 12, attributes := #[] }, { accessFlags := 2, nameIndex := 93, descriptorIndex := 59, attributes := #[] }, { accessFlags := 2, nameIndex := 21, descriptorIndex := 12, attributes := #[] }, { accessFlags := 2, nameIndex := 96, descriptorIndex := 84, attributes := #[] }, { accessFlags := 2, nameIndex := 99, descriptorIndex := 59, attributes := #[] }, { accessFlags := 2, nameIndex := 24, descriptorIndex := 12, attributes := #[] }, { accessFlags := 2, nameIndex := 27, descriptorIndex := 12, attributes := #[] }, { accessFlags := 2, nameIndex := 30, descriptorIndex := 12, attributes := #[] }, { accessFlags := 2, nameIndex := 159, descriptorIndex := 59, attributes := #[] }, { accessFlags := 2, nameIndex := 33, descriptorIndex := 12, attributes := #[] }, { accessFlags := 2, nameIndex := 36, descriptorIndex := 12, attributes := #[] }, { accessFlags := 2, nameIndex := 39, descriptorIndex := 12, attributes := #[] }, { accessFlags := 2, nameIndex := 125, descriptorIndex := 59, attributes := #[] }, { accessFlags := 2, nameIndex := 128, descriptorIndex := 59, attributes := #[] }, { accessFlags := 2, nameIndex := 118, descriptorIndex := 59, attributes := #[] }, { accessFlags := 2, nameIndex := 42, descriptorIndex := 12, attributes := #[] }, { accessFlags := 2, nameIndex := 45, descriptorIndex := 12, attributes := #[] }, { accessFlags := 2, nameIndex := 48, descriptorIndex := 12, attributes := #[] }, { accessFlags := 2, nameIndex := 51, descriptorIndex := 12, attributes := #[] }, { accessFlags := 2, nameIndex := 165, descriptorIndex := 59, attributes := #[] }, { accessFlags := 2, nameIndex := 168, descriptorIndex := 59, attributes := #[] }, { accessFlags := 2, nameIndex := 171, descriptorIndex := 59, attributes := #[] }, { accessFlags := 2, nameIndex := 156, descriptorIndex := 59, attributes := #[] }, { accessFlags := 2, nameIndex := 162, descriptorIndex := 59, attributes := #[] }])
  fields := #[{ name := "OK", type := .int, accessFlags := 25, slot := 0, constantValue := 0 }, { name := "NONE", type := .int, accessFlags := 25, slot := 1, constantValue := 0 }, { name := "ERR_EMPTY", type := .int, accessFlags := 25, slot := 2, constantValue := 0 }, { name := "ERR_MIN_CODE_SIZE", type := .int, accessFlags := 25, slot := 3, constantValue := 0 }, { name := "ERR_BLOCKS", type := .int, accessFlags := 25, slot := 4, constantValue := 0 }, { name := "ERR_NO_END", type := .int, accessFlags := 25, slot := 5, constantValue := 0 }, { name := "ERR_BAD_CODE", type := .int, accessFlags := 25, slot := 6, constantValue := 0 }, { name := "ERR_BAD_INDEX", type := .int, accessFlags := 25, slot := 7, constantValue := 0 }, { name := "ERR_LONG", type := .int, accessFlags := 25, slot := 8, constantValue := 0 }, { name := "ERR_SHORT", type := .int, accessFlags := 25, slot := 9, constantValue := 0 }, { name := "IN_CAPACITY", type := .int, accessFlags := 25, slot := 10, constantValue := 0 }, { name := "width", type := .int, accessFlags := 2, slot := 0, constantValue := 0 }, { name := "height", type := .int, accessFlags := 2, slot := 1, constantValue := 0 }, { name := "total", type := .int, accessFlags := 2, slot := 2, constantValue := 0 }, { name := "palette", type := .int, accessFlags := 2, slot := 3, constantValue := 0 }, { name := "minSize", type := .int, accessFlags := 2, slot := 4, constantValue := 0 }, { name := "clearCode", type := .int, accessFlags := 2, slot := 5, constantValue := 0 }, { name := "maxWidth", type := .int, accessFlags := 2, slot := 6, constantValue := 0 }, { name := "codeLimit", type := .int, accessFlags := 2, slot := 7, constantValue := 0 }, { name := "interlaced", type := .boolean, accessFlags := 2, slot := 8, constantValue := 0 }, { name := "blockSize", type := .int, accessFlags := 2, slot := 9, constantValue := 0 }, { name := "pixels", type := (.array .int), accessFlags := 2, slot := 10, constantValue := 0 }, { name := "out", type := (.array .int), accessFlags := 2, slot := 11, constantValue := 0 }, { name := "outLen", type := .int, accessFlags := 2, slot := 12, constantValue := 0 }, { name := "in", type := (.array .int), accessFlags := 2, slot := 13, constantValue := 0 }, { name := "inLen", type := .int, accessFlags := 2, slot := 14, constantValue := 0 }, { name := "decodedPix", type := (.array .int), accessFlags := 2, slot := 15, constantValue := 0 }, { name := "hasDecoded", type := .boolean, accessFlags := 2, slot := 16, constantValue := 0 }, { name := "status", type := .int, accessFlags := 2, slot := 17, constantValue := 0 }, { name := "rowOrder", type := (.array .int), accessFlags := 2, slot := 18, constantValue := 0 }, { name := "streamBuf", type := (.array .int), accessFlags := 2, slot := 19, constantValue := 0 }, { name := "data", type := (.array .int), accessFlags := 2, slot := 20, constantValue := 0 }, { name := "dataLen", type := .int, accessFlags := 2, slot := 21, constantValue := 0 }, { name := "firstChild", type := (.array .int), accessFlags := 2, slot := 22, constantValue := 0 }, { name := "nextSibling", type := (.array .int), accessFlags := 2, slot := 23, constantValue := 0 }, { name := "childPixel", type := (.array .int), accessFlags := 2, slot := 24, constantValue := 0 }, { name := "encWidth", type := .int, accessFlags := 2, slot := 25, constantValue := 0 }, { name := "encNext", type := .int, accessFlags := 2, slot := 26, constantValue := 0 }, { name := "bitPos", type := .int, accessFlags := 2, slot := 27, constantValue := 0 }, { name := "prefix", type := (.array .int), accessFlags := 2, slot := 28, constantValue := 0 }, { name := "suffix", type := (.array .int), accessFlags := 2, slot := 29, constantValue := 0 }, { name := "firstPix", type := (.array .int), accessFlags := 2, slot := 30, constantValue := 0 }, { name := "strLen", type := (.array .int), accessFlags := 2, slot := 31, constantValue := 0 }, { name := "decWidth", type := .int, accessFlags := 2, slot := 32, constantValue := 0 }, { name := "decNext", type := .int, accessFlags := 2, slot := 33, constantValue := 0 }, { name := "decPrev", type := .int, accessFlags := 2, slot := 34, constantValue := 0 }, { name := "decCount", type := .int, accessFlags := 2, slot := 35, constantValue := 0 }, { name := "readPos", type := .int, accessFlags := 2, slot := 36, constantValue := 0 }]
  methods := #[k2m0, k2m1, k2m2, k2m3, k2m4, k2m5, k2m6, k2m7, k2m8, k2m9, k2m10, k2m11, k2m12, k2m13, k2m14, k2m15, k2m16, k2m17, k2m18, k2m19, k2m20, k2m21, k2m22, k2m23, k2m24, k2m25, k2m26, k2m27, k2m28, k2m29, k2m30, k2m31, k2m32, k2m33, k2m34, k2m35]
  instanceTypes := #[.int, .int, .int, .int, .int, .int, .int, .int, .boolean, .int, (.array .int), (.array .int), .int, (.array .int), .int, (.array .int), .boolean, .int, (.array .int), (.array .int), (.array .int), .int, (.array .int), (.array .int), (.array .int), .int, .int, .int, (.array .int), (.array .int), (.array .int), (.array .int), .int, .int, .int, .int, .int]
  staticTypes := #[.int, .int, .int, .int, .int, .int, .int, .int, .int, .int, .int]
  resolved := Array.replicate 240 none
  statics := none }

def pool3 : Array CpInfo := pool [(1, u "java/lang/Cloneable"), (0, .class_ 1), (0, u "java/lang/Object"), (0, .class_ 3)] 3

/-- java/lang/Cloneable -/
def k3 : Class := { plain "java/lang/Cloneable" (some 0) with
  accessFlags := 1537
  interfaces := #[]
  cf := some (fileOf pool3 2 #[] #[] 1537 4 #[] #[])
  fields := #[]
  methods := #[]
  instanceTypes := #[]
  staticTypes := #[]
  resolved := Array.replicate 8 none
  statics := none }

def pool4 : Array CpInfo := pool [(1, u "java/io/Serializable"), (0, .class_ 1), (0, u "java/lang/Object"), (0, .class_ 3)] 3

/-- java/io/Serializable -/
def k4 : Class := { plain "java/io/Serializable" (some 0) with
  accessFlags := 1537
  interfaces := #[]
  cf := some (fileOf pool4 2 #[] #[] 1537 4 #[] #[])
  fields := #[]
  methods := #[]
  instanceTypes := #[]
  staticTypes := #[]
  resolved := Array.replicate 8 none
  statics := none }

/-- the primitive byte -/
def k5 : Class := { plain "byte" none with kind := .primitive 'B', accessFlags := 0x411 }
/-- [B -/
def k6 : Class := { plain "[B" (some 0) with kind := .array 5 .byte, interfaces := #[3, 4], accessFlags := 1041 }

/-- the primitive int -/
def k7 : Class := { plain "int" none with kind := .primitive 'I', accessFlags := 0x411 }
/-- [I -/
def k8 : Class := { plain "[I" (some 0) with kind := .array 7 .int, interfaces := #[3, 4], accessFlags := 1041 }

def heap : Heap := #[{ cls := 8, slots := #[.int 1, .int 2, .int 3], vm := .none }]
def classes : Array Class := #[k0, k1, k2, k3, k4, k5, k6, k7, k8]
def interned : List (Array UInt16 × Addr) := []
def slotsUsed : Nat := 3
def theMethod : MethodId := ⟨1, 1⟩
def args0 : Array Value := #[.ref 0]
def aboutOver (below : List Frame) : State where
  vm := { classes := classes, interned := interned.toArray }
  heap := heap
  slotsUsed := slotsUsed
  threads := #[{ frames := .invoking theMethod args0 :: below }]
def below0 : List Frame := [.native { method := ⟨0, 0⟩, args := #[] }]
def about1 : State := aboutOver below0
def p0 : Program := .bare "" "" ""
def e0 : Env := launch0.env 0 0 0
theorem w_frames : about1.frames = Frame.invoking theMethod args0 :: below0 := rfl
set_option maxRecDepth 65536 in
theorem w_args : argsFit about1.vm theMethod args0 = true := by decide +kernel
set_option maxRecDepth 65536 in
theorem w_heap : heapFits about1 = true := by decide +kernel
set_option maxRecDepth 65536 in
theorem w_runnable : about1.curStatus? = some .runnable := by decide +kernel
set_option maxRecDepth 65536 in
theorem w_alone : about1.alone = true := by decide +kernel
set_option maxRecDepth 65536 in
theorem w_named : about1.methodNamed? x = some theMethod := by decide +kernel
set_option maxRecDepth 65536 in
theorem w_hears : about1.hears theMethod below0 = true := by decide +kernel
set_option maxRecDepth 65536 in
theorem w_ripe : about1.ripe theMethod args0 below0 = true := by decide +kernel
theorem w_running : about1.status = .running := rfl
set_option maxRecDepth 65536 in
theorem w_room : about1.hasRoom e0.platform room_1 = true :=
  launch0.hasRoom_least _ room_1 (by decide +kernel) (by decide +kernel) (by decide +kernel) (by decide +kernel) (by decide +kernel) (by decide +kernel)
theorem allAtoms_all (ts : List Jvm.Cond) (a : Array Jvm.Value) (st : Jvm.State) : (allAtoms ts).before a st = ts.all (fun c => c.before a st) := by
  induction ts with
  | nil => rfl
  | cons c t ih =>
    show (Jvm.Cond.and c (allAtoms t)).before a st = _
    rw [Jvm.Cond.before_and, ih, List.all_cons]
def words1 : List Jvm.Cond := Jvm.Cond.code x code maxLocals ret :: tables_1
/-- a 'code' word, met by the world's own term for the bytes: nothing is compared byte by byte -/
theorem code_word {y : MethodName} {bytes : ByteArray} {mx : Nat} {rt : Option FieldType} {a : Array Value} {s : State} {m : MethodId} {meth : Method} {c : Code} (h1 : s.methodNamed? y = some m) (h2 : s.vm.method? m = some meth) (h3 : meth.code = some c) (h4 : c.code = bytes)
    (h5 : (c.maxLocals == mx && c.exceptionTable.isEmpty && decide (c.maxStack ≤ mostOperands) && decide (meth.sig.returnType = rt) && !meth.locks && decide (parseMethodDescriptor y.desc = some meth.sig)) = true) : (Jvm.Cond.code y bytes mx rt).before a s = true := by
  simp only [Bool.and_eq_true, beq_iff_eq, Bool.not_eq_true', decide_eq_true_eq] at h5
  obtain ⟨⟨⟨⟨⟨g1, g2⟩, g3⟩, g4⟩, g5⟩, g6⟩ := h5
  simp [Cond.before, Cond.holds, Cond.value, h1, h2, h3, h4, g1, g2, g3, g4, g5, g6]
def isCode : Jvm.Cond → Bool
  | .code _ _ _ _ => true
  | _ => false
theorem all_split {L : List Jvm.Cond} {P : Jvm.Cond → Bool} (h1 : L.all (fun c => isCode c || P c) = true) (h2 : ∀ c ∈ L.filter isCode, P c = true) : L.all P = true := by
  refine List.all_eq_true.mpr fun c hc => ?_
  have h := List.all_eq_true.mp h1 c hc
  rcases Bool.eq_false_or_eq_true (isCode c) with hi | hi
  · exact h2 c (List.mem_filter.mpr ⟨hc, hi⟩)
  · simpa [hi] using h
set_option maxRecDepth 65536 in
theorem w_c0 : (Jvm.Cond.code x code maxLocals ret).before args0 about1 = true := code_word (m := ⟨1, 1⟩) (meth := k1m1) (c := k1c1) (by decide +kernel) rfl rfl rfl (by decide +kernel)
set_option maxRecDepth 65536 in
theorem w_c1 : (Jvm.Cond.code ({ cls := "LzwIndexedImage", name := "<init>", desc := "(IIII)V" } : Jvm.MethodName) prog_1_method_1_code (7 : Nat) (Option.none : Option Jvm.ClassFile.FieldType)).before args0 about1 = true := code_word (m := ⟨2, 0⟩) (meth := k2m0) (c := k2c0) (by decide +kernel) rfl rfl rfl (by decide +kernel)
set_option maxRecDepth 65536 in
theorem w_c2 : (Jvm.Cond.code ({ cls := "java/lang/Object", name := "<init>", desc := "()V" } : Jvm.MethodName) object_method_1_code (1 : Nat) (Option.none : Option Jvm.ClassFile.FieldType)).before args0 about1 = true := code_word (m := ⟨0, 0⟩) (meth := k0m0) (c := k0c0) (by decide +kernel) rfl rfl rfl (by decide +kernel)
set_option maxRecDepth 65536 in
theorem w_c3 : (Jvm.Cond.code ({ cls := "LzwIndexedImage", name := "clamp", desc := "(III)I" } : Jvm.MethodName) prog_1_method_2_code (4 : Nat) (Option.some Jvm.ClassFile.FieldType.int)).before args0 about1 = true := code_word (m := ⟨2, 1⟩) (meth := k2m1) (c := k2c1) (by decide +kernel) rfl rfl rfl (by decide +kernel)
set_option maxRecDepth 65536 in
theorem w_c4 : (Jvm.Cond.code ({ cls := "LzwIndexedImageL5", name := "step", desc := "(LLzwIndexedImage;IIII)V" } : Jvm.MethodName) method_3_code (5 : Nat) (Option.none : Option Jvm.ClassFile.FieldType)).before args0 about1 = true := code_word (m := ⟨1, 2⟩) (meth := k1m2) (c := k1c2) (by decide +kernel) rfl rfl rfl (by decide +kernel)
set_option maxRecDepth 65536 in
theorem w_c5 : (Jvm.Cond.code ({ cls := "LzwIndexedImage", name := "fill", desc := "(III)Z" } : Jvm.MethodName) prog_1_method_6_code (5 : Nat) (Option.some Jvm.ClassFile.FieldType.boolean)).before args0 about1 = true := code_word (m := ⟨2, 5⟩) (meth := k2m5) (c := k2c5) (by decide +kernel) rfl rfl rfl (by decide +kernel)
set_option maxRecDepth 65536 in
theorem w_c6 : (Jvm.Cond.code ({ cls := "LzwIndexedImage", name := "setBlockSize", desc := "(I)I" } : Jvm.MethodName) prog_1_method_4_code (2 : Nat) (Option.some Jvm.ClassFile.FieldType.int)).before args0 about1 = true := code_word (m := ⟨2, 3⟩) (meth := k2m3) (c := k2c3) (by decide +kernel) rfl rfl rfl (by decide +kernel)
set_option maxRecDepth 65536 in
theorem w_c7 : (Jvm.Cond.code ({ cls := "LzwIndexedImage", name := "setInterlaced", desc := "(Z)V" } : Jvm.MethodName) prog_1_method_3_code (2 : Nat) (Option.none : Option Jvm.ClassFile.FieldType)).before args0 about1 = true := code_word (m := ⟨2, 2⟩) (meth := k2m2) (c := k2c2) (by decide +kernel) rfl rfl rfl (by decide +kernel)
set_option maxRecDepth 65536 in
theorem w_c8 : (Jvm.Cond.code ({ cls := "LzwIndexedImage", name := "setPixel", desc := "(II)Z" } : Jvm.MethodName) prog_1_method_5_code (3 : Nat) (Option.some Jvm.ClassFile.FieldType.boolean)).before args0 about1 = true := code_word (m := ⟨2, 4⟩) (meth := k2m4) (c := k2c4) (by decide +kernel) rfl rfl rfl (by decide +kernel)
set_option maxRecDepth 65536 in
theorem w_c9 : (Jvm.Cond.code ({ cls := "LzwIndexedImage", name := "getPixel", desc := "(I)I" } : Jvm.MethodName) prog_1_method_7_code (2 : Nat) (Option.some Jvm.ClassFile.FieldType.int)).before args0 about1 = true := code_word (m := ⟨2, 6⟩) (meth := k2m6) (c := k2c6) (by decide +kernel) rfl rfl rfl (by decide +kernel)
set_option maxRecDepth 65536 in
theorem w_c10 : (Jvm.Cond.code ({ cls := "LzwIndexedImage", name := "getOutLength", desc := "()I" } : Jvm.MethodName) prog_1_method_19_code (1 : Nat) (Option.some Jvm.ClassFile.FieldType.int)).before args0 about1 = true := code_word (m := ⟨2, 18⟩) (meth := k2m18) (c := k2c18) (by decide +kernel) rfl rfl rfl (by decide +kernel)
set_option maxRecDepth 65536 in
theorem w_c11 : (Jvm.Cond.code ({ cls := "LzwIndexedImage", name := "getInLength", desc := "()I" } : Jvm.MethodName) prog_1_method_25_code (1 : Nat) (Option.some Jvm.ClassFile.FieldType.int)).before args0 about1 = true := code_word (m := ⟨2, 24⟩) (meth := k2m24) (c := k2c24) (by decide +kernel) rfl rfl rfl (by decide +kernel)
set_option maxRecDepth 65536 in
theorem w_c12 : (Jvm.Cond.code ({ cls := "LzwIndexedImage", name := "getOutByte", desc := "(I)I" } : Jvm.MethodName) prog_1_method_20_code (2 : Nat) (Option.some Jvm.ClassFile.FieldType.int)).before args0 about1 = true := code_word (m := ⟨2, 19⟩) (meth := k2m19) (c := k2c19) (by decide +kernel) rfl rfl rfl (by decide +kernel)
set_option maxRecDepth 65536 in
theorem w_c13 : (Jvm.Cond.code ({ cls := "LzwIndexedImage", name := "decode", desc := "()I" } : Jvm.MethodName) prog_1_method_26_code (4 : Nat) (Option.some Jvm.ClassFile.FieldType.int)).before args0 about1 = true := code_word (m := ⟨2, 25⟩) (meth := k2m25) (c := k2c25) (by decide +kernel) rfl rfl rfl (by decide +kernel)
set_option maxRecDepth 65536 in
theorem w_c14 : (Jvm.Cond.code ({ cls := "LzwIndexedImage", name := "decodeSteps", desc := "()I" } : Jvm.MethodName) prog_1_method_27_code (2 : Nat) (Option.some Jvm.ClassFile.FieldType.int)).before args0 about1 = true := code_word (m := ⟨2, 26⟩) (meth := k2m26) (c := k2c26) (by decide +kernel) rfl rfl rfl (by decide +kernel)
set_option maxRecDepth 65536 in
theorem w_c15 : (Jvm.Cond.code ({ cls := "LzwIndexedImage", name := "getDecodedPixel", desc := "(I)I" } : Jvm.MethodName) prog_1_method_36_code (2 : Nat) (Option.some Jvm.ClassFile.FieldType.int)).before args0 about1 = true := code_word (m := ⟨2, 35⟩) (meth := k2m35) (c := k2c35) (by decide +kernel) rfl rfl rfl (by decide +kernel)
set_option maxRecDepth 65536 in
theorem w_c16 : (Jvm.Cond.code ({ cls := "LzwIndexedImage", name := "loadInFromOut", desc := "()I" } : Jvm.MethodName) prog_1_method_24_code (3 : Nat) (Option.some Jvm.ClassFile.FieldType.int)).before args0 about1 = true := code_word (m := ⟨2, 23⟩) (meth := k2m23) (c := k2c23) (by decide +kernel) rfl rfl rfl (by decide +kernel)
set_option maxRecDepth 65536 in
theorem w_c17 : (Jvm.Cond.code ({ cls := "LzwIndexedImage", name := "putInByte", desc := "(I)Z" } : Jvm.MethodName) prog_1_method_22_code (2 : Nat) (Option.some Jvm.ClassFile.FieldType.boolean)).before args0 about1 = true := code_word (m := ⟨2, 21⟩) (meth := k2m21) (c := k2c21) (by decide +kernel) rfl rfl rfl (by decide +kernel)
set_option maxRecDepth 65536 in
theorem w_c18 : (Jvm.Cond.code ({ cls := "LzwIndexedImage", name := "setInByte", desc := "(II)Z" } : Jvm.MethodName) prog_1_method_23_code (3 : Nat) (Option.some Jvm.ClassFile.FieldType.boolean)).before args0 about1 = true := code_word (m := ⟨2, 22⟩) (meth := k2m22) (c := k2c22) (by decide +kernel) rfl rfl rfl (by decide +kernel)
set_option maxRecDepth 65536 in
theorem w_c19 : (Jvm.Cond.code ({ cls := "LzwIndexedImage", name := "encode", desc := "()I" } : Jvm.MethodName) prog_1_method_11_code (3 : Nat) (Option.some Jvm.ClassFile.FieldType.int)).before args0 about1 = true := code_word (m := ⟨2, 10⟩) (meth := k2m10) (c := k2c10) (by decide +kernel) rfl rfl rfl (by decide +kernel)
set_option maxRecDepth 65536 in
theorem w_c20 : (Jvm.Cond.code ({ cls := "LzwIndexedImage", name := "buildRowOrder", desc := "()V" } : Jvm.MethodName) prog_1_method_8_code (2 : Nat) (Option.none : Option Jvm.ClassFile.FieldType)).before args0 about1 = true := code_word (m := ⟨2, 7⟩) (meth := k2m7) (c := k2c7) (by decide +kernel) rfl rfl rfl (by decide +kernel)
set_option maxRecDepth 65536 in
theorem w_c21 : (Jvm.Cond.code ({ cls := "LzwIndexedImage", name := "rasterOf", desc := "(I)I" } : Jvm.MethodName) prog_1_method_10_code (4 : Nat) (Option.some Jvm.ClassFile.FieldType.int)).before args0 about1 = true := code_word (m := ⟨2, 9⟩) (meth := k2m9) (c := k2c9) (by decide +kernel) rfl rfl rfl (by decide +kernel)
set_option maxRecDepth 65536 in
theorem w_c22 : (Jvm.Cond.code ({ cls := "LzwIndexedImage", name := "compress", desc := "()V" } : Jvm.MethodName) prog_1_method_12_code (5 : Nat) (Option.none : Option Jvm.ClassFile.FieldType)).before args0 about1 = true := code_word (m := ⟨2, 11⟩) (meth := k2m11) (c := k2c11) (by decide +kernel) rfl rfl rfl (by decide +kernel)
set_option maxRecDepth 65536 in
theorem w_c23 : (Jvm.Cond.code ({ cls := "LzwIndexedImage", name := "resetEncoderTable", desc := "(I)V" } : Jvm.MethodName) prog_1_method_13_code (3 : Nat) (Option.none : Option Jvm.ClassFile.FieldType)).before args0 about1 = true := code_word (m := ⟨2, 12⟩) (meth := k2m12) (c := k2c12) (by decide +kernel) rfl rfl rfl (by decide +kernel)
set_option maxRecDepth 65536 in
theorem w_c24 : (Jvm.Cond.code ({ cls := "LzwIndexedImage", name := "putCode", desc := "(I)V" } : Jvm.MethodName) prog_1_method_16_code (5 : Nat) (Option.none : Option Jvm.ClassFile.FieldType)).before args0 about1 = true := code_word (m := ⟨2, 15⟩) (meth := k2m15) (c := k2c15) (by decide +kernel) rfl rfl rfl (by decide +kernel)
set_option maxRecDepth 65536 in
theorem w_c25 : (Jvm.Cond.code ({ cls := "LzwIndexedImage", name := "findChild", desc := "(II)I" } : Jvm.MethodName) prog_1_method_14_code (5 : Nat) (Option.some Jvm.ClassFile.FieldType.int)).before args0 about1 = true := code_word (m := ⟨2, 13⟩) (meth := k2m13) (c := k2c13) (by decide +kernel) rfl rfl rfl (by decide +kernel)
set_option maxRecDepth 65536 in
theorem w_c26 : (Jvm.Cond.code ({ cls := "LzwIndexedImage", name := "addEncoderCode", desc := "(II)V" } : Jvm.MethodName) prog_1_method_15_code (4 : Nat) (Option.none : Option Jvm.ClassFile.FieldType)).before args0 about1 = true := code_word (m := ⟨2, 14⟩) (meth := k2m14) (c := k2c14) (by decide +kernel) rfl rfl rfl (by decide +kernel)
set_option maxRecDepth 65536 in
theorem w_c27 : (Jvm.Cond.code ({ cls := "LzwIndexedImage", name := "packBlocks", desc := "()V" } : Jvm.MethodName) prog_1_method_17_code (6 : Nat) (Option.none : Option Jvm.ClassFile.FieldType)).before args0 about1 = true := code_word (m := ⟨2, 16⟩) (meth := k2m16) (c := k2c16) (by decide +kernel) rfl rfl rfl (by decide +kernel)
set_option maxRecDepth 65536 in
theorem w_c28 : (Jvm.Cond.code ({ cls := "LzwIndexedImage", name := "writeOut", desc := "(I)V" } : Jvm.MethodName) prog_1_method_18_code (2 : Nat) (Option.none : Option Jvm.ClassFile.FieldType)).before args0 about1 = true := code_word (m := ⟨2, 17⟩) (meth := k2m17) (c := k2c17) (by decide +kernel) rfl rfl rfl (by decide +kernel)
set_option maxRecDepth 65536 in
theorem w_c29 : (Jvm.Cond.code ({ cls := "LzwIndexedImage", name := "clearInput", desc := "()V" } : Jvm.MethodName) prog_1_method_21_code (1 : Nat) (Option.none : Option Jvm.ClassFile.FieldType)).before args0 about1 = true := code_word (m := ⟨2, 20⟩) (meth := k2m20) (c := k2c20) (by decide +kernel) rfl rfl rfl (by decide +kernel)
set_option maxRecDepth 65536 in
theorem w_c30 : (Jvm.Cond.code ({ cls := "LzwIndexedImage", name := "addRows", desc := "(III)I" } : Jvm.MethodName) prog_1_method_9_code (6 : Nat) (Option.some Jvm.ClassFile.FieldType.int)).before args0 about1 = true := code_word (m := ⟨2, 8⟩) (meth := k2m8) (c := k2c8) (by decide +kernel) rfl rfl rfl (by decide +kernel)
set_option maxRecDepth 65536 in
theorem w_c31 : (Jvm.Cond.code ({ cls := "LzwIndexedImage", name := "gatherBlocks", desc := "()Z" } : Jvm.MethodName) prog_1_method_28_code (5 : Nat) (Option.some Jvm.ClassFile.FieldType.boolean)).before args0 about1 = true := code_word (m := ⟨2, 27⟩) (meth := k2m27) (c := k2c27) (by decide +kernel) rfl rfl rfl (by decide +kernel)
set_option maxRecDepth 65536 in
theorem w_c32 : (Jvm.Cond.code ({ cls := "LzwIndexedImage", name := "decompress", desc := "()I" } : Jvm.MethodName) prog_1_method_29_code (5 : Nat) (Option.some Jvm.ClassFile.FieldType.int)).before args0 about1 = true := code_word (m := ⟨2, 28⟩) (meth := k2m28) (c := k2c28) (by decide +kernel) rfl rfl rfl (by decide +kernel)
set_option maxRecDepth 65536 in
theorem w_c33 : (Jvm.Cond.code ({ cls := "LzwIndexedImage", name := "readCode", desc := "()I" } : Jvm.MethodName) prog_1_method_30_code (5 : Nat) (Option.some Jvm.ClassFile.FieldType.int)).before args0 about1 = true := code_word (m := ⟨2, 29⟩) (meth := k2m29) (c := k2c29) (by decide +kernel) rfl rfl rfl (by decide +kernel)
set_option maxRecDepth 65536 in
theorem w_c34 : (Jvm.Cond.code ({ cls := "LzwIndexedImage", name := "handleCode", desc := "(I)I" } : Jvm.MethodName) prog_1_method_31_code (5 : Nat) (Option.some Jvm.ClassFile.FieldType.int)).before args0 about1 = true := code_word (m := ⟨2, 30⟩) (meth := k2m30) (c := k2c30) (by decide +kernel) rfl rfl rfl (by decide +kernel)
set_option maxRecDepth 65536 in
theorem w_c35 : (Jvm.Cond.code ({ cls := "LzwIndexedImage", name := "lengthOf", desc := "(I)I" } : Jvm.MethodName) prog_1_method_32_code (2 : Nat) (Option.some Jvm.ClassFile.FieldType.int)).before args0 about1 = true := code_word (m := ⟨2, 31⟩) (meth := k2m31) (c := k2c31) (by decide +kernel) rfl rfl rfl (by decide +kernel)
set_option maxRecDepth 65536 in
theorem w_c36 : (Jvm.Cond.code ({ cls := "LzwIndexedImage", name := "writeString", desc := "(III)V" } : Jvm.MethodName) prog_1_method_34_code (8 : Nat) (Option.none : Option Jvm.ClassFile.FieldType)).before args0 about1 = true := code_word (m := ⟨2, 33⟩) (meth := k2m33) (c := k2c33) (by decide +kernel) rfl rfl rfl (by decide +kernel)
set_option maxRecDepth 65536 in
theorem w_c37 : (Jvm.Cond.code ({ cls := "LzwIndexedImage", name := "firstOf", desc := "(I)I" } : Jvm.MethodName) prog_1_method_33_code (2 : Nat) (Option.some Jvm.ClassFile.FieldType.int)).before args0 about1 = true := code_word (m := ⟨2, 32⟩) (meth := k2m32) (c := k2c32) (by decide +kernel) rfl rfl rfl (by decide +kernel)
set_option maxRecDepth 65536 in
theorem w_c38 : (Jvm.Cond.code ({ cls := "LzwIndexedImage", name := "addDecoderCode", desc := "(II)V" } : Jvm.MethodName) prog_1_method_35_code (4 : Nat) (Option.none : Option Jvm.ClassFile.FieldType)).before args0 about1 = true := code_word (m := ⟨2, 34⟩) (meth := k2m34) (c := k2c34) (by decide +kernel) rfl rfl rfl (by decide +kernel)
def codes1 : List Jvm.Cond := [Jvm.Cond.code x code maxLocals ret, Jvm.Cond.code ({ cls := "LzwIndexedImage", name := "<init>", desc := "(IIII)V" } : Jvm.MethodName) prog_1_method_1_code (7 : Nat) (Option.none : Option Jvm.ClassFile.FieldType), Jvm.Cond.code ({ cls := "java/lang/Object", name := "<init>", desc := "()V" } : Jvm.MethodName) object_method_1_code (1 : Nat) (Option.none : Option Jvm.ClassFile.FieldType), Jvm.Cond.code ({ cls := "LzwIndexedImage", name := "clamp", desc := "(III)I" } : Jvm.MethodName) prog_1_method_2_code (4 : Nat) (Option.some Jvm.ClassFile.FieldType.int), Jvm.Cond.code ({ cls := "LzwIndexedImageL5", name := "step", desc := "(LLzwIndexedImage;IIII)V" } : Jvm.MethodName) method_3_code (5 : Nat) (Option.none : Option Jvm.ClassFile.FieldType), Jvm.Cond.code ({ cls := "LzwIndexedImage", name := "fill", desc := "(III)Z" } : Jvm.MethodName) prog_1_method_6_code (5 : Nat) (Option.some Jvm.ClassFile.FieldType.boolean), Jvm.Cond.code ({ cls := "LzwIndexedImage", name := "setBlockSize", desc := "(I)I" } : Jvm.MethodName) prog_1_method_4_code (2 : Nat) (Option.some Jvm.ClassFile.FieldType.int), Jvm.Cond.code ({ cls := "LzwIndexedImage", name := "setInterlaced", desc := "(Z)V" } : Jvm.MethodName) prog_1_method_3_code (2 : Nat) (Option.none : Option Jvm.ClassFile.FieldType), Jvm.Cond.code ({ cls := "LzwIndexedImage", name := "setPixel", desc := "(II)Z" } : Jvm.MethodName) prog_1_method_5_code (3 : Nat) (Option.some Jvm.ClassFile.FieldType.boolean), Jvm.Cond.code ({ cls := "LzwIndexedImage", name := "getPixel", desc := "(I)I" } : Jvm.MethodName) prog_1_method_7_code (2 : Nat) (Option.some Jvm.ClassFile.FieldType.int), Jvm.Cond.code ({ cls := "LzwIndexedImage", name := "getOutLength", desc := "()I" } : Jvm.MethodName) prog_1_method_19_code (1 : Nat) (Option.some Jvm.ClassFile.FieldType.int), Jvm.Cond.code ({ cls := "LzwIndexedImage", name := "getInLength", desc := "()I" } : Jvm.MethodName) prog_1_method_25_code (1 : Nat) (Option.some Jvm.ClassFile.FieldType.int), Jvm.Cond.code ({ cls := "LzwIndexedImage", name := "getOutByte", desc := "(I)I" } : Jvm.MethodName) prog_1_method_20_code (2 : Nat) (Option.some Jvm.ClassFile.FieldType.int), Jvm.Cond.code ({ cls := "LzwIndexedImage", name := "decode", desc := "()I" } : Jvm.MethodName) prog_1_method_26_code (4 : Nat) (Option.some Jvm.ClassFile.FieldType.int), Jvm.Cond.code ({ cls := "LzwIndexedImage", name := "decodeSteps", desc := "()I" } : Jvm.MethodName) prog_1_method_27_code (2 : Nat) (Option.some Jvm.ClassFile.FieldType.int), Jvm.Cond.code ({ cls := "LzwIndexedImage", name := "getDecodedPixel", desc := "(I)I" } : Jvm.MethodName) prog_1_method_36_code (2 : Nat) (Option.some Jvm.ClassFile.FieldType.int), Jvm.Cond.code ({ cls := "LzwIndexedImage", name := "loadInFromOut", desc := "()I" } : Jvm.MethodName) prog_1_method_24_code (3 : Nat) (Option.some Jvm.ClassFile.FieldType.int), Jvm.Cond.code ({ cls := "LzwIndexedImage", name := "putInByte", desc := "(I)Z" } : Jvm.MethodName) prog_1_method_22_code (2 : Nat) (Option.some Jvm.ClassFile.FieldType.boolean), Jvm.Cond.code ({ cls := "LzwIndexedImage", name := "setInByte", desc := "(II)Z" } : Jvm.MethodName) prog_1_method_23_code (3 : Nat) (Option.some Jvm.ClassFile.FieldType.boolean), Jvm.Cond.code ({ cls := "LzwIndexedImage", name := "encode", desc := "()I" } : Jvm.MethodName) prog_1_method_11_code (3 : Nat) (Option.some Jvm.ClassFile.FieldType.int), Jvm.Cond.code ({ cls := "LzwIndexedImage", name := "buildRowOrder", desc := "()V" } : Jvm.MethodName) prog_1_method_8_code (2 : Nat) (Option.none : Option Jvm.ClassFile.FieldType), Jvm.Cond.code ({ cls := "LzwIndexedImage", name := "rasterOf", desc := "(I)I" } : Jvm.MethodName) prog_1_method_10_code (4 : Nat) (Option.some Jvm.ClassFile.FieldType.int), Jvm.Cond.code ({ cls := "LzwIndexedImage", name := "compress", desc := "()V" } : Jvm.MethodName) prog_1_method_12_code (5 : Nat) (Option.none : Option Jvm.ClassFile.FieldType), Jvm.Cond.code ({ cls := "LzwIndexedImage", name := "resetEncoderTable", desc := "(I)V" } : Jvm.MethodName) prog_1_method_13_code (3 : Nat) (Option.none : Option Jvm.ClassFile.FieldType), Jvm.Cond.code ({ cls := "LzwIndexedImage", name := "putCode", desc := "(I)V" } : Jvm.MethodName) prog_1_method_16_code (5 : Nat) (Option.none : Option Jvm.ClassFile.FieldType), Jvm.Cond.code ({ cls := "LzwIndexedImage", name := "findChild", desc := "(II)I" } : Jvm.MethodName) prog_1_method_14_code (5 : Nat) (Option.some Jvm.ClassFile.FieldType.int), Jvm.Cond.code ({ cls := "LzwIndexedImage", name := "addEncoderCode", desc := "(II)V" } : Jvm.MethodName) prog_1_method_15_code (4 : Nat) (Option.none : Option Jvm.ClassFile.FieldType), Jvm.Cond.code ({ cls := "LzwIndexedImage", name := "packBlocks", desc := "()V" } : Jvm.MethodName) prog_1_method_17_code (6 : Nat) (Option.none : Option Jvm.ClassFile.FieldType), Jvm.Cond.code ({ cls := "LzwIndexedImage", name := "writeOut", desc := "(I)V" } : Jvm.MethodName) prog_1_method_18_code (2 : Nat) (Option.none : Option Jvm.ClassFile.FieldType), Jvm.Cond.code ({ cls := "LzwIndexedImage", name := "clearInput", desc := "()V" } : Jvm.MethodName) prog_1_method_21_code (1 : Nat) (Option.none : Option Jvm.ClassFile.FieldType), Jvm.Cond.code ({ cls := "LzwIndexedImage", name := "addRows", desc := "(III)I" } : Jvm.MethodName) prog_1_method_9_code (6 : Nat) (Option.some Jvm.ClassFile.FieldType.int), Jvm.Cond.code ({ cls := "LzwIndexedImage", name := "gatherBlocks", desc := "()Z" } : Jvm.MethodName) prog_1_method_28_code (5 : Nat) (Option.some Jvm.ClassFile.FieldType.boolean), Jvm.Cond.code ({ cls := "LzwIndexedImage", name := "decompress", desc := "()I" } : Jvm.MethodName) prog_1_method_29_code (5 : Nat) (Option.some Jvm.ClassFile.FieldType.int), Jvm.Cond.code ({ cls := "LzwIndexedImage", name := "readCode", desc := "()I" } : Jvm.MethodName) prog_1_method_30_code (5 : Nat) (Option.some Jvm.ClassFile.FieldType.int), Jvm.Cond.code ({ cls := "LzwIndexedImage", name := "handleCode", desc := "(I)I" } : Jvm.MethodName) prog_1_method_31_code (5 : Nat) (Option.some Jvm.ClassFile.FieldType.int), Jvm.Cond.code ({ cls := "LzwIndexedImage", name := "lengthOf", desc := "(I)I" } : Jvm.MethodName) prog_1_method_32_code (2 : Nat) (Option.some Jvm.ClassFile.FieldType.int), Jvm.Cond.code ({ cls := "LzwIndexedImage", name := "writeString", desc := "(III)V" } : Jvm.MethodName) prog_1_method_34_code (8 : Nat) (Option.none : Option Jvm.ClassFile.FieldType), Jvm.Cond.code ({ cls := "LzwIndexedImage", name := "firstOf", desc := "(I)I" } : Jvm.MethodName) prog_1_method_33_code (2 : Nat) (Option.some Jvm.ClassFile.FieldType.int), Jvm.Cond.code ({ cls := "LzwIndexedImage", name := "addDecoderCode", desc := "(II)V" } : Jvm.MethodName) prog_1_method_35_code (4 : Nat) (Option.none : Option Jvm.ClassFile.FieldType)]
set_option maxRecDepth 65536 in
theorem codes_eq : words1.filter isCode = codes1 := rfl
theorem w_codes : ∀ c ∈ words1.filter isCode, c.before args0 about1 = true := by
  rw [codes_eq]
  intro c hc
  simp only [codes1, List.mem_cons, List.not_mem_nil, or_false] at hc
  rcases hc with rfl | rfl | rfl | rfl | rfl | rfl | rfl | rfl | rfl | rfl | rfl | rfl | rfl | rfl | rfl | rfl | rfl | rfl | rfl | rfl | rfl | rfl | rfl | rfl | rfl | rfl | rfl | rfl | rfl | rfl | rfl | rfl | rfl | rfl | rfl | rfl | rfl | rfl | rfl
  · exact w_c0
  · exact w_c1
  · exact w_c2
  · exact w_c3
  · exact w_c4
  · exact w_c5
  · exact w_c6
  · exact w_c7
  · exact w_c8
  · exact w_c9
  · exact w_c10
  · exact w_c11
  · exact w_c12
  · exact w_c13
  · exact w_c14
  · exact w_c15
  · exact w_c16
  · exact w_c17
  · exact w_c18
  · exact w_c19
  · exact w_c20
  · exact w_c21
  · exact w_c22
  · exact w_c23
  · exact w_c24
  · exact w_c25
  · exact w_c26
  · exact w_c27
  · exact w_c28
  · exact w_c29
  · exact w_c30
  · exact w_c31
  · exact w_c32
  · exact w_c33
  · exact w_c34
  · exact w_c35
  · exact w_c36
  · exact w_c37
  · exact w_c38
set_option maxRecDepth 65536 in
theorem w_t1 : (words1.take 24).all (fun c => isCode c || c.before args0 about1) = true := by decide +kernel
set_option maxRecDepth 65536 in
theorem w_t2 : ((words1.drop 24).take 24).all (fun c => isCode c || c.before args0 about1) = true := by decide +kernel
set_option maxRecDepth 65536 in
theorem w_t3 : (((words1.drop 24).drop 24).take 24).all (fun c => isCode c || c.before args0 about1) = true := by decide +kernel
set_option maxRecDepth 65536 in
theorem w_t4 : ((((words1.drop 24).drop 24).drop 24).take 24).all (fun c => isCode c || c.before args0 about1) = true := by decide +kernel
set_option maxRecDepth 65536 in
theorem w_t5 : (((((words1.drop 24).drop 24).drop 24).drop 24).take 24).all (fun c => isCode c || c.before args0 about1) = true := by decide +kernel
set_option maxRecDepth 65536 in
theorem w_t6 : ((((((words1.drop 24).drop 24).drop 24).drop 24).drop 24).take 24).all (fun c => isCode c || c.before args0 about1) = true := by decide +kernel
set_option maxRecDepth 65536 in
theorem w_t7 : (((((((words1.drop 24).drop 24).drop 24).drop 24).drop 24).drop 24).take 24).all (fun c => isCode c || c.before args0 about1) = true := by decide +kernel
set_option maxRecDepth 65536 in
theorem w_t8 : ((((((((words1.drop 24).drop 24).drop 24).drop 24).drop 24).drop 24).drop 24).take 24).all (fun c => isCode c || c.before args0 about1) = true := by decide +kernel
set_option maxRecDepth 65536 in
theorem w_t9 : (((((((((words1.drop 24).drop 24).drop 24).drop 24).drop 24).drop 24).drop 24).drop 24).take 24).all (fun c => isCode c || c.before args0 about1) = true := by decide +kernel
set_option maxRecDepth 65536 in
theorem w_t10 : ((((((((((words1.drop 24).drop 24).drop 24).drop 24).drop 24).drop 24).drop 24).drop 24).drop 24).take 24).all (fun c => isCode c || c.before args0 about1) = true := by decide +kernel
set_option maxRecDepth 65536 in
theorem w_t11 : ((((((((((words1.drop 24).drop 24).drop 24).drop 24).drop 24).drop 24).drop 24).drop 24).drop 24).drop 24).all (fun c => isCode c || c.before args0 about1) = true := by decide +kernel
theorem w_tables : (allAtoms (Jvm.Cond.code x code maxLocals ret :: tables_1)).before args0 about1 = true := by
  rw [allAtoms_all]
  show words1.all (fun c => c.before args0 about1) = true
  refine all_split ?_ w_codes
  rw [← List.take_append_drop 24 words1, List.all_append, w_t1, ← List.take_append_drop 24 (words1.drop 24), List.all_append, w_t2, ← List.take_append_drop 24 ((words1.drop 24).drop 24), List.all_append, w_t3, ← List.take_append_drop 24 (((words1.drop 24).drop 24).drop 24), List.all_append, w_t4, ← List.take_append_drop 24 ((((words1.drop 24).drop 24).drop 24).drop 24), List.all_append, w_t5, ← List.take_append_drop 24 (((((words1.drop 24).drop 24).drop 24).drop 24).drop 24), List.all_append, w_t6, ← List.take_append_drop 24 ((((((words1.drop 24).drop 24).drop 24).drop 24).drop 24).drop 24), List.all_append, w_t7, ← List.take_append_drop 24 (((((((words1.drop 24).drop 24).drop 24).drop 24).drop 24).drop 24).drop 24), List.all_append, w_t8, ← List.take_append_drop 24 ((((((((words1.drop 24).drop 24).drop 24).drop 24).drop 24).drop 24).drop 24).drop 24), List.all_append, w_t9, ← List.take_append_drop 24 (((((((((words1.drop 24).drop 24).drop 24).drop 24).drop 24).drop 24).drop 24).drop 24).drop 24), List.all_append, w_t10, w_t11]
  rfl
set_option maxRecDepth 65536 in
theorem w_rest : rest_1_c.before args0 about1 = true := by decide +kernel
set_option maxRecDepth 65536 in
theorem w_case : (Jvm.Cond.and given_1 narrow_1).before args0 about1 = true := by decide +kernel
theorem w_applies : (headSpec (Jvm.Cond.code x code maxLocals ret :: tables_1) room_1).applies x e0.platform about1 = true :=
  (Spec.applies_iff w_frames).mpr ⟨w_running, w_runnable, w_alone, w_named, w_hears, w_ripe, w_room, w_tables⟩
theorem atStart : AtStart classFile x code maxLocals ret World_1 tables_1 room_1 Calls_1 rest_1 Pre_1 launch0 p0 e0 about1 theMethod args0 below0 :=
  ⟨lists_1, trivial, launch0.admits_env _ _ _, launch0.least_env, fairChoices_fair.cas, fairChoices_fair.clock, w_frames, w_args, w_heap, w_applies, trivial, w_rest, w_case⟩
end start1
theorem witness_1 : WitnessClaimed_1 := ⟨start1.p0, start1.e0, start1.about1, start1.theMethod, start1.args0, start1.below0, start1.atStart⟩
end Jvm.Pilot.@@N@@
