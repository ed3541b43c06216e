import JvmDerived
import JvmDerived.Pilot.@@N@@Statement
import JvmDerived.Pilot.@@N@@Code
set_option linter.unusedVariables false
set_option linter.unusedSimpArgs false
/-! # A small executor over an abstract heap, and that it is sound for the model (Stand's family). Same text in every claim. -/
namespace Jvm.OwnX
open Sem ClassFile Op Lib Jvm.Stand Jvm.Free Jvm.LawKit Jvm.RoadKit
/-- a cell: an object's fields; an array of ints (0: handed in; 1), booleans (2), bytes (3); an array of longs -/
abbrev ACell := Sum (List Value) (Sum (Nat × List Int32) (List Int64))
abbrev AHeap := List ACell
abbrev ALoc := List (Option Value)
/-- a method: class, maxLocals, how many it pops, what it returns, is it a constructor, frames, locals -/
abbrev MI := Nat × Nat × Nat × Option FieldType × Bool × Nat × Nat
/-- code | methods | method links (kind, callee) | field links | constants | fields (name, descriptor, kind, final) | slots of an object | read-only cells | cells at most | slots at most -/
def Prog : Type := (Nat → Nat → Option (Instr × Nat)) × (Nat → MI) × (Nat → Nat → Option (Nat × Nat)) × (Nat → Nat → Option Nat) × (Nat → Nat → Option Value) × List (String × String × Nat × Bool) × Nat × Nat × Nat × Nat
def Prog.code (P : Prog) : Nat → Nat → Option (Instr × Nat) := P.1
def Prog.mi (P : Prog) : Nat → MI := P.2.1
def Prog.link (P : Prog) : Nat → Nat → Option (Nat × Nat) := P.2.2.1
def Prog.fld (P : Prog) : Nat → Nat → Option Nat := P.2.2.2.1
def Prog.kon (P : Prog) : Nat → Nat → Option Value := P.2.2.2.2.1
def Prog.fields (P : Prog) : List (String × String × Nat × Bool) := P.2.2.2.2.2.1
def Prog.objN (P : Prog) : Nat := P.2.2.2.2.2.2.1
def Prog.ro (P : Prog) : Nat := P.2.2.2.2.2.2.2.1
def Prog.capC (P : Prog) : Nat := P.2.2.2.2.2.2.2.2.1
def Prog.capS (P : Prog) : Nat := P.2.2.2.2.2.2.2.2.2
def Prog.cls (P : Prog) (k : Nat) : Nat := (P.mi k).1
def Prog.maxL (P : Prog) (k : Nat) : Nat := (P.mi k).2.1
def Prog.pops (P : Prog) (k : Nat) : Nat := (P.mi k).2.2.1
def Prog.ret (P : Prog) (k : Nat) : Option FieldType := (P.mi k).2.2.2.1
def Prog.ini (P : Prog) (k : Nat) : Bool := (P.mi k).2.2.2.2.1
def Prog.rf (P : Prog) (k : Nat) : Nat := (P.mi k).2.2.2.2.2.1
def Prog.rl (P : Prog) (k : Nat) : Nat := (P.mi k).2.2.2.2.2.2
def dflt : Nat → Value
  | 0 => .int 0
  | 1 => .int 0
  | 2 => .long 0
  | _ => .null
def Prog.fresh (P : Prog) : List Value := P.fields.map fun f => dflt f.2.2.1
/-- is j a place of an array of n -/
def inb (n : Nat) (j : Int32) : Bool := !(decide (j < 0)) && Nat.ble (j.toNatClampNeg + 1) n
def rd (xs : List Int32) (j : Int32) : Int32 := xs.getD j.toNatClampNeg 0
def wr (xs : List Int32) (j v : Int32) : List Int32 := xs.set j.toNatClampNeg v
def rdL (xs : List Int64) (j : Int32) : Int64 := xs.getD j.toNatClampNeg 0
def wrL (xs : List Int64) (j : Int32) (v : Int64) : List Int64 := xs.set j.toNatClampNeg v
def kill1 (L : ALoc) (i : Nat) : ALoc :=
  match i with
  | 0 => L
  | i + 1 => match L[i]? with
    | some (some (.long _)) => L.set i none
    | _ => L
def lput (L : ALoc) (i : Nat) (v : Value) : Option ALoc := bif Nat.ble (i + 1) L.length then some ((kill1 L i).set i (some v)) else none
def lputL (L : ALoc) (i : Nat) (v : Int64) : Option ALoc := bif Nat.ble (i + 2) L.length then some (((kill1 L i).set i (some (.long v))).set (i + 1) none) else none
def entL : List Value → ALoc
  | [] => []
  | .long v :: r => some (.long v) :: none :: entL r
  | v :: r => some v :: entL r
def pad (n : Nat) (L : ALoc) : ALoc := L ++ List.replicate (n - L.length) none
def entry (P : Prog) (k : Nat) (as : List Value) : ALoc := pad (P.maxL k) (entL as)
def cat (v : Value) : Nat := match v with | .long _ => 2 | _ => 1
def cats : List Value → Nat
  | [] => 0
  | v :: r => cat v + cats r
def okV : Value → Bool
  | .int _ => true | .long _ => true | .ref _ => true | .null => true | _ => false
def csz : Nat → ACell → Nat
  | n, .inl _ => n
  | _, .inr (.inl (0, _)) => 0
  | _, .inr (.inl (_, x)) => x.length
  | _, .inr (.inr x) => x.length
def hsz (P : Prog) : AHeap → Nat
  | [] => 0
  | c :: r => csz P.objN c + hsz P r
/-- how long an instruction is (0: as decode says) -/
def ilen : Instr → Nat
  | .iload _ => 2 | .lload _ => 2 | .aload _ => 2 | .istore _ => 2 | .lstore _ => 2 | .astore _ => 2 | .bipush _ => 2 | .ldc _ => 2 | .newarray _ => 2
  | .iinc _ _ => 3 | .sipush _ => 3 | .goto _ => 3 | .ifCond _ _ => 3 | .if_icmp _ _ => 3 | .getfield _ => 3 | .putfield _ => 3 | .new _ => 3 | .invokespecial _ => 3 | .invokestatic _ => 3 | .invokevirtual _ => 3 | .ldc2_w _ => 3
  | .tableswitch _ _ _ _ => 0
  | _ => 1
def tgt (pc : Nat) (o : Int) : Option Nat := match (pc : Int) + o with | .ofNat n => some n | .negSucc _ => none
def ish (x y : Int32) : Int32 := x <<< (y &&& 31)
def isr (x y : Int32) : Int32 := x >>> (y &&& 31)
def ush (x y : Int32) : Int32 := (x.toUInt32 >>> (y &&& 31).toUInt32).toInt32
def lsh (x : Int64) (y : Int32) : Int64 := x <<< (y &&& 0x3f).toInt64
def lus (x : Int64) (y : Int32) : Int64 := (x.toUInt64 >>> (y &&& 0x3f).toInt64.toUInt64).toInt64
def lcm (x y : Int64) : Int32 := if x > y then 1 else if x = y then 0 else -1
def i8 (x : Int32) : Int32 := x.toInt8.toInt32
def aop : Instr → Option (Int32 → Int32 → Int32)
  | .iadd => some fun x y => x + y
  | .isub => some fun x y => x - y
  | .imul => some fun x y => x * y
  | .iand => some fun x y => x &&& y
  | .ior => some fun x y => x ||| y
  | .ixor => some fun x y => x ^^^ y
  | .ishl => some fun x y => x <<< (y &&& 31)
  | .ishr => some fun x y => x >>> (y &&& 31)
  | .iushr => some fun x y => (x.toUInt32 >>> (y &&& 31).toUInt32).toInt32
  | _ => none
def lop : Instr → Option (Int64 → Int64 → Int64)
  | .ladd => some fun x y => x + y
  | .lsub => some fun x y => x - y
  | .lmul => some fun x y => x * y
  | .land => some fun x y => x &&& y
  | .lor => some fun x y => x ||| y
  | .lxor => some fun x y => x ^^^ y
  | _ => none
def loadI (L : ALoc) (n : Nat) : Option Int32 := match L[n]? with | some (some (.int x)) => some x | _ => none
def loadJ (L : ALoc) (n : Nat) : Option Int64 := match L[n]? with | some (some (.long x)) => some x | _ => none
def loadA (L : ALoc) (n : Nat) : Option Nat := match L[n]? with | some (some (.ref a)) => some a | _ => none
def getC (H : AHeap) (a j : Nat) : Option Value := match H[a]? with | some (.inl fs) => fs[j]? | _ => none
def conv (t : Nat) (v : Value) : Option Value :=
  match t, v with
  | 0, .int x => some (.int x)
  | 1, .int x => some (.int (x &&& 1))
  | 2, .long x => some (.long x)
  | 3, .ref a => some (.ref a)
  | _, _ => none
/-- a step within one frame -/
abbrev St := Nat × ALoc × List Value × AHeap
def atyOf : ArrayType → Option Nat
  | .int => some 1 | .boolean => some 2 | .byte => some 3 | .long => some 4 | _ => none
def newC (t n : Nat) : ACell := match t with | 4 => .inr (.inr (List.replicate n 0)) | t => .inr (.inl (t, List.replicate n 0))
def isObjInit (P : Prog) (k j : Nat) : Bool := match P.link (P.cls k) j with | some (4, _) => true | _ => false
/-- what is stored into an array of that kind -/
def narA (t : Nat) (x : Int32) : Int32 := match t with | 2 => x &&& 1 | 3 => x.toInt8.toInt32 | _ => x
def step (P : Prog) (k : Nat) (i : Instr) (np pc : Nat) (L : ALoc) (S : List Value) (H : AHeap) : Option St :=
  match i with
  | .iload_n n => match loadI L n.val with | some x => some (np, L, .int x :: S, H) | none => none
  | .iload n => match loadI L n with | some x => some (np, L, .int x :: S, H) | none => none
  | .lload_n n => match loadJ L n.val with | some x => some (np, L, .long x :: S, H) | none => none
  | .lload n => match loadJ L n with | some x => some (np, L, .long x :: S, H) | none => none
  | .aload_n n => match loadA L n.val with | some x => some (np, L, .ref x :: S, H) | none => none
  | .aload n => match loadA L n with | some x => some (np, L, .ref x :: S, H) | none => none
  | .istore_n n => match S with | .int x :: r => (match lput L n.val (.int x) with | some L' => some (np, L', r, H) | none => none) | _ => none
  | .istore n => match S with | .int x :: r => (match lput L n (.int x) with | some L' => some (np, L', r, H) | none => none) | _ => none
  | .astore_n n => match S with | .ref x :: r => (match lput L n.val (.ref x) with | some L' => some (np, L', r, H) | none => none) | _ => none
  | .astore n => match S with | .ref x :: r => (match lput L n (.ref x) with | some L' => some (np, L', r, H) | none => none) | _ => none
  | .lstore_n n => match S with | .long x :: r => (match lputL L n.val x with | some L' => some (np, L', r, H) | none => none) | _ => none
  | .lstore n => match S with | .long x :: r => (match lputL L n x with | some L' => some (np, L', r, H) | none => none) | _ => none
  | .iinc n c => match loadI L n with | some x => (match lput L n (.int (x + Int32.ofInt c)) with | some L' => some (np, L', S, H) | none => none) | none => none
  | .iconst c => some (np, L, .int (Int32.ofInt c) :: S, H)
  | .bipush c => some (np, L, .int (Int8.ofInt c).toInt32 :: S, H)
  | .sipush c => some (np, L, .int (Int16.ofInt c).toInt32 :: S, H)
  | .lconst c => some (np, L, .long (Int64.ofNat c) :: S, H)
  | .ldc j => match P.kon (P.cls k) j with | some (.int x) => some (np, L, .int x :: S, H) | _ => none
  | .ldc2_w j => match P.kon (P.cls k) j with | some (.long x) => some (np, L, .long x :: S, H) | _ => none
  | .idiv => match S with | .int y :: .int x :: r => (bif decide (y = 0) then none else some (np, L, .int (x / y) :: r, H)) | _ => none
  | .irem => match S with | .int y :: .int x :: r => (bif decide (y = 0) then none else some (np, L, .int (x % y) :: r, H)) | _ => none
  | .lshl => match S with | .int y :: .long x :: r => some (np, L, .long (x <<< (y &&& 0x3f).toInt64) :: r, H) | _ => none
  | .lushr => match S with | .int y :: .long x :: r => some (np, L, .long ((x.toUInt64 >>> (y &&& 0x3f).toInt64.toUInt64).toInt64) :: r, H) | _ => none
  | .lcmp => match S with | .long y :: .long x :: r => some (np, L, .int (if x > y then 1 else if x = y then 0 else -1) :: r, H) | _ => none
  | .lneg => match S with | .long x :: r => some (np, L, .long (-x) :: r, H) | _ => none
  | .i2l => match S with | .int x :: r => some (np, L, .long x.toInt64 :: r, H) | _ => none
  | .l2i => match S with | .long x :: r => some (np, L, .int x.toInt32 :: r, H) | _ => none
  | .i2b => match S with | .int x :: r => some (np, L, .int x.toInt8.toInt32 :: r, H) | _ => none
  | .dup => match S with | .ref x :: r => some (np, L, .ref x :: .ref x :: r, H) | .int x :: r => some (np, L, .int x :: .int x :: r, H) | _ => none
  | .dup2 => match S with | .int x :: .ref y :: r => some (np, L, .int x :: .ref y :: .int x :: .ref y :: r, H) | _ => none
  | .pop => match S with | .int _ :: r => some (np, L, r, H) | .ref _ :: r => some (np, L, r, H) | _ => none
  | .goto o => match tgt pc o with | some t => some (t, L, S, H) | none => none
  | .ifCond cd o => match S with
    | .int x :: r => (bif if_icmp.holds cd x 0 then (match tgt pc o with | some t => some (t, L, r, H) | none => none) else some (np, L, r, H))
    | _ => none
  | .if_icmp cd o => match S with
    | .int y :: .int x :: r => (bif if_icmp.holds cd x y then (match tgt pc o with | some t => some (t, L, r, H) | none => none) else some (np, L, r, H))
    | _ => none
  | .tableswitch d lo hi offs => match S with
    | .int x :: r => (bif decide (x.toInt < lo) || decide (x.toInt > hi) then (match tgt pc d with | some t => some (t, L, r, H) | none => none)
        else (match offs.toList[(x.toInt - lo).toNat]? with | some o => (match tgt pc o with | some t => some (t, L, r, H) | none => none) | none => none))
    | _ => none
  | .getfield j => match S with
    | .ref a :: r => (match P.fld (P.cls k) j with | some f => (match getC H a f with | some v => some (np, L, v :: r, H) | none => none) | none => none)
    | _ => none
  | .putfield j => match S with
    | v :: .ref a :: r => (match P.fld (P.cls k) j with
      | some f => (match P.fields[f]? with
        | some (_, _, t, fin) => (bif (!fin || P.ini k) && Nat.ble P.ro a then (match conv t v with
          | some v' => (match H[a]? with
            | some (.inl fs) => (bif Nat.ble (f + 1) fs.length then some (np, L, r, H.set a (.inl (fs.set f v'))) else none)
            | _ => none)
          | none => none) else none)
        | none => none)
      | none => none)
    | _ => none
  | .iaload => match S with
    | .int j :: .ref a :: r => (match H[a]? with
      | some (.inr (.inl (1, xs))) => (bif inb xs.length j then some (np, L, .int (rd xs j) :: r, H) else none)
      | some (.inr (.inl (0, xs))) => (bif inb xs.length j then some (np, L, .int (rd xs j) :: r, H) else none)
      | _ => none)
    | _ => none
  | .baload => match S with
    | .int j :: .ref a :: r => (match H[a]? with
      | some (.inr (.inl (2, xs))) => (bif inb xs.length j then some (np, L, .int (rd xs j) :: r, H) else none)
      | some (.inr (.inl (3, xs))) => (bif inb xs.length j then some (np, L, .int (rd xs j) :: r, H) else none)
      | _ => none)
    | _ => none
  | .laload => match S with
    | .int j :: .ref a :: r => (match H[a]? with | some (.inr (.inr xs)) => (bif inb xs.length j then some (np, L, .long (rdL xs j) :: r, H) else none) | _ => none)
    | _ => none
  | .iastore => match S with
    | .int x :: .int j :: .ref a :: r => (bif Nat.ble P.ro a then (match H[a]? with | some (.inr (.inl (1, xs))) => (bif inb xs.length j then some (np, L, r, H.set a (.inr (.inl (1, wr xs j x)))) else none) | _ => none) else none)
    | _ => none
  | .bastore => match S with
    | .int x :: .int j :: .ref a :: r => (bif Nat.ble P.ro a then (match H[a]? with
      | some (.inr (.inl (2, xs))) => (bif inb xs.length j then some (np, L, r, H.set a (.inr (.inl (2, wr xs j (x &&& 1))))) else none)
      | some (.inr (.inl (3, xs))) => (bif inb xs.length j then some (np, L, r, H.set a (.inr (.inl (3, wr xs j x.toInt8.toInt32)))) else none)
      | _ => none) else none)
    | _ => none
  | .lastore => match S with
    | .long x :: .int j :: .ref a :: r => (bif Nat.ble P.ro a then (match H[a]? with | some (.inr (.inr xs)) => (bif inb xs.length j then some (np, L, r, H.set a (.inr (.inr (wrL xs j x)))) else none) | _ => none) else none)
    | _ => none
  | .arraylength => match S with
    | .ref a :: r => (match H[a]? with
      | some (.inr (.inl (_, xs))) => some (np, L, .int xs.length.toInt32 :: r, H)
      | some (.inr (.inr xs)) => some (np, L, .int xs.length.toInt32 :: r, H)
      | _ => none)
    | _ => none
  | .newarray t => match S with
    | .int n :: r => (match atyOf t with | some q => (bif !(decide (n < 0)) && Nat.ble n.toNatClampNeg 60000 && Nat.ble (H.length + 1) P.capC && Nat.ble (hsz P H + n.toNatClampNeg) P.capS then some (np, L, .ref H.length :: r, H ++ [newC q n.toNatClampNeg]) else none) | none => none)
    | _ => none
  | .new j => match P.link (P.cls k) j with | some (5, _) => (bif Nat.ble (H.length + 1) P.capC && Nat.ble (hsz P H + P.objN) P.capS then some (np, L, .ref H.length :: S, H ++ [.inl P.fresh]) else none) | _ => none
  | .invokespecial j => match S with
    | .ref _ :: r => (bif isObjInit P k j && Nat.ble 1 (P.rf k) && Nat.ble (cats r + 12) (P.rl k) then some (np, L, r, H) else none)
    | _ => none
  | i => match S with
    | .int y :: .int x :: r => (match aop i with | some f => some (np, L, .int (f x y) :: r, H) | none => none)
    | .long y :: .long x :: r => (match lop i with | some f => some (np, L, .long (f x y) :: r, H) | none => none)
    | _ => none
/-- what a return hands back -/
def retV (P : Prog) (k : Nat) (i : Instr) (S : List Value) : Option (Option Value) :=
  match i with
  | .return_ => match S, P.ret k with | [], none => some none | _, _ => none
  | .ireturn => match S with
    | .int x :: _ => (match P.ret k with | some .int => some (some (.int x)) | some .boolean => some (some (.int (x &&& 1))) | _ => none)
    | _ => none
  | .lreturn => match S with | .long x :: _ => (match P.ret k with | some .long => some (some (.long x)) | _ => none) | _ => none
  | _ => none
def kindOk : Instr → Nat → Bool
  | .invokestatic _, 0 => true
  | .invokespecial _, 1 => true
  | .invokevirtual _, 2 => true
  | .invokevirtual _, 3 => true
  | _, _ => false
def poolOf : Instr → Option Nat
  | .invokestatic j => some j
  | .invokespecial j => some j
  | .invokevirtual j => some j
  | _ => none
/-- the receiver is there -/
def recvOk (P : Prog) (H : AHeap) (q : Nat) (as : List Value) : Bool :=
  match q with
  | 0 => true
  | _ => match as with
    | .ref a :: _ => (match H[a]? with | some (.inl _) => true | _ => false)
    | _ => false
def callV (P : Prog) (k : Nat) (i : Instr) (S : List Value) (H : AHeap) : Option (Nat × List Value × List Value) :=
  match poolOf i with
  | none => none
  | some j => match P.link (P.cls k) j with
    | none => none
    | some (q, k') =>
      bif kindOk i q && Nat.ble (P.pops k') S.length && Nat.ble (P.rf k' + 1) (P.rf k) && Nat.ble (cats (S.drop (P.pops k')) + (P.maxL k' + 11) + P.rl k') (P.rl k) && recvOk P H q (S.take (P.pops k')).reverse && Nat.ble (entL (S.take (P.pops k')).reverse).length (P.maxL k') then
        some (k', (S.take (P.pops k')).reverse, S.drop (P.pops k'))
      else none
def run (P : Prog) : Nat → Nat → Nat → ALoc → List Value → AHeap → Option (Option Value × AHeap)
  | 0, _, _, _, _, _ => none
  | n + 1, k, pc, L, S, H =>
    match P.code k pc with
    | none => none
    | some (i, np) =>
      match retV P k i S with
      | some v => some (v, H)
      | none =>
        match callV P k i S H with
        | some (k', as, rest) =>
          (match run P n k' 0 (entry P k' as) [] H with
          | some (v, H1) => run P n k np L (v.toList ++ rest) H1
          | none => none)
        | none =>
          (match step P k i np pc L S H with
          | some (pc', L', S', H') => run P n k pc' L' S' H'
          | none => none)
def Eval (P : Prog) (k pc : Nat) (L : ALoc) (S : List Value) (H : AHeap) (out : Option Value × AHeap) : Prop := ∃ n, run P n k pc L S H = some out
end Jvm.OwnX
namespace Jvm.OwnX
open Sem ClassFile Op Lib Jvm.Stand Jvm.Free Jvm.LawKit Jvm.RoadKit
/-! ## values, stacks, local variables -/
def VR (am : List Addr) (v w : Value) : Prop := match v with
  | .ref i => ∃ a, am[i]? = some a ∧ w = .ref a
  | .int x => w = .int x
  | .long x => w = .long x
  | .null => w = .null
  | _ => False
def SR (am : List Addr) : List Value → List Value → Prop
  | [], ws => ws = []
  | v :: vs, ws => ∃ w ws', ws = w :: ws' ∧ VR am v w ∧ SR am vs ws'
def Pre (am am' : List Addr) : Prop := ∀ (i : Nat) (a : Addr), am[i]? = some a → am'[i]? = some a
theorem Pre.refl (am : List Addr) : Pre am am := fun _ _ h => h
theorem Pre.trans {a b c : List Addr} (h : Pre a b) (h' : Pre b c) : Pre a c := fun i x q => h' i x (h i x q)
theorem Pre.app (am : List Addr) (x : Addr) : Pre am (am ++ [x]) := fun i a h => by
  rw [List.getElem?_append_left (List.getElem?_eq_some_iff.mp h).1]; exact h
theorem VR.mono {am am' : List Addr} (h : Pre am am') {v w : Value} (r : VR am v w) : VR am' v w := by
  cases v <;> simp only [VR] at r ⊢ <;> try exact r
  obtain ⟨a, h1, h2⟩ := r; exact ⟨a, h _ _ h1, h2⟩
theorem SR.mono {am am' : List Addr} (h : Pre am am') : ∀ {S ws : List Value}, SR am S ws → SR am' S ws
  | [], _, r => r
  | _ :: _, _, ⟨w, ws', e, r1, r2⟩ => ⟨w, ws', e, r1.mono h, SR.mono h r2⟩
theorem VR.cat {am : List Addr} {v w : Value} (r : VR am v w) : w.category = OwnX.cat v := by
  cases v <;> simp only [VR] at r
  · subst r; rfl
  · subst r; rfl
  · subst r; rfl
  · obtain ⟨a, -, rfl⟩ := r; rfl
theorem SR.cats {am : List Addr} : ∀ {S ws : List Value}, SR am S ws → (ws.map fun v => v.category).sum = OwnX.cats S
  | [], _, r => by cases r; rfl
  | v :: vs, _, ⟨w, ws', e, r1, r2⟩ => by subst e; simp [OwnX.cats, r1.cat, SR.cats r2]
theorem SR.app {am : List Addr} : ∀ {S ws : List Value} (A B : List Value), SR am S ws → S = A ++ B → ∃ x y, ws = x ++ y ∧ SR am A x ∧ SR am B y
  | S, ws, [], B, r, e => ⟨[], ws, rfl, rfl, by rw [show B = S from by simpa using e.symm]; exact r⟩
  | S, ws, v :: A, B, r, e => by
    subst e
    obtain ⟨w, ws', rfl, r1, r2⟩ := r
    obtain ⟨x, y, rfl, h1, h2⟩ := SR.app A B r2 rfl
    exact ⟨w :: x, y, rfl, ⟨w, x, rfl, r1, h1⟩, h2⟩
theorem SR.join {am : List Addr} : ∀ {A x B y : List Value}, SR am A x → SR am B y → SR am (A ++ B) (x ++ y)
  | [], _, _, _, h, h' => by cases h; exact h'
  | _ :: _, _, _, _, ⟨w, ws', e, r1, r2⟩, h' => by subst e; exact ⟨w, _, rfl, r1, SR.join r2 h'⟩
theorem SR.rev {am : List Addr} : ∀ {A x : List Value}, SR am A x → SR am A.reverse x.reverse
  | [], _, h => by cases h; rfl
  | _ :: _, _, ⟨w, ws', e, r1, r2⟩ => by
    subst e
    rw [List.reverse_cons, List.reverse_cons]
    exact SR.join (SR.rev r2) ⟨w, [], rfl, r1, rfl⟩
theorem SR.len {am : List Addr} : ∀ {A x : List Value}, SR am A x → x.length = A.length
  | [], _, h => by cases h; rfl
  | _ :: _, _, ⟨w, ws', e, r1, r2⟩ => by subst e; simp [SR.len r2]
def WFL (l : Array Slot) : Prop := (∀ (i : Nat) w, l[i]? = some (.val w) → w.category = 2 → l[i + 1]? = some .second) ∧ (∀ (i : Nat), l[i]? = some .second → ∃ (j : Nat) (w : Value), i = j + 1 ∧ l[j]? = some (.val w) ∧ w.category = 2)
/-- the places of the variables behind a store of one word -/
def After1 (l l' : Array Slot) (i : Nat) (v : Value) : Prop := ∀ j : Nat, l'[j]? = if j = i then some (.val v) else if j + 1 = i ∧ l[i]? = some .second then some .unset else if j = i + 1 ∧ l[j]? = some .second then some .unset else l[j]?
theorem sib (l : Array Slot) (i j : Nat) (x : Slot) (hi : i < l.size) : (l.setIfInBounds i x)[j]? = if j = i then some x else l[j]? := by
  by_cases h : j = i
  · subst h; simp [hi]
  · simp [Array.getElem?_setIfInBounds_ne (Ne.symm h), h]
theorem store1w {l : Array Slot} {i : Nat} {v : Value} (hw : WFL l) (hi : i < l.size) (hv : v.category = 1) : ∃ l', storeLocals l i v = some l' ∧ l'.size = l.size ∧ After1 l l' i v := by
  have hv2 : ¬ v.category = 2 := by omega
  have hg : l[i]? = some l[i] := Array.getElem?_eq_getElem hi
  cases hq : l[i] with
  | unset =>
    rw [hq] at hg
    refine ⟨l.setIfInBounds i (.val v), by simp [storeLocals, storeSelf, setAt, hg, hq, hi, hv2], by simp, fun j => ?_⟩
    rw [sib _ _ _ _ hi, hg]
    by_cases h : j = i
    · simp [h]
    · simp only [h, if_false, reduceCtorEq, and_false, Option.some.injEq]
      by_cases h2 : j = i + 1 ∧ l[j]? = some .second
      · obtain ⟨j', w, e1, e2, e3⟩ := hw.2 _ h2.2
        have : j' = i := by omega
        subst this; rw [hg] at e2; cases e2
      · simp [h2]
  | second =>
    rw [hq] at hg
    obtain ⟨j0, w, e1, e2, e3⟩ := hw.2 _ hg
    subst e1
    have hj0 : j0 < l.size := by omega
    refine ⟨(l.setIfInBounds j0 .unset).setIfInBounds (j0 + 1) (.val v), by simp [storeLocals, storeSelf, setAt, hg, hq, hi, hv2, hj0], by simp, fun j => ?_⟩
    rw [sib _ _ _ _ (by simpa using hi), sib _ _ _ _ hj0, hg]
    by_cases h : j = j0 + 1
    · simp [h]
    · by_cases h3 : j = j0
      · subst h3; simp
      · have h4 : ¬ (j + 1 = j0 + 1) := by omega
        by_cases h2 : j = j0 + 1 + 1 ∧ l[j]? = some .second
        · obtain ⟨j', w', f1, f2, f3⟩ := hw.2 _ h2.2
          have : j' = j0 + 1 := by omega
          subst this; rw [hg] at f2; cases f2
        · simp [h, h3, h2]
  | val old =>
    rw [hq] at hg
    by_cases hc : old.category = 2
    · have h1 := hw.1 _ _ hg hc
      have h1' := (Array.getElem?_eq_some_iff.mp h1).1
      refine ⟨(l.setIfInBounds (i + 1) .unset).setIfInBounds i (.val v), by simp [storeLocals, storeSelf, setAt, hg, hq, hi, hv2, hc, h1'], by simp, fun j => ?_⟩
      rw [sib _ _ _ _ (by simpa using hi), sib _ _ _ _ h1', hg]
      by_cases h : j = i
      · simp [h]
      · by_cases h3 : j = i + 1
        · subst h3; simp [h1]
        · simp [h, h3]
    · refine ⟨l.setIfInBounds i (.val v), by simp [storeLocals, storeSelf, setAt, hg, hq, hi, hv2, hc], by simp, fun j => ?_⟩
      rw [sib _ _ _ _ hi, hg]
      by_cases h : j = i
      · simp [h]
      · simp only [h, if_false, reduceCtorEq, and_false, Option.some.injEq]
        by_cases h2 : j = i + 1 ∧ l[j]? = some .second
        · obtain ⟨j', w, e1, e2, e3⟩ := hw.2 _ h2.2
          have : j' = i := by omega
          subst this; rw [hg] at e2; cases e2; exact absurd e3 hc
        · simp [h2]
theorem After1.wf {l l' : Array Slot} {i : Nat} {v : Value} (hw : WFL l) (hv : v.category = 1) (A : After1 l l' i v) : WFL l' := by
  refine ⟨fun j w h1 h2 => ?_, fun j h1 => ?_⟩
  · rw [A j] at h1
    by_cases c1 : j = i
    · simp only [c1, if_true, Option.some.injEq, Slot.val.injEq] at h1; subst h1; omega
    · rw [if_neg c1] at h1
      by_cases c2 : j + 1 = i ∧ l[i]? = some .second
      · rw [if_pos c2] at h1; cases h1
      · rw [if_neg c2] at h1
        by_cases c3 : j = i + 1 ∧ l[j]? = some .second
        · rw [if_pos c3] at h1; cases h1
        · rw [if_neg c3] at h1
          have h3 := hw.1 _ _ h1 h2
          rw [A (j + 1)]
          have n1 : ¬ (j + 1 = i) := fun q => c2 ⟨q, q ▸ h3⟩
          have n2 : ¬ (j + 1 + 1 = i ∧ l[i]? = some .second) := fun ⟨q1, q2⟩ => by
            obtain ⟨j', w', f1, f2, f3⟩ := hw.2 _ q2
            have : j' = j + 1 := by omega
            subst this; rw [h3] at f2; cases f2
          have n3 : ¬ (j + 1 = i + 1 ∧ l[j + 1]? = some .second) := fun ⟨q1, _⟩ => c1 (by omega)
          rw [if_neg n1, if_neg n2, if_neg n3]; exact h3
  · rw [A j] at h1
    by_cases c1 : j = i
    · rw [if_pos c1] at h1; cases h1
    · rw [if_neg c1] at h1
      by_cases c2 : j + 1 = i ∧ l[i]? = some .second
      · rw [if_pos c2] at h1; cases h1
      · rw [if_neg c2] at h1
        by_cases c3 : j = i + 1 ∧ l[j]? = some .second
        · rw [if_pos c3] at h1; cases h1
        · rw [if_neg c3] at h1
          obtain ⟨j', w, e1, e2, e3⟩ := hw.2 _ h1
          refine ⟨j', w, e1, ?_, e3⟩
          rw [A j']
          have n1 : ¬ (j' = i) := fun q => c3 ⟨by omega, h1⟩
          have n2 : ¬ (j' + 1 = i ∧ l[i]? = some .second) := fun ⟨q, _⟩ => c1 (by omega)
          have n3 : ¬ (j' = i + 1 ∧ l[j']? = some .second) := fun ⟨_, q⟩ => by rw [e2] at q; cases q
          rw [if_neg n1, if_neg n2, if_neg n3]; exact e2
def lng (o : Option Slot) : Bool := match o with | some (.val w) => decide (w.category = 2) | _ => false
theorem lng_iff (o : Option Slot) : lng o = true ↔ ∃ w, o = some (.val w) ∧ w.category = 2 := by
  unfold lng
  split
  · rename_i w; simp
  · rename_i h; simp; intro w hw; exact absurd hw (h w)
/-- behind a store of a long -/
def After2 (l l' : Array Slot) (i : Nat) (v : Value) : Prop := ∀ j : Nat, l'[j]? = if j = i then some (.val v) else if j = i + 1 then some .second else if j + 1 = i ∧ l[i]? = some .second then some .unset else if j = i + 2 ∧ l[j]? = some .second then some .unset else l[j]?
theorem self2 {l : Array Slot} {i : Nat} {v : Value} (hi : i + 1 < l.size) (hv : v.category = 2) (hz : ∀ w, l[i + 1]? = some (.val w) → w.category = 2 → i + 2 < l.size) :
    ∃ l', storeSelf l i v = some l' ∧ l'.size = l.size ∧ ∀ j : Nat, l'[j]? = if j = i then some (.val v) else if j = i + 1 then some .second else if j = i + 2 ∧ lng l[i + 1]? = true then some .unset else l[j]? := by
  have hi0 : i < l.size := by omega
  have hg : l[i + 1]? = some l[i + 1] := Array.getElem?_eq_getElem hi
  have hne : (l.setIfInBounds i (.val v))[i + 1]? = l[i + 1]? := Array.getElem?_setIfInBounds_ne (by omega)
  have hplain : (∀ w, l[i + 1] = .val w → ¬ w.category = 2) → storeSelf l i v = some ((l.setIfInBounds i (.val v)).setIfInBounds (i + 1) .second) := fun hn => by
    cases hq : l[i + 1] with
    | val w => simp [storeSelf, setAt, hi0, hv, hne, hg, hq, hn _ hq, hi]
    | unset => simp [storeSelf, setAt, hi0, hv, hne, hg, hq, hi]
    | second => simp [storeSelf, setAt, hi0, hv, hne, hg, hq, hi]
  by_cases hx : ∃ w, l[i + 1] = .val w ∧ w.category = 2
  · obtain ⟨w, hw1, hw2⟩ := hx
    have h2 := hz w (by rw [hg, hw1]) hw2
    refine ⟨((l.setIfInBounds i (.val v)).setIfInBounds (i + 2) .unset).setIfInBounds (i + 1) .second, by simp [storeSelf, setAt, hi0, hv, hne, hg, hw1, hw2, hi, h2], by simp, fun j => ?_⟩
    rw [sib _ _ _ _ (by simpa using hi), sib _ _ _ _ (by simpa using h2), sib _ _ _ _ hi0]
    have hE : lng l[i + 1]? = true := (lng_iff _).mpr ⟨w, by rw [hg, hw1], hw2⟩
    by_cases c1 : j = i
    · subst c1; simp
    · by_cases c2 : j = i + 1
      · subst c2; simp
      · by_cases c3 : j = i + 2
        · subst c3; simp [hE]
        · simp [c1, c2, c3]
  · refine ⟨_, hplain fun w h1 h2 => hx ⟨w, h1, h2⟩, by simp, fun j => ?_⟩
    rw [sib _ _ _ _ (by simpa using hi), sib _ _ _ _ hi0]
    have hE : ¬ lng l[i + 1]? = true := fun q => by
      obtain ⟨w, q1, q2⟩ := (lng_iff _).mp q
      exact hx ⟨w, by rw [hg] at q1; exact Option.some.inj q1, q2⟩
    by_cases c1 : j = i
    · subst c1; simp
    · by_cases c2 : j = i + 1
      · subst c2; simp
      · simp [c1, c2, hE]
theorem store2w {l : Array Slot} {i : Nat} {v : Value} (hw : WFL l) (hi : i + 1 < l.size) (hv : v.category = 2) : ∃ l', storeLocals l i v = some l' ∧ l'.size = l.size ∧ After2 l l' i v := by
  have hi0 : i < l.size := by omega
  have hg : l[i]? = some l[i] := Array.getElem?_eq_getElem hi0
  have hz : ∀ w, l[i + 1]? = some (.val w) → w.category = 2 → i + 2 < l.size := fun w q1 q2 => (Array.getElem?_eq_some_iff.mp (hw.1 _ _ q1 q2)).1
  have hsec : ∀ j : Nat, (j = i + 2 ∧ lng l[i + 1]? = true) ↔ (j = i + 2 ∧ l[j]? = some .second) := fun j => by
    constructor
    · rintro ⟨rfl, q⟩
      obtain ⟨w, q1, q2⟩ := (lng_iff _).mp q
      exact ⟨rfl, hw.1 _ _ q1 q2⟩
    · rintro ⟨rfl, q⟩
      obtain ⟨j', w, e1, e2, e3⟩ := hw.2 _ q
      have : j' = i + 1 := by omega
      subst this; exact ⟨rfl, (lng_iff _).mpr ⟨w, e2, e3⟩⟩
  cases hq : l[i] with
  | unset =>
    rw [hq] at hg
    obtain ⟨l', h1, h2, h3⟩ := self2 hi hv hz
    refine ⟨l', by simp [storeLocals, hg, hq, hi0, h1], h2, fun j => ?_⟩
    rw [h3 j, hg]; simp only [hsec, reduceCtorEq, and_false, if_false, Option.some.injEq]
  | second =>
    rw [hq] at hg
    obtain ⟨j0, w, e1, e2, e3⟩ := hw.2 _ hg
    subst e1
    have hj0 : j0 < l.size := by omega
    have hi' : j0 + 1 + 1 < (l.setIfInBounds j0 .unset).size := by simpa using hi
    have hk : ∀ j : Nat, j ≠ j0 → (l.setIfInBounds j0 .unset)[j]? = l[j]? := fun j h => Array.getElem?_setIfInBounds_ne (Ne.symm h)
    obtain ⟨l', h1, h2, h3⟩ := self2 (l := l.setIfInBounds j0 .unset) hi' hv (fun w q1 q2 => by rw [hk _ (by omega)] at q1; simpa using hz w q1 q2)
    refine ⟨l', by simp [storeLocals, setAt, hg, hq, hi0, hj0, h1], by simpa using h2, fun j => ?_⟩
    rw [h3 j, hg, hk (j0 + 1 + 1) (by omega)]; simp only [hsec]
    by_cases c1 : j = j0 + 1
    · simp [c1]
    · by_cases c2 : j = j0 + 1 + 1
      · simp [c2]
      · by_cases c3 : j = j0
        · subst c3; simp [hj0]
        · rw [hk _ c3]
          have : ¬ (j + 1 = j0 + 1) := by omega
          simp [c1, c2, c3]
  | val old =>
    rw [hq] at hg
    by_cases hc : old.category = 2
    · have g1 := hw.1 _ _ hg hc
      have hi' : i + 1 < (l.setIfInBounds (i + 1) .unset).size := by simpa using hi
      have hk : ∀ j : Nat, j ≠ i + 1 → (l.setIfInBounds (i + 1) .unset)[j]? = l[j]? := fun j h => Array.getElem?_setIfInBounds_ne (Ne.symm h)
      have hk1 : (l.setIfInBounds (i + 1) .unset)[i + 1]? = some .unset := by simp [hi]
      obtain ⟨l', h1, h2, h3⟩ := self2 (l := l.setIfInBounds (i + 1) .unset) hi' hv (fun w q1 q2 => by rw [hk1] at q1; cases q1)
      refine ⟨l', by simp [storeLocals, setAt, hg, hq, hi0, hc, hi, h1], by simpa using h2, fun j => ?_⟩
      rw [h3 j, hg, hk1]
      by_cases c1 : j = i
      · simp [c1]
      · by_cases c2 : j = i + 1
        · simp [c2]
        · rw [hk _ c2]
          have c3 : ¬ (j = i + 2 ∧ l[j]? = some .second) := fun ⟨q1, q2⟩ => by
            subst q1
            obtain ⟨j', w, e1, e2, e3⟩ := hw.2 _ q2
            have : j' = i + 1 := by omega
            subst this; rw [g1] at e2; cases e2
          simp [c1, c2, c3, lng]
    · obtain ⟨l', h1, h2, h3⟩ := self2 hi hv hz
      refine ⟨l', by simp [storeLocals, hg, hq, hi0, hc, h1], h2, fun j => ?_⟩
      rw [h3 j, hg]; simp only [hsec, reduceCtorEq, and_false, if_false, Option.some.injEq]
theorem After2.wf {l l' : Array Slot} {i : Nat} {v : Value} (hw : WFL l) (hv : v.category = 2) (A : After2 l l' i v) : WFL l' := by
  refine ⟨fun j w h1 h2 => ?_, fun j h1 => ?_⟩
  · rw [A j] at h1
    by_cases c1 : j = i
    · subst c1; rw [A (j + 1)]; simp
    · rw [if_neg c1] at h1
      by_cases c0 : j = i + 1
      · rw [if_pos c0] at h1; cases h1
      · rw [if_neg c0] at h1
        by_cases c2 : j + 1 = i ∧ l[i]? = some .second
        · rw [if_pos c2] at h1; cases h1
        · rw [if_neg c2] at h1
          by_cases c3 : j = i + 2 ∧ l[j]? = some .second
          · rw [if_pos c3] at h1; cases h1
          · rw [if_neg c3] at h1
            have h3 := hw.1 _ _ h1 h2
            rw [A (j + 1)]
            have n1 : ¬ (j + 1 = i) := fun q => c2 ⟨q, q ▸ h3⟩
            have n0 : ¬ (j + 1 = i + 1) := by omega
            have n2 : ¬ (j + 1 + 1 = i ∧ l[i]? = some .second) := fun ⟨q1, q2⟩ => by
              obtain ⟨j', w', f1, f2, f3⟩ := hw.2 _ q2
              have : j' = j + 1 := by omega
              subst this; rw [h3] at f2; cases f2
            have n3 : ¬ (j + 1 = i + 2 ∧ l[j + 1]? = some .second) := fun ⟨q1, _⟩ => c0 (by omega)
            rw [if_neg n1, if_neg n0, if_neg n2, if_neg n3]; exact h3
  · rw [A j] at h1
    by_cases c1 : j = i
    · rw [if_pos c1] at h1; cases h1
    · rw [if_neg c1] at h1
      by_cases c0 : j = i + 1
      · subst c0; exact ⟨i, v, rfl, by rw [A i]; simp, hv⟩
      · rw [if_neg c0] at h1
        by_cases c2 : j + 1 = i ∧ l[i]? = some .second
        · rw [if_pos c2] at h1; cases h1
        · rw [if_neg c2] at h1
          by_cases c3 : j = i + 2 ∧ l[j]? = some .second
          · rw [if_pos c3] at h1; cases h1
          · rw [if_neg c3] at h1
            obtain ⟨j', w, e1, e2, e3⟩ := hw.2 _ h1
            refine ⟨j', w, e1, ?_, e3⟩
            rw [A j']
            have n1 : ¬ (j' = i) := fun q => c0 (by omega)
            have n0 : ¬ (j' = i + 1) := fun q => c3 ⟨by omega, h1⟩
            have n2 : ¬ (j' + 1 = i ∧ l[i]? = some .second) := fun ⟨q, _⟩ => c1 (by omega)
            have n3 : ¬ (j' = i + 2 ∧ l[j']? = some .second) := fun ⟨_, q⟩ => by rw [e2] at q; cases q
            rw [if_neg n1, if_neg n0, if_neg n2, if_neg n3]; exact e2
def LR (am : List Addr) (L : ALoc) (l : Array Slot) : Prop := L.length = l.size ∧ WFL l ∧ ∀ (i : Nat) v, L[i]? = some (some v) → ∃ w, l[i]? = some (.val w) ∧ VR am v w
theorem LR.mono {am am' : List Addr} (h : Pre am am') {L : ALoc} {l : Array Slot} (r : LR am L l) : LR am' L l :=
  ⟨r.1, r.2.1, fun i v q => by obtain ⟨w, h1, h2⟩ := r.2.2 i v q; exact ⟨w, h1, h2.mono h⟩⟩
theorem kill1_len (L : ALoc) (i : Nat) : (kill1 L i).length = L.length := by
  unfold kill1; split
  · rfl
  · split <;> simp
theorem kill1_get {L : ALoc} {i j : Nat} {v : Value} (h : (kill1 L i)[j]? = some (some v)) : L[j]? = some (some v) ∧ (j + 1 = i → ∀ x, v ≠ .long x) := by
  unfold kill1 at h
  split at h
  · exact ⟨h, fun q => by omega⟩
  · rename_i i
    split at h
    · rename_i x hx
      by_cases e : j = i
      · subst e
        rw [List.getElem?_set] at h
        split at h
        · split at h <;> simp at h
        · omega
      · rw [List.getElem?_set_ne (Ne.symm e)] at h
        exact ⟨h, fun q => absurd (by omega) e⟩
    · rename_i hn
      refine ⟨h, fun q x e => ?_⟩
      have : j = i := by omega
      subst this; subst e; exact hn x h
theorem LR.put {am : List Addr} {L L' : ALoc} {l : Array Slot} {i : Nat} {v w : Value} (r : LR am L l) (h : lput L i v = some L') (hv : VR am v w) (hc : w.category = 1) : ∃ l', storeLocals l i w = some l' ∧ l'.size = l.size ∧ LR am L' l' := by
  unfold lput at h
  cases hb : Nat.ble (i + 1) L.length
  · rw [hb] at h; cases h
  · rw [hb] at h
    have hi : i < L.length := Nat.le_of_ble_eq_true hb
    simp only [cond_true, Option.some.injEq] at h
    obtain ⟨l', h1, h2, h3⟩ := store1w (v := w) r.2.1 (by rw [← r.1]; exact hi) hc
    refine ⟨l', h1, h2, ?_, h3.wf r.2.1 hc, fun j u hu => ?_⟩
    · rw [← h]; simp [kill1_len, r.1, h2]
    · rw [← h, List.getElem?_set] at hu
      rw [h3 j]
      by_cases c : i = j
      · subst c
        simp only [if_true] at hu
        split at hu
        · cases hu; exact ⟨w, by simp, hv⟩
        · cases hu
      · rw [if_neg c] at hu
        obtain ⟨q1, q2⟩ := kill1_get hu
        obtain ⟨w', q3, q4⟩ := r.2.2 j u q1
        have n1 : ¬ (j = i) := fun q => c q.symm
        have n2 : ¬ (j + 1 = i ∧ l[i]? = some .second) := fun ⟨a1, a2⟩ => by
          obtain ⟨j', w2, e1, e2, e3⟩ := r.2.1.2 _ a2
          have : j' = j := by omega
          subst this; rw [q3] at e2; cases e2
          have q5 := q4.cat
          rw [e3] at q5
          cases u <;> simp [OwnX.cat] at q5
          exact q2 a1 _ rfl
        have n3 : ¬ (j = i + 1 ∧ l[j]? = some .second) := fun ⟨_, q⟩ => by rw [q3] at q; cases q
        exact ⟨w', by rw [if_neg n1, if_neg n2, if_neg n3]; exact q3, q4⟩
theorem LR.putL {am : List Addr} {L L' : ALoc} {l : Array Slot} {i : Nat} {x : Int64} (r : LR am L l) (h : lputL L i x = some L') : ∃ l', storeLocals l i (.long x) = some l' ∧ l'.size = l.size ∧ LR am L' l' := by
  unfold lputL at h
  cases hb : Nat.ble (i + 2) L.length
  · rw [hb] at h; cases h
  · rw [hb] at h
    have hi : i + 1 < L.length := Nat.le_of_ble_eq_true hb
    simp only [cond_true, Option.some.injEq] at h
    obtain ⟨l', h1, h2, h3⟩ := store2w (v := .long x) r.2.1 (by rw [← r.1]; exact hi) rfl
    refine ⟨l', h1, h2, ?_, h3.wf r.2.1 rfl, fun j u hu => ?_⟩
    · rw [← h]; simp [kill1_len, r.1, h2]
    · rw [← h, List.getElem?_set] at hu
      rw [h3 j]
      by_cases c0 : i + 1 = j
      · subst c0
        simp only [if_true] at hu
        split at hu <;> cases hu
      · rw [if_neg c0, List.getElem?_set] at hu
        by_cases c : i = j
        · subst c
          simp only [if_true] at hu
          split at hu
          · cases hu; exact ⟨.long x, by simp, rfl⟩
          · cases hu
        · rw [if_neg c] at hu
          obtain ⟨q1, q2⟩ := kill1_get hu
          obtain ⟨w', q3, q4⟩ := r.2.2 j u q1
          have n1 : ¬ (j = i) := fun q => c q.symm
          have n0 : ¬ (j = i + 1) := fun q => c0 q.symm
          have n2 : ¬ (j + 1 = i ∧ l[i]? = some .second) := fun ⟨a1, a2⟩ => by
            obtain ⟨j', w2, e1, e2, e3⟩ := r.2.1.2 _ a2
            have : j' = j := by omega
            subst this; rw [q3] at e2; cases e2
            have q5 := q4.cat
            rw [e3] at q5
            cases u <;> simp [OwnX.cat] at q5
            exact q2 a1 _ rfl
          have n3 : ¬ (j = i + 2 ∧ l[j]? = some .second) := fun ⟨_, q⟩ => by rw [q3] at q; cases q
          exact ⟨w', by rw [if_neg n1, if_neg n0, if_neg n2, if_neg n3]; exact q3, q4⟩
theorem LR.int {am : List Addr} {L : ALoc} {l : Array Slot} {i : Nat} {x : Int32} (r : LR am L l) (h : loadI L i = some x) : l[i]? = some (.val (.int x)) := by
  unfold loadI at h
  split at h
  · rename_i y hy
    cases h
    obtain ⟨w, h1, h2⟩ := r.2.2 _ _ hy
    cases h2; exact h1
  · cases h
theorem LR.long {am : List Addr} {L : ALoc} {l : Array Slot} {i : Nat} {x : Int64} (r : LR am L l) (h : loadJ L i = some x) : l[i]? = some (.val (.long x)) := by
  unfold loadJ at h
  split at h
  · rename_i y hy
    cases h
    obtain ⟨w, h1, h2⟩ := r.2.2 _ _ hy
    cases h2; exact h1
  · cases h
theorem LR.ref {am : List Addr} {L : ALoc} {l : Array Slot} {i x : Nat} (r : LR am L l) (h : loadA L i = some x) : ∃ a, am[x]? = some a ∧ l[i]? = some (.val (.ref a)) := by
  unfold loadA at h
  split at h
  · rename_i y hy
    cases h
    obtain ⟨w, h1, a, h2, rfl⟩ := r.2.2 _ _ hy
    exact ⟨a, h2, h1⟩
  · cases h
end Jvm.OwnX
namespace Jvm.OwnX
open Sem ClassFile Op Lib Jvm.Stand Jvm.Free Jvm.LawKit Jvm.RoadKit
/-! ## the entry's variables -/
def slotsL : List Value → List Slot
  | [] => []
  | v :: r => if v.category = 2 then .val v :: .second :: slotsL r else .val v :: slotsL r
theorem fold_slots : ∀ (ws : List Value) (acc : Array Slot), ws.foldl (fun acc v => if v.category = 2 then (acc.push (.val v)).push .second else acc.push (.val v)) acc = acc ++ (slotsL ws).toArray
  | [], acc => by simp [slotsL]
  | v :: r, acc => by
    rw [List.foldl_cons, fold_slots r]
    by_cases h : v.category = 2
    · simp only [h, if_true, slotsL]; apply Array.ext'; simp
    · simp only [h, if_false, slotsL]; apply Array.ext'; simp
theorem argsToLocals_eq (ws : List Value) (n : Nat) : argsToLocals ws.toArray n = (slotsL ws ++ List.replicate (n - (slotsL ws).length) Slot.unset).toArray := by
  unfold argsToLocals
  have h : Array.foldl (fun acc v => if v.category = 2 then (acc.push (.val v)).push .second else acc.push (.val v)) #[] ws.toArray = (slotsL ws).toArray := by
    rw [List.foldl_toArray, fold_slots]; simp
  simp only [h]
  apply Array.ext'; simp
def WFl (s : List Slot) : Prop := (∀ (i : Nat) (w : Value), s[i]? = some (Slot.val w) → w.category = 2 → s[i + 1]? = some Slot.second) ∧ (∀ (i : Nat), s[i]? = some Slot.second → ∃ (j : Nat) (w : Value), i = j + 1 ∧ s[j]? = some (Slot.val w) ∧ w.category = 2)
theorem WFl.nil : WFl [] := ⟨fun i w h => by simp at h, fun i h => by simp at h⟩
theorem WFl.one {s : List Slot} (h : WFl s) {v : Value} (hv : ¬ v.category = 2) : WFl (.val v :: s) := by
  refine ⟨fun i w h1 h2 => ?_, fun i h1 => ?_⟩
  · cases i with
    | zero => simp at h1; subst h1; exact absurd h2 hv
    | succ i => rw [List.getElem?_cons_succ] at h1 ⊢; exact h.1 _ _ h1 h2
  · cases i with
    | zero => simp at h1
    | succ i =>
      rw [List.getElem?_cons_succ] at h1
      obtain ⟨j, w, rfl, e2, e3⟩ := h.2 _ h1
      exact ⟨j + 1, w, rfl, by rw [List.getElem?_cons_succ]; exact e2, e3⟩
theorem WFl.two {s : List Slot} (h : WFl s) {v : Value} (hv : v.category = 2) : WFl (.val v :: .second :: s) := by
  refine ⟨fun i w h1 h2 => ?_, fun i h1 => ?_⟩
  · match i with
    | 0 => simp
    | 1 => simp at h1
    | i + 2 => simp only [List.getElem?_cons_succ] at h1 ⊢; exact h.1 _ _ h1 h2
  · match i with
    | 0 => simp at h1
    | 1 => exact ⟨0, v, rfl, by simp, hv⟩
    | i + 2 =>
      simp only [List.getElem?_cons_succ] at h1
      obtain ⟨j, w, rfl, e2, e3⟩ := h.2 _ h1
      exact ⟨j + 2, w, rfl, by simp only [List.getElem?_cons_succ]; exact e2, e3⟩
theorem WFl.pad {s : List Slot} (h : WFl s) (n : Nat) : WFl (s ++ List.replicate n Slot.unset) := by
  have hk : ∀ (i : Nat) (x : Slot), (s ++ List.replicate n Slot.unset)[i]? = some x → x ≠ Slot.unset → s[i]? = some x := fun i x q hx => by
    by_cases c : i < s.length
    · rw [List.getElem?_append_left c] at q; exact q
    · rw [List.getElem?_append_right (by omega), List.getElem?_replicate] at q
      split at q
      · cases q; exact absurd rfl hx
      · cases q
  have hl : ∀ (i : Nat) (x : Slot), s[i]? = some x → (s ++ List.replicate n Slot.unset)[i]? = some x := fun i x q => by
    rw [List.getElem?_append_left (List.getElem?_eq_some_iff.mp q).1]; exact q
  refine ⟨fun i w h1 h2 => hl _ _ (h.1 _ _ (hk _ _ h1 (by simp)) h2), fun i h1 => ?_⟩
  obtain ⟨j, w, e1, e2, e3⟩ := h.2 _ (hk _ _ h1 (by simp))
  exact ⟨j, w, e1, hl _ _ e2, e3⟩
theorem slotsL_ok {am : List Addr} : ∀ {as ws : List Value}, SR am as ws → (entL as).length = (slotsL ws).length ∧ WFl (slotsL ws) ∧ ∀ (i : Nat) (v : Value), (entL as)[i]? = some (some v) → ∃ w, (slotsL ws)[i]? = some (Slot.val w) ∧ VR am v w
  | [], _, h => by cases h; exact ⟨rfl, WFl.nil, fun i v q => by simp [entL] at q⟩
  | v :: r, _, ⟨w, ws', e, r1, r2⟩ => by
    subst e
    obtain ⟨i1, i2, i3⟩ := slotsL_ok r2
    have hc := r1.cat
    by_cases h2 : ∃ x, v = .long x
    · obtain ⟨x, rfl⟩ := h2
      have hc2 : w.category = 2 := hc
      refine ⟨by simp [entL, slotsL, hc2, i1], by simp only [slotsL, hc2, if_true]; exact i2.two hc2, fun i u q => ?_⟩
      simp only [slotsL, hc2, if_true, entL] at q ⊢
      match i with
      | 0 => simp at q; subst q; exact ⟨w, by simp, r1⟩
      | 1 => simp at q
      | i + 2 => simp only [List.getElem?_cons_succ] at q ⊢; exact i3 i u q
    · have hv1 : OwnX.cat v = 1 := by cases v <;> first | rfl | (exact absurd ⟨_, rfl⟩ h2)
      have hc2 : ¬ w.category = 2 := by rw [hc, hv1]; decide
      have he : entL (v :: r) = some v :: entL r := by cases v <;> first | rfl | (exact absurd ⟨_, rfl⟩ h2)
      refine ⟨by simp [he, slotsL, hc2, i1], by simp only [slotsL, hc2, if_false]; exact i2.one hc2, fun i u q => ?_⟩
      rw [he] at q
      simp only [slotsL, hc2, if_false]
      match i with
      | 0 => simp at q; subst q; exact ⟨w, by simp, r1⟩
      | i + 1 => simp only [List.getElem?_cons_succ] at q ⊢; exact i3 i u q
theorem LR.entry {am : List Addr} {as ws : List Value} {n : Nat} (h : SR am as ws) (hn : (entL as).length ≤ n) : LR am (pad n (entL as)) (argsToLocals ws.toArray n) := by
  obtain ⟨h1, h2, h3⟩ := slotsL_ok h
  rw [argsToLocals_eq]
  have hw := h2.pad (n - (slotsL ws).length)
  refine ⟨by simp [pad, h1], ⟨fun i w q1 q2 => ?_, fun i q1 => ?_⟩, fun i v q => ?_⟩
  · rw [List.getElem?_toArray] at q1 ⊢; exact hw.1 _ _ q1 q2
  · rw [List.getElem?_toArray] at q1
    obtain ⟨j, w, e1, e2, e3⟩ := hw.2 _ q1
    exact ⟨j, w, e1, by rw [List.getElem?_toArray]; exact e2, e3⟩
  · have hi : i < (entL as).length := by
      by_cases c : i < (entL as).length
      · exact c
      · unfold pad at q
        rw [List.getElem?_append_right (by omega), List.getElem?_replicate] at q
        split at q
        · cases q
        · cases q
    unfold pad at q
    rw [List.getElem?_append_left hi] at q
    obtain ⟨w, e1, e2⟩ := h3 i v q
    exact ⟨w, by rw [List.getElem?_toArray, List.getElem?_append_left (by omega)]; exact e1, e2⟩
theorem entry_size {ws : List Value} {n : Nat} (h : (slotsL ws).length ≤ n) : (argsToLocals ws.toArray n).size = n := by
  rw [argsToLocals_eq]; simp; omega
/-! ## the heap -/
def aty : Nat → FieldType
  | 0 => .int
  | 1 => .int
  | 2 => .boolean
  | 3 => .byte
  | _ => .long
def CR (P : Prog) (C : String) (Z : State) (am : List Addr) (c : ACell) (h : Heap) (a : Addr) : Prop := match c with
  | .inl fs => Exa Z h a C ∧ fs.length = P.fields.length ∧ ∀ (j : Nat) (v : Value) (n d : String) (t : Nat) (f : Bool), fs[j]? = some v → P.fields[j]? = some (n, d, t, f) → ∃ w, VR am v w ∧ Fld Z h a C n d w
  | .inr (.inl (t, xs)) => ∃ cl, Arr Z h a cl (aty t) ∧ cl.slots.size = xs.length ∧ ∀ (j : Nat) (x : Int32), xs[j]? = some x → cl.slots[j]? = some (.int x)
  | .inr (.inr xs) => ∃ cl, Arr Z h a cl .long ∧ cl.slots.size = xs.length ∧ ∀ (j : Nat) (x : Int64), xs[j]? = some x → cl.slots[j]? = some (.long x)
def HR (P : Prog) (C : String) (Z : State) (n0 : Nat) (am : List Addr) (H : AHeap) (h : Heap) : Prop :=
  am.length = H.length ∧ (∀ (i j : Nat) (a : Addr), am[i]? = some a → am[j]? = some a → i = j) ∧ (∀ (i : Nat) (a : Addr), am[i]? = some a → a < h.size ∧ (P.ro ≤ i → n0 ≤ a)) ∧ ∀ (i : Nat) (c : ACell), H[i]? = some c → ∃ a, am[i]? = some a ∧ CR P C Z am c h a
section Heap
variable {P : Prog} {C : String} {Z : State} {n0 : Nat} {am am' : List Addr} {H : AHeap} {h h' : Heap} {a b : Addr} {c : ACell}
theorem CR.ext (E : Ext h h') (hp : Pre am am') (r : CR P C Z am c h a) : CR P C Z am' c h' a := by
  match c, r with
  | .inl fs, ⟨r1, r2, r3⟩ => exact ⟨r1.ext E, r2, fun j v n d t f q1 q2 => by obtain ⟨w, e1, e2⟩ := r3 j v n d t f q1 q2; exact ⟨w, e1.mono hp, e2.ext E⟩⟩
  | .inr (.inl (t, xs)), ⟨cl, r1, r2⟩ => exact ⟨cl, r1.ext E, r2⟩
  | .inr (.inr xs), ⟨cl, r1, r2⟩ => exact ⟨cl, r1.ext E, r2⟩
theorem CR.other {sl : Nat} {v : Value} (W : Wr h h' b sl v) (hne : a ≠ b) (r : CR P C Z am c h a) : CR P C Z am c h' a := by
  match c, r with
  | .inl fs, ⟨r1, r2, r3⟩ => exact ⟨r1.wr W, r2, fun j v n d t f q1 q2 => by obtain ⟨w, e1, e2⟩ := r3 j v n d t f q1 q2; exact ⟨w, e1, e2.other W (Or.inl hne)⟩⟩
  | .inr (.inl (t, xs)), ⟨cl, r1, r2⟩ => exact ⟨cl, r1.other W hne, r2⟩
  | .inr (.inr xs), ⟨cl, r1, r2⟩ => exact ⟨cl, r1.other W hne, r2⟩
/-- a new cell -/
theorem HR.push (E : Ext h h') (r : HR P C Z n0 am H h) (hlt : h.size < h'.size) (hn : n0 ≤ h.size) (hc : CR P C Z (am ++ [h.size]) c h' h.size) : HR P C Z n0 (am ++ [h.size]) (H ++ [c]) h' := by
  obtain ⟨r1, r2, r3, r4⟩ := r
  have hin : ∀ (i : Nat) (x : Addr), (am ++ [h.size])[i]? = some x → (am[i]? = some x ∧ i < am.length) ∨ (i = am.length ∧ x = h.size) := fun i x q => by
    by_cases ci : i < am.length
    · rw [List.getElem?_append_left ci] at q; exact Or.inl ⟨q, ci⟩
    · rw [List.getElem?_append_right (by omega)] at q
      have : i - am.length = 0 := by
        by_cases z : i - am.length = 0
        · exact z
        · rw [List.getElem?_eq_none (by simp; omega)] at q; cases q
      rw [this] at q
      simp at q
      exact Or.inr ⟨by omega, q.symm⟩
  refine ⟨by simp [r1], fun i j x q1 q2 => ?_, fun i x q => ?_, fun i d q => ?_⟩
  · rcases hin i x q1 with ⟨u1, u2⟩ | ⟨u1, u2⟩ <;> rcases hin j x q2 with ⟨v1, v2⟩ | ⟨v1, v2⟩
    · exact r2 _ _ _ u1 v1
    · subst v2; exact absurd (r3 _ _ u1).1 (Nat.lt_irrefl _)
    · subst u2; exact absurd (r3 _ _ v1).1 (Nat.lt_irrefl _)
    · omega
  · rcases hin i x q with ⟨u1, u2⟩ | ⟨u1, u2⟩
    · have := r3 _ _ u1; exact ⟨Nat.lt_of_lt_of_le this.1 E.1, this.2⟩
    · subst u2; exact ⟨hlt, fun _ => hn⟩
  · by_cases ci : i < H.length
    · rw [List.getElem?_append_left ci] at q
      obtain ⟨x, e1, e2⟩ := r4 i d q
      exact ⟨x, Pre.app am _ _ _ e1, e2.ext E (Pre.app am _)⟩
    · rw [List.getElem?_append_right (by omega)] at q
      have : i - H.length = 0 := by
        by_cases z : i - H.length = 0
        · exact z
        · rw [List.getElem?_eq_none (by simp; omega)] at q; cases q
      rw [this] at q
      simp at q; subst q
      have e : i = am.length := by omega
      exact ⟨h.size, by rw [e]; simp, hc⟩
/-- a cell changed in place -/
theorem HR.upd {i sl : Nat} {v : Value} (W : Wr h h' a sl v) (r : HR P C Z n0 am H h) (hi : am[i]? = some a) (hc : CR P C Z am c h' a) : HR P C Z n0 am (H.set i c) h' := by
  obtain ⟨r1, r2, r3, r4⟩ := r
  refine ⟨by simp [r1], r2, fun j x q => by rw [W.size]; exact r3 _ _ q, fun j d q => ?_⟩
  rw [List.getElem?_set] at q
  by_cases e : i = j
  · subst e
    simp only [if_true] at q
    split at q
    · cases q; exact ⟨a, hi, hc⟩
    · cases q
  · rw [if_neg e] at q
    obtain ⟨x, e1, e2⟩ := r4 j d q
    exact ⟨x, e1, e2.other W fun q => e (r2 _ _ _ hi (q ▸ e1))⟩
theorem inb_spec {n : Nat} {j : Int32} (h : inb n j = true) : ¬ (j < 0 ∨ n ≤ j.toNatClampNeg) := by
  simp only [inb, Bool.and_eq_true, Bool.not_eq_true', decide_eq_false_iff_not] at h
  have h2 : j.toNatClampNeg < n := Nat.le_of_ble_eq_true h.2
  rintro (q | q)
  · exact h.1 q
  · omega
theorem inb_lt {n : Nat} {j : Int32} (h : inb n j = true) : j.toNatClampNeg < n := by
  have := inb_spec h; exact Nat.lt_of_not_le fun q => this (Or.inr q)
theorem rd_at {xs : List Int32} {j : Int32} (h : inb xs.length j = true) : xs[j.toNatClampNeg]? = some (rd xs j) := by
  rw [rd, List.getD_eq_getElem?_getD, List.getElem?_eq_getElem (inb_lt h)]; rfl
theorem rdL_at {xs : List Int64} {j : Int32} (h : inb xs.length j = true) : xs[j.toNatClampNeg]? = some (rdL xs j) := by
  rw [rdL, List.getD_eq_getElem?_getD, List.getElem?_eq_getElem (inb_lt h)]; rfl
theorem CR.wrI {t : Nat} {xs : List Int32} {j x : Int32} (W : Wr h h' a j.toNatClampNeg (.int x)) (r : CR P C Z am (.inr (.inl (t, xs))) h a) : CR P C Z am (.inr (.inl (t, wr xs j x))) h' a := by
  obtain ⟨cl, r1, r2, r3⟩ := r
  refine ⟨_, r1.same W, by rw [sz_set, r2]; simp [wr], fun i y q => ?_⟩
  unfold wr at q
  rw [List.getElem?_set] at q
  by_cases e : j.toNatClampNeg = i
  · rw [if_pos e] at q
    split at q
    · cases q; subst e
      have hs : j.toNatClampNeg < cl.slots.size := by omega
      simp [Cell.setSlot, hs]
    · cases q
  · rw [if_neg e] at q
    simp only [Cell.setSlot]
    rw [Array.getElem?_setIfInBounds_ne e]; exact r3 _ _ q
theorem CR.wrJ {xs : List Int64} {j : Int32} {x : Int64} (W : Wr h h' a j.toNatClampNeg (.long x)) (r : CR P C Z am (.inr (.inr xs)) h a) : CR P C Z am (.inr (.inr (wrL xs j x))) h' a := by
  obtain ⟨cl, r1, r2, r3⟩ := r
  refine ⟨_, r1.same W, by rw [sz_set, r2]; simp [wrL], fun i y q => ?_⟩
  unfold wrL at q
  rw [List.getElem?_set] at q
  by_cases e : j.toNatClampNeg = i
  · rw [if_pos e] at q
    split at q
    · cases q; subst e
      have hs : j.toNatClampNeg < cl.slots.size := by omega
      simp [Cell.setSlot, hs]
    · cases q
  · rw [if_neg e] at q
    simp only [Cell.setSlot]
    rw [Array.getElem?_setIfInBounds_ne e]; exact r3 _ _ q
end Heap
/-! ## what the sheet's words must say -/
def tyOk : Nat → FieldType → Bool
  | 0, .int => true
  | 1, .boolean => true
  | 2, .long => true
  | 3, .array _ => true
  | _, _ => false
def rcv (q : Nat) : Nat := match q with | 0 => 0 | _ => 1
def KindOk (P : Prog) (nm : Nat → MethodName) (C : String) (Z : State) (a0 : Array Value) (q k : Nat) : Prop := match q with
  | 0 => (Cond.static (nm k)).before a0 Z = true
  | 1 => (nm k).name = "<init>" ∧ (Cond.instanceMethod (nm k)).before a0 Z = true ∧ P.ret k = none
  | 2 => (Cond.declares (nm k)).before a0 Z = true ∧ (Cond.instanceMethod (nm k)).before a0 Z = true ∧ (Cond.selects C (nm k) (nm k)).before a0 Z = true
  | _ => (nm k).cls = C ∧ (Cond.instanceMethod (nm k)).before a0 Z = true ∧ (Cond.privateMethod (nm k)).before a0 Z = true
def CallOk (P : Prog) (nm : Nat → MethodName) (bc : Nat → ByteArray) (cn : Nat → String) (C : String) (Z : State) (a0 : Array Value) (c j q k : Nat) : Prop :=
  (Cond.methodLink (cn c) j (nm k)).before a0 Z = true ∧ (Cond.code (nm k) (bc k) (P.maxL k) (P.ret k)).before a0 Z = true ∧ (Cond.initialized (nm k).cls).before a0 Z = true ∧
      (∃ ps r, parseMethodDescriptor (nm k).desc = some ⟨ps, r⟩ ∧ P.pops k = ps.length + rcv q) ∧ plainName (nm k).cls = true ∧ ((nm k).cls ≠ "java/lang/invoke/MethodHandle" ∧ (nm k).cls ≠ "java/lang/invoke/VarHandle") ∧ (nm k).cls = cn (P.cls k) ∧ (P.ini k = true → (nm k).name = "<init>" ∧ (nm k).cls = C) ∧ KindOk P nm C Z a0 q k
def LinkOk (P : Prog) (nm : Nat → MethodName) (bc : Nat → ByteArray) (cn : Nat → String) (C : String) (Z : State) (a0 : Array Value) (c j q k : Nat) : Prop := match q with
  | 4 => (Cond.methodLink (cn c) j Lib.objectInit).before a0 Z = true ∧ (Cond.instanceMethod Lib.objectInit).before a0 Z = true ∧ (Cond.code Lib.objectInit ⟨#[0xb1]⟩ 1 none).before a0 Z = true
  | 5 => (Cond.classLink (cn c) j C).before a0 Z = true
  | q => CallOk P nm bc cn C Z a0 c j q k
def KonOk (cn : Nat → String) (Z : State) (a0 : Array Value) (c j : Nat) (v : Value) : Prop := match v with
  | .int x => (Cond.constant (cn c) j x).before a0 Z = true
  | .long x => (Cond.constantLong (cn c) j x).before a0 Z = true
  | _ => False
def Good (P : Prog) (nm : Nat → MethodName) (bc : Nat → ByteArray) (cn : Nat → String) (C : String) (Z : State) (a0 : Array Value) : Prop :=
  (∀ k pc i np, P.code k pc = some (i, np) → ∃ len, decode (bc k) pc = .ok (i, len) ∧ np = pc + len ∧ (ilen i = 0 ∨ len = ilen i)) ∧
  (∀ c j f, P.fld c j = some f → ∃ n d t fin, P.fields[f]? = some (n, d, t, fin) ∧ (Cond.fieldLink (cn c) j C n d).before a0 Z = true) ∧
  (∀ (f : Nat) n d t (fin : Bool), P.fields[f]? = some (n, d, t, fin) → (bif fin then (Cond.laysFinal C C n d).before a0 Z else (Cond.lays C C n d).before a0 Z) = true ∧ ∃ ty, parseFieldDescriptor d = some ty ∧ tyOk t ty = true ∧ defaultValue ty = dflt t) ∧
  (∀ (f g : Nat) n d t (fin : Bool) n' d' t' (fin' : Bool), P.fields[f]? = some (n, d, t, fin) → P.fields[g]? = some (n', d', t', fin') → f ≠ g → n ≠ n') ∧
  (∀ c j v, P.kon c j = some v → KonOk cn Z a0 c j v) ∧
  (Cond.instantiable C P.objN).before a0 Z = true ∧ (Cond.initialized C).before a0 Z = true ∧
  (∀ k pc t np, P.code k pc = some (.newarray t, np) → (Cond.arrayClass (newarray.typeOf t)).before a0 Z = true) ∧
  (∀ c j q k, P.link c j = some (q, k) → LinkOk P nm bc cn C Z a0 c j q k)
end Jvm.OwnX
namespace Jvm.OwnX
open Sem ClassFile Op Lib Jvm.Stand Jvm.Free Jvm.LawKit Jvm.RoadKit
section Sound
variable {p : Program} {l : Launch} {e : Env} {R : Room} {s : State} {m : MethodId} {args : Array Value} {below : List Frame} {meth : Method} {c : Code} {T : State} {locs : List Loc} {cells slots : Nat}
variable {P : Prog} {nm : Nat → MethodName} {bc : Nat → ByteArray} {cn : Nat → String} {C : String} {Z : State} {a0 : Array Value} {n0 : Nat}
/-- where the walk stands behind a step -/
def Behind (p : Program) (l : Launch) (e : Env) (R : Room) (s : State) (m : MethodId) (args : Array Value) (below : List Frame) (meth : Method) (c : Code) (P : Prog) (C : String) (Z : State) (n0 : Nat) (am : List Addr) (cells slots : Nat)
    (T : State) (pc : Nat) (ls : Array Slot) (st : List Value) (pc' : Nat) (L' : ALoc) (S' : List Value) (H' : AHeap) (dc ds : Nat) : Prop :=
  ∃ T' am' ls' st' locs', Stand p l e R s m args below meth c T' locs' (cells + dc) (slots + ds) ∧ LR am' L' ls' ∧ ls'.size = ls.size ∧ SR am' S' st' ∧ HR P C Z n0 am' H' T'.heap ∧ Pre am am' ∧ Fr n0 locs' ∧ n0 ≤ T'.heap.size ∧
    ∀ target, Steps p.tables e below (T'.setTop (mkF m pc' ls' st')) target → Steps p.tables e below (T.setTop (mkF m pc ls st)) target
theorem Behind.plain {am : List Addr} {H : AHeap} {pc pc' : Nat} {L' : ALoc} {S' : List Value} {ls ls' : Array Slot} {st st' : List Value} (X : Stand p l e R s m args below meth c T locs cells slots) (hL : LR am L' ls') (hz : ls'.size = ls.size) (hS : SR am S' st') (hH : HR P C Z n0 am H T.heap) (hF : Fr n0 locs) (hn : n0 ≤ T.heap.size)
    (hs : ∀ target, Steps p.tables e below (T.setTop (mkF m pc' ls' st')) target → Steps p.tables e below (T.setTop (mkF m pc ls st)) target) : Behind p l e R s m args below meth c P C Z n0 am cells slots T pc ls st pc' L' S' H (H.length - H.length) (hsz P H - hsz P H) :=
  ⟨T, am, ls', st', locs, by simpa using X, hL, hz, hS, hH, Pre.refl _, hF, hn, hs⟩
theorem Behind.plain' {T' : State} {am : List Addr} {H : AHeap} {pc pc' : Nat} {L' : ALoc} {S' : List Value} {ls ls' : Array Slot} {st st' : List Value} (X : Stand p l e R s m args below meth c T' locs cells slots) (eT : T'.heap = T.heap) (hL : LR am L' ls') (hz : ls'.size = ls.size) (hS : SR am S' st') (hH : HR P C Z n0 am H T.heap) (hF : Fr n0 locs) (hn : n0 ≤ T.heap.size)
    (hs : ∀ target, Steps p.tables e below (T'.setTop (mkF m pc' ls' st')) target → Steps p.tables e below (T.setTop (mkF m pc ls st)) target) : Behind p l e R s m args below meth c P C Z n0 am cells slots T pc ls st pc' L' S' H (H.length - H.length) (hsz P H - hsz P H) :=
  ⟨T', am, ls', st', locs, by simpa using X, hL, hz, hS, by rw [eT]; exact hH, Pre.refl _, hF, by rw [eT]; exact hn, hs⟩
theorem tgt_spec {pc t : Nat} {o : Int} (h : tgt pc o = some t) : 0 ≤ (pc : Int) + o ∧ ((pc : Int) + o).toNat = t := by
  unfold tgt at h
  split at h
  · rename_i n hn; cases h; rw [hn]; exact ⟨Int.natCast_nonneg _, rfl⟩
  · cases h
theorem hsz_app (P : Prog) : ∀ (H : AHeap) (c : ACell), hsz P (H ++ [c]) = hsz P H + csz P.objN c
  | [], c => by simp [hsz]
  | x :: r, c => by simp only [List.cons_append, hsz, hsz_app P r c]; omega
theorem hsz_append (P : Prog) : ∀ (H T : AHeap), hsz P (H ++ T) = hsz P H + hsz P T
  | [], T => by simp [hsz]
  | x :: r, T => by simp only [List.cons_append, hsz, hsz_append P r T]; omega
theorem hsz_set (P : Prog) : ∀ (H : AHeap) (i : Nat) (c c' : ACell), H[i]? = some c' → csz P.objN c = csz P.objN c' → hsz P (H.set i c) = hsz P H
  | [], i, c, c', h, _ => by simp at h
  | x :: r, 0, c, c', h, e => by simp at h; subst h; simp [hsz, e]
  | x :: r, i + 1, c, c', h, e => by simp only [List.set_cons_succ, hsz]; rw [List.getElem?_cons_succ] at h; rw [hsz_set P r i c c' h e]
/-- a write -/
theorem Behind.write {T' : State} {am : List Addr} {H : AHeap} {i sl : Nat} {cc cc' : ACell} {a : Addr} {w : Value} {h' : Heap} {pc pc' : Nat} {L' : ALoc} {S' : List Value} {ls : Array Slot} {st st' : List Value} (X : Stand p l e R s m args below meth c T' (locs ++ [⟨a, sl⟩]) cells slots) (eT : T'.heap = h') (W : Wr T.heap h' a sl w)
    (hL : LR am L' ls) (hS : SR am S' st') (hH : HR P C Z n0 am H T.heap) (hi : am[i]? = some a) (hro : P.ro ≤ i) (hc' : H[i]? = some cc') (hcs : csz P.objN cc = csz P.objN cc') (hC : CR P C Z am cc h' a) (hF : Fr n0 locs) (hn : n0 ≤ T.heap.size)
    (hs : ∀ target, Steps p.tables e below (T'.setTop (mkF m pc' ls st')) target → Steps p.tables e below (T.setTop (mkF m pc ls st)) target) :
    Behind p l e R s m args below meth c P C Z n0 am cells slots T pc ls st pc' L' S' (H.set i cc) ((H.set i cc).length - H.length) (hsz P (H.set i cc) - hsz P H) := by
  rw [hsz_set P H i cc cc' hc' hcs]
  refine ⟨T', am, ls, st', _, by simpa using X, hL, rfl, hS, by rw [eT]; exact hH.upd W hi hC, Pre.refl _, Fr.snoc X hF ((hH.2.2.1 _ _ hi).2 hro), by rw [eT, W.size]; exact hn, hs⟩
theorem arr_new {am : List Addr} {h h' : Heap} {cA : ClassId} {q : Nat} {n : Int32} {t : ArrayType} (ht : atyOf t = some q) (hn : ¬ n < 0) (A : Arr Z h' h.size (newA cA (newarray.typeOf t) n) (newarray.typeOf t)) : CR P C Z am (newC q n.toNatClampNeg) h' h.size := by
  have key : ∀ {d : Value}, ∀ j, (Array.replicate n.toNatClampNeg d)[j]? = if j < n.toNatClampNeg then some d else none := fun j => by rw [Array.getElem?_replicate]
  cases t <;> simp only [atyOf, Option.some.injEq, reduceCtorEq] at ht <;> subst ht
  · refine ⟨_, A, by simp [newA], fun j x q => ?_⟩
    rw [List.getElem?_replicate] at q
    split at q
    · cases q; simp only [newA]; rw [key, if_pos (by assumption)]; rfl
    · cases q
  · refine ⟨_, A, by simp [newA], fun j x q => ?_⟩
    rw [List.getElem?_replicate] at q
    split at q
    · cases q; simp only [newA]; rw [key, if_pos (by assumption)]; rfl
    · cases q
  · refine ⟨_, A, by simp [newA], fun j x q => ?_⟩
    rw [List.getElem?_replicate] at q
    split at q
    · cases q; simp only [newA]; rw [key, if_pos (by assumption)]; rfl
    · cases q
  · refine ⟨_, A, by simp [newA], fun j x q => ?_⟩
    rw [List.getElem?_replicate] at q
    split at q
    · cases q; simp only [newA]; rw [key, if_pos (by assumption)]; rfl
    · cases q
theorem csz_new {t : ArrayType} {q : Nat} (N n : Nat) (ht : atyOf t = some q) : csz N (newC q n) = n := by
  cases t <;> simp only [atyOf, Option.some.injEq, reduceCtorEq] at ht <;> subst ht <;> simp [newC, csz]
set_option maxHeartbeats 4000000 in
theorem step_sound (G : Good P nm bc cn C Z a0) {k pc np pc' : Nat} {i : Instr} {L L' : ALoc} {S S' : List Value} {H H' : AHeap} (hcode : P.code k pc = some (i, np)) (h : step P k i np pc L S H = some (pc', L', S', H'))
    (X : Stand p l e R s m args below meth c T locs cells slots) (hx : p.tables.exec = Jvm.exec) (hZ : Z.Warmed39 s.vm) (hby : c.code = bc k) (hml : c.maxLocals = P.maxL k) (hown : s.vm.findClass (cn (P.cls k)) = some m.cls) (hini : P.ini k = true → meth.name = "<init>" ∧ cn (P.cls k) = C)
    (hrf : P.rf k ≤ R.frames) (hrl : P.rl k ≤ R.locals) (hcells : cells + (H'.length - H.length) ≤ R.cells) (hslots : slots + (hsz P H' - hsz P H) ≤ R.slots) {am : List Addr} {ls : Array Slot} {st : List Value} (hlz : ls.size = P.maxL k) (hL : LR am L ls) (hS : SR am S st) (hH : HR P C Z n0 am H T.heap) (hF : Fr n0 locs) (hn : n0 ≤ T.heap.size) :
    Behind p l e R s m args below meth c P C Z n0 am cells slots T pc ls st pc' L' S' H' (H'.length - H.length) (hsz P H' - hsz P H) := by
  obtain ⟨G1, G2, G3, G4, G5, G6, G7, G8, G9⟩ := G
  obtain ⟨len, hdec, rfl, hlen⟩ := G1 _ _ _ _ hcode
  have hd : decode c.code pc = .ok (i, len) := by rw [hby]; exact hdec
  cases i
  case iload_n n =>
    simp only [step] at h
    obtain rfl := hlen.resolve_left (by simp [ilen])
    cases hl : loadI L n.val with
    | none => simp [hl] at h
    | some x =>
      simp only [hl, Option.some.injEq, Prod.mk.injEq] at h; obtain ⟨rfl, rfl, rfl, rfl⟩ := h
      exact Behind.plain X hL rfl ⟨_, _, rfl, rfl, hS⟩ hH hF hn fun target hr => XS.iloadN X.here hx rfl (g := mkF m pc ls st) hd (hL.int hl) hr
  case iload n =>
    simp only [step] at h
    obtain rfl := hlen.resolve_left (by simp [ilen])
    cases hl : loadI L n with
    | none => simp [hl] at h
    | some x =>
      simp only [hl, Option.some.injEq, Prod.mk.injEq] at h; obtain ⟨rfl, rfl, rfl, rfl⟩ := h
      exact Behind.plain X hL rfl ⟨_, _, rfl, rfl, hS⟩ hH hF hn fun target hr => XS.iload X.here hx rfl (g := mkF m pc ls st) hd (hL.int hl) hr
  case lload_n n =>
    simp only [step] at h
    obtain rfl := hlen.resolve_left (by simp [ilen])
    cases hl : loadJ L n.val with
    | none => simp [hl] at h
    | some x =>
      simp only [hl, Option.some.injEq, Prod.mk.injEq] at h; obtain ⟨rfl, rfl, rfl, rfl⟩ := h
      exact Behind.plain X hL rfl ⟨_, _, rfl, rfl, hS⟩ hH hF hn fun target hr => XS.lloadN X.here hx rfl (g := mkF m pc ls st) hd (hL.long hl) hr
  case lload n =>
    simp only [step] at h
    obtain rfl := hlen.resolve_left (by simp [ilen])
    cases hl : loadJ L n with
    | none => simp [hl] at h
    | some x =>
      simp only [hl, Option.some.injEq, Prod.mk.injEq] at h; obtain ⟨rfl, rfl, rfl, rfl⟩ := h
      exact Behind.plain X hL rfl ⟨_, _, rfl, rfl, hS⟩ hH hF hn fun target hr => XS.lload X.here hx rfl (g := mkF m pc ls st) hd (hL.long hl) hr
  case aload_n n =>
    simp only [step] at h
    obtain rfl := hlen.resolve_left (by simp [ilen])
    cases hl : loadA L n.val with
    | none => simp [hl] at h
    | some x =>
      simp only [hl, Option.some.injEq, Prod.mk.injEq] at h; obtain ⟨rfl, rfl, rfl, rfl⟩ := h
      obtain ⟨a, ha, hl'⟩ := hL.ref hl
      exact Behind.plain X hL rfl ⟨_, _, rfl, ⟨a, ha, rfl⟩, hS⟩ hH hF hn fun target hr => XS.aloadN X.here hx rfl (g := mkF m pc ls st) hd hl' rfl hr
  case aload n =>
    simp only [step] at h
    obtain rfl := hlen.resolve_left (by simp [ilen])
    cases hl : loadA L n with
    | none => simp [hl] at h
    | some x =>
      simp only [hl, Option.some.injEq, Prod.mk.injEq] at h; obtain ⟨rfl, rfl, rfl, rfl⟩ := h
      obtain ⟨a, ha, hl'⟩ := hL.ref hl
      exact Behind.plain X hL rfl ⟨_, _, rfl, ⟨a, ha, rfl⟩, hS⟩ hH hF hn fun target hr => XS.aload X.here hx rfl (g := mkF m pc ls st) hd hl' rfl hr
  case istore_n n =>
    simp only [step] at h
    obtain rfl := hlen.resolve_left (by simp [ilen])
    split at h
    · rename_i x r
      cases hl : lput L n.val (.int x) with
      | none => simp [hl] at h
      | some L2 =>
        simp only [hl, Option.some.injEq, Prod.mk.injEq] at h; obtain ⟨rfl, rfl, rfl, rfl⟩ := h
        obtain ⟨_, _, rfl, rfl, hr'⟩ := hS
        obtain ⟨l', h1, h2, h3⟩ := hL.put (w := .int x) hl rfl rfl
        exact Behind.plain X h3 h2 hr' hH hF hn fun target hr => XS.istoreN X.here hx rfl (g := mkF m pc ls _) hd rfl h1 hr
    · cases h
  case istore n =>
    simp only [step] at h
    obtain rfl := hlen.resolve_left (by simp [ilen])
    split at h
    · rename_i x r
      cases hl : lput L n (.int x) with
      | none => simp [hl] at h
      | some L2 =>
        simp only [hl, Option.some.injEq, Prod.mk.injEq] at h; obtain ⟨rfl, rfl, rfl, rfl⟩ := h
        obtain ⟨_, _, rfl, rfl, hr'⟩ := hS
        obtain ⟨l', h1, h2, h3⟩ := hL.put (w := .int x) hl rfl rfl
        exact Behind.plain X h3 h2 hr' hH hF hn fun target hr => XS.istore X.here hx rfl (g := mkF m pc ls _) hd rfl h1 hr
    · cases h
  case lstore_n n =>
    simp only [step] at h
    obtain rfl := hlen.resolve_left (by simp [ilen])
    split at h
    · rename_i x r
      cases hl : lputL L n.val x with
      | none => simp [hl] at h
      | some L2 =>
        simp only [hl, Option.some.injEq, Prod.mk.injEq] at h; obtain ⟨rfl, rfl, rfl, rfl⟩ := h
        obtain ⟨_, _, rfl, rfl, hr'⟩ := hS
        obtain ⟨l', h1, h2, h3⟩ := hL.putL hl
        exact Behind.plain X h3 h2 hr' hH hF hn fun target hr => XS.lstoreN X.here hx rfl (g := mkF m pc ls _) hd rfl h1 hr
    · cases h
  case lstore n =>
    simp only [step] at h
    obtain rfl := hlen.resolve_left (by simp [ilen])
    split at h
    · rename_i x r
      cases hl : lputL L n x with
      | none => simp [hl] at h
      | some L2 =>
        simp only [hl, Option.some.injEq, Prod.mk.injEq] at h; obtain ⟨rfl, rfl, rfl, rfl⟩ := h
        obtain ⟨_, _, rfl, rfl, hr'⟩ := hS
        obtain ⟨l', h1, h2, h3⟩ := hL.putL hl
        exact Behind.plain X h3 h2 hr' hH hF hn fun target hr => XS.lstore X.here hx rfl (g := mkF m pc ls _) hd rfl h1 hr
    · cases h
  case astore_n n =>
    simp only [step] at h
    obtain rfl := hlen.resolve_left (by simp [ilen])
    split at h
    · rename_i x r
      cases hl : lput L n.val (.ref x) with
      | none => simp [hl] at h
      | some L2 =>
        simp only [hl, Option.some.injEq, Prod.mk.injEq] at h; obtain ⟨rfl, rfl, rfl, rfl⟩ := h
        obtain ⟨_, _, rfl, ⟨a, ha, rfl⟩, hr'⟩ := hS
        obtain ⟨l', h1, h2, h3⟩ := hL.put (w := .ref a) hl ⟨a, ha, rfl⟩ rfl
        exact Behind.plain X h3 h2 hr' hH hF hn fun target hr => XS.astoreN X.here hx rfl (g := mkF m pc ls _) hd rfl rfl h1 hr
    · cases h
  case astore n =>
    simp only [step] at h
    obtain rfl := hlen.resolve_left (by simp [ilen])
    split at h
    · rename_i x r
      cases hl : lput L n (.ref x) with
      | none => simp [hl] at h
      | some L2 =>
        simp only [hl, Option.some.injEq, Prod.mk.injEq] at h; obtain ⟨rfl, rfl, rfl, rfl⟩ := h
        obtain ⟨_, _, rfl, ⟨a, ha, rfl⟩, hr'⟩ := hS
        obtain ⟨l', h1, h2, h3⟩ := hL.put (w := .ref a) hl ⟨a, ha, rfl⟩ rfl
        exact Behind.plain X h3 h2 hr' hH hF hn fun target hr => XS.astore X.here hx rfl (g := mkF m pc ls _) hd rfl rfl h1 hr
    · cases h
  case iinc n cst =>
    simp only [step] at h
    obtain rfl := hlen.resolve_left (by simp [ilen])
    cases hl : loadI L n with
    | none => simp [hl] at h
    | some x =>
      cases hp : lput L n (.int (x + Int32.ofInt cst)) with
      | none => simp [hl, hp] at h
      | some L2 =>
        simp only [hl, hp, Option.some.injEq, Prod.mk.injEq] at h; obtain ⟨rfl, rfl, rfl, rfl⟩ := h
        obtain ⟨l', h1, h2, h3⟩ := hL.put (w := .int (x + Int32.ofInt cst)) hp rfl rfl
        exact Behind.plain X h3 h2 hS hH hF hn fun target hr => XS.iinc X.here hx rfl (g := mkF m pc ls st) hd (hL.int hl) h1 hr
  case iconst q =>
    simp only [step] at h
    obtain rfl := hlen.resolve_left (by simp [ilen])
    simp only [Option.some.injEq, Prod.mk.injEq] at h; obtain ⟨rfl, rfl, rfl, rfl⟩ := h
    exact Behind.plain X hL rfl ⟨_, _, rfl, rfl, hS⟩ hH hF hn fun target hr => XS.iconst X.here hx rfl (g := mkF m pc ls st) hd hr
  case bipush q =>
    simp only [step] at h
    obtain rfl := hlen.resolve_left (by simp [ilen])
    simp only [Option.some.injEq, Prod.mk.injEq] at h; obtain ⟨rfl, rfl, rfl, rfl⟩ := h
    exact Behind.plain X hL rfl ⟨_, _, rfl, rfl, hS⟩ hH hF hn fun target hr => XS.bipush X.here hx rfl (g := mkF m pc ls st) hd hr
  case sipush q =>
    simp only [step] at h
    obtain rfl := hlen.resolve_left (by simp [ilen])
    simp only [Option.some.injEq, Prod.mk.injEq] at h; obtain ⟨rfl, rfl, rfl, rfl⟩ := h
    exact Behind.plain X hL rfl ⟨_, _, rfl, rfl, hS⟩ hH hF hn fun target hr => XS.sipush X.here hx rfl (g := mkF m pc ls st) hd hr
  case lconst q =>
    simp only [step] at h
    obtain rfl := hlen.resolve_left (by simp [ilen])
    simp only [Option.some.injEq, Prod.mk.injEq] at h; obtain ⟨rfl, rfl, rfl, rfl⟩ := h
    exact Behind.plain X hL rfl ⟨_, _, rfl, rfl, hS⟩ hH hF hn fun target hr => XS.lconst X.here hx rfl (g := mkF m pc ls st) hd hr
  case ldc j =>
    simp only [step] at h
    obtain rfl := hlen.resolve_left (by simp [ilen])
    split at h
    · rename_i x hk
      simp only [Option.some.injEq, Prod.mk.injEq] at h; obtain ⟨rfl, rfl, rfl, rfl⟩ := h
      have w := G5 _ _ _ hk
      exact Behind.plain X hL rfl ⟨_, _, rfl, rfl, hS⟩ hH hF hn fun target hr => X.ldcInt hx hown (mvT hZ w) (g := mkF m pc ls st) rfl hd _ hr
    · cases h
  case ldc2_w j =>
    simp only [step] at h
    obtain rfl := hlen.resolve_left (by simp [ilen])
    split at h
    · rename_i x hk
      simp only [Option.some.injEq, Prod.mk.injEq] at h; obtain ⟨rfl, rfl, rfl, rfl⟩ := h
      have w := G5 _ _ _ hk
      exact Behind.plain X hL rfl ⟨_, _, rfl, rfl, hS⟩ hH hF hn fun target hr => X.ldc2Long hx hown (mvT hZ w) (g := mkF m pc ls st) rfl hd _ hr
    · cases h
  case idiv =>
    simp only [step] at h
    obtain rfl := hlen.resolve_left (by simp [ilen])
    split at h
    · rename_i y x r
      by_cases hy : y = 0
      · simp [hy] at h
      · simp only [hy, decide_false, cond_false, Option.some.injEq, Prod.mk.injEq] at h; obtain ⟨rfl, rfl, rfl, rfl⟩ := h
        obtain ⟨_, _, rfl, rfl, _, _, rfl, rfl, hr'⟩ := hS
        exact Behind.plain X hL rfl ⟨_, _, rfl, rfl, hr'⟩ hH hF hn fun target hr => XS.idiv X.here hx rfl (g := mkF m pc ls _) hd rfl hy hr
    · cases h
  case irem =>
    simp only [step] at h
    obtain rfl := hlen.resolve_left (by simp [ilen])
    split at h
    · rename_i y x r
      by_cases hy : y = 0
      · simp [hy] at h
      · simp only [hy, decide_false, cond_false, Option.some.injEq, Prod.mk.injEq] at h; obtain ⟨rfl, rfl, rfl, rfl⟩ := h
        obtain ⟨_, _, rfl, rfl, _, _, rfl, rfl, hr'⟩ := hS
        exact Behind.plain X hL rfl ⟨_, _, rfl, rfl, hr'⟩ hH hF hn fun target hr => iremM X hx rfl (g := mkF m pc ls _) hd rfl hy hr
    · cases h
  case lshl =>
    simp only [step] at h
    obtain rfl := hlen.resolve_left (by simp [ilen])
    split at h
    · rename_i y x r
      simp only [Option.some.injEq, Prod.mk.injEq] at h; obtain ⟨rfl, rfl, rfl, rfl⟩ := h
      obtain ⟨_, _, rfl, rfl, _, _, rfl, rfl, hr'⟩ := hS
      exact Behind.plain X hL rfl ⟨_, _, rfl, rfl, hr'⟩ hH hF hn fun target hr => XS.lshl X.here hx rfl (g := mkF m pc ls _) hd rfl hr
    · cases h
  case lushr =>
    simp only [step] at h
    obtain rfl := hlen.resolve_left (by simp [ilen])
    split at h
    · rename_i y x r
      simp only [Option.some.injEq, Prod.mk.injEq] at h; obtain ⟨rfl, rfl, rfl, rfl⟩ := h
      obtain ⟨_, _, rfl, rfl, _, _, rfl, rfl, hr'⟩ := hS
      exact Behind.plain X hL rfl ⟨_, _, rfl, rfl, hr'⟩ hH hF hn fun target hr => XS.lushr X.here hx rfl (g := mkF m pc ls _) hd rfl hr
    · cases h
  case lcmp =>
    simp only [step] at h
    obtain rfl := hlen.resolve_left (by simp [ilen])
    split at h
    · rename_i y x r
      simp only [Option.some.injEq, Prod.mk.injEq] at h; obtain ⟨rfl, rfl, rfl, rfl⟩ := h
      obtain ⟨_, _, rfl, rfl, _, _, rfl, rfl, hr'⟩ := hS
      exact Behind.plain X hL rfl ⟨_, _, rfl, rfl, hr'⟩ hH hF hn fun target hr => XS.lcmp X.here hx rfl (g := mkF m pc ls _) hd rfl hr
    · cases h
  case lneg =>
    simp only [step] at h
    obtain rfl := hlen.resolve_left (by simp [ilen])
    split at h
    · rename_i x r
      simp only [Option.some.injEq, Prod.mk.injEq] at h; obtain ⟨rfl, rfl, rfl, rfl⟩ := h
      obtain ⟨_, _, rfl, rfl, hr'⟩ := hS
      exact Behind.plain X hL rfl ⟨_, _, rfl, rfl, hr'⟩ hH hF hn fun target hr => XS.lneg X.here hx rfl (g := mkF m pc ls _) hd rfl hr
    · cases h
  case i2l =>
    simp only [step] at h
    obtain rfl := hlen.resolve_left (by simp [ilen])
    split at h
    · rename_i x r
      simp only [Option.some.injEq, Prod.mk.injEq] at h; obtain ⟨rfl, rfl, rfl, rfl⟩ := h
      obtain ⟨_, _, rfl, rfl, hr'⟩ := hS
      exact Behind.plain X hL rfl ⟨_, _, rfl, rfl, hr'⟩ hH hF hn fun target hr => XS.i2l X.here hx rfl (g := mkF m pc ls _) hd rfl hr
    · cases h
  case l2i =>
    simp only [step] at h
    obtain rfl := hlen.resolve_left (by simp [ilen])
    split at h
    · rename_i x r
      simp only [Option.some.injEq, Prod.mk.injEq] at h; obtain ⟨rfl, rfl, rfl, rfl⟩ := h
      obtain ⟨_, _, rfl, rfl, hr'⟩ := hS
      exact Behind.plain X hL rfl ⟨_, _, rfl, rfl, hr'⟩ hH hF hn fun target hr => XS.l2i X.here hx rfl (g := mkF m pc ls _) hd rfl hr
    · cases h
  case i2b =>
    simp only [step] at h
    obtain rfl := hlen.resolve_left (by simp [ilen])
    split at h
    · rename_i x r
      simp only [Option.some.injEq, Prod.mk.injEq] at h; obtain ⟨rfl, rfl, rfl, rfl⟩ := h
      obtain ⟨_, _, rfl, rfl, hr'⟩ := hS
      exact Behind.plain X hL rfl ⟨_, _, rfl, rfl, hr'⟩ hH hF hn fun target hr => XS.i2b X.here hx rfl (g := mkF m pc ls _) hd rfl hr
    · cases h
  case dup =>
    simp only [step] at h
    obtain rfl := hlen.resolve_left (by simp [ilen])
    split at h
    · rename_i x r
      simp only [Option.some.injEq, Prod.mk.injEq] at h; obtain ⟨rfl, rfl, rfl, rfl⟩ := h
      obtain ⟨_, _, rfl, ⟨a, ha, rfl⟩, hr'⟩ := hS
      exact Behind.plain X hL rfl ⟨_, _, rfl, ⟨a, ha, rfl⟩, _, _, rfl, ⟨a, ha, rfl⟩, hr'⟩ hH hF hn fun target hr => XS.dup X.here hx rfl (g := mkF m pc ls _) hd rfl rfl hr
    · rename_i x r
      simp only [Option.some.injEq, Prod.mk.injEq] at h; obtain ⟨rfl, rfl, rfl, rfl⟩ := h
      obtain ⟨_, _, rfl, rfl, hr'⟩ := hS
      exact Behind.plain X hL rfl ⟨_, _, rfl, rfl, _, _, rfl, rfl, hr'⟩ hH hF hn fun target hr => XS.dup X.here hx rfl (g := mkF m pc ls _) hd rfl rfl hr
    · cases h
  case dup2 =>
    simp only [step] at h
    obtain rfl := hlen.resolve_left (by simp [ilen])
    split at h
    · rename_i x y r
      simp only [Option.some.injEq, Prod.mk.injEq] at h; obtain ⟨rfl, rfl, rfl, rfl⟩ := h
      obtain ⟨_, _, rfl, rfl, _, _, rfl, ⟨a, ha, rfl⟩, hr'⟩ := hS
      exact Behind.plain X hL rfl ⟨_, _, rfl, rfl, _, _, rfl, ⟨a, ha, rfl⟩, _, _, rfl, rfl, _, _, rfl, ⟨a, ha, rfl⟩, hr'⟩ hH hF hn fun target hr => XT.dup2 X.here hx rfl (g := mkF m pc ls _) hd rfl rfl rfl hr
    · cases h
  case pop =>
    simp only [step] at h
    obtain rfl := hlen.resolve_left (by simp [ilen])
    split at h
    · rename_i x r
      simp only [Option.some.injEq, Prod.mk.injEq] at h; obtain ⟨rfl, rfl, rfl, rfl⟩ := h
      obtain ⟨_, _, rfl, rfl, hr'⟩ := hS
      exact Behind.plain X hL rfl hr' hH hF hn fun target hr => XS.pop X.here hx rfl (g := mkF m pc ls _) hd rfl rfl hr
    · rename_i x r
      simp only [Option.some.injEq, Prod.mk.injEq] at h; obtain ⟨rfl, rfl, rfl, rfl⟩ := h
      obtain ⟨_, _, rfl, ⟨a, ha, rfl⟩, hr'⟩ := hS
      exact Behind.plain X hL rfl hr' hH hF hn fun target hr => XS.pop X.here hx rfl (g := mkF m pc ls _) hd rfl rfl hr
    · cases h
  case goto o =>
    simp only [step] at h
    obtain rfl := hlen.resolve_left (by simp [ilen])
    cases ht : tgt pc o with
    | none => simp [ht] at h
    | some t =>
      simp only [ht, Option.some.injEq, Prod.mk.injEq] at h; obtain ⟨rfl, rfl, rfl, rfl⟩ := h
      exact Behind.plain X hL rfl hS hH hF hn fun target hr => XS.goto X.here hx rfl (g := mkF m pc ls st) (pc0 := pc) rfl hd (tgt_spec ht).1 (tgt_spec ht).2 hr
  case ifCond cd o =>
    simp only [step] at h
    obtain rfl := hlen.resolve_left (by simp [ilen])
    split at h
    · rename_i x r
      obtain ⟨_, _, rfl, rfl, hr'⟩ := hS
      cases hc : if_icmp.holds cd x 0
      · simp only [hc, cond_false, Option.some.injEq, Prod.mk.injEq] at h; obtain ⟨rfl, rfl, rfl, rfl⟩ := h
        exact Behind.plain X hL rfl hr' hH hF hn fun target hr => XS.ifNo X.here hx rfl (g := mkF m pc ls _) hd rfl ((if0 _ _).trans hc) hr
      · cases ht : tgt pc o with
        | none => simp [hc, ht] at h
        | some t =>
          simp only [hc, ht, cond_true, Option.some.injEq, Prod.mk.injEq] at h; obtain ⟨rfl, rfl, rfl, rfl⟩ := h
          exact Behind.plain X hL rfl hr' hH hF hn fun target hr => XS.ifYes X.here hx rfl (g := mkF m pc ls _) (pc0 := pc) rfl hd rfl ((if0 _ _).trans hc) (tgt_spec ht).1 (tgt_spec ht).2 hr
    · cases h
  case if_icmp cd o =>
    simp only [step] at h
    obtain rfl := hlen.resolve_left (by simp [ilen])
    split at h
    · rename_i y x r
      obtain ⟨_, _, rfl, rfl, _, _, rfl, rfl, hr'⟩ := hS
      cases hc : if_icmp.holds cd x y
      · simp only [hc, cond_false, Option.some.injEq, Prod.mk.injEq] at h; obtain ⟨rfl, rfl, rfl, rfl⟩ := h
        exact Behind.plain X hL rfl hr' hH hF hn fun target hr => XS.icmpNo X.here hx rfl (g := mkF m pc ls _) hd rfl hc hr
      · cases ht : tgt pc o with
        | none => simp [hc, ht] at h
        | some t =>
          simp only [hc, ht, cond_true, Option.some.injEq, Prod.mk.injEq] at h; obtain ⟨rfl, rfl, rfl, rfl⟩ := h
          exact Behind.plain X hL rfl hr' hH hF hn fun target hr => XS.icmpYes X.here hx rfl (g := mkF m pc ls _) (pc0 := pc) rfl hd rfl hc (tgt_spec ht).1 (tgt_spec ht).2 hr
    · cases h
  case tableswitch d lo hi offs =>
    simp only [step] at h
    split at h
    · rename_i x r
      obtain ⟨_, _, rfl, rfl, hr'⟩ := hS
      by_cases ho : x.toInt < lo ∨ x.toInt > hi
      · have ho' : (decide (x.toInt < lo) || decide (x.toInt > hi)) = true := by simpa using ho
        cases ht : tgt pc d with
        | none => simp [ho', ht] at h
        | some t =>
          simp only [ho', ht, cond_true, Option.some.injEq, Prod.mk.injEq] at h; obtain ⟨rfl, rfl, rfl, rfl⟩ := h
          exact Behind.plain X hL rfl hr' hH hF hn fun target hr => XS.tswOut X.here hx rfl (g := mkF m pc ls _) (pc0 := pc) rfl hd rfl ho (tgt_spec ht).1 (tgt_spec ht).2 hr
      · have ho' : (decide (x.toInt < lo) || decide (x.toInt > hi)) = false := by simpa using ho
        cases hq : offs.toList[(x.toInt - lo).toNat]? with
        | none => simp [ho', hq] at h
        | some o =>
          cases ht : tgt pc o with
          | none => simp [ho', hq, ht] at h
          | some t =>
            simp only [ho', hq, ht, cond_false, Option.some.injEq, Prod.mk.injEq] at h; obtain ⟨rfl, rfl, rfl, rfl⟩ := h
            exact Behind.plain X hL rfl hr' hH hF hn fun target hr => XS.tswIn X.here hx rfl (g := mkF m pc ls _) (pc0 := pc) rfl hd rfl ho (by rw [← Array.getElem?_toList]; exact hq) (tgt_spec ht).1 (tgt_spec ht).2 hr
    · cases h
  case getfield j =>
    simp only [step] at h
    obtain rfl := hlen.resolve_left (by simp [ilen])
    split at h
    · rename_i a r
      obtain ⟨_, _, rfl, ⟨b, hb, rfl⟩, hr'⟩ := hS
      cases hf : P.fld (P.cls k) j with
      | none => simp [hf] at h
      | some f =>
        cases hg : getC H a f with
        | none => simp [hf, hg] at h
        | some v =>
          simp only [hf, hg, Option.some.injEq, Prod.mk.injEq] at h; obtain ⟨rfl, rfl, rfl, rfl⟩ := h
          obtain ⟨n, d, t, fin, g1, g2⟩ := G2 _ _ _ hf
          unfold getC at hg
          split at hg
          · rename_i fs hfs
            obtain ⟨b', e1, e2, e3, e4⟩ := hH.2.2.2 _ _ hfs
            cases hb.symm.trans e1
            obtain ⟨w, e5, e6⟩ := e4 _ _ _ _ _ _ hg g1
            obtain ⟨T2, X2, e7, s2⟩ := getF X hx hZ hown (host := "") (Or.inl g2) Via.refl rfl e6 (g := mkF m pc ls _) rfl rfl hd
            exact Behind.plain' X2 e7 hL rfl ⟨w, _, rfl, e5, hr'⟩ hH hF hn s2
          · cases hg
    · cases h
  case putfield j =>
    simp only [step] at h
    obtain rfl := hlen.resolve_left (by simp [ilen])
    split at h
    · rename_i v a r
      obtain ⟨w0, _, rfl, hv0, _, _, rfl, ⟨b, hb, rfl⟩, hr'⟩ := hS
      cases hf : P.fld (P.cls k) j with
      | none => simp [hf] at h
      | some f =>
        obtain ⟨n, d, t, fin, g1, g2⟩ := G2 _ _ _ hf
        simp only [hf, g1] at h
        cases hq : (!fin || P.ini k) && Nat.ble P.ro a
        · simp [hq] at h
        · simp only [hq, cond_true] at h
          cases hv : conv t v with
          | none => simp [hv] at h
          | some v' =>
            simp only [hv] at h
            split at h
            · rename_i fs hfs
              cases hz : Nat.ble (f + 1) fs.length
              · simp [hz] at h
              · simp only [hz, cond_true, Option.some.injEq, Prod.mk.injEq] at h; obtain ⟨rfl, rfl, rfl, rfl⟩ := h
                obtain ⟨b', e1, e2, e3, e4⟩ := hH.2.2.2 _ _ hfs
                cases hb.symm.trans e1
                simp only [Bool.and_eq_true, Bool.or_eq_true, Bool.not_eq_true'] at hq
                have hro : P.ro ≤ a := Nat.le_of_ble_eq_true hq.2
                have hfl : f < fs.length := Nat.le_of_ble_eq_true hz
                obtain ⟨l1, ty, l2, l3, l4⟩ := G3 _ _ _ _ _ g1
                obtain ⟨w, hw, hnw, hfw⟩ : ∃ w, VR am v' w ∧ narrow ty w0 = w ∧ fits ty w = true := by
                  unfold conv at hv
                  split at hv
                  · cases hv; cases hv0; cases ty <;> simp only [tyOk, Bool.false_eq_true] at l3; exact ⟨_, rfl, rfl, rfl⟩
                  · cases hv; cases hv0; cases ty <;> simp only [tyOk, Bool.false_eq_true] at l3; exact ⟨_, rfl, rfl, fits_nar_bool _⟩
                  · cases hv; cases hv0; cases ty <;> simp only [tyOk, Bool.false_eq_true] at l3; exact ⟨_, rfl, rfl, rfl⟩
                  · cases hv; obtain ⟨z, hz1, rfl⟩ := hv0; cases ty <;> simp only [tyOk, Bool.false_eq_true] at l3; exact ⟨_, ⟨z, hz1, rfl⟩, rfl, rfl⟩
                  · cases hv
                obtain ⟨old, o1, o2⟩ := e4 f _ _ _ _ _ (List.getElem?_eq_getElem hfl) g1
                have hfin : (Cond.lays C C n d).before a0 Z = true ∨ ((Cond.laysFinal C C n d).before a0 Z = true ∧ cn (P.cls k) = C ∧ meth.name = "<init>") := by
                  cases fin
                  · exact Or.inl l1
                  · obtain ⟨q1, q2⟩ := hini (by simpa using hq.1); exact Or.inr ⟨l1, q2, q1⟩
                obtain ⟨T2, h2, X2, e7, W2, s2⟩ := putFN X hx hZ hown g2 Via.refl rfl o2 e2 hfin G6 l2 hnw hfw (g := mkF m pc ls _) rfl rfl hd
                refine Behind.write (T' := T2) X2 e7 W2 hL hr' hH hb hro hfs rfl ?_ hF hn s2
                refine ⟨e2.wr W2, by rw [List.length_set]; exact e3, fun j' u n' d' t' f' q1 q2 => ?_⟩
                rw [List.getElem?_set] at q1
                by_cases ej : f = j'
                · subst ej
                  rw [if_pos rfl, if_pos hfl] at q1
                  cases q1
                  rw [g1] at q2; cases q2
                  exact ⟨w, hw, o2.same W2⟩
                · rw [if_neg ej] at q1
                  obtain ⟨w', y1, y2⟩ := e4 _ _ _ _ _ _ q1 q2
                  obtain ⟨l1', ty', l2', -, -⟩ := G3 _ _ _ _ _ q2
                  have hl1 : Laid Z a0 C C n d := by cases fin; exact Or.inl l1; exact Or.inr l1
                  have hl2 : Laid Z a0 C C n' d' := by cases f'; exact Or.inl l1'; exact Or.inr l1'
                  exact ⟨w', y1, y2.other W2 (Or.inr (slot_ne hl2 hl1 (G4 _ _ _ _ _ _ _ _ _ _ q2 g1 (Ne.symm ej)) l2' l2))⟩
            · cases h
    · cases h
  case iaload =>
    simp only [step] at h
    obtain rfl := hlen.resolve_left (by simp [ilen])
    split at h
    · rename_i j a r
      obtain ⟨_, _, rfl, rfl, _, _, rfl, ⟨b, hb, rfl⟩, hr'⟩ := hS
      split at h
      · rename_i xs hxs
        cases hj : inb xs.length j
        · simp [hj] at h
        · simp only [hj, cond_true, Option.some.injEq, Prod.mk.injEq] at h; obtain ⟨rfl, rfl, rfl, rfl⟩ := h
          obtain ⟨b', e1, cl, A1, A2, A3⟩ := hH.2.2.2 _ _ hxs
          cases hb.symm.trans e1
          have hin := inb_spec hj
          rw [← A2] at hin
          exact Behind.plain X hL rfl ⟨_, _, rfl, rfl, hr'⟩ hH hF hn fun target hr => X.iaload hx A1.1 (State.isArrayOf_alike hZ.alike A1.2.1) A1.2.2 hin (A3 _ _ (rd_at hj)) (g := mkF m pc ls _) rfl rfl hd _ hr
      · rename_i xs hxs
        cases hj : inb xs.length j
        · simp [hj] at h
        · simp only [hj, cond_true, Option.some.injEq, Prod.mk.injEq] at h; obtain ⟨rfl, rfl, rfl, rfl⟩ := h
          obtain ⟨b', e1, cl, A1, A2, A3⟩ := hH.2.2.2 _ _ hxs
          cases hb.symm.trans e1
          have hin := inb_spec hj
          rw [← A2] at hin
          exact Behind.plain X hL rfl ⟨_, _, rfl, rfl, hr'⟩ hH hF hn fun target hr => X.iaload hx A1.1 (State.isArrayOf_alike hZ.alike A1.2.1) A1.2.2 hin (A3 _ _ (rd_at hj)) (g := mkF m pc ls _) rfl rfl hd _ hr
      · cases h
    · cases h
  case baload =>
    simp only [step] at h
    obtain rfl := hlen.resolve_left (by simp [ilen])
    split at h
    · rename_i j a r
      obtain ⟨_, _, rfl, rfl, _, _, rfl, ⟨b, hb, rfl⟩, hr'⟩ := hS
      split at h
      · rename_i xs hxs
        cases hj : inb xs.length j
        · simp [hj] at h
        · simp only [hj, cond_true, Option.some.injEq, Prod.mk.injEq] at h; obtain ⟨rfl, rfl, rfl, rfl⟩ := h
          obtain ⟨b', e1, cl, A1, A2, A3⟩ := hH.2.2.2 _ _ hxs
          cases hb.symm.trans e1
          have hin := inb_spec hj
          rw [← A2] at hin
          exact Behind.plain X hL rfl ⟨_, _, rfl, rfl, hr'⟩ hH hF hn fun target hr => X.baloadBooleans hx A1.1 (State.isArrayOf_alike hZ.alike A1.2.1) A1.2.2 hin (A3 _ _ (rd_at hj)) (g := mkF m pc ls _) rfl rfl hd _ hr
      · rename_i xs hxs
        cases hj : inb xs.length j
        · simp [hj] at h
        · simp only [hj, cond_true, Option.some.injEq, Prod.mk.injEq] at h; obtain ⟨rfl, rfl, rfl, rfl⟩ := h
          obtain ⟨b', e1, cl, A1, A2, A3⟩ := hH.2.2.2 _ _ hxs
          cases hb.symm.trans e1
          have hin := inb_spec hj
          rw [← A2] at hin
          exact Behind.plain X hL rfl ⟨_, _, rfl, rfl, hr'⟩ hH hF hn fun target hr => X.baloadBytes hx A1.1 (State.isArrayOf_alike hZ.alike A1.2.1) A1.2.2 hin (A3 _ _ (rd_at hj)) (g := mkF m pc ls _) rfl rfl hd _ hr
      · cases h
    · cases h
  case laload =>
    simp only [step] at h
    obtain rfl := hlen.resolve_left (by simp [ilen])
    split at h
    · rename_i j a r
      obtain ⟨_, _, rfl, rfl, _, _, rfl, ⟨b, hb, rfl⟩, hr'⟩ := hS
      split at h
      · rename_i xs hxs
        cases hj : inb xs.length j
        · simp [hj] at h
        · simp only [hj, cond_true, Option.some.injEq, Prod.mk.injEq] at h; obtain ⟨rfl, rfl, rfl, rfl⟩ := h
          obtain ⟨b', e1, cl, A1, A2, A3⟩ := hH.2.2.2 _ _ hxs
          cases hb.symm.trans e1
          have hin := inb_spec hj
          rw [← A2] at hin
          exact Behind.plain X hL rfl ⟨_, _, rfl, rfl, hr'⟩ hH hF hn fun target hr => X.laload hx A1.1 (State.isArrayOf_alike hZ.alike A1.2.1) A1.2.2 hin (A3 _ _ (rdL_at hj)) (g := mkF m pc ls _) rfl rfl hd _ hr
      · cases h
    · cases h
  case iastore =>
    simp only [step] at h
    obtain rfl := hlen.resolve_left (by simp [ilen])
    split at h
    · rename_i x j a r
      obtain ⟨_, _, rfl, rfl, _, _, rfl, rfl, _, _, rfl, ⟨b, hb, rfl⟩, hr'⟩ := hS
      cases hq : Nat.ble P.ro a
      · simp [hq] at h
      · simp only [hq, cond_true] at h
        have hro : P.ro ≤ a := Nat.le_of_ble_eq_true hq
        split at h
        · rename_i xs hxs
          cases hj : inb xs.length j
          · simp [hj] at h
          · simp only [hj, cond_true, Option.some.injEq, Prod.mk.injEq] at h; obtain ⟨rfl, rfl, rfl, rfl⟩ := h
            obtain ⟨b', e1, hcr⟩ := hH.2.2.2 _ _ hxs
            cases hb.symm.trans e1
            have hcr0 := hcr
            obtain ⟨cl, A1, A2, A3⟩ := hcr0
            have hin := inb_spec hj
            rw [← A2] at hin
            obtain ⟨T2, h2, X2, e7, W2, s2⟩ := stI X hx hZ rfl A1 hin (g := mkF m pc ls _) rfl rfl hd
            exact Behind.write (T' := T2) X2 e7 W2 hL hr' hH hb hro hxs (by simp [csz, wr, wrL]) (CR.wrI W2 hcr) hF hn s2
        · cases h
    · cases h
  case bastore =>
    simp only [step] at h
    obtain rfl := hlen.resolve_left (by simp [ilen])
    split at h
    · rename_i x j a r
      obtain ⟨_, _, rfl, rfl, _, _, rfl, rfl, _, _, rfl, ⟨b, hb, rfl⟩, hr'⟩ := hS
      cases hq : Nat.ble P.ro a
      · simp [hq] at h
      · simp only [hq, cond_true] at h
        have hro : P.ro ≤ a := Nat.le_of_ble_eq_true hq
        split at h
        · rename_i xs hxs
          cases hj : inb xs.length j
          · simp [hj] at h
          · simp only [hj, cond_true, Option.some.injEq, Prod.mk.injEq] at h; obtain ⟨rfl, rfl, rfl, rfl⟩ := h
            obtain ⟨b', e1, hcr⟩ := hH.2.2.2 _ _ hxs
            cases hb.symm.trans e1
            have hcr0 := hcr
            obtain ⟨cl, A1, A2, A3⟩ := hcr0
            have hin := inb_spec hj
            rw [← A2] at hin
            obtain ⟨T2, h2, X2, e7, W2, s2⟩ := stZ X hx hZ rfl A1 hin (g := mkF m pc ls _) rfl rfl hd
            exact Behind.write (T' := T2) X2 e7 W2 hL hr' hH hb hro hxs (by simp [csz, wr, wrL]) (CR.wrI W2 hcr) hF hn s2
        · rename_i xs hxs
          cases hj : inb xs.length j
          · simp [hj] at h
          · simp only [hj, cond_true, Option.some.injEq, Prod.mk.injEq] at h; obtain ⟨rfl, rfl, rfl, rfl⟩ := h
            obtain ⟨b', e1, hcr⟩ := hH.2.2.2 _ _ hxs
            cases hb.symm.trans e1
            have hcr0 := hcr
            obtain ⟨cl, A1, A2, A3⟩ := hcr0
            have hin := inb_spec hj
            rw [← A2] at hin
            obtain ⟨T2, h2, X2, e7, W2, s2⟩ := stB X hx hZ rfl A1 hin (g := mkF m pc ls _) rfl rfl hd
            exact Behind.write (T' := T2) X2 e7 W2 hL hr' hH hb hro hxs (by simp [csz, wr, wrL]) (CR.wrI W2 hcr) hF hn s2
        · cases h
    · cases h
  case lastore =>
    simp only [step] at h
    obtain rfl := hlen.resolve_left (by simp [ilen])
    split at h
    · rename_i x j a r
      obtain ⟨_, _, rfl, rfl, _, _, rfl, rfl, _, _, rfl, ⟨b, hb, rfl⟩, hr'⟩ := hS
      cases hq : Nat.ble P.ro a
      · simp [hq] at h
      · simp only [hq, cond_true] at h
        have hro : P.ro ≤ a := Nat.le_of_ble_eq_true hq
        split at h
        · rename_i xs hxs
          cases hj : inb xs.length j
          · simp [hj] at h
          · simp only [hj, cond_true, Option.some.injEq, Prod.mk.injEq] at h; obtain ⟨rfl, rfl, rfl, rfl⟩ := h
            obtain ⟨b', e1, hcr⟩ := hH.2.2.2 _ _ hxs
            cases hb.symm.trans e1
            have hcr0 := hcr
            obtain ⟨cl, A1, A2, A3⟩ := hcr0
            have hin := inb_spec hj
            rw [← A2] at hin
            obtain ⟨T2, h2, X2, e7, W2, s2⟩ := stJ X hx hZ rfl A1 hin (g := mkF m pc ls _) rfl rfl hd
            exact Behind.write (T' := T2) X2 e7 W2 hL hr' hH hb hro hxs (by simp [csz, wr, wrL]) (CR.wrJ W2 hcr) hF hn s2
        · cases h
    · cases h
  case arraylength =>
    simp only [step] at h
    obtain rfl := hlen.resolve_left (by simp [ilen])
    split at h
    · rename_i a r
      obtain ⟨_, _, rfl, ⟨b, hb, rfl⟩, hr'⟩ := hS
      split at h
      · rename_i t xs hxs
        simp only [Option.some.injEq, Prod.mk.injEq] at h; obtain ⟨rfl, rfl, rfl, rfl⟩ := h
        obtain ⟨b', e1, cl, A1, A2, A3⟩ := hH.2.2.2 _ _ hxs
        cases hb.symm.trans e1
        exact Behind.plain X hL rfl ⟨_, _, rfl, rfl, hr'⟩ hH hF hn fun target hr => X.arraylength hx A1.1 (State.isArrayOf_alike hZ.alike A1.2.1) (g := mkF m pc ls _) rfl rfl hd _ (by rw [A2]; exact hr)
      · rename_i xs hxs
        simp only [Option.some.injEq, Prod.mk.injEq] at h; obtain ⟨rfl, rfl, rfl, rfl⟩ := h
        obtain ⟨b', e1, cl, A1, A2, A3⟩ := hH.2.2.2 _ _ hxs
        cases hb.symm.trans e1
        exact Behind.plain X hL rfl ⟨_, _, rfl, rfl, hr'⟩ hH hF hn fun target hr => X.arraylength hx A1.1 (State.isArrayOf_alike hZ.alike A1.2.1) (g := mkF m pc ls _) rfl rfl hd _ (by rw [A2]; exact hr)
      · cases h
    · cases h
  case newarray t =>
    simp only [step] at h
    obtain rfl := hlen.resolve_left (by simp [ilen])
    split at h
    · rename_i n r
      obtain ⟨_, _, rfl, rfl, hr'⟩ := hS
      cases ht : atyOf t with
      | none => simp [ht] at h
      | some q =>
        simp only [ht] at h
        cases hq : (!(decide (n < 0)) && Nat.ble n.toNatClampNeg 60000 && Nat.ble (H.length + 1) P.capC && Nat.ble (hsz P H + n.toNatClampNeg) P.capS)
        · simp [hq] at h
        · simp only [hq, cond_true, Option.some.injEq, Prod.mk.injEq] at h; obtain ⟨rfl, rfl, rfl, rfl⟩ := h
          simp only [Bool.and_eq_true, Bool.not_eq_true', decide_eq_false_iff_not] at hq
          have hcap : n.toNatClampNeg ≤ 60000 := Nat.le_of_ble_eq_true hq.1.1.2
          have hq1 := hq.1.1.1
          have d1 : (H ++ [newC q n.toNatClampNeg]).length - H.length = 1 := by simp
          have d2 : hsz P (H ++ [newC q n.toNatClampNeg]) - hsz P H = n.toNatClampNeg := by rw [hsz_app, csz_new _ _ ht]; omega
          rw [d1] at hcells ⊢; rw [d2] at hslots ⊢
          obtain ⟨T2, h2, cA, X2, e7, E2, A2, s2⟩ := newP X hx hZ (G8 _ _ _ _ hcode) rfl (g := mkF m pc ls _) rfl hd rfl hq1 (cap := n.toNatClampNeg) (Nat.le_refl _) (by omega) hcells hslots
          have hlt : T.heap.size < h2.size := A2.lt
          have hm' := hH.1
          refine ⟨T2, am ++ [T.heap.size], ls, _, locs, X2, hL.mono (Pre.app _ _), rfl, ⟨_, _, rfl, ⟨T.heap.size, by rw [← hm']; simp, rfl⟩, hr'.mono (Pre.app _ _)⟩, by rw [e7]; exact hH.push E2 hlt hn (arr_new ht hq1 A2), Pre.app _ _, hF, by rw [e7]; omega, s2⟩
    · cases h
  case new j =>
    simp only [step] at h
    obtain rfl := hlen.resolve_left (by simp [ilen])
    split at h
    · rename_i q hk
      rw [Bool.cond_eq_ite] at h
      split at h
      case isFalse => cases h
      simp only [Option.some.injEq, Prod.mk.injEq] at h; obtain ⟨rfl, rfl, rfl, rfl⟩ := h
      have w := G9 _ _ _ _ hk
      have d1 : (H ++ [Sum.inl P.fresh]).length - H.length = 1 := by simp
      have d2 : hsz P (H ++ [Sum.inl P.fresh]) - hsz P H = P.objN := by rw [hsz_app]; simp [csz]
      rw [d1] at hcells ⊢; rw [d2] at hslots ⊢
      obtain ⟨T2, h2, X2, e7, E2, A2, D2, -, s2⟩ := newO X hx hZ hown w G6 G7 rfl (g := mkF m pc ls st) rfl hd hcells hslots
      have hlt : T.heap.size < h2.size := A2.lt
      have hm' := hH.1
      refine ⟨T2, am ++ [T.heap.size], ls, _, locs, X2, hL.mono (Pre.app _ _), rfl, ⟨_, _, rfl, ⟨T.heap.size, by rw [← hm']; simp, rfl⟩, hS.mono (Pre.app _ _)⟩, ?_, Pre.app _ _, hF, by rw [e7]; omega, s2⟩
      rw [e7]
      refine hH.push E2 hlt hn ⟨A2, by simp [Prog.fresh], fun j' v n d t f q1 q2 => ?_⟩
      obtain ⟨l1, ty, l2, l3, l4⟩ := G3 _ _ _ _ _ q2
      have hl1 : Laid Z a0 C C n d := by cases f; exact Or.inl l1; exact Or.inr l1
      have hv : v = dflt t := by rw [Prog.fresh, List.getElem?_map, q2] at q1; simpa using q1.symm
      subst hv
      refine ⟨defaultValue ty, ?_, D2 hl1 l2⟩
      rw [l4]; unfold dflt; split <;> rfl
    · cases h
  case invokespecial j =>
    simp only [step] at h
    obtain rfl := hlen.resolve_left (by simp [ilen])
    split at h
    · rename_i a r
      obtain ⟨_, _, rfl, ⟨b, hb, rfl⟩, hr'⟩ := hS
      cases hq : isObjInit P k j && Nat.ble 1 (P.rf k) && Nat.ble (cats r + 12) (P.rl k)
      · simp [hq] at h
      · simp only [hq, cond_true, Option.some.injEq, Prod.mk.injEq] at h; obtain ⟨rfl, rfl, rfl, rfl⟩ := h
        simp only [Bool.and_eq_true] at hq
        have h1 : 1 ≤ P.rf k := Nat.le_of_ble_eq_true hq.1.2
        have h2 : cats r + 12 ≤ P.rl k := Nat.le_of_ble_eq_true hq.2
        have h3 := hq.1.1
        unfold isObjInit at h3
        split at h3
        · rename_i kk hk
          obtain ⟨w1, w2, w3⟩ := G9 _ _ _ _ hk
          obtain ⟨T2, X2, e7, s2⟩ := initO X hx hZ hown w1 w2 w3 rfl (g := mkF m pc ls _) rfl (by rw [hml]; exact hlz) rfl hd (by omega) (W := cats r) (by rw [hr'.cats]; show 2 * 0 + _ ≤ _; omega) (by omega)
          exact Behind.plain' X2 e7 hL rfl hr' hH hF hn s2
        · cases h3
    · cases h
  case iadd =>
    simp only [step] at h
    obtain rfl := hlen.resolve_left (by simp [ilen])
    split at h
    · rename_i y x r
      simp only [aop, Option.some.injEq, Prod.mk.injEq] at h; obtain ⟨rfl, rfl, rfl, rfl⟩ := h
      obtain ⟨_, _, rfl, rfl, _, _, rfl, rfl, hr'⟩ := hS
      exact Behind.plain X hL rfl ⟨_, _, rfl, rfl, hr'⟩ hH hF hn fun target hr => XS.iadd X.here hx rfl (g := mkF m pc ls _) hd rfl hr
    · simp [lop] at h
    · cases h
  case isub =>
    simp only [step] at h
    obtain rfl := hlen.resolve_left (by simp [ilen])
    split at h
    · rename_i y x r
      simp only [aop, Option.some.injEq, Prod.mk.injEq] at h; obtain ⟨rfl, rfl, rfl, rfl⟩ := h
      obtain ⟨_, _, rfl, rfl, _, _, rfl, rfl, hr'⟩ := hS
      exact Behind.plain X hL rfl ⟨_, _, rfl, rfl, hr'⟩ hH hF hn fun target hr => XS.isub X.here hx rfl (g := mkF m pc ls _) hd rfl hr
    · simp [lop] at h
    · cases h
  case imul =>
    simp only [step] at h
    obtain rfl := hlen.resolve_left (by simp [ilen])
    split at h
    · rename_i y x r
      simp only [aop, Option.some.injEq, Prod.mk.injEq] at h; obtain ⟨rfl, rfl, rfl, rfl⟩ := h
      obtain ⟨_, _, rfl, rfl, _, _, rfl, rfl, hr'⟩ := hS
      exact Behind.plain X hL rfl ⟨_, _, rfl, rfl, hr'⟩ hH hF hn fun target hr => XS.imul X.here hx rfl (g := mkF m pc ls _) hd rfl hr
    · simp [lop] at h
    · cases h
  case iand =>
    simp only [step] at h
    obtain rfl := hlen.resolve_left (by simp [ilen])
    split at h
    · rename_i y x r
      simp only [aop, Option.some.injEq, Prod.mk.injEq] at h; obtain ⟨rfl, rfl, rfl, rfl⟩ := h
      obtain ⟨_, _, rfl, rfl, _, _, rfl, rfl, hr'⟩ := hS
      exact Behind.plain X hL rfl ⟨_, _, rfl, rfl, hr'⟩ hH hF hn fun target hr => XS.iand X.here hx rfl (g := mkF m pc ls _) hd rfl hr
    · simp [lop] at h
    · cases h
  case ior =>
    simp only [step] at h
    obtain rfl := hlen.resolve_left (by simp [ilen])
    split at h
    · rename_i y x r
      simp only [aop, Option.some.injEq, Prod.mk.injEq] at h; obtain ⟨rfl, rfl, rfl, rfl⟩ := h
      obtain ⟨_, _, rfl, rfl, _, _, rfl, rfl, hr'⟩ := hS
      exact Behind.plain X hL rfl ⟨_, _, rfl, rfl, hr'⟩ hH hF hn fun target hr => XS.ior X.here hx rfl (g := mkF m pc ls _) hd rfl hr
    · simp [lop] at h
    · cases h
  case ixor =>
    simp only [step] at h
    obtain rfl := hlen.resolve_left (by simp [ilen])
    split at h
    · rename_i y x r
      simp only [aop, Option.some.injEq, Prod.mk.injEq] at h; obtain ⟨rfl, rfl, rfl, rfl⟩ := h
      obtain ⟨_, _, rfl, rfl, _, _, rfl, rfl, hr'⟩ := hS
      exact Behind.plain X hL rfl ⟨_, _, rfl, rfl, hr'⟩ hH hF hn fun target hr => XS.ixor X.here hx rfl (g := mkF m pc ls _) hd rfl hr
    · simp [lop] at h
    · cases h
  case ishl =>
    simp only [step] at h
    obtain rfl := hlen.resolve_left (by simp [ilen])
    split at h
    · rename_i y x r
      simp only [aop, Option.some.injEq, Prod.mk.injEq] at h; obtain ⟨rfl, rfl, rfl, rfl⟩ := h
      obtain ⟨_, _, rfl, rfl, _, _, rfl, rfl, hr'⟩ := hS
      exact Behind.plain X hL rfl ⟨_, _, rfl, rfl, hr'⟩ hH hF hn fun target hr => XS.ishl X.here hx rfl (g := mkF m pc ls _) hd rfl hr
    · simp [lop] at h
    · cases h
  case ishr =>
    simp only [step] at h
    obtain rfl := hlen.resolve_left (by simp [ilen])
    split at h
    · rename_i y x r
      simp only [aop, Option.some.injEq, Prod.mk.injEq] at h; obtain ⟨rfl, rfl, rfl, rfl⟩ := h
      obtain ⟨_, _, rfl, rfl, _, _, rfl, rfl, hr'⟩ := hS
      exact Behind.plain X hL rfl ⟨_, _, rfl, rfl, hr'⟩ hH hF hn fun target hr => XS.ishr X.here hx rfl (g := mkF m pc ls _) hd rfl hr
    · simp [lop] at h
    · cases h
  case iushr =>
    simp only [step] at h
    obtain rfl := hlen.resolve_left (by simp [ilen])
    split at h
    · rename_i y x r
      simp only [aop, Option.some.injEq, Prod.mk.injEq] at h; obtain ⟨rfl, rfl, rfl, rfl⟩ := h
      obtain ⟨_, _, rfl, rfl, _, _, rfl, rfl, hr'⟩ := hS
      exact Behind.plain X hL rfl ⟨_, _, rfl, rfl, hr'⟩ hH hF hn fun target hr => XS.iushr X.here hx rfl (g := mkF m pc ls _) hd rfl hr
    · simp [lop] at h
    · cases h
  case ladd =>
    simp only [step] at h
    obtain rfl := hlen.resolve_left (by simp [ilen])
    split at h
    · simp [aop] at h
    · rename_i y x r
      simp only [lop, Option.some.injEq, Prod.mk.injEq] at h; obtain ⟨rfl, rfl, rfl, rfl⟩ := h
      obtain ⟨_, _, rfl, rfl, _, _, rfl, rfl, hr'⟩ := hS
      exact Behind.plain X hL rfl ⟨_, _, rfl, rfl, hr'⟩ hH hF hn fun target hr => XS.ladd X.here hx rfl (g := mkF m pc ls _) hd rfl hr
    · cases h
  case lsub =>
    simp only [step] at h
    obtain rfl := hlen.resolve_left (by simp [ilen])
    split at h
    · simp [aop] at h
    · rename_i y x r
      simp only [lop, Option.some.injEq, Prod.mk.injEq] at h; obtain ⟨rfl, rfl, rfl, rfl⟩ := h
      obtain ⟨_, _, rfl, rfl, _, _, rfl, rfl, hr'⟩ := hS
      exact Behind.plain X hL rfl ⟨_, _, rfl, rfl, hr'⟩ hH hF hn fun target hr => XS.lsub X.here hx rfl (g := mkF m pc ls _) hd rfl hr
    · cases h
  case lmul =>
    simp only [step] at h
    obtain rfl := hlen.resolve_left (by simp [ilen])
    split at h
    · simp [aop] at h
    · rename_i y x r
      simp only [lop, Option.some.injEq, Prod.mk.injEq] at h; obtain ⟨rfl, rfl, rfl, rfl⟩ := h
      obtain ⟨_, _, rfl, rfl, _, _, rfl, rfl, hr'⟩ := hS
      exact Behind.plain X hL rfl ⟨_, _, rfl, rfl, hr'⟩ hH hF hn fun target hr => XS.lmul X.here hx rfl (g := mkF m pc ls _) hd rfl hr
    · cases h
  case land =>
    simp only [step] at h
    obtain rfl := hlen.resolve_left (by simp [ilen])
    split at h
    · simp [aop] at h
    · rename_i y x r
      simp only [lop, Option.some.injEq, Prod.mk.injEq] at h; obtain ⟨rfl, rfl, rfl, rfl⟩ := h
      obtain ⟨_, _, rfl, rfl, _, _, rfl, rfl, hr'⟩ := hS
      exact Behind.plain X hL rfl ⟨_, _, rfl, rfl, hr'⟩ hH hF hn fun target hr => XS.land X.here hx rfl (g := mkF m pc ls _) hd rfl hr
    · cases h
  case lor =>
    simp only [step] at h
    obtain rfl := hlen.resolve_left (by simp [ilen])
    split at h
    · simp [aop] at h
    · rename_i y x r
      simp only [lop, Option.some.injEq, Prod.mk.injEq] at h; obtain ⟨rfl, rfl, rfl, rfl⟩ := h
      obtain ⟨_, _, rfl, rfl, _, _, rfl, rfl, hr'⟩ := hS
      exact Behind.plain X hL rfl ⟨_, _, rfl, rfl, hr'⟩ hH hF hn fun target hr => XS.lor X.here hx rfl (g := mkF m pc ls _) hd rfl hr
    · cases h
  case lxor =>
    simp only [step] at h
    obtain rfl := hlen.resolve_left (by simp [ilen])
    split at h
    · simp [aop] at h
    · rename_i y x r
      simp only [lop, Option.some.injEq, Prod.mk.injEq] at h; obtain ⟨rfl, rfl, rfl, rfl⟩ := h
      obtain ⟨_, _, rfl, rfl, _, _, rfl, rfl, hr'⟩ := hS
      exact Behind.plain X hL rfl ⟨_, _, rfl, rfl, hr'⟩ hH hF hn fun target hr => XS.lxor X.here hx rfl (g := mkF m pc ls _) hd rfl hr
    · cases h
  all_goals (exfalso; simp only [step] at h; split at h <;> simp [aop, lop] at h)
end Sound
end Jvm.OwnX
namespace Jvm.OwnX
open Sem ClassFile Op Lib Jvm.Stand Jvm.Free Jvm.LawKit Jvm.RoadKit
set_option maxHeartbeats 4000000 in
theorem step_grow {P : Prog} {k pc np pc' : Nat} {i : Instr} {L L' : ALoc} {S S' : List Value} {H H' : AHeap} (h : step P k i np pc L S H = some (pc', L', S', H')) : H.length ≤ H'.length ∧ hsz P H ≤ hsz P H' := by
  cases i <;> simp only [step, Bool.cond_eq_ite] at h
  all_goals (repeat' (split at h))
  all_goals first
    | (cases h; done)
    | (simp only [Option.some.injEq, Prod.mk.injEq] at h; obtain ⟨-, -, -, rfl⟩ := h; exact ⟨Nat.le_refl _, Nat.le_refl _⟩)
    | (simp only [Option.some.injEq, Prod.mk.injEq] at h; obtain ⟨-, -, -, rfl⟩ := h; exact ⟨by simp, by rw [hsz_app]; omega⟩)
    | (simp only [Option.some.injEq, Prod.mk.injEq] at h; obtain ⟨-, -, -, rfl⟩ := h; exact ⟨by simp, Nat.le_of_eq (hsz_set P _ _ _ _ (by assumption) (by simp [csz, wr, wrL])).symm⟩)
set_option maxHeartbeats 4000000 in
theorem step_cap {P : Prog} {k pc np pc' : Nat} {i : Instr} {L L' : ALoc} {S S' : List Value} {H H' : AHeap} (h : step P k i np pc L S H = some (pc', L', S', H')) : (H'.length ≤ H.length ∨ H'.length ≤ P.capC) ∧ (hsz P H' ≤ hsz P H ∨ hsz P H' ≤ P.capS) := by
  cases i <;> simp only [step, Bool.cond_eq_ite] at h
  case newarray t =>
    split at h
    · split at h
      · rename_i q ht
        split at h
        · rename_i hq
          simp only [Option.some.injEq, Prod.mk.injEq] at h; obtain ⟨-, -, -, rfl⟩ := h
          simp only [Bool.and_eq_true] at hq
          have h1 := Nat.le_of_ble_eq_true hq.1.2
          have h2 := Nat.le_of_ble_eq_true hq.2
          exact ⟨Or.inr (by simpa using h1), Or.inr (by rw [hsz_app, csz_new _ _ ht]; exact h2)⟩
        · cases h
      · cases h
    · cases h
  case new j =>
    split at h
    · split at h
      · rename_i hq
        simp only [Option.some.injEq, Prod.mk.injEq] at h; obtain ⟨-, -, -, rfl⟩ := h
        simp only [Bool.and_eq_true] at hq
        have h1 := Nat.le_of_ble_eq_true hq.1
        have h2 := Nat.le_of_ble_eq_true hq.2
        exact ⟨Or.inr (by simpa using h1), Or.inr (by rw [hsz_app]; exact h2)⟩
      · cases h
    · cases h
  all_goals (repeat' (split at h))
  all_goals first
    | (cases h; done)
    | (simp only [Option.some.injEq, Prod.mk.injEq] at h; obtain ⟨-, -, -, rfl⟩ := h; exact ⟨Or.inl (Nat.le_refl _), Or.inl (Nat.le_refl _)⟩)
    | (simp only [Option.some.injEq, Prod.mk.injEq] at h; obtain ⟨-, -, -, rfl⟩ := h; exact ⟨Or.inl (by simp), Or.inl (Nat.le_of_eq (hsz_set P _ _ _ _ (by assumption) (by simp [csz, wr, wrL])))⟩)
theorem run_cap {P : Prog} : ∀ {n k pc : Nat} {L : ALoc} {S : List Value} {H : AHeap} {v : Option Value} {H' : AHeap}, run P n k pc L S H = some (v, H') → (H'.length ≤ H.length ∨ H'.length ≤ P.capC) ∧ (hsz P H' ≤ hsz P H ∨ hsz P H' ≤ P.capS)
  | 0, k, pc, L, S, H, v, H', h => by simp [run] at h
  | n + 1, k, pc, L, S, H, v, H', h => by
    rw [run] at h
    split at h
    · cases h
    · split at h
      · cases h; exact ⟨Or.inl (Nat.le_refl _), Or.inl (Nat.le_refl _)⟩
      · split at h
        · split at h
          · rename_i h1
            have g1 := run_cap h1
            have g2 := run_cap h
            omega
          · cases h
        · split at h
          · rename_i h1
            have g1 := step_cap h1
            have g2 := run_cap h
            omega
          · cases h
theorem run_grow {P : Prog} : ∀ {n k pc : Nat} {L : ALoc} {S : List Value} {H : AHeap} {v : Option Value} {H' : AHeap}, run P n k pc L S H = some (v, H') → H.length ≤ H'.length ∧ hsz P H ≤ hsz P H'
  | 0, k, pc, L, S, H, v, H', h => by simp [run] at h
  | n + 1, k, pc, L, S, H, v, H', h => by
    rw [run] at h
    split at h
    · cases h
    · split at h
      · cases h; exact ⟨Nat.le_refl _, Nat.le_refl _⟩
      · split at h
        · split at h
          · rename_i h1
            have g1 := run_grow h1
            have g2 := run_grow h
            omega
          · cases h
        · split at h
          · rename_i h1
            have g1 := step_grow h1
            have g2 := run_grow h
            omega
          · cases h
def OVR (am : List Addr) (v w : Option Value) : Prop := match v with
  | none => w = none
  | some x => ∃ y, w = some y ∧ VR am x y
theorem callV_spec {P : Prog} {k k' : Nat} {i : Instr} {S as rest : List Value} {H : AHeap} (h : callV P k i S H = some (k', as, rest)) :
    ∃ j q, poolOf i = some j ∧ P.link (P.cls k) j = some (q, k') ∧ kindOk i q = true ∧ S = as.reverse ++ rest ∧ as.length = P.pops k' ∧ P.rf k' + 1 ≤ P.rf k ∧ cats rest + (P.maxL k' + 11) + P.rl k' ≤ P.rl k ∧ recvOk P H q as = true ∧ (entL as).length ≤ P.maxL k' := by
  unfold callV at h
  split at h
  · cases h
  · rename_i j hj
    split at h
    · cases h
    · rename_i q k'' hk
      rw [Bool.cond_eq_ite] at h
      split at h
      · rename_i hc
        simp only [Option.some.injEq, Prod.mk.injEq] at h
        obtain ⟨rfl, rfl, rfl⟩ := h
        simp only [Bool.and_eq_true] at hc
        obtain ⟨⟨⟨⟨⟨c1, c2⟩, c3⟩, c4⟩, c5⟩, c6⟩ := hc
        have c2' := Nat.le_of_ble_eq_true c2
        exact ⟨j, q, hj, hk, c1, by rw [List.reverse_reverse, List.take_append_drop], by simp [c2'], Nat.le_of_ble_eq_true c3, Nat.le_of_ble_eq_true c4, c5, Nat.le_of_ble_eq_true c6⟩
      · cases h
theorem linkOk_call {P : Prog} {nm : Nat → MethodName} {bc : Nat → ByteArray} {cn : Nat → String} {C : String} {Z : State} {a0 : Array Value} {c j q k : Nat} (h4 : q ≠ 4) (h5 : q ≠ 5) (h : LinkOk P nm bc cn C Z a0 c j q k) : CallOk P nm bc cn C Z a0 c j q k := by
  unfold LinkOk at h
  split at h
  · exact absurd rfl h4
  · exact absurd rfl h5
  · exact h
theorem recv_spec {P : Prog} {H : AHeap} {q : Nat} {as : List Value} (h0 : q ≠ 0) (h : recvOk P H q as = true) : ∃ a r fs, as = .ref a :: r ∧ H[a]? = some (.inl fs) := by
  unfold recvOk at h
  split at h
  · exact absurd rfl h0
  · split at h
    · split at h
      · rename_i fs hfs
        exact ⟨_, _, fs, rfl, hfs⟩
      · cases h
    · cases h
theorem retV_spec {P : Prog} {k : Nat} {i : Instr} {S : List Value} {v : Option Value} (h : retV P k i S = some v) :
    (i = .return_ ∧ S = [] ∧ P.ret k = none ∧ v = none) ∨ (∃ x r, i = .ireturn ∧ S = .int x :: r ∧ P.ret k = some .int ∧ v = some (.int x)) ∨ (∃ x r, i = .ireturn ∧ S = .int x :: r ∧ P.ret k = some .boolean ∧ v = some (.int (x &&& 1))) ∨ (∃ x r, i = .lreturn ∧ S = .long x :: r ∧ P.ret k = some .long ∧ v = some (.long x)) := by
  unfold retV at h
  split at h
  · split at h
    · rename_i hr; cases h; exact Or.inl ⟨rfl, rfl, hr, rfl⟩
    · cases h
  · split at h
    · split at h
      · rename_i hr; cases h; exact Or.inr (Or.inl ⟨_, _, rfl, rfl, hr, rfl⟩)
      · rename_i hr; cases h; exact Or.inr (Or.inr (Or.inl ⟨_, _, rfl, rfl, hr, rfl⟩))
      · cases h
    · cases h
  · split at h
    · split at h
      · rename_i hr; cases h; exact Or.inr (Or.inr (Or.inr ⟨_, _, rfl, rfl, hr, rfl⟩))
      · cases h
    · cases h
  · cases h
/-- what a callee's contract says behind it -/
def QC (P : Prog) (C : String) (Z : State) (n0 : Nat) (am : List Addr) (v : Option Value) (H1 : AHeap) (w : Option Value) (h' : Heap) (Lc : List Loc) : Prop := Fr n0 Lc ∧ n0 ≤ h'.size ∧ ∃ am', Pre am am' ∧ HR P C Z n0 am' H1 h' ∧ OVR am' v w
/-- the frame's theorem, for one amount of fuel -/
def SoundAt (P : Prog) (nm : Nat → MethodName) (bc : Nat → ByteArray) (cn : Nat → String) (C : String) (Z : State) (n : Nat) : Prop :=
  ∀ (k pc : Nat) (L : ALoc) (S : List Value) (H : AHeap) (v : Option Value) (H' : AHeap), run P n k pc L S H = some (v, H') →
  ∀ {p : Program} {l : Launch} {e : Env} {R : Room} {s : State} {m : MethodId} {args : Array Value} {below : List Frame} {meth : Method} {c : Code} {T : State} {locs : List Loc} {cells slots n0 : Nat} {am : List Addr} {ls : Array Slot} {st : List Value},
    Stand p l e R s m args below meth c T locs cells slots → p.tables.exec = Jvm.exec → Z.Warmed39 s.vm → c.code = bc k → c.maxLocals = P.maxL k → meth.sig.returnType = P.ret k → s.vm.findClass (cn (P.cls k)) = some m.cls → (P.ini k = true → meth.name = "<init>" ∧ cn (P.cls k) = C) →
    P.rf k ≤ R.frames → P.rl k ≤ R.locals → cells + (H'.length - H.length) ≤ R.cells → slots + (hsz P H' - hsz P H) ≤ R.slots → ls.size = P.maxL k → LR am L ls → SR am S st → HR P C Z n0 am H T.heap → Fr n0 locs → n0 ≤ T.heap.size →
    ∃ T' am' locs' w, Stand p l e R s m args below meth c T' locs' (cells + (H'.length - H.length)) (slots + (hsz P H' - hsz P H)) ∧ HR P C Z n0 am' H' T'.heap ∧ Pre am am' ∧ Fr n0 locs' ∧ OVR am' v w ∧ n0 ≤ T'.heap.size ∧ (P.ret k = none → w = none) ∧
      ∀ fs, (∀ (f : JFrame) (acts : List Action), f.method = m → f.locked = none → f.entered = [] → (doReturn e (T'.setTop f) acts w).1 = T'.setFrames fs) → Steps p.tables e below (T.setTop (mkF m pc ls st)) (T'.setFrames fs)
section Met
variable {P : Prog} {nm : Nat → MethodName} {bc : Nat → ByteArray} {cn : Nat → String} {C : String} {Z : State} {a0 : Array Value}
theorem metOf {n k : Nat} {as : List Value} {H H1 : AHeap} {v : Option Value} (IH : SoundAt P nm bc cn C Z n) (hrun : run P n k 0 (entry P k as) [] H = some (v, H1)) {l : Launch} {wsC : List Cond} {rm : Room} (hpl : plainName (nm k).cls = true) (hcls : (nm k).cls = cn (P.cls k)) (hini : P.ini k = true → (nm k).name = "<init>" ∧ (nm k).cls = C)
    (hrf : P.rf k ≤ rm.frames) (hrl : P.rl k ≤ rm.locals) (hrc : H1.length - H.length ≤ rm.cells) (hrs : hsz P H1 - hsz P H ≤ rm.slots) {am : List Addr} {ws : List Value} {h : Heap} {n0 : Nat} (hS : SR am as ws) (hE : (entL as).length ≤ P.maxL k) (hH : HR P C Z n0 am H h) (hn : n0 ≤ h.size) :
    MetFree l (nm k) (head1 (Cond.code (nm k) (bc k) (P.maxL k) (P.ret k) :: wsC) rm) (fun a U => a = ws.toArray ∧ Z.Warmed39 U.vm ∧ U.heap = h) (fun _ _ _ _ _ => True)
      (fun _ U o U' => ∃ w Lc, o = .returned w ∧ QC P C Z n0 am v H1 w U'.heap Lc ∧ FrameEnd U o U' Lc (H1.length - H.length) (hsz P H1 - hsz P H)) := by
  refine MetFree.of_bodySF (plainFor_of_name hpl) hisR ?_
  intro p e s m args below meth c s₁ Bd hml0 hP hK
  obtain ⟨rfl, hZ, hh⟩ := hP
  have hown : s.vm.findClass (nm k).cls = some m.cls := findClass_of_methodNamed Bd.named
  have hnm := (name_of_methodNamed Bd.named Bd.method).1
  have X0 : Stand p l e rm s m ws.toArray below meth c s₁ [] 0 0 := Stand.of_body Bd
  have e0 : s₁.heap = h := by rw [← hh, Bd.state]; rfl
  have hsl := (slotsL_ok hS).1
  obtain ⟨T', am', locs', w, X', h1, h2, h3, h4, h5, h6, h7⟩ := IH k 0 _ _ _ _ _ hrun X0 Bd.exec hZ Bd.bytes hml0 Bd.returns (by rw [← hcls]; exact hown) (fun q => ⟨by rw [hnm]; exact (hini q).1, by rw [← hcls]; exact (hini q).2⟩) hrf hrl (by omega) (by omega) (entry_size (ws := ws) (n := P.maxL k) (by omega)) (LR.entry hS hE) (st := []) rfl (by rw [e0]; exact hH) (Fr.nil n0) (by rw [e0]; exact hn)
  obtain ⟨fs, hr, hrun', hended, hW, hsame⟩ := X'.leave (v := w) (fun q => h6 (by rw [← Bd.returns]; exact q))
  exact ⟨_, _, h7 fs hr, hrun', hended, w, locs', rfl, ⟨h3, h5, am', h2, h1, h4⟩, ⟨_, rfl⟩, hW, hsame.mono (by omega) (by omega)⟩
variable {p : Program} {l : Launch} {e : Env} {R : Room} {s : State} {m : MethodId} {args : Array Value} {below : List Frame} {meth : Method} {c : Code} {T : State} {locs : List Loc} {cells slots : Nat} {n0 : Nat}
theorem call_sound (G : Good P nm bc cn C Z a0) {n k k' pc np : Nat} {i : Instr} {S as rest : List Value} {H H1 : AHeap} {v : Option Value} (IH : SoundAt P nm bc cn C Z n) (hcode : P.code k pc = some (i, np)) (hcall : callV P k i S H = some (k', as, rest)) (hrun : run P n k' 0 (entry P k' as) [] H = some (v, H1))
    (X : Stand p l e R s m args below meth c T locs cells slots) (hx : p.tables.exec = Jvm.exec) (hZ : Z.Warmed39 s.vm) (hby : c.code = bc k) (hml : c.maxLocals = P.maxL k) (hown : s.vm.findClass (cn (P.cls k)) = some m.cls)
    (hrf : P.rf k ≤ R.frames) (hrl : P.rl k ≤ R.locals) (hcells : cells + (H1.length - H.length) ≤ R.cells) (hslots : slots + (hsz P H1 - hsz P H) ≤ R.slots) {am : List Addr} {ls : Array Slot} {st : List Value} (hlz : ls.size = P.maxL k) (hS : SR am S st) (hH : HR P C Z n0 am H T.heap) (hn : n0 ≤ T.heap.size) :
    ∃ T2 w Lc z, np = pc + 3 ∧ Stand p l e R s m args below meth c T2 (locs ++ Lc) (cells + (H1.length - H.length)) (slots + (hsz P H1 - hsz P H)) ∧ QC P C Z n0 am v H1 w T2.heap Lc ∧ SR am rest z ∧
      ∀ target, Steps p.tables e below (T2.setTop (mkF m (pc + 3) ls (w.toList ++ z))) target → Steps p.tables e below (T.setTop (mkF m pc ls st)) target := by
  obtain ⟨j, q, hj, hk, hkind, rfl, hlen, c3, c4, c5, c6⟩ := callV_spec hcall
  obtain ⟨G1, -, -, -, -, G6, -, -, G9⟩ := G
  obtain ⟨len, hdec, rfl, hlen'⟩ := G1 _ _ _ _ hcode
  have hd : decode c.code pc = .ok (i, len) := by rw [hby]; exact hdec
  obtain ⟨y, z, rfl, hy, hz⟩ := SR.app _ _ hS rfl
  have hws : SR am as y.reverse := by have := hy.rev; rwa [List.reverse_reverse] at this
  have hcz := hz.cats
  have lk := G9 _ _ _ _ hk
  have hq4 : q ≠ 4 := fun q4 => by subst q4; cases i <;> simp [kindOk] at hkind
  have hq5 : q ≠ 5 := fun q5 => by subst q5; cases i <;> simp [kindOk] at hkind
  have lk' : CallOk P nm bc cn C Z a0 (P.cls k) j q k' := linkOk_call hq4 hq5 lk
  obtain ⟨w1, w2, w3, ⟨ps, r, w4, w5⟩, w6, w7, w8, w9, w10⟩ := lk'
  have hM := metOf IH hrun (l := l) (wsC := []) (rm := ({ frames := P.rf k', cells := H1.length - H.length, slots := hsz P H1 - hsz P H, locals := P.rl k' } : Room)) w6 w8 w9 (Nat.le_refl _) (Nat.le_refl _) (Nat.le_refl _) (Nat.le_refl _) hws c6 hH hn
  have hB := backOf (R := R) (p := p) (e := e) (below := below) (args := args) (s := s) (len := 3) (W := cats rest) hM hZ w2 w3 (by show P.rf k' + 1 ≤ _; omega) (by show cats rest + (P.maxL k' + 11) + P.rl k' ≤ _; omega)
  have hyl : y.reverse.length = as.length := hws.len
  have recv : q ≠ 0 → ∃ a r' b ws', as = .ref a :: r' ∧ y.reverse = .ref b :: ws' ∧ Exa Z T.heap b C := fun h0 => by
    obtain ⟨a, r', fs, rfl, hfs⟩ := recv_spec h0 c5
    obtain ⟨_, ws', e1, ⟨b, hb, rfl⟩, -⟩ := hws
    obtain ⟨b', f1, f2, -⟩ := hH.2.2.2 _ _ hfs
    cases hb.symm.trans f1
    exact ⟨a, r', b, ws', rfl, e1, f2⟩
  cases i <;> simp only [poolOf, Option.some.injEq, reduceCtorEq] at hj
  case invokestatic j' =>
    subst hj
    obtain rfl : len = 3 := hlen'.resolve_left (by simp [ilen])
    obtain rfl : q = 0 := by
      match q, hkind with
      | 0, _ => rfl
    obtain ⟨w, _, ⟨T2, L2, k2, n2⟩, -, X2, ⟨Lc, hQ, l1, l2, l3⟩, st2⟩ := Jvm.LawKit.callS X hx (y := nm k') hown (mvT hZ w1) (mvT hZ w10) (mvT hZ w3) (mvT hZ w2) w7 hB (g := mkF m pc ls (y ++ z)) rfl (by rw [hml]; exact hlz) (argsL := y.reverse) (rest := z) (lenOf w4 (by rw [hyl, hlen, w5]; rfl)) (by simp) (by rw [hcz]; show 2 * 0 + _ ≤ _; omega) hd (fun _ _ => ⟨rfl, rfl, hcells, hslots⟩)
    dsimp only [Pt.U, Pt.locs, Pt.cells, Pt.slots] at X2 l1 l2 l3 st2 hQ
    subst l1 l2 l3
    exact ⟨T2, w, Lc, z, rfl, X2, hQ, hz, st2⟩
  case invokespecial j' =>
    subst hj
    obtain rfl : len = 3 := hlen'.resolve_left (by simp [ilen])
    obtain rfl : q = 1 := by
      match q, hkind with
      | 1, _ => rfl
    obtain ⟨a, r', b, ws', ea, ey, hEx⟩ := recv (by decide)
    obtain ⟨w11, w12, w13⟩ := w10
    have ey' : y = ws'.reverse ++ [.ref b] := by rw [← List.reverse_reverse y, ey]; simp
    rw [ey] at hB
    have hl : ws'.length = ps.length := by rw [ey, hlen, w5] at hyl; simpa [rcv] using hyl
    obtain ⟨w, _, ⟨T2, L2, k2, n2⟩, -, X2, ⟨Lc, hQ, l1, l2, l3⟩, st2⟩ := X.specialBack hx (y := nm k') w11 hown (mvT hZ w1) (mvT hZ w12) (bytes := bc k') (maxL := P.maxL k') (mvT hZ (by rw [w13] at w2; exact w2)) w7 hB (g := mkF m pc ls (y ++ z)) rfl (by rw [hml]; exact hlz) (Steps.refl _) (a := b) (argsL := ws') (rest := z) (lenOf w4 hl) (by rw [ey']; simp) (by rw [hcz]; show 2 * 0 + _ ≤ _; omega) hd (fun _ _ => ⟨rfl, rfl, hcells, hslots⟩)
    dsimp only [Pt.U, Pt.locs, Pt.cells, Pt.slots] at X2 l1 l2 l3 st2 hQ
    subst l1 l2 l3
    exact ⟨T2, w, Lc, z, rfl, X2, hQ, hz, fun target hr => st2.trans hr⟩
  case invokevirtual j' =>
    subst hj
    obtain rfl : len = 3 := hlen'.resolve_left (by simp [ilen])
    have hq : q = 2 ∨ q = 3 := by
      match q, hkind with
      | 2, _ => exact Or.inl rfl
      | 3, _ => exact Or.inr rfl
    obtain ⟨a, r', b, ws', ea, ey, hEx⟩ := recv (by omega)
    have ey' : y = ws'.reverse ++ [.ref b] := by rw [← List.reverse_reverse y, ey]; simp
    rw [ey] at hB
    rcases hq with rfl | rfl
    · obtain ⟨w11, w12, w13⟩ := w10
      have hl : ws'.length = ps.length := by rw [ey, hlen, w5] at hyl; simpa [rcv] using hyl
      obtain ⟨cq, kq, qa, qb, qc⟩ := isOf hZ rfl hEx
      obtain ⟨w, _, ⟨T2, L2, k2, n2⟩, -, X2, ⟨Lc, hQ, l1, l2, l3⟩, st2⟩ := X.virtualBack hx (y := nm k') (z := nm k') hown (mvT hZ w1) (mvT hZ w11) (notFace_of_selects (args := #[]) (mvT hZ w13)) (mvT hZ w13) (mvT hZ w12) w7 hB qa qc (g := mkF m pc ls (y ++ z)) rfl (by rw [hml]; exact hlz) (Steps.refl _) (argsL := ws') (rest := z) (lenOf w4 hl) (by rw [ey']; simp) (by rw [hcz]; show 2 * 0 + _ ≤ _; omega) hd (fun _ _ => ⟨rfl, rfl, hcells, hslots⟩)
      dsimp only [Pt.U, Pt.locs, Pt.cells, Pt.slots] at X2 l1 l2 l3 st2 hQ
      subst l1 l2 l3
      exact ⟨T2, w, Lc, z, rfl, X2, hQ, hz, fun target hr => st2.trans hr⟩
    · obtain ⟨w11, w12, w13⟩ := w10
      have hl : ws'.length = ps.length := by rw [ey, hlen, w5] at hyl; simpa [rcv] using hyl
      obtain ⟨cq, q1, q2⟩ := hEx.cell
      obtain ⟨cC, kC, i1, i2, i3, i4, -⟩ := Cond.instantiable_spec (mvT hZ G6 : (Cond.instantiable C P.objN).before #[] s = true)
      have hpriv : s.PrivateAt (nm k') := Cond.privateMethod_at (mvP hZ w13 (args := #[]))
      have hsel : (Cond.selects (nm k').cls (nm k') (nm k')).before args s = true := selects_self_of_private (by rw [w11]; exact i1) i2 (by simpa using (Bool.or_eq_false_iff.mp i4).1) hpriv (mvT hZ w12) w7
      obtain ⟨w, _, ⟨T2, L2, k2, n2⟩, -, X2, ⟨Lc, hQ, l1, l2, l3⟩, st2⟩ := X.privateBack hx (y := nm k') hown (mvT hZ w1) (mvT hZ w12) hsel hpriv (mvT hZ w2) w7 hB (g := mkF m pc ls (y ++ z)) rfl (by rw [hml]; exact hlz) (Steps.refl _) (a := b) q1 q2 (argsL := ws') (rest := z) (lenOf w4 hl) (by rw [ey']; simp) (by rw [hcz]; show 2 * 0 + _ ≤ _; omega) hd (fun _ _ => ⟨rfl, rfl, hcells, hslots⟩)
      dsimp only [Pt.U, Pt.locs, Pt.cells, Pt.slots] at X2 l1 l2 l3 st2 hQ
      subst l1 l2 l3
      exact ⟨T2, w, Lc, z, rfl, X2, hQ, hz, fun target hr => st2.trans hr⟩
theorem ret_sound (G : Good P nm bc cn C Z a0) {k pc np : Nat} {i : Instr} {S : List Value} {v : Option Value} (hcode : P.code k pc = some (i, np)) (h : retV P k i S = some v)
    (X : Stand p l e R s m args below meth c T locs cells slots) (hx : p.tables.exec = Jvm.exec) (hby : c.code = bc k) (hret : meth.sig.returnType = P.ret k) {am : List Addr} {ls : Array Slot} {st : List Value} (hS : SR am S st) :
    ∃ w, OVR am v w ∧ (P.ret k = none → w = none) ∧ ∀ fs, (∀ (f : JFrame) (acts : List Action), f.method = m → f.locked = none → f.entered = [] → (doReturn e (T.setTop f) acts w).1 = T.setFrames fs) → Steps p.tables e below (T.setTop (mkF m pc ls st)) (T.setFrames fs) := by
  obtain ⟨G1, -⟩ := G
  obtain ⟨len, hdec, rfl, hlen⟩ := G1 _ _ _ _ hcode
  have hd : decode c.code pc = .ok (i, len) := by rw [hby]; exact hdec
  rcases retV_spec h with ⟨rfl, rfl, hr, rfl⟩ | ⟨x, r, rfl, rfl, hr, rfl⟩ | ⟨x, r, rfl, rfl, hr, rfl⟩ | ⟨x, r, rfl, rfl, hr, rfl⟩
  · obtain rfl : len = 1 := hlen.resolve_left (by simp [ilen])
    cases hS
    exact ⟨none, rfl, fun _ => rfl, fun fs hl => X.returnOut hx (hret.trans hr) hd hl⟩
  · obtain rfl : len = 1 := hlen.resolve_left (by simp [ilen])
    obtain ⟨_, _, rfl, rfl, hr'⟩ := hS
    exact ⟨some (.int x), ⟨_, rfl, rfl⟩, (fun q => by rw [hr] at q; cases q), fun fs hl => retOut X hx (hret.trans hr) rfl (Or.inl ⟨rfl, Or.inl rfl, x, rfl⟩) hd hl⟩
  · obtain rfl : len = 1 := hlen.resolve_left (by simp [ilen])
    obtain ⟨_, _, rfl, rfl, hr'⟩ := hS
    exact ⟨some (.int (x &&& 1)), ⟨_, rfl, rfl⟩, (fun q => by rw [hr] at q; cases q), fun fs hl => retN X hx (hret.trans hr) (Or.inl rfl) hd hl⟩
  · obtain rfl : len = 1 := hlen.resolve_left (by simp [ilen])
    obtain ⟨_, _, rfl, rfl, hr'⟩ := hS
    exact ⟨some (.long x), ⟨_, rfl, rfl⟩, (fun q => by rw [hr] at q; cases q), fun fs hl => retOut X hx (hret.trans hr) rfl (Or.inr (Or.inl ⟨rfl, rfl, x, rfl⟩)) hd hl⟩
theorem SR.opt {am : List Addr} {v w : Option Value} {S st : List Value} (h : OVR am v w) (hS : SR am S st) : SR am (v.toList ++ S) (w.toList ++ st) := by
  cases v with
  | none => cases h; exact hS
  | some x => obtain ⟨y, rfl, h1⟩ := h; exact ⟨y, st, rfl, h1, hS⟩
theorem sound (G : Good P nm bc cn C Z a0) : ∀ n, SoundAt P nm bc cn C Z n
  | 0 => fun k pc L S H v H' h => by simp [run] at h
  | n + 1 => fun k pc L S H v H' h => by
    have IH := sound G n
    intro p l e R s m args below meth c T locs cells slots n0 am ls st X hx hZ hby hml hret hown hini hrf hrl hcells hslots hlz hL hS hH hF hn
    rw [run] at h
    split at h
    · cases h
    · rename_i i np hcode
      split at h
      · rename_i v' hv
        cases h
        obtain ⟨w, h1, h2, h3⟩ := ret_sound G hcode hv X hx hby hret (ls := ls) hS
        exact ⟨T, am, locs, w, by simpa using X, hH, Pre.refl _, hF, h1, hn, h2, h3⟩
      · split at h
        · rename_i k' as rest hcall
          split at h
          · rename_i v1 H1 hr1
            have g1 := run_grow hr1
            have g2 := run_grow h
            obtain ⟨T2, w, Lc, z, rfl, X2, ⟨q1, q2, am2, q3, q4, q5⟩, hz, st2⟩ := call_sound G IH hcode hcall hr1 X hx hZ hby hml hown hrf hrl (by omega) (by omega) (ls := ls) hlz hS hH hn
            obtain ⟨T', am', locs', w', X', f1, f2, f3, f4, f5, f6, f7⟩ := IH k _ _ _ _ _ _ h X2 hx hZ hby hml hret hown hini hrf hrl (by omega) (by omega) hlz (hL.mono q3) (SR.opt q5 (hz.mono q3)) q4 (Fr.app hF q1) q2
            refine ⟨T', am', locs', w', ?_, f1, q3.trans f2, f3, f4, f5, f6, fun fs hl => st2 _ (f7 fs hl)⟩
            have a1 : cells + (H1.length - H.length) + (H'.length - H1.length) = cells + (H'.length - H.length) := by omega
            have a2 : slots + (hsz P H1 - hsz P H) + (hsz P H' - hsz P H1) = slots + (hsz P H' - hsz P H) := by omega
            rw [a1, a2] at X'; exact X'
          · cases h
        · split at h
          · rename_i pc1 L1 S1 H1 hs1
            have g1 := step_grow hs1
            have g2 := run_grow h
            obtain ⟨T2, am2, ls2, st2, locs2, X2, b1, b2, b3, b4, b5, b6, b7, b8⟩ := step_sound G hcode hs1 X hx hZ hby hml hown hini hrf hrl (by omega) (by omega) hlz hL hS hH hF hn
            obtain ⟨T', am', locs', w', X', f1, f2, f3, f4, f5, f6, f7⟩ := IH k _ _ _ _ _ _ h X2 hx hZ hby hml hret hown hini hrf hrl (by omega) (by omega) (b2.trans hlz) b1 b3 b4 b6 b7
            refine ⟨T', am', locs', w', ?_, f1, b5.trans f2, f3, f4, f5, f6, fun fs hl => b8 _ (f7 fs hl)⟩
            have a1 : cells + (H1.length - H.length) + (H'.length - H1.length) = cells + (H'.length - H.length) := by omega
            have a2 : slots + (hsz P H1 - hsz P H) + (hsz P H' - hsz P H1) = slots + (hsz P H' - hsz P H) := by omega
            rw [a1, a2] at X'; exact X'
          · cases h
end Met
end Jvm.OwnX
namespace Jvm.OwnX
open Sem ClassFile Op Lib Jvm.Stand Jvm.Free Jvm.LawKit Jvm.RoadKit
theorem run_succ {P : Prog} : ∀ (n : Nat) {k pc : Nat} {L : ALoc} {S : List Value} {H : AHeap} {out : Option Value × AHeap}, run P n k pc L S H = some out → run P (n + 1) k pc L S H = some out
  | 0, k, pc, L, S, H, out, h => by simp [run] at h
  | n + 1, k, pc, L, S, H, out, h => by
    rw [run] at h
    rw [run]
    split at h
    · cases h
    · rename_i i np hc
      try simp only [hc]
      split at h
      · rename_i v hv
        try simp only [hv]
        exact h
      · rename_i hv
        try simp only [hv]
        split at h
        · rename_i k' as rest hcall
          try simp only [hcall]
          split at h
          · rename_i v1 H1 h1
            rw [run_succ n h1]; exact run_succ n h
          · cases h
        · rename_i hcall
          try simp only [hcall]
          split at h
          · rename_i pc1 L1 S1 H1 h1
            try simp only [h1]
            exact run_succ n h
          · cases h
theorem run_le {P : Prog} {n m k pc : Nat} {L : ALoc} {S : List Value} {H : AHeap} {out : Option Value × AHeap} (hm : n ≤ m) (h : run P n k pc L S H = some out) : run P m k pc L S H = some out := by
  induction hm with
  | refl => exact h
  | step _ ih => exact run_succ _ ih
section Rules
variable {P : Prog} {k pc np : Nat} {L L' : ALoc} {S r : List Value} {H : AHeap} {out : Option Value × AHeap}
theorem Eval.of_step {i : Instr} {pc' : Nat} {S' : List Value} {H' : AHeap} (hc : P.code k pc = some (i, np)) (h1 : retV P k i S = none) (h2 : callV P k i S H = none) (h3 : step P k i np pc L S H = some (pc', L', S', H')) (h : Eval P k pc' L' S' H' out) : Eval P k pc L S H out := by
  obtain ⟨n, h⟩ := h
  exact ⟨n + 1, by rw [run]; simp only [hc, h1, h2, h3]; exact h⟩
theorem Eval.call {i : Instr} {k' : Nat} {as rest : List Value} {v : Option Value} {H1 : AHeap} (hc : P.code k pc = some (i, np)) (h2 : callV P k i S H = some (k', as, rest)) (he : Eval P k' 0 (entry P k' as) [] H (v, H1)) (h : Eval P k np L (v.toList ++ rest) H1 out) : Eval P k pc L S H out := by
  obtain ⟨n, he⟩ := he
  obtain ⟨m, h⟩ := h
  have h1 : retV P k i S = none := by
    unfold callV at h2
    cases i <;> simp only [poolOf, reduceCtorEq] at h2 <;> rfl
  exact ⟨n + m + 1, by rw [run]; simp only [hc, h1, h2]; rw [run_le (Nat.le_add_right n m) he]; exact run_le (Nat.le_add_left m n) h⟩
theorem Eval.ret {i : Instr} {v : Option Value} (hc : P.code k pc = some (i, np)) (h1 : retV P k i S = some v) : Eval P k pc L S H (v, H) := ⟨1, by rw [run]; simp only [hc, h1]⟩
theorem Eval.eq {out' : Option Value × AHeap} (h : Eval P k pc L S H out') (e : out' = out) : Eval P k pc L S H out := e ▸ h
theorem Eval.iload_n {n : Fin 4} {x : Int32} (hc : P.code k pc = some (.iload_n n, np)) (hl : loadI L n.val = some x) (h : Eval P k np L (.int x :: S) H out) : Eval P k pc L S H out := Eval.of_step hc rfl rfl (by simp only [step, hl]) h
theorem Eval.iload {n : Nat} {x : Int32} (hc : P.code k pc = some (.iload n, np)) (hl : loadI L n = some x) (h : Eval P k np L (.int x :: S) H out) : Eval P k pc L S H out := Eval.of_step hc rfl rfl (by simp only [step, hl]) h
theorem Eval.lload_n {n : Fin 4} {x : Int64} (hc : P.code k pc = some (.lload_n n, np)) (hl : loadJ L n.val = some x) (h : Eval P k np L (.long x :: S) H out) : Eval P k pc L S H out := Eval.of_step hc rfl rfl (by simp only [step, hl]) h
theorem Eval.lload {n : Nat} {x : Int64} (hc : P.code k pc = some (.lload n, np)) (hl : loadJ L n = some x) (h : Eval P k np L (.long x :: S) H out) : Eval P k pc L S H out := Eval.of_step hc rfl rfl (by simp only [step, hl]) h
theorem Eval.aload_n {n : Fin 4} {x : Nat} (hc : P.code k pc = some (.aload_n n, np)) (hl : loadA L n.val = some x) (h : Eval P k np L (.ref x :: S) H out) : Eval P k pc L S H out := Eval.of_step hc rfl rfl (by simp only [step, hl]) h
theorem Eval.aload {n : Nat} {x : Nat} (hc : P.code k pc = some (.aload n, np)) (hl : loadA L n = some x) (h : Eval P k np L (.ref x :: S) H out) : Eval P k pc L S H out := Eval.of_step hc rfl rfl (by simp only [step, hl]) h
theorem Eval.istore_n {n : Fin 4} {x : Int32} (hc : P.code k pc = some (.istore_n n, np)) (hl : lput L n.val (.int x) = some L') (h : Eval P k np L' r H out) : Eval P k pc L (.int x :: r) H out := Eval.of_step hc rfl rfl (by simp only [step, hl]) h
theorem Eval.istore {n : Nat} {x : Int32} (hc : P.code k pc = some (.istore n, np)) (hl : lput L n (.int x) = some L') (h : Eval P k np L' r H out) : Eval P k pc L (.int x :: r) H out := Eval.of_step hc rfl rfl (by simp only [step, hl]) h
theorem Eval.astore_n {n : Fin 4} {x : Nat} (hc : P.code k pc = some (.astore_n n, np)) (hl : lput L n.val (.ref x) = some L') (h : Eval P k np L' r H out) : Eval P k pc L (.ref x :: r) H out := Eval.of_step hc rfl rfl (by simp only [step, hl]) h
theorem Eval.astore {n : Nat} {x : Nat} (hc : P.code k pc = some (.astore n, np)) (hl : lput L n (.ref x) = some L') (h : Eval P k np L' r H out) : Eval P k pc L (.ref x :: r) H out := Eval.of_step hc rfl rfl (by simp only [step, hl]) h
theorem Eval.lstore_n {n : Fin 4} {x : Int64} (hc : P.code k pc = some (.lstore_n n, np)) (hl : lputL L n.val x = some L') (h : Eval P k np L' r H out) : Eval P k pc L (.long x :: r) H out := Eval.of_step hc rfl rfl (by simp only [step, hl]) h
theorem Eval.lstore {n : Nat} {x : Int64} (hc : P.code k pc = some (.lstore n, np)) (hl : lputL L n x = some L') (h : Eval P k np L' r H out) : Eval P k pc L (.long x :: r) H out := Eval.of_step hc rfl rfl (by simp only [step, hl]) h
theorem Eval.iinc {n : Nat} {c : Int} {x : Int32} (hc : P.code k pc = some (.iinc n c, np)) (hl : loadI L n = some x) (hp : lput L n (.int (x + Int32.ofInt c)) = some L') (h : Eval P k np L' S H out) : Eval P k pc L S H out := Eval.of_step hc rfl rfl (by simp only [step, hl, hp]) h
theorem Eval.iconst {c : Int} {x : Int32} (hc : P.code k pc = some (.iconst c, np)) (hx : Int32.ofInt c = x) (h : Eval P k np L (.int x :: S) H out) : Eval P k pc L S H out := Eval.of_step hc rfl rfl (by subst hx; rfl) h
theorem Eval.bipush {c : Int} {x : Int32} (hc : P.code k pc = some (.bipush c, np)) (hx : (Int8.ofInt c).toInt32 = x) (h : Eval P k np L (.int x :: S) H out) : Eval P k pc L S H out := Eval.of_step hc rfl rfl (by subst hx; rfl) h
theorem Eval.sipush {c : Int} {x : Int32} (hc : P.code k pc = some (.sipush c, np)) (hx : (Int16.ofInt c).toInt32 = x) (h : Eval P k np L (.int x :: S) H out) : Eval P k pc L S H out := Eval.of_step hc rfl rfl (by subst hx; rfl) h
theorem Eval.lconst {c : Fin 2} {x : Int64} (hc : P.code k pc = some (.lconst c, np)) (hx : Int64.ofNat c = x) (h : Eval P k np L (.long x :: S) H out) : Eval P k pc L S H out := Eval.of_step hc rfl rfl (by subst hx; rfl) h
theorem Eval.ldc {j : Nat} {x : Int32} (hc : P.code k pc = some (.ldc j, np)) (hx : P.kon (P.cls k) j = some (.int x)) (h : Eval P k np L (.int x :: S) H out) : Eval P k pc L S H out := Eval.of_step hc rfl rfl (by simp only [step, hx]) h
theorem Eval.ldc2_w {j : Nat} {x : Int64} (hc : P.code k pc = some (.ldc2_w j, np)) (hx : P.kon (P.cls k) j = some (.long x)) (h : Eval P k np L (.long x :: S) H out) : Eval P k pc L S H out := Eval.of_step hc rfl rfl (by simp only [step, hx]) h
theorem Eval.idiv {x y : Int32} (hc : P.code k pc = some (.idiv, np)) (hy : ¬ y = 0) (h : Eval P k np L (.int (x / y) :: r) H out) : Eval P k pc L (.int y :: .int x :: r) H out := Eval.of_step hc rfl rfl (by simp [step, hy]) h
theorem Eval.irem {x y : Int32} (hc : P.code k pc = some (.irem, np)) (hy : ¬ y = 0) (h : Eval P k np L (.int (x % y) :: r) H out) : Eval P k pc L (.int y :: .int x :: r) H out := Eval.of_step hc rfl rfl (by simp [step, hy]) h
theorem Eval.iadd {x y : Int32} (hc : P.code k pc = some (.iadd, np))  (h : Eval P k np L (.int (x + y) :: r) H out) : Eval P k pc L (.int y :: .int x :: r) H out := Eval.of_step hc rfl rfl (by rfl) h
theorem Eval.isub {x y : Int32} (hc : P.code k pc = some (.isub, np))  (h : Eval P k np L (.int (x - y) :: r) H out) : Eval P k pc L (.int y :: .int x :: r) H out := Eval.of_step hc rfl rfl (by rfl) h
theorem Eval.imul {x y : Int32} (hc : P.code k pc = some (.imul, np))  (h : Eval P k np L (.int (x * y) :: r) H out) : Eval P k pc L (.int y :: .int x :: r) H out := Eval.of_step hc rfl rfl (by rfl) h
theorem Eval.iand {x y : Int32} (hc : P.code k pc = some (.iand, np))  (h : Eval P k np L (.int (x &&& y) :: r) H out) : Eval P k pc L (.int y :: .int x :: r) H out := Eval.of_step hc rfl rfl (by rfl) h
theorem Eval.ior {x y : Int32} (hc : P.code k pc = some (.ior, np))  (h : Eval P k np L (.int (x ||| y) :: r) H out) : Eval P k pc L (.int y :: .int x :: r) H out := Eval.of_step hc rfl rfl (by rfl) h
theorem Eval.ixor {x y : Int32} (hc : P.code k pc = some (.ixor, np))  (h : Eval P k np L (.int (x ^^^ y) :: r) H out) : Eval P k pc L (.int y :: .int x :: r) H out := Eval.of_step hc rfl rfl (by rfl) h
theorem Eval.ishl {x y : Int32} (hc : P.code k pc = some (.ishl, np))  (h : Eval P k np L (.int (ish x y) :: r) H out) : Eval P k pc L (.int y :: .int x :: r) H out := Eval.of_step hc rfl rfl (by rfl) h
theorem Eval.ishr {x y : Int32} (hc : P.code k pc = some (.ishr, np))  (h : Eval P k np L (.int (isr x y) :: r) H out) : Eval P k pc L (.int y :: .int x :: r) H out := Eval.of_step hc rfl rfl (by rfl) h
theorem Eval.iushr {x y : Int32} (hc : P.code k pc = some (.iushr, np))  (h : Eval P k np L (.int (ush x y) :: r) H out) : Eval P k pc L (.int y :: .int x :: r) H out := Eval.of_step hc rfl rfl (by rfl) h
theorem Eval.ladd {x y : Int64} (hc : P.code k pc = some (.ladd, np))  (h : Eval P k np L (.long (x + y) :: r) H out) : Eval P k pc L (.long y :: .long x :: r) H out := Eval.of_step hc rfl rfl (by rfl) h
theorem Eval.lsub {x y : Int64} (hc : P.code k pc = some (.lsub, np))  (h : Eval P k np L (.long (x - y) :: r) H out) : Eval P k pc L (.long y :: .long x :: r) H out := Eval.of_step hc rfl rfl (by rfl) h
theorem Eval.lmul {x y : Int64} (hc : P.code k pc = some (.lmul, np))  (h : Eval P k np L (.long (x * y) :: r) H out) : Eval P k pc L (.long y :: .long x :: r) H out := Eval.of_step hc rfl rfl (by rfl) h
theorem Eval.land {x y : Int64} (hc : P.code k pc = some (.land, np))  (h : Eval P k np L (.long (x &&& y) :: r) H out) : Eval P k pc L (.long y :: .long x :: r) H out := Eval.of_step hc rfl rfl (by rfl) h
theorem Eval.lor {x y : Int64} (hc : P.code k pc = some (.lor, np))  (h : Eval P k np L (.long (x ||| y) :: r) H out) : Eval P k pc L (.long y :: .long x :: r) H out := Eval.of_step hc rfl rfl (by rfl) h
theorem Eval.lxor {x y : Int64} (hc : P.code k pc = some (.lxor, np))  (h : Eval P k np L (.long (x ^^^ y) :: r) H out) : Eval P k pc L (.long y :: .long x :: r) H out := Eval.of_step hc rfl rfl (by rfl) h
theorem Eval.lshl {x : Int64} {y : Int32} (hc : P.code k pc = some (.lshl, np))  (h : Eval P k np L (.long (lsh x y) :: r) H out) : Eval P k pc L (.int y :: .long x :: r) H out := Eval.of_step hc rfl rfl (by rfl) h
theorem Eval.lushr {x : Int64} {y : Int32} (hc : P.code k pc = some (.lushr, np))  (h : Eval P k np L (.long (lus x y) :: r) H out) : Eval P k pc L (.int y :: .long x :: r) H out := Eval.of_step hc rfl rfl (by rfl) h
theorem Eval.lcmp {x y : Int64} (hc : P.code k pc = some (.lcmp, np))  (h : Eval P k np L (.int (lcm x y) :: r) H out) : Eval P k pc L (.long y :: .long x :: r) H out := Eval.of_step hc rfl rfl (by rfl) h
theorem Eval.lneg {x : Int64} (hc : P.code k pc = some (.lneg, np))  (h : Eval P k np L (.long (-x) :: r) H out) : Eval P k pc L (.long x :: r) H out := Eval.of_step hc rfl rfl (by rfl) h
theorem Eval.i2l {x : Int32} (hc : P.code k pc = some (.i2l, np))  (h : Eval P k np L (.long x.toInt64 :: r) H out) : Eval P k pc L (.int x :: r) H out := Eval.of_step hc rfl rfl (by rfl) h
theorem Eval.l2i {x : Int64} (hc : P.code k pc = some (.l2i, np))  (h : Eval P k np L (.int x.toInt32 :: r) H out) : Eval P k pc L (.long x :: r) H out := Eval.of_step hc rfl rfl (by rfl) h
theorem Eval.i2b {x : Int32} (hc : P.code k pc = some (.i2b, np))  (h : Eval P k np L (.int (i8 x) :: r) H out) : Eval P k pc L (.int x :: r) H out := Eval.of_step hc rfl rfl (by rfl) h
theorem Eval.dupR {x : Nat} (hc : P.code k pc = some (.dup, np))  (h : Eval P k np L (.ref x :: .ref x :: r) H out) : Eval P k pc L (.ref x :: r) H out := Eval.of_step hc rfl rfl (by rfl) h
theorem Eval.dupI {x : Int32} (hc : P.code k pc = some (.dup, np))  (h : Eval P k np L (.int x :: .int x :: r) H out) : Eval P k pc L (.int x :: r) H out := Eval.of_step hc rfl rfl (by rfl) h
theorem Eval.dup2 {x : Int32} {y : Nat} (hc : P.code k pc = some (.dup2, np))  (h : Eval P k np L (.int x :: .ref y :: .int x :: .ref y :: r) H out) : Eval P k pc L (.int x :: .ref y :: r) H out := Eval.of_step hc rfl rfl (by rfl) h
theorem Eval.popI {x : Int32} (hc : P.code k pc = some (.pop, np))  (h : Eval P k np L r H out) : Eval P k pc L (.int x :: r) H out := Eval.of_step hc rfl rfl (by rfl) h
theorem Eval.popR {x : Nat} (hc : P.code k pc = some (.pop, np))  (h : Eval P k np L r H out) : Eval P k pc L (.ref x :: r) H out := Eval.of_step hc rfl rfl (by rfl) h
theorem Eval.goto {o : Int} {t : Nat} (hc : P.code k pc = some (.goto o, np)) (ht : tgt pc o = some t) (h : Eval P k t L S H out) : Eval P k pc L S H out := Eval.of_step hc rfl rfl (by simp only [step, ht]) h
theorem Eval.ifT {cd : ClassFile.Cond} {o : Int} {t : Nat} {x : Int32} (hc : P.code k pc = some (.ifCond cd o, np)) (ht : tgt pc o = some t) (hb : if_icmp.holds cd x 0 = true) (h : Eval P k t L r H out) : Eval P k pc L (.int x :: r) H out := Eval.of_step hc rfl rfl (by simp only [step, ht, hb, cond_true]) h
theorem Eval.ifF {cd : ClassFile.Cond} {o : Int} {x : Int32} (hc : P.code k pc = some (.ifCond cd o, np)) (hb : if_icmp.holds cd x 0 = false) (h : Eval P k np L r H out) : Eval P k pc L (.int x :: r) H out := Eval.of_step hc rfl rfl (by simp only [step, hb, cond_false]) h
theorem Eval.icmpT {cd : ClassFile.Cond} {o : Int} {t : Nat} {x y : Int32} (hc : P.code k pc = some (.if_icmp cd o, np)) (ht : tgt pc o = some t) (hb : if_icmp.holds cd x y = true) (h : Eval P k t L r H out) : Eval P k pc L (.int y :: .int x :: r) H out := Eval.of_step hc rfl rfl (by simp only [step, ht, hb, cond_true]) h
theorem Eval.icmpF {cd : ClassFile.Cond} {o : Int} {x y : Int32} (hc : P.code k pc = some (.if_icmp cd o, np)) (hb : if_icmp.holds cd x y = false) (h : Eval P k np L r H out) : Eval P k pc L (.int y :: .int x :: r) H out := Eval.of_step hc rfl rfl (by simp only [step, hb, cond_false]) h
theorem Eval.tswIn {d lo hi o : Int} {offs : Array Int} {t : Nat} {x : Int32} (hc : P.code k pc = some (.tableswitch d lo hi offs, np)) (h1 : (decide (x.toInt < lo) || decide (x.toInt > hi)) = false) (h2 : offs.toList[(x.toInt - lo).toNat]? = some o) (ht : tgt pc o = some t) (h : Eval P k t L r H out) : Eval P k pc L (.int x :: r) H out := Eval.of_step hc rfl rfl (by simp only [step, h1, h2, ht, cond_false]) h
theorem Eval.tswOut {d lo hi : Int} {offs : Array Int} {t : Nat} {x : Int32} (hc : P.code k pc = some (.tableswitch d lo hi offs, np)) (h1 : (decide (x.toInt < lo) || decide (x.toInt > hi)) = true) (ht : tgt pc d = some t) (h : Eval P k t L r H out) : Eval P k pc L (.int x :: r) H out := Eval.of_step hc rfl rfl (by simp only [step, h1, ht, cond_true]) h
theorem Eval.getfield {j f a : Nat} {v : Value} (hc : P.code k pc = some (.getfield j, np)) (hf : P.fld (P.cls k) j = some f) (hg : getC H a f = some v) (h : Eval P k np L (v :: r) H out) : Eval P k pc L (.ref a :: r) H out := Eval.of_step hc rfl rfl (by simp only [step, hf, hg]) h
/-- the heap with a field written -/
def putC (P : Prog) (k : Nat) (H : AHeap) (a f : Nat) (v : Value) : Option AHeap := match P.fields[f]? with
  | some (_, _, t, fin) => (bif (!fin || P.ini k) && Nat.ble P.ro a then (match conv t v with
    | some v' => (match H[a]? with
      | some (.inl fs) => (bif Nat.ble (f + 1) fs.length then some (H.set a (.inl (fs.set f v'))) else none)
      | _ => none)
    | none => none) else none)
  | none => none
theorem putC_spec {P : Prog} {k a f : Nat} {v : Value} {H H1 : AHeap} (hp : putC P k H a f v = some H1) : ∃ n d t fin v' fs, P.fields[f]? = some (n, d, t, fin) ∧ ((!fin || P.ini k) && Nat.ble P.ro a) = true ∧ conv t v = some v' ∧ H[a]? = some (.inl fs) ∧ Nat.ble (f + 1) fs.length = true ∧ H1 = H.set a (.inl (fs.set f v')) := by
  unfold putC at hp
  simp only [Bool.cond_eq_ite] at hp
  split at hp
  · rename_i n d t fin hq
    split at hp
    · rename_i hc
      split at hp
      · rename_i v' hv
        split at hp
        · rename_i fs hfs
          split at hp
          · rename_i hz
            cases hp; exact ⟨n, d, t, fin, v', fs, hq, hc, hv, hfs, hz, rfl⟩
          · cases hp
        · cases hp
      · cases hp
    · cases hp
  · cases hp
theorem step_put {j f a : Nat} {v : Value} {H1 : AHeap} (hf : P.fld (P.cls k) j = some f) (hp : putC P k H a f v = some H1) : step P k (.putfield j) np pc L (v :: .ref a :: r) H = some (np, L, r, H1) := by
  obtain ⟨n, d, t, fin, v', fs, h1, h2, h3, h4, h5, rfl⟩ := putC_spec hp
  simp only [step, hf, h1, h2, h3, h4, h5, cond_true]
theorem Eval.putfield {j f a : Nat} {v : Value} {H1 : AHeap} (hc : P.code k pc = some (.putfield j, np)) (hf : P.fld (P.cls k) j = some f) (hp : putC P k H a f v = some H1) (h : Eval P k np L r H1 out) : Eval P k pc L (v :: .ref a :: r) H out := Eval.of_step hc rfl rfl (step_put hf hp) h
theorem Eval.iaload0 {a : Nat} {j : Int32} {xs : List Int32} (hc : P.code k pc = some (.iaload, np)) (ha : H[a]? = some (.inr (.inl (0, xs)))) (hj : inb xs.length j = true) (h : Eval P k np L (.int (rd xs j) :: r) H out) : Eval P k pc L (.int j :: .ref a :: r) H out := Eval.of_step hc rfl rfl (by simp only [step, ha, hj, cond_true]) h
theorem Eval.iaload {a : Nat} {j : Int32} {xs : List Int32} (hc : P.code k pc = some (.iaload, np)) (ha : H[a]? = some (.inr (.inl (1, xs)))) (hj : inb xs.length j = true) (h : Eval P k np L (.int (rd xs j) :: r) H out) : Eval P k pc L (.int j :: .ref a :: r) H out := Eval.of_step hc rfl rfl (by simp only [step, ha, hj, cond_true]) h
theorem Eval.baloadZ {a : Nat} {j : Int32} {xs : List Int32} (hc : P.code k pc = some (.baload, np)) (ha : H[a]? = some (.inr (.inl (2, xs)))) (hj : inb xs.length j = true) (h : Eval P k np L (.int (rd xs j) :: r) H out) : Eval P k pc L (.int j :: .ref a :: r) H out := Eval.of_step hc rfl rfl (by simp only [step, ha, hj, cond_true]) h
theorem Eval.baloadB {a : Nat} {j : Int32} {xs : List Int32} (hc : P.code k pc = some (.baload, np)) (ha : H[a]? = some (.inr (.inl (3, xs)))) (hj : inb xs.length j = true) (h : Eval P k np L (.int (rd xs j) :: r) H out) : Eval P k pc L (.int j :: .ref a :: r) H out := Eval.of_step hc rfl rfl (by simp only [step, ha, hj, cond_true]) h
theorem Eval.laload {a : Nat} {j : Int32} {xs : List Int64} (hc : P.code k pc = some (.laload, np)) (ha : H[a]? = some (.inr (.inr xs))) (hj : inb xs.length j = true) (h : Eval P k np L (.long (rdL xs j) :: r) H out) : Eval P k pc L (.int j :: .ref a :: r) H out := Eval.of_step hc rfl rfl (by simp only [step, ha, hj, cond_true]) h
theorem Eval.iastore {a : Nat} {j : Int32} {x : Int32} {xs : List Int32} {H1 : AHeap} (hc : P.code k pc = some (.iastore, np)) (hro : Nat.ble P.ro a = true) (ha : H[a]? = some (.inr (.inl (1, xs)))) (hj : inb xs.length j = true) (hH : H.set a (.inr (.inl (1, wr xs j x))) = H1) (h : Eval P k np L r H1 out) : Eval P k pc L (.int x :: .int j :: .ref a :: r) H out := Eval.of_step hc rfl rfl (by subst hH; simp only [step, hro, ha, hj, cond_true]; try rfl) h
theorem Eval.bastoreZ {a : Nat} {j : Int32} {x : Int32} {xs : List Int32} {H1 : AHeap} (hc : P.code k pc = some (.bastore, np)) (hro : Nat.ble P.ro a = true) (ha : H[a]? = some (.inr (.inl (2, xs)))) (hj : inb xs.length j = true) (hH : H.set a (.inr (.inl (2, wr xs j (x &&& 1)))) = H1) (h : Eval P k np L r H1 out) : Eval P k pc L (.int x :: .int j :: .ref a :: r) H out := Eval.of_step hc rfl rfl (by subst hH; simp only [step, hro, ha, hj, cond_true]; try rfl) h
theorem Eval.bastoreB {a : Nat} {j : Int32} {x : Int32} {xs : List Int32} {H1 : AHeap} (hc : P.code k pc = some (.bastore, np)) (hro : Nat.ble P.ro a = true) (ha : H[a]? = some (.inr (.inl (3, xs)))) (hj : inb xs.length j = true) (hH : H.set a (.inr (.inl (3, wr xs j (i8 x)))) = H1) (h : Eval P k np L r H1 out) : Eval P k pc L (.int x :: .int j :: .ref a :: r) H out := Eval.of_step hc rfl rfl (by subst hH; simp only [step, hro, ha, hj, cond_true]; try rfl) h
theorem Eval.lastore {a : Nat} {j : Int32} {x : Int64} {xs : List Int64} {H1 : AHeap} (hc : P.code k pc = some (.lastore, np)) (hro : Nat.ble P.ro a = true) (ha : H[a]? = some (.inr (.inr xs))) (hj : inb xs.length j = true) (hH : H.set a (.inr (.inr (wrL xs j x))) = H1) (h : Eval P k np L r H1 out) : Eval P k pc L (.long x :: .int j :: .ref a :: r) H out := Eval.of_step hc rfl rfl (by subst hH; simp only [step, hro, ha, hj, cond_true]; try rfl) h
theorem Eval.alenI {a t : Nat} {xs : List Int32} (hc : P.code k pc = some (.arraylength, np)) (ha : H[a]? = some (.inr (.inl (t, xs)))) (h : Eval P k np L (.int xs.length.toInt32 :: r) H out) : Eval P k pc L (.ref a :: r) H out := Eval.of_step hc rfl rfl (by simp only [step, ha]) h
theorem Eval.newarray {t : ArrayType} {n : Int32} {q a z N : Nat} {H1 : AHeap} (hc : P.code k pc = some (.newarray t, np)) (hla : H.length = a) (ht : atyOf t = some q) (hn : decide (n < 0) = false) (hN : n.toNatClampNeg = N) (hb : N ≤ 60000) (hC : a + 1 ≤ P.capC) (hz : hsz P H = z) (hS : z + N ≤ P.capS) (hH : H ++ [newC q N] = H1) (h : Eval P k np L (.ref a :: r) H1 out) : Eval P k pc L (.int n :: r) H out := by
  subst hla hN hz
  have hq : (!(decide (n < 0)) && Nat.ble n.toNatClampNeg 60000 && Nat.ble (H.length + 1) P.capC && Nat.ble (hsz P H + n.toNatClampNeg) P.capS) = true := by
    simp only [hn, Bool.not_false, Bool.true_and, Bool.and_eq_true]
    exact ⟨⟨Nat.ble_eq_true_of_le hb, Nat.ble_eq_true_of_le hC⟩, Nat.ble_eq_true_of_le hS⟩
  exact Eval.of_step hc rfl rfl (by simp only [step, ht, hq, cond_true, hH]) h
theorem Eval.new {j q a z : Nat} {H1 : AHeap} (hc : P.code k pc = some (.new j, np)) (hla : H.length = a) (ht : P.link (P.cls k) j = some (5, q)) (hC : a + 1 ≤ P.capC) (hz : hsz P H = z) (hS : z + P.objN ≤ P.capS) (hH : H ++ [.inl P.fresh] = H1) (h : Eval P k np L (.ref a :: S) H1 out) : Eval P k pc L S H out := by
  subst hla hz
  have hq : (Nat.ble (H.length + 1) P.capC && Nat.ble (hsz P H + P.objN) P.capS) = true := by
    simp only [Bool.and_eq_true]
    exact ⟨Nat.ble_eq_true_of_le hC, Nat.ble_eq_true_of_le hS⟩
  exact Eval.of_step hc rfl rfl (by simp only [step, ht, hq, cond_true, hH]) h
theorem Eval.objInit {j a : Nat} (hc : P.code k pc = some (.invokespecial j, np)) (hq : (isObjInit P k j && Nat.ble 1 (P.rf k) && Nat.ble (cats r + 12) (P.rl k)) = true) (h : Eval P k np L r H out) : Eval P k pc L (.ref a :: r) H out := by
  refine Eval.of_step hc rfl ?_ (by simp only [step, hq, cond_true]) h
  simp only [Bool.and_eq_true] at hq
  have h3 := hq.1.1
  unfold isObjInit at h3
  split at h3
  · rename_i kk hk
    simp [callV, poolOf, hk, kindOk]
  · cases h3
/-- the left knows at least what the right knows -/
def lw : ALoc → ALoc → Prop
  | [], b => b = []
  | a :: r, b => ∃ x r', b = x :: r' ∧ (x = none ∨ x = a) ∧ lw r r'
theorem lw.refl : ∀ L : ALoc, lw L L
  | [] => rfl
  | a :: r => ⟨a, r, rfl, Or.inr rfl, lw.refl r⟩
def mkL : Nat → ALoc → ALoc
  | _, [] => []
  | m, a :: r => (match Nat.mod m 2 with | 0 => none | _ => a) :: mkL (Nat.div m 2) r
theorem lw_mk : ∀ (m : Nat) (L : ALoc), lw L (mkL m L)
  | _, [] => rfl
  | m, a :: r => ⟨_, _, rfl, by cases h : Nat.mod m 2 with
    | zero => exact Or.inl rfl
    | succ k => exact Or.inr rfl, lw_mk (Nat.div m 2) r⟩
theorem lw.spec : ∀ {L L' : ALoc}, lw L L' → L.length = L'.length ∧ ∀ (i : Nat) v, L'[i]? = some (some v) → L[i]? = some (some v)
  | [], _, h => by cases h; exact ⟨rfl, fun i v q => by simp at q⟩
  | a :: r, _, ⟨x, r', e, h1, h2⟩ => by
    subst e
    obtain ⟨i1, i2⟩ := lw.spec h2
    refine ⟨by simp [i1], fun i v q => ?_⟩
    cases i with
    | zero =>
      simp only [List.getElem?_cons_zero, Option.some.injEq] at q ⊢
      rcases h1 with rfl | rfl
      · cases q
      · exact q
    | succ i => rw [List.getElem?_cons_succ] at q ⊢; exact i2 i v q
theorem lw.of : ∀ {L L' : ALoc}, L.length = L'.length → (∀ (i : Nat) v, L'[i]? = some (some v) → L[i]? = some (some v)) → lw L L'
  | [], L', h, _ => by cases L' with
    | nil => rfl
    | cons _ _ => simp at h
  | a :: r, L', h, q => by
    cases L' with
    | nil => simp at h
    | cons x r' =>
      refine ⟨x, r', rfl, ?_, lw.of (by simpa using h) fun i v e => ?_⟩
      · cases x with
        | none => exact Or.inl rfl
        | some v => have := q 0 v rfl; simp at this; exact Or.inr this.symm
      · have := q (i + 1) v (by rw [List.getElem?_cons_succ]; exact e); rwa [List.getElem?_cons_succ] at this
theorem lw.kill {L L' : ALoc} (h : lw L L') (i : Nat) : lw (kill1 L i) (kill1 L' i) := by
  obtain ⟨h1, h2⟩ := h.spec
  refine lw.of (by rw [kill1_len, kill1_len, h1]) fun j v q => ?_
  obtain ⟨q1, q2⟩ := kill1_get q
  have q3 := h2 _ _ q1
  unfold kill1
  split
  · exact q3
  · rename_i i
    split
    · rename_i x hx
      by_cases e : i = j
      · subst e; rw [hx] at q3; cases q3; exact absurd rfl (q2 rfl x)
      · rw [List.getElem?_set_ne e]; exact q3
    · exact q3
theorem lw.set {L L' : ALoc} (h : lw L L') (i : Nat) (x : Option Value) : lw (L.set i x) (L'.set i x) := by
  obtain ⟨h1, h2⟩ := h.spec
  refine lw.of (by simp [h1]) fun j v q => ?_
  rw [List.getElem?_set] at q ⊢
  split at q
  · rename_i e
    rw [if_pos e, h1]; exact q
  · rename_i e
    rw [if_neg e]; exact h2 _ _ q
theorem lw.put {L L' L1 : ALoc} (h : lw L L') {i : Nat} {v : Value} (hp : lput L' i v = some L1) : ∃ L2, lput L i v = some L2 ∧ lw L2 L1 := by
  unfold lput at hp ⊢
  rw [h.spec.1]
  rw [Bool.cond_eq_ite] at hp ⊢
  split at hp
  · rename_i hc
    cases hp; exact ⟨_, if_pos hc, (h.kill i).set i _⟩
  · cases hp
theorem lw.putL {L L' L1 : ALoc} (h : lw L L') {i : Nat} {v : Int64} (hp : lputL L' i v = some L1) : ∃ L2, lputL L i v = some L2 ∧ lw L2 L1 := by
  unfold lputL at hp ⊢
  rw [h.spec.1]
  rw [Bool.cond_eq_ite] at hp ⊢
  split at hp
  · rename_i hc
    cases hp; exact ⟨_, if_pos hc, ((h.kill i).set i _).set (i + 1) _⟩
  · cases hp
theorem lw.loadI {L L' : ALoc} (h : lw L L') {i : Nat} {x : Int32} (q : OwnX.loadI L' i = some x) : OwnX.loadI L i = some x := by
  unfold OwnX.loadI at q ⊢
  split at q
  · rename_i y hy
    rw [h.spec.2 _ _ hy]; exact q
  · cases q
theorem lw.loadJ {L L' : ALoc} (h : lw L L') {i : Nat} {x : Int64} (q : OwnX.loadJ L' i = some x) : OwnX.loadJ L i = some x := by
  unfold OwnX.loadJ at q ⊢
  split at q
  · rename_i y hy
    rw [h.spec.2 _ _ hy]; exact q
  · cases q
theorem lw.loadA {L L' : ALoc} (h : lw L L') {i x : Nat} (q : OwnX.loadA L' i = some x) : OwnX.loadA L i = some x := by
  unfold OwnX.loadA at q ⊢
  split at q
  · rename_i y hy
    rw [h.spec.2 _ _ hy]; exact q
  · cases q
set_option maxHeartbeats 4000000 in
theorem step_weak {i : Instr} {pc' : Nat} {S' : List Value} {H' : AHeap} {L1 : ALoc} (hw : lw L L') (h : step P k i np pc L' S H = some (pc', L1, S', H')) : ∃ L2, step P k i np pc L S H = some (pc', L2, S', H') ∧ lw L2 L1 := by
  cases i
  case iload_n n =>
    simp only [step] at h ⊢
    split at h
    · rename_i x hx
      rw [hw.loadI hx]; cases h; exact ⟨L, rfl, hw⟩
    · cases h
  case iload n =>
    simp only [step] at h ⊢
    split at h
    · rename_i x hx
      rw [hw.loadI hx]; cases h; exact ⟨L, rfl, hw⟩
    · cases h
  case lload_n n =>
    simp only [step] at h ⊢
    split at h
    · rename_i x hx
      rw [hw.loadJ hx]; cases h; exact ⟨L, rfl, hw⟩
    · cases h
  case lload n =>
    simp only [step] at h ⊢
    split at h
    · rename_i x hx
      rw [hw.loadJ hx]; cases h; exact ⟨L, rfl, hw⟩
    · cases h
  case aload_n n =>
    simp only [step] at h ⊢
    split at h
    · rename_i x hx
      rw [hw.loadA hx]; cases h; exact ⟨L, rfl, hw⟩
    · cases h
  case aload n =>
    simp only [step] at h ⊢
    split at h
    · rename_i x hx
      rw [hw.loadA hx]; cases h; exact ⟨L, rfl, hw⟩
    · cases h
  case istore_n n =>
    simp only [step] at h ⊢
    split at h
    · split at h
      · rename_i L3 hx
        obtain ⟨L2, e1, e2⟩ := hw.put hx
        cases h; exact ⟨L2, by simp only [e1], e2⟩
      · cases h
    · cases h
  case istore n =>
    simp only [step] at h ⊢
    split at h
    · split at h
      · rename_i L3 hx
        obtain ⟨L2, e1, e2⟩ := hw.put hx
        cases h; exact ⟨L2, by simp only [e1], e2⟩
      · cases h
    · cases h
  case astore_n n =>
    simp only [step] at h ⊢
    split at h
    · split at h
      · rename_i L3 hx
        obtain ⟨L2, e1, e2⟩ := hw.put hx
        cases h; exact ⟨L2, by simp only [e1], e2⟩
      · cases h
    · cases h
  case astore n =>
    simp only [step] at h ⊢
    split at h
    · split at h
      · rename_i L3 hx
        obtain ⟨L2, e1, e2⟩ := hw.put hx
        cases h; exact ⟨L2, by simp only [e1], e2⟩
      · cases h
    · cases h
  case lstore_n n =>
    simp only [step] at h ⊢
    split at h
    · split at h
      · rename_i L3 hx
        obtain ⟨L2, e1, e2⟩ := hw.putL hx
        cases h; exact ⟨L2, by simp only [e1], e2⟩
      · cases h
    · cases h
  case lstore n =>
    simp only [step] at h ⊢
    split at h
    · split at h
      · rename_i L3 hx
        obtain ⟨L2, e1, e2⟩ := hw.putL hx
        cases h; exact ⟨L2, by simp only [e1], e2⟩
      · cases h
    · cases h
  case iinc n c =>
    simp only [step] at h ⊢
    split at h
    · rename_i x hx
      rw [hw.loadI hx]
      split at h
      · rename_i L3 hp
        obtain ⟨L2, e1, e2⟩ := hw.put hp
        cases h; exact ⟨L2, by simp only [e1], e2⟩
      · cases h
    · cases h
  all_goals
    simp only [step, Bool.cond_eq_ite] at h ⊢
    repeat' (split at h)
  all_goals first
    | (cases h; done)
    | (simp only [Option.some.injEq, Prod.mk.injEq] at h; obtain ⟨rfl, rfl, rfl, rfl⟩ := h; refine ⟨L, ?_, hw⟩; first | rfl | (simp only [*, if_true, if_false]; done) | (simp [*]; done))
theorem run_weak : ∀ (n : Nat) {pc : Nat} {L L' : ALoc} {S : List Value} {H : AHeap} {out : Option Value × AHeap}, lw L L' → run P n k pc L' S H = some out → run P n k pc L S H = some out
  | 0, _, _, _, _, _, _, _, h => by simp [run] at h
  | n + 1, pc, L, L', S, H, out, hw, h => by
    rw [run] at h
    rw [run]
    split at h
    · cases h
    · rename_i i np hc
      try simp only [hc]
      split at h
      · rename_i v hv
        try simp only [hv]
        exact h
      · rename_i hv
        try simp only [hv]
        split at h
        · rename_i k' as rest hcall
          try simp only [hcall]
          split at h
          · rename_i v1 H1 h1
            try simp only [h1]
            exact run_weak n hw h
          · cases h
        · rename_i hcall
          try simp only [hcall]
          split at h
          · rename_i pc1 L1 S1 H1 h1
            obtain ⟨L2, e1, e2⟩ := step_weak hw h1
            simp only [e1]; exact run_weak n e2 h
          · cases h
theorem Eval.weak (hw : lw L L') (h : Eval P k pc L' S H out) : Eval P k pc L S H out := by
  obtain ⟨n, h⟩ := h
  exact ⟨n, run_weak n hw h⟩
end Rules
end Jvm.OwnX
namespace Jvm.OwnX
open Sem ClassFile Op Lib Jvm.Stand Jvm.Free Jvm.LawKit Jvm.RoadKit
/-! ## tables as lists -/
def findC : List (Nat × Instr × Nat) → Nat → Option (Instr × Nat)
  | [], _ => none
  | (q, x) :: r, pc => bif Nat.beq q pc then some x else findC r pc
abbrev CodeL := List (ByteArray × List (List (Nat × Instr × Nat)))
def codeAt (cs : CodeL) (k pc : Nat) : Option (Instr × Nat) := match cs[k]? with
  | some (_, ch) => (match ch[pc / 32]? with | some c => findC c pc | none => none)
  | none => none
def bcOf (cs : CodeL) (k : Nat) : ByteArray := match cs[k]? with | some (b, _) => b | none => ⟨#[]⟩
def okI (b : ByteArray) (e : Nat × Instr × Nat) : Bool := match decode b e.1 with
  | .ok (i, len) => decide (i = e.2.1) && Nat.beq (e.1 + len) e.2.2 && (Nat.beq (ilen i) 0 || Nat.beq len (ilen i))
  | _ => false
def okCs (cs : CodeL) : Bool := cs.all fun m => m.2.all fun c => c.all (okI m.1)
def tyCs (ty : ArrayType → Bool) (cs : CodeL) : Bool := cs.all fun m => m.2.all fun c => c.all fun e => match e.2.1 with | .newarray t => ty t | _ => true
theorem findC_mem : ∀ {l : List (Nat × Instr × Nat)} {pc : Nat} {x : Instr × Nat}, findC l pc = some x → (pc, x) ∈ l
  | [], pc, x, h => by cases h
  | (q, y) :: r, pc, x, h => by
    unfold findC at h
    cases hb : Nat.beq q pc
    · rw [hb] at h; exact List.mem_cons_of_mem _ (findC_mem h)
    · rw [hb] at h; cases h
      have : q = pc := Nat.eq_of_beq_eq_true hb
      subst this; exact List.mem_cons_self ..
theorem codeAt_mem {cs : CodeL} {k pc : Nat} {x : Instr × Nat} (h : codeAt cs k pc = some x) : ∃ m ∈ cs, bcOf cs k = m.1 ∧ ∃ c ∈ m.2, (pc, x) ∈ c := by
  unfold codeAt at h
  split at h
  · rename_i b ch hk
    split at h
    · rename_i c hc
      exact ⟨(b, ch), List.mem_of_getElem? hk, by simp [bcOf, hk], c, List.mem_of_getElem? hc, findC_mem h⟩
    · cases h
  · cases h
theorem code_ok {cs : CodeL} (h : okCs cs = true) {k pc : Nat} {i : Instr} {np : Nat} (hc : codeAt cs k pc = some (i, np)) : ∃ len, decode (bcOf cs k) pc = .ok (i, len) ∧ np = pc + len ∧ (ilen i = 0 ∨ len = ilen i) := by
  obtain ⟨m, h1, h2, c, h3, h4⟩ := codeAt_mem hc
  have q := List.all_eq_true.mp (List.all_eq_true.mp (List.all_eq_true.mp h m h1) c h3) _ h4
  unfold okI at q
  rw [h2]
  split at q
  · rename_i i' len hd
    simp only [Bool.and_eq_true, Bool.or_eq_true, decide_eq_true_eq] at q
    obtain ⟨⟨rfl, q2⟩, q3⟩ := q
    refine ⟨len, hd, (Nat.eq_of_beq_eq_true q2).symm, q3.elim (fun z => Or.inl (Nat.eq_of_beq_eq_true z)) fun z => Or.inr (Nat.eq_of_beq_eq_true z)⟩
  · cases q
theorem code_ty {ty : ArrayType → Bool} {cs : CodeL} (h : tyCs ty cs = true) {k pc : Nat} {t : ArrayType} {np : Nat} (hc : codeAt cs k pc = some (.newarray t, np)) : ty t = true := by
  obtain ⟨m, h1, h2, c, h3, h4⟩ := codeAt_mem hc
  exact List.all_eq_true.mp (List.all_eq_true.mp (List.all_eq_true.mp h m h1) c h3) _ h4
def lookT {α : Type} : List (Nat × Nat × α) → Nat → Nat → Option α
  | [], _, _ => none
  | (c', j', x) :: r, c, j => bif Nat.beq j' j && Nat.beq c' c then some x else lookT r c j
theorem lookT_mem {α : Type} : ∀ {l : List (Nat × Nat × α)} {c j : Nat} {x : α}, lookT l c j = some x → (c, j, x) ∈ l
  | [], c, j, x, h => by cases h
  | (c', j', y) :: r, c, j, x, h => by
    unfold lookT at h
    cases hb : (Nat.beq j' j && Nat.beq c' c)
    · rw [hb] at h; exact List.mem_cons_of_mem _ (lookT_mem h)
    · rw [hb] at h; cases h
      simp only [Bool.and_eq_true] at hb
      have h1 : j' = j := Nat.eq_of_beq_eq_true hb.1
      have h2 : c' = c := Nat.eq_of_beq_eq_true hb.2
      subst h1 h2; exact List.mem_cons_self ..
def AllP {α : Type} (p : α → Prop) : List α → Prop
  | [] => True
  | a :: r => p a ∧ AllP p r
theorem AllP.mem {α : Type} {p : α → Prop} : ∀ {l : List α}, AllP p l → ∀ a ∈ l, p a
  | [], _, a, h => nomatch h
  | _ :: _, ⟨h1, h2⟩, a, h => (List.mem_cons.mp h).elim (fun e => e ▸ h1) (AllP.mem h2 a)
def FldOk (P : Prog) (cn : Nat → String) (C : String) (Z : State) (a0 : Array Value) (e : Nat × Nat × Nat) : Prop := ∃ n d t fin, P.fields[e.2.2]? = some (n, d, t, fin) ∧ (Cond.fieldLink (cn e.1) e.2.1 C n d).before a0 Z = true
def FieldOk (C : String) (Z : State) (a0 : Array Value) (e : String × String × Nat × Bool) : Prop := (bif e.2.2.2 then (Cond.laysFinal C C e.1 e.2.1).before a0 Z else (Cond.lays C C e.1 e.2.1).before a0 Z) = true ∧ ∃ ty, parseFieldDescriptor e.2.1 = some ty ∧ tyOk e.2.2.1 ty = true ∧ defaultValue ty = dflt e.2.2.1
theorem good_of {cs : CodeL} {mi : Nat → MI} {links : List (Nat × Nat × Nat × Nat)} {flds : List (Nat × Nat × Nat)} {kons : List (Nat × Nat × Value)} {fields : List (String × String × Nat × Bool)} {objN ro cc cS : Nat} {nm : Nat → MethodName} {cn : Nat → String} {C : String} {Z : State} {a0 : Array Value} {ty : ArrayType → Bool} {P : Prog}
    (hP : P = (codeAt cs, mi, lookT links, lookT flds, lookT kons, fields, objN, ro, cc, cS)) (h1 : okCs cs = true) (h2 : AllP (FldOk P cn C Z a0) flds) (h3 : AllP (FieldOk C Z a0) fields) (h4 : (fields.map (·.1)).Nodup) (h5 : AllP (fun e => KonOk cn Z a0 e.1 e.2.1 e.2.2) kons)
    (h6 : (Cond.instantiable C objN).before a0 Z = true) (h7 : (Cond.initialized C).before a0 Z = true) (h8 : tyCs ty cs = true) (h8' : ∀ t, ty t = true → (Cond.arrayClass (newarray.typeOf t)).before a0 Z = true) (h9 : AllP (fun e => LinkOk P nm (bcOf cs) cn C Z a0 e.1 e.2.1 e.2.2.1 e.2.2.2) links) : Good P nm (bcOf cs) cn C Z a0 := by
  subst hP
  refine ⟨fun k pc i np h => code_ok h1 h, fun c j f h => h2.mem _ (lookT_mem h), fun f n d t fin h => h3.mem _ (List.mem_of_getElem? h), fun f g n d t fin n' d' t' fin' q1 q2 ne e => ?_, fun c j v h => h5.mem _ (lookT_mem h), h6, h7, fun k pc t np h => h8' _ (code_ty h8 h), fun c j q k h => h9.mem _ (lookT_mem h)⟩
  subst e
  have e1 : (fields.map (·.1))[f]? = some n := by rw [List.getElem?_map]; exact congrArg (Option.map (·.1)) q1
  have e2 : (fields.map (·.1))[g]? = some n := by rw [List.getElem?_map]; exact congrArg (Option.map (·.1)) q2
  exact ne ((List.getElem?_inj (List.getElem?_eq_some_iff.mp e1).1 h4).mp (e1.trans e2.symm))
/-! ## what the walks of functions use -/
theorem ite_some {α : Type} {c : Prop} [Decidable c] {a : Option α} {r : α} (h : (if c then a else none) = some r) : c ∧ a = some r := by
  by_cases hc : c
  · rw [if_pos hc] at h; exact ⟨hc, h⟩
  · rw [if_neg hc] at h; cases h
theorem ite_none {α : Type} {c : Prop} [Decidable c] {a : Option α} {r : α} (h : (if c then none else a) = some r) : ¬ c ∧ a = some r := by
  by_cases hc : c
  · rw [if_pos hc] at h; cases h
  · rw [if_neg hc] at h; exact ⟨hc, h⟩
theorem bind_some {α β : Type} {o : Option α} {f : α → Option β} {r : β} (h : o.bind f = some r) : ∃ a, o = some a ∧ f a = some r := Option.bind_eq_some_iff.mp h
section Calls
variable {P : Prog} {k pc np : Nat} {L L' : ALoc} {S S' : List Value} {H H1 : AHeap} {out : Option Value × AHeap} {i : Instr} {k' : Nat} {as rest : List Value}
theorem Eval.callI {x : Int32} (hc : P.code k pc = some (i, np)) (h2 : callV P k i S H = some (k', as, rest)) (he : Eval P k' 0 (entry P k' as) [] H (some (.int x), H1)) (h : Eval P k np L (.int x :: rest) H1 out) : Eval P k pc L S H out := Eval.call hc h2 he h
theorem Eval.callJ {x : Int64} (hc : P.code k pc = some (i, np)) (h2 : callV P k i S H = some (k', as, rest)) (he : Eval P k' 0 (entry P k' as) [] H (some (.long x), H1)) (h : Eval P k np L (.long x :: rest) H1 out) : Eval P k pc L S H out := Eval.call hc h2 he h
theorem Eval.callN (hc : P.code k pc = some (i, np)) (h2 : callV P k i S H = some (k', as, rest)) (he : Eval P k' 0 (entry P k' as) [] H (none, H1)) (h : Eval P k np L rest H1 out) : Eval P k pc L S H out := Eval.call hc h2 he h
theorem Eval.conv (h : Eval P k pc L S H out) (e1 : L = L') (e2 : S = S') : Eval P k pc L' S' H out := e1 ▸ e2 ▸ h
theorem Eval.heap {H' : AHeap} (e : H' = H) (h : Eval P k pc L S H' out) : Eval P k pc L S H out := e ▸ h
theorem Eval.retH {H' : AHeap} {v : Option Value} (e : H' = H) (hc : P.code k pc = some (i, np)) (h1 : retV P k i S = some v) : Eval P k pc L S H (v, H') := e ▸ Eval.ret hc h1
end Calls
end Jvm.OwnX
namespace Jvm.OwnX
open Sem ClassFile Op Lib Jvm.Stand Jvm.Free Jvm.LawKit Jvm.RoadKit
theorem HR.none (P : Prog) (C : String) (Z : State) (n0 : Nat) (h : Heap) : HR P C Z n0 [] [] h := ⟨rfl, fun i j a q => by simp at q, fun i a q => by simp at q, fun i c q => by simp at q⟩
def intOf : Value → Int32
  | .int x => x
  | _ => 0
theorem script_start {P : Prog} {C : String} {s : State} {a : Addr} {c : Cell} (hro : P.ro = 1) (hf : Fit s) (A : Arr s s.heap a c .int) : HR P C s s.heap.size [a] [.inr (.inl (0, c.slots.toList.map intOf))] s.heap := by
  have hlt := (Array.getElem?_eq_some_iff.mp A.1).1
  have hint : ∀ i (hi : i < c.slots.size), ∃ x, c.slots[i] = .int x := fun i hi => by
    have q := hf A.1 hi
    obtain ⟨hs, k, hk, comp, hkind⟩ := A.2.1
    have e : s.slotType? c.cls c.vm i = some .int := by
      cases hq : c.vm <;> first | exact absurd hq (hs _) | simp [State.slotType?, hk, hkind]
    have q2 : fits .int c.slots[i] = true := by simpa [State.fitsSlot, e] using q
    exact fit_I q2 (Or.inl rfl)
  refine ⟨rfl, fun i j x q1 q2 => ?_, fun i x q => ?_, fun i d q => ?_⟩
  · cases i with
    | zero => cases j with
      | zero => rfl
      | succ j => simp at q2
    | succ i => simp at q1
  · cases i with
    | zero => simp at q; subst q; exact ⟨hlt, fun h => by rw [hro] at h; omega⟩
    | succ i => simp at q
  · cases i with
    | zero =>
      simp at q; subst q
      refine ⟨a, rfl, c, A, by simp, fun j x hx => ?_⟩
      rw [List.getElem?_map] at hx
      obtain ⟨v, hv, rfl⟩ := Option.map_eq_some_iff.mp hx
      rw [Array.getElem?_toList] at hv
      obtain ⟨hj, rfl⟩ := Array.getElem?_eq_some_iff.mp hv
      obtain ⟨x, e⟩ := hint j hj
      rw [Array.getElem?_eq_getElem hj, e]; rfl
    | succ i => simp at q
end Jvm.OwnX
namespace Jvm.OwnX
/-! ## plain facts on the functions' words -/
theorem len_wr (xs : List Int32) (j v : Int32) : (wr xs j v).length = xs.length := by simp [wr]
theorem len_wrL (xs : List Int64) (j : Int32) (v : Int64) : (wrL xs j v).length = xs.length := by simp [wrL]
theorem rd_wr_same {xs : List Int32} {j : Int32} (h : inb xs.length j = true) (v : Int32) : rd (wr xs j v) j = v := by
  have := inb_lt h
  simp [rd, wr, List.getD_eq_getElem?_getD, this]
theorem rdL_wrL_same {xs : List Int64} {j : Int32} (h : inb xs.length j = true) (v : Int64) : rdL (wrL xs j v) j = v := by
  have := inb_lt h
  simp [rdL, wrL, List.getD_eq_getElem?_getD, this]
theorem nat_inj {i j : Int32} (hi : ¬ i < 0) (hj : ¬ j < 0) (h : i.toNatClampNeg = j.toNatClampNeg) : i = j := by
  apply Int32.toInt_inj.mp
  simp only [Int32.lt_iff_toInt_lt, Int32.toNatClampNeg, Int32.reduceToInt] at hi hj h; omega
theorem inb_nn {n : Nat} {j : Int32} (h : inb n j = true) : ¬ j < 0 := fun q => inb_spec h (Or.inl q)
theorem rd_wr_ne {xs : List Int32} {i j : Int32} (hi : ¬ i < 0) (hj : ¬ j < 0) (h : i ≠ j) (v : Int32) : rd (wr xs i v) j = rd xs j := by
  have : i.toNatClampNeg ≠ j.toNatClampNeg := fun q => h (nat_inj hi hj q)
  simp [rd, wr, List.getD_eq_getElem?_getD, List.getElem?_set_ne this]
theorem rdL_wrL_ne {xs : List Int64} {i j : Int32} (hi : ¬ i < 0) (hj : ¬ j < 0) (h : i ≠ j) (v : Int64) : rdL (wrL xs i v) j = rdL xs j := by
  have : i.toNatClampNeg ≠ j.toNatClampNeg := fun q => h (nat_inj hi hj q)
  simp [rdL, wrL, List.getD_eq_getElem?_getD, List.getElem?_set_ne this]
theorem rd_rep (n : Nat) (j : Int32) : rd (List.replicate n 0) j = 0 := by
  simp only [rd, List.getD_eq_getElem?_getD, List.getElem?_replicate]; split <;> rfl
theorem rdL_rep (n : Nat) (j : Int32) : rdL (List.replicate n 0) j = 0 := by
  simp only [rdL, List.getD_eq_getElem?_getD, List.getElem?_replicate]; split <;> rfl
theorem inb_iff {n : Nat} {j : Int32} : inb n j = true ↔ 0 ≤ j.toInt ∧ j.toInt < n := by
  simp only [inb, Bool.and_eq_true, Bool.not_eq_true', decide_eq_false_iff_not, Int32.lt_iff_toInt_lt, Int32.reduceToInt]
  constructor
  · rintro ⟨h1, h2⟩
    have h3 := Nat.le_of_ble_eq_true h2
    simp only [Int32.toNatClampNeg] at h3
    omega
  · rintro ⟨h1, h2⟩
    refine ⟨by omega, Nat.ble_eq_true_of_le ?_⟩
    simp only [Int32.toNatClampNeg]; omega
theorem lt32 {x y : Int32} : x < y ↔ x.toInt < y.toInt := Int32.lt_iff_toInt_lt
theorem eq32 {x y : Int32} : x = y ↔ x.toInt = y.toInt := Int32.toInt_inj.symm
end Jvm.OwnX
namespace Jvm.Pilot.@@N@@
open Jvm Jvm.ClassFile Sem Op Lib Jvm.Free Jvm.Stand Jvm.LawKit Jvm.RoadKit Bundle Jvm.Pilot.@@N@@.Jvm.D Jvm.OwnX
/-! # tables (printed by gen.py out of the claim's listing and sheet) -/
set_option maxHeartbeats 4000000 in
set_option maxRecDepth 100000 in
def own_cs : CodeL := [
  (code, [
    [(0, .aload_n 0, 1), (1, .arraylength, 2), (2, .ifCond .le 9, 5), (5, .aload_n 0, 6), (6, .iconst 0, 7), (7, .iaload, 8), (8, .goto 4, 11), (11, .iconst 4, 12), (12, .istore_n 1, 13), (13, .iload_n 1, 14), (14, .iconst 2, 15), (15, .if_icmp .ge 7, 18), (18, .iconst 2, 19), (19, .goto 15, 22), (22, .iload_n 1, 23), (23, .bipush 32, 25), (25, .if_icmp .le 8, 28), (28, .bipush 32, 30), (30, .goto 4, 33)],
    [(33, .iload_n 1, 34), (34, .istore_n 2, 35), (35, .new 7, 38), (38, .dup, 39), (39, .iload_n 1, 40), (40, .invokespecial 9, 43), (43, .astore_n 3, 44), (44, .iconst 0, 45), (45, .istore 4, 47), (47, .iconst 0, 48), (48, .istore 5, 50), (50, .iconst 0, 51), (51, .istore 6, 53), (53, .iconst 0, 54), (54, .istore 7, 56), (56, .iconst (-1), 57), (57, .istore 8, 59), (59, .iconst (-1), 60), (60, .istore 9, 62), (62, .iconst 1, 63), (63, .istore 10, 65)],
    [(65, .iload 10, 67), (67, .iconst 2, 68), (68, .iadd, 69), (69, .aload_n 0, 70), (70, .arraylength, 71), (71, .if_icmp .ge 452, 74), (74, .aload_n 0, 75), (75, .iload 10, 77), (77, .iaload, 78), (78, .bipush 7, 80), (80, .iand, 81), (81, .istore 11, 83), (83, .aload_n 0, 84), (84, .iload 10, 86), (86, .iconst 1, 87), (87, .iadd, 88), (88, .iaload, 89), (89, .istore 12, 91), (91, .aload_n 0, 92), (92, .iload 10, 94), (94, .iconst 2, 95), (95, .iadd, 96)],
    [(96, .iaload, 97), (97, .bipush 7, 99), (99, .iand, 100), (100, .iconst 5, 101), (101, .irem, 102), (102, .istore 13, 104), (104, .iload 11, 106), (106, .iconst 1, 107), (107, .if_icmp .gt 96, 110), (110, .iload 4, 112), (112, .ifCond .ne 24, 115), (115, .iload 13, 117), (117, .iconst 1, 118), (118, .if_icmp .lt 18, 121), (121, .iload 5, 123), (123, .iload 13, 125), (125, .iadd, 126), (126, .sipush 256, 129)],
    [(129, .if_icmp .gt 7, 132), (132, .iconst 1, 133), (133, .goto 4, 136), (136, .iconst 0, 137), (137, .istore 14, 139), (139, .aload_n 3, 140), (140, .iload 12, 142), (142, .iload 13, 144), (144, .invokevirtual 12, 147), (147, .istore 15, 149), (149, .iload 14, 151), (151, .ifCond .eq 41, 154), (154, .iload 15, 156), (156, .iload 5, 158), (158, .iload 13, 160)],
    [(160, .iadd, 161), (161, .if_icmp .eq 5, 164), (164, .iconst 0, 165), (165, .ireturn, 166), (166, .iload 5, 168), (168, .iload 13, 170), (170, .iadd, 171), (171, .istore 5, 173), (173, .iload 12, 175), (175, .bipush 8, 177), (177, .iload 13, 179), (179, .iconst 1, 180), (180, .isub, 181), (181, .imul, 182), (182, .iushr, 183), (183, .sipush 255, 186), (186, .iand, 187), (187, .istore 8, 189), (189, .goto 11, 192)],
    [(192, .iload 15, 194), (194, .iconst (-1), 195), (195, .if_icmp .eq 5, 198), (198, .iconst 0, 199), (199, .ireturn, 200), (200, .goto 295, 203), (203, .iload 11, 205), (205, .iconst 3, 206), (206, .if_icmp .gt 97, 209), (209, .iload 4, 211), (211, .iconst 1, 212), (212, .if_icmp .gt 24, 215), (215, .iload 13, 217), (217, .iconst 1, 218), (218, .if_icmp .lt 18, 221), (221, .iload 6, 223), (223, .iload 13, 225)],
    [(225, .iadd, 226), (226, .sipush 256, 229), (229, .if_icmp .gt 7, 232), (232, .iconst 1, 233), (233, .goto 4, 236), (236, .iconst 0, 237), (237, .istore 14, 239), (239, .aload_n 3, 240), (240, .iload 12, 242), (242, .iload 13, 244), (244, .invokevirtual 16, 247), (247, .istore 15, 249), (249, .iload 14, 251), (251, .ifCond .eq 41, 254), (254, .iload 15, 256)],
    [(256, .iload 6, 258), (258, .iload 13, 260), (260, .iadd, 261), (261, .if_icmp .eq 5, 264), (264, .iconst 0, 265), (265, .ireturn, 266), (266, .iload 6, 268), (268, .iload 13, 270), (270, .iadd, 271), (271, .istore 6, 273), (273, .iload 12, 275), (275, .bipush 8, 277), (277, .iload 13, 279), (279, .iconst 1, 280), (280, .isub, 281), (281, .imul, 282), (282, .iushr, 283), (283, .sipush 255, 286), (286, .iand, 287), (287, .istore 9, 289)],
    [(289, .goto 11, 292), (292, .iload 15, 294), (294, .iconst (-1), 295), (295, .if_icmp .eq 5, 298), (298, .iconst 0, 299), (299, .ireturn, 300), (300, .goto 195, 303), (303, .iload 11, 305), (305, .iconst 4, 306), (306, .if_icmp .ne 46, 309), (309, .aload_n 3, 310), (310, .invokevirtual 19, 313), (313, .istore 14, 315), (315, .iload 4, 317), (317, .ifCond .ne 24, 320)],
    [(320, .iload 14, 322), (322, .iload 5, 324), (324, .iload_n 2, 325), (325, .iadd, 326), (326, .iconst 1, 327), (327, .isub, 328), (328, .iload_n 2, 329), (329, .idiv, 330), (330, .if_icmp .eq 5, 333), (333, .iconst 0, 334), (334, .ireturn, 335), (335, .iconst 1, 336), (336, .istore 4, 338), (338, .goto 11, 341), (341, .iload 14, 343), (343, .iconst (-1), 344), (344, .if_icmp .eq 5, 347), (347, .iconst 0, 348), (348, .ireturn, 349), (349, .goto 146, 352)],
    [(352, .iload 11, 354), (354, .iconst 5, 355), (355, .if_icmp .ne 73, 358), (358, .aload_n 3, 359), (359, .invokevirtual 23, 362), (362, .istore 14, 364), (364, .iload 4, 366), (366, .iconst 1, 367), (367, .if_icmp .ne 50, 370), (370, .iload 14, 372), (372, .ifCond .lt 33, 375), (375, .iload 14, 377), (377, .iload 6, 379), (379, .if_icmp .gt 26, 382), (382, .iload 6, 384)],
    [(384, .ifCond .ne 7, 387), (387, .iconst 1, 388), (388, .goto 4, 391), (391, .iconst 0, 392), (392, .iload 14, 394), (394, .ifCond .ne 7, 397), (397, .iconst 1, 398), (398, .goto 4, 401), (401, .iconst 0, 402), (402, .if_icmp .eq 5, 405), (405, .iconst 0, 406), (406, .ireturn, 407), (407, .iload 14, 409), (409, .istore 7, 411), (411, .iconst 2, 412), (412, .istore 4, 414), (414, .goto 11, 417)],
    [(417, .iload 14, 419), (419, .iconst (-1), 420), (420, .if_icmp .eq 5, 423), (423, .iconst 0, 424), (424, .ireturn, 425), (425, .goto 70, 428), (428, .iload 11, 430), (430, .bipush 6, 432), (432, .if_icmp .ne 41, 435), (435, .aload_n 3, 436), (436, .invokevirtual 26, 439), (439, .istore 14, 441), (441, .iload 4, 443), (443, .iconst 2, 444), (444, .if_icmp .lt 18, 447), (447, .iload 14, 449)],
    [(449, .iload 6, 451), (451, .if_icmp .eq 5, 454), (454, .iconst 0, 455), (455, .ireturn, 456), (456, .iconst 3, 457), (457, .istore 4, 459), (459, .goto 11, 462), (462, .iload 14, 464), (464, .iconst (-1), 465), (465, .if_icmp .eq 5, 468), (468, .iconst 0, 469), (469, .ireturn, 470), (470, .goto 25, 473), (473, .aload_n 3, 474), (474, .invokevirtual 29, 477), (477, .iconst 0, 478), (478, .istore 4, 480)],
    [(480, .iconst 0, 481), (481, .istore 5, 483), (483, .iconst 0, 484), (484, .istore 6, 486), (486, .iconst 0, 487), (487, .istore 7, 489), (489, .iconst (-1), 490), (490, .istore 8, 492), (492, .iconst (-1), 493), (493, .istore 9, 495), (495, .aload_n 3, 496), (496, .iload_n 2, 497), (497, .iload 4, 499), (499, .iload 5, 501), (501, .iload 6, 503), (503, .iload 7, 505), (505, .iload 8, 507), (507, .iload 9, 509), (509, .invokestatic 32, 512)],
    [(512, .ifCond .ne 5, 515), (515, .iconst 0, 516), (516, .ireturn, 517), (517, .iinc 10 3, 520), (520, .goto (-455), 523), (523, .iconst 1, 524), (524, .ireturn, 525)]]),
  (prog_1_method_1_code, [
    [(0, .aload_n 0, 1), (1, .invokespecial 1, 4), (4, .aload_n 0, 5), (5, .sipush 256, 8), (8, .newarray .int, 10), (10, .putfield 7, 13), (13, .aload_n 0, 14), (14, .sipush 256, 17), (17, .newarray .int, 19), (19, .putfield 13, 22), (22, .aload_n 0, 23), (23, .sipush 256, 26), (26, .newarray .int, 28), (28, .putfield 16, 31), (31, .aload_n 0, 32)],
    [(32, .sipush 256, 35), (35, .newarray .int, 37), (37, .putfield 19, 40), (40, .aload_n 0, 41), (41, .sipush 128, 44), (44, .newarray .int, 46), (46, .putfield 22, 49), (49, .aload_n 0, 50), (50, .sipush 128, 53), (53, .newarray .int, 55), (55, .putfield 25, 58), (58, .aload_n 0, 59), (59, .sipush 128, 62), (62, .newarray .long, 64)],
    [(64, .putfield 28, 67), (67, .aload_n 0, 68), (68, .sipush 256, 71), (71, .newarray .int, 73), (73, .putfield 32, 76), (76, .aload_n 0, 77), (77, .sipush 128, 80), (80, .newarray .int, 82), (82, .putfield 35, 85), (85, .aload_n 0, 86), (86, .sipush 256, 89), (89, .newarray .int, 91), (91, .putfield 38, 94), (94, .aload_n 0, 95), (95, .sipush 256, 98)],
    [(98, .newarray .int, 100), (100, .putfield 41, 103), (103, .iload_n 1, 104), (104, .istore_n 2, 105), (105, .iload_n 2, 106), (106, .iconst 2, 107), (107, .if_icmp .ge 5, 110), (110, .iconst 2, 111), (111, .istore_n 2, 112), (112, .iload_n 2, 113), (113, .bipush 32, 115), (115, .if_icmp .le 6, 118), (118, .bipush 32, 120), (120, .istore_n 2, 121), (121, .aload_n 0, 122), (122, .iload_n 2, 123), (123, .putfield 44, 126), (126, .aload_n 0, 127), (127, .invokevirtual 48, 130)],
    [(130, .return_, 131)]]),
  (prog_1_method_2_code, [
    [(0, .aload_n 0, 1), (1, .iconst 0, 2), (2, .putfield 51, 5), (5, .aload_n 0, 6), (6, .iconst 0, 7), (7, .putfield 54, 10), (10, .aload_n 0, 11), (11, .iconst 0, 12), (12, .putfield 57, 15), (15, .aload_n 0, 16), (16, .iconst 0, 17), (17, .putfield 60, 20), (20, .aload_n 0, 21), (21, .iconst 0, 22), (22, .putfield 63, 25), (25, .aload_n 0, 26), (26, .iconst 0, 27), (27, .putfield 66, 30), (30, .aload_n 0, 31), (31, .iconst (-1), 32)],
    [(32, .putfield 69, 35), (35, .aload_n 0, 36), (36, .iconst (-1), 37), (37, .putfield 72, 40), (40, .aload_n 0, 41), (41, .iconst 0, 42), (42, .putfield 75, 45), (45, .aload_n 0, 46), (46, .iconst 0, 47), (47, .putfield 78, 50), (50, .aload_n 0, 51), (51, .iconst 0, 52), (52, .putfield 81, 55), (55, .return_, 56)]]),
  (prog_1_method_4_code, [
    [(0, .aload_n 0, 1), (1, .getfield 81, 4), (4, .ifCond .eq 13, 7), (7, .aload_n 0, 8), (8, .getfield 81, 11), (11, .iconst 1, 12), (12, .if_icmp .eq 5, 15), (15, .iconst (-1), 16), (16, .ireturn, 17), (17, .iload_n 2, 18), (18, .iconst 1, 19), (19, .if_icmp .lt 8, 22), (22, .iload_n 2, 23), (23, .iconst 4, 24), (24, .if_icmp .le 5, 27), (27, .iconst (-1), 28), (28, .ireturn, 29), (29, .aload_n 0, 30), (30, .getfield 54, 33)],
    [(33, .iload_n 2, 34), (34, .iadd, 35), (35, .sipush 256, 38), (38, .if_icmp .le 5, 41), (41, .iconst (-1), 42), (42, .ireturn, 43), (43, .iconst 0, 44), (44, .istore_n 3, 45), (45, .iload_n 3, 46), (46, .iload_n 2, 47), (47, .if_icmp .ge 38, 50), (50, .aload_n 0, 51), (51, .getfield 13, 54), (54, .aload_n 0, 55), (55, .getfield 54, 58), (58, .iload_n 1, 59), (59, .bipush 8, 61), (61, .iload_n 3, 62), (62, .imul, 63), (63, .iushr, 64)],
    [(64, .sipush 255, 67), (67, .iand, 68), (68, .iastore, 69), (69, .aload_n 0, 70), (70, .dup, 71), (71, .getfield 54, 74), (74, .iconst 1, 75), (75, .iadd, 76), (76, .putfield 54, 79), (79, .iinc 3 1, 82), (82, .goto (-37), 85), (85, .aload_n 0, 86), (86, .getfield 54, 89), (89, .ireturn, 90)]]),
  (method_3_code, [
    [(0, .aload_n 0, 1), (1, .invokevirtual 38, 4), (4, .iload_n 2, 5), (5, .if_icmp .eq 5, 8), (8, .iconst 0, 9), (9, .ireturn, 10), (10, .aload_n 0, 11), (11, .iconst 0, 12), (12, .invokevirtual 41, 15), (15, .iload_n 3, 16), (16, .if_icmp .ne 13, 19), (19, .aload_n 0, 20), (20, .iconst 1, 21), (21, .invokevirtual 41, 24), (24, .iload 4, 26), (26, .if_icmp .eq 5, 29), (29, .iconst 0, 30), (30, .ireturn, 31), (31, .iload_n 2, 32)],
    [(32, .iconst 1, 33), (33, .if_icmp .lt 13, 36), (36, .iload_n 3, 37), (37, .iload_n 1, 38), (38, .iadd, 39), (39, .iconst 1, 40), (40, .isub, 41), (41, .iload_n 1, 42), (42, .idiv, 43), (43, .goto 4, 46), (46, .iconst 0, 47), (47, .istore 8, 49), (49, .aload_n 0, 50), (50, .invokevirtual 45, 53), (53, .iload 8, 55), (55, .if_icmp .eq 5, 58), (58, .iconst 0, 59), (59, .ireturn, 60), (60, .iload 8, 62), (62, .ifCond .le 24, 65)],
    [(65, .aload_n 0, 66), (66, .iload 8, 68), (68, .iconst 1, 69), (69, .isub, 70), (70, .invokevirtual 48, 73), (73, .iload_n 3, 74), (74, .iload 8, 76), (76, .iconst 1, 77), (77, .isub, 78), (78, .iload_n 1, 79), (79, .imul, 80), (80, .isub, 81), (81, .if_icmp .eq 5, 84), (84, .iconst 0, 85), (85, .ireturn, 86), (86, .aload_n 0, 87), (87, .iconst 3, 88), (88, .invokevirtual 41, 91), (91, .iload_n 2, 92), (92, .iconst 3, 93), (93, .if_icmp .ne 8, 96)],
    [(96, .iload 4, 98), (98, .goto 4, 101), (101, .iconst 0, 102), (102, .if_icmp .eq 5, 105), (105, .iconst 0, 106), (106, .ireturn, 107), (107, .aload_n 0, 108), (108, .invokevirtual 51, 111), (111, .iload_n 2, 112), (112, .iconst 2, 113), (113, .if_icmp .lt 8, 116), (116, .iload 5, 118), (118, .goto 4, 121), (121, .iconst 0, 122), (122, .if_icmp .eq 5, 125), (125, .iconst 0, 126), (126, .ireturn, 127), (127, .iload_n 3, 128)],
    [(128, .ifCond .le 18, 131), (131, .aload_n 0, 132), (132, .iconst 0, 133), (133, .iload_n 3, 134), (134, .iconst 1, 135), (135, .isub, 136), (136, .invokevirtual 54, 139), (139, .iload 6, 141), (141, .if_icmp .eq 5, 144), (144, .iconst 0, 145), (145, .ireturn, 146), (146, .iload 4, 148), (148, .ifCond .le 19, 151), (151, .aload_n 0, 152), (152, .iconst 1, 153), (153, .iload 4, 155), (155, .iconst 1, 156), (156, .isub, 157), (157, .invokevirtual 54, 160)],
    [(160, .iload 7, 162), (162, .if_icmp .eq 5, 165), (165, .iconst 0, 166), (166, .ireturn, 167), (167, .aload_n 0, 168), (168, .iconst 0, 169), (169, .iload_n 3, 170), (170, .invokevirtual 54, 173), (173, .iconst (-1), 174), (174, .if_icmp .eq 5, 177), (177, .iconst 0, 178), (178, .ireturn, 179), (179, .iconst 0, 180), (180, .istore 9, 182), (182, .iconst 0, 183), (183, .istore 10, 185), (185, .iconst 0, 186), (186, .istore 11, 188), (188, .iload 11, 190), (190, .sipush 257, 193)],
    [(193, .if_icmp .ge 105, 196), (196, .iload_n 2, 197), (197, .iconst 2, 198), (198, .if_icmp .lt 100, 201), (201, .iload 11, 203), (203, .iload 5, 205), (205, .if_icmp .lt 6, 208), (208, .goto 90, 211), (211, .aload_n 0, 212), (212, .iload 11, 214), (214, .invokevirtual 57, 217), (217, .istore 12, 219), (219, .aload_n 0, 220), (220, .iload 11, 222), (222, .invokevirtual 60, 225)],
    [(225, .istore 13, 227), (227, .iload 12, 229), (229, .iconst 2, 230), (230, .if_icmp .ne 28, 233), (233, .iload 13, 235), (235, .iconst 1, 236), (236, .if_icmp .ge 5, 239), (239, .iconst 0, 240), (240, .ireturn, 241), (241, .iload 9, 243), (243, .iload 13, 245), (245, .iadd, 246), (246, .istore 9, 248), (248, .iload 10, 250), (250, .iload 13, 252), (252, .iadd, 253), (253, .istore 10, 255), (255, .goto 37, 258)],
    [(258, .iload 12, 260), (260, .iconst 1, 261), (261, .if_icmp .ne 29, 264), (264, .aload_n 0, 265), (265, .iload 13, 267), (267, .invokevirtual 48, 270), (270, .istore 14, 272), (272, .iload 14, 274), (274, .iconst 1, 275), (275, .if_icmp .ge 5, 278), (278, .iconst 0, 279), (279, .ireturn, 280), (280, .iload 10, 282), (282, .iload 14, 284), (284, .iadd, 285), (285, .istore 10, 287), (287, .goto 5, 290)],
    [(290, .iconst 0, 291), (291, .ireturn, 292), (292, .iinc 11 1, 295), (295, .goto (-107), 298), (298, .aload_n 0, 299), (299, .iconst 2, 300), (300, .invokevirtual 41, 303), (303, .iload 9, 305), (305, .if_icmp .eq 5, 308), (308, .iconst 0, 309), (309, .ireturn, 310), (310, .iload_n 2, 311), (311, .iconst 2, 312), (312, .if_icmp .lt 12, 315), (315, .iload 10, 317), (317, .iload 4, 319), (319, .if_icmp .eq 5, 322)],
    [(322, .iconst 0, 323), (323, .ireturn, 324), (324, .iconst 1, 325), (325, .ireturn, 326)]]),
  (prog_1_method_8_code, [
    [(0, .aload_n 0, 1), (1, .getfield 81, 4), (4, .ireturn, 5)]]),
  (prog_1_method_13_code, [
    [(0, .iload_n 1, 1), (1, .ifCond .ne 8, 4), (4, .aload_n 0, 5), (5, .getfield 51, 8), (8, .ireturn, 9), (9, .iload_n 1, 10), (10, .iconst 1, 11), (11, .if_icmp .ne 8, 14), (14, .aload_n 0, 15), (15, .getfield 54, 18), (18, .ireturn, 19), (19, .iload_n 1, 20), (20, .iconst 2, 21), (21, .if_icmp .ne 8, 24), (24, .aload_n 0, 25), (25, .getfield 57, 28), (28, .ireturn, 29), (29, .iload_n 1, 30), (30, .iconst 3, 31), (31, .if_icmp .ne 8, 34)],
    [(34, .aload_n 0, 35), (35, .getfield 60, 38), (38, .ireturn, 39), (39, .iconst (-1), 40), (40, .ireturn, 41)]]),
  (prog_1_method_9_code, [
    [(0, .aload_n 0, 1), (1, .getfield 63, 4), (4, .ireturn, 5)]]),
  (prog_1_method_15_code, [
    [(0, .aload_n 0, 1), (1, .getfield 66, 4), (4, .ireturn, 5)]]),
  (prog_1_method_14_code, [
    [(0, .aload_n 0, 1), (1, .iload_n 1, 2), (2, .invokevirtual 113, 5), (5, .istore_n 3, 6), (6, .iload_n 3, 7), (7, .iconst (-1), 8), (8, .if_icmp .ne 5, 11), (11, .iconst (-1), 12), (12, .ireturn, 13), (13, .iload_n 2, 14), (14, .ifCond .lt 15, 17), (17, .iload_n 2, 18), (18, .iload_n 3, 19), (19, .if_icmp .ge 10, 22), (22, .iload_n 2, 23), (23, .sipush 256, 26), (26, .if_icmp .lt 5, 29), (29, .iconst (-1), 30), (30, .ireturn, 31), (31, .iload_n 1, 32)],
    [(32, .ifCond .ne 10, 35), (35, .aload_n 0, 36), (36, .getfield 7, 39), (39, .iload_n 2, 40), (40, .iaload, 41), (41, .ireturn, 42), (42, .iload_n 1, 43), (43, .iconst 1, 44), (44, .if_icmp .ne 10, 47), (47, .aload_n 0, 48), (48, .getfield 13, 51), (51, .iload_n 2, 52), (52, .iaload, 53), (53, .ireturn, 54), (54, .iload_n 1, 55), (55, .iconst 2, 56), (56, .if_icmp .ne 10, 59), (59, .aload_n 0, 60), (60, .getfield 16, 63), (63, .iload_n 2, 64)],
    [(64, .iaload, 65), (65, .ireturn, 66), (66, .aload_n 0, 67), (67, .getfield 19, 70), (70, .iload_n 2, 71), (71, .iaload, 72), (72, .ireturn, 73)]]),
  (prog_1_method_3_code, [
    [(0, .aload_n 0, 1), (1, .getfield 81, 4), (4, .ifCond .eq 5, 7), (7, .iconst (-1), 8), (8, .ireturn, 9), (9, .iload_n 2, 10), (10, .iconst 1, 11), (11, .if_icmp .lt 8, 14), (14, .iload_n 2, 15), (15, .iconst 4, 16), (16, .if_icmp .le 5, 19), (19, .iconst (-1), 20), (20, .ireturn, 21), (21, .aload_n 0, 22), (22, .getfield 51, 25), (25, .iload_n 2, 26), (26, .iadd, 27), (27, .sipush 256, 30), (30, .if_icmp .le 5, 33)],
    [(33, .iconst (-1), 34), (34, .ireturn, 35), (35, .iconst 0, 36), (36, .istore_n 3, 37), (37, .iload_n 3, 38), (38, .iload_n 2, 39), (39, .if_icmp .ge 38, 42), (42, .aload_n 0, 43), (43, .getfield 7, 46), (46, .aload_n 0, 47), (47, .getfield 51, 50), (50, .iload_n 1, 51), (51, .bipush 8, 53), (53, .iload_n 3, 54), (54, .imul, 55), (55, .iushr, 56), (56, .sipush 255, 59), (59, .iand, 60), (60, .iastore, 61), (61, .aload_n 0, 62), (62, .dup, 63), (63, .getfield 51, 66)],
    [(66, .iconst 1, 67), (67, .iadd, 68), (68, .putfield 51, 71), (71, .iinc 3 1, 74), (74, .goto (-37), 77), (77, .aload_n 0, 78), (78, .getfield 51, 81), (81, .ireturn, 82)]]),
  (prog_1_method_5_code, [
    [(0, .aload_n 0, 1), (1, .getfield 81, 4), (4, .ifCond .eq 5, 7), (7, .iconst (-1), 8), (8, .ireturn, 9), (9, .aload_n 0, 10), (10, .getfield 44, 13), (13, .istore_n 1, 14), (14, .aload_n 0, 15), (15, .aload_n 0, 16), (16, .getfield 51, 19), (19, .ifCond .ne 7, 22), (22, .iconst 0, 23), (23, .goto 13, 26), (26, .aload_n 0, 27), (27, .getfield 51, 30), (30, .iload_n 1, 31), (31, .iadd, 32)],
    [(32, .iconst 1, 33), (33, .isub, 34), (34, .iload_n 1, 35), (35, .idiv, 36), (36, .putfield 63, 39), (39, .aload_n 0, 40), (40, .getfield 63, 43), (43, .sipush 128, 46), (46, .if_icmp .le 10, 49), (49, .aload_n 0, 50), (50, .sipush 128, 53), (53, .putfield 63, 56), (56, .iconst 0, 57), (57, .istore_n 2, 58), (58, .iload_n 2, 59), (59, .aload_n 0, 60), (60, .getfield 63, 63), (63, .if_icmp .ge 75, 66)],
    [(66, .iload_n 2, 67), (67, .iload_n 1, 68), (68, .imul, 69), (69, .istore_n 3, 70), (70, .iload_n 1, 71), (71, .istore 4, 73), (73, .iload_n 2, 74), (74, .aload_n 0, 75), (75, .getfield 63, 78), (78, .iconst 1, 79), (79, .isub, 80), (80, .if_icmp .ne 18, 83), (83, .aload_n 0, 84), (84, .getfield 51, 87), (87, .aload_n 0, 88), (88, .getfield 63, 91), (91, .iconst 1, 92), (92, .isub, 93), (93, .iload_n 1, 94), (94, .imul, 95), (95, .isub, 96)],
    [(96, .istore 4, 98), (98, .aload_n 0, 99), (99, .getfield 22, 102), (102, .iload_n 2, 103), (103, .iload 4, 105), (105, .iastore, 106), (106, .aload_n 0, 107), (107, .getfield 25, 110), (110, .iload_n 2, 111), (111, .aload_n 0, 112), (112, .iload_n 3, 113), (113, .iload 4, 115), (115, .invokevirtual 84, 118), (118, .iastore, 119), (119, .aload_n 0, 120), (120, .getfield 28, 123), (123, .iload_n 2, 124), (124, .aload_n 0, 125), (125, .iload_n 3, 126), (126, .iload 4, 128)],
    [(128, .invokevirtual 88, 131), (131, .lastore, 132), (132, .iinc 2 1, 135), (135, .goto (-77), 138), (138, .aload_n 0, 139), (139, .invokevirtual 92, 142), (142, .aload_n 0, 143), (143, .iconst 1, 144), (144, .putfield 81, 147), (147, .aload_n 0, 148), (148, .getfield 63, 151), (151, .ireturn, 152)]]),
  (prog_1_method_23_code, [
    [(0, .iconst 0, 1), (1, .istore_n 1, 2), (2, .iload_n 1, 3), (3, .sipush 256, 6), (6, .if_icmp .ge 16, 9), (9, .aload_n 0, 10), (10, .getfield 32, 13), (13, .iload_n 1, 14), (14, .iconst (-1), 15), (15, .iastore, 16), (16, .iinc 1 1, 19), (19, .goto (-17), 22), (22, .aload_n 0, 23), (23, .iconst (-1), 24), (24, .putfield 69, 27), (27, .aload_n 0, 28), (28, .getfield 63, 31), (31, .iconst 1, 32)],
    [(32, .isub, 33), (33, .istore_n 1, 34), (34, .iload_n 1, 35), (35, .ifCond .lt 67, 38), (38, .aload_n 0, 39), (39, .getfield 22, 42), (42, .iload_n 1, 43), (43, .iaload, 44), (44, .aload_n 0, 45), (45, .getfield 44, 48), (48, .if_icmp .ne 36, 51), (51, .aload_n 0, 52), (52, .aload_n 0, 53), (53, .getfield 25, 56), (56, .iload_n 1, 57), (57, .iaload, 58), (58, .invokevirtual 124, 61), (61, .istore_n 2, 62), (62, .aload_n 0, 63), (63, .getfield 35, 66)],
    [(66, .iload_n 1, 67), (67, .aload_n 0, 68), (68, .getfield 32, 71), (71, .iload_n 2, 72), (72, .iaload, 73), (73, .iastore, 74), (74, .aload_n 0, 75), (75, .getfield 32, 78), (78, .iload_n 2, 79), (79, .iload_n 1, 80), (80, .iastore, 81), (81, .goto 15, 84), (84, .aload_n 0, 85), (85, .getfield 35, 88), (88, .iload_n 1, 89), (89, .iconst (-1), 90), (90, .iastore, 91), (91, .aload_n 0, 92), (92, .iload_n 1, 93), (93, .putfield 69, 96)],
    [(96, .iinc 1 (-1), 99), (99, .goto (-65), 102), (102, .return_, 103)]]),
  (prog_1_method_7_code, [
    [(0, .aload_n 0, 1), (1, .getfield 81, 4), (4, .iconst 2, 5), (5, .if_icmp .eq 13, 8), (8, .aload_n 0, 9), (9, .getfield 81, 12), (12, .iconst 3, 13), (13, .if_icmp .eq 5, 16), (16, .iconst (-1), 17), (17, .ireturn, 18), (18, .aload_n 0, 19), (19, .iconst 0, 20), (20, .putfield 60, 23), (23, .iconst 0, 24), (24, .istore_n 1, 25), (25, .iconst 0, 26), (26, .istore_n 2, 27), (27, .iload_n 2, 28), (28, .aload_n 0, 29), (29, .getfield 66, 32)],
    [(32, .if_icmp .ge 51, 35), (35, .iload_n 2, 36), (36, .sipush 256, 39), (39, .if_icmp .ge 44, 42), (42, .aload_n 0, 43), (43, .getfield 38, 46), (46, .iload_n 2, 47), (47, .iaload, 48), (48, .iconst 1, 49), (49, .if_icmp .ne 16, 52), (52, .aload_n 0, 53), (53, .aload_n 0, 54), (54, .getfield 41, 57), (57, .iload_n 2, 58), (58, .iaload, 59), (59, .invokevirtual 107, 62), (62, .goto 15, 65)],
    [(65, .aload_n 0, 66), (66, .iload_n 1, 67), (67, .aload_n 0, 68), (68, .getfield 41, 71), (71, .iload_n 2, 72), (72, .iaload, 73), (73, .invokevirtual 110, 76), (76, .istore_n 1, 77), (77, .iinc 2 1, 80), (80, .goto (-53), 83), (83, .aload_n 0, 84), (84, .iconst 3, 85), (85, .putfield 81, 88), (88, .aload_n 0, 89), (89, .getfield 60, 92), (92, .ireturn, 93)]]),
  (prog_1_method_6_code, [
    [(0, .aload_n 0, 1), (1, .getfield 81, 4), (4, .iconst 1, 5), (5, .if_icmp .eq 5, 8), (8, .iconst (-1), 9), (9, .ireturn, 10), (10, .aload_n 0, 11), (11, .iconst 0, 12), (12, .putfield 66, 15), (15, .aload_n 0, 16), (16, .iconst 0, 17), (17, .putfield 57, 20), (20, .aload_n 0, 21), (21, .iconst (-1), 22), (22, .putfield 72, 25), (25, .iconst 0, 26), (26, .istore_n 1, 27), (27, .iconst 0, 28), (28, .istore_n 2, 29), (29, .iload_n 2, 30), (30, .sipush 256, 33)],
    [(33, .if_icmp .ge 53, 36), (36, .iload_n 1, 37), (37, .aload_n 0, 38), (38, .getfield 54, 41), (41, .if_icmp .ge 45, 44), (44, .aload_n 0, 45), (45, .iload_n 1, 46), (46, .invokevirtual 95, 49), (49, .istore_n 3, 50), (50, .iload_n 3, 51), (51, .ifCond .lt 21, 54), (54, .aload_n 0, 55), (55, .iconst 1, 56), (56, .iload_n 3, 57), (57, .invokevirtual 99, 60), (60, .iload_n 1, 61), (61, .aload_n 0, 62), (62, .getfield 22, 65)],
    [(65, .iload_n 3, 66), (66, .iaload, 67), (67, .iadd, 68), (68, .istore_n 1, 69), (69, .goto 11, 72), (72, .aload_n 0, 73), (73, .iload_n 1, 74), (74, .invokevirtual 103, 77), (77, .iinc 1 1, 80), (80, .iinc 2 1, 83), (83, .goto (-54), 86), (86, .aload_n 0, 87), (87, .iconst 2, 88), (88, .putfield 81, 91), (91, .aload_n 0, 92), (92, .getfield 66, 95), (95, .ireturn, 96)]]),
  (prog_1_method_19_code, [
    [(0, .iconst 0, 1), (1, .istore_n 3, 2), (2, .iconst 0, 3), (3, .istore 4, 5), (5, .iconst 0, 6), (6, .istore 5, 8), (8, .iload 5, 10), (10, .iload_n 2, 11), (11, .if_icmp .ge 57, 14), (14, .iload_n 1, 15), (15, .iload 5, 17), (17, .iadd, 18), (18, .istore 6, 20), (20, .iload 6, 22), (22, .ifCond .lt 46, 25), (25, .iload 6, 27), (27, .sipush 256, 30), (30, .if_icmp .lt 6, 33)],
    [(33, .goto 35, 36), (36, .aload_n 0, 37), (37, .getfield 7, 40), (40, .iload 6, 42), (42, .iaload, 43), (43, .istore 7, 45), (45, .iload_n 3, 46), (46, .iload 7, 48), (48, .iadd, 49), (49, .istore_n 3, 50), (50, .iload 4, 52), (52, .iload_n 2, 53), (53, .iload 5, 55), (55, .isub, 56), (56, .iload 7, 58), (58, .imul, 59), (59, .iadd, 60), (60, .istore 4, 62), (62, .iinc 5 1, 65)],
    [(65, .goto (-57), 68), (68, .aload_n 0, 69), (69, .iload_n 3, 70), (70, .iload 4, 72), (72, .invokevirtual 117, 75), (75, .ireturn, 76)]]),
  (prog_1_method_18_code, [
    [(0, .iload_n 2, 1), (1, .ldc 116, 3), (3, .iand, 4), (4, .bipush 16, 6), (6, .ishl, 7), (7, .iload_n 1, 8), (8, .ldc 116, 10), (10, .iand, 11), (11, .ior, 12), (12, .ireturn, 13)]]),
  (prog_1_method_20_code, [
    [(0, .ldc2_w 120, 3), (3, .lstore_n 3, 4), (4, .iconst 0, 5), (5, .istore 5, 7), (7, .iload 5, 9), (9, .iload_n 2, 10), (10, .if_icmp .ge 48, 13), (13, .iload_n 1, 14), (14, .iload 5, 16), (16, .iadd, 17), (17, .istore 6, 19), (19, .iload 6, 21), (21, .ifCond .lt 37, 24), (24, .iload 6, 26), (26, .sipush 256, 29), (29, .if_icmp .lt 6, 32)],
    [(32, .goto 26, 35), (35, .lload_n 3, 36), (36, .aload_n 0, 37), (37, .getfield 7, 40), (40, .iload 6, 42), (42, .iaload, 43), (43, .i2l, 44), (44, .lxor, 45), (45, .lstore_n 3, 46), (46, .lload_n 3, 47), (47, .ldc2_w 122, 50), (50, .lmul, 51), (51, .lstore_n 3, 52), (52, .iinc 5 1, 55), (55, .goto (-48), 58), (58, .lload_n 3, 59), (59, .lreturn, 60)]]),
  (prog_1_method_10_code, [
    [(0, .iload_n 1, 1), (1, .ifCond .lt 11, 4), (4, .iload_n 1, 5), (5, .aload_n 0, 6), (6, .getfield 63, 9), (9, .if_icmp .lt 5, 12), (12, .iconst (-1), 13), (13, .ireturn, 14), (14, .aload_n 0, 15), (15, .getfield 22, 18), (18, .iload_n 1, 19), (19, .iaload, 20), (20, .ireturn, 21)]]),
  (prog_1_method_24_code, [
    [(0, .iconst (-1), 1), (1, .istore_n 2, 2), (2, .iload_n 1, 3), (3, .aload_n 0, 4), (4, .getfield 44, 7), (7, .iadd, 8), (8, .aload_n 0, 9), (9, .getfield 54, 12), (12, .if_icmp .gt 9, 15), (15, .aload_n 0, 16), (16, .iload_n 1, 17), (17, .invokevirtual 127, 20), (20, .istore_n 2, 21), (21, .iload_n 2, 22), (22, .ifCond .ge 63, 25), (25, .aload_n 0, 26), (26, .getfield 69, 29), (29, .ifCond .lt 56, 32)],
    [(32, .aload_n 0, 33), (33, .getfield 69, 36), (36, .sipush 128, 39), (39, .if_icmp .ge 46, 42), (42, .aload_n 0, 43), (43, .getfield 22, 46), (46, .aload_n 0, 47), (47, .getfield 69, 50), (50, .iaload, 51), (51, .istore_n 3, 52), (52, .iload_n 1, 53), (53, .iload_n 3, 54), (54, .iadd, 55), (55, .aload_n 0, 56), (56, .getfield 54, 59), (59, .if_icmp .ne 26, 62), (62, .aload_n 0, 63), (63, .aload_n 0, 64)],
    [(64, .getfield 69, 67), (67, .aload_n 0, 68), (68, .getfield 44, 71), (71, .imul, 72), (72, .iload_n 1, 73), (73, .iload_n 3, 74), (74, .invokevirtual 130, 77), (77, .ifCond .eq 8, 80), (80, .aload_n 0, 81), (81, .getfield 69, 84), (84, .istore_n 2, 85), (85, .iload_n 2, 86), (86, .ireturn, 87)]]),
  (prog_1_method_30_code, [
    [(0, .aload_n 0, 1), (1, .getfield 57, 4), (4, .sipush 256, 7), (7, .if_icmp .ge 39, 10), (10, .iload_n 1, 11), (11, .ifCond .lt 35, 14), (14, .iload_n 1, 15), (15, .sipush 256, 18), (18, .if_icmp .ge 28, 21), (21, .aload_n 0, 22), (22, .getfield 16, 25), (25, .aload_n 0, 26), (26, .getfield 57, 29), (29, .aload_n 0, 30), (30, .getfield 13, 33)],
    [(33, .iload_n 1, 34), (34, .iaload, 35), (35, .iastore, 36), (36, .aload_n 0, 37), (37, .dup, 38), (38, .getfield 57, 41), (41, .iconst 1, 42), (42, .iadd, 43), (43, .putfield 57, 46), (46, .aload_n 0, 47), (47, .getfield 66, 50), (50, .ifCond .le 36, 53), (53, .aload_n 0, 54), (54, .getfield 38, 57), (57, .aload_n 0, 58), (58, .getfield 66, 61), (61, .iconst 1, 62), (62, .isub, 63), (63, .iaload, 64)],
    [(64, .iconst 2, 65), (65, .if_icmp .ne 21, 68), (68, .aload_n 0, 69), (69, .getfield 41, 72), (72, .aload_n 0, 73), (73, .getfield 66, 76), (76, .iconst 1, 77), (77, .isub, 78), (78, .dup2, 79), (79, .iaload, 80), (80, .iconst 1, 81), (81, .iadd, 82), (82, .iastore, 83), (83, .goto 9, 86), (86, .aload_n 0, 87), (87, .iconst 2, 88), (88, .iconst 1, 89), (89, .invokevirtual 99, 92), (92, .return_, 93)]]),
  (prog_1_method_29_code, [
    [(0, .aload_n 0, 1), (1, .getfield 66, 4), (4, .sipush 256, 7), (7, .if_icmp .lt 4, 10), (10, .return_, 11), (11, .aload_n 0, 12), (12, .getfield 38, 15), (15, .aload_n 0, 16), (16, .getfield 66, 19), (19, .iload_n 1, 20), (20, .iastore, 21), (21, .aload_n 0, 22), (22, .getfield 41, 25), (25, .aload_n 0, 26), (26, .getfield 66, 29), (29, .iload_n 2, 30), (30, .iastore, 31), (31, .aload_n 0, 32)],
    [(32, .dup, 33), (33, .getfield 66, 36), (36, .iconst 1, 37), (37, .iadd, 38), (38, .putfield 66, 41), (41, .return_, 42)]]),
  (prog_1_method_28_code, [
    [(0, .iconst 0, 1), (1, .istore 4, 3), (3, .iload 4, 5), (5, .iload_n 3, 6), (6, .if_icmp .ge 70, 9), (9, .iload_n 1, 10), (10, .iload 4, 12), (12, .iadd, 13), (13, .istore 5, 15), (15, .iload_n 2, 16), (16, .iload 4, 18), (18, .iadd, 19), (19, .istore 6, 21), (21, .iload 5, 23), (23, .ifCond .lt 26, 26), (26, .iload 5, 28), (28, .aload_n 0, 29), (29, .getfield 51, 32)],
    [(32, .if_icmp .ge 17, 35), (35, .iload 6, 37), (37, .ifCond .lt 12, 40), (40, .iload 6, 42), (42, .aload_n 0, 43), (43, .getfield 54, 46), (46, .if_icmp .lt 5, 49), (49, .iconst 0, 50), (50, .ireturn, 51), (51, .aload_n 0, 52), (52, .getfield 7, 55), (55, .iload 5, 57), (57, .iaload, 58), (58, .aload_n 0, 59), (59, .getfield 13, 62), (62, .iload 6, 64)],
    [(64, .iaload, 65), (65, .if_icmp .eq 5, 68), (68, .iconst 0, 69), (69, .ireturn, 70), (70, .iinc 4 1, 73), (73, .goto (-70), 76), (76, .iconst 1, 77), (77, .ireturn, 78)]]),
  (prog_1_method_16_code, [
    [(0, .iload_n 1, 1), (1, .ifCond .lt 11, 4), (4, .iload_n 1, 5), (5, .aload_n 0, 6), (6, .getfield 66, 9), (9, .if_icmp .lt 5, 12), (12, .iconst (-1), 13), (13, .ireturn, 14), (14, .aload_n 0, 15), (15, .getfield 38, 18), (18, .iload_n 1, 19), (19, .iaload, 20), (20, .ireturn, 21)]]),
  (prog_1_method_17_code, [
    [(0, .iload_n 1, 1), (1, .ifCond .lt 11, 4), (4, .iload_n 1, 5), (5, .aload_n 0, 6), (6, .getfield 66, 9), (9, .if_icmp .lt 5, 12), (12, .iconst (-1), 13), (13, .ireturn, 14), (14, .aload_n 0, 15), (15, .getfield 41, 18), (18, .iload_n 1, 19), (19, .iaload, 20), (20, .ireturn, 21)]]),
  (prog_1_method_32_code, [
    [(0, .iload_n 1, 1), (1, .istore_n 3, 2), (2, .iconst 0, 3), (3, .istore 4, 5), (5, .iload 4, 7), (7, .iload_n 2, 8), (8, .if_icmp .ge 74, 11), (11, .iload 4, 13), (13, .sipush 256, 16), (16, .if_icmp .ge 66, 19), (19, .iload_n 3, 20), (20, .ifCond .lt 53, 23), (23, .iload_n 3, 24), (24, .aload_n 0, 25), (25, .getfield 57, 28), (28, .if_icmp .ge 45, 31), (31, .iload_n 3, 32)],
    [(32, .sipush 256, 35), (35, .if_icmp .ge 38, 38), (38, .aload_n 0, 39), (39, .getfield 60, 42), (42, .sipush 256, 45), (45, .if_icmp .ge 28, 48), (48, .aload_n 0, 49), (49, .getfield 19, 52), (52, .aload_n 0, 53), (53, .getfield 60, 56), (56, .aload_n 0, 57), (57, .getfield 16, 60), (60, .iload_n 3, 61), (61, .iaload, 62), (62, .iastore, 63), (63, .aload_n 0, 64)],
    [(64, .dup, 65), (65, .getfield 60, 68), (68, .iconst 1, 69), (69, .iadd, 70), (70, .putfield 60, 73), (73, .iinc 3 1, 76), (76, .iinc 4 1, 79), (79, .goto (-74), 82), (82, .iload_n 3, 83), (83, .ireturn, 84)]]),
  (prog_1_method_25_code, [
    [(0, .aload_n 0, 1), (1, .iload_n 1, 2), (2, .invokevirtual 134, 5), (5, .aload_n 0, 6), (6, .aload_n 0, 7), (7, .getfield 75, 10), (10, .aload_n 0, 11), (11, .getfield 78, 14), (14, .invokevirtual 117, 17), (17, .istore_n 2, 18), (18, .aload_n 0, 19), (19, .getfield 32, 22), (22, .aload_n 0, 23), (23, .iload_n 2, 24), (24, .invokevirtual 124, 27), (27, .iaload, 28), (28, .istore_n 3, 29), (29, .iconst 0, 30), (30, .istore 4, 32)],
    [(32, .lconst 0, 33), (33, .lstore 5, 35), (35, .iconst 0, 36), (36, .istore 7, 38), (38, .iload 7, 40), (40, .sipush 128, 43), (43, .if_icmp .ge 88, 46), (46, .iload_n 3, 47), (47, .ifCond .lt 84, 50), (50, .iload_n 3, 51), (51, .sipush 128, 54), (54, .if_icmp .ge 77, 57), (57, .aload_n 0, 58), (58, .getfield 25, 61), (61, .iload_n 3, 62), (62, .iaload, 63), (63, .iload_n 2, 64)],
    [(64, .if_icmp .ne 54, 67), (67, .iload 4, 69), (69, .ifCond .ne 17, 72), (72, .aload_n 0, 73), (73, .iload_n 1, 74), (74, .aload_n 0, 75), (75, .getfield 44, 78), (78, .invokevirtual 137, 81), (81, .lstore 5, 83), (83, .iconst 1, 84), (84, .istore 4, 86), (86, .aload_n 0, 87), (87, .getfield 28, 90), (90, .iload_n 3, 91), (91, .laload, 92), (92, .lload 5, 94), (94, .lcmp, 95), (95, .ifCond .ne 23, 98)],
    [(98, .aload_n 0, 99), (99, .iload_n 3, 100), (100, .aload_n 0, 101), (101, .getfield 44, 104), (104, .imul, 105), (105, .iload_n 1, 106), (106, .aload_n 0, 107), (107, .getfield 44, 110), (110, .invokevirtual 130, 113), (113, .ifCond .eq 5, 116), (116, .iload_n 3, 117), (117, .ireturn, 118), (118, .aload_n 0, 119), (119, .getfield 35, 122), (122, .iload_n 3, 123), (123, .iaload, 124), (124, .istore_n 3, 125), (125, .iinc 7 1, 128)],
    [(128, .goto (-90), 131), (131, .iconst (-1), 132), (132, .ireturn, 133)]]),
  (prog_1_method_26_code, [
    [(0, .aload_n 0, 1), (1, .getfield 72, 4), (4, .ifCond .lt 12, 7), (7, .aload_n 0, 8), (8, .getfield 72, 11), (11, .iload_n 1, 12), (12, .if_icmp .ne 4, 15), (15, .return_, 16), (16, .aload_n 0, 17), (17, .getfield 44, 20), (20, .istore_n 2, 21), (21, .iload_n 1, 22), (22, .iload_n 2, 23), (23, .iadd, 24), (24, .iconst 1, 25), (25, .isub, 26), (26, .istore_n 3, 27), (27, .aload_n 0, 28), (28, .getfield 72, 31), (31, .ifCond .lt 81, 34)],
    [(34, .aload_n 0, 35), (35, .getfield 72, 38), (38, .iconst 1, 39), (39, .iadd, 40), (40, .iload_n 1, 41), (41, .if_icmp .ne 71, 44), (44, .iload_n 1, 45), (45, .iconst 1, 46), (46, .if_icmp .lt 66, 49), (49, .iload_n 3, 50), (50, .sipush 256, 53), (53, .if_icmp .ge 59, 56), (56, .aload_n 0, 57), (57, .getfield 13, 60), (60, .iload_n 1, 61), (61, .iconst 1, 62), (62, .isub, 63), (63, .iaload, 64)],
    [(64, .istore 4, 66), (66, .aload_n 0, 67), (67, .getfield 13, 70), (70, .iload_n 3, 71), (71, .iaload, 72), (72, .istore 5, 74), (74, .aload_n 0, 75), (75, .aload_n 0, 76), (76, .getfield 75, 79), (79, .iload 4, 81), (81, .isub, 82), (82, .iload 5, 84), (84, .iadd, 85), (85, .putfield 75, 88), (88, .aload_n 0, 89), (89, .aload_n 0, 90), (90, .getfield 78, 93), (93, .iload_n 2, 94), (94, .iload 4, 96)],
    [(96, .imul, 97), (97, .isub, 98), (98, .aload_n 0, 99), (99, .getfield 75, 102), (102, .iadd, 103), (103, .putfield 78, 106), (106, .aload_n 0, 107), (107, .iload_n 1, 108), (108, .putfield 72, 111), (111, .return_, 112), (112, .aload_n 0, 113), (113, .iload_n 1, 114), (114, .invokevirtual 140, 117), (117, .return_, 118)]]),
  (prog_1_method_27_code, [
    [(0, .iconst 0, 1), (1, .istore_n 2, 2), (2, .iconst 0, 3), (3, .istore_n 3, 4), (4, .aload_n 0, 5), (5, .getfield 44, 8), (8, .istore 4, 10), (10, .iconst 0, 11), (11, .istore 5, 13), (13, .iload 5, 15), (15, .iload 4, 17), (17, .if_icmp .ge 56, 20), (20, .iload_n 1, 21), (21, .iload 5, 23), (23, .iadd, 24), (24, .istore 6, 26), (26, .iload 6, 28), (28, .ifCond .lt 45, 31), (31, .iload 6, 33)],
    [(33, .sipush 256, 36), (36, .if_icmp .lt 6, 39), (39, .goto 34, 42), (42, .aload_n 0, 43), (43, .getfield 13, 46), (46, .iload 6, 48), (48, .iaload, 49), (49, .istore 7, 51), (51, .iload_n 2, 52), (52, .iload 7, 54), (54, .iadd, 55), (55, .istore_n 2, 56), (56, .iload_n 3, 57), (57, .iload 4, 59), (59, .iload 5, 61), (61, .isub, 62), (62, .iload 7, 64)],
    [(64, .imul, 65), (65, .iadd, 66), (66, .istore_n 3, 67), (67, .iinc 5 1, 70), (70, .goto (-57), 73), (73, .aload_n 0, 74), (74, .iload_n 2, 75), (75, .putfield 75, 78), (78, .aload_n 0, 79), (79, .iload_n 3, 80), (80, .putfield 78, 83), (83, .aload_n 0, 84), (84, .iload_n 1, 85), (85, .putfield 72, 88), (88, .return_, 89)]]),
  (prog_1_method_22_code, [
    [(0, .iload_n 1, 1), (1, .iload_n 1, 2), (2, .bipush 8, 4), (4, .iushr, 5), (5, .ixor, 6), (6, .iload_n 1, 7), (7, .bipush 16, 9), (9, .iushr, 10), (10, .ixor, 11), (11, .iload_n 1, 12), (12, .bipush 24, 14), (14, .iushr, 15), (15, .ixor, 16), (16, .istore_n 2, 17), (17, .iload_n 2, 18), (18, .sipush 255, 21), (21, .iand, 22), (22, .ireturn, 23)]]),
  (prog_1_method_21_code, [
    [(0, .ldc2_w 120, 3), (3, .lstore_n 3, 4), (4, .iconst 0, 5), (5, .istore 5, 7), (7, .iload 5, 9), (9, .iload_n 2, 10), (10, .if_icmp .ge 48, 13), (13, .iload_n 1, 14), (14, .iload 5, 16), (16, .iadd, 17), (17, .istore 6, 19), (19, .iload 6, 21), (21, .ifCond .lt 37, 24), (24, .iload 6, 26), (26, .sipush 256, 29), (29, .if_icmp .lt 6, 32)],
    [(32, .goto 26, 35), (35, .lload_n 3, 36), (36, .aload_n 0, 37), (37, .getfield 13, 40), (40, .iload 6, 42), (42, .iaload, 43), (43, .i2l, 44), (44, .lxor, 45), (45, .lstore_n 3, 46), (46, .lload_n 3, 47), (47, .ldc2_w 122, 50), (50, .lmul, 51), (51, .lstore_n 3, 52), (52, .iinc 5 1, 55), (55, .goto (-48), 58), (58, .lload_n 3, 59), (59, .lreturn, 60)]]),
  (prog_1_method_31_code, [
    [(0, .iload_n 1, 1), (1, .ifCond .lt 11, 4), (4, .iload_n 1, 5), (5, .aload_n 0, 6), (6, .getfield 63, 9), (9, .if_icmp .lt 4, 12), (12, .return_, 13), (13, .iload_n 1, 14), (14, .aload_n 0, 15), (15, .getfield 44, 18), (18, .imul, 19), (19, .istore_n 2, 20), (20, .aload_n 0, 21), (21, .getfield 22, 24), (24, .iload_n 1, 25), (25, .iaload, 26), (26, .istore_n 3, 27), (27, .iconst 0, 28), (28, .istore 4, 30), (30, .iload 4, 32)],
    [(32, .iload_n 3, 33), (33, .if_icmp .ge 67, 36), (36, .iload_n 2, 37), (37, .iload 4, 39), (39, .iadd, 40), (40, .istore 5, 42), (42, .iload 5, 44), (44, .ifCond .lt 56, 47), (47, .iload 5, 49), (49, .sipush 256, 52), (52, .if_icmp .ge 48, 55), (55, .aload_n 0, 56), (56, .getfield 60, 59), (59, .sipush 256, 62), (62, .if_icmp .lt 6, 65)],
    [(65, .goto 35, 68), (68, .aload_n 0, 69), (69, .getfield 19, 72), (72, .aload_n 0, 73), (73, .getfield 60, 76), (76, .aload_n 0, 77), (77, .getfield 7, 80), (80, .iload 5, 82), (82, .iaload, 83), (83, .iastore, 84), (84, .aload_n 0, 85), (85, .dup, 86), (86, .getfield 60, 89), (89, .iconst 1, 90), (90, .iadd, 91), (91, .putfield 60, 94), (94, .iinc 4 1, 97)],
    [(97, .goto (-67), 100), (100, .return_, 101)]])]
def own_mis : List MI := [(0, 16, 1, some .boolean, false, 8, 192), (1, 3, 2, none, true, 1, 12), (1, 1, 1, none, false, 0, 0), (1, 4, 3, some .int, false, 0, 0), (0, 15, 8, some .boolean, false, 2, 28), (1, 1, 1, some .int, false, 0, 0), (1, 2, 2, some .int, false, 0, 0), (1, 1, 1, some .int, false, 0, 0), (1, 1, 1, some .int, false, 0, 0), (1, 4, 3, some .int, false, 1, 13), (1, 4, 3, some .int, false, 0, 0), (1, 5, 1, some .int, false, 2, 35), (1, 3, 1, none, false, 1, 14), (1, 3, 1, some .int, false, 1, 17), (1, 4, 1, some .int, false, 4, 70), (1, 8, 3, some .int, false, 1, 14), (1, 3, 3, some .int, false, 0, 0), (1, 7, 3, some .long, false, 0, 0), (1, 2, 2, some .int, false, 0, 0), (1, 4, 2, some .int, false, 3, 55), (1, 2, 2, none, false, 1, 14), (1, 3, 3, none, false, 0, 0), (1, 7, 4, some .boolean, false, 0, 0), (1, 2, 2, some .int, false, 0, 0), (1, 2, 2, some .int, false, 0, 0), (1, 5, 3, some .int, false, 0, 0), (1, 8, 2, some .int, false, 2, 36), (1, 6, 2, none, false, 1, 19), (1, 8, 2, none, false, 0, 0), (1, 3, 2, some .int, false, 0, 0), (1, 7, 3, some .long, false, 0, 0), (1, 6, 2, none, false, 0, 0)]
def own_links : List (Nat × Nat × Nat × Nat) := [(0, 9, 1, 1), (1, 1, 4, 0), (1, 48, 2, 2), (0, 16, 2, 3), (0, 32, 0, 4), (0, 38, 2, 5), (0, 41, 2, 6), (0, 45, 2, 7), (0, 51, 2, 8), (0, 54, 2, 9), (1, 113, 2, 6), (0, 12, 2, 10), (0, 19, 2, 11), (1, 92, 3, 12), (0, 26, 2, 13), (0, 23, 2, 14), (0, 29, 2, 2), (1, 84, 3, 15), (1, 117, 3, 16), (1, 88, 3, 17), (0, 48, 2, 18), (1, 95, 3, 19), (1, 103, 3, 20), (1, 99, 3, 21), (1, 130, 3, 22), (0, 57, 2, 23), (0, 60, 2, 24), (1, 110, 3, 25), (1, 127, 3, 26), (1, 134, 3, 27), (1, 140, 3, 28), (1, 124, 3, 29), (1, 137, 3, 30), (1, 107, 3, 31), (0, 7, 5, 0)]
def own_flds : List (Nat × Nat × Nat) := [(1, 7, 0), (1, 13, 1), (1, 16, 2), (1, 19, 3), (1, 22, 4), (1, 25, 5), (1, 28, 6), (1, 32, 7), (1, 35, 8), (1, 38, 9), (1, 41, 10), (1, 44, 11), (1, 51, 12), (1, 54, 13), (1, 57, 14), (1, 60, 15), (1, 63, 16), (1, 66, 17), (1, 69, 18), (1, 72, 19), (1, 75, 20), (1, 78, 21), (1, 81, 22)]
def own_kons : List (Nat × Nat × Value) := [(1, 116, .int (65535)), (1, 120, .long (-3750763034362895579)), (1, 122, .long (1099511628211))]
def own_fields : List (String × String × Nat × Bool) := [("basis", "[I", 3, true), ("target", "[I", 3, true), ("literal", "[I", 3, true), ("out", "[I", 3, true), ("blkLen", "[I", 3, true), ("blkWeak", "[I", 3, true), ("blkStrong", "[J", 3, true), ("head", "[I", 3, true), ("next", "[I", 3, true), ("kinds", "[I", 3, true), ("values", "[I", 3, true), ("blockSize", "I", 0, false), ("basisLen", "I", 0, false), ("targetLen", "I", 0, false), ("literalLen", "I", 0, false), ("outLen", "I", 0, false), ("blocks", "I", 0, false), ("ops", "I", 0, false), ("shortBlock", "I", 0, false), ("winPos", "I", 0, false), ("winA", "I", 0, false), ("winB", "I", 0, false), ("phaseNow", "I", 0, false)]
def own_P : Prog := (codeAt own_cs, fun k => own_mis.getD k (0, 0, 0, none, false, 0, 0), lookT own_links, lookT own_flds, lookT own_kons, own_fields, 23, 1, 33, 4736)
def own_nms : List MethodName := [⟨"RemoteDeltaL6", "law", "([I)Z"⟩, ⟨"RemoteDelta", "<init>", "(I)V"⟩, ⟨"RemoteDelta", "reset", "()V"⟩, ⟨"RemoteDelta", "appendTarget", "(II)I"⟩, ⟨"RemoteDeltaL6", "agree", "(LRemoteDelta;IIIIIII)Z"⟩, ⟨"RemoteDelta", "phase", "()I"⟩, ⟨"RemoteDelta", "length", "(I)I"⟩, ⟨"RemoteDelta", "blockCount", "()I"⟩, ⟨"RemoteDelta", "opCount", "()I"⟩, ⟨"RemoteDelta", "byteAt", "(II)I"⟩, ⟨"RemoteDelta", "appendBasis", "(II)I"⟩, ⟨"RemoteDelta", "sign", "()I"⟩, ⟨"RemoteDelta", "buildIndex", "()V"⟩, ⟨"RemoteDelta", "apply", "()I"⟩, ⟨"RemoteDelta", "encode", "()I"⟩, ⟨"RemoteDelta", "weakOfBasis", "(II)I"⟩, ⟨"RemoteDelta", "packWeak", "(II)I"⟩, ⟨"RemoteDelta", "strongOfBasis", "(II)J"⟩, ⟨"RemoteDelta", "blockLength", "(I)I"⟩, ⟨"RemoteDelta", "findMatch", "(I)I"⟩, ⟨"RemoteDelta", "addLiteral", "(I)V"⟩, ⟨"RemoteDelta", "addOp", "(II)V"⟩, ⟨"RemoteDelta", "sameBytes", "(III)Z"⟩, ⟨"RemoteDelta", "opKind", "(I)I"⟩, ⟨"RemoteDelta", "opValue", "(I)I"⟩, ⟨"RemoteDelta", "appendLiteralToOut", "(II)I"⟩, ⟨"RemoteDelta", "findFullMatch", "(I)I"⟩, ⟨"RemoteDelta", "ensureWindow", "(I)V"⟩, ⟨"RemoteDelta", "recomputeWindow", "(I)V"⟩, ⟨"RemoteDelta", "bucketOf", "(I)I"⟩, ⟨"RemoteDelta", "strongOfTarget", "(II)J"⟩, ⟨"RemoteDelta", "appendBlockToOut", "(I)V"⟩]
def own_nm (k : Nat) : MethodName := own_nms.getD k ⟨"", "", ""⟩
def own_cn (c : Nat) : String := match c with | 0 => "RemoteDeltaL6" | _ => "RemoteDelta"
theorem own_pn0 : plainName "RemoteDeltaL6" = true := by first | (simp [plainName, overriddenIn]; done) | decide +kernel
theorem own_pn1 : plainName "RemoteDelta" = true := by first | (simp [plainName, overriddenIn]; done) | decide +kernel
theorem own_ne0 : "RemoteDeltaL6" ≠ "java/lang/invoke/MethodHandle" ∧ "RemoteDeltaL6" ≠ "java/lang/invoke/VarHandle" := by decide
theorem own_ne1 : "RemoteDelta" ≠ "java/lang/invoke/MethodHandle" ∧ "RemoteDelta" ≠ "java/lang/invoke/VarHandle" := by decide
theorem own_pd0 : parseMethodDescriptor "(I)V" = some ⟨[.int], none⟩ := by decide +kernel
theorem own_pd1 : parseMethodDescriptor "()V" = some ⟨[], none⟩ := by decide +kernel
theorem own_pd2 : parseMethodDescriptor "(II)I" = some ⟨[.int, .int], some .int⟩ := by decide +kernel
theorem own_pd3 : parseMethodDescriptor "(LRemoteDelta;IIIIIII)Z" = some ⟨[(.object "RemoteDelta"), .int, .int, .int, .int, .int, .int, .int], some .boolean⟩ := by decide +kernel
theorem own_pd4 : parseMethodDescriptor "()I" = some ⟨[], some .int⟩ := by decide +kernel
theorem own_pd5 : parseMethodDescriptor "(I)I" = some ⟨[.int], some .int⟩ := by decide +kernel
theorem own_pd6 : parseMethodDescriptor "(II)J" = some ⟨[.int, .int], some .long⟩ := by decide +kernel
theorem own_pd7 : parseMethodDescriptor "(II)V" = some ⟨[.int, .int], none⟩ := by decide +kernel
theorem own_pd8 : parseMethodDescriptor "(III)Z" = some ⟨[.int, .int, .int], some .boolean⟩ := by decide +kernel
def own_kcm : ByteArray × List (List (Nat × Instr × Nat)) := own_cs.headD (⟨#[]⟩, [])
def own_kcn : CodeL := own_cs.drop 1
theorem own_kca {α : Type} {f : α → Bool} {l : List α} (n : Nat) (h1 : (l.take n).all f = true) (h2 : (l.drop n).all f = true) : l.all f = true := by
  rw [← List.take_append_drop n l, List.all_append, h1, h2]; rfl
set_option maxRecDepth 100000 in
theorem own_kc0_0 : ((own_kcm.2.take 8).all fun c => c.all (okI own_kcm.1)) = true := by decide +kernel
set_option maxRecDepth 100000 in
theorem own_kc0_1 : (((own_kcm.2.drop 8).take 8).all fun c => c.all (okI own_kcm.1)) = true := by decide +kernel
set_option maxRecDepth 100000 in
theorem own_kc0_2 : (((own_kcm.2.drop 8).drop 8).all fun c => c.all (okI own_kcm.1)) = true := by decide +kernel
set_option maxRecDepth 100000 in
theorem own_kcz : okCs own_kcn = true := by decide +kernel
theorem own_kc0 : (own_kcm.2.all fun c => c.all (okI own_kcm.1)) = true := (own_kca 8 own_kc0_0 (own_kca 8 own_kc0_1 own_kc0_2))
theorem own_kch {α : Type} (d : α) : ∀ l : List α, ¬ l.length = 0 → l = l.headD d :: l.drop 1
  | [], h => absurd rfl h
  | a :: r, _ => rfl
theorem own_okcs : okCs own_cs = true := by
  have e : own_cs = own_kcm :: own_kcn := own_kch (⟨#[]⟩, []) own_cs (Nat.succ_ne_zero _)
  have h := own_kcz
  have g := own_kc0
  unfold okCs at h ⊢
  rw [e]
  generalize own_kcm = a at g ⊢
  generalize own_kcn = b at h ⊢
  rw [List.all_cons, g, Bool.true_and]
  exact h
def own_ty (t : ArrayType) : Bool := decide (t = .int) || decide (t = .long)
theorem own_tyok : tyCs own_ty own_cs = true := by decide +kernel
theorem own_nodup : (own_fields.map (·.1)).Nodup := by decide +kernel
set_option maxRecDepth 100000 in
set_option maxHeartbeats 4000000 in
theorem own_good {Z : State} {a0 : Array Value} (hw : ∀ d ∈ tables_1, d.before a0 Z = true) : Good own_P own_nm (bcOf own_cs) own_cn "RemoteDelta" Z a0 := by
  refine good_of (ty := own_ty) rfl own_okcs ?_ ?_ own_nodup ?_ (hw _ (List.mem_of_getElem? (i := 1) rfl)) (hw _ (List.mem_of_getElem? (i := 2) rfl)) own_tyok ?_ ?_
  · exact ⟨⟨_, _, _, _, rfl, (hw _ (List.mem_of_getElem? (i := 10) rfl))⟩,
      ⟨_, _, _, _, rfl, (hw _ (List.mem_of_getElem? (i := 12) rfl))⟩,
      ⟨_, _, _, _, rfl, (hw _ (List.mem_of_getElem? (i := 14) rfl))⟩,
      ⟨_, _, _, _, rfl, (hw _ (List.mem_of_getElem? (i := 16) rfl))⟩,
      ⟨_, _, _, _, rfl, (hw _ (List.mem_of_getElem? (i := 18) rfl))⟩,
      ⟨_, _, _, _, rfl, (hw _ (List.mem_of_getElem? (i := 20) rfl))⟩,
      ⟨_, _, _, _, rfl, (hw _ (List.mem_of_getElem? (i := 23) rfl))⟩,
      ⟨_, _, _, _, rfl, (hw _ (List.mem_of_getElem? (i := 25) rfl))⟩,
      ⟨_, _, _, _, rfl, (hw _ (List.mem_of_getElem? (i := 27) rfl))⟩,
      ⟨_, _, _, _, rfl, (hw _ (List.mem_of_getElem? (i := 29) rfl))⟩,
      ⟨_, _, _, _, rfl, (hw _ (List.mem_of_getElem? (i := 31) rfl))⟩,
      ⟨_, _, _, _, rfl, (hw _ (List.mem_of_getElem? (i := 33) rfl))⟩,
      ⟨_, _, _, _, rfl, (hw _ (List.mem_of_getElem? (i := 40) rfl))⟩,
      ⟨_, _, _, _, rfl, (hw _ (List.mem_of_getElem? (i := 42) rfl))⟩,
      ⟨_, _, _, _, rfl, (hw _ (List.mem_of_getElem? (i := 44) rfl))⟩,
      ⟨_, _, _, _, rfl, (hw _ (List.mem_of_getElem? (i := 46) rfl))⟩,
      ⟨_, _, _, _, rfl, (hw _ (List.mem_of_getElem? (i := 48) rfl))⟩,
      ⟨_, _, _, _, rfl, (hw _ (List.mem_of_getElem? (i := 50) rfl))⟩,
      ⟨_, _, _, _, rfl, (hw _ (List.mem_of_getElem? (i := 52) rfl))⟩,
      ⟨_, _, _, _, rfl, (hw _ (List.mem_of_getElem? (i := 54) rfl))⟩,
      ⟨_, _, _, _, rfl, (hw _ (List.mem_of_getElem? (i := 56) rfl))⟩,
      ⟨_, _, _, _, rfl, (hw _ (List.mem_of_getElem? (i := 58) rfl))⟩,
      ⟨_, _, _, _, rfl, (hw _ (List.mem_of_getElem? (i := 60) rfl))⟩,
      trivial⟩
  · exact ⟨⟨(hw _ (List.mem_of_getElem? (i := 11) rfl)), .array .int, by decide, rfl, rfl⟩,
      ⟨(hw _ (List.mem_of_getElem? (i := 13) rfl)), .array .int, by decide, rfl, rfl⟩,
      ⟨(hw _ (List.mem_of_getElem? (i := 15) rfl)), .array .int, by decide, rfl, rfl⟩,
      ⟨(hw _ (List.mem_of_getElem? (i := 17) rfl)), .array .int, by decide, rfl, rfl⟩,
      ⟨(hw _ (List.mem_of_getElem? (i := 19) rfl)), .array .int, by decide, rfl, rfl⟩,
      ⟨(hw _ (List.mem_of_getElem? (i := 21) rfl)), .array .int, by decide, rfl, rfl⟩,
      ⟨(hw _ (List.mem_of_getElem? (i := 24) rfl)), .array .long, by decide, rfl, rfl⟩,
      ⟨(hw _ (List.mem_of_getElem? (i := 26) rfl)), .array .int, by decide, rfl, rfl⟩,
      ⟨(hw _ (List.mem_of_getElem? (i := 28) rfl)), .array .int, by decide, rfl, rfl⟩,
      ⟨(hw _ (List.mem_of_getElem? (i := 30) rfl)), .array .int, by decide, rfl, rfl⟩,
      ⟨(hw _ (List.mem_of_getElem? (i := 32) rfl)), .array .int, by decide, rfl, rfl⟩,
      ⟨(hw _ (List.mem_of_getElem? (i := 34) rfl)), .int, by decide, rfl, rfl⟩,
      ⟨(hw _ (List.mem_of_getElem? (i := 41) rfl)), .int, by decide, rfl, rfl⟩,
      ⟨(hw _ (List.mem_of_getElem? (i := 43) rfl)), .int, by decide, rfl, rfl⟩,
      ⟨(hw _ (List.mem_of_getElem? (i := 45) rfl)), .int, by decide, rfl, rfl⟩,
      ⟨(hw _ (List.mem_of_getElem? (i := 47) rfl)), .int, by decide, rfl, rfl⟩,
      ⟨(hw _ (List.mem_of_getElem? (i := 49) rfl)), .int, by decide, rfl, rfl⟩,
      ⟨(hw _ (List.mem_of_getElem? (i := 51) rfl)), .int, by decide, rfl, rfl⟩,
      ⟨(hw _ (List.mem_of_getElem? (i := 53) rfl)), .int, by decide, rfl, rfl⟩,
      ⟨(hw _ (List.mem_of_getElem? (i := 55) rfl)), .int, by decide, rfl, rfl⟩,
      ⟨(hw _ (List.mem_of_getElem? (i := 57) rfl)), .int, by decide, rfl, rfl⟩,
      ⟨(hw _ (List.mem_of_getElem? (i := 59) rfl)), .int, by decide, rfl, rfl⟩,
      ⟨(hw _ (List.mem_of_getElem? (i := 61) rfl)), .int, by decide, rfl, rfl⟩,
      trivial⟩
  · exact ⟨(hw _ (List.mem_of_getElem? (i := 130) rfl)),
      (hw _ (List.mem_of_getElem? (i := 135) rfl)),
      (hw _ (List.mem_of_getElem? (i := 136) rfl)),
      trivial⟩
  · intro t ht
    simp only [own_ty, Bool.or_eq_true, decide_eq_true_eq] at ht
    rcases ht with rfl | rfl
    · exact (hw _ (List.mem_of_getElem? (i := 9) rfl))
    · exact (hw _ (List.mem_of_getElem? (i := 22) rfl))
  · exact ⟨⟨(hw _ (List.mem_of_getElem? (i := 3) rfl)), (hw _ (List.mem_of_getElem? (i := 5) rfl)), (hw _ (List.mem_of_getElem? (i := 2) rfl)), ⟨_, _, own_pd0, rfl⟩, own_pn1, own_ne1, rfl, (fun _ => ⟨rfl, rfl⟩), ⟨rfl, (hw _ (List.mem_of_getElem? (i := 4) rfl)), rfl⟩⟩,
      ⟨(hw _ (List.mem_of_getElem? (i := 6) rfl)), (hw _ (List.mem_of_getElem? (i := 7) rfl)), (hw _ (List.mem_of_getElem? (i := 8) rfl))⟩,
      ⟨(hw _ (List.mem_of_getElem? (i := 35) rfl)), (hw _ (List.mem_of_getElem? (i := 39) rfl)), (hw _ (List.mem_of_getElem? (i := 2) rfl)), ⟨_, _, own_pd1, rfl⟩, own_pn1, own_ne1, rfl, (fun h => nomatch h), ⟨(hw _ (List.mem_of_getElem? (i := 36) rfl)), (hw _ (List.mem_of_getElem? (i := 37) rfl)), (hw _ (List.mem_of_getElem? (i := 38) rfl))⟩⟩,
      ⟨(hw _ (List.mem_of_getElem? (i := 62) rfl)), (hw _ (List.mem_of_getElem? (i := 66) rfl)), (hw _ (List.mem_of_getElem? (i := 2) rfl)), ⟨_, _, own_pd2, rfl⟩, own_pn1, own_ne1, rfl, (fun h => nomatch h), ⟨(hw _ (List.mem_of_getElem? (i := 63) rfl)), (hw _ (List.mem_of_getElem? (i := 64) rfl)), (hw _ (List.mem_of_getElem? (i := 65) rfl))⟩⟩,
      ⟨(hw _ (List.mem_of_getElem? (i := 67) rfl)), (hw _ (List.mem_of_getElem? (i := 70) rfl)), (hw _ (List.mem_of_getElem? (i := 69) rfl)), ⟨_, _, own_pd3, rfl⟩, own_pn0, own_ne0, rfl, (fun h => nomatch h), (hw _ (List.mem_of_getElem? (i := 68) rfl))⟩,
      ⟨(hw _ (List.mem_of_getElem? (i := 71) rfl)), (hw _ (List.mem_of_getElem? (i := 75) rfl)), (hw _ (List.mem_of_getElem? (i := 2) rfl)), ⟨_, _, own_pd4, rfl⟩, own_pn1, own_ne1, rfl, (fun h => nomatch h), ⟨(hw _ (List.mem_of_getElem? (i := 72) rfl)), (hw _ (List.mem_of_getElem? (i := 73) rfl)), (hw _ (List.mem_of_getElem? (i := 74) rfl))⟩⟩,
      ⟨(hw _ (List.mem_of_getElem? (i := 76) rfl)), (hw _ (List.mem_of_getElem? (i := 80) rfl)), (hw _ (List.mem_of_getElem? (i := 2) rfl)), ⟨_, _, own_pd5, rfl⟩, own_pn1, own_ne1, rfl, (fun h => nomatch h), ⟨(hw _ (List.mem_of_getElem? (i := 77) rfl)), (hw _ (List.mem_of_getElem? (i := 78) rfl)), (hw _ (List.mem_of_getElem? (i := 79) rfl))⟩⟩,
      ⟨(hw _ (List.mem_of_getElem? (i := 81) rfl)), (hw _ (List.mem_of_getElem? (i := 85) rfl)), (hw _ (List.mem_of_getElem? (i := 2) rfl)), ⟨_, _, own_pd4, rfl⟩, own_pn1, own_ne1, rfl, (fun h => nomatch h), ⟨(hw _ (List.mem_of_getElem? (i := 82) rfl)), (hw _ (List.mem_of_getElem? (i := 83) rfl)), (hw _ (List.mem_of_getElem? (i := 84) rfl))⟩⟩,
      ⟨(hw _ (List.mem_of_getElem? (i := 86) rfl)), (hw _ (List.mem_of_getElem? (i := 90) rfl)), (hw _ (List.mem_of_getElem? (i := 2) rfl)), ⟨_, _, own_pd4, rfl⟩, own_pn1, own_ne1, rfl, (fun h => nomatch h), ⟨(hw _ (List.mem_of_getElem? (i := 87) rfl)), (hw _ (List.mem_of_getElem? (i := 88) rfl)), (hw _ (List.mem_of_getElem? (i := 89) rfl))⟩⟩,
      ⟨(hw _ (List.mem_of_getElem? (i := 91) rfl)), (hw _ (List.mem_of_getElem? (i := 95) rfl)), (hw _ (List.mem_of_getElem? (i := 2) rfl)), ⟨_, _, own_pd2, rfl⟩, own_pn1, own_ne1, rfl, (fun h => nomatch h), ⟨(hw _ (List.mem_of_getElem? (i := 92) rfl)), (hw _ (List.mem_of_getElem? (i := 93) rfl)), (hw _ (List.mem_of_getElem? (i := 94) rfl))⟩⟩,
      ⟨(hw _ (List.mem_of_getElem? (i := 96) rfl)), (hw _ (List.mem_of_getElem? (i := 80) rfl)), (hw _ (List.mem_of_getElem? (i := 2) rfl)), ⟨_, _, own_pd5, rfl⟩, own_pn1, own_ne1, rfl, (fun h => nomatch h), ⟨(hw _ (List.mem_of_getElem? (i := 77) rfl)), (hw _ (List.mem_of_getElem? (i := 78) rfl)), (hw _ (List.mem_of_getElem? (i := 79) rfl))⟩⟩,
      ⟨(hw _ (List.mem_of_getElem? (i := 97) rfl)), (hw _ (List.mem_of_getElem? (i := 101) rfl)), (hw _ (List.mem_of_getElem? (i := 2) rfl)), ⟨_, _, own_pd2, rfl⟩, own_pn1, own_ne1, rfl, (fun h => nomatch h), ⟨(hw _ (List.mem_of_getElem? (i := 98) rfl)), (hw _ (List.mem_of_getElem? (i := 99) rfl)), (hw _ (List.mem_of_getElem? (i := 100) rfl))⟩⟩,
      ⟨(hw _ (List.mem_of_getElem? (i := 102) rfl)), (hw _ (List.mem_of_getElem? (i := 106) rfl)), (hw _ (List.mem_of_getElem? (i := 2) rfl)), ⟨_, _, own_pd4, rfl⟩, own_pn1, own_ne1, rfl, (fun h => nomatch h), ⟨(hw _ (List.mem_of_getElem? (i := 103) rfl)), (hw _ (List.mem_of_getElem? (i := 104) rfl)), (hw _ (List.mem_of_getElem? (i := 105) rfl))⟩⟩,
      ⟨(hw _ (List.mem_of_getElem? (i := 107) rfl)), (hw _ (List.mem_of_getElem? (i := 110) rfl)), (hw _ (List.mem_of_getElem? (i := 2) rfl)), ⟨_, _, own_pd1, rfl⟩, own_pn1, own_ne1, rfl, (fun h => nomatch h), ⟨rfl, (hw _ (List.mem_of_getElem? (i := 108) rfl)), (hw _ (List.mem_of_getElem? (i := 109) rfl))⟩⟩,
      ⟨(hw _ (List.mem_of_getElem? (i := 111) rfl)), (hw _ (List.mem_of_getElem? (i := 115) rfl)), (hw _ (List.mem_of_getElem? (i := 2) rfl)), ⟨_, _, own_pd4, rfl⟩, own_pn1, own_ne1, rfl, (fun h => nomatch h), ⟨(hw _ (List.mem_of_getElem? (i := 112) rfl)), (hw _ (List.mem_of_getElem? (i := 113) rfl)), (hw _ (List.mem_of_getElem? (i := 114) rfl))⟩⟩,
      ⟨(hw _ (List.mem_of_getElem? (i := 116) rfl)), (hw _ (List.mem_of_getElem? (i := 120) rfl)), (hw _ (List.mem_of_getElem? (i := 2) rfl)), ⟨_, _, own_pd4, rfl⟩, own_pn1, own_ne1, rfl, (fun h => nomatch h), ⟨(hw _ (List.mem_of_getElem? (i := 117) rfl)), (hw _ (List.mem_of_getElem? (i := 118) rfl)), (hw _ (List.mem_of_getElem? (i := 119) rfl))⟩⟩,
      ⟨(hw _ (List.mem_of_getElem? (i := 121) rfl)), (hw _ (List.mem_of_getElem? (i := 39) rfl)), (hw _ (List.mem_of_getElem? (i := 2) rfl)), ⟨_, _, own_pd1, rfl⟩, own_pn1, own_ne1, rfl, (fun h => nomatch h), ⟨(hw _ (List.mem_of_getElem? (i := 36) rfl)), (hw _ (List.mem_of_getElem? (i := 37) rfl)), (hw _ (List.mem_of_getElem? (i := 38) rfl))⟩⟩,
      ⟨(hw _ (List.mem_of_getElem? (i := 122) rfl)), (hw _ (List.mem_of_getElem? (i := 125) rfl)), (hw _ (List.mem_of_getElem? (i := 2) rfl)), ⟨_, _, own_pd2, rfl⟩, own_pn1, own_ne1, rfl, (fun h => nomatch h), ⟨rfl, (hw _ (List.mem_of_getElem? (i := 123) rfl)), (hw _ (List.mem_of_getElem? (i := 124) rfl))⟩⟩,
      ⟨(hw _ (List.mem_of_getElem? (i := 126) rfl)), (hw _ (List.mem_of_getElem? (i := 129) rfl)), (hw _ (List.mem_of_getElem? (i := 2) rfl)), ⟨_, _, own_pd2, rfl⟩, own_pn1, own_ne1, rfl, (fun h => nomatch h), ⟨rfl, (hw _ (List.mem_of_getElem? (i := 127) rfl)), (hw _ (List.mem_of_getElem? (i := 128) rfl))⟩⟩,
      ⟨(hw _ (List.mem_of_getElem? (i := 131) rfl)), (hw _ (List.mem_of_getElem? (i := 134) rfl)), (hw _ (List.mem_of_getElem? (i := 2) rfl)), ⟨_, _, own_pd6, rfl⟩, own_pn1, own_ne1, rfl, (fun h => nomatch h), ⟨rfl, (hw _ (List.mem_of_getElem? (i := 132) rfl)), (hw _ (List.mem_of_getElem? (i := 133) rfl))⟩⟩,
      ⟨(hw _ (List.mem_of_getElem? (i := 137) rfl)), (hw _ (List.mem_of_getElem? (i := 141) rfl)), (hw _ (List.mem_of_getElem? (i := 2) rfl)), ⟨_, _, own_pd5, rfl⟩, own_pn1, own_ne1, rfl, (fun h => nomatch h), ⟨(hw _ (List.mem_of_getElem? (i := 138) rfl)), (hw _ (List.mem_of_getElem? (i := 139) rfl)), (hw _ (List.mem_of_getElem? (i := 140) rfl))⟩⟩,
      ⟨(hw _ (List.mem_of_getElem? (i := 142) rfl)), (hw _ (List.mem_of_getElem? (i := 145) rfl)), (hw _ (List.mem_of_getElem? (i := 2) rfl)), ⟨_, _, own_pd5, rfl⟩, own_pn1, own_ne1, rfl, (fun h => nomatch h), ⟨rfl, (hw _ (List.mem_of_getElem? (i := 143) rfl)), (hw _ (List.mem_of_getElem? (i := 144) rfl))⟩⟩,
      ⟨(hw _ (List.mem_of_getElem? (i := 146) rfl)), (hw _ (List.mem_of_getElem? (i := 149) rfl)), (hw _ (List.mem_of_getElem? (i := 2) rfl)), ⟨_, _, own_pd0, rfl⟩, own_pn1, own_ne1, rfl, (fun h => nomatch h), ⟨rfl, (hw _ (List.mem_of_getElem? (i := 147) rfl)), (hw _ (List.mem_of_getElem? (i := 148) rfl))⟩⟩,
      ⟨(hw _ (List.mem_of_getElem? (i := 150) rfl)), (hw _ (List.mem_of_getElem? (i := 153) rfl)), (hw _ (List.mem_of_getElem? (i := 2) rfl)), ⟨_, _, own_pd7, rfl⟩, own_pn1, own_ne1, rfl, (fun h => nomatch h), ⟨rfl, (hw _ (List.mem_of_getElem? (i := 151) rfl)), (hw _ (List.mem_of_getElem? (i := 152) rfl))⟩⟩,
      ⟨(hw _ (List.mem_of_getElem? (i := 154) rfl)), (hw _ (List.mem_of_getElem? (i := 157) rfl)), (hw _ (List.mem_of_getElem? (i := 2) rfl)), ⟨_, _, own_pd8, rfl⟩, own_pn1, own_ne1, rfl, (fun h => nomatch h), ⟨rfl, (hw _ (List.mem_of_getElem? (i := 155) rfl)), (hw _ (List.mem_of_getElem? (i := 156) rfl))⟩⟩,
      ⟨(hw _ (List.mem_of_getElem? (i := 158) rfl)), (hw _ (List.mem_of_getElem? (i := 162) rfl)), (hw _ (List.mem_of_getElem? (i := 2) rfl)), ⟨_, _, own_pd5, rfl⟩, own_pn1, own_ne1, rfl, (fun h => nomatch h), ⟨(hw _ (List.mem_of_getElem? (i := 159) rfl)), (hw _ (List.mem_of_getElem? (i := 160) rfl)), (hw _ (List.mem_of_getElem? (i := 161) rfl))⟩⟩,
      ⟨(hw _ (List.mem_of_getElem? (i := 163) rfl)), (hw _ (List.mem_of_getElem? (i := 167) rfl)), (hw _ (List.mem_of_getElem? (i := 2) rfl)), ⟨_, _, own_pd5, rfl⟩, own_pn1, own_ne1, rfl, (fun h => nomatch h), ⟨(hw _ (List.mem_of_getElem? (i := 164) rfl)), (hw _ (List.mem_of_getElem? (i := 165) rfl)), (hw _ (List.mem_of_getElem? (i := 166) rfl))⟩⟩,
      ⟨(hw _ (List.mem_of_getElem? (i := 168) rfl)), (hw _ (List.mem_of_getElem? (i := 171) rfl)), (hw _ (List.mem_of_getElem? (i := 2) rfl)), ⟨_, _, own_pd2, rfl⟩, own_pn1, own_ne1, rfl, (fun h => nomatch h), ⟨rfl, (hw _ (List.mem_of_getElem? (i := 169) rfl)), (hw _ (List.mem_of_getElem? (i := 170) rfl))⟩⟩,
      ⟨(hw _ (List.mem_of_getElem? (i := 172) rfl)), (hw _ (List.mem_of_getElem? (i := 175) rfl)), (hw _ (List.mem_of_getElem? (i := 2) rfl)), ⟨_, _, own_pd5, rfl⟩, own_pn1, own_ne1, rfl, (fun h => nomatch h), ⟨rfl, (hw _ (List.mem_of_getElem? (i := 173) rfl)), (hw _ (List.mem_of_getElem? (i := 174) rfl))⟩⟩,
      ⟨(hw _ (List.mem_of_getElem? (i := 176) rfl)), (hw _ (List.mem_of_getElem? (i := 179) rfl)), (hw _ (List.mem_of_getElem? (i := 2) rfl)), ⟨_, _, own_pd0, rfl⟩, own_pn1, own_ne1, rfl, (fun h => nomatch h), ⟨rfl, (hw _ (List.mem_of_getElem? (i := 177) rfl)), (hw _ (List.mem_of_getElem? (i := 178) rfl))⟩⟩,
      ⟨(hw _ (List.mem_of_getElem? (i := 180) rfl)), (hw _ (List.mem_of_getElem? (i := 183) rfl)), (hw _ (List.mem_of_getElem? (i := 2) rfl)), ⟨_, _, own_pd0, rfl⟩, own_pn1, own_ne1, rfl, (fun h => nomatch h), ⟨rfl, (hw _ (List.mem_of_getElem? (i := 181) rfl)), (hw _ (List.mem_of_getElem? (i := 182) rfl))⟩⟩,
      ⟨(hw _ (List.mem_of_getElem? (i := 184) rfl)), (hw _ (List.mem_of_getElem? (i := 187) rfl)), (hw _ (List.mem_of_getElem? (i := 2) rfl)), ⟨_, _, own_pd5, rfl⟩, own_pn1, own_ne1, rfl, (fun h => nomatch h), ⟨rfl, (hw _ (List.mem_of_getElem? (i := 185) rfl)), (hw _ (List.mem_of_getElem? (i := 186) rfl))⟩⟩,
      ⟨(hw _ (List.mem_of_getElem? (i := 188) rfl)), (hw _ (List.mem_of_getElem? (i := 191) rfl)), (hw _ (List.mem_of_getElem? (i := 2) rfl)), ⟨_, _, own_pd6, rfl⟩, own_pn1, own_ne1, rfl, (fun h => nomatch h), ⟨rfl, (hw _ (List.mem_of_getElem? (i := 189) rfl)), (hw _ (List.mem_of_getElem? (i := 190) rfl))⟩⟩,
      ⟨(hw _ (List.mem_of_getElem? (i := 192) rfl)), (hw _ (List.mem_of_getElem? (i := 195) rfl)), (hw _ (List.mem_of_getElem? (i := 2) rfl)), ⟨_, _, own_pd0, rfl⟩, own_pn1, own_ne1, rfl, (fun h => nomatch h), ⟨rfl, (hw _ (List.mem_of_getElem? (i := 193) rfl)), (hw _ (List.mem_of_getElem? (i := 194) rfl))⟩⟩,
      (hw _ (List.mem_of_getElem? (i := 0) rfl)),
      trivial⟩
/-! # the object's state -/
def Q : Type := List Int32 × List Int32 × List Int32 × List Int32 × List Int32 × List Int32 × List Int64 × List Int32 × List Int32 × List Int32 × List Int32 × Int32 × Int32 × Int32 × Int32 × Int32 × Int32 × Int32 × Int32 × Int32 × Int32 × Int32 × Int32
def Q.f_basis (s : Q) : List Int32 := s.1
def Q.f_target (s : Q) : List Int32 := s.2.1
def Q.f_literal (s : Q) : List Int32 := s.2.2.1
def Q.f_out (s : Q) : List Int32 := s.2.2.2.1
def Q.f_blkLen (s : Q) : List Int32 := s.2.2.2.2.1
def Q.f_blkWeak (s : Q) : List Int32 := s.2.2.2.2.2.1
def Q.f_blkStrong (s : Q) : List Int64 := s.2.2.2.2.2.2.1
def Q.f_head (s : Q) : List Int32 := s.2.2.2.2.2.2.2.1
def Q.f_next (s : Q) : List Int32 := s.2.2.2.2.2.2.2.2.1
def Q.f_kinds (s : Q) : List Int32 := s.2.2.2.2.2.2.2.2.2.1
def Q.f_values (s : Q) : List Int32 := s.2.2.2.2.2.2.2.2.2.2.1
def Q.f_blockSize (s : Q) : Int32 := s.2.2.2.2.2.2.2.2.2.2.2.1
def Q.f_basisLen (s : Q) : Int32 := s.2.2.2.2.2.2.2.2.2.2.2.2.1
def Q.f_targetLen (s : Q) : Int32 := s.2.2.2.2.2.2.2.2.2.2.2.2.2.1
def Q.f_literalLen (s : Q) : Int32 := s.2.2.2.2.2.2.2.2.2.2.2.2.2.2.1
def Q.f_outLen (s : Q) : Int32 := s.2.2.2.2.2.2.2.2.2.2.2.2.2.2.2.1
def Q.f_blocks (s : Q) : Int32 := s.2.2.2.2.2.2.2.2.2.2.2.2.2.2.2.2.1
def Q.f_ops (s : Q) : Int32 := s.2.2.2.2.2.2.2.2.2.2.2.2.2.2.2.2.2.1
def Q.f_shortBlock (s : Q) : Int32 := s.2.2.2.2.2.2.2.2.2.2.2.2.2.2.2.2.2.2.1
def Q.f_winPos (s : Q) : Int32 := s.2.2.2.2.2.2.2.2.2.2.2.2.2.2.2.2.2.2.2.1
def Q.f_winA (s : Q) : Int32 := s.2.2.2.2.2.2.2.2.2.2.2.2.2.2.2.2.2.2.2.2.1
def Q.f_winB (s : Q) : Int32 := s.2.2.2.2.2.2.2.2.2.2.2.2.2.2.2.2.2.2.2.2.2.1
def Q.f_phaseNow (s : Q) : Int32 := s.2.2.2.2.2.2.2.2.2.2.2.2.2.2.2.2.2.2.2.2.2.2
def Q.s_basis (s : Q) (x : List Int32) : Q := (x, s.2.1, s.2.2.1, s.2.2.2.1, s.2.2.2.2.1, s.2.2.2.2.2.1, s.2.2.2.2.2.2.1, s.2.2.2.2.2.2.2.1, s.2.2.2.2.2.2.2.2.1, s.2.2.2.2.2.2.2.2.2.1, s.2.2.2.2.2.2.2.2.2.2.1, s.2.2.2.2.2.2.2.2.2.2.2.1, s.2.2.2.2.2.2.2.2.2.2.2.2.1, s.2.2.2.2.2.2.2.2.2.2.2.2.2.1, s.2.2.2.2.2.2.2.2.2.2.2.2.2.2.1, s.2.2.2.2.2.2.2.2.2.2.2.2.2.2.2.1, s.2.2.2.2.2.2.2.2.2.2.2.2.2.2.2.2.1, s.2.2.2.2.2.2.2.2.2.2.2.2.2.2.2.2.2.1, s.2.2.2.2.2.2.2.2.2.2.2.2.2.2.2.2.2.2.1, s.2.2.2.2.2.2.2.2.2.2.2.2.2.2.2.2.2.2.2.1, s.2.2.2.2.2.2.2.2.2.2.2.2.2.2.2.2.2.2.2.2.1, s.2.2.2.2.2.2.2.2.2.2.2.2.2.2.2.2.2.2.2.2.2.1, s.2.2.2.2.2.2.2.2.2.2.2.2.2.2.2.2.2.2.2.2.2.2)
def Q.s_target (s : Q) (x : List Int32) : Q := (s.1, x, s.2.2.1, s.2.2.2.1, s.2.2.2.2.1, s.2.2.2.2.2.1, s.2.2.2.2.2.2.1, s.2.2.2.2.2.2.2.1, s.2.2.2.2.2.2.2.2.1, s.2.2.2.2.2.2.2.2.2.1, s.2.2.2.2.2.2.2.2.2.2.1, s.2.2.2.2.2.2.2.2.2.2.2.1, s.2.2.2.2.2.2.2.2.2.2.2.2.1, s.2.2.2.2.2.2.2.2.2.2.2.2.2.1, s.2.2.2.2.2.2.2.2.2.2.2.2.2.2.1, s.2.2.2.2.2.2.2.2.2.2.2.2.2.2.2.1, s.2.2.2.2.2.2.2.2.2.2.2.2.2.2.2.2.1, s.2.2.2.2.2.2.2.2.2.2.2.2.2.2.2.2.2.1, s.2.2.2.2.2.2.2.2.2.2.2.2.2.2.2.2.2.2.1, s.2.2.2.2.2.2.2.2.2.2.2.2.2.2.2.2.2.2.2.1, s.2.2.2.2.2.2.2.2.2.2.2.2.2.2.2.2.2.2.2.2.1, s.2.2.2.2.2.2.2.2.2.2.2.2.2.2.2.2.2.2.2.2.2.1, s.2.2.2.2.2.2.2.2.2.2.2.2.2.2.2.2.2.2.2.2.2.2)
def Q.s_literal (s : Q) (x : List Int32) : Q := (s.1, s.2.1, x, s.2.2.2.1, s.2.2.2.2.1, s.2.2.2.2.2.1, s.2.2.2.2.2.2.1, s.2.2.2.2.2.2.2.1, s.2.2.2.2.2.2.2.2.1, s.2.2.2.2.2.2.2.2.2.1, s.2.2.2.2.2.2.2.2.2.2.1, s.2.2.2.2.2.2.2.2.2.2.2.1, s.2.2.2.2.2.2.2.2.2.2.2.2.1, s.2.2.2.2.2.2.2.2.2.2.2.2.2.1, s.2.2.2.2.2.2.2.2.2.2.2.2.2.2.1, s.2.2.2.2.2.2.2.2.2.2.2.2.2.2.2.1, s.2.2.2.2.2.2.2.2.2.2.2.2.2.2.2.2.1, s.2.2.2.2.2.2.2.2.2.2.2.2.2.2.2.2.2.1, s.2.2.2.2.2.2.2.2.2.2.2.2.2.2.2.2.2.2.1, s.2.2.2.2.2.2.2.2.2.2.2.2.2.2.2.2.2.2.2.1, s.2.2.2.2.2.2.2.2.2.2.2.2.2.2.2.2.2.2.2.2.1, s.2.2.2.2.2.2.2.2.2.2.2.2.2.2.2.2.2.2.2.2.2.1, s.2.2.2.2.2.2.2.2.2.2.2.2.2.2.2.2.2.2.2.2.2.2)
def Q.s_out (s : Q) (x : List Int32) : Q := (s.1, s.2.1, s.2.2.1, x, s.2.2.2.2.1, s.2.2.2.2.2.1, s.2.2.2.2.2.2.1, s.2.2.2.2.2.2.2.1, s.2.2.2.2.2.2.2.2.1, s.2.2.2.2.2.2.2.2.2.1, s.2.2.2.2.2.2.2.2.2.2.1, s.2.2.2.2.2.2.2.2.2.2.2.1, s.2.2.2.2.2.2.2.2.2.2.2.2.1, s.2.2.2.2.2.2.2.2.2.2.2.2.2.1, s.2.2.2.2.2.2.2.2.2.2.2.2.2.2.1, s.2.2.2.2.2.2.2.2.2.2.2.2.2.2.2.1, s.2.2.2.2.2.2.2.2.2.2.2.2.2.2.2.2.1, s.2.2.2.2.2.2.2.2.2.2.2.2.2.2.2.2.2.1, s.2.2.2.2.2.2.2.2.2.2.2.2.2.2.2.2.2.2.1, s.2.2.2.2.2.2.2.2.2.2.2.2.2.2.2.2.2.2.2.1, s.2.2.2.2.2.2.2.2.2.2.2.2.2.2.2.2.2.2.2.2.1, s.2.2.2.2.2.2.2.2.2.2.2.2.2.2.2.2.2.2.2.2.2.1, s.2.2.2.2.2.2.2.2.2.2.2.2.2.2.2.2.2.2.2.2.2.2)
def Q.s_blkLen (s : Q) (x : List Int32) : Q := (s.1, s.2.1, s.2.2.1, s.2.2.2.1, x, s.2.2.2.2.2.1, s.2.2.2.2.2.2.1, s.2.2.2.2.2.2.2.1, s.2.2.2.2.2.2.2.2.1, s.2.2.2.2.2.2.2.2.2.1, s.2.2.2.2.2.2.2.2.2.2.1, s.2.2.2.2.2.2.2.2.2.2.2.1, s.2.2.2.2.2.2.2.2.2.2.2.2.1, s.2.2.2.2.2.2.2.2.2.2.2.2.2.1, s.2.2.2.2.2.2.2.2.2.2.2.2.2.2.1, s.2.2.2.2.2.2.2.2.2.2.2.2.2.2.2.1, s.2.2.2.2.2.2.2.2.2.2.2.2.2.2.2.2.1, s.2.2.2.2.2.2.2.2.2.2.2.2.2.2.2.2.2.1, s.2.2.2.2.2.2.2.2.2.2.2.2.2.2.2.2.2.2.1, s.2.2.2.2.2.2.2.2.2.2.2.2.2.2.2.2.2.2.2.1, s.2.2.2.2.2.2.2.2.2.2.2.2.2.2.2.2.2.2.2.2.1, s.2.2.2.2.2.2.2.2.2.2.2.2.2.2.2.2.2.2.2.2.2.1, s.2.2.2.2.2.2.2.2.2.2.2.2.2.2.2.2.2.2.2.2.2.2)
def Q.s_blkWeak (s : Q) (x : List Int32) : Q := (s.1, s.2.1, s.2.2.1, s.2.2.2.1, s.2.2.2.2.1, x, s.2.2.2.2.2.2.1, s.2.2.2.2.2.2.2.1, s.2.2.2.2.2.2.2.2.1, s.2.2.2.2.2.2.2.2.2.1, s.2.2.2.2.2.2.2.2.2.2.1, s.2.2.2.2.2.2.2.2.2.2.2.1, s.2.2.2.2.2.2.2.2.2.2.2.2.1, s.2.2.2.2.2.2.2.2.2.2.2.2.2.1, s.2.2.2.2.2.2.2.2.2.2.2.2.2.2.1, s.2.2.2.2.2.2.2.2.2.2.2.2.2.2.2.1, s.2.2.2.2.2.2.2.2.2.2.2.2.2.2.2.2.1, s.2.2.2.2.2.2.2.2.2.2.2.2.2.2.2.2.2.1, s.2.2.2.2.2.2.2.2.2.2.2.2.2.2.2.2.2.2.1, s.2.2.2.2.2.2.2.2.2.2.2.2.2.2.2.2.2.2.2.1, s.2.2.2.2.2.2.2.2.2.2.2.2.2.2.2.2.2.2.2.2.1, s.2.2.2.2.2.2.2.2.2.2.2.2.2.2.2.2.2.2.2.2.2.1, s.2.2.2.2.2.2.2.2.2.2.2.2.2.2.2.2.2.2.2.2.2.2)
def Q.s_blkStrong (s : Q) (x : List Int64) : Q := (s.1, s.2.1, s.2.2.1, s.2.2.2.1, s.2.2.2.2.1, s.2.2.2.2.2.1, x, s.2.2.2.2.2.2.2.1, s.2.2.2.2.2.2.2.2.1, s.2.2.2.2.2.2.2.2.2.1, s.2.2.2.2.2.2.2.2.2.2.1, s.2.2.2.2.2.2.2.2.2.2.2.1, s.2.2.2.2.2.2.2.2.2.2.2.2.1, s.2.2.2.2.2.2.2.2.2.2.2.2.2.1, s.2.2.2.2.2.2.2.2.2.2.2.2.2.2.1, s.2.2.2.2.2.2.2.2.2.2.2.2.2.2.2.1, s.2.2.2.2.2.2.2.2.2.2.2.2.2.2.2.2.1, s.2.2.2.2.2.2.2.2.2.2.2.2.2.2.2.2.2.1, s.2.2.2.2.2.2.2.2.2.2.2.2.2.2.2.2.2.2.1, s.2.2.2.2.2.2.2.2.2.2.2.2.2.2.2.2.2.2.2.1, s.2.2.2.2.2.2.2.2.2.2.2.2.2.2.2.2.2.2.2.2.1, s.2.2.2.2.2.2.2.2.2.2.2.2.2.2.2.2.2.2.2.2.2.1, s.2.2.2.2.2.2.2.2.2.2.2.2.2.2.2.2.2.2.2.2.2.2)
def Q.s_head (s : Q) (x : List Int32) : Q := (s.1, s.2.1, s.2.2.1, s.2.2.2.1, s.2.2.2.2.1, s.2.2.2.2.2.1, s.2.2.2.2.2.2.1, x, s.2.2.2.2.2.2.2.2.1, s.2.2.2.2.2.2.2.2.2.1, s.2.2.2.2.2.2.2.2.2.2.1, s.2.2.2.2.2.2.2.2.2.2.2.1, s.2.2.2.2.2.2.2.2.2.2.2.2.1, s.2.2.2.2.2.2.2.2.2.2.2.2.2.1, s.2.2.2.2.2.2.2.2.2.2.2.2.2.2.1, s.2.2.2.2.2.2.2.2.2.2.2.2.2.2.2.1, s.2.2.2.2.2.2.2.2.2.2.2.2.2.2.2.2.1, s.2.2.2.2.2.2.2.2.2.2.2.2.2.2.2.2.2.1, s.2.2.2.2.2.2.2.2.2.2.2.2.2.2.2.2.2.2.1, s.2.2.2.2.2.2.2.2.2.2.2.2.2.2.2.2.2.2.2.1, s.2.2.2.2.2.2.2.2.2.2.2.2.2.2.2.2.2.2.2.2.1, s.2.2.2.2.2.2.2.2.2.2.2.2.2.2.2.2.2.2.2.2.2.1, s.2.2.2.2.2.2.2.2.2.2.2.2.2.2.2.2.2.2.2.2.2.2)
def Q.s_next (s : Q) (x : List Int32) : Q := (s.1, s.2.1, s.2.2.1, s.2.2.2.1, s.2.2.2.2.1, s.2.2.2.2.2.1, s.2.2.2.2.2.2.1, s.2.2.2.2.2.2.2.1, x, s.2.2.2.2.2.2.2.2.2.1, s.2.2.2.2.2.2.2.2.2.2.1, s.2.2.2.2.2.2.2.2.2.2.2.1, s.2.2.2.2.2.2.2.2.2.2.2.2.1, s.2.2.2.2.2.2.2.2.2.2.2.2.2.1, s.2.2.2.2.2.2.2.2.2.2.2.2.2.2.1, s.2.2.2.2.2.2.2.2.2.2.2.2.2.2.2.1, s.2.2.2.2.2.2.2.2.2.2.2.2.2.2.2.2.1, s.2.2.2.2.2.2.2.2.2.2.2.2.2.2.2.2.2.1, s.2.2.2.2.2.2.2.2.2.2.2.2.2.2.2.2.2.2.1, s.2.2.2.2.2.2.2.2.2.2.2.2.2.2.2.2.2.2.2.1, s.2.2.2.2.2.2.2.2.2.2.2.2.2.2.2.2.2.2.2.2.1, s.2.2.2.2.2.2.2.2.2.2.2.2.2.2.2.2.2.2.2.2.2.1, s.2.2.2.2.2.2.2.2.2.2.2.2.2.2.2.2.2.2.2.2.2.2)
def Q.s_kinds (s : Q) (x : List Int32) : Q := (s.1, s.2.1, s.2.2.1, s.2.2.2.1, s.2.2.2.2.1, s.2.2.2.2.2.1, s.2.2.2.2.2.2.1, s.2.2.2.2.2.2.2.1, s.2.2.2.2.2.2.2.2.1, x, s.2.2.2.2.2.2.2.2.2.2.1, s.2.2.2.2.2.2.2.2.2.2.2.1, s.2.2.2.2.2.2.2.2.2.2.2.2.1, s.2.2.2.2.2.2.2.2.2.2.2.2.2.1, s.2.2.2.2.2.2.2.2.2.2.2.2.2.2.1, s.2.2.2.2.2.2.2.2.2.2.2.2.2.2.2.1, s.2.2.2.2.2.2.2.2.2.2.2.2.2.2.2.2.1, s.2.2.2.2.2.2.2.2.2.2.2.2.2.2.2.2.2.1, s.2.2.2.2.2.2.2.2.2.2.2.2.2.2.2.2.2.2.1, s.2.2.2.2.2.2.2.2.2.2.2.2.2.2.2.2.2.2.2.1, s.2.2.2.2.2.2.2.2.2.2.2.2.2.2.2.2.2.2.2.2.1, s.2.2.2.2.2.2.2.2.2.2.2.2.2.2.2.2.2.2.2.2.2.1, s.2.2.2.2.2.2.2.2.2.2.2.2.2.2.2.2.2.2.2.2.2.2)
def Q.s_values (s : Q) (x : List Int32) : Q := (s.1, s.2.1, s.2.2.1, s.2.2.2.1, s.2.2.2.2.1, s.2.2.2.2.2.1, s.2.2.2.2.2.2.1, s.2.2.2.2.2.2.2.1, s.2.2.2.2.2.2.2.2.1, s.2.2.2.2.2.2.2.2.2.1, x, s.2.2.2.2.2.2.2.2.2.2.2.1, s.2.2.2.2.2.2.2.2.2.2.2.2.1, s.2.2.2.2.2.2.2.2.2.2.2.2.2.1, s.2.2.2.2.2.2.2.2.2.2.2.2.2.2.1, s.2.2.2.2.2.2.2.2.2.2.2.2.2.2.2.1, s.2.2.2.2.2.2.2.2.2.2.2.2.2.2.2.2.1, s.2.2.2.2.2.2.2.2.2.2.2.2.2.2.2.2.2.1, s.2.2.2.2.2.2.2.2.2.2.2.2.2.2.2.2.2.2.1, s.2.2.2.2.2.2.2.2.2.2.2.2.2.2.2.2.2.2.2.1, s.2.2.2.2.2.2.2.2.2.2.2.2.2.2.2.2.2.2.2.2.1, s.2.2.2.2.2.2.2.2.2.2.2.2.2.2.2.2.2.2.2.2.2.1, s.2.2.2.2.2.2.2.2.2.2.2.2.2.2.2.2.2.2.2.2.2.2)
def Q.s_blockSize (s : Q) (x : Int32) : Q := (s.1, s.2.1, s.2.2.1, s.2.2.2.1, s.2.2.2.2.1, s.2.2.2.2.2.1, s.2.2.2.2.2.2.1, s.2.2.2.2.2.2.2.1, s.2.2.2.2.2.2.2.2.1, s.2.2.2.2.2.2.2.2.2.1, s.2.2.2.2.2.2.2.2.2.2.1, x, s.2.2.2.2.2.2.2.2.2.2.2.2.1, s.2.2.2.2.2.2.2.2.2.2.2.2.2.1, s.2.2.2.2.2.2.2.2.2.2.2.2.2.2.1, s.2.2.2.2.2.2.2.2.2.2.2.2.2.2.2.1, s.2.2.2.2.2.2.2.2.2.2.2.2.2.2.2.2.1, s.2.2.2.2.2.2.2.2.2.2.2.2.2.2.2.2.2.1, s.2.2.2.2.2.2.2.2.2.2.2.2.2.2.2.2.2.2.1, s.2.2.2.2.2.2.2.2.2.2.2.2.2.2.2.2.2.2.2.1, s.2.2.2.2.2.2.2.2.2.2.2.2.2.2.2.2.2.2.2.2.1, s.2.2.2.2.2.2.2.2.2.2.2.2.2.2.2.2.2.2.2.2.2.1, s.2.2.2.2.2.2.2.2.2.2.2.2.2.2.2.2.2.2.2.2.2.2)
def Q.s_basisLen (s : Q) (x : Int32) : Q := (s.1, s.2.1, s.2.2.1, s.2.2.2.1, s.2.2.2.2.1, s.2.2.2.2.2.1, s.2.2.2.2.2.2.1, s.2.2.2.2.2.2.2.1, s.2.2.2.2.2.2.2.2.1, s.2.2.2.2.2.2.2.2.2.1, s.2.2.2.2.2.2.2.2.2.2.1, s.2.2.2.2.2.2.2.2.2.2.2.1, x, s.2.2.2.2.2.2.2.2.2.2.2.2.2.1, s.2.2.2.2.2.2.2.2.2.2.2.2.2.2.1, s.2.2.2.2.2.2.2.2.2.2.2.2.2.2.2.1, s.2.2.2.2.2.2.2.2.2.2.2.2.2.2.2.2.1, s.2.2.2.2.2.2.2.2.2.2.2.2.2.2.2.2.2.1, s.2.2.2.2.2.2.2.2.2.2.2.2.2.2.2.2.2.2.1, s.2.2.2.2.2.2.2.2.2.2.2.2.2.2.2.2.2.2.2.1, s.2.2.2.2.2.2.2.2.2.2.2.2.2.2.2.2.2.2.2.2.1, s.2.2.2.2.2.2.2.2.2.2.2.2.2.2.2.2.2.2.2.2.2.1, s.2.2.2.2.2.2.2.2.2.2.2.2.2.2.2.2.2.2.2.2.2.2)
def Q.s_targetLen (s : Q) (x : Int32) : Q := (s.1, s.2.1, s.2.2.1, s.2.2.2.1, s.2.2.2.2.1, s.2.2.2.2.2.1, s.2.2.2.2.2.2.1, s.2.2.2.2.2.2.2.1, s.2.2.2.2.2.2.2.2.1, s.2.2.2.2.2.2.2.2.2.1, s.2.2.2.2.2.2.2.2.2.2.1, s.2.2.2.2.2.2.2.2.2.2.2.1, s.2.2.2.2.2.2.2.2.2.2.2.2.1, x, s.2.2.2.2.2.2.2.2.2.2.2.2.2.2.1, s.2.2.2.2.2.2.2.2.2.2.2.2.2.2.2.1, s.2.2.2.2.2.2.2.2.2.2.2.2.2.2.2.2.1, s.2.2.2.2.2.2.2.2.2.2.2.2.2.2.2.2.2.1, s.2.2.2.2.2.2.2.2.2.2.2.2.2.2.2.2.2.2.1, s.2.2.2.2.2.2.2.2.2.2.2.2.2.2.2.2.2.2.2.1, s.2.2.2.2.2.2.2.2.2.2.2.2.2.2.2.2.2.2.2.2.1, s.2.2.2.2.2.2.2.2.2.2.2.2.2.2.2.2.2.2.2.2.2.1, s.2.2.2.2.2.2.2.2.2.2.2.2.2.2.2.2.2.2.2.2.2.2)
def Q.s_literalLen (s : Q) (x : Int32) : Q := (s.1, s.2.1, s.2.2.1, s.2.2.2.1, s.2.2.2.2.1, s.2.2.2.2.2.1, s.2.2.2.2.2.2.1, s.2.2.2.2.2.2.2.1, s.2.2.2.2.2.2.2.2.1, s.2.2.2.2.2.2.2.2.2.1, s.2.2.2.2.2.2.2.2.2.2.1, s.2.2.2.2.2.2.2.2.2.2.2.1, s.2.2.2.2.2.2.2.2.2.2.2.2.1, s.2.2.2.2.2.2.2.2.2.2.2.2.2.1, x, s.2.2.2.2.2.2.2.2.2.2.2.2.2.2.2.1, s.2.2.2.2.2.2.2.2.2.2.2.2.2.2.2.2.1, s.2.2.2.2.2.2.2.2.2.2.2.2.2.2.2.2.2.1, s.2.2.2.2.2.2.2.2.2.2.2.2.2.2.2.2.2.2.1, s.2.2.2.2.2.2.2.2.2.2.2.2.2.2.2.2.2.2.2.1, s.2.2.2.2.2.2.2.2.2.2.2.2.2.2.2.2.2.2.2.2.1, s.2.2.2.2.2.2.2.2.2.2.2.2.2.2.2.2.2.2.2.2.2.1, s.2.2.2.2.2.2.2.2.2.2.2.2.2.2.2.2.2.2.2.2.2.2)
def Q.s_outLen (s : Q) (x : Int32) : Q := (s.1, s.2.1, s.2.2.1, s.2.2.2.1, s.2.2.2.2.1, s.2.2.2.2.2.1, s.2.2.2.2.2.2.1, s.2.2.2.2.2.2.2.1, s.2.2.2.2.2.2.2.2.1, s.2.2.2.2.2.2.2.2.2.1, s.2.2.2.2.2.2.2.2.2.2.1, s.2.2.2.2.2.2.2.2.2.2.2.1, s.2.2.2.2.2.2.2.2.2.2.2.2.1, s.2.2.2.2.2.2.2.2.2.2.2.2.2.1, s.2.2.2.2.2.2.2.2.2.2.2.2.2.2.1, x, s.2.2.2.2.2.2.2.2.2.2.2.2.2.2.2.2.1, s.2.2.2.2.2.2.2.2.2.2.2.2.2.2.2.2.2.1, s.2.2.2.2.2.2.2.2.2.2.2.2.2.2.2.2.2.2.1, s.2.2.2.2.2.2.2.2.2.2.2.2.2.2.2.2.2.2.2.1, s.2.2.2.2.2.2.2.2.2.2.2.2.2.2.2.2.2.2.2.2.1, s.2.2.2.2.2.2.2.2.2.2.2.2.2.2.2.2.2.2.2.2.2.1, s.2.2.2.2.2.2.2.2.2.2.2.2.2.2.2.2.2.2.2.2.2.2)
def Q.s_blocks (s : Q) (x : Int32) : Q := (s.1, s.2.1, s.2.2.1, s.2.2.2.1, s.2.2.2.2.1, s.2.2.2.2.2.1, s.2.2.2.2.2.2.1, s.2.2.2.2.2.2.2.1, s.2.2.2.2.2.2.2.2.1, s.2.2.2.2.2.2.2.2.2.1, s.2.2.2.2.2.2.2.2.2.2.1, s.2.2.2.2.2.2.2.2.2.2.2.1, s.2.2.2.2.2.2.2.2.2.2.2.2.1, s.2.2.2.2.2.2.2.2.2.2.2.2.2.1, s.2.2.2.2.2.2.2.2.2.2.2.2.2.2.1, s.2.2.2.2.2.2.2.2.2.2.2.2.2.2.2.1, x, s.2.2.2.2.2.2.2.2.2.2.2.2.2.2.2.2.2.1, s.2.2.2.2.2.2.2.2.2.2.2.2.2.2.2.2.2.2.1, s.2.2.2.2.2.2.2.2.2.2.2.2.2.2.2.2.2.2.2.1, s.2.2.2.2.2.2.2.2.2.2.2.2.2.2.2.2.2.2.2.2.1, s.2.2.2.2.2.2.2.2.2.2.2.2.2.2.2.2.2.2.2.2.2.1, s.2.2.2.2.2.2.2.2.2.2.2.2.2.2.2.2.2.2.2.2.2.2)
def Q.s_ops (s : Q) (x : Int32) : Q := (s.1, s.2.1, s.2.2.1, s.2.2.2.1, s.2.2.2.2.1, s.2.2.2.2.2.1, s.2.2.2.2.2.2.1, s.2.2.2.2.2.2.2.1, s.2.2.2.2.2.2.2.2.1, s.2.2.2.2.2.2.2.2.2.1, s.2.2.2.2.2.2.2.2.2.2.1, s.2.2.2.2.2.2.2.2.2.2.2.1, s.2.2.2.2.2.2.2.2.2.2.2.2.1, s.2.2.2.2.2.2.2.2.2.2.2.2.2.1, s.2.2.2.2.2.2.2.2.2.2.2.2.2.2.1, s.2.2.2.2.2.2.2.2.2.2.2.2.2.2.2.1, s.2.2.2.2.2.2.2.2.2.2.2.2.2.2.2.2.1, x, s.2.2.2.2.2.2.2.2.2.2.2.2.2.2.2.2.2.2.1, s.2.2.2.2.2.2.2.2.2.2.2.2.2.2.2.2.2.2.2.1, s.2.2.2.2.2.2.2.2.2.2.2.2.2.2.2.2.2.2.2.2.1, s.2.2.2.2.2.2.2.2.2.2.2.2.2.2.2.2.2.2.2.2.2.1, s.2.2.2.2.2.2.2.2.2.2.2.2.2.2.2.2.2.2.2.2.2.2)
def Q.s_shortBlock (s : Q) (x : Int32) : Q := (s.1, s.2.1, s.2.2.1, s.2.2.2.1, s.2.2.2.2.1, s.2.2.2.2.2.1, s.2.2.2.2.2.2.1, s.2.2.2.2.2.2.2.1, s.2.2.2.2.2.2.2.2.1, s.2.2.2.2.2.2.2.2.2.1, s.2.2.2.2.2.2.2.2.2.2.1, s.2.2.2.2.2.2.2.2.2.2.2.1, s.2.2.2.2.2.2.2.2.2.2.2.2.1, s.2.2.2.2.2.2.2.2.2.2.2.2.2.1, s.2.2.2.2.2.2.2.2.2.2.2.2.2.2.1, s.2.2.2.2.2.2.2.2.2.2.2.2.2.2.2.1, s.2.2.2.2.2.2.2.2.2.2.2.2.2.2.2.2.1, s.2.2.2.2.2.2.2.2.2.2.2.2.2.2.2.2.2.1, x, s.2.2.2.2.2.2.2.2.2.2.2.2.2.2.2.2.2.2.2.1, s.2.2.2.2.2.2.2.2.2.2.2.2.2.2.2.2.2.2.2.2.1, s.2.2.2.2.2.2.2.2.2.2.2.2.2.2.2.2.2.2.2.2.2.1, s.2.2.2.2.2.2.2.2.2.2.2.2.2.2.2.2.2.2.2.2.2.2)
def Q.s_winPos (s : Q) (x : Int32) : Q := (s.1, s.2.1, s.2.2.1, s.2.2.2.1, s.2.2.2.2.1, s.2.2.2.2.2.1, s.2.2.2.2.2.2.1, s.2.2.2.2.2.2.2.1, s.2.2.2.2.2.2.2.2.1, s.2.2.2.2.2.2.2.2.2.1, s.2.2.2.2.2.2.2.2.2.2.1, s.2.2.2.2.2.2.2.2.2.2.2.1, s.2.2.2.2.2.2.2.2.2.2.2.2.1, s.2.2.2.2.2.2.2.2.2.2.2.2.2.1, s.2.2.2.2.2.2.2.2.2.2.2.2.2.2.1, s.2.2.2.2.2.2.2.2.2.2.2.2.2.2.2.1, s.2.2.2.2.2.2.2.2.2.2.2.2.2.2.2.2.1, s.2.2.2.2.2.2.2.2.2.2.2.2.2.2.2.2.2.1, s.2.2.2.2.2.2.2.2.2.2.2.2.2.2.2.2.2.2.1, x, s.2.2.2.2.2.2.2.2.2.2.2.2.2.2.2.2.2.2.2.2.1, s.2.2.2.2.2.2.2.2.2.2.2.2.2.2.2.2.2.2.2.2.2.1, s.2.2.2.2.2.2.2.2.2.2.2.2.2.2.2.2.2.2.2.2.2.2)
def Q.s_winA (s : Q) (x : Int32) : Q := (s.1, s.2.1, s.2.2.1, s.2.2.2.1, s.2.2.2.2.1, s.2.2.2.2.2.1, s.2.2.2.2.2.2.1, s.2.2.2.2.2.2.2.1, s.2.2.2.2.2.2.2.2.1, s.2.2.2.2.2.2.2.2.2.1, s.2.2.2.2.2.2.2.2.2.2.1, s.2.2.2.2.2.2.2.2.2.2.2.1, s.2.2.2.2.2.2.2.2.2.2.2.2.1, s.2.2.2.2.2.2.2.2.2.2.2.2.2.1, s.2.2.2.2.2.2.2.2.2.2.2.2.2.2.1, s.2.2.2.2.2.2.2.2.2.2.2.2.2.2.2.1, s.2.2.2.2.2.2.2.2.2.2.2.2.2.2.2.2.1, s.2.2.2.2.2.2.2.2.2.2.2.2.2.2.2.2.2.1, s.2.2.2.2.2.2.2.2.2.2.2.2.2.2.2.2.2.2.1, s.2.2.2.2.2.2.2.2.2.2.2.2.2.2.2.2.2.2.2.1, x, s.2.2.2.2.2.2.2.2.2.2.2.2.2.2.2.2.2.2.2.2.2.1, s.2.2.2.2.2.2.2.2.2.2.2.2.2.2.2.2.2.2.2.2.2.2)
def Q.s_winB (s : Q) (x : Int32) : Q := (s.1, s.2.1, s.2.2.1, s.2.2.2.1, s.2.2.2.2.1, s.2.2.2.2.2.1, s.2.2.2.2.2.2.1, s.2.2.2.2.2.2.2.1, s.2.2.2.2.2.2.2.2.1, s.2.2.2.2.2.2.2.2.2.1, s.2.2.2.2.2.2.2.2.2.2.1, s.2.2.2.2.2.2.2.2.2.2.2.1, s.2.2.2.2.2.2.2.2.2.2.2.2.1, s.2.2.2.2.2.2.2.2.2.2.2.2.2.1, s.2.2.2.2.2.2.2.2.2.2.2.2.2.2.1, s.2.2.2.2.2.2.2.2.2.2.2.2.2.2.2.1, s.2.2.2.2.2.2.2.2.2.2.2.2.2.2.2.2.1, s.2.2.2.2.2.2.2.2.2.2.2.2.2.2.2.2.2.1, s.2.2.2.2.2.2.2.2.2.2.2.2.2.2.2.2.2.2.1, s.2.2.2.2.2.2.2.2.2.2.2.2.2.2.2.2.2.2.2.1, s.2.2.2.2.2.2.2.2.2.2.2.2.2.2.2.2.2.2.2.2.1, x, s.2.2.2.2.2.2.2.2.2.2.2.2.2.2.2.2.2.2.2.2.2.2)
def Q.s_phaseNow (s : Q) (x : Int32) : Q := (s.1, s.2.1, s.2.2.1, s.2.2.2.1, s.2.2.2.2.1, s.2.2.2.2.2.1, s.2.2.2.2.2.2.1, s.2.2.2.2.2.2.2.1, s.2.2.2.2.2.2.2.2.1, s.2.2.2.2.2.2.2.2.2.1, s.2.2.2.2.2.2.2.2.2.2.1, s.2.2.2.2.2.2.2.2.2.2.2.1, s.2.2.2.2.2.2.2.2.2.2.2.2.1, s.2.2.2.2.2.2.2.2.2.2.2.2.2.1, s.2.2.2.2.2.2.2.2.2.2.2.2.2.2.1, s.2.2.2.2.2.2.2.2.2.2.2.2.2.2.2.1, s.2.2.2.2.2.2.2.2.2.2.2.2.2.2.2.2.1, s.2.2.2.2.2.2.2.2.2.2.2.2.2.2.2.2.2.1, s.2.2.2.2.2.2.2.2.2.2.2.2.2.2.2.2.2.2.1, s.2.2.2.2.2.2.2.2.2.2.2.2.2.2.2.2.2.2.2.1, s.2.2.2.2.2.2.2.2.2.2.2.2.2.2.2.2.2.2.2.2.1, s.2.2.2.2.2.2.2.2.2.2.2.2.2.2.2.2.2.2.2.2.2.1, x)
def Q0 : Q := (List.replicate 256 0, List.replicate 256 0, List.replicate 256 0, List.replicate 256 0, List.replicate 128 0, List.replicate 128 0, List.replicate 128 0, List.replicate 256 0, List.replicate 128 0, List.replicate 256 0, List.replicate 256 0, (0 : Int32), (0 : Int32), (0 : Int32), (0 : Int32), (0 : Int32), (0 : Int32), (0 : Int32), (0 : Int32), (0 : Int32), (0 : Int32), (0 : Int32), (0 : Int32))
def Q.mk (q0 : List Int32) (q1 : List Int32) (q2 : List Int32) (q3 : List Int32) (q4 : List Int32) (q5 : List Int32) (q6 : List Int64) (q7 : List Int32) (q8 : List Int32) (q9 : List Int32) (q10 : List Int32) (q11 q12 : Int32) (q13 q14 : Int32) (q15 q16 : Int32) (q17 q18 : Int32) (q19 q20 : Int32) (q21 q22 : Int32) : Q := (q0, q1, q2, q3, q4, q5, q6, q7, q8, q9, q10, q11, q12, q13, q14, q15, q16, q17, q18, q19, q20, q21, q22)
theorem own_f_basis {q0 : List Int32} {q1 : List Int32} {q2 : List Int32} {q3 : List Int32} {q4 : List Int32} {q5 : List Int32} {q6 : List Int64} {q7 : List Int32} {q8 : List Int32} {q9 : List Int32} {q10 : List Int32} {q11 : Int32} {q12 : Int32} {q13 : Int32} {q14 : Int32} {q15 : Int32} {q16 : Int32} {q17 : Int32} {q18 : Int32} {q19 : Int32} {q20 : Int32} {q21 : Int32} {q22 : Int32} : (Q.mk q0 q1 q2 q3 q4 q5 q6 q7 q8 q9 q10 q11 q12 q13 q14 q15 q16 q17 q18 q19 q20 q21 q22).f_basis = q0 := by have _h := trivial; exact rfl
theorem own_f_target {q0 : List Int32} {q1 : List Int32} {q2 : List Int32} {q3 : List Int32} {q4 : List Int32} {q5 : List Int32} {q6 : List Int64} {q7 : List Int32} {q8 : List Int32} {q9 : List Int32} {q10 : List Int32} {q11 : Int32} {q12 : Int32} {q13 : Int32} {q14 : Int32} {q15 : Int32} {q16 : Int32} {q17 : Int32} {q18 : Int32} {q19 : Int32} {q20 : Int32} {q21 : Int32} {q22 : Int32} : (Q.mk q0 q1 q2 q3 q4 q5 q6 q7 q8 q9 q10 q11 q12 q13 q14 q15 q16 q17 q18 q19 q20 q21 q22).f_target = q1 := by have _h := trivial; exact rfl
theorem own_f_literal {q0 : List Int32} {q1 : List Int32} {q2 : List Int32} {q3 : List Int32} {q4 : List Int32} {q5 : List Int32} {q6 : List Int64} {q7 : List Int32} {q8 : List Int32} {q9 : List Int32} {q10 : List Int32} {q11 : Int32} {q12 : Int32} {q13 : Int32} {q14 : Int32} {q15 : Int32} {q16 : Int32} {q17 : Int32} {q18 : Int32} {q19 : Int32} {q20 : Int32} {q21 : Int32} {q22 : Int32} : (Q.mk q0 q1 q2 q3 q4 q5 q6 q7 q8 q9 q10 q11 q12 q13 q14 q15 q16 q17 q18 q19 q20 q21 q22).f_literal = q2 := by have _h := trivial; exact rfl
theorem own_f_out {q0 : List Int32} {q1 : List Int32} {q2 : List Int32} {q3 : List Int32} {q4 : List Int32} {q5 : List Int32} {q6 : List Int64} {q7 : List Int32} {q8 : List Int32} {q9 : List Int32} {q10 : List Int32} {q11 : Int32} {q12 : Int32} {q13 : Int32} {q14 : Int32} {q15 : Int32} {q16 : Int32} {q17 : Int32} {q18 : Int32} {q19 : Int32} {q20 : Int32} {q21 : Int32} {q22 : Int32} : (Q.mk q0 q1 q2 q3 q4 q5 q6 q7 q8 q9 q10 q11 q12 q13 q14 q15 q16 q17 q18 q19 q20 q21 q22).f_out = q3 := by have _h := trivial; exact rfl
theorem own_f_blkLen {q0 : List Int32} {q1 : List Int32} {q2 : List Int32} {q3 : List Int32} {q4 : List Int32} {q5 : List Int32} {q6 : List Int64} {q7 : List Int32} {q8 : List Int32} {q9 : List Int32} {q10 : List Int32} {q11 : Int32} {q12 : Int32} {q13 : Int32} {q14 : Int32} {q15 : Int32} {q16 : Int32} {q17 : Int32} {q18 : Int32} {q19 : Int32} {q20 : Int32} {q21 : Int32} {q22 : Int32} : (Q.mk q0 q1 q2 q3 q4 q5 q6 q7 q8 q9 q10 q11 q12 q13 q14 q15 q16 q17 q18 q19 q20 q21 q22).f_blkLen = q4 := by have _h := trivial; exact rfl
theorem own_f_blkWeak {q0 : List Int32} {q1 : List Int32} {q2 : List Int32} {q3 : List Int32} {q4 : List Int32} {q5 : List Int32} {q6 : List Int64} {q7 : List Int32} {q8 : List Int32} {q9 : List Int32} {q10 : List Int32} {q11 : Int32} {q12 : Int32} {q13 : Int32} {q14 : Int32} {q15 : Int32} {q16 : Int32} {q17 : Int32} {q18 : Int32} {q19 : Int32} {q20 : Int32} {q21 : Int32} {q22 : Int32} : (Q.mk q0 q1 q2 q3 q4 q5 q6 q7 q8 q9 q10 q11 q12 q13 q14 q15 q16 q17 q18 q19 q20 q21 q22).f_blkWeak = q5 := by have _h := trivial; exact rfl
theorem own_f_blkStrong {q0 : List Int32} {q1 : List Int32} {q2 : List Int32} {q3 : List Int32} {q4 : List Int32} {q5 : List Int32} {q6 : List Int64} {q7 : List Int32} {q8 : List Int32} {q9 : List Int32} {q10 : List Int32} {q11 : Int32} {q12 : Int32} {q13 : Int32} {q14 : Int32} {q15 : Int32} {q16 : Int32} {q17 : Int32} {q18 : Int32} {q19 : Int32} {q20 : Int32} {q21 : Int32} {q22 : Int32} : (Q.mk q0 q1 q2 q3 q4 q5 q6 q7 q8 q9 q10 q11 q12 q13 q14 q15 q16 q17 q18 q19 q20 q21 q22).f_blkStrong = q6 := by have _h := trivial; exact rfl
theorem own_f_head {q0 : List Int32} {q1 : List Int32} {q2 : List Int32} {q3 : List Int32} {q4 : List Int32} {q5 : List Int32} {q6 : List Int64} {q7 : List Int32} {q8 : List Int32} {q9 : List Int32} {q10 : List Int32} {q11 : Int32} {q12 : Int32} {q13 : Int32} {q14 : Int32} {q15 : Int32} {q16 : Int32} {q17 : Int32} {q18 : Int32} {q19 : Int32} {q20 : Int32} {q21 : Int32} {q22 : Int32} : (Q.mk q0 q1 q2 q3 q4 q5 q6 q7 q8 q9 q10 q11 q12 q13 q14 q15 q16 q17 q18 q19 q20 q21 q22).f_head = q7 := by have _h := trivial; exact rfl
theorem own_f_next {q0 : List Int32} {q1 : List Int32} {q2 : List Int32} {q3 : List Int32} {q4 : List Int32} {q5 : List Int32} {q6 : List Int64} {q7 : List Int32} {q8 : List Int32} {q9 : List Int32} {q10 : List Int32} {q11 : Int32} {q12 : Int32} {q13 : Int32} {q14 : Int32} {q15 : Int32} {q16 : Int32} {q17 : Int32} {q18 : Int32} {q19 : Int32} {q20 : Int32} {q21 : Int32} {q22 : Int32} : (Q.mk q0 q1 q2 q3 q4 q5 q6 q7 q8 q9 q10 q11 q12 q13 q14 q15 q16 q17 q18 q19 q20 q21 q22).f_next = q8 := by have _h := trivial; exact rfl
theorem own_f_kinds {q0 : List Int32} {q1 : List Int32} {q2 : List Int32} {q3 : List Int32} {q4 : List Int32} {q5 : List Int32} {q6 : List Int64} {q7 : List Int32} {q8 : List Int32} {q9 : List Int32} {q10 : List Int32} {q11 : Int32} {q12 : Int32} {q13 : Int32} {q14 : Int32} {q15 : Int32} {q16 : Int32} {q17 : Int32} {q18 : Int32} {q19 : Int32} {q20 : Int32} {q21 : Int32} {q22 : Int32} : (Q.mk q0 q1 q2 q3 q4 q5 q6 q7 q8 q9 q10 q11 q12 q13 q14 q15 q16 q17 q18 q19 q20 q21 q22).f_kinds = q9 := by have _h := trivial; exact rfl
theorem own_f_values {q0 : List Int32} {q1 : List Int32} {q2 : List Int32} {q3 : List Int32} {q4 : List Int32} {q5 : List Int32} {q6 : List Int64} {q7 : List Int32} {q8 : List Int32} {q9 : List Int32} {q10 : List Int32} {q11 : Int32} {q12 : Int32} {q13 : Int32} {q14 : Int32} {q15 : Int32} {q16 : Int32} {q17 : Int32} {q18 : Int32} {q19 : Int32} {q20 : Int32} {q21 : Int32} {q22 : Int32} : (Q.mk q0 q1 q2 q3 q4 q5 q6 q7 q8 q9 q10 q11 q12 q13 q14 q15 q16 q17 q18 q19 q20 q21 q22).f_values = q10 := by have _h := trivial; exact rfl
theorem own_f_blockSize {q0 : List Int32} {q1 : List Int32} {q2 : List Int32} {q3 : List Int32} {q4 : List Int32} {q5 : List Int32} {q6 : List Int64} {q7 : List Int32} {q8 : List Int32} {q9 : List Int32} {q10 : List Int32} {q11 : Int32} {q12 : Int32} {q13 : Int32} {q14 : Int32} {q15 : Int32} {q16 : Int32} {q17 : Int32} {q18 : Int32} {q19 : Int32} {q20 : Int32} {q21 : Int32} {q22 : Int32} : (Q.mk q0 q1 q2 q3 q4 q5 q6 q7 q8 q9 q10 q11 q12 q13 q14 q15 q16 q17 q18 q19 q20 q21 q22).f_blockSize = q11 := by have _h := trivial; exact rfl
theorem own_f_basisLen {q0 : List Int32} {q1 : List Int32} {q2 : List Int32} {q3 : List Int32} {q4 : List Int32} {q5 : List Int32} {q6 : List Int64} {q7 : List Int32} {q8 : List Int32} {q9 : List Int32} {q10 : List Int32} {q11 : Int32} {q12 : Int32} {q13 : Int32} {q14 : Int32} {q15 : Int32} {q16 : Int32} {q17 : Int32} {q18 : Int32} {q19 : Int32} {q20 : Int32} {q21 : Int32} {q22 : Int32} : (Q.mk q0 q1 q2 q3 q4 q5 q6 q7 q8 q9 q10 q11 q12 q13 q14 q15 q16 q17 q18 q19 q20 q21 q22).f_basisLen = q12 := by have _h := trivial; exact rfl
theorem own_f_targetLen {q0 : List Int32} {q1 : List Int32} {q2 : List Int32} {q3 : List Int32} {q4 : List Int32} {q5 : List Int32} {q6 : List Int64} {q7 : List Int32} {q8 : List Int32} {q9 : List Int32} {q10 : List Int32} {q11 : Int32} {q12 : Int32} {q13 : Int32} {q14 : Int32} {q15 : Int32} {q16 : Int32} {q17 : Int32} {q18 : Int32} {q19 : Int32} {q20 : Int32} {q21 : Int32} {q22 : Int32} : (Q.mk q0 q1 q2 q3 q4 q5 q6 q7 q8 q9 q10 q11 q12 q13 q14 q15 q16 q17 q18 q19 q20 q21 q22).f_targetLen = q13 := by have _h := trivial; exact rfl
theorem own_f_literalLen {q0 : List Int32} {q1 : List Int32} {q2 : List Int32} {q3 : List Int32} {q4 : List Int32} {q5 : List Int32} {q6 : List Int64} {q7 : List Int32} {q8 : List Int32} {q9 : List Int32} {q10 : List Int32} {q11 : Int32} {q12 : Int32} {q13 : Int32} {q14 : Int32} {q15 : Int32} {q16 : Int32} {q17 : Int32} {q18 : Int32} {q19 : Int32} {q20 : Int32} {q21 : Int32} {q22 : Int32} : (Q.mk q0 q1 q2 q3 q4 q5 q6 q7 q8 q9 q10 q11 q12 q13 q14 q15 q16 q17 q18 q19 q20 q21 q22).f_literalLen = q14 := by have _h := trivial; exact rfl
theorem own_f_outLen {q0 : List Int32} {q1 : List Int32} {q2 : List Int32} {q3 : List Int32} {q4 : List Int32} {q5 : List Int32} {q6 : List Int64} {q7 : List Int32} {q8 : List Int32} {q9 : List Int32} {q10 : List Int32} {q11 : Int32} {q12 : Int32} {q13 : Int32} {q14 : Int32} {q15 : Int32} {q16 : Int32} {q17 : Int32} {q18 : Int32} {q19 : Int32} {q20 : Int32} {q21 : Int32} {q22 : Int32} : (Q.mk q0 q1 q2 q3 q4 q5 q6 q7 q8 q9 q10 q11 q12 q13 q14 q15 q16 q17 q18 q19 q20 q21 q22).f_outLen = q15 := by have _h := trivial; exact rfl
theorem own_f_blocks {q0 : List Int32} {q1 : List Int32} {q2 : List Int32} {q3 : List Int32} {q4 : List Int32} {q5 : List Int32} {q6 : List Int64} {q7 : List Int32} {q8 : List Int32} {q9 : List Int32} {q10 : List Int32} {q11 : Int32} {q12 : Int32} {q13 : Int32} {q14 : Int32} {q15 : Int32} {q16 : Int32} {q17 : Int32} {q18 : Int32} {q19 : Int32} {q20 : Int32} {q21 : Int32} {q22 : Int32} : (Q.mk q0 q1 q2 q3 q4 q5 q6 q7 q8 q9 q10 q11 q12 q13 q14 q15 q16 q17 q18 q19 q20 q21 q22).f_blocks = q16 := by have _h := trivial; exact rfl
theorem own_f_ops {q0 : List Int32} {q1 : List Int32} {q2 : List Int32} {q3 : List Int32} {q4 : List Int32} {q5 : List Int32} {q6 : List Int64} {q7 : List Int32} {q8 : List Int32} {q9 : List Int32} {q10 : List Int32} {q11 : Int32} {q12 : Int32} {q13 : Int32} {q14 : Int32} {q15 : Int32} {q16 : Int32} {q17 : Int32} {q18 : Int32} {q19 : Int32} {q20 : Int32} {q21 : Int32} {q22 : Int32} : (Q.mk q0 q1 q2 q3 q4 q5 q6 q7 q8 q9 q10 q11 q12 q13 q14 q15 q16 q17 q18 q19 q20 q21 q22).f_ops = q17 := by have _h := trivial; exact rfl
theorem own_f_shortBlock {q0 : List Int32} {q1 : List Int32} {q2 : List Int32} {q3 : List Int32} {q4 : List Int32} {q5 : List Int32} {q6 : List Int64} {q7 : List Int32} {q8 : List Int32} {q9 : List Int32} {q10 : List Int32} {q11 : Int32} {q12 : Int32} {q13 : Int32} {q14 : Int32} {q15 : Int32} {q16 : Int32} {q17 : Int32} {q18 : Int32} {q19 : Int32} {q20 : Int32} {q21 : Int32} {q22 : Int32} : (Q.mk q0 q1 q2 q3 q4 q5 q6 q7 q8 q9 q10 q11 q12 q13 q14 q15 q16 q17 q18 q19 q20 q21 q22).f_shortBlock = q18 := by have _h := trivial; exact rfl
theorem own_f_winPos {q0 : List Int32} {q1 : List Int32} {q2 : List Int32} {q3 : List Int32} {q4 : List Int32} {q5 : List Int32} {q6 : List Int64} {q7 : List Int32} {q8 : List Int32} {q9 : List Int32} {q10 : List Int32} {q11 : Int32} {q12 : Int32} {q13 : Int32} {q14 : Int32} {q15 : Int32} {q16 : Int32} {q17 : Int32} {q18 : Int32} {q19 : Int32} {q20 : Int32} {q21 : Int32} {q22 : Int32} : (Q.mk q0 q1 q2 q3 q4 q5 q6 q7 q8 q9 q10 q11 q12 q13 q14 q15 q16 q17 q18 q19 q20 q21 q22).f_winPos = q19 := by have _h := trivial; exact rfl
theorem own_f_winA {q0 : List Int32} {q1 : List Int32} {q2 : List Int32} {q3 : List Int32} {q4 : List Int32} {q5 : List Int32} {q6 : List Int64} {q7 : List Int32} {q8 : List Int32} {q9 : List Int32} {q10 : List Int32} {q11 : Int32} {q12 : Int32} {q13 : Int32} {q14 : Int32} {q15 : Int32} {q16 : Int32} {q17 : Int32} {q18 : Int32} {q19 : Int32} {q20 : Int32} {q21 : Int32} {q22 : Int32} : (Q.mk q0 q1 q2 q3 q4 q5 q6 q7 q8 q9 q10 q11 q12 q13 q14 q15 q16 q17 q18 q19 q20 q21 q22).f_winA = q20 := by have _h := trivial; exact rfl
theorem own_f_winB {q0 : List Int32} {q1 : List Int32} {q2 : List Int32} {q3 : List Int32} {q4 : List Int32} {q5 : List Int32} {q6 : List Int64} {q7 : List Int32} {q8 : List Int32} {q9 : List Int32} {q10 : List Int32} {q11 : Int32} {q12 : Int32} {q13 : Int32} {q14 : Int32} {q15 : Int32} {q16 : Int32} {q17 : Int32} {q18 : Int32} {q19 : Int32} {q20 : Int32} {q21 : Int32} {q22 : Int32} : (Q.mk q0 q1 q2 q3 q4 q5 q6 q7 q8 q9 q10 q11 q12 q13 q14 q15 q16 q17 q18 q19 q20 q21 q22).f_winB = q21 := by have _h := trivial; exact rfl
theorem own_f_phaseNow {q0 : List Int32} {q1 : List Int32} {q2 : List Int32} {q3 : List Int32} {q4 : List Int32} {q5 : List Int32} {q6 : List Int64} {q7 : List Int32} {q8 : List Int32} {q9 : List Int32} {q10 : List Int32} {q11 : Int32} {q12 : Int32} {q13 : Int32} {q14 : Int32} {q15 : Int32} {q16 : Int32} {q17 : Int32} {q18 : Int32} {q19 : Int32} {q20 : Int32} {q21 : Int32} {q22 : Int32} : (Q.mk q0 q1 q2 q3 q4 q5 q6 q7 q8 q9 q10 q11 q12 q13 q14 q15 q16 q17 q18 q19 q20 q21 q22).f_phaseNow = q22 := by have _h := trivial; exact rfl
theorem own_e_basis (s : Q) (x : List Int32) : s.s_basis x = Q.mk x s.f_target s.f_literal s.f_out s.f_blkLen s.f_blkWeak s.f_blkStrong s.f_head s.f_next s.f_kinds s.f_values s.f_blockSize s.f_basisLen s.f_targetLen s.f_literalLen s.f_outLen s.f_blocks s.f_ops s.f_shortBlock s.f_winPos s.f_winA s.f_winB s.f_phaseNow := by have _h := trivial; exact rfl
theorem own_e_target (s : Q) (x : List Int32) : s.s_target x = Q.mk s.f_basis x s.f_literal s.f_out s.f_blkLen s.f_blkWeak s.f_blkStrong s.f_head s.f_next s.f_kinds s.f_values s.f_blockSize s.f_basisLen s.f_targetLen s.f_literalLen s.f_outLen s.f_blocks s.f_ops s.f_shortBlock s.f_winPos s.f_winA s.f_winB s.f_phaseNow := by have _h := trivial; exact rfl
theorem own_e_literal (s : Q) (x : List Int32) : s.s_literal x = Q.mk s.f_basis s.f_target x s.f_out s.f_blkLen s.f_blkWeak s.f_blkStrong s.f_head s.f_next s.f_kinds s.f_values s.f_blockSize s.f_basisLen s.f_targetLen s.f_literalLen s.f_outLen s.f_blocks s.f_ops s.f_shortBlock s.f_winPos s.f_winA s.f_winB s.f_phaseNow := by have _h := trivial; exact rfl
theorem own_e_out (s : Q) (x : List Int32) : s.s_out x = Q.mk s.f_basis s.f_target s.f_literal x s.f_blkLen s.f_blkWeak s.f_blkStrong s.f_head s.f_next s.f_kinds s.f_values s.f_blockSize s.f_basisLen s.f_targetLen s.f_literalLen s.f_outLen s.f_blocks s.f_ops s.f_shortBlock s.f_winPos s.f_winA s.f_winB s.f_phaseNow := by have _h := trivial; exact rfl
theorem own_e_blkLen (s : Q) (x : List Int32) : s.s_blkLen x = Q.mk s.f_basis s.f_target s.f_literal s.f_out x s.f_blkWeak s.f_blkStrong s.f_head s.f_next s.f_kinds s.f_values s.f_blockSize s.f_basisLen s.f_targetLen s.f_literalLen s.f_outLen s.f_blocks s.f_ops s.f_shortBlock s.f_winPos s.f_winA s.f_winB s.f_phaseNow := by have _h := trivial; exact rfl
theorem own_e_blkWeak (s : Q) (x : List Int32) : s.s_blkWeak x = Q.mk s.f_basis s.f_target s.f_literal s.f_out s.f_blkLen x s.f_blkStrong s.f_head s.f_next s.f_kinds s.f_values s.f_blockSize s.f_basisLen s.f_targetLen s.f_literalLen s.f_outLen s.f_blocks s.f_ops s.f_shortBlock s.f_winPos s.f_winA s.f_winB s.f_phaseNow := by have _h := trivial; exact rfl
theorem own_e_blkStrong (s : Q) (x : List Int64) : s.s_blkStrong x = Q.mk s.f_basis s.f_target s.f_literal s.f_out s.f_blkLen s.f_blkWeak x s.f_head s.f_next s.f_kinds s.f_values s.f_blockSize s.f_basisLen s.f_targetLen s.f_literalLen s.f_outLen s.f_blocks s.f_ops s.f_shortBlock s.f_winPos s.f_winA s.f_winB s.f_phaseNow := by have _h := trivial; exact rfl
theorem own_e_head (s : Q) (x : List Int32) : s.s_head x = Q.mk s.f_basis s.f_target s.f_literal s.f_out s.f_blkLen s.f_blkWeak s.f_blkStrong x s.f_next s.f_kinds s.f_values s.f_blockSize s.f_basisLen s.f_targetLen s.f_literalLen s.f_outLen s.f_blocks s.f_ops s.f_shortBlock s.f_winPos s.f_winA s.f_winB s.f_phaseNow := by have _h := trivial; exact rfl
theorem own_e_next (s : Q) (x : List Int32) : s.s_next x = Q.mk s.f_basis s.f_target s.f_literal s.f_out s.f_blkLen s.f_blkWeak s.f_blkStrong s.f_head x s.f_kinds s.f_values s.f_blockSize s.f_basisLen s.f_targetLen s.f_literalLen s.f_outLen s.f_blocks s.f_ops s.f_shortBlock s.f_winPos s.f_winA s.f_winB s.f_phaseNow := by have _h := trivial; exact rfl
theorem own_e_kinds (s : Q) (x : List Int32) : s.s_kinds x = Q.mk s.f_basis s.f_target s.f_literal s.f_out s.f_blkLen s.f_blkWeak s.f_blkStrong s.f_head s.f_next x s.f_values s.f_blockSize s.f_basisLen s.f_targetLen s.f_literalLen s.f_outLen s.f_blocks s.f_ops s.f_shortBlock s.f_winPos s.f_winA s.f_winB s.f_phaseNow := by have _h := trivial; exact rfl
theorem own_e_values (s : Q) (x : List Int32) : s.s_values x = Q.mk s.f_basis s.f_target s.f_literal s.f_out s.f_blkLen s.f_blkWeak s.f_blkStrong s.f_head s.f_next s.f_kinds x s.f_blockSize s.f_basisLen s.f_targetLen s.f_literalLen s.f_outLen s.f_blocks s.f_ops s.f_shortBlock s.f_winPos s.f_winA s.f_winB s.f_phaseNow := by have _h := trivial; exact rfl
theorem own_e_blockSize (s : Q) (x : Int32) : s.s_blockSize x = Q.mk s.f_basis s.f_target s.f_literal s.f_out s.f_blkLen s.f_blkWeak s.f_blkStrong s.f_head s.f_next s.f_kinds s.f_values x s.f_basisLen s.f_targetLen s.f_literalLen s.f_outLen s.f_blocks s.f_ops s.f_shortBlock s.f_winPos s.f_winA s.f_winB s.f_phaseNow := by have _h := trivial; exact rfl
theorem own_e_basisLen (s : Q) (x : Int32) : s.s_basisLen x = Q.mk s.f_basis s.f_target s.f_literal s.f_out s.f_blkLen s.f_blkWeak s.f_blkStrong s.f_head s.f_next s.f_kinds s.f_values s.f_blockSize x s.f_targetLen s.f_literalLen s.f_outLen s.f_blocks s.f_ops s.f_shortBlock s.f_winPos s.f_winA s.f_winB s.f_phaseNow := by have _h := trivial; exact rfl
theorem own_e_targetLen (s : Q) (x : Int32) : s.s_targetLen x = Q.mk s.f_basis s.f_target s.f_literal s.f_out s.f_blkLen s.f_blkWeak s.f_blkStrong s.f_head s.f_next s.f_kinds s.f_values s.f_blockSize s.f_basisLen x s.f_literalLen s.f_outLen s.f_blocks s.f_ops s.f_shortBlock s.f_winPos s.f_winA s.f_winB s.f_phaseNow := by have _h := trivial; exact rfl
theorem own_e_literalLen (s : Q) (x : Int32) : s.s_literalLen x = Q.mk s.f_basis s.f_target s.f_literal s.f_out s.f_blkLen s.f_blkWeak s.f_blkStrong s.f_head s.f_next s.f_kinds s.f_values s.f_blockSize s.f_basisLen s.f_targetLen x s.f_outLen s.f_blocks s.f_ops s.f_shortBlock s.f_winPos s.f_winA s.f_winB s.f_phaseNow := by have _h := trivial; exact rfl
theorem own_e_outLen (s : Q) (x : Int32) : s.s_outLen x = Q.mk s.f_basis s.f_target s.f_literal s.f_out s.f_blkLen s.f_blkWeak s.f_blkStrong s.f_head s.f_next s.f_kinds s.f_values s.f_blockSize s.f_basisLen s.f_targetLen s.f_literalLen x s.f_blocks s.f_ops s.f_shortBlock s.f_winPos s.f_winA s.f_winB s.f_phaseNow := by have _h := trivial; exact rfl
theorem own_e_blocks (s : Q) (x : Int32) : s.s_blocks x = Q.mk s.f_basis s.f_target s.f_literal s.f_out s.f_blkLen s.f_blkWeak s.f_blkStrong s.f_head s.f_next s.f_kinds s.f_values s.f_blockSize s.f_basisLen s.f_targetLen s.f_literalLen s.f_outLen x s.f_ops s.f_shortBlock s.f_winPos s.f_winA s.f_winB s.f_phaseNow := by have _h := trivial; exact rfl
theorem own_e_ops (s : Q) (x : Int32) : s.s_ops x = Q.mk s.f_basis s.f_target s.f_literal s.f_out s.f_blkLen s.f_blkWeak s.f_blkStrong s.f_head s.f_next s.f_kinds s.f_values s.f_blockSize s.f_basisLen s.f_targetLen s.f_literalLen s.f_outLen s.f_blocks x s.f_shortBlock s.f_winPos s.f_winA s.f_winB s.f_phaseNow := by have _h := trivial; exact rfl
theorem own_e_shortBlock (s : Q) (x : Int32) : s.s_shortBlock x = Q.mk s.f_basis s.f_target s.f_literal s.f_out s.f_blkLen s.f_blkWeak s.f_blkStrong s.f_head s.f_next s.f_kinds s.f_values s.f_blockSize s.f_basisLen s.f_targetLen s.f_literalLen s.f_outLen s.f_blocks s.f_ops x s.f_winPos s.f_winA s.f_winB s.f_phaseNow := by have _h := trivial; exact rfl
theorem own_e_winPos (s : Q) (x : Int32) : s.s_winPos x = Q.mk s.f_basis s.f_target s.f_literal s.f_out s.f_blkLen s.f_blkWeak s.f_blkStrong s.f_head s.f_next s.f_kinds s.f_values s.f_blockSize s.f_basisLen s.f_targetLen s.f_literalLen s.f_outLen s.f_blocks s.f_ops s.f_shortBlock x s.f_winA s.f_winB s.f_phaseNow := by have _h := trivial; exact rfl
theorem own_e_winA (s : Q) (x : Int32) : s.s_winA x = Q.mk s.f_basis s.f_target s.f_literal s.f_out s.f_blkLen s.f_blkWeak s.f_blkStrong s.f_head s.f_next s.f_kinds s.f_values s.f_blockSize s.f_basisLen s.f_targetLen s.f_literalLen s.f_outLen s.f_blocks s.f_ops s.f_shortBlock s.f_winPos x s.f_winB s.f_phaseNow := by have _h := trivial; exact rfl
theorem own_e_winB (s : Q) (x : Int32) : s.s_winB x = Q.mk s.f_basis s.f_target s.f_literal s.f_out s.f_blkLen s.f_blkWeak s.f_blkStrong s.f_head s.f_next s.f_kinds s.f_values s.f_blockSize s.f_basisLen s.f_targetLen s.f_literalLen s.f_outLen s.f_blocks s.f_ops s.f_shortBlock s.f_winPos s.f_winA x s.f_phaseNow := by have _h := trivial; exact rfl
theorem own_e_phaseNow (s : Q) (x : Int32) : s.s_phaseNow x = Q.mk s.f_basis s.f_target s.f_literal s.f_out s.f_blkLen s.f_blkWeak s.f_blkStrong s.f_head s.f_next s.f_kinds s.f_values s.f_blockSize s.f_basisLen s.f_targetLen s.f_literalLen s.f_outLen s.f_blocks s.f_ops s.f_shortBlock s.f_winPos s.f_winA s.f_winB x := by have _h := trivial; exact rfl
theorem own_z_basis : Q0.f_basis = List.replicate 256 0 := by have _h := trivial; exact rfl
theorem own_z_target : Q0.f_target = List.replicate 256 0 := by have _h := trivial; exact rfl
theorem own_z_literal : Q0.f_literal = List.replicate 256 0 := by have _h := trivial; exact rfl
theorem own_z_out : Q0.f_out = List.replicate 256 0 := by have _h := trivial; exact rfl
theorem own_z_blkLen : Q0.f_blkLen = List.replicate 128 0 := by have _h := trivial; exact rfl
theorem own_z_blkWeak : Q0.f_blkWeak = List.replicate 128 0 := by have _h := trivial; exact rfl
theorem own_z_blkStrong : Q0.f_blkStrong = List.replicate 128 0 := by have _h := trivial; exact rfl
theorem own_z_head : Q0.f_head = List.replicate 256 0 := by have _h := trivial; exact rfl
theorem own_z_next : Q0.f_next = List.replicate 128 0 := by have _h := trivial; exact rfl
theorem own_z_kinds : Q0.f_kinds = List.replicate 256 0 := by have _h := trivial; exact rfl
theorem own_z_values : Q0.f_values = List.replicate 256 0 := by have _h := trivial; exact rfl
theorem own_z_blockSize : Q0.f_blockSize = (0 : Int32) := by have _h := trivial; exact rfl
theorem own_z_basisLen : Q0.f_basisLen = (0 : Int32) := by have _h := trivial; exact rfl
theorem own_z_targetLen : Q0.f_targetLen = (0 : Int32) := by have _h := trivial; exact rfl
theorem own_z_literalLen : Q0.f_literalLen = (0 : Int32) := by have _h := trivial; exact rfl
theorem own_z_outLen : Q0.f_outLen = (0 : Int32) := by have _h := trivial; exact rfl
theorem own_z_blocks : Q0.f_blocks = (0 : Int32) := by have _h := trivial; exact rfl
theorem own_z_ops : Q0.f_ops = (0 : Int32) := by have _h := trivial; exact rfl
theorem own_z_shortBlock : Q0.f_shortBlock = (0 : Int32) := by have _h := trivial; exact rfl
theorem own_z_winPos : Q0.f_winPos = (0 : Int32) := by have _h := trivial; exact rfl
theorem own_z_winA : Q0.f_winA = (0 : Int32) := by have _h := trivial; exact rfl
theorem own_z_winB : Q0.f_winB = (0 : Int32) := by have _h := trivial; exact rfl
theorem own_z_phaseNow : Q0.f_phaseNow = (0 : Int32) := by have _h := trivial; exact rfl
def own_Qa := And.intro @own_f_basis (And.intro @own_e_basis (And.intro @own_z_basis (And.intro @own_f_target (And.intro @own_e_target (And.intro @own_z_target (And.intro @own_f_literal (And.intro @own_e_literal (And.intro @own_z_literal (And.intro @own_f_out (And.intro @own_e_out (And.intro @own_z_out (And.intro @own_f_blkLen (And.intro @own_e_blkLen (And.intro @own_z_blkLen (And.intro @own_f_blkWeak (And.intro @own_e_blkWeak (And.intro @own_z_blkWeak (And.intro @own_f_blkStrong (And.intro @own_e_blkStrong (And.intro @own_z_blkStrong (And.intro @own_f_head (And.intro @own_e_head (And.intro @own_z_head (And.intro @own_f_next (And.intro @own_e_next (And.intro @own_z_next (And.intro @own_f_kinds (And.intro @own_e_kinds (And.intro @own_z_kinds (And.intro @own_f_values (And.intro @own_e_values (And.intro @own_z_values (And.intro @own_f_blockSize (And.intro @own_e_blockSize (And.intro @own_z_blockSize (And.intro @own_f_basisLen (And.intro @own_e_basisLen (And.intro @own_z_basisLen (And.intro @own_f_targetLen (And.intro @own_e_targetLen (And.intro @own_z_targetLen (And.intro @own_f_literalLen (And.intro @own_e_literalLen (And.intro @own_z_literalLen (And.intro @own_f_outLen (And.intro @own_e_outLen (And.intro @own_z_outLen (And.intro @own_f_blocks (And.intro @own_e_blocks (And.intro @own_z_blocks (And.intro @own_f_ops (And.intro @own_e_ops (And.intro @own_z_ops (And.intro @own_f_shortBlock (And.intro @own_e_shortBlock (And.intro @own_z_shortBlock (And.intro @own_f_winPos (And.intro @own_e_winPos (And.intro @own_z_winPos (And.intro @own_f_winA (And.intro @own_e_winA (And.intro @own_z_winA (And.intro @own_f_winB (And.intro @own_e_winB (And.intro @own_z_winB (And.intro @own_f_phaseNow (And.intro @own_e_phaseNow (@own_z_phaseNow))))))))))))))))))))))))))))))))))))))))))))))))))))))))))))))))))))
abbrev W0 (scr : List Int32) (R : AHeap) : AHeap := .inr (.inl (0, scr)) :: R
def own_cells1 (q0 : List Int32) (q1 : List Int32) (q2 : List Int32) (q3 : List Int32) (q4 : List Int32) (q5 : List Int32) (q6 : List Int64) (q7 : List Int32) (q8 : List Int32) (q9 : List Int32) (q10 : List Int32) (q11 q12 : Int32) (q13 q14 : Int32) (q15 q16 : Int32) (q17 q18 : Int32) (q19 q20 : Int32) (q21 q22 : Int32) (R : AHeap) : AHeap := .inl [.ref 2, .ref 3, .ref 4, .ref 5, .ref 6, .ref 7, .ref 8, .ref 9, .ref 10, .ref 11, .ref 12, .int q11, .int q12, .int q13, .int q14, .int q15, .int q16, .int q17, .int q18, .int q19, .int q20, .int q21, .int q22] ::
  .inr (.inl (1, q0)) ::
  .inr (.inl (1, q1)) ::
  .inr (.inl (1, q2)) ::
  .inr (.inl (1, q3)) ::
  .inr (.inl (1, q4)) ::
  .inr (.inl (1, q5)) ::
  .inr (.inr q6) ::
  .inr (.inl (1, q7)) ::
  .inr (.inl (1, q8)) ::
  .inr (.inl (1, q9)) ::
  .inr (.inl (1, q10)) ::
  R
def C1 (scr : List Int32) (q0 : List Int32) (q1 : List Int32) (q2 : List Int32) (q3 : List Int32) (q4 : List Int32) (q5 : List Int32) (q6 : List Int64) (q7 : List Int32) (q8 : List Int32) (q9 : List Int32) (q10 : List Int32) (q11 q12 : Int32) (q13 q14 : Int32) (q15 q16 : Int32) (q17 q18 : Int32) (q19 q20 : Int32) (q21 q22 : Int32) (R : AHeap) : AHeap := .inr (.inl (0, scr)) :: own_cells1 q0 q1 q2 q3 q4 q5 q6 q7 q8 q9 q10 q11 q12 q13 q14 q15 q16 q17 q18 q19 q20 q21 q22 R
abbrev W1 (scr : List Int32) (s : Q) (R : AHeap) : AHeap := C1 scr s.f_basis s.f_target s.f_literal s.f_out s.f_blkLen s.f_blkWeak s.f_blkStrong s.f_head s.f_next s.f_kinds s.f_values s.f_blockSize s.f_basisLen s.f_targetLen s.f_literalLen s.f_outLen s.f_blocks s.f_ops s.f_shortBlock s.f_winPos s.f_winA s.f_winB s.f_phaseNow R
theorem own_g1_basis {scr : List Int32} {q0 : List Int32} {q1 : List Int32} {q2 : List Int32} {q3 : List Int32} {q4 : List Int32} {q5 : List Int32} {q6 : List Int64} {q7 : List Int32} {q8 : List Int32} {q9 : List Int32} {q10 : List Int32} {q11 : Int32} {q12 : Int32} {q13 : Int32} {q14 : Int32} {q15 : Int32} {q16 : Int32} {q17 : Int32} {q18 : Int32} {q19 : Int32} {q20 : Int32} {q21 : Int32} {q22 : Int32} {R : AHeap} : getC (C1 scr q0 q1 q2 q3 q4 q5 q6 q7 q8 q9 q10 q11 q12 q13 q14 q15 q16 q17 q18 q19 q20 q21 q22 R) 1 0 = some (.ref 2) := rfl
theorem own_a1_basis {scr : List Int32} {q0 : List Int32} {q1 : List Int32} {q2 : List Int32} {q3 : List Int32} {q4 : List Int32} {q5 : List Int32} {q6 : List Int64} {q7 : List Int32} {q8 : List Int32} {q9 : List Int32} {q10 : List Int32} {q11 : Int32} {q12 : Int32} {q13 : Int32} {q14 : Int32} {q15 : Int32} {q16 : Int32} {q17 : Int32} {q18 : Int32} {q19 : Int32} {q20 : Int32} {q21 : Int32} {q22 : Int32} {R : AHeap} : (C1 scr q0 q1 q2 q3 q4 q5 q6 q7 q8 q9 q10 q11 q12 q13 q14 q15 q16 q17 q18 q19 q20 q21 q22 R)[2]? = some (.inr (.inl (1, q0))) := rfl
theorem own_s1_basis {scr : List Int32} {q0 : List Int32} {q1 : List Int32} {q2 : List Int32} {q3 : List Int32} {q4 : List Int32} {q5 : List Int32} {q6 : List Int64} {q7 : List Int32} {q8 : List Int32} {q9 : List Int32} {q10 : List Int32} {q11 : Int32} {q12 : Int32} {q13 : Int32} {q14 : Int32} {q15 : Int32} {q16 : Int32} {q17 : Int32} {q18 : Int32} {q19 : Int32} {q20 : Int32} {q21 : Int32} {q22 : Int32} {R : AHeap} {x : List Int32} : (C1 scr q0 q1 q2 q3 q4 q5 q6 q7 q8 q9 q10 q11 q12 q13 q14 q15 q16 q17 q18 q19 q20 q21 q22 R).set 2 (.inr (.inl (1, x))) = (C1 scr x q1 q2 q3 q4 q5 q6 q7 q8 q9 q10 q11 q12 q13 q14 q15 q16 q17 q18 q19 q20 q21 q22 R) := rfl
theorem own_g1_target {scr : List Int32} {q0 : List Int32} {q1 : List Int32} {q2 : List Int32} {q3 : List Int32} {q4 : List Int32} {q5 : List Int32} {q6 : List Int64} {q7 : List Int32} {q8 : List Int32} {q9 : List Int32} {q10 : List Int32} {q11 : Int32} {q12 : Int32} {q13 : Int32} {q14 : Int32} {q15 : Int32} {q16 : Int32} {q17 : Int32} {q18 : Int32} {q19 : Int32} {q20 : Int32} {q21 : Int32} {q22 : Int32} {R : AHeap} : getC (C1 scr q0 q1 q2 q3 q4 q5 q6 q7 q8 q9 q10 q11 q12 q13 q14 q15 q16 q17 q18 q19 q20 q21 q22 R) 1 1 = some (.ref 3) := rfl
theorem own_a1_target {scr : List Int32} {q0 : List Int32} {q1 : List Int32} {q2 : List Int32} {q3 : List Int32} {q4 : List Int32} {q5 : List Int32} {q6 : List Int64} {q7 : List Int32} {q8 : List Int32} {q9 : List Int32} {q10 : List Int32} {q11 : Int32} {q12 : Int32} {q13 : Int32} {q14 : Int32} {q15 : Int32} {q16 : Int32} {q17 : Int32} {q18 : Int32} {q19 : Int32} {q20 : Int32} {q21 : Int32} {q22 : Int32} {R : AHeap} : (C1 scr q0 q1 q2 q3 q4 q5 q6 q7 q8 q9 q10 q11 q12 q13 q14 q15 q16 q17 q18 q19 q20 q21 q22 R)[3]? = some (.inr (.inl (1, q1))) := rfl
theorem own_s1_target {scr : List Int32} {q0 : List Int32} {q1 : List Int32} {q2 : List Int32} {q3 : List Int32} {q4 : List Int32} {q5 : List Int32} {q6 : List Int64} {q7 : List Int32} {q8 : List Int32} {q9 : List Int32} {q10 : List Int32} {q11 : Int32} {q12 : Int32} {q13 : Int32} {q14 : Int32} {q15 : Int32} {q16 : Int32} {q17 : Int32} {q18 : Int32} {q19 : Int32} {q20 : Int32} {q21 : Int32} {q22 : Int32} {R : AHeap} {x : List Int32} : (C1 scr q0 q1 q2 q3 q4 q5 q6 q7 q8 q9 q10 q11 q12 q13 q14 q15 q16 q17 q18 q19 q20 q21 q22 R).set 3 (.inr (.inl (1, x))) = (C1 scr q0 x q2 q3 q4 q5 q6 q7 q8 q9 q10 q11 q12 q13 q14 q15 q16 q17 q18 q19 q20 q21 q22 R) := rfl
theorem own_g1_literal {scr : List Int32} {q0 : List Int32} {q1 : List Int32} {q2 : List Int32} {q3 : List Int32} {q4 : List Int32} {q5 : List Int32} {q6 : List Int64} {q7 : List Int32} {q8 : List Int32} {q9 : List Int32} {q10 : List Int32} {q11 : Int32} {q12 : Int32} {q13 : Int32} {q14 : Int32} {q15 : Int32} {q16 : Int32} {q17 : Int32} {q18 : Int32} {q19 : Int32} {q20 : Int32} {q21 : Int32} {q22 : Int32} {R : AHeap} : getC (C1 scr q0 q1 q2 q3 q4 q5 q6 q7 q8 q9 q10 q11 q12 q13 q14 q15 q16 q17 q18 q19 q20 q21 q22 R) 1 2 = some (.ref 4) := rfl
theorem own_a1_literal {scr : List Int32} {q0 : List Int32} {q1 : List Int32} {q2 : List Int32} {q3 : List Int32} {q4 : List Int32} {q5 : List Int32} {q6 : List Int64} {q7 : List Int32} {q8 : List Int32} {q9 : List Int32} {q10 : List Int32} {q11 : Int32} {q12 : Int32} {q13 : Int32} {q14 : Int32} {q15 : Int32} {q16 : Int32} {q17 : Int32} {q18 : Int32} {q19 : Int32} {q20 : Int32} {q21 : Int32} {q22 : Int32} {R : AHeap} : (C1 scr q0 q1 q2 q3 q4 q5 q6 q7 q8 q9 q10 q11 q12 q13 q14 q15 q16 q17 q18 q19 q20 q21 q22 R)[4]? = some (.inr (.inl (1, q2))) := rfl
theorem own_s1_literal {scr : List Int32} {q0 : List Int32} {q1 : List Int32} {q2 : List Int32} {q3 : List Int32} {q4 : List Int32} {q5 : List Int32} {q6 : List Int64} {q7 : List Int32} {q8 : List Int32} {q9 : List Int32} {q10 : List Int32} {q11 : Int32} {q12 : Int32} {q13 : Int32} {q14 : Int32} {q15 : Int32} {q16 : Int32} {q17 : Int32} {q18 : Int32} {q19 : Int32} {q20 : Int32} {q21 : Int32} {q22 : Int32} {R : AHeap} {x : List Int32} : (C1 scr q0 q1 q2 q3 q4 q5 q6 q7 q8 q9 q10 q11 q12 q13 q14 q15 q16 q17 q18 q19 q20 q21 q22 R).set 4 (.inr (.inl (1, x))) = (C1 scr q0 q1 x q3 q4 q5 q6 q7 q8 q9 q10 q11 q12 q13 q14 q15 q16 q17 q18 q19 q20 q21 q22 R) := rfl
theorem own_g1_out {scr : List Int32} {q0 : List Int32} {q1 : List Int32} {q2 : List Int32} {q3 : List Int32} {q4 : List Int32} {q5 : List Int32} {q6 : List Int64} {q7 : List Int32} {q8 : List Int32} {q9 : List Int32} {q10 : List Int32} {q11 : Int32} {q12 : Int32} {q13 : Int32} {q14 : Int32} {q15 : Int32} {q16 : Int32} {q17 : Int32} {q18 : Int32} {q19 : Int32} {q20 : Int32} {q21 : Int32} {q22 : Int32} {R : AHeap} : getC (C1 scr q0 q1 q2 q3 q4 q5 q6 q7 q8 q9 q10 q11 q12 q13 q14 q15 q16 q17 q18 q19 q20 q21 q22 R) 1 3 = some (.ref 5) := rfl
theorem own_a1_out {scr : List Int32} {q0 : List Int32} {q1 : List Int32} {q2 : List Int32} {q3 : List Int32} {q4 : List Int32} {q5 : List Int32} {q6 : List Int64} {q7 : List Int32} {q8 : List Int32} {q9 : List Int32} {q10 : List Int32} {q11 : Int32} {q12 : Int32} {q13 : Int32} {q14 : Int32} {q15 : Int32} {q16 : Int32} {q17 : Int32} {q18 : Int32} {q19 : Int32} {q20 : Int32} {q21 : Int32} {q22 : Int32} {R : AHeap} : (C1 scr q0 q1 q2 q3 q4 q5 q6 q7 q8 q9 q10 q11 q12 q13 q14 q15 q16 q17 q18 q19 q20 q21 q22 R)[5]? = some (.inr (.inl (1, q3))) := rfl
theorem own_s1_out {scr : List Int32} {q0 : List Int32} {q1 : List Int32} {q2 : List Int32} {q3 : List Int32} {q4 : List Int32} {q5 : List Int32} {q6 : List Int64} {q7 : List Int32} {q8 : List Int32} {q9 : List Int32} {q10 : List Int32} {q11 : Int32} {q12 : Int32} {q13 : Int32} {q14 : Int32} {q15 : Int32} {q16 : Int32} {q17 : Int32} {q18 : Int32} {q19 : Int32} {q20 : Int32} {q21 : Int32} {q22 : Int32} {R : AHeap} {x : List Int32} : (C1 scr q0 q1 q2 q3 q4 q5 q6 q7 q8 q9 q10 q11 q12 q13 q14 q15 q16 q17 q18 q19 q20 q21 q22 R).set 5 (.inr (.inl (1, x))) = (C1 scr q0 q1 q2 x q4 q5 q6 q7 q8 q9 q10 q11 q12 q13 q14 q15 q16 q17 q18 q19 q20 q21 q22 R) := rfl
theorem own_g1_blkLen {scr : List Int32} {q0 : List Int32} {q1 : List Int32} {q2 : List Int32} {q3 : List Int32} {q4 : List Int32} {q5 : List Int32} {q6 : List Int64} {q7 : List Int32} {q8 : List Int32} {q9 : List Int32} {q10 : List Int32} {q11 : Int32} {q12 : Int32} {q13 : Int32} {q14 : Int32} {q15 : Int32} {q16 : Int32} {q17 : Int32} {q18 : Int32} {q19 : Int32} {q20 : Int32} {q21 : Int32} {q22 : Int32} {R : AHeap} : getC (C1 scr q0 q1 q2 q3 q4 q5 q6 q7 q8 q9 q10 q11 q12 q13 q14 q15 q16 q17 q18 q19 q20 q21 q22 R) 1 4 = some (.ref 6) := rfl
theorem own_a1_blkLen {scr : List Int32} {q0 : List Int32} {q1 : List Int32} {q2 : List Int32} {q3 : List Int32} {q4 : List Int32} {q5 : List Int32} {q6 : List Int64} {q7 : List Int32} {q8 : List Int32} {q9 : List Int32} {q10 : List Int32} {q11 : Int32} {q12 : Int32} {q13 : Int32} {q14 : Int32} {q15 : Int32} {q16 : Int32} {q17 : Int32} {q18 : Int32} {q19 : Int32} {q20 : Int32} {q21 : Int32} {q22 : Int32} {R : AHeap} : (C1 scr q0 q1 q2 q3 q4 q5 q6 q7 q8 q9 q10 q11 q12 q13 q14 q15 q16 q17 q18 q19 q20 q21 q22 R)[6]? = some (.inr (.inl (1, q4))) := rfl
theorem own_s1_blkLen {scr : List Int32} {q0 : List Int32} {q1 : List Int32} {q2 : List Int32} {q3 : List Int32} {q4 : List Int32} {q5 : List Int32} {q6 : List Int64} {q7 : List Int32} {q8 : List Int32} {q9 : List Int32} {q10 : List Int32} {q11 : Int32} {q12 : Int32} {q13 : Int32} {q14 : Int32} {q15 : Int32} {q16 : Int32} {q17 : Int32} {q18 : Int32} {q19 : Int32} {q20 : Int32} {q21 : Int32} {q22 : Int32} {R : AHeap} {x : List Int32} : (C1 scr q0 q1 q2 q3 q4 q5 q6 q7 q8 q9 q10 q11 q12 q13 q14 q15 q16 q17 q18 q19 q20 q21 q22 R).set 6 (.inr (.inl (1, x))) = (C1 scr q0 q1 q2 q3 x q5 q6 q7 q8 q9 q10 q11 q12 q13 q14 q15 q16 q17 q18 q19 q20 q21 q22 R) := rfl
theorem own_g1_blkWeak {scr : List Int32} {q0 : List Int32} {q1 : List Int32} {q2 : List Int32} {q3 : List Int32} {q4 : List Int32} {q5 : List Int32} {q6 : List Int64} {q7 : List Int32} {q8 : List Int32} {q9 : List Int32} {q10 : List Int32} {q11 : Int32} {q12 : Int32} {q13 : Int32} {q14 : Int32} {q15 : Int32} {q16 : Int32} {q17 : Int32} {q18 : Int32} {q19 : Int32} {q20 : Int32} {q21 : Int32} {q22 : Int32} {R : AHeap} : getC (C1 scr q0 q1 q2 q3 q4 q5 q6 q7 q8 q9 q10 q11 q12 q13 q14 q15 q16 q17 q18 q19 q20 q21 q22 R) 1 5 = some (.ref 7) := rfl
theorem own_a1_blkWeak {scr : List Int32} {q0 : List Int32} {q1 : List Int32} {q2 : List Int32} {q3 : List Int32} {q4 : List Int32} {q5 : List Int32} {q6 : List Int64} {q7 : List Int32} {q8 : List Int32} {q9 : List Int32} {q10 : List Int32} {q11 : Int32} {q12 : Int32} {q13 : Int32} {q14 : Int32} {q15 : Int32} {q16 : Int32} {q17 : Int32} {q18 : Int32} {q19 : Int32} {q20 : Int32} {q21 : Int32} {q22 : Int32} {R : AHeap} : (C1 scr q0 q1 q2 q3 q4 q5 q6 q7 q8 q9 q10 q11 q12 q13 q14 q15 q16 q17 q18 q19 q20 q21 q22 R)[7]? = some (.inr (.inl (1, q5))) := rfl
theorem own_s1_blkWeak {scr : List Int32} {q0 : List Int32} {q1 : List Int32} {q2 : List Int32} {q3 : List Int32} {q4 : List Int32} {q5 : List Int32} {q6 : List Int64} {q7 : List Int32} {q8 : List Int32} {q9 : List Int32} {q10 : List Int32} {q11 : Int32} {q12 : Int32} {q13 : Int32} {q14 : Int32} {q15 : Int32} {q16 : Int32} {q17 : Int32} {q18 : Int32} {q19 : Int32} {q20 : Int32} {q21 : Int32} {q22 : Int32} {R : AHeap} {x : List Int32} : (C1 scr q0 q1 q2 q3 q4 q5 q6 q7 q8 q9 q10 q11 q12 q13 q14 q15 q16 q17 q18 q19 q20 q21 q22 R).set 7 (.inr (.inl (1, x))) = (C1 scr q0 q1 q2 q3 q4 x q6 q7 q8 q9 q10 q11 q12 q13 q14 q15 q16 q17 q18 q19 q20 q21 q22 R) := rfl
theorem own_g1_blkStrong {scr : List Int32} {q0 : List Int32} {q1 : List Int32} {q2 : List Int32} {q3 : List Int32} {q4 : List Int32} {q5 : List Int32} {q6 : List Int64} {q7 : List Int32} {q8 : List Int32} {q9 : List Int32} {q10 : List Int32} {q11 : Int32} {q12 : Int32} {q13 : Int32} {q14 : Int32} {q15 : Int32} {q16 : Int32} {q17 : Int32} {q18 : Int32} {q19 : Int32} {q20 : Int32} {q21 : Int32} {q22 : Int32} {R : AHeap} : getC (C1 scr q0 q1 q2 q3 q4 q5 q6 q7 q8 q9 q10 q11 q12 q13 q14 q15 q16 q17 q18 q19 q20 q21 q22 R) 1 6 = some (.ref 8) := rfl
theorem own_a1_blkStrong {scr : List Int32} {q0 : List Int32} {q1 : List Int32} {q2 : List Int32} {q3 : List Int32} {q4 : List Int32} {q5 : List Int32} {q6 : List Int64} {q7 : List Int32} {q8 : List Int32} {q9 : List Int32} {q10 : List Int32} {q11 : Int32} {q12 : Int32} {q13 : Int32} {q14 : Int32} {q15 : Int32} {q16 : Int32} {q17 : Int32} {q18 : Int32} {q19 : Int32} {q20 : Int32} {q21 : Int32} {q22 : Int32} {R : AHeap} : (C1 scr q0 q1 q2 q3 q4 q5 q6 q7 q8 q9 q10 q11 q12 q13 q14 q15 q16 q17 q18 q19 q20 q21 q22 R)[8]? = some (.inr (.inr q6)) := rfl
theorem own_s1_blkStrong {scr : List Int32} {q0 : List Int32} {q1 : List Int32} {q2 : List Int32} {q3 : List Int32} {q4 : List Int32} {q5 : List Int32} {q6 : List Int64} {q7 : List Int32} {q8 : List Int32} {q9 : List Int32} {q10 : List Int32} {q11 : Int32} {q12 : Int32} {q13 : Int32} {q14 : Int32} {q15 : Int32} {q16 : Int32} {q17 : Int32} {q18 : Int32} {q19 : Int32} {q20 : Int32} {q21 : Int32} {q22 : Int32} {R : AHeap} {x : List Int64} : (C1 scr q0 q1 q2 q3 q4 q5 q6 q7 q8 q9 q10 q11 q12 q13 q14 q15 q16 q17 q18 q19 q20 q21 q22 R).set 8 (.inr (.inr x)) = (C1 scr q0 q1 q2 q3 q4 q5 x q7 q8 q9 q10 q11 q12 q13 q14 q15 q16 q17 q18 q19 q20 q21 q22 R) := rfl
theorem own_g1_head {scr : List Int32} {q0 : List Int32} {q1 : List Int32} {q2 : List Int32} {q3 : List Int32} {q4 : List Int32} {q5 : List Int32} {q6 : List Int64} {q7 : List Int32} {q8 : List Int32} {q9 : List Int32} {q10 : List Int32} {q11 : Int32} {q12 : Int32} {q13 : Int32} {q14 : Int32} {q15 : Int32} {q16 : Int32} {q17 : Int32} {q18 : Int32} {q19 : Int32} {q20 : Int32} {q21 : Int32} {q22 : Int32} {R : AHeap} : getC (C1 scr q0 q1 q2 q3 q4 q5 q6 q7 q8 q9 q10 q11 q12 q13 q14 q15 q16 q17 q18 q19 q20 q21 q22 R) 1 7 = some (.ref 9) := rfl
theorem own_a1_head {scr : List Int32} {q0 : List Int32} {q1 : List Int32} {q2 : List Int32} {q3 : List Int32} {q4 : List Int32} {q5 : List Int32} {q6 : List Int64} {q7 : List Int32} {q8 : List Int32} {q9 : List Int32} {q10 : List Int32} {q11 : Int32} {q12 : Int32} {q13 : Int32} {q14 : Int32} {q15 : Int32} {q16 : Int32} {q17 : Int32} {q18 : Int32} {q19 : Int32} {q20 : Int32} {q21 : Int32} {q22 : Int32} {R : AHeap} : (C1 scr q0 q1 q2 q3 q4 q5 q6 q7 q8 q9 q10 q11 q12 q13 q14 q15 q16 q17 q18 q19 q20 q21 q22 R)[9]? = some (.inr (.inl (1, q7))) := rfl
theorem own_s1_head {scr : List Int32} {q0 : List Int32} {q1 : List Int32} {q2 : List Int32} {q3 : List Int32} {q4 : List Int32} {q5 : List Int32} {q6 : List Int64} {q7 : List Int32} {q8 : List Int32} {q9 : List Int32} {q10 : List Int32} {q11 : Int32} {q12 : Int32} {q13 : Int32} {q14 : Int32} {q15 : Int32} {q16 : Int32} {q17 : Int32} {q18 : Int32} {q19 : Int32} {q20 : Int32} {q21 : Int32} {q22 : Int32} {R : AHeap} {x : List Int32} : (C1 scr q0 q1 q2 q3 q4 q5 q6 q7 q8 q9 q10 q11 q12 q13 q14 q15 q16 q17 q18 q19 q20 q21 q22 R).set 9 (.inr (.inl (1, x))) = (C1 scr q0 q1 q2 q3 q4 q5 q6 x q8 q9 q10 q11 q12 q13 q14 q15 q16 q17 q18 q19 q20 q21 q22 R) := rfl
theorem own_g1_next {scr : List Int32} {q0 : List Int32} {q1 : List Int32} {q2 : List Int32} {q3 : List Int32} {q4 : List Int32} {q5 : List Int32} {q6 : List Int64} {q7 : List Int32} {q8 : List Int32} {q9 : List Int32} {q10 : List Int32} {q11 : Int32} {q12 : Int32} {q13 : Int32} {q14 : Int32} {q15 : Int32} {q16 : Int32} {q17 : Int32} {q18 : Int32} {q19 : Int32} {q20 : Int32} {q21 : Int32} {q22 : Int32} {R : AHeap} : getC (C1 scr q0 q1 q2 q3 q4 q5 q6 q7 q8 q9 q10 q11 q12 q13 q14 q15 q16 q17 q18 q19 q20 q21 q22 R) 1 8 = some (.ref 10) := rfl
theorem own_a1_next {scr : List Int32} {q0 : List Int32} {q1 : List Int32} {q2 : List Int32} {q3 : List Int32} {q4 : List Int32} {q5 : List Int32} {q6 : List Int64} {q7 : List Int32} {q8 : List Int32} {q9 : List Int32} {q10 : List Int32} {q11 : Int32} {q12 : Int32} {q13 : Int32} {q14 : Int32} {q15 : Int32} {q16 : Int32} {q17 : Int32} {q18 : Int32} {q19 : Int32} {q20 : Int32} {q21 : Int32} {q22 : Int32} {R : AHeap} : (C1 scr q0 q1 q2 q3 q4 q5 q6 q7 q8 q9 q10 q11 q12 q13 q14 q15 q16 q17 q18 q19 q20 q21 q22 R)[10]? = some (.inr (.inl (1, q8))) := rfl
theorem own_s1_next {scr : List Int32} {q0 : List Int32} {q1 : List Int32} {q2 : List Int32} {q3 : List Int32} {q4 : List Int32} {q5 : List Int32} {q6 : List Int64} {q7 : List Int32} {q8 : List Int32} {q9 : List Int32} {q10 : List Int32} {q11 : Int32} {q12 : Int32} {q13 : Int32} {q14 : Int32} {q15 : Int32} {q16 : Int32} {q17 : Int32} {q18 : Int32} {q19 : Int32} {q20 : Int32} {q21 : Int32} {q22 : Int32} {R : AHeap} {x : List Int32} : (C1 scr q0 q1 q2 q3 q4 q5 q6 q7 q8 q9 q10 q11 q12 q13 q14 q15 q16 q17 q18 q19 q20 q21 q22 R).set 10 (.inr (.inl (1, x))) = (C1 scr q0 q1 q2 q3 q4 q5 q6 q7 x q9 q10 q11 q12 q13 q14 q15 q16 q17 q18 q19 q20 q21 q22 R) := rfl
theorem own_g1_kinds {scr : List Int32} {q0 : List Int32} {q1 : List Int32} {q2 : List Int32} {q3 : List Int32} {q4 : List Int32} {q5 : List Int32} {q6 : List Int64} {q7 : List Int32} {q8 : List Int32} {q9 : List Int32} {q10 : List Int32} {q11 : Int32} {q12 : Int32} {q13 : Int32} {q14 : Int32} {q15 : Int32} {q16 : Int32} {q17 : Int32} {q18 : Int32} {q19 : Int32} {q20 : Int32} {q21 : Int32} {q22 : Int32} {R : AHeap} : getC (C1 scr q0 q1 q2 q3 q4 q5 q6 q7 q8 q9 q10 q11 q12 q13 q14 q15 q16 q17 q18 q19 q20 q21 q22 R) 1 9 = some (.ref 11) := rfl
theorem own_a1_kinds {scr : List Int32} {q0 : List Int32} {q1 : List Int32} {q2 : List Int32} {q3 : List Int32} {q4 : List Int32} {q5 : List Int32} {q6 : List Int64} {q7 : List Int32} {q8 : List Int32} {q9 : List Int32} {q10 : List Int32} {q11 : Int32} {q12 : Int32} {q13 : Int32} {q14 : Int32} {q15 : Int32} {q16 : Int32} {q17 : Int32} {q18 : Int32} {q19 : Int32} {q20 : Int32} {q21 : Int32} {q22 : Int32} {R : AHeap} : (C1 scr q0 q1 q2 q3 q4 q5 q6 q7 q8 q9 q10 q11 q12 q13 q14 q15 q16 q17 q18 q19 q20 q21 q22 R)[11]? = some (.inr (.inl (1, q9))) := rfl
theorem own_s1_kinds {scr : List Int32} {q0 : List Int32} {q1 : List Int32} {q2 : List Int32} {q3 : List Int32} {q4 : List Int32} {q5 : List Int32} {q6 : List Int64} {q7 : List Int32} {q8 : List Int32} {q9 : List Int32} {q10 : List Int32} {q11 : Int32} {q12 : Int32} {q13 : Int32} {q14 : Int32} {q15 : Int32} {q16 : Int32} {q17 : Int32} {q18 : Int32} {q19 : Int32} {q20 : Int32} {q21 : Int32} {q22 : Int32} {R : AHeap} {x : List Int32} : (C1 scr q0 q1 q2 q3 q4 q5 q6 q7 q8 q9 q10 q11 q12 q13 q14 q15 q16 q17 q18 q19 q20 q21 q22 R).set 11 (.inr (.inl (1, x))) = (C1 scr q0 q1 q2 q3 q4 q5 q6 q7 q8 x q10 q11 q12 q13 q14 q15 q16 q17 q18 q19 q20 q21 q22 R) := rfl
theorem own_g1_values {scr : List Int32} {q0 : List Int32} {q1 : List Int32} {q2 : List Int32} {q3 : List Int32} {q4 : List Int32} {q5 : List Int32} {q6 : List Int64} {q7 : List Int32} {q8 : List Int32} {q9 : List Int32} {q10 : List Int32} {q11 : Int32} {q12 : Int32} {q13 : Int32} {q14 : Int32} {q15 : Int32} {q16 : Int32} {q17 : Int32} {q18 : Int32} {q19 : Int32} {q20 : Int32} {q21 : Int32} {q22 : Int32} {R : AHeap} : getC (C1 scr q0 q1 q2 q3 q4 q5 q6 q7 q8 q9 q10 q11 q12 q13 q14 q15 q16 q17 q18 q19 q20 q21 q22 R) 1 10 = some (.ref 12) := rfl
theorem own_a1_values {scr : List Int32} {q0 : List Int32} {q1 : List Int32} {q2 : List Int32} {q3 : List Int32} {q4 : List Int32} {q5 : List Int32} {q6 : List Int64} {q7 : List Int32} {q8 : List Int32} {q9 : List Int32} {q10 : List Int32} {q11 : Int32} {q12 : Int32} {q13 : Int32} {q14 : Int32} {q15 : Int32} {q16 : Int32} {q17 : Int32} {q18 : Int32} {q19 : Int32} {q20 : Int32} {q21 : Int32} {q22 : Int32} {R : AHeap} : (C1 scr q0 q1 q2 q3 q4 q5 q6 q7 q8 q9 q10 q11 q12 q13 q14 q15 q16 q17 q18 q19 q20 q21 q22 R)[12]? = some (.inr (.inl (1, q10))) := rfl
theorem own_s1_values {scr : List Int32} {q0 : List Int32} {q1 : List Int32} {q2 : List Int32} {q3 : List Int32} {q4 : List Int32} {q5 : List Int32} {q6 : List Int64} {q7 : List Int32} {q8 : List Int32} {q9 : List Int32} {q10 : List Int32} {q11 : Int32} {q12 : Int32} {q13 : Int32} {q14 : Int32} {q15 : Int32} {q16 : Int32} {q17 : Int32} {q18 : Int32} {q19 : Int32} {q20 : Int32} {q21 : Int32} {q22 : Int32} {R : AHeap} {x : List Int32} : (C1 scr q0 q1 q2 q3 q4 q5 q6 q7 q8 q9 q10 q11 q12 q13 q14 q15 q16 q17 q18 q19 q20 q21 q22 R).set 12 (.inr (.inl (1, x))) = (C1 scr q0 q1 q2 q3 q4 q5 q6 q7 q8 q9 x q11 q12 q13 q14 q15 q16 q17 q18 q19 q20 q21 q22 R) := rfl
theorem own_g1_blockSize {scr : List Int32} {q0 : List Int32} {q1 : List Int32} {q2 : List Int32} {q3 : List Int32} {q4 : List Int32} {q5 : List Int32} {q6 : List Int64} {q7 : List Int32} {q8 : List Int32} {q9 : List Int32} {q10 : List Int32} {q11 : Int32} {q12 : Int32} {q13 : Int32} {q14 : Int32} {q15 : Int32} {q16 : Int32} {q17 : Int32} {q18 : Int32} {q19 : Int32} {q20 : Int32} {q21 : Int32} {q22 : Int32} {R : AHeap} : getC (C1 scr q0 q1 q2 q3 q4 q5 q6 q7 q8 q9 q10 q11 q12 q13 q14 q15 q16 q17 q18 q19 q20 q21 q22 R) 1 11 = some (.int q11) := rfl
theorem own_p1_blockSize {scr : List Int32} {q0 : List Int32} {q1 : List Int32} {q2 : List Int32} {q3 : List Int32} {q4 : List Int32} {q5 : List Int32} {q6 : List Int64} {q7 : List Int32} {q8 : List Int32} {q9 : List Int32} {q10 : List Int32} {q11 : Int32} {q12 : Int32} {q13 : Int32} {q14 : Int32} {q15 : Int32} {q16 : Int32} {q17 : Int32} {q18 : Int32} {q19 : Int32} {q20 : Int32} {q21 : Int32} {q22 : Int32} {R : AHeap} {k : Nat} {x : Int32} : putC own_P k (C1 scr q0 q1 q2 q3 q4 q5 q6 q7 q8 q9 q10 q11 q12 q13 q14 q15 q16 q17 q18 q19 q20 q21 q22 R) 1 11 (.int x) = some (C1 scr q0 q1 q2 q3 q4 q5 q6 q7 q8 q9 q10 x q12 q13 q14 q15 q16 q17 q18 q19 q20 q21 q22 R) := rfl
theorem own_g1_basisLen {scr : List Int32} {q0 : List Int32} {q1 : List Int32} {q2 : List Int32} {q3 : List Int32} {q4 : List Int32} {q5 : List Int32} {q6 : List Int64} {q7 : List Int32} {q8 : List Int32} {q9 : List Int32} {q10 : List Int32} {q11 : Int32} {q12 : Int32} {q13 : Int32} {q14 : Int32} {q15 : Int32} {q16 : Int32} {q17 : Int32} {q18 : Int32} {q19 : Int32} {q20 : Int32} {q21 : Int32} {q22 : Int32} {R : AHeap} : getC (C1 scr q0 q1 q2 q3 q4 q5 q6 q7 q8 q9 q10 q11 q12 q13 q14 q15 q16 q17 q18 q19 q20 q21 q22 R) 1 12 = some (.int q12) := rfl
theorem own_p1_basisLen {scr : List Int32} {q0 : List Int32} {q1 : List Int32} {q2 : List Int32} {q3 : List Int32} {q4 : List Int32} {q5 : List Int32} {q6 : List Int64} {q7 : List Int32} {q8 : List Int32} {q9 : List Int32} {q10 : List Int32} {q11 : Int32} {q12 : Int32} {q13 : Int32} {q14 : Int32} {q15 : Int32} {q16 : Int32} {q17 : Int32} {q18 : Int32} {q19 : Int32} {q20 : Int32} {q21 : Int32} {q22 : Int32} {R : AHeap} {k : Nat} {x : Int32} : putC own_P k (C1 scr q0 q1 q2 q3 q4 q5 q6 q7 q8 q9 q10 q11 q12 q13 q14 q15 q16 q17 q18 q19 q20 q21 q22 R) 1 12 (.int x) = some (C1 scr q0 q1 q2 q3 q4 q5 q6 q7 q8 q9 q10 q11 x q13 q14 q15 q16 q17 q18 q19 q20 q21 q22 R) := rfl
theorem own_g1_targetLen {scr : List Int32} {q0 : List Int32} {q1 : List Int32} {q2 : List Int32} {q3 : List Int32} {q4 : List Int32} {q5 : List Int32} {q6 : List Int64} {q7 : List Int32} {q8 : List Int32} {q9 : List Int32} {q10 : List Int32} {q11 : Int32} {q12 : Int32} {q13 : Int32} {q14 : Int32} {q15 : Int32} {q16 : Int32} {q17 : Int32} {q18 : Int32} {q19 : Int32} {q20 : Int32} {q21 : Int32} {q22 : Int32} {R : AHeap} : getC (C1 scr q0 q1 q2 q3 q4 q5 q6 q7 q8 q9 q10 q11 q12 q13 q14 q15 q16 q17 q18 q19 q20 q21 q22 R) 1 13 = some (.int q13) := rfl
theorem own_p1_targetLen {scr : List Int32} {q0 : List Int32} {q1 : List Int32} {q2 : List Int32} {q3 : List Int32} {q4 : List Int32} {q5 : List Int32} {q6 : List Int64} {q7 : List Int32} {q8 : List Int32} {q9 : List Int32} {q10 : List Int32} {q11 : Int32} {q12 : Int32} {q13 : Int32} {q14 : Int32} {q15 : Int32} {q16 : Int32} {q17 : Int32} {q18 : Int32} {q19 : Int32} {q20 : Int32} {q21 : Int32} {q22 : Int32} {R : AHeap} {k : Nat} {x : Int32} : putC own_P k (C1 scr q0 q1 q2 q3 q4 q5 q6 q7 q8 q9 q10 q11 q12 q13 q14 q15 q16 q17 q18 q19 q20 q21 q22 R) 1 13 (.int x) = some (C1 scr q0 q1 q2 q3 q4 q5 q6 q7 q8 q9 q10 q11 q12 x q14 q15 q16 q17 q18 q19 q20 q21 q22 R) := rfl
theorem own_g1_literalLen {scr : List Int32} {q0 : List Int32} {q1 : List Int32} {q2 : List Int32} {q3 : List Int32} {q4 : List Int32} {q5 : List Int32} {q6 : List Int64} {q7 : List Int32} {q8 : List Int32} {q9 : List Int32} {q10 : List Int32} {q11 : Int32} {q12 : Int32} {q13 : Int32} {q14 : Int32} {q15 : Int32} {q16 : Int32} {q17 : Int32} {q18 : Int32} {q19 : Int32} {q20 : Int32} {q21 : Int32} {q22 : Int32} {R : AHeap} : getC (C1 scr q0 q1 q2 q3 q4 q5 q6 q7 q8 q9 q10 q11 q12 q13 q14 q15 q16 q17 q18 q19 q20 q21 q22 R) 1 14 = some (.int q14) := rfl
theorem own_p1_literalLen {scr : List Int32} {q0 : List Int32} {q1 : List Int32} {q2 : List Int32} {q3 : List Int32} {q4 : List Int32} {q5 : List Int32} {q6 : List Int64} {q7 : List Int32} {q8 : List Int32} {q9 : List Int32} {q10 : List Int32} {q11 : Int32} {q12 : Int32} {q13 : Int32} {q14 : Int32} {q15 : Int32} {q16 : Int32} {q17 : Int32} {q18 : Int32} {q19 : Int32} {q20 : Int32} {q21 : Int32} {q22 : Int32} {R : AHeap} {k : Nat} {x : Int32} : putC own_P k (C1 scr q0 q1 q2 q3 q4 q5 q6 q7 q8 q9 q10 q11 q12 q13 q14 q15 q16 q17 q18 q19 q20 q21 q22 R) 1 14 (.int x) = some (C1 scr q0 q1 q2 q3 q4 q5 q6 q7 q8 q9 q10 q11 q12 q13 x q15 q16 q17 q18 q19 q20 q21 q22 R) := rfl
theorem own_g1_outLen {scr : List Int32} {q0 : List Int32} {q1 : List Int32} {q2 : List Int32} {q3 : List Int32} {q4 : List Int32} {q5 : List Int32} {q6 : List Int64} {q7 : List Int32} {q8 : List Int32} {q9 : List Int32} {q10 : List Int32} {q11 : Int32} {q12 : Int32} {q13 : Int32} {q14 : Int32} {q15 : Int32} {q16 : Int32} {q17 : Int32} {q18 : Int32} {q19 : Int32} {q20 : Int32} {q21 : Int32} {q22 : Int32} {R : AHeap} : getC (C1 scr q0 q1 q2 q3 q4 q5 q6 q7 q8 q9 q10 q11 q12 q13 q14 q15 q16 q17 q18 q19 q20 q21 q22 R) 1 15 = some (.int q15) := rfl
theorem own_p1_outLen {scr : List Int32} {q0 : List Int32} {q1 : List Int32} {q2 : List Int32} {q3 : List Int32} {q4 : List Int32} {q5 : List Int32} {q6 : List Int64} {q7 : List Int32} {q8 : List Int32} {q9 : List Int32} {q10 : List Int32} {q11 : Int32} {q12 : Int32} {q13 : Int32} {q14 : Int32} {q15 : Int32} {q16 : Int32} {q17 : Int32} {q18 : Int32} {q19 : Int32} {q20 : Int32} {q21 : Int32} {q22 : Int32} {R : AHeap} {k : Nat} {x : Int32} : putC own_P k (C1 scr q0 q1 q2 q3 q4 q5 q6 q7 q8 q9 q10 q11 q12 q13 q14 q15 q16 q17 q18 q19 q20 q21 q22 R) 1 15 (.int x) = some (C1 scr q0 q1 q2 q3 q4 q5 q6 q7 q8 q9 q10 q11 q12 q13 q14 x q16 q17 q18 q19 q20 q21 q22 R) := rfl
theorem own_g1_blocks {scr : List Int32} {q0 : List Int32} {q1 : List Int32} {q2 : List Int32} {q3 : List Int32} {q4 : List Int32} {q5 : List Int32} {q6 : List Int64} {q7 : List Int32} {q8 : List Int32} {q9 : List Int32} {q10 : List Int32} {q11 : Int32} {q12 : Int32} {q13 : Int32} {q14 : Int32} {q15 : Int32} {q16 : Int32} {q17 : Int32} {q18 : Int32} {q19 : Int32} {q20 : Int32} {q21 : Int32} {q22 : Int32} {R : AHeap} : getC (C1 scr q0 q1 q2 q3 q4 q5 q6 q7 q8 q9 q10 q11 q12 q13 q14 q15 q16 q17 q18 q19 q20 q21 q22 R) 1 16 = some (.int q16) := rfl
theorem own_p1_blocks {scr : List Int32} {q0 : List Int32} {q1 : List Int32} {q2 : List Int32} {q3 : List Int32} {q4 : List Int32} {q5 : List Int32} {q6 : List Int64} {q7 : List Int32} {q8 : List Int32} {q9 : List Int32} {q10 : List Int32} {q11 : Int32} {q12 : Int32} {q13 : Int32} {q14 : Int32} {q15 : Int32} {q16 : Int32} {q17 : Int32} {q18 : Int32} {q19 : Int32} {q20 : Int32} {q21 : Int32} {q22 : Int32} {R : AHeap} {k : Nat} {x : Int32} : putC own_P k (C1 scr q0 q1 q2 q3 q4 q5 q6 q7 q8 q9 q10 q11 q12 q13 q14 q15 q16 q17 q18 q19 q20 q21 q22 R) 1 16 (.int x) = some (C1 scr q0 q1 q2 q3 q4 q5 q6 q7 q8 q9 q10 q11 q12 q13 q14 q15 x q17 q18 q19 q20 q21 q22 R) := rfl
theorem own_g1_ops {scr : List Int32} {q0 : List Int32} {q1 : List Int32} {q2 : List Int32} {q3 : List Int32} {q4 : List Int32} {q5 : List Int32} {q6 : List Int64} {q7 : List Int32} {q8 : List Int32} {q9 : List Int32} {q10 : List Int32} {q11 : Int32} {q12 : Int32} {q13 : Int32} {q14 : Int32} {q15 : Int32} {q16 : Int32} {q17 : Int32} {q18 : Int32} {q19 : Int32} {q20 : Int32} {q21 : Int32} {q22 : Int32} {R : AHeap} : getC (C1 scr q0 q1 q2 q3 q4 q5 q6 q7 q8 q9 q10 q11 q12 q13 q14 q15 q16 q17 q18 q19 q20 q21 q22 R) 1 17 = some (.int q17) := rfl
theorem own_p1_ops {scr : List Int32} {q0 : List Int32} {q1 : List Int32} {q2 : List Int32} {q3 : List Int32} {q4 : List Int32} {q5 : List Int32} {q6 : List Int64} {q7 : List Int32} {q8 : List Int32} {q9 : List Int32} {q10 : List Int32} {q11 : Int32} {q12 : Int32} {q13 : Int32} {q14 : Int32} {q15 : Int32} {q16 : Int32} {q17 : Int32} {q18 : Int32} {q19 : Int32} {q20 : Int32} {q21 : Int32} {q22 : Int32} {R : AHeap} {k : Nat} {x : Int32} : putC own_P k (C1 scr q0 q1 q2 q3 q4 q5 q6 q7 q8 q9 q10 q11 q12 q13 q14 q15 q16 q17 q18 q19 q20 q21 q22 R) 1 17 (.int x) = some (C1 scr q0 q1 q2 q3 q4 q5 q6 q7 q8 q9 q10 q11 q12 q13 q14 q15 q16 x q18 q19 q20 q21 q22 R) := rfl
theorem own_g1_shortBlock {scr : List Int32} {q0 : List Int32} {q1 : List Int32} {q2 : List Int32} {q3 : List Int32} {q4 : List Int32} {q5 : List Int32} {q6 : List Int64} {q7 : List Int32} {q8 : List Int32} {q9 : List Int32} {q10 : List Int32} {q11 : Int32} {q12 : Int32} {q13 : Int32} {q14 : Int32} {q15 : Int32} {q16 : Int32} {q17 : Int32} {q18 : Int32} {q19 : Int32} {q20 : Int32} {q21 : Int32} {q22 : Int32} {R : AHeap} : getC (C1 scr q0 q1 q2 q3 q4 q5 q6 q7 q8 q9 q10 q11 q12 q13 q14 q15 q16 q17 q18 q19 q20 q21 q22 R) 1 18 = some (.int q18) := rfl
theorem own_p1_shortBlock {scr : List Int32} {q0 : List Int32} {q1 : List Int32} {q2 : List Int32} {q3 : List Int32} {q4 : List Int32} {q5 : List Int32} {q6 : List Int64} {q7 : List Int32} {q8 : List Int32} {q9 : List Int32} {q10 : List Int32} {q11 : Int32} {q12 : Int32} {q13 : Int32} {q14 : Int32} {q15 : Int32} {q16 : Int32} {q17 : Int32} {q18 : Int32} {q19 : Int32} {q20 : Int32} {q21 : Int32} {q22 : Int32} {R : AHeap} {k : Nat} {x : Int32} : putC own_P k (C1 scr q0 q1 q2 q3 q4 q5 q6 q7 q8 q9 q10 q11 q12 q13 q14 q15 q16 q17 q18 q19 q20 q21 q22 R) 1 18 (.int x) = some (C1 scr q0 q1 q2 q3 q4 q5 q6 q7 q8 q9 q10 q11 q12 q13 q14 q15 q16 q17 x q19 q20 q21 q22 R) := rfl
theorem own_g1_winPos {scr : List Int32} {q0 : List Int32} {q1 : List Int32} {q2 : List Int32} {q3 : List Int32} {q4 : List Int32} {q5 : List Int32} {q6 : List Int64} {q7 : List Int32} {q8 : List Int32} {q9 : List Int32} {q10 : List Int32} {q11 : Int32} {q12 : Int32} {q13 : Int32} {q14 : Int32} {q15 : Int32} {q16 : Int32} {q17 : Int32} {q18 : Int32} {q19 : Int32} {q20 : Int32} {q21 : Int32} {q22 : Int32} {R : AHeap} : getC (C1 scr q0 q1 q2 q3 q4 q5 q6 q7 q8 q9 q10 q11 q12 q13 q14 q15 q16 q17 q18 q19 q20 q21 q22 R) 1 19 = some (.int q19) := rfl
theorem own_p1_winPos {scr : List Int32} {q0 : List Int32} {q1 : List Int32} {q2 : List Int32} {q3 : List Int32} {q4 : List Int32} {q5 : List Int32} {q6 : List Int64} {q7 : List Int32} {q8 : List Int32} {q9 : List Int32} {q10 : List Int32} {q11 : Int32} {q12 : Int32} {q13 : Int32} {q14 : Int32} {q15 : Int32} {q16 : Int32} {q17 : Int32} {q18 : Int32} {q19 : Int32} {q20 : Int32} {q21 : Int32} {q22 : Int32} {R : AHeap} {k : Nat} {x : Int32} : putC own_P k (C1 scr q0 q1 q2 q3 q4 q5 q6 q7 q8 q9 q10 q11 q12 q13 q14 q15 q16 q17 q18 q19 q20 q21 q22 R) 1 19 (.int x) = some (C1 scr q0 q1 q2 q3 q4 q5 q6 q7 q8 q9 q10 q11 q12 q13 q14 q15 q16 q17 q18 x q20 q21 q22 R) := rfl
theorem own_g1_winA {scr : List Int32} {q0 : List Int32} {q1 : List Int32} {q2 : List Int32} {q3 : List Int32} {q4 : List Int32} {q5 : List Int32} {q6 : List Int64} {q7 : List Int32} {q8 : List Int32} {q9 : List Int32} {q10 : List Int32} {q11 : Int32} {q12 : Int32} {q13 : Int32} {q14 : Int32} {q15 : Int32} {q16 : Int32} {q17 : Int32} {q18 : Int32} {q19 : Int32} {q20 : Int32} {q21 : Int32} {q22 : Int32} {R : AHeap} : getC (C1 scr q0 q1 q2 q3 q4 q5 q6 q7 q8 q9 q10 q11 q12 q13 q14 q15 q16 q17 q18 q19 q20 q21 q22 R) 1 20 = some (.int q20) := rfl
theorem own_p1_winA {scr : List Int32} {q0 : List Int32} {q1 : List Int32} {q2 : List Int32} {q3 : List Int32} {q4 : List Int32} {q5 : List Int32} {q6 : List Int64} {q7 : List Int32} {q8 : List Int32} {q9 : List Int32} {q10 : List Int32} {q11 : Int32} {q12 : Int32} {q13 : Int32} {q14 : Int32} {q15 : Int32} {q16 : Int32} {q17 : Int32} {q18 : Int32} {q19 : Int32} {q20 : Int32} {q21 : Int32} {q22 : Int32} {R : AHeap} {k : Nat} {x : Int32} : putC own_P k (C1 scr q0 q1 q2 q3 q4 q5 q6 q7 q8 q9 q10 q11 q12 q13 q14 q15 q16 q17 q18 q19 q20 q21 q22 R) 1 20 (.int x) = some (C1 scr q0 q1 q2 q3 q4 q5 q6 q7 q8 q9 q10 q11 q12 q13 q14 q15 q16 q17 q18 q19 x q21 q22 R) := rfl
theorem own_g1_winB {scr : List Int32} {q0 : List Int32} {q1 : List Int32} {q2 : List Int32} {q3 : List Int32} {q4 : List Int32} {q5 : List Int32} {q6 : List Int64} {q7 : List Int32} {q8 : List Int32} {q9 : List Int32} {q10 : List Int32} {q11 : Int32} {q12 : Int32} {q13 : Int32} {q14 : Int32} {q15 : Int32} {q16 : Int32} {q17 : Int32} {q18 : Int32} {q19 : Int32} {q20 : Int32} {q21 : Int32} {q22 : Int32} {R : AHeap} : getC (C1 scr q0 q1 q2 q3 q4 q5 q6 q7 q8 q9 q10 q11 q12 q13 q14 q15 q16 q17 q18 q19 q20 q21 q22 R) 1 21 = some (.int q21) := rfl
theorem own_p1_winB {scr : List Int32} {q0 : List Int32} {q1 : List Int32} {q2 : List Int32} {q3 : List Int32} {q4 : List Int32} {q5 : List Int32} {q6 : List Int64} {q7 : List Int32} {q8 : List Int32} {q9 : List Int32} {q10 : List Int32} {q11 : Int32} {q12 : Int32} {q13 : Int32} {q14 : Int32} {q15 : Int32} {q16 : Int32} {q17 : Int32} {q18 : Int32} {q19 : Int32} {q20 : Int32} {q21 : Int32} {q22 : Int32} {R : AHeap} {k : Nat} {x : Int32} : putC own_P k (C1 scr q0 q1 q2 q3 q4 q5 q6 q7 q8 q9 q10 q11 q12 q13 q14 q15 q16 q17 q18 q19 q20 q21 q22 R) 1 21 (.int x) = some (C1 scr q0 q1 q2 q3 q4 q5 q6 q7 q8 q9 q10 q11 q12 q13 q14 q15 q16 q17 q18 q19 q20 x q22 R) := rfl
theorem own_g1_phaseNow {scr : List Int32} {q0 : List Int32} {q1 : List Int32} {q2 : List Int32} {q3 : List Int32} {q4 : List Int32} {q5 : List Int32} {q6 : List Int64} {q7 : List Int32} {q8 : List Int32} {q9 : List Int32} {q10 : List Int32} {q11 : Int32} {q12 : Int32} {q13 : Int32} {q14 : Int32} {q15 : Int32} {q16 : Int32} {q17 : Int32} {q18 : Int32} {q19 : Int32} {q20 : Int32} {q21 : Int32} {q22 : Int32} {R : AHeap} : getC (C1 scr q0 q1 q2 q3 q4 q5 q6 q7 q8 q9 q10 q11 q12 q13 q14 q15 q16 q17 q18 q19 q20 q21 q22 R) 1 22 = some (.int q22) := rfl
theorem own_p1_phaseNow {scr : List Int32} {q0 : List Int32} {q1 : List Int32} {q2 : List Int32} {q3 : List Int32} {q4 : List Int32} {q5 : List Int32} {q6 : List Int64} {q7 : List Int32} {q8 : List Int32} {q9 : List Int32} {q10 : List Int32} {q11 : Int32} {q12 : Int32} {q13 : Int32} {q14 : Int32} {q15 : Int32} {q16 : Int32} {q17 : Int32} {q18 : Int32} {q19 : Int32} {q20 : Int32} {q21 : Int32} {q22 : Int32} {R : AHeap} {k : Nat} {x : Int32} : putC own_P k (C1 scr q0 q1 q2 q3 q4 q5 q6 q7 q8 q9 q10 q11 q12 q13 q14 q15 q16 q17 q18 q19 q20 q21 q22 R) 1 22 (.int x) = some (C1 scr q0 q1 q2 q3 q4 q5 q6 q7 q8 q9 q10 q11 q12 q13 q14 q15 q16 q17 q18 q19 q20 q21 x R) := rfl
def Q.len (s : Q) : List Nat := [s.f_basis.length, s.f_target.length, s.f_literal.length, s.f_out.length, s.f_blkLen.length, s.f_blkWeak.length, s.f_blkStrong.length, s.f_head.length, s.f_next.length, s.f_kinds.length, s.f_values.length]
theorem own_lenmk {q0 : List Int32} {q1 : List Int32} {q2 : List Int32} {q3 : List Int32} {q4 : List Int32} {q5 : List Int32} {q6 : List Int64} {q7 : List Int32} {q8 : List Int32} {q9 : List Int32} {q10 : List Int32} {q11 : Int32} {q12 : Int32} {q13 : Int32} {q14 : Int32} {q15 : Int32} {q16 : Int32} {q17 : Int32} {q18 : Int32} {q19 : Int32} {q20 : Int32} {q21 : Int32} {q22 : Int32} : (Q.mk q0 q1 q2 q3 q4 q5 q6 q7 q8 q9 q10 q11 q12 q13 q14 q15 q16 q17 q18 q19 q20 q21 q22).len = [q0.length, q1.length, q2.length, q3.length, q4.length, q5.length, q6.length, q7.length, q8.length, q9.length, q10.length] := by have _h := trivial; exact rfl
theorem own_objN : own_P.objN = 23 := rfl
theorem own_mk1 {scr : List Int32} {q0 : List Int32} {q1 : List Int32} {q2 : List Int32} {q3 : List Int32} {q4 : List Int32} {q5 : List Int32} {q6 : List Int64} {q7 : List Int32} {q8 : List Int32} {q9 : List Int32} {q10 : List Int32} {q11 : Int32} {q12 : Int32} {q13 : Int32} {q14 : Int32} {q15 : Int32} {q16 : Int32} {q17 : Int32} {q18 : Int32} {q19 : Int32} {q20 : Int32} {q21 : Int32} {q22 : Int32} {R : AHeap} : W1 scr (Q.mk q0 q1 q2 q3 q4 q5 q6 q7 q8 q9 q10 q11 q12 q13 q14 q15 q16 q17 q18 q19 q20 q21 q22) R = C1 scr q0 q1 q2 q3 q4 q5 q6 q7 q8 q9 q10 q11 q12 q13 q14 q15 q16 q17 q18 q19 q20 q21 q22 R := rfl
def j_reset (s : Q) : Option (Q) := some ((Q.mk s.f_basis s.f_target s.f_literal s.f_out s.f_blkLen s.f_blkWeak s.f_blkStrong s.f_head s.f_next s.f_kinds s.f_values s.f_blockSize (0 : Int32) (0 : Int32) (0 : Int32) (0 : Int32) (0 : Int32) (0 : Int32) (-1 : Int32) (-1 : Int32) (0 : Int32) (0 : Int32) (0 : Int32)))
set_option maxRecDepth 100000 in
theorem ev_j_reset (R : AHeap) (scr : List Int32) (s : Q) {res : Q} {out : Option Value × AHeap} (h : j_reset s = some res) (hk : out = (none, (W1 scr res R))) : Eval own_P 2 0 [some (.ref 1)] [] (W1 scr s R) out := by
  rw [j_reset] at h
  refine Eval.aload_n rfl rfl ?_
  refine Eval.iconst (x := (0 : Int32)) rfl rfl ?_
  refine Eval.putfield rfl rfl own_p1_basisLen ?_
  refine Eval.aload_n rfl rfl ?_
  refine Eval.iconst (x := (0 : Int32)) rfl rfl ?_
  refine Eval.putfield rfl rfl own_p1_targetLen ?_
  refine Eval.aload_n rfl rfl ?_
  refine Eval.iconst (x := (0 : Int32)) rfl rfl ?_
  refine Eval.putfield rfl rfl own_p1_literalLen ?_
  refine Eval.aload_n rfl rfl ?_
  refine Eval.iconst (x := (0 : Int32)) rfl rfl ?_
  refine Eval.putfield rfl rfl own_p1_outLen ?_
  refine Eval.aload_n rfl rfl ?_
  refine Eval.iconst (x := (0 : Int32)) rfl rfl ?_
  refine Eval.putfield rfl rfl own_p1_blocks ?_
  refine Eval.aload_n rfl rfl ?_
  refine Eval.iconst (x := (0 : Int32)) rfl rfl ?_
  refine Eval.putfield rfl rfl own_p1_ops ?_
  refine Eval.aload_n rfl rfl ?_
  refine Eval.iconst (x := (-1 : Int32)) rfl rfl ?_
  refine Eval.putfield rfl rfl own_p1_shortBlock ?_
  refine Eval.aload_n rfl rfl ?_
  refine Eval.iconst (x := (-1 : Int32)) rfl rfl ?_
  refine Eval.putfield rfl rfl own_p1_winPos ?_
  refine Eval.aload_n rfl rfl ?_
  refine Eval.iconst (x := (0 : Int32)) rfl rfl ?_
  refine Eval.putfield rfl rfl own_p1_winA ?_
  refine Eval.aload_n rfl rfl ?_
  refine Eval.iconst (x := (0 : Int32)) rfl rfl ?_
  refine Eval.putfield rfl rfl own_p1_winB ?_
  refine Eval.aload_n rfl rfl ?_
  refine Eval.iconst (x := (0 : Int32)) rfl rfl ?_
  refine Eval.putfield rfl rfl own_p1_phaseNow ?_
  cases h
  subst hk
  exact Eval.retH own_mk1 rfl rfl
def j_init_b121 (s : Q) (v2 : Int32) : Option (Q) := ((j_reset (Q.mk s.f_basis s.f_target s.f_literal s.f_out s.f_blkLen s.f_blkWeak s.f_blkStrong s.f_head s.f_next s.f_kinds s.f_values v2 s.f_basisLen s.f_targetLen s.f_literalLen s.f_outLen s.f_blocks s.f_ops s.f_shortBlock s.f_winPos s.f_winA s.f_winB s.f_phaseNow)).bind fun p11 => some (p11))
set_option maxRecDepth 100000 in
theorem ev_j_init_b121 (scr : List Int32) (s : Q) (v2 : Int32) {res : Q} {out : Option Value × AHeap} (h : j_init_b121 s v2 = some res) (hk : out = (none, (W1 scr res []))) : Eval own_P 1 121 [some (.ref 1), none, some (.int v2)] [] (W1 scr s []) out := by
  rw [j_init_b121] at h
  refine Eval.aload_n rfl rfl ?_
  refine Eval.iload_n rfl rfl ?_
  refine Eval.putfield rfl rfl own_p1_blockSize ?_
  refine Eval.aload_n rfl rfl ?_
  obtain ⟨p11, hq12, h⟩ := bind_some h
  refine Eval.callN (rest := []) (H1 := (W1 scr p11 [])) rfl rfl (Eval.heap own_mk1 (ev_j_reset [] scr (Q.mk s.f_basis s.f_target s.f_literal s.f_out s.f_blkLen s.f_blkWeak s.f_blkStrong s.f_head s.f_next s.f_kinds s.f_values v2 s.f_basisLen s.f_targetLen s.f_literalLen s.f_outLen s.f_blocks s.f_ops s.f_shortBlock s.f_winPos s.f_winA s.f_winB s.f_phaseNow) hq12 rfl)) ?_
  cases h
  subst hk
  exact Eval.ret rfl rfl
def j_init_b112 (s : Q) (v2 : Int32) : Option (Q) := (j_init_b121 s (if (32 : Int32) < v2 then (32 : Int32) else v2))
set_option maxRecDepth 100000 in
theorem ev_j_init_b112 (scr : List Int32) (s : Q) (v2 : Int32) {res : Q} {out : Option Value × AHeap} (h : j_init_b112 s v2 = some res) (hk : out = (none, (W1 scr res []))) : Eval own_P 1 112 [some (.ref 1), none, some (.int v2)] [] (W1 scr s []) out := by
  rw [j_init_b112] at h
  refine Eval.iload_n rfl rfl ?_
  refine Eval.bipush (x := (32 : Int32)) rfl rfl ?_
  suffices hJ10 : Eval own_P 1 121 [some (.ref 1), none, some (.int (if (32 : Int32) < v2 then (32 : Int32) else v2))] [] (W1 scr s []) out by
    by_cases hc9 : (32 : Int32) < v2
    · refine Eval.icmpF rfl (tlt hc9).2.2.2 ?_
      refine Eval.bipush (x := (32 : Int32)) rfl rfl ?_
      refine Eval.istore_n (L' := [some (.ref 1), none, some (.int (32 : Int32))]) rfl rfl ?_
      exact (Eval.conv hJ10 (by simp only [if_pos hc9] <;> rfl) rfl)
    · refine Eval.icmpT (t := 121) rfl rfl (flt hc9).2.2.2 ?_
      exact (Eval.conv hJ10 (by simp only [if_neg hc9] <;> rfl) rfl)
  exact ev_j_init_b121 scr s (if (32 : Int32) < v2 then (32 : Int32) else v2) h hk
def j_init_b103 (s : Q) (v1 : Int32) : Option (Q) := (j_init_b112 s (if v1 < (2 : Int32) then (2 : Int32) else v1))
set_option maxRecDepth 100000 in
theorem ev_j_init_b103 (scr : List Int32) (s : Q) (v1 : Int32) {res : Q} {out : Option Value × AHeap} (h : j_init_b103 s v1 = some res) (hk : out = (none, (W1 scr res []))) : Eval own_P 1 103 [some (.ref 1), some (.int v1), none] [] (W1 scr s []) out := by
  rw [j_init_b103] at h
  refine Eval.iload_n rfl rfl ?_
  refine Eval.istore_n (L' := [some (.ref 1), some (.int v1), some (.int v1)]) rfl rfl ?_
  refine Eval.iload_n rfl rfl ?_
  refine Eval.iconst (x := (2 : Int32)) rfl rfl ?_
  suffices hJ8 : Eval own_P 1 112 [some (.ref 1), none, some (.int (if v1 < (2 : Int32) then (2 : Int32) else v1))] [] (W1 scr s []) out by
    by_cases hc7 : v1 < (2 : Int32)
    · refine Eval.icmpF rfl (tlt hc7).2.1 ?_
      refine Eval.iconst (x := (2 : Int32)) rfl rfl ?_
      refine Eval.istore_n (L' := [some (.ref 1), some (.int v1), some (.int (2 : Int32))]) rfl rfl ?_
      refine Eval.weak (lw_mk 5 _) ?_
      exact (Eval.conv hJ8 (by simp only [if_pos hc7] <;> rfl) rfl)
    · refine Eval.icmpT (t := 112) rfl rfl (flt hc7).2.1 ?_
      refine Eval.weak (lw_mk 5 _) ?_
      exact (Eval.conv hJ8 (by simp only [if_neg hc7] <;> rfl) rfl)
  exact ev_j_init_b112 scr s (if v1 < (2 : Int32) then (2 : Int32) else v1) h hk
def j_init (v1 : Int32) : Option (Q) := (j_init_b103 Q0 v1)
set_option maxRecDepth 100000 in
theorem ev_j_init (scr : List Int32) (v1 : Int32) {res : Q} {out : Option Value × AHeap} (h : j_init v1 = some res) (hk : out = (none, (W1 scr res []))) : Eval own_P 1 0 [some (.ref 1), some (.int v1), none] [] (W0 scr [.inl [.null, .null, .null, .null, .null, .null, .null, .null, .null, .null, .null, .int (0 : Int32), .int (0 : Int32), .int (0 : Int32), .int (0 : Int32), .int (0 : Int32), .int (0 : Int32), .int (0 : Int32), .int (0 : Int32), .int (0 : Int32), .int (0 : Int32), .int (0 : Int32), .int (0 : Int32)]]) out := by
  rw [j_init] at h
  refine Eval.aload_n rfl rfl ?_
  refine Eval.objInit rfl rfl ?_
  refine Eval.aload_n rfl rfl ?_
  refine Eval.sipush (x := (256 : Int32)) rfl rfl ?_
  refine Eval.newarray (z := 23) (N := 256) (a := 2) (H1 := (W0 scr [.inl [.null, .null, .null, .null, .null, .null, .null, .null, .null, .null, .null, .int (0 : Int32), .int (0 : Int32), .int (0 : Int32), .int (0 : Int32), .int (0 : Int32), .int (0 : Int32), .int (0 : Int32), .int (0 : Int32), .int (0 : Int32), .int (0 : Int32), .int (0 : Int32), .int (0 : Int32)], .inr (.inl (1, List.replicate 256 0))])) rfl rfl rfl rfl rfl (by decide) (by decide) (by unfold W0; simp only [hsz, csz, own_objN, List.length_replicate]) (by decide) rfl ?_
  refine Eval.putfield (H1 := (W0 scr [.inl [.ref 2, .null, .null, .null, .null, .null, .null, .null, .null, .null, .null, .int (0 : Int32), .int (0 : Int32), .int (0 : Int32), .int (0 : Int32), .int (0 : Int32), .int (0 : Int32), .int (0 : Int32), .int (0 : Int32), .int (0 : Int32), .int (0 : Int32), .int (0 : Int32), .int (0 : Int32)], .inr (.inl (1, List.replicate 256 0))])) rfl rfl rfl ?_
  refine Eval.aload_n rfl rfl ?_
  refine Eval.sipush (x := (256 : Int32)) rfl rfl ?_
  refine Eval.newarray (z := 279) (N := 256) (a := 3) (H1 := (W0 scr [.inl [.ref 2, .null, .null, .null, .null, .null, .null, .null, .null, .null, .null, .int (0 : Int32), .int (0 : Int32), .int (0 : Int32), .int (0 : Int32), .int (0 : Int32), .int (0 : Int32), .int (0 : Int32), .int (0 : Int32), .int (0 : Int32), .int (0 : Int32), .int (0 : Int32), .int (0 : Int32)], .inr (.inl (1, List.replicate 256 0)), .inr (.inl (1, List.replicate 256 0))])) rfl rfl rfl rfl rfl (by decide) (by decide) (by unfold W0; simp only [hsz, csz, own_objN, List.length_replicate]) (by decide) rfl ?_
  refine Eval.putfield (H1 := (W0 scr [.inl [.ref 2, .ref 3, .null, .null, .null, .null, .null, .null, .null, .null, .null, .int (0 : Int32), .int (0 : Int32), .int (0 : Int32), .int (0 : Int32), .int (0 : Int32), .int (0 : Int32), .int (0 : Int32), .int (0 : Int32), .int (0 : Int32), .int (0 : Int32), .int (0 : Int32), .int (0 : Int32)], .inr (.inl (1, List.replicate 256 0)), .inr (.inl (1, List.replicate 256 0))])) rfl rfl rfl ?_
  refine Eval.aload_n rfl rfl ?_
  refine Eval.sipush (x := (256 : Int32)) rfl rfl ?_
  refine Eval.newarray (z := 535) (N := 256) (a := 4) (H1 := (W0 scr [.inl [.ref 2, .ref 3, .null, .null, .null, .null, .null, .null, .null, .null, .null, .int (0 : Int32), .int (0 : Int32), .int (0 : Int32), .int (0 : Int32), .int (0 : Int32), .int (0 : Int32), .int (0 : Int32), .int (0 : Int32), .int (0 : Int32), .int (0 : Int32), .int (0 : Int32), .int (0 : Int32)], .inr (.inl (1, List.replicate 256 0)), .inr (.inl (1, List.replicate 256 0)), .inr (.inl (1, List.replicate 256 0))])) rfl rfl rfl rfl rfl (by decide) (by decide) (by unfold W0; simp only [hsz, csz, own_objN, List.length_replicate]) (by decide) rfl ?_
  refine Eval.putfield (H1 := (W0 scr [.inl [.ref 2, .ref 3, .ref 4, .null, .null, .null, .null, .null, .null, .null, .null, .int (0 : Int32), .int (0 : Int32), .int (0 : Int32), .int (0 : Int32), .int (0 : Int32), .int (0 : Int32), .int (0 : Int32), .int (0 : Int32), .int (0 : Int32), .int (0 : Int32), .int (0 : Int32), .int (0 : Int32)], .inr (.inl (1, List.replicate 256 0)), .inr (.inl (1, List.replicate 256 0)), .inr (.inl (1, List.replicate 256 0))])) rfl rfl rfl ?_
  refine Eval.aload_n rfl rfl ?_
  refine Eval.sipush (x := (256 : Int32)) rfl rfl ?_
  refine Eval.newarray (z := 791) (N := 256) (a := 5) (H1 := (W0 scr [.inl [.ref 2, .ref 3, .ref 4, .null, .null, .null, .null, .null, .null, .null, .null, .int (0 : Int32), .int (0 : Int32), .int (0 : Int32), .int (0 : Int32), .int (0 : Int32), .int (0 : Int32), .int (0 : Int32), .int (0 : Int32), .int (0 : Int32), .int (0 : Int32), .int (0 : Int32), .int (0 : Int32)], .inr (.inl (1, List.replicate 256 0)), .inr (.inl (1, List.replicate 256 0)), .inr (.inl (1, List.replicate 256 0)), .inr (.inl (1, List.replicate 256 0))])) rfl rfl rfl rfl rfl (by decide) (by decide) (by unfold W0; simp only [hsz, csz, own_objN, List.length_replicate]) (by decide) rfl ?_
  refine Eval.putfield (H1 := (W0 scr [.inl [.ref 2, .ref 3, .ref 4, .ref 5, .null, .null, .null, .null, .null, .null, .null, .int (0 : Int32), .int (0 : Int32), .int (0 : Int32), .int (0 : Int32), .int (0 : Int32), .int (0 : Int32), .int (0 : Int32), .int (0 : Int32), .int (0 : Int32), .int (0 : Int32), .int (0 : Int32), .int (0 : Int32)], .inr (.inl (1, List.replicate 256 0)), .inr (.inl (1, List.replicate 256 0)), .inr (.inl (1, List.replicate 256 0)), .inr (.inl (1, List.replicate 256 0))])) rfl rfl rfl ?_
  refine Eval.aload_n rfl rfl ?_
  refine Eval.sipush (x := (128 : Int32)) rfl rfl ?_
  refine Eval.newarray (z := 1047) (N := 128) (a := 6) (H1 := (W0 scr [.inl [.ref 2, .ref 3, .ref 4, .ref 5, .null, .null, .null, .null, .null, .null, .null, .int (0 : Int32), .int (0 : Int32), .int (0 : Int32), .int (0 : Int32), .int (0 : Int32), .int (0 : Int32), .int (0 : Int32), .int (0 : Int32), .int (0 : Int32), .int (0 : Int32), .int (0 : Int32), .int (0 : Int32)], .inr (.inl (1, List.replicate 256 0)), .inr (.inl (1, List.replicate 256 0)), .inr (.inl (1, List.replicate 256 0)), .inr (.inl (1, List.replicate 256 0)), .inr (.inl (1, List.replicate 128 0))])) rfl rfl rfl rfl rfl (by decide) (by decide) (by unfold W0; simp only [hsz, csz, own_objN, List.length_replicate]) (by decide) rfl ?_
  refine Eval.putfield (H1 := (W0 scr [.inl [.ref 2, .ref 3, .ref 4, .ref 5, .ref 6, .null, .null, .null, .null, .null, .null, .int (0 : Int32), .int (0 : Int32), .int (0 : Int32), .int (0 : Int32), .int (0 : Int32), .int (0 : Int32), .int (0 : Int32), .int (0 : Int32), .int (0 : Int32), .int (0 : Int32), .int (0 : Int32), .int (0 : Int32)], .inr (.inl (1, List.replicate 256 0)), .inr (.inl (1, List.replicate 256 0)), .inr (.inl (1, List.replicate 256 0)), .inr (.inl (1, List.replicate 256 0)), .inr (.inl (1, List.replicate 128 0))])) rfl rfl rfl ?_
  refine Eval.aload_n rfl rfl ?_
  refine Eval.sipush (x := (128 : Int32)) rfl rfl ?_
  refine Eval.newarray (z := 1175) (N := 128) (a := 7) (H1 := (W0 scr [.inl [.ref 2, .ref 3, .ref 4, .ref 5, .ref 6, .null, .null, .null, .null, .null, .null, .int (0 : Int32), .int (0 : Int32), .int (0 : Int32), .int (0 : Int32), .int (0 : Int32), .int (0 : Int32), .int (0 : Int32), .int (0 : Int32), .int (0 : Int32), .int (0 : Int32), .int (0 : Int32), .int (0 : Int32)], .inr (.inl (1, List.replicate 256 0)), .inr (.inl (1, List.replicate 256 0)), .inr (.inl (1, List.replicate 256 0)), .inr (.inl (1, List.replicate 256 0)), .inr (.inl (1, List.replicate 128 0)), .inr (.inl (1, List.replicate 128 0))])) rfl rfl rfl rfl rfl (by decide) (by decide) (by unfold W0; simp only [hsz, csz, own_objN, List.length_replicate]) (by decide) rfl ?_
  refine Eval.putfield (H1 := (W0 scr [.inl [.ref 2, .ref 3, .ref 4, .ref 5, .ref 6, .ref 7, .null, .null, .null, .null, .null, .int (0 : Int32), .int (0 : Int32), .int (0 : Int32), .int (0 : Int32), .int (0 : Int32), .int (0 : Int32), .int (0 : Int32), .int (0 : Int32), .int (0 : Int32), .int (0 : Int32), .int (0 : Int32), .int (0 : Int32)], .inr (.inl (1, List.replicate 256 0)), .inr (.inl (1, List.replicate 256 0)), .inr (.inl (1, List.replicate 256 0)), .inr (.inl (1, List.replicate 256 0)), .inr (.inl (1, List.replicate 128 0)), .inr (.inl (1, List.replicate 128 0))])) rfl rfl rfl ?_
  refine Eval.aload_n rfl rfl ?_
  refine Eval.sipush (x := (128 : Int32)) rfl rfl ?_
  refine Eval.newarray (z := 1303) (N := 128) (a := 8) (H1 := (W0 scr [.inl [.ref 2, .ref 3, .ref 4, .ref 5, .ref 6, .ref 7, .null, .null, .null, .null, .null, .int (0 : Int32), .int (0 : Int32), .int (0 : Int32), .int (0 : Int32), .int (0 : Int32), .int (0 : Int32), .int (0 : Int32), .int (0 : Int32), .int (0 : Int32), .int (0 : Int32), .int (0 : Int32), .int (0 : Int32)], .inr (.inl (1, List.replicate 256 0)), .inr (.inl (1, List.replicate 256 0)), .inr (.inl (1, List.replicate 256 0)), .inr (.inl (1, List.replicate 256 0)), .inr (.inl (1, List.replicate 128 0)), .inr (.inl (1, List.replicate 128 0)), .inr (.inr (List.replicate 128 0))])) rfl rfl rfl rfl rfl (by decide) (by decide) (by unfold W0; simp only [hsz, csz, own_objN, List.length_replicate]) (by decide) rfl ?_
  refine Eval.putfield (H1 := (W0 scr [.inl [.ref 2, .ref 3, .ref 4, .ref 5, .ref 6, .ref 7, .ref 8, .null, .null, .null, .null, .int (0 : Int32), .int (0 : Int32), .int (0 : Int32), .int (0 : Int32), .int (0 : Int32), .int (0 : Int32), .int (0 : Int32), .int (0 : Int32), .int (0 : Int32), .int (0 : Int32), .int (0 : Int32), .int (0 : Int32)], .inr (.inl (1, List.replicate 256 0)), .inr (.inl (1, List.replicate 256 0)), .inr (.inl (1, List.replicate 256 0)), .inr (.inl (1, List.replicate 256 0)), .inr (.inl (1, List.replicate 128 0)), .inr (.inl (1, List.replicate 128 0)), .inr (.inr (List.replicate 128 0))])) rfl rfl rfl ?_
  refine Eval.aload_n rfl rfl ?_
  refine Eval.sipush (x := (256 : Int32)) rfl rfl ?_
  refine Eval.newarray (z := 1431) (N := 256) (a := 9) (H1 := (W0 scr [.inl [.ref 2, .ref 3, .ref 4, .ref 5, .ref 6, .ref 7, .ref 8, .null, .null, .null, .null, .int (0 : Int32), .int (0 : Int32), .int (0 : Int32), .int (0 : Int32), .int (0 : Int32), .int (0 : Int32), .int (0 : Int32), .int (0 : Int32), .int (0 : Int32), .int (0 : Int32), .int (0 : Int32), .int (0 : Int32)], .inr (.inl (1, List.replicate 256 0)), .inr (.inl (1, List.replicate 256 0)), .inr (.inl (1, List.replicate 256 0)), .inr (.inl (1, List.replicate 256 0)), .inr (.inl (1, List.replicate 128 0)), .inr (.inl (1, List.replicate 128 0)), .inr (.inr (List.replicate 128 0)), .inr (.inl (1, List.replicate 256 0))])) rfl rfl rfl rfl rfl (by decide) (by decide) (by unfold W0; simp only [hsz, csz, own_objN, List.length_replicate]) (by decide) rfl ?_
  refine Eval.putfield (H1 := (W0 scr [.inl [.ref 2, .ref 3, .ref 4, .ref 5, .ref 6, .ref 7, .ref 8, .ref 9, .null, .null, .null, .int (0 : Int32), .int (0 : Int32), .int (0 : Int32), .int (0 : Int32), .int (0 : Int32), .int (0 : Int32), .int (0 : Int32), .int (0 : Int32), .int (0 : Int32), .int (0 : Int32), .int (0 : Int32), .int (0 : Int32)], .inr (.inl (1, List.replicate 256 0)), .inr (.inl (1, List.replicate 256 0)), .inr (.inl (1, List.replicate 256 0)), .inr (.inl (1, List.replicate 256 0)), .inr (.inl (1, List.replicate 128 0)), .inr (.inl (1, List.replicate 128 0)), .inr (.inr (List.replicate 128 0)), .inr (.inl (1, List.replicate 256 0))])) rfl rfl rfl ?_
  refine Eval.aload_n rfl rfl ?_
  refine Eval.sipush (x := (128 : Int32)) rfl rfl ?_
  refine Eval.newarray (z := 1687) (N := 128) (a := 10) (H1 := (W0 scr [.inl [.ref 2, .ref 3, .ref 4, .ref 5, .ref 6, .ref 7, .ref 8, .ref 9, .null, .null, .null, .int (0 : Int32), .int (0 : Int32), .int (0 : Int32), .int (0 : Int32), .int (0 : Int32), .int (0 : Int32), .int (0 : Int32), .int (0 : Int32), .int (0 : Int32), .int (0 : Int32), .int (0 : Int32), .int (0 : Int32)], .inr (.inl (1, List.replicate 256 0)), .inr (.inl (1, List.replicate 256 0)), .inr (.inl (1, List.replicate 256 0)), .inr (.inl (1, List.replicate 256 0)), .inr (.inl (1, List.replicate 128 0)), .inr (.inl (1, List.replicate 128 0)), .inr (.inr (List.replicate 128 0)), .inr (.inl (1, List.replicate 256 0)), .inr (.inl (1, List.replicate 128 0))])) rfl rfl rfl rfl rfl (by decide) (by decide) (by unfold W0; simp only [hsz, csz, own_objN, List.length_replicate]) (by decide) rfl ?_
  refine Eval.putfield (H1 := (W0 scr [.inl [.ref 2, .ref 3, .ref 4, .ref 5, .ref 6, .ref 7, .ref 8, .ref 9, .ref 10, .null, .null, .int (0 : Int32), .int (0 : Int32), .int (0 : Int32), .int (0 : Int32), .int (0 : Int32), .int (0 : Int32), .int (0 : Int32), .int (0 : Int32), .int (0 : Int32), .int (0 : Int32), .int (0 : Int32), .int (0 : Int32)], .inr (.inl (1, List.replicate 256 0)), .inr (.inl (1, List.replicate 256 0)), .inr (.inl (1, List.replicate 256 0)), .inr (.inl (1, List.replicate 256 0)), .inr (.inl (1, List.replicate 128 0)), .inr (.inl (1, List.replicate 128 0)), .inr (.inr (List.replicate 128 0)), .inr (.inl (1, List.replicate 256 0)), .inr (.inl (1, List.replicate 128 0))])) rfl rfl rfl ?_
  refine Eval.aload_n rfl rfl ?_
  refine Eval.sipush (x := (256 : Int32)) rfl rfl ?_
  refine Eval.newarray (z := 1815) (N := 256) (a := 11) (H1 := (W0 scr [.inl [.ref 2, .ref 3, .ref 4, .ref 5, .ref 6, .ref 7, .ref 8, .ref 9, .ref 10, .null, .null, .int (0 : Int32), .int (0 : Int32), .int (0 : Int32), .int (0 : Int32), .int (0 : Int32), .int (0 : Int32), .int (0 : Int32), .int (0 : Int32), .int (0 : Int32), .int (0 : Int32), .int (0 : Int32), .int (0 : Int32)], .inr (.inl (1, List.replicate 256 0)), .inr (.inl (1, List.replicate 256 0)), .inr (.inl (1, List.replicate 256 0)), .inr (.inl (1, List.replicate 256 0)), .inr (.inl (1, List.replicate 128 0)), .inr (.inl (1, List.replicate 128 0)), .inr (.inr (List.replicate 128 0)), .inr (.inl (1, List.replicate 256 0)), .inr (.inl (1, List.replicate 128 0)), .inr (.inl (1, List.replicate 256 0))])) rfl rfl rfl rfl rfl (by decide) (by decide) (by unfold W0; simp only [hsz, csz, own_objN, List.length_replicate]) (by decide) rfl ?_
  refine Eval.putfield (H1 := (W0 scr [.inl [.ref 2, .ref 3, .ref 4, .ref 5, .ref 6, .ref 7, .ref 8, .ref 9, .ref 10, .ref 11, .null, .int (0 : Int32), .int (0 : Int32), .int (0 : Int32), .int (0 : Int32), .int (0 : Int32), .int (0 : Int32), .int (0 : Int32), .int (0 : Int32), .int (0 : Int32), .int (0 : Int32), .int (0 : Int32), .int (0 : Int32)], .inr (.inl (1, List.replicate 256 0)), .inr (.inl (1, List.replicate 256 0)), .inr (.inl (1, List.replicate 256 0)), .inr (.inl (1, List.replicate 256 0)), .inr (.inl (1, List.replicate 128 0)), .inr (.inl (1, List.replicate 128 0)), .inr (.inr (List.replicate 128 0)), .inr (.inl (1, List.replicate 256 0)), .inr (.inl (1, List.replicate 128 0)), .inr (.inl (1, List.replicate 256 0))])) rfl rfl rfl ?_
  refine Eval.aload_n rfl rfl ?_
  refine Eval.sipush (x := (256 : Int32)) rfl rfl ?_
  refine Eval.newarray (z := 2071) (N := 256) (a := 12) (H1 := (W0 scr [.inl [.ref 2, .ref 3, .ref 4, .ref 5, .ref 6, .ref 7, .ref 8, .ref 9, .ref 10, .ref 11, .null, .int (0 : Int32), .int (0 : Int32), .int (0 : Int32), .int (0 : Int32), .int (0 : Int32), .int (0 : Int32), .int (0 : Int32), .int (0 : Int32), .int (0 : Int32), .int (0 : Int32), .int (0 : Int32), .int (0 : Int32)], .inr (.inl (1, List.replicate 256 0)), .inr (.inl (1, List.replicate 256 0)), .inr (.inl (1, List.replicate 256 0)), .inr (.inl (1, List.replicate 256 0)), .inr (.inl (1, List.replicate 128 0)), .inr (.inl (1, List.replicate 128 0)), .inr (.inr (List.replicate 128 0)), .inr (.inl (1, List.replicate 256 0)), .inr (.inl (1, List.replicate 128 0)), .inr (.inl (1, List.replicate 256 0)), .inr (.inl (1, List.replicate 256 0))])) rfl rfl rfl rfl rfl (by decide) (by decide) (by unfold W0; simp only [hsz, csz, own_objN, List.length_replicate]) (by decide) rfl ?_
  refine Eval.putfield (H1 := (W0 scr [.inl [.ref 2, .ref 3, .ref 4, .ref 5, .ref 6, .ref 7, .ref 8, .ref 9, .ref 10, .ref 11, .ref 12, .int (0 : Int32), .int (0 : Int32), .int (0 : Int32), .int (0 : Int32), .int (0 : Int32), .int (0 : Int32), .int (0 : Int32), .int (0 : Int32), .int (0 : Int32), .int (0 : Int32), .int (0 : Int32), .int (0 : Int32)], .inr (.inl (1, List.replicate 256 0)), .inr (.inl (1, List.replicate 256 0)), .inr (.inl (1, List.replicate 256 0)), .inr (.inl (1, List.replicate 256 0)), .inr (.inl (1, List.replicate 128 0)), .inr (.inl (1, List.replicate 128 0)), .inr (.inr (List.replicate 128 0)), .inr (.inl (1, List.replicate 256 0)), .inr (.inl (1, List.replicate 128 0)), .inr (.inl (1, List.replicate 256 0)), .inr (.inl (1, List.replicate 256 0))])) rfl rfl rfl ?_
  show Eval own_P 1 103 [some (.ref 1), some (.int v1), none] [] (W1 scr Q0 []) out
  exact ev_j_init_b103 scr Q0 v1 h hk
abbrev law_l65_K (scr : List Int32) (res : (Q) ⊕ ((Q) ⊕ ((Q) ⊕ ((Q) ⊕ ((Q) ⊕ ((Q) ⊕ ((Q) ⊕ ((Q) ⊕ ((Q) ⊕ ((Q) ⊕ ((Q) ⊕ (Q)))))))))))) (out : Option Value × AHeap) : Prop := Sum.elim (fun res => Eval own_P 0 164 [none, none, none, none, none, none, none, none, none, none, none, none, none, none, none, none] [] (W1 scr res []) out) (fun res => Sum.elim (fun res => Eval own_P 0 198 [none, none, none, none, none, none, none, none, none, none, none, none, none, none, none, none] [] (W1 scr res []) out) (fun res => Sum.elim (fun res => Eval own_P 0 264 [none, none, none, none, none, none, none, none, none, none, none, none, none, none, none, none] [] (W1 scr res []) out) (fun res => Sum.elim (fun res => Eval own_P 0 298 [none, none, none, none, none, none, none, none, none, none, none, none, none, none, none, none] [] (W1 scr res []) out) (fun res => Sum.elim (fun res => Eval own_P 0 333 [none, none, none, none, none, none, none, none, none, none, none, none, none, none, none, none] [] (W1 scr res []) out) (fun res => Sum.elim (fun res => Eval own_P 0 347 [none, none, none, none, none, none, none, none, none, none, none, none, none, none, none, none] [] (W1 scr res []) out) (fun res => Sum.elim (fun res => Eval own_P 0 405 [none, none, none, none, none, none, none, none, none, none, none, none, none, none, none, none] [] (W1 scr res []) out) (fun res => Sum.elim (fun res => Eval own_P 0 423 [none, none, none, none, none, none, none, none, none, none, none, none, none, none, none, none] [] (W1 scr res []) out) (fun res => Sum.elim (fun res => Eval own_P 0 454 [none, none, none, none, none, none, none, none, none, none, none, none, none, none, none, none] [] (W1 scr res []) out) (fun res => Sum.elim (fun res => Eval own_P 0 468 [none, none, none, none, none, none, none, none, none, none, none, none, none, none, none, none] [] (W1 scr res []) out) (fun res => Sum.elim (fun res => Eval own_P 0 515 [none, none, none, none, none, none, none, none, none, none, none, none, none, none, none, none] [] (W1 scr res []) out) (fun res => Eval own_P 0 523 [none, none, none, none, none, none, none, none, none, none, none, none, none, none, none, none] [] (W1 scr res []) out) res) res) res) res) res) res) res) res) res) res) res

abbrev j_sign_l58_K (R : AHeap) (scr : List Int32) (res : Q) (out : Option Value × AHeap) : Prop := Eval own_P 11 138 [some (.ref 1), none, none, none, none] [] (W1 scr res R) out

abbrev j_sign_l58_N (s res : Q) : Prop := Q.len res = Q.len s
abbrev j_weakOfBasis_l8_K (R : AHeap) (scr : List Int32) (s : Q) (res : (Int32 × Int32) ⊕ (Int32 × Int32)) (out : Option Value × AHeap) : Prop := Sum.elim (fun res => Eval own_P 15 33 [some (.ref 1), none, none, some (.int res.1), some (.int res.2), none, none, none] [] (W1 scr s R) out) (fun res => Eval own_P 15 68 [some (.ref 1), none, none, some (.int res.1), some (.int res.2), none, none, none] [] (W1 scr s R) out) res

def j_weakOfBasis_l8 : Nat → Q → Int32 → Int32 → Int32 → Int32 → Int32 → Option ((Int32 × Int32) ⊕ (Int32 × Int32))
  | 0, _, _, _, _, _, _ => none
  | n + 1, s, v1, v2, v3, v4, v5 => (if v5 < v2 then (if (v1 + v5) < (0 : Int32) then some (.inr (v3, v4)) else (if (v1 + v5) < (256 : Int32) then (if inb s.f_basis.length (v1 + v5) = true then (j_weakOfBasis_l8 n s v1 v2 (v3 + (rd s.f_basis (v1 + v5))) (v4 + ((v2 - v5) * (rd s.f_basis (v1 + v5)))) (v5 + (1 : Int32))) else none) else some (.inl (v3, v4)))) else some (.inr (v3, v4)))
set_option maxRecDepth 100000 in
theorem ev_j_weakOfBasis_l8 (R : AHeap) (scr : List Int32) : ∀ (n : Nat) (s : Q) (v1 v2 : Int32) (v3 v4 v5 : Int32) {res : (Int32 × Int32) ⊕ (Int32 × Int32)} {out : Option Value × AHeap}, j_weakOfBasis_l8 n s v1 v2 v3 v4 v5 = some res → j_weakOfBasis_l8_K R scr s res out → Eval own_P 15 8 [some (.ref 1), some (.int v1), some (.int v2), some (.int v3), some (.int v4), some (.int v5), none, none] [] (W1 scr s R) out := by
  intro n
  induction n with
  | zero => intro _ _ _ _ _ _ res out h hk; cases h
  | succ n hrec =>
    intro s v1 v2 v3 v4 v5 res out h hk
    rw [j_weakOfBasis_l8] at h
    refine Eval.iload rfl rfl ?_
    refine Eval.iload_n rfl rfl ?_
    by_cases hc32 : v5 < v2
    · rw [if_pos hc32] at h
      refine Eval.icmpF rfl (tlt hc32).2.1 ?_
      refine Eval.iload_n rfl rfl ?_
      refine Eval.iload rfl rfl ?_
      refine Eval.iadd rfl ?_
      refine Eval.istore (L' := [some (.ref 1), some (.int v1), some (.int v2), some (.int v3), some (.int v4), some (.int v5), some (.int (v1 + v5)), none]) rfl rfl ?_
      refine Eval.iload rfl rfl ?_
      by_cases hc33 : (v1 + v5) < (0 : Int32)
      · rw [if_pos hc33] at h
        refine Eval.ifT (t := 68) rfl rfl (tlt hc33).1 ?_
        cases h
        refine Eval.weak (lw_mk 25 _) ?_
        exact hk
      · rw [if_neg hc33] at h
        refine Eval.ifF rfl (flt hc33).1 ?_
        refine Eval.iload rfl rfl ?_
        refine Eval.sipush (x := (256 : Int32)) rfl rfl ?_
        by_cases hc34 : (v1 + v5) < (256 : Int32)
        · rw [if_pos hc34] at h
          refine Eval.icmpT (t := 36) rfl rfl (tlt hc34).1 ?_
          refine Eval.aload_n rfl rfl ?_
          refine Eval.getfield rfl rfl own_g1_basis ?_
          refine Eval.iload rfl rfl ?_
          obtain ⟨hb35, h⟩ := ite_some h
          refine Eval.iaload rfl own_a1_basis hb35 ?_
          refine Eval.istore (L' := [some (.ref 1), some (.int v1), some (.int v2), some (.int v3), some (.int v4), some (.int v5), some (.int (v1 + v5)), some (.int (rd s.f_basis (v1 + v5)))]) rfl rfl ?_
          refine Eval.iload_n rfl rfl ?_
          refine Eval.iload rfl rfl ?_
          refine Eval.iadd rfl ?_
          refine Eval.istore_n (L' := [some (.ref 1), some (.int v1), some (.int v2), some (.int (v3 + (rd s.f_basis (v1 + v5)))), some (.int v4), some (.int v5), some (.int (v1 + v5)), some (.int (rd s.f_basis (v1 + v5)))]) rfl rfl ?_
          refine Eval.iload rfl rfl ?_
          refine Eval.iload_n rfl rfl ?_
          refine Eval.iload rfl rfl ?_
          refine Eval.isub rfl ?_
          refine Eval.iload rfl rfl ?_
          refine Eval.imul rfl ?_
          refine Eval.iadd rfl ?_
          refine Eval.istore (L' := [some (.ref 1), some (.int v1), some (.int v2), some (.int (v3 + (rd s.f_basis (v1 + v5)))), some (.int (v4 + ((v2 - v5) * (rd s.f_basis (v1 + v5))))), some (.int v5), some (.int (v1 + v5)), some (.int (rd s.f_basis (v1 + v5)))]) rfl rfl ?_
          refine Eval.iinc (L' := [some (.ref 1), some (.int v1), some (.int v2), some (.int (v3 + (rd s.f_basis (v1 + v5)))), some (.int (v4 + ((v2 - v5) * (rd s.f_basis (v1 + v5))))), some (.int (v5 + (1 : Int32))), some (.int (v1 + v5)), some (.int (rd s.f_basis (v1 + v5)))]) rfl rfl rfl ?_
          refine Eval.goto (t := 8) rfl rfl ?_
          refine Eval.weak (lw_mk 63 _) ?_
          exact hrec _ _ _ _ _ _ h hk
        · rw [if_neg hc34] at h
          refine Eval.icmpF rfl (flt hc34).1 ?_
          cases h
          refine Eval.weak (lw_mk 25 _) ?_
          exact hk
    · rw [if_neg hc32] at h
      refine Eval.icmpT (t := 68) rfl rfl (flt hc32).2.1 ?_
      cases h
      refine Eval.weak (lw_mk 25 _) ?_
      exact hk
def j_packWeak (v1 v2 : Int32) : Int32 := (((ish (v2 &&& (65535 : Int32)) (16 : Int32)) ||| (v1 &&& (65535 : Int32))))
set_option maxRecDepth 100000 in
theorem ev_j_packWeak (H : AHeap) (a : Nat) (v1 v2 : Int32) {res : Int32} {out : Option Value × AHeap} (h : j_packWeak v1 v2 = res) (hk : out = (some (.int res), H)) : Eval own_P 16 0 [some (.ref a), some (.int v1), some (.int v2)] [] H out := by
  rw [j_packWeak] at h
  refine Eval.iload_n rfl rfl ?_
  refine Eval.ldc (x := (65535 : Int32)) rfl rfl ?_
  refine Eval.iand rfl ?_
  refine Eval.bipush (x := (16 : Int32)) rfl rfl ?_
  refine Eval.ishl rfl ?_
  refine Eval.iload_n rfl rfl ?_
  refine Eval.ldc (x := (65535 : Int32)) rfl rfl ?_
  refine Eval.iand rfl ?_
  refine Eval.ior rfl ?_
  subst h
  subst hk
  exact Eval.ret rfl rfl
def j_weakOfBasis_b68 (s : Q) (v3 v4 : Int32) : Option (Int32) := some ((j_packWeak v3 v4))
set_option maxRecDepth 100000 in
theorem ev_j_weakOfBasis_b68 (R : AHeap) (scr : List Int32) (s : Q) (v3 v4 : Int32) {res : Int32} {out : Option Value × AHeap} (h : j_weakOfBasis_b68 s v3 v4 = some res) (hk : out = (some (.int res), (W1 scr s R))) : Eval own_P 15 68 [some (.ref 1), none, none, some (.int v3), some (.int v4), none, none, none] [] (W1 scr s R) out := by
  rw [j_weakOfBasis_b68] at h
  refine Eval.aload_n rfl rfl ?_
  refine Eval.iload_n rfl rfl ?_
  refine Eval.iload rfl rfl ?_
  refine Eval.callI (rest := []) (x := (j_packWeak v3 v4)) (H1 := (W1 scr s R)) rfl rfl (ev_j_packWeak (W1 scr s R) 1 v3 v4 rfl rfl) ?_
  cases h
  subst hk
  exact Eval.ret rfl rfl
def j_weakOfBasis (s : Q) (v1 v2 : Int32) : Option (Int32) := ((j_weakOfBasis_l8 3000 s v1 v2 (0 : Int32) (0 : Int32) (0 : Int32)).bind fun p36 => Sum.elim (fun p38 => (j_weakOfBasis_b68 s p38.1 p38.2)) (fun p39 => (j_weakOfBasis_b68 s p39.1 p39.2)) p36)
set_option maxRecDepth 100000 in
theorem ev_j_weakOfBasis (R : AHeap) (scr : List Int32) (s : Q) (v1 v2 : Int32) {res : Int32} {out : Option Value × AHeap} (h : j_weakOfBasis s v1 v2 = some res) (hk : out = (some (.int res), (W1 scr s R))) : Eval own_P 15 0 [some (.ref 1), some (.int v1), some (.int v2), none, none, none, none, none] [] (W1 scr s R) out := by
  rw [j_weakOfBasis] at h
  refine Eval.iconst (x := (0 : Int32)) rfl rfl ?_
  refine Eval.istore_n (L' := [some (.ref 1), some (.int v1), some (.int v2), some (.int (0 : Int32)), none, none, none, none]) rfl rfl ?_
  refine Eval.iconst (x := (0 : Int32)) rfl rfl ?_
  refine Eval.istore (L' := [some (.ref 1), some (.int v1), some (.int v2), some (.int (0 : Int32)), some (.int (0 : Int32)), none, none, none]) rfl rfl ?_
  refine Eval.iconst (x := (0 : Int32)) rfl rfl ?_
  refine Eval.istore (L' := [some (.ref 1), some (.int v1), some (.int v2), some (.int (0 : Int32)), some (.int (0 : Int32)), some (.int (0 : Int32)), none, none]) rfl rfl ?_
  obtain ⟨p36, hq37, h⟩ := bind_some h
  rcases p36 with p38 | p39
  · dsimp only [Sum.elim] at h
    refine ev_j_weakOfBasis_l8 R scr _ s v1 v2 (0 : Int32) (0 : Int32) (0 : Int32) hq37 ?_
    show Eval own_P 15 33 [some (.ref 1), none, none, some (.int p38.1), some (.int p38.2), none, none, none] [] (W1 scr s R) out
    refine Eval.goto (t := 68) rfl rfl ?_
    exact ev_j_weakOfBasis_b68 R scr s p38.1 p38.2 h hk
  · dsimp only [Sum.elim] at h
    refine ev_j_weakOfBasis_l8 R scr _ s v1 v2 (0 : Int32) (0 : Int32) (0 : Int32) hq37 ?_
    show Eval own_P 15 68 [some (.ref 1), none, none, some (.int p39.1), some (.int p39.2), none, none, none] [] (W1 scr s R) out
    exact ev_j_weakOfBasis_b68 R scr s p39.1 p39.2 h hk
abbrev j_strongOfBasis_l7_K (R : AHeap) (scr : List Int32) (s : Q) (res : (Int64) ⊕ (Int64)) (out : Option Value × AHeap) : Prop := Sum.elim (fun res => Eval own_P 17 32 [none, none, none, some (.long res), none, none, none] [] (W1 scr s R) out) (fun res => Eval own_P 17 58 [none, none, none, some (.long res), none, none, none] [] (W1 scr s R) out) res

def j_strongOfBasis_l7 : Nat → Q → Int32 → Int32 → Int64 → Int32 → Option ((Int64) ⊕ (Int64))
  | 0, _, _, _, _, _ => none
  | n + 1, s, v1, v2, v3, v5 => (if v5 < v2 then (if (v1 + v5) < (0 : Int32) then some (.inr (v3)) else (if (v1 + v5) < (256 : Int32) then (if inb s.f_basis.length (v1 + v5) = true then (j_strongOfBasis_l7 n s v1 v2 ((v3 ^^^ (Int32.toInt64 (rd s.f_basis (v1 + v5)))) * (1099511628211 : Int64)) (v5 + (1 : Int32))) else none) else some (.inl (v3)))) else some (.inr (v3)))
set_option maxRecDepth 100000 in
theorem ev_j_strongOfBasis_l7 (R : AHeap) (scr : List Int32) : ∀ (n : Nat) (s : Q) (v1 v2 : Int32) (v3 : Int64) (v5 : Int32) {res : (Int64) ⊕ (Int64)} {out : Option Value × AHeap}, j_strongOfBasis_l7 n s v1 v2 v3 v5 = some res → j_strongOfBasis_l7_K R scr s res out → Eval own_P 17 7 [some (.ref 1), some (.int v1), some (.int v2), some (.long v3), none, some (.int v5), none] [] (W1 scr s R) out := by
  intro n
  induction n with
  | zero => intro _ _ _ _ _ res out h hk; cases h
  | succ n hrec =>
    intro s v1 v2 v3 v5 res out h hk
    rw [j_strongOfBasis_l7] at h
    refine Eval.iload rfl rfl ?_
    refine Eval.iload_n rfl rfl ?_
    by_cases hc43 : v5 < v2
    · rw [if_pos hc43] at h
      refine Eval.icmpF rfl (tlt hc43).2.1 ?_
      refine Eval.iload_n rfl rfl ?_
      refine Eval.iload rfl rfl ?_
      refine Eval.iadd rfl ?_
      refine Eval.istore (L' := [some (.ref 1), some (.int v1), some (.int v2), some (.long v3), none, some (.int v5), some (.int (v1 + v5))]) rfl rfl ?_
      refine Eval.iload rfl rfl ?_
      by_cases hc44 : (v1 + v5) < (0 : Int32)
      · rw [if_pos hc44] at h
        refine Eval.ifT (t := 58) rfl rfl (tlt hc44).1 ?_
        cases h
        refine Eval.weak (lw_mk 8 _) ?_
        exact hk
      · rw [if_neg hc44] at h
        refine Eval.ifF rfl (flt hc44).1 ?_
        refine Eval.iload rfl rfl ?_
        refine Eval.sipush (x := (256 : Int32)) rfl rfl ?_
        by_cases hc45 : (v1 + v5) < (256 : Int32)
        · rw [if_pos hc45] at h
          refine Eval.icmpT (t := 35) rfl rfl (tlt hc45).1 ?_
          refine Eval.lload_n rfl rfl ?_
          refine Eval.aload_n rfl rfl ?_
          refine Eval.getfield rfl rfl own_g1_basis ?_
          refine Eval.iload rfl rfl ?_
          obtain ⟨hb46, h⟩ := ite_some h
          refine Eval.iaload rfl own_a1_basis hb46 ?_
          refine Eval.i2l rfl ?_
          refine Eval.lxor rfl ?_
          refine Eval.lstore_n (L' := [some (.ref 1), some (.int v1), some (.int v2), some (.long (v3 ^^^ (Int32.toInt64 (rd s.f_basis (v1 + v5))))), none, some (.int v5), some (.int (v1 + v5))]) rfl rfl ?_
          refine Eval.lload_n rfl rfl ?_
          refine Eval.ldc2_w (x := (1099511628211 : Int64)) rfl rfl ?_
          refine Eval.lmul rfl ?_
          refine Eval.lstore_n (L' := [some (.ref 1), some (.int v1), some (.int v2), some (.long ((v3 ^^^ (Int32.toInt64 (rd s.f_basis (v1 + v5)))) * (1099511628211 : Int64))), none, some (.int v5), some (.int (v1 + v5))]) rfl rfl ?_
          refine Eval.iinc (L' := [some (.ref 1), some (.int v1), some (.int v2), some (.long ((v3 ^^^ (Int32.toInt64 (rd s.f_basis (v1 + v5)))) * (1099511628211 : Int64))), none, some (.int (v5 + (1 : Int32))), some (.int (v1 + v5))]) rfl rfl rfl ?_
          refine Eval.goto (t := 7) rfl rfl ?_
          refine Eval.weak (lw_mk 47 _) ?_
          exact hrec _ _ _ _ _ h hk
        · rw [if_neg hc45] at h
          refine Eval.icmpF rfl (flt hc45).1 ?_
          cases h
          refine Eval.weak (lw_mk 8 _) ?_
          exact hk
    · rw [if_neg hc43] at h
      refine Eval.icmpT (t := 58) rfl rfl (flt hc43).2.1 ?_
      cases h
      refine Eval.weak (lw_mk 8 _) ?_
      exact hk
def j_strongOfBasis_b58 (s : Q) (v3 : Int64) : Option (Int64) := some (v3)
set_option maxRecDepth 100000 in
theorem ev_j_strongOfBasis_b58 (R : AHeap) (scr : List Int32) (s : Q) (v3 : Int64) {res : Int64} {out : Option Value × AHeap} (h : j_strongOfBasis_b58 s v3 = some res) (hk : out = (some (.long res), (W1 scr s R))) : Eval own_P 17 58 [none, none, none, some (.long v3), none, none, none] [] (W1 scr s R) out := by
  rw [j_strongOfBasis_b58] at h
  refine Eval.lload_n rfl rfl ?_
  cases h
  subst hk
  exact Eval.ret rfl rfl
def j_strongOfBasis (s : Q) (v1 v2 : Int32) : Option (Int64) := ((j_strongOfBasis_l7 3000 s v1 v2 (-3750763034362895579 : Int64) (0 : Int32)).bind fun p47 => Sum.elim (fun p49 => (j_strongOfBasis_b58 s p49)) (fun p50 => (j_strongOfBasis_b58 s p50)) p47)
set_option maxRecDepth 100000 in
theorem ev_j_strongOfBasis (R : AHeap) (scr : List Int32) (s : Q) (v1 v2 : Int32) {res : Int64} {out : Option Value × AHeap} (h : j_strongOfBasis s v1 v2 = some res) (hk : out = (some (.long res), (W1 scr s R))) : Eval own_P 17 0 [some (.ref 1), some (.int v1), some (.int v2), none, none, none, none] [] (W1 scr s R) out := by
  rw [j_strongOfBasis] at h
  refine Eval.ldc2_w (x := (-3750763034362895579 : Int64)) rfl rfl ?_
  refine Eval.lstore_n (L' := [some (.ref 1), some (.int v1), some (.int v2), some (.long (-3750763034362895579 : Int64)), none, none, none]) rfl rfl ?_
  refine Eval.iconst (x := (0 : Int32)) rfl rfl ?_
  refine Eval.istore (L' := [some (.ref 1), some (.int v1), some (.int v2), some (.long (-3750763034362895579 : Int64)), none, some (.int (0 : Int32)), none]) rfl rfl ?_
  obtain ⟨p47, hq48, h⟩ := bind_some h
  rcases p47 with p49 | p50
  · dsimp only [Sum.elim] at h
    refine ev_j_strongOfBasis_l7 R scr _ s v1 v2 (-3750763034362895579 : Int64) (0 : Int32) hq48 ?_
    show Eval own_P 17 32 [none, none, none, some (.long p49), none, none, none] [] (W1 scr s R) out
    refine Eval.goto (t := 58) rfl rfl ?_
    exact ev_j_strongOfBasis_b58 R scr s p49 h hk
  · dsimp only [Sum.elim] at h
    refine ev_j_strongOfBasis_l7 R scr _ s v1 v2 (-3750763034362895579 : Int64) (0 : Int32) hq48 ?_
    show Eval own_P 17 58 [none, none, none, some (.long p50), none, none, none] [] (W1 scr s R) out
    exact ev_j_strongOfBasis_b58 R scr s p50 h hk
def j_sign_b98 (go_ : Q → Int32 → Int32 → Option (Q)) (s : Q) (v1 v2 : Int32) (v3 v4 : Int32) : Option (Q) := (if inb s.f_blkLen.length v2 = true then ((j_weakOfBasis (Q.mk s.f_basis s.f_target s.f_literal s.f_out (wr s.f_blkLen v2 v4) s.f_blkWeak s.f_blkStrong s.f_head s.f_next s.f_kinds s.f_values s.f_blockSize s.f_basisLen s.f_targetLen s.f_literalLen s.f_outLen s.f_blocks s.f_ops s.f_shortBlock s.f_winPos s.f_winA s.f_winB s.f_phaseNow) v3 v4).bind fun p40 => (if inb s.f_blkWeak.length v2 = true then ((j_strongOfBasis (Q.mk s.f_basis s.f_target s.f_literal s.f_out (wr s.f_blkLen v2 v4) (wr s.f_blkWeak v2 p40) s.f_blkStrong s.f_head s.f_next s.f_kinds s.f_values s.f_blockSize s.f_basisLen s.f_targetLen s.f_literalLen s.f_outLen s.f_blocks s.f_ops s.f_shortBlock s.f_winPos s.f_winA s.f_winB s.f_phaseNow) v3 v4).bind fun p51 => (if inb s.f_blkStrong.length v2 = true then (go_ (Q.mk s.f_basis s.f_target s.f_literal s.f_out (wr s.f_blkLen v2 v4) (wr s.f_blkWeak v2 p40) (wrL s.f_blkStrong v2 p51) s.f_head s.f_next s.f_kinds s.f_values s.f_blockSize s.f_basisLen s.f_targetLen s.f_literalLen s.f_outLen s.f_blocks s.f_ops s.f_shortBlock s.f_winPos s.f_winA s.f_winB s.f_phaseNow) v1 (v2 + (1 : Int32))) else none)) else none)) else none)
set_option maxRecDepth 100000 in
theorem ev_j_sign_b98 (R : AHeap) (scr : List Int32) (go_ : Q → Int32 → Int32 → Option (Q)) (hrec : ∀ (s : Q) (v1 v2 : Int32) {res : Q} {out : Option Value × AHeap}, go_ s v1 v2 = some res → j_sign_l58_K R scr res out → Eval own_P 11 58 [some (.ref 1), some (.int v1), some (.int v2), none, none] [] (W1 scr s R) out) (s : Q) (v1 v2 : Int32) (v3 v4 : Int32) {res : Q} {out : Option Value × AHeap} (h : j_sign_b98 go_ s v1 v2 v3 v4 = some res) (hk : j_sign_l58_K R scr res out) : Eval own_P 11 98 [some (.ref 1), some (.int v1), some (.int v2), some (.int v3), some (.int v4)] [] (W1 scr s R) out := by
  rw [j_sign_b98] at h
  refine Eval.aload_n rfl rfl ?_
  refine Eval.getfield rfl rfl own_g1_blkLen ?_
  refine Eval.iload_n rfl rfl ?_
  refine Eval.iload rfl rfl ?_
  obtain ⟨hb31, h⟩ := ite_some h
  refine Eval.iastore rfl rfl own_a1_blkLen hb31 own_s1_blkLen ?_
  refine Eval.aload_n rfl rfl ?_
  refine Eval.getfield rfl rfl own_g1_blkWeak ?_
  refine Eval.iload_n rfl rfl ?_
  refine Eval.aload_n rfl rfl ?_
  refine Eval.iload_n rfl rfl ?_
  refine Eval.iload rfl rfl ?_
  obtain ⟨p40, hq41, h⟩ := bind_some h
  refine Eval.callI (rest := [.int v2, .ref 7]) (x := p40) (H1 := (C1 scr s.f_basis s.f_target s.f_literal s.f_out (wr s.f_blkLen v2 v4) s.f_blkWeak s.f_blkStrong s.f_head s.f_next s.f_kinds s.f_values s.f_blockSize s.f_basisLen s.f_targetLen s.f_literalLen s.f_outLen s.f_blocks s.f_ops s.f_shortBlock s.f_winPos s.f_winA s.f_winB s.f_phaseNow R)) rfl rfl (Eval.heap own_mk1 (ev_j_weakOfBasis R scr (Q.mk s.f_basis s.f_target s.f_literal s.f_out (wr s.f_blkLen v2 v4) s.f_blkWeak s.f_blkStrong s.f_head s.f_next s.f_kinds s.f_values s.f_blockSize s.f_basisLen s.f_targetLen s.f_literalLen s.f_outLen s.f_blocks s.f_ops s.f_shortBlock s.f_winPos s.f_winA s.f_winB s.f_phaseNow) v3 v4 hq41 (congrArg (Prod.mk _) own_mk1.symm))) ?_
  obtain ⟨hb42, h⟩ := ite_some h
  refine Eval.iastore rfl rfl own_a1_blkWeak hb42 own_s1_blkWeak ?_
  refine Eval.aload_n rfl rfl ?_
  refine Eval.getfield rfl rfl own_g1_blkStrong ?_
  refine Eval.iload_n rfl rfl ?_
  refine Eval.aload_n rfl rfl ?_
  refine Eval.iload_n rfl rfl ?_
  refine Eval.iload rfl rfl ?_
  obtain ⟨p51, hq52, h⟩ := bind_some h
  refine Eval.callJ (rest := [.int v2, .ref 8]) (x := p51) (H1 := (C1 scr s.f_basis s.f_target s.f_literal s.f_out (wr s.f_blkLen v2 v4) (wr s.f_blkWeak v2 p40) s.f_blkStrong s.f_head s.f_next s.f_kinds s.f_values s.f_blockSize s.f_basisLen s.f_targetLen s.f_literalLen s.f_outLen s.f_blocks s.f_ops s.f_shortBlock s.f_winPos s.f_winA s.f_winB s.f_phaseNow R)) rfl rfl (Eval.heap own_mk1 (ev_j_strongOfBasis R scr (Q.mk s.f_basis s.f_target s.f_literal s.f_out (wr s.f_blkLen v2 v4) (wr s.f_blkWeak v2 p40) s.f_blkStrong s.f_head s.f_next s.f_kinds s.f_values s.f_blockSize s.f_basisLen s.f_targetLen s.f_literalLen s.f_outLen s.f_blocks s.f_ops s.f_shortBlock s.f_winPos s.f_winA s.f_winB s.f_phaseNow) v3 v4 hq52 (congrArg (Prod.mk _) own_mk1.symm))) ?_
  obtain ⟨hb53, h⟩ := ite_some h
  refine Eval.lastore rfl rfl own_a1_blkStrong hb53 own_s1_blkStrong ?_
  refine Eval.iinc (L' := [some (.ref 1), some (.int v1), some (.int (v2 + (1 : Int32))), some (.int v3), some (.int v4)]) rfl rfl rfl ?_
  refine Eval.goto (t := 58) rfl rfl ?_
  refine Eval.heap own_mk1 ?_
  refine Eval.weak (lw_mk 7 _) ?_
  exact hrec _ _ _ h hk
def j_sign_l58 : Nat → Q → Int32 → Int32 → Option (Q)
  | 0, _, _, _ => none
  | n + 1, s, v1, v2 => (if v2 < s.f_blocks then (j_sign_b98 (j_sign_l58 n) s v1 v2 (v2 * v1) (if v2 = (s.f_blocks - (1 : Int32)) then (s.f_basisLen - ((s.f_blocks - (1 : Int32)) * v1)) else v1)) else some (s))
set_option maxRecDepth 100000 in
theorem ev_j_sign_l58 (R : AHeap) (scr : List Int32) : ∀ (n : Nat) (s : Q) (v1 v2 : Int32) {res : Q} {out : Option Value × AHeap}, j_sign_l58 n s v1 v2 = some res → j_sign_l58_K R scr res out → Eval own_P 11 58 [some (.ref 1), some (.int v1), some (.int v2), none, none] [] (W1 scr s R) out := by
  intro n
  induction n with
  | zero => intro _ _ _ res out h hk; cases h
  | succ n hrec =>
    intro s v1 v2 res out h hk
    rw [j_sign_l58] at h
    refine Eval.iload_n rfl rfl ?_
    refine Eval.aload_n rfl rfl ?_
    refine Eval.getfield rfl rfl own_g1_blocks ?_
    by_cases hc28 : v2 < s.f_blocks
    · rw [if_pos hc28] at h
      refine Eval.icmpF rfl (tlt hc28).2.1 ?_
      refine Eval.iload_n rfl rfl ?_
      refine Eval.iload_n rfl rfl ?_
      refine Eval.imul rfl ?_
      refine Eval.istore_n (L' := [some (.ref 1), some (.int v1), some (.int v2), some (.int (v2 * v1)), none]) rfl rfl ?_
      refine Eval.iload_n rfl rfl ?_
      refine Eval.istore (L' := [some (.ref 1), some (.int v1), some (.int v2), some (.int (v2 * v1)), some (.int v1)]) rfl rfl ?_
      refine Eval.iload_n rfl rfl ?_
      refine Eval.aload_n rfl rfl ?_
      refine Eval.getfield rfl rfl own_g1_blocks ?_
      refine Eval.iconst (x := (1 : Int32)) rfl rfl ?_
      refine Eval.isub rfl ?_
      suffices hJ30 : Eval own_P 11 98 [some (.ref 1), some (.int v1), some (.int v2), some (.int (v2 * v1)), some (.int (if v2 = (s.f_blocks - (1 : Int32)) then (s.f_basisLen - ((s.f_blocks - (1 : Int32)) * v1)) else v1))] [] (W1 scr s R) out by
        by_cases hc29 : v2 = (s.f_blocks - (1 : Int32))
        · refine Eval.icmpF rfl (teq hc29).2 ?_
          refine Eval.aload_n rfl rfl ?_
          refine Eval.getfield rfl rfl own_g1_basisLen ?_
          refine Eval.aload_n rfl rfl ?_
          refine Eval.getfield rfl rfl own_g1_blocks ?_
          refine Eval.iconst (x := (1 : Int32)) rfl rfl ?_
          refine Eval.isub rfl ?_
          refine Eval.iload_n rfl rfl ?_
          refine Eval.imul rfl ?_
          refine Eval.isub rfl ?_
          refine Eval.istore (L' := [some (.ref 1), some (.int v1), some (.int v2), some (.int (v2 * v1)), some (.int (s.f_basisLen - ((s.f_blocks - (1 : Int32)) * v1)))]) rfl rfl ?_
          exact (Eval.conv hJ30 (by simp only [if_pos hc29] <;> rfl) rfl)
        · refine Eval.icmpT (t := 98) rfl rfl (feq hc29).2 ?_
          exact (Eval.conv hJ30 (by simp only [if_neg hc29] <;> rfl) rfl)
      exact ev_j_sign_b98 R scr _ hrec s v1 v2 (v2 * v1) (if v2 = (s.f_blocks - (1 : Int32)) then (s.f_basisLen - ((s.f_blocks - (1 : Int32)) * v1)) else v1) h hk
    · rw [if_neg hc28] at h
      refine Eval.icmpT (t := 138) rfl rfl (flt hc28).2.1 ?_
      cases h
      refine Eval.weak (lw_mk 1 _) ?_
      exact hk
abbrev j_buildIndex_l2_K (R : AHeap) (scr : List Int32) (res : Q) (out : Option Value × AHeap) : Prop := Eval own_P 12 22 [some (.ref 1), none, none] [] (W1 scr res R) out

abbrev j_buildIndex_l2_N (s res : Q) : Prop := Q.len res = Q.len s
def j_buildIndex_l2 : Nat → Q → Int32 → Option (Q)
  | 0, _, _ => none
  | n + 1, s, v1 => (if v1 < (256 : Int32) then (if inb s.f_head.length v1 = true then (j_buildIndex_l2 n (Q.mk s.f_basis s.f_target s.f_literal s.f_out s.f_blkLen s.f_blkWeak s.f_blkStrong (wr s.f_head v1 (-1 : Int32)) s.f_next s.f_kinds s.f_values s.f_blockSize s.f_basisLen s.f_targetLen s.f_literalLen s.f_outLen s.f_blocks s.f_ops s.f_shortBlock s.f_winPos s.f_winA s.f_winB s.f_phaseNow) (v1 + (1 : Int32))) else none) else some (s))
set_option maxRecDepth 100000 in
theorem ev_j_buildIndex_l2 (R : AHeap) (scr : List Int32) : ∀ (n : Nat) (s : Q) (v1 : Int32) {res : Q} {out : Option Value × AHeap}, j_buildIndex_l2 n s v1 = some res → j_buildIndex_l2_K R scr res out → Eval own_P 12 2 [some (.ref 1), some (.int v1), none] [] (W1 scr s R) out := by
  intro n
  induction n with
  | zero => intro _ _ res out h hk; cases h
  | succ n hrec =>
    intro s v1 res out h hk
    rw [j_buildIndex_l2] at h
    refine Eval.iload_n rfl rfl ?_
    refine Eval.sipush (x := (256 : Int32)) rfl rfl ?_
    by_cases hc57 : v1 < (256 : Int32)
    · rw [if_pos hc57] at h
      refine Eval.icmpF rfl (tlt hc57).2.1 ?_
      refine Eval.aload_n rfl rfl ?_
      refine Eval.getfield rfl rfl own_g1_head ?_
      refine Eval.iload_n rfl rfl ?_
      refine Eval.iconst (x := (-1 : Int32)) rfl rfl ?_
      obtain ⟨hb58, h⟩ := ite_some h
      refine Eval.iastore rfl rfl own_a1_head hb58 own_s1_head ?_
      refine Eval.iinc (L' := [some (.ref 1), some (.int (v1 + (1 : Int32))), none]) rfl rfl rfl ?_
      refine Eval.goto (t := 2) rfl rfl ?_
      refine Eval.heap own_mk1 ?_
      exact hrec _ _ h hk
    · rw [if_neg hc57] at h
      refine Eval.icmpT (t := 22) rfl rfl (flt hc57).2.1 ?_
      cases h
      refine Eval.weak (lw_mk 1 _) ?_
      exact hk
abbrev j_buildIndex_l34_K (R : AHeap) (scr : List Int32) (res : Q) (out : Option Value × AHeap) : Prop := Eval own_P 12 102 [none, none, none] [] (W1 scr res R) out

abbrev j_buildIndex_l34_N (s res : Q) : Prop := Q.len res = Q.len s
def j_bucketOf (v1 : Int32) : Int32 := (((((v1 ^^^ (ush v1 (8 : Int32))) ^^^ (ush v1 (16 : Int32))) ^^^ (ush v1 (24 : Int32))) &&& (255 : Int32)))
set_option maxRecDepth 100000 in
theorem ev_j_bucketOf (H : AHeap) (a : Nat) (v1 : Int32) {res : Int32} {out : Option Value × AHeap} (h : j_bucketOf v1 = res) (hk : out = (some (.int res), H)) : Eval own_P 29 0 [some (.ref a), some (.int v1), none] [] H out := by
  rw [j_bucketOf] at h
  refine Eval.iload_n rfl rfl ?_
  refine Eval.iload_n rfl rfl ?_
  refine Eval.bipush (x := (8 : Int32)) rfl rfl ?_
  refine Eval.iushr rfl ?_
  refine Eval.ixor rfl ?_
  refine Eval.iload_n rfl rfl ?_
  refine Eval.bipush (x := (16 : Int32)) rfl rfl ?_
  refine Eval.iushr rfl ?_
  refine Eval.ixor rfl ?_
  refine Eval.iload_n rfl rfl ?_
  refine Eval.bipush (x := (24 : Int32)) rfl rfl ?_
  refine Eval.iushr rfl ?_
  refine Eval.ixor rfl ?_
  refine Eval.istore_n (L' := [some (.ref a), some (.int v1), some (.int (((v1 ^^^ (ush v1 (8 : Int32))) ^^^ (ush v1 (16 : Int32))) ^^^ (ush v1 (24 : Int32))))]) rfl rfl ?_
  refine Eval.iload_n rfl rfl ?_
  refine Eval.sipush (x := (255 : Int32)) rfl rfl ?_
  refine Eval.iand rfl ?_
  subst h
  subst hk
  exact Eval.ret rfl rfl
def j_buildIndex_b96 (go_ : Q → Int32 → Option (Q)) (s : Q) (v1 : Int32) : Option (Q) := (go_ s (v1 + (-1 : Int32)))
set_option maxRecDepth 100000 in
theorem ev_j_buildIndex_b96 (R : AHeap) (scr : List Int32) (go_ : Q → Int32 → Option (Q)) (hrec : ∀ (s : Q) (v1 : Int32) {res : Q} {out : Option Value × AHeap}, go_ s v1 = some res → j_buildIndex_l34_K R scr res out → Eval own_P 12 34 [some (.ref 1), some (.int v1), none] [] (W1 scr s R) out) (s : Q) (v1 : Int32) {res : Q} {out : Option Value × AHeap} (h : j_buildIndex_b96 go_ s v1 = some res) (hk : j_buildIndex_l34_K R scr res out) : Eval own_P 12 96 [some (.ref 1), some (.int v1), none] [] (W1 scr s R) out := by
  rw [j_buildIndex_b96] at h
  refine Eval.iinc (L' := [some (.ref 1), some (.int (v1 + (-1 : Int32))), none]) rfl rfl rfl ?_
  refine Eval.goto (t := 34) rfl rfl ?_
  exact hrec _ _ h hk
def j_buildIndex_l34 : Nat → Q → Int32 → Option (Q)
  | 0, _, _ => none
  | n + 1, s, v1 => (if v1 < (0 : Int32) then some (s) else (if inb s.f_blkLen.length v1 = true then (if (rd s.f_blkLen v1) = s.f_blockSize then (if inb s.f_blkWeak.length v1 = true then (if inb s.f_head.length (j_bucketOf (rd s.f_blkWeak v1)) = true then (if inb s.f_next.length v1 = true then (if inb s.f_head.length (j_bucketOf (rd s.f_blkWeak v1)) = true then (j_buildIndex_b96 (j_buildIndex_l34 n) (Q.mk s.f_basis s.f_target s.f_literal s.f_out s.f_blkLen s.f_blkWeak s.f_blkStrong (wr s.f_head (j_bucketOf (rd s.f_blkWeak v1)) v1) (wr s.f_next v1 (rd s.f_head (j_bucketOf (rd s.f_blkWeak v1)))) s.f_kinds s.f_values s.f_blockSize s.f_basisLen s.f_targetLen s.f_literalLen s.f_outLen s.f_blocks s.f_ops s.f_shortBlock s.f_winPos s.f_winA s.f_winB s.f_phaseNow) v1) else none) else none) else none) else none) else (if inb s.f_next.length v1 = true then (j_buildIndex_b96 (j_buildIndex_l34 n) (Q.mk s.f_basis s.f_target s.f_literal s.f_out s.f_blkLen s.f_blkWeak s.f_blkStrong s.f_head (wr s.f_next v1 (-1 : Int32)) s.f_kinds s.f_values s.f_blockSize s.f_basisLen s.f_targetLen s.f_literalLen s.f_outLen s.f_blocks s.f_ops v1 s.f_winPos s.f_winA s.f_winB s.f_phaseNow) v1) else none)) else none))
set_option maxRecDepth 100000 in
theorem ev_j_buildIndex_l34 (R : AHeap) (scr : List Int32) : ∀ (n : Nat) (s : Q) (v1 : Int32) {res : Q} {out : Option Value × AHeap}, j_buildIndex_l34 n s v1 = some res → j_buildIndex_l34_K R scr res out → Eval own_P 12 34 [some (.ref 1), some (.int v1), none] [] (W1 scr s R) out := by
  intro n
  induction n with
  | zero => intro _ _ res out h hk; cases h
  | succ n hrec =>
    intro s v1 res out h hk
    rw [j_buildIndex_l34] at h
    refine Eval.iload_n rfl rfl ?_
    by_cases hc62 : v1 < (0 : Int32)
    · rw [if_pos hc62] at h
      refine Eval.ifT (t := 102) rfl rfl (tlt hc62).1 ?_
      cases h
      refine Eval.weak (lw_mk 0 _) ?_
      exact hk
    · rw [if_neg hc62] at h
      refine Eval.ifF rfl (flt hc62).1 ?_
      refine Eval.aload_n rfl rfl ?_
      refine Eval.getfield rfl rfl own_g1_blkLen ?_
      refine Eval.iload_n rfl rfl ?_
      obtain ⟨hb63, h⟩ := ite_some h
      refine Eval.iaload rfl own_a1_blkLen hb63 ?_
      refine Eval.aload_n rfl rfl ?_
      refine Eval.getfield rfl rfl own_g1_blockSize ?_
      by_cases hc65 : (rd s.f_blkLen v1) = s.f_blockSize
      · rw [if_pos hc65] at h
        refine Eval.icmpF rfl (teq hc65).2 ?_
        refine Eval.aload_n rfl rfl ?_
        refine Eval.aload_n rfl rfl ?_
        refine Eval.getfield rfl rfl own_g1_blkWeak ?_
        refine Eval.iload_n rfl rfl ?_
        obtain ⟨hb66, h⟩ := ite_some h
        refine Eval.iaload rfl own_a1_blkWeak hb66 ?_
        refine Eval.callI (rest := []) (x := (j_bucketOf (rd s.f_blkWeak v1))) (H1 := (W1 scr s R)) rfl rfl (ev_j_bucketOf (W1 scr s R) 1 (rd s.f_blkWeak v1) rfl rfl) ?_
        refine Eval.istore_n (L' := [some (.ref 1), some (.int v1), some (.int (j_bucketOf (rd s.f_blkWeak v1)))]) rfl rfl ?_
        refine Eval.aload_n rfl rfl ?_
        refine Eval.getfield rfl rfl own_g1_next ?_
        refine Eval.iload_n rfl rfl ?_
        refine Eval.aload_n rfl rfl ?_
        refine Eval.getfield rfl rfl own_g1_head ?_
        refine Eval.iload_n rfl rfl ?_
        obtain ⟨hb67, h⟩ := ite_some h
        refine Eval.iaload rfl own_a1_head hb67 ?_
        obtain ⟨hb68, h⟩ := ite_some h
        refine Eval.iastore rfl rfl own_a1_next hb68 own_s1_next ?_
        refine Eval.aload_n rfl rfl ?_
        refine Eval.getfield rfl rfl own_g1_head ?_
        refine Eval.iload_n rfl rfl ?_
        refine Eval.iload_n rfl rfl ?_
        obtain ⟨hb69, h⟩ := ite_some h
        refine Eval.iastore rfl rfl own_a1_head hb69 own_s1_head ?_
        refine Eval.goto (t := 96) rfl rfl ?_
        refine Eval.heap own_mk1 ?_
        refine Eval.weak (lw_mk 3 _) ?_
        exact ev_j_buildIndex_b96 R scr _ hrec (Q.mk s.f_basis s.f_target s.f_literal s.f_out s.f_blkLen s.f_blkWeak s.f_blkStrong (wr s.f_head (j_bucketOf (rd s.f_blkWeak v1)) v1) (wr s.f_next v1 (rd s.f_head (j_bucketOf (rd s.f_blkWeak v1)))) s.f_kinds s.f_values s.f_blockSize s.f_basisLen s.f_targetLen s.f_literalLen s.f_outLen s.f_blocks s.f_ops s.f_shortBlock s.f_winPos s.f_winA s.f_winB s.f_phaseNow) v1 h hk
      · rw [if_neg hc65] at h
        refine Eval.icmpT (t := 84) rfl rfl (feq hc65).2 ?_
        refine Eval.aload_n rfl rfl ?_
        refine Eval.getfield rfl rfl own_g1_next ?_
        refine Eval.iload_n rfl rfl ?_
        refine Eval.iconst (x := (-1 : Int32)) rfl rfl ?_
        obtain ⟨hb70, h⟩ := ite_some h
        refine Eval.iastore rfl rfl own_a1_next hb70 own_s1_next ?_
        refine Eval.aload_n rfl rfl ?_
        refine Eval.iload_n rfl rfl ?_
        refine Eval.putfield rfl rfl own_p1_shortBlock ?_
        refine Eval.heap own_mk1 ?_
        exact ev_j_buildIndex_b96 R scr _ hrec (Q.mk s.f_basis s.f_target s.f_literal s.f_out s.f_blkLen s.f_blkWeak s.f_blkStrong s.f_head (wr s.f_next v1 (-1 : Int32)) s.f_kinds s.f_values s.f_blockSize s.f_basisLen s.f_targetLen s.f_literalLen s.f_outLen s.f_blocks s.f_ops v1 s.f_winPos s.f_winA s.f_winB s.f_phaseNow) v1 h hk
def j_buildIndex (s : Q) : Option (Q) := ((j_buildIndex_l2 3000 s (0 : Int32)).bind fun p59 => ((j_buildIndex_l34 3000 (Q.mk p59.f_basis p59.f_target p59.f_literal p59.f_out p59.f_blkLen p59.f_blkWeak p59.f_blkStrong p59.f_head p59.f_next p59.f_kinds p59.f_values p59.f_blockSize p59.f_basisLen p59.f_targetLen p59.f_literalLen p59.f_outLen p59.f_blocks p59.f_ops (-1 : Int32) p59.f_winPos p59.f_winA p59.f_winB p59.f_phaseNow) (p59.f_blocks - (1 : Int32))).bind fun p71 => some (p71)))
set_option maxRecDepth 100000 in
theorem ev_j_buildIndex (R : AHeap) (scr : List Int32) (s : Q) {res : Q} {out : Option Value × AHeap} (h : j_buildIndex s = some res) (hk : out = (none, (W1 scr res R))) : Eval own_P 12 0 [some (.ref 1), none, none] [] (W1 scr s R) out := by
  rw [j_buildIndex] at h
  refine Eval.iconst (x := (0 : Int32)) rfl rfl ?_
  refine Eval.istore_n (L' := [some (.ref 1), some (.int (0 : Int32)), none]) rfl rfl ?_
  obtain ⟨p59, hq60, h⟩ := bind_some h
  refine ev_j_buildIndex_l2 R scr _ s (0 : Int32) hq60 ?_
  show Eval own_P 12 22 [some (.ref 1), none, none] [] (W1 scr p59 R) out
  refine Eval.aload_n rfl rfl ?_
  refine Eval.iconst (x := (-1 : Int32)) rfl rfl ?_
  refine Eval.putfield rfl rfl own_p1_shortBlock ?_
  refine Eval.aload_n rfl rfl ?_
  refine Eval.getfield rfl rfl own_g1_blocks ?_
  refine Eval.iconst (x := (1 : Int32)) rfl rfl ?_
  refine Eval.isub rfl ?_
  refine Eval.istore_n (L' := [some (.ref 1), some (.int (p59.f_blocks - (1 : Int32))), none]) rfl rfl ?_
  refine Eval.heap own_mk1 ?_
  obtain ⟨p71, hq72, h⟩ := bind_some h
  refine ev_j_buildIndex_l34 R scr _ (Q.mk p59.f_basis p59.f_target p59.f_literal p59.f_out p59.f_blkLen p59.f_blkWeak p59.f_blkStrong p59.f_head p59.f_next p59.f_kinds p59.f_values p59.f_blockSize p59.f_basisLen p59.f_targetLen p59.f_literalLen p59.f_outLen p59.f_blocks p59.f_ops (-1 : Int32) p59.f_winPos p59.f_winA p59.f_winB p59.f_phaseNow) (p59.f_blocks - (1 : Int32)) hq72 ?_
  show Eval own_P 12 102 [none, none, none] [] (W1 scr p71 R) out
  cases h
  subst hk
  exact Eval.ret rfl rfl
def j_sign_b56 (s : Q) (v1 : Int32) : Option (Int32 × Q) := ((j_sign_l58 3000 s v1 (0 : Int32)).bind fun p54 => ((j_buildIndex p54).bind fun p74 => some (p74.f_blocks, (Q.mk p74.f_basis p74.f_target p74.f_literal p74.f_out p74.f_blkLen p74.f_blkWeak p74.f_blkStrong p74.f_head p74.f_next p74.f_kinds p74.f_values p74.f_blockSize p74.f_basisLen p74.f_targetLen p74.f_literalLen p74.f_outLen p74.f_blocks p74.f_ops p74.f_shortBlock p74.f_winPos p74.f_winA p74.f_winB (1 : Int32)))))
set_option maxRecDepth 100000 in
theorem ev_j_sign_b56 (R : AHeap) (scr : List Int32) (s : Q) (v1 : Int32) {res : Int32 × Q} {out : Option Value × AHeap} (h : j_sign_b56 s v1 = some res) (hk : out = (some (.int res.1), (W1 scr res.2 R))) : Eval own_P 11 56 [some (.ref 1), some (.int v1), none, none, none] [] (W1 scr s R) out := by
  rw [j_sign_b56] at h
  refine Eval.iconst (x := (0 : Int32)) rfl rfl ?_
  refine Eval.istore_n (L' := [some (.ref 1), some (.int v1), some (.int (0 : Int32)), none, none]) rfl rfl ?_
  obtain ⟨p54, hq55, h⟩ := bind_some h
  refine ev_j_sign_l58 R scr _ s v1 (0 : Int32) hq55 ?_
  show Eval own_P 11 138 [some (.ref 1), none, none, none, none] [] (W1 scr p54 R) out
  refine Eval.aload_n rfl rfl ?_
  obtain ⟨p74, hq75, h⟩ := bind_some h
  refine Eval.callN (rest := []) (H1 := (W1 scr p74 R)) rfl rfl (ev_j_buildIndex R scr p54 hq75 rfl) ?_
  refine Eval.aload_n rfl rfl ?_
  refine Eval.iconst (x := (1 : Int32)) rfl rfl ?_
  refine Eval.putfield rfl rfl own_p1_phaseNow ?_
  refine Eval.aload_n rfl rfl ?_
  refine Eval.getfield rfl rfl own_g1_blocks ?_
  cases h
  subst hk
  exact Eval.retH own_mk1 rfl rfl
def j_sign_b36 (s : Q) (v1 w1 : Int32) : Option (Int32 × Q) := (if (128 : Int32) < w1 then (j_sign_b56 (Q.mk s.f_basis s.f_target s.f_literal s.f_out s.f_blkLen s.f_blkWeak s.f_blkStrong s.f_head s.f_next s.f_kinds s.f_values s.f_blockSize s.f_basisLen s.f_targetLen s.f_literalLen s.f_outLen (128 : Int32) s.f_ops s.f_shortBlock s.f_winPos s.f_winA s.f_winB s.f_phaseNow) v1) else (j_sign_b56 (Q.mk s.f_basis s.f_target s.f_literal s.f_out s.f_blkLen s.f_blkWeak s.f_blkStrong s.f_head s.f_next s.f_kinds s.f_values s.f_blockSize s.f_basisLen s.f_targetLen s.f_literalLen s.f_outLen w1 s.f_ops s.f_shortBlock s.f_winPos s.f_winA s.f_winB s.f_phaseNow) v1))
set_option maxRecDepth 100000 in
theorem ev_j_sign_b36 (R : AHeap) (scr : List Int32) (s : Q) (v1 w1 : Int32) {res : Int32 × Q} {out : Option Value × AHeap} (h : j_sign_b36 s v1 w1 = some res) (hk : out = (some (.int res.1), (W1 scr res.2 R))) : Eval own_P 11 36 [some (.ref 1), some (.int v1), none, none, none] [.int w1, .ref 1] (W1 scr s R) out := by
  rw [j_sign_b36] at h
  refine Eval.putfield rfl rfl own_p1_blocks ?_
  refine Eval.aload_n rfl rfl ?_
  refine Eval.getfield rfl rfl own_g1_blocks ?_
  refine Eval.sipush (x := (128 : Int32)) rfl rfl ?_
  by_cases hc27 : (128 : Int32) < w1
  · rw [if_pos hc27] at h
    refine Eval.icmpF rfl (tlt hc27).2.2.2 ?_
    refine Eval.aload_n rfl rfl ?_
    refine Eval.sipush (x := (128 : Int32)) rfl rfl ?_
    refine Eval.putfield rfl rfl own_p1_blocks ?_
    refine Eval.heap own_mk1 ?_
    exact ev_j_sign_b56 R scr (Q.mk s.f_basis s.f_target s.f_literal s.f_out s.f_blkLen s.f_blkWeak s.f_blkStrong s.f_head s.f_next s.f_kinds s.f_values s.f_blockSize s.f_basisLen s.f_targetLen s.f_literalLen s.f_outLen (128 : Int32) s.f_ops s.f_shortBlock s.f_winPos s.f_winA s.f_winB s.f_phaseNow) v1 h hk
  · rw [if_neg hc27] at h
    refine Eval.icmpT (t := 56) rfl rfl (flt hc27).2.2.2 ?_
    refine Eval.heap own_mk1 ?_
    exact ev_j_sign_b56 R scr (Q.mk s.f_basis s.f_target s.f_literal s.f_out s.f_blkLen s.f_blkWeak s.f_blkStrong s.f_head s.f_next s.f_kinds s.f_values s.f_blockSize s.f_basisLen s.f_targetLen s.f_literalLen s.f_outLen w1 s.f_ops s.f_shortBlock s.f_winPos s.f_winA s.f_winB s.f_phaseNow) v1 h hk
def j_sign (s : Q) : Option (Int32 × Q) := (if s.f_phaseNow = (0 : Int32) then (if s.f_basisLen = (0 : Int32) then (j_sign_b36 s s.f_blockSize (0 : Int32)) else (if s.f_blockSize = (0 : Int32) then none else (j_sign_b36 s s.f_blockSize (((s.f_basisLen + s.f_blockSize) - (1 : Int32)) / s.f_blockSize)))) else some ((-1 : Int32), s))
set_option maxRecDepth 100000 in
theorem ev_j_sign (R : AHeap) (scr : List Int32) (s : Q) {res : Int32 × Q} {out : Option Value × AHeap} (h : j_sign s = some res) (hk : out = (some (.int res.1), (W1 scr res.2 R))) : Eval own_P 11 0 [some (.ref 1), none, none, none, none] [] (W1 scr s R) out := by
  rw [j_sign] at h
  refine Eval.aload_n rfl rfl ?_
  refine Eval.getfield rfl rfl own_g1_phaseNow ?_
  by_cases hc23 : s.f_phaseNow = (0 : Int32)
  · rw [if_pos hc23] at h
    refine Eval.ifT (t := 9) rfl rfl (teq hc23).1 ?_
    refine Eval.aload_n rfl rfl ?_
    refine Eval.getfield rfl rfl own_g1_blockSize ?_
    refine Eval.istore_n (L' := [some (.ref 1), some (.int s.f_blockSize), none, none, none]) rfl rfl ?_
    refine Eval.aload_n rfl rfl ?_
    refine Eval.aload_n rfl rfl ?_
    refine Eval.getfield rfl rfl own_g1_basisLen ?_
    by_cases hc25 : s.f_basisLen = (0 : Int32)
    · rw [if_pos hc25] at h
      refine Eval.ifF rfl (teq hc25).2 ?_
      refine Eval.iconst (x := (0 : Int32)) rfl rfl ?_
      refine Eval.goto (t := 36) rfl rfl ?_
      exact ev_j_sign_b36 R scr s s.f_blockSize (0 : Int32) h hk
    · rw [if_neg hc25] at h
      refine Eval.ifT (t := 26) rfl rfl (feq hc25).2 ?_
      refine Eval.aload_n rfl rfl ?_
      refine Eval.getfield rfl rfl own_g1_basisLen ?_
      refine Eval.iload_n rfl rfl ?_
      refine Eval.iadd rfl ?_
      refine Eval.iconst (x := (1 : Int32)) rfl rfl ?_
      refine Eval.isub rfl ?_
      refine Eval.iload_n rfl rfl ?_
      obtain ⟨hz77, h⟩ := ite_none h
      refine Eval.idiv rfl hz77 ?_
      exact ev_j_sign_b36 R scr s s.f_blockSize (((s.f_basisLen + s.f_blockSize) - (1 : Int32)) / s.f_blockSize) h hk
  · rw [if_neg hc23] at h
    refine Eval.ifF rfl (feq hc23).1 ?_
    refine Eval.iconst (x := (-1 : Int32)) rfl rfl ?_
    cases h
    subst hk
    exact Eval.ret rfl rfl
def j_phase (s : Q) : Int32 := (s.f_phaseNow)
set_option maxRecDepth 100000 in
theorem ev_j_phase (R : AHeap) (scr : List Int32) (s : Q) {res : Int32} {out : Option Value × AHeap} (h : j_phase s = res) (hk : out = (some (.int res), (W1 scr s R))) : Eval own_P 5 0 [some (.ref 1)] [] (W1 scr s R) out := by
  rw [j_phase] at h
  refine Eval.aload_n rfl rfl ?_
  refine Eval.getfield rfl rfl own_g1_phaseNow ?_
  subst h
  subst hk
  exact Eval.ret rfl rfl
def j_length (s : Q) (v1 : Int32) : Int32 := (if v1 = (0 : Int32) then (s.f_basisLen) else (if v1 = (1 : Int32) then (s.f_targetLen) else (if v1 = (2 : Int32) then (s.f_literalLen) else (if v1 = (3 : Int32) then (s.f_outLen) else ((-1 : Int32))))))
set_option maxRecDepth 100000 in
theorem ev_j_length (R : AHeap) (scr : List Int32) (s : Q) (v1 : Int32) {res : Int32} {out : Option Value × AHeap} (h : j_length s v1 = res) (hk : out = (some (.int res), (W1 scr s R))) : Eval own_P 6 0 [some (.ref 1), some (.int v1)] [] (W1 scr s R) out := by
  rw [j_length] at h
  refine Eval.iload_n rfl rfl ?_
  by_cases hc84 : v1 = (0 : Int32)
  · rw [if_pos hc84] at h
    refine Eval.ifF rfl (teq hc84).2 ?_
    refine Eval.aload_n rfl rfl ?_
    refine Eval.getfield rfl rfl own_g1_basisLen ?_
    subst h
    subst hk
    exact Eval.ret rfl rfl
  · rw [if_neg hc84] at h
    refine Eval.ifT (t := 9) rfl rfl (feq hc84).2 ?_
    refine Eval.iload_n rfl rfl ?_
    refine Eval.iconst (x := (1 : Int32)) rfl rfl ?_
    by_cases hc85 : v1 = (1 : Int32)
    · rw [if_pos hc85] at h
      refine Eval.icmpF rfl (teq hc85).2 ?_
      refine Eval.aload_n rfl rfl ?_
      refine Eval.getfield rfl rfl own_g1_targetLen ?_
      subst h
      subst hk
      exact Eval.ret rfl rfl
    · rw [if_neg hc85] at h
      refine Eval.icmpT (t := 19) rfl rfl (feq hc85).2 ?_
      refine Eval.iload_n rfl rfl ?_
      refine Eval.iconst (x := (2 : Int32)) rfl rfl ?_
      by_cases hc86 : v1 = (2 : Int32)
      · rw [if_pos hc86] at h
        refine Eval.icmpF rfl (teq hc86).2 ?_
        refine Eval.aload_n rfl rfl ?_
        refine Eval.getfield rfl rfl own_g1_literalLen ?_
        subst h
        subst hk
        exact Eval.ret rfl rfl
      · rw [if_neg hc86] at h
        refine Eval.icmpT (t := 29) rfl rfl (feq hc86).2 ?_
        refine Eval.iload_n rfl rfl ?_
        refine Eval.iconst (x := (3 : Int32)) rfl rfl ?_
        by_cases hc87 : v1 = (3 : Int32)
        · rw [if_pos hc87] at h
          refine Eval.icmpF rfl (teq hc87).2 ?_
          refine Eval.aload_n rfl rfl ?_
          refine Eval.getfield rfl rfl own_g1_outLen ?_
          subst h
          subst hk
          exact Eval.ret rfl rfl
        · rw [if_neg hc87] at h
          refine Eval.icmpT (t := 39) rfl rfl (feq hc87).2 ?_
          refine Eval.iconst (x := (-1 : Int32)) rfl rfl ?_
          subst h
          subst hk
          exact Eval.ret rfl rfl
def j_blockCount (s : Q) : Int32 := (s.f_blocks)
set_option maxRecDepth 100000 in
theorem ev_j_blockCount (R : AHeap) (scr : List Int32) (s : Q) {res : Int32} {out : Option Value × AHeap} (h : j_blockCount s = res) (hk : out = (some (.int res), (W1 scr s R))) : Eval own_P 7 0 [some (.ref 1)] [] (W1 scr s R) out := by
  rw [j_blockCount] at h
  refine Eval.aload_n rfl rfl ?_
  refine Eval.getfield rfl rfl own_g1_blocks ?_
  subst h
  subst hk
  exact Eval.ret rfl rfl
def j_blockLength (s : Q) (v1 : Int32) : Option (Int32) := (if v1 < (0 : Int32) then some ((-1 : Int32)) else (if v1 < s.f_blocks then (if inb s.f_blkLen.length v1 = true then some ((rd s.f_blkLen v1)) else none) else some ((-1 : Int32))))
set_option maxRecDepth 100000 in
theorem ev_j_blockLength (R : AHeap) (scr : List Int32) (s : Q) (v1 : Int32) {res : Int32} {out : Option Value × AHeap} (h : j_blockLength s v1 = some res) (hk : out = (some (.int res), (W1 scr s R))) : Eval own_P 18 0 [some (.ref 1), some (.int v1)] [] (W1 scr s R) out := by
  rw [j_blockLength] at h
  refine Eval.iload_n rfl rfl ?_
  by_cases hc94 : v1 < (0 : Int32)
  · rw [if_pos hc94] at h
    refine Eval.ifT (t := 12) rfl rfl (tlt hc94).1 ?_
    refine Eval.iconst (x := (-1 : Int32)) rfl rfl ?_
    cases h
    subst hk
    exact Eval.ret rfl rfl
  · rw [if_neg hc94] at h
    refine Eval.ifF rfl (flt hc94).1 ?_
    refine Eval.iload_n rfl rfl ?_
    refine Eval.aload_n rfl rfl ?_
    refine Eval.getfield rfl rfl own_g1_blocks ?_
    by_cases hc95 : v1 < s.f_blocks
    · rw [if_pos hc95] at h
      refine Eval.icmpT (t := 14) rfl rfl (tlt hc95).1 ?_
      refine Eval.aload_n rfl rfl ?_
      refine Eval.getfield rfl rfl own_g1_blkLen ?_
      refine Eval.iload_n rfl rfl ?_
      obtain ⟨hb96, h⟩ := ite_some h
      refine Eval.iaload rfl own_a1_blkLen hb96 ?_
      cases h
      subst hk
      exact Eval.ret rfl rfl
    · rw [if_neg hc95] at h
      refine Eval.icmpF rfl (flt hc95).1 ?_
      refine Eval.iconst (x := (-1 : Int32)) rfl rfl ?_
      cases h
      subst hk
      exact Eval.ret rfl rfl
def j_opCount (s : Q) : Int32 := (s.f_ops)
set_option maxRecDepth 100000 in
theorem ev_j_opCount (R : AHeap) (scr : List Int32) (s : Q) {res : Int32} {out : Option Value × AHeap} (h : j_opCount s = res) (hk : out = (some (.int res), (W1 scr s R))) : Eval own_P 8 0 [some (.ref 1)] [] (W1 scr s R) out := by
  rw [j_opCount] at h
  refine Eval.aload_n rfl rfl ?_
  refine Eval.getfield rfl rfl own_g1_ops ?_
  subst h
  subst hk
  exact Eval.ret rfl rfl
def j_byteAt (s : Q) (v1 v2 : Int32) : Option (Int32) := (if (j_length s v1) = (-1 : Int32) then some ((-1 : Int32)) else (if v2 < (0 : Int32) then some ((-1 : Int32)) else (if v2 < (j_length s v1) then (if v2 < (256 : Int32) then (if v1 = (0 : Int32) then (if inb s.f_basis.length v2 = true then some ((rd s.f_basis v2)) else none) else (if v1 = (1 : Int32) then (if inb s.f_target.length v2 = true then some ((rd s.f_target v2)) else none) else (if v1 = (2 : Int32) then (if inb s.f_literal.length v2 = true then some ((rd s.f_literal v2)) else none) else (if inb s.f_out.length v2 = true then some ((rd s.f_out v2)) else none)))) else some ((-1 : Int32))) else some ((-1 : Int32)))))
set_option maxRecDepth 100000 in
theorem ev_j_byteAt (R : AHeap) (scr : List Int32) (s : Q) (v1 v2 : Int32) {res : Int32} {out : Option Value × AHeap} (h : j_byteAt s v1 v2 = some res) (hk : out = (some (.int res), (W1 scr s R))) : Eval own_P 9 0 [some (.ref 1), some (.int v1), some (.int v2), none] [] (W1 scr s R) out := by
  rw [j_byteAt] at h
  refine Eval.aload_n rfl rfl ?_
  refine Eval.iload_n rfl rfl ?_
  refine Eval.callI (rest := []) (x := (j_length s v1)) (H1 := (W1 scr s R)) rfl rfl (ev_j_length R scr s v1 rfl rfl) ?_
  refine Eval.istore_n (L' := [some (.ref 1), some (.int v1), some (.int v2), some (.int (j_length s v1))]) rfl rfl ?_
  refine Eval.iload_n rfl rfl ?_
  refine Eval.iconst (x := (-1 : Int32)) rfl rfl ?_
  by_cases hc107 : (j_length s v1) = (-1 : Int32)
  · rw [if_pos hc107] at h
    refine Eval.icmpF rfl (teq hc107).2 ?_
    refine Eval.iconst (x := (-1 : Int32)) rfl rfl ?_
    cases h
    subst hk
    exact Eval.ret rfl rfl
  · rw [if_neg hc107] at h
    refine Eval.icmpT (t := 13) rfl rfl (feq hc107).2 ?_
    refine Eval.iload_n rfl rfl ?_
    by_cases hc108 : v2 < (0 : Int32)
    · rw [if_pos hc108] at h
      refine Eval.ifT (t := 29) rfl rfl (tlt hc108).1 ?_
      refine Eval.iconst (x := (-1 : Int32)) rfl rfl ?_
      cases h
      subst hk
      exact Eval.ret rfl rfl
    · rw [if_neg hc108] at h
      refine Eval.ifF rfl (flt hc108).1 ?_
      refine Eval.iload_n rfl rfl ?_
      refine Eval.iload_n rfl rfl ?_
      by_cases hc109 : v2 < (j_length s v1)
      · rw [if_pos hc109] at h
        refine Eval.icmpF rfl (tlt hc109).2.1 ?_
        refine Eval.iload_n rfl rfl ?_
        refine Eval.sipush (x := (256 : Int32)) rfl rfl ?_
        by_cases hc110 : v2 < (256 : Int32)
        · rw [if_pos hc110] at h
          refine Eval.icmpT (t := 31) rfl rfl (tlt hc110).1 ?_
          refine Eval.iload_n rfl rfl ?_
          by_cases hc111 : v1 = (0 : Int32)
          · rw [if_pos hc111] at h
            refine Eval.ifF rfl (teq hc111).2 ?_
            refine Eval.aload_n rfl rfl ?_
            refine Eval.getfield rfl rfl own_g1_basis ?_
            refine Eval.iload_n rfl rfl ?_
            obtain ⟨hb112, h⟩ := ite_some h
            refine Eval.iaload rfl own_a1_basis hb112 ?_
            cases h
            subst hk
            exact Eval.ret rfl rfl
          · rw [if_neg hc111] at h
            refine Eval.ifT (t := 42) rfl rfl (feq hc111).2 ?_
            refine Eval.iload_n rfl rfl ?_
            refine Eval.iconst (x := (1 : Int32)) rfl rfl ?_
            by_cases hc113 : v1 = (1 : Int32)
            · rw [if_pos hc113] at h
              refine Eval.icmpF rfl (teq hc113).2 ?_
              refine Eval.aload_n rfl rfl ?_
              refine Eval.getfield rfl rfl own_g1_target ?_
              refine Eval.iload_n rfl rfl ?_
              obtain ⟨hb114, h⟩ := ite_some h
              refine Eval.iaload rfl own_a1_target hb114 ?_
              cases h
              subst hk
              exact Eval.ret rfl rfl
            · rw [if_neg hc113] at h
              refine Eval.icmpT (t := 54) rfl rfl (feq hc113).2 ?_
              refine Eval.iload_n rfl rfl ?_
              refine Eval.iconst (x := (2 : Int32)) rfl rfl ?_
              by_cases hc115 : v1 = (2 : Int32)
              · rw [if_pos hc115] at h
                refine Eval.icmpF rfl (teq hc115).2 ?_
                refine Eval.aload_n rfl rfl ?_
                refine Eval.getfield rfl rfl own_g1_literal ?_
                refine Eval.iload_n rfl rfl ?_
                obtain ⟨hb116, h⟩ := ite_some h
                refine Eval.iaload rfl own_a1_literal hb116 ?_
                cases h
                subst hk
                exact Eval.ret rfl rfl
              · rw [if_neg hc115] at h
                refine Eval.icmpT (t := 66) rfl rfl (feq hc115).2 ?_
                refine Eval.aload_n rfl rfl ?_
                refine Eval.getfield rfl rfl own_g1_out ?_
                refine Eval.iload_n rfl rfl ?_
                obtain ⟨hb117, h⟩ := ite_some h
                refine Eval.iaload rfl own_a1_out hb117 ?_
                cases h
                subst hk
                exact Eval.ret rfl rfl
        · rw [if_neg hc110] at h
          refine Eval.icmpF rfl (flt hc110).1 ?_
          refine Eval.iconst (x := (-1 : Int32)) rfl rfl ?_
          cases h
          subst hk
          exact Eval.ret rfl rfl
      · rw [if_neg hc109] at h
        refine Eval.icmpT (t := 29) rfl rfl (flt hc109).2.1 ?_
        refine Eval.iconst (x := (-1 : Int32)) rfl rfl ?_
        cases h
        subst hk
        exact Eval.ret rfl rfl
abbrev h_agree_l188_K (R : AHeap) (scr : List Int32) (s : Q) (res : (Int32 × Int32 × Int32 × Int32) ⊕ ((Unit) ⊕ ((Unit) ⊕ ((Unit) ⊕ (Int32 × Int32 × Int32 × Int32))))) (out : Option Value × AHeap) : Prop := Sum.elim (fun res => Eval own_P 4 208 [some (.ref 1), none, some (.int res.1), none, some (.int res.2.1), none, none, none, none, some (.int res.2.2.1), some (.int res.2.2.2), none, none, none, none] [] (W1 scr s R) out) (fun res => Sum.elim (fun res => Eval own_P 4 239 [none, none, none, none, none, none, none, none, none, none, none, none, none, none, none] [] (W1 scr s R) out) (fun res => Sum.elim (fun res => Eval own_P 4 278 [none, none, none, none, none, none, none, none, none, none, none, none, none, none, none] [] (W1 scr s R) out) (fun res => Sum.elim (fun res => Eval own_P 4 290 [none, none, none, none, none, none, none, none, none, none, none, none, none, none, none] [] (W1 scr s R) out) (fun res => Eval own_P 4 298 [some (.ref 1), none, some (.int res.1), none, some (.int res.2.1), none, none, none, none, some (.int res.2.2.1), some (.int res.2.2.2), none, none, none, none] [] (W1 scr s R) out) res) res) res) res

def j_opKind (s : Q) (v1 : Int32) : Option (Int32) := (if v1 < (0 : Int32) then some ((-1 : Int32)) else (if v1 < s.f_ops then (if inb s.f_kinds.length v1 = true then some ((rd s.f_kinds v1)) else none) else some ((-1 : Int32))))
set_option maxRecDepth 100000 in
theorem ev_j_opKind (R : AHeap) (scr : List Int32) (s : Q) (v1 : Int32) {res : Int32} {out : Option Value × AHeap} (h : j_opKind s v1 = some res) (hk : out = (some (.int res), (W1 scr s R))) : Eval own_P 23 0 [some (.ref 1), some (.int v1)] [] (W1 scr s R) out := by
  rw [j_opKind] at h
  refine Eval.iload_n rfl rfl ?_
  by_cases hc131 : v1 < (0 : Int32)
  · rw [if_pos hc131] at h
    refine Eval.ifT (t := 12) rfl rfl (tlt hc131).1 ?_
    refine Eval.iconst (x := (-1 : Int32)) rfl rfl ?_
    cases h
    subst hk
    exact Eval.ret rfl rfl
  · rw [if_neg hc131] at h
    refine Eval.ifF rfl (flt hc131).1 ?_
    refine Eval.iload_n rfl rfl ?_
    refine Eval.aload_n rfl rfl ?_
    refine Eval.getfield rfl rfl own_g1_ops ?_
    by_cases hc132 : v1 < s.f_ops
    · rw [if_pos hc132] at h
      refine Eval.icmpT (t := 14) rfl rfl (tlt hc132).1 ?_
      refine Eval.aload_n rfl rfl ?_
      refine Eval.getfield rfl rfl own_g1_kinds ?_
      refine Eval.iload_n rfl rfl ?_
      obtain ⟨hb133, h⟩ := ite_some h
      refine Eval.iaload rfl own_a1_kinds hb133 ?_
      cases h
      subst hk
      exact Eval.ret rfl rfl
    · rw [if_neg hc132] at h
      refine Eval.icmpF rfl (flt hc132).1 ?_
      refine Eval.iconst (x := (-1 : Int32)) rfl rfl ?_
      cases h
      subst hk
      exact Eval.ret rfl rfl
def j_opValue (s : Q) (v1 : Int32) : Option (Int32) := (if v1 < (0 : Int32) then some ((-1 : Int32)) else (if v1 < s.f_ops then (if inb s.f_values.length v1 = true then some ((rd s.f_values v1)) else none) else some ((-1 : Int32))))
set_option maxRecDepth 100000 in
theorem ev_j_opValue (R : AHeap) (scr : List Int32) (s : Q) (v1 : Int32) {res : Int32} {out : Option Value × AHeap} (h : j_opValue s v1 = some res) (hk : out = (some (.int res), (W1 scr s R))) : Eval own_P 24 0 [some (.ref 1), some (.int v1)] [] (W1 scr s R) out := by
  rw [j_opValue] at h
  refine Eval.iload_n rfl rfl ?_
  by_cases hc136 : v1 < (0 : Int32)
  · rw [if_pos hc136] at h
    refine Eval.ifT (t := 12) rfl rfl (tlt hc136).1 ?_
    refine Eval.iconst (x := (-1 : Int32)) rfl rfl ?_
    cases h
    subst hk
    exact Eval.ret rfl rfl
  · rw [if_neg hc136] at h
    refine Eval.ifF rfl (flt hc136).1 ?_
    refine Eval.iload_n rfl rfl ?_
    refine Eval.aload_n rfl rfl ?_
    refine Eval.getfield rfl rfl own_g1_ops ?_
    by_cases hc137 : v1 < s.f_ops
    · rw [if_pos hc137] at h
      refine Eval.icmpT (t := 14) rfl rfl (tlt hc137).1 ?_
      refine Eval.aload_n rfl rfl ?_
      refine Eval.getfield rfl rfl own_g1_values ?_
      refine Eval.iload_n rfl rfl ?_
      obtain ⟨hb138, h⟩ := ite_some h
      refine Eval.iaload rfl own_a1_values hb138 ?_
      cases h
      subst hk
      exact Eval.ret rfl rfl
    · rw [if_neg hc137] at h
      refine Eval.icmpF rfl (flt hc137).1 ?_
      refine Eval.iconst (x := (-1 : Int32)) rfl rfl ?_
      cases h
      subst hk
      exact Eval.ret rfl rfl
def h_agree_b292 (go_ : Q → Int32 → Int32 → Int32 → Int32 → Int32 → Int32 → Option ((Int32 × Int32 × Int32 × Int32) ⊕ ((Unit) ⊕ ((Unit) ⊕ ((Unit) ⊕ (Int32 × Int32 × Int32 × Int32)))))) (s : Q) (v2 v4 : Int32) (v5 v9 : Int32) (v10 v11 : Int32) : Option ((Int32 × Int32 × Int32 × Int32) ⊕ ((Unit) ⊕ ((Unit) ⊕ ((Unit) ⊕ (Int32 × Int32 × Int32 × Int32))))) := (go_ s v2 v4 v5 v9 v10 (v11 + (1 : Int32)))
set_option maxRecDepth 100000 in
theorem ev_h_agree_b292 (R : AHeap) (scr : List Int32) (go_ : Q → Int32 → Int32 → Int32 → Int32 → Int32 → Int32 → Option ((Int32 × Int32 × Int32 × Int32) ⊕ ((Unit) ⊕ ((Unit) ⊕ ((Unit) ⊕ (Int32 × Int32 × Int32 × Int32)))))) (hrec : ∀ (s : Q) (v2 v4 : Int32) (v5 v9 : Int32) (v10 v11 : Int32) {res : (Int32 × Int32 × Int32 × Int32) ⊕ ((Unit) ⊕ ((Unit) ⊕ ((Unit) ⊕ (Int32 × Int32 × Int32 × Int32))))} {out : Option Value × AHeap}, go_ s v2 v4 v5 v9 v10 v11 = some res → h_agree_l188_K R scr s res out → Eval own_P 4 188 [some (.ref 1), none, some (.int v2), none, some (.int v4), some (.int v5), none, none, none, some (.int v9), some (.int v10), some (.int v11), none, none, none] [] (W1 scr s R) out) (s : Q) (v2 v4 : Int32) (v5 v9 : Int32) (v10 v11 : Int32) {res : (Int32 × Int32 × Int32 × Int32) ⊕ ((Unit) ⊕ ((Unit) ⊕ ((Unit) ⊕ (Int32 × Int32 × Int32 × Int32))))} {out : Option Value × AHeap} (h : h_agree_b292 go_ s v2 v4 v5 v9 v10 v11 = some res) (hk : h_agree_l188_K R scr s res out) : Eval own_P 4 292 [some (.ref 1), none, some (.int v2), none, some (.int v4), some (.int v5), none, none, none, some (.int v9), some (.int v10), some (.int v11), none, none, none] [] (W1 scr s R) out := by
  rw [h_agree_b292] at h
  refine Eval.iinc (L' := [some (.ref 1), none, some (.int v2), none, some (.int v4), some (.int v5), none, none, none, some (.int v9), some (.int v10), some (.int (v11 + (1 : Int32))), none, none, none]) rfl rfl rfl ?_
  refine Eval.goto (t := 188) rfl rfl ?_
  exact hrec _ _ _ _ _ _ _ h hk
def h_agree_l188 : Nat → Q → Int32 → Int32 → Int32 → Int32 → Int32 → Int32 → Option ((Int32 × Int32 × Int32 × Int32) ⊕ ((Unit) ⊕ ((Unit) ⊕ ((Unit) ⊕ (Int32 × Int32 × Int32 × Int32)))))
  | 0, _, _, _, _, _, _, _ => none
  | n + 1, s, v2, v4, v5, v9, v10, v11 => (if v11 < (257 : Int32) then (if v2 < (2 : Int32) then some (.inr (.inr (.inr (.inr (v2, v4, v9, v10))))) else (if v11 < v5 then ((j_opKind s v11).bind fun p134 => ((j_opValue s v11).bind fun p139 => (if p134 = (2 : Int32) then (if p139 < (1 : Int32) then some (.inr (.inl ())) else (h_agree_b292 (h_agree_l188 n) s v2 v4 v5 (v9 + p139) (v10 + p139) v11)) else (if p134 = (1 : Int32) then ((j_blockLength s p139).bind fun p144 => (if p144 < (1 : Int32) then some (.inr (.inr (.inl ()))) else (h_agree_b292 (h_agree_l188 n) s v2 v4 v5 v9 (v10 + p144) v11))) else some (.inr (.inr (.inr (.inl ())))))))) else some (.inl (v2, v4, v9, v10)))) else some (.inr (.inr (.inr (.inr (v2, v4, v9, v10))))))
set_option maxRecDepth 100000 in
theorem ev_h_agree_l188 (R : AHeap) (scr : List Int32) : ∀ (n : Nat) (s : Q) (v2 v4 : Int32) (v5 v9 : Int32) (v10 v11 : Int32) {res : (Int32 × Int32 × Int32 × Int32) ⊕ ((Unit) ⊕ ((Unit) ⊕ ((Unit) ⊕ (Int32 × Int32 × Int32 × Int32))))} {out : Option Value × AHeap}, h_agree_l188 n s v2 v4 v5 v9 v10 v11 = some res → h_agree_l188_K R scr s res out → Eval own_P 4 188 [some (.ref 1), none, some (.int v2), none, some (.int v4), some (.int v5), none, none, none, some (.int v9), some (.int v10), some (.int v11), none, none, none] [] (W1 scr s R) out := by
  intro n
  induction n with
  | zero => intro _ _ _ _ _ _ _ res out h hk; cases h
  | succ n hrec =>
    intro s v2 v4 v5 v9 v10 v11 res out h hk
    rw [h_agree_l188] at h
    refine Eval.iload rfl rfl ?_
    refine Eval.sipush (x := (257 : Int32)) rfl rfl ?_
    by_cases hc128 : v11 < (257 : Int32)
    · rw [if_pos hc128] at h
      refine Eval.icmpF rfl (tlt hc128).2.1 ?_
      refine Eval.iload_n rfl rfl ?_
      refine Eval.iconst (x := (2 : Int32)) rfl rfl ?_
      by_cases hc129 : v2 < (2 : Int32)
      · rw [if_pos hc129] at h
        refine Eval.icmpT (t := 298) rfl rfl (tlt hc129).1 ?_
        cases h
        refine Eval.weak (lw_mk 1557 _) ?_
        exact hk
      · rw [if_neg hc129] at h
        refine Eval.icmpF rfl (flt hc129).1 ?_
        refine Eval.iload rfl rfl ?_
        refine Eval.iload rfl rfl ?_
        by_cases hc130 : v11 < v5
        · rw [if_pos hc130] at h
          refine Eval.icmpT (t := 211) rfl rfl (tlt hc130).1 ?_
          refine Eval.aload_n rfl rfl ?_
          refine Eval.iload rfl rfl ?_
          obtain ⟨p134, hq135, h⟩ := bind_some h
          refine Eval.callI (rest := []) (x := p134) (H1 := (W1 scr s R)) rfl rfl (ev_j_opKind R scr s v11 hq135 rfl) ?_
          refine Eval.istore (L' := [some (.ref 1), none, some (.int v2), none, some (.int v4), some (.int v5), none, none, none, some (.int v9), some (.int v10), some (.int v11), some (.int p134), none, none]) rfl rfl ?_
          refine Eval.aload_n rfl rfl ?_
          refine Eval.iload rfl rfl ?_
          obtain ⟨p139, hq140, h⟩ := bind_some h
          refine Eval.callI (rest := []) (x := p139) (H1 := (W1 scr s R)) rfl rfl (ev_j_opValue R scr s v11 hq140 rfl) ?_
          refine Eval.istore (L' := [some (.ref 1), none, some (.int v2), none, some (.int v4), some (.int v5), none, none, none, some (.int v9), some (.int v10), some (.int v11), some (.int p134), some (.int p139), none]) rfl rfl ?_
          refine Eval.iload rfl rfl ?_
          refine Eval.iconst (x := (2 : Int32)) rfl rfl ?_
          by_cases hc141 : p134 = (2 : Int32)
          · rw [if_pos hc141] at h
            refine Eval.icmpF rfl (teq hc141).2 ?_
            refine Eval.iload rfl rfl ?_
            refine Eval.iconst (x := (1 : Int32)) rfl rfl ?_
            by_cases hc142 : p139 < (1 : Int32)
            · rw [if_pos hc142] at h
              refine Eval.icmpF rfl (tlt hc142).2.1 ?_
              cases h
              refine Eval.weak (lw_mk 0 _) ?_
              exact hk
            · rw [if_neg hc142] at h
              refine Eval.icmpT (t := 241) rfl rfl (flt hc142).2.1 ?_
              refine Eval.iload rfl rfl ?_
              refine Eval.iload rfl rfl ?_
              refine Eval.iadd rfl ?_
              refine Eval.istore (L' := [some (.ref 1), none, some (.int v2), none, some (.int v4), some (.int v5), none, none, none, some (.int (v9 + p139)), some (.int v10), some (.int v11), some (.int p134), some (.int p139), none]) rfl rfl ?_
              refine Eval.iload rfl rfl ?_
              refine Eval.iload rfl rfl ?_
              refine Eval.iadd rfl ?_
              refine Eval.istore (L' := [some (.ref 1), none, some (.int v2), none, some (.int v4), some (.int v5), none, none, none, some (.int (v9 + p139)), some (.int (v10 + p139)), some (.int v11), some (.int p134), some (.int p139), none]) rfl rfl ?_
              refine Eval.goto (t := 292) rfl rfl ?_
              refine Eval.weak (lw_mk 3637 _) ?_
              exact ev_h_agree_b292 R scr _ hrec s v2 v4 v5 (v9 + p139) (v10 + p139) v11 h hk
          · rw [if_neg hc141] at h
            refine Eval.icmpT (t := 258) rfl rfl (feq hc141).2 ?_
            refine Eval.iload rfl rfl ?_
            refine Eval.iconst (x := (1 : Int32)) rfl rfl ?_
            by_cases hc143 : p134 = (1 : Int32)
            · rw [if_pos hc143] at h
              refine Eval.icmpF rfl (teq hc143).2 ?_
              refine Eval.aload_n rfl rfl ?_
              refine Eval.iload rfl rfl ?_
              obtain ⟨p144, hq145, h⟩ := bind_some h
              refine Eval.callI (rest := []) (x := p144) (H1 := (W1 scr s R)) rfl rfl (ev_j_blockLength R scr s p139 hq145 rfl) ?_
              refine Eval.istore (L' := [some (.ref 1), none, some (.int v2), none, some (.int v4), some (.int v5), none, none, none, some (.int v9), some (.int v10), some (.int v11), some (.int p134), some (.int p139), some (.int p144)]) rfl rfl ?_
              refine Eval.iload rfl rfl ?_
              refine Eval.iconst (x := (1 : Int32)) rfl rfl ?_
              by_cases hc146 : p144 < (1 : Int32)
              · rw [if_pos hc146] at h
                refine Eval.icmpF rfl (tlt hc146).2.1 ?_
                cases h
                refine Eval.weak (lw_mk 0 _) ?_
                exact hk
              · rw [if_neg hc146] at h
                refine Eval.icmpT (t := 280) rfl rfl (flt hc146).2.1 ?_
                refine Eval.iload rfl rfl ?_
                refine Eval.iload rfl rfl ?_
                refine Eval.iadd rfl ?_
                refine Eval.istore (L' := [some (.ref 1), none, some (.int v2), none, some (.int v4), some (.int v5), none, none, none, some (.int v9), some (.int (v10 + p144)), some (.int v11), some (.int p134), some (.int p139), some (.int p144)]) rfl rfl ?_
                refine Eval.goto (t := 292) rfl rfl ?_
                refine Eval.weak (lw_mk 3637 _) ?_
                exact ev_h_agree_b292 R scr _ hrec s v2 v4 v5 v9 (v10 + p144) v11 h hk
            · rw [if_neg hc143] at h
              refine Eval.icmpT (t := 290) rfl rfl (feq hc143).2 ?_
              cases h
              refine Eval.weak (lw_mk 0 _) ?_
              exact hk
        · rw [if_neg hc130] at h
          refine Eval.icmpF rfl (flt hc130).1 ?_
          cases h
          refine Eval.weak (lw_mk 1557 _) ?_
          exact hk
    · rw [if_neg hc128] at h
      refine Eval.icmpT (t := 298) rfl rfl (flt hc128).2.1 ?_
      cases h
      refine Eval.weak (lw_mk 1557 _) ?_
      exact hk
def h_agree_b298 (s : Q) (v2 v4 : Int32) (v9 v10 : Int32) : Option (Int32) := (if (j_length s (2 : Int32)) = v9 then (if v2 < (2 : Int32) then some ((1 : Int32)) else (if v10 = v4 then some ((1 : Int32)) else some ((0 : Int32)))) else some ((0 : Int32)))
set_option maxRecDepth 100000 in
theorem ev_h_agree_b298 (R : AHeap) (scr : List Int32) (s : Q) (v2 v4 : Int32) (v9 v10 : Int32) {res : Int32} {out : Option Value × AHeap} (h : h_agree_b298 s v2 v4 v9 v10 = some res) (hk : out = (some (.int res), (W1 scr s R))) : Eval own_P 4 298 [some (.ref 1), none, some (.int v2), none, some (.int v4), none, none, none, none, some (.int v9), some (.int v10), none, none, none, none] [] (W1 scr s R) out := by
  rw [h_agree_b298] at h
  refine Eval.aload_n rfl rfl ?_
  refine Eval.iconst (x := (2 : Int32)) rfl rfl ?_
  refine Eval.callI (rest := []) (x := (j_length s (2 : Int32))) (H1 := (W1 scr s R)) rfl rfl (ev_j_length R scr s (2 : Int32) rfl rfl) ?_
  refine Eval.iload rfl rfl ?_
  by_cases hc151 : (j_length s (2 : Int32)) = v9
  · rw [if_pos hc151] at h
    refine Eval.icmpT (t := 310) rfl rfl (teq hc151).1 ?_
    refine Eval.iload_n rfl rfl ?_
    refine Eval.iconst (x := (2 : Int32)) rfl rfl ?_
    by_cases hc152 : v2 < (2 : Int32)
    · rw [if_pos hc152] at h
      refine Eval.icmpT (t := 324) rfl rfl (tlt hc152).1 ?_
      refine Eval.iconst (x := (1 : Int32)) rfl rfl ?_
      cases h
      subst hk
      exact Eval.ret rfl rfl
    · rw [if_neg hc152] at h
      refine Eval.icmpF rfl (flt hc152).1 ?_
      refine Eval.iload rfl rfl ?_
      refine Eval.iload rfl rfl ?_
      by_cases hc153 : v10 = v4
      · rw [if_pos hc153] at h
        refine Eval.icmpT (t := 324) rfl rfl (teq hc153).1 ?_
        refine Eval.iconst (x := (1 : Int32)) rfl rfl ?_
        cases h
        subst hk
        exact Eval.ret rfl rfl
      · rw [if_neg hc153] at h
        refine Eval.icmpF rfl (feq hc153).1 ?_
        refine Eval.iconst (x := (0 : Int32)) rfl rfl ?_
        cases h
        subst hk
        exact Eval.ret rfl rfl
  · rw [if_neg hc151] at h
    refine Eval.icmpF rfl (feq hc151).1 ?_
    refine Eval.iconst (x := (0 : Int32)) rfl rfl ?_
    cases h
    subst hk
    exact Eval.ret rfl rfl
def h_agree_b167 (s : Q) (v2 v3 : Int32) (v4 v5 : Int32) : Option (Int32) := ((j_byteAt s (0 : Int32) v3).bind fun p125 => (if p125 = (-1 : Int32) then ((h_agree_l188 3000 s v2 v4 v5 (0 : Int32) (0 : Int32) (0 : Int32)).bind fun p147 => Sum.elim (fun p149 => (h_agree_b298 s p149.1 p149.2.1 p149.2.2.1 p149.2.2.2)) (fun p150 => Sum.elim (fun p154 => some ((0 : Int32))) (fun p155 => Sum.elim (fun p156 => some ((0 : Int32))) (fun p157 => Sum.elim (fun p158 => some ((0 : Int32))) (fun p159 => (h_agree_b298 s p159.1 p159.2.1 p159.2.2.1 p159.2.2.2)) p157) p155) p150) p147) else some ((0 : Int32))))
set_option maxRecDepth 100000 in
theorem ev_h_agree_b167 (R : AHeap) (scr : List Int32) (s : Q) (v2 v3 : Int32) (v4 v5 : Int32) {res : Int32} {out : Option Value × AHeap} (h : h_agree_b167 s v2 v3 v4 v5 = some res) (hk : out = (some (.int res), (W1 scr s R))) : Eval own_P 4 167 [some (.ref 1), none, some (.int v2), some (.int v3), some (.int v4), some (.int v5), none, none, none, none, none, none, none, none, none] [] (W1 scr s R) out := by
  rw [h_agree_b167] at h
  refine Eval.aload_n rfl rfl ?_
  refine Eval.iconst (x := (0 : Int32)) rfl rfl ?_
  refine Eval.iload_n rfl rfl ?_
  obtain ⟨p125, hq126, h⟩ := bind_some h
  refine Eval.callI (rest := []) (x := p125) (H1 := (W1 scr s R)) rfl rfl (ev_j_byteAt R scr s (0 : Int32) v3 hq126 rfl) ?_
  refine Eval.iconst (x := (-1 : Int32)) rfl rfl ?_
  by_cases hc127 : p125 = (-1 : Int32)
  · rw [if_pos hc127] at h
    refine Eval.icmpT (t := 179) rfl rfl (teq hc127).1 ?_
    refine Eval.iconst (x := (0 : Int32)) rfl rfl ?_
    refine Eval.istore (L' := [some (.ref 1), none, some (.int v2), some (.int v3), some (.int v4), some (.int v5), none, none, none, some (.int (0 : Int32)), none, none, none, none, none]) rfl rfl ?_
    refine Eval.iconst (x := (0 : Int32)) rfl rfl ?_
    refine Eval.istore (L' := [some (.ref 1), none, some (.int v2), some (.int v3), some (.int v4), some (.int v5), none, none, none, some (.int (0 : Int32)), some (.int (0 : Int32)), none, none, none, none]) rfl rfl ?_
    refine Eval.iconst (x := (0 : Int32)) rfl rfl ?_
    refine Eval.istore (L' := [some (.ref 1), none, some (.int v2), some (.int v3), some (.int v4), some (.int v5), none, none, none, some (.int (0 : Int32)), some (.int (0 : Int32)), some (.int (0 : Int32)), none, none, none]) rfl rfl ?_
    refine Eval.weak (lw_mk 3637 _) ?_
    obtain ⟨p147, hq148, h⟩ := bind_some h
    rcases p147 with p149 | p150
    · dsimp only [Sum.elim] at h
      refine ev_h_agree_l188 R scr _ s v2 v4 v5 (0 : Int32) (0 : Int32) (0 : Int32) hq148 ?_
      show Eval own_P 4 208 [some (.ref 1), none, some (.int p149.1), none, some (.int p149.2.1), none, none, none, none, some (.int p149.2.2.1), some (.int p149.2.2.2), none, none, none, none] [] (W1 scr s R) out
      refine Eval.goto (t := 298) rfl rfl ?_
      exact ev_h_agree_b298 R scr s p149.1 p149.2.1 p149.2.2.1 p149.2.2.2 h hk
    · dsimp only [Sum.elim] at h
      rcases p150 with p154 | p155
      · dsimp only [Sum.elim] at h
        refine ev_h_agree_l188 R scr _ s v2 v4 v5 (0 : Int32) (0 : Int32) (0 : Int32) hq148 ?_
        show Eval own_P 4 239 [none, none, none, none, none, none, none, none, none, none, none, none, none, none, none] [] (W1 scr s R) out
        refine Eval.iconst (x := (0 : Int32)) rfl rfl ?_
        cases h
        subst hk
        exact Eval.ret rfl rfl
      · dsimp only [Sum.elim] at h
        rcases p155 with p156 | p157
        · dsimp only [Sum.elim] at h
          refine ev_h_agree_l188 R scr _ s v2 v4 v5 (0 : Int32) (0 : Int32) (0 : Int32) hq148 ?_
          show Eval own_P 4 278 [none, none, none, none, none, none, none, none, none, none, none, none, none, none, none] [] (W1 scr s R) out
          refine Eval.iconst (x := (0 : Int32)) rfl rfl ?_
          cases h
          subst hk
          exact Eval.ret rfl rfl
        · dsimp only [Sum.elim] at h
          rcases p157 with p158 | p159
          · dsimp only [Sum.elim] at h
            refine ev_h_agree_l188 R scr _ s v2 v4 v5 (0 : Int32) (0 : Int32) (0 : Int32) hq148 ?_
            show Eval own_P 4 290 [none, none, none, none, none, none, none, none, none, none, none, none, none, none, none] [] (W1 scr s R) out
            refine Eval.iconst (x := (0 : Int32)) rfl rfl ?_
            cases h
            subst hk
            exact Eval.ret rfl rfl
          · dsimp only [Sum.elim] at h
            refine ev_h_agree_l188 R scr _ s v2 v4 v5 (0 : Int32) (0 : Int32) (0 : Int32) hq148 ?_
            show Eval own_P 4 298 [some (.ref 1), none, some (.int p159.1), none, some (.int p159.2.1), none, none, none, none, some (.int p159.2.2.1), some (.int p159.2.2.2), none, none, none, none] [] (W1 scr s R) out
            exact ev_h_agree_b298 R scr s p159.1 p159.2.1 p159.2.2.1 p159.2.2.2 h hk
  · rw [if_neg hc127] at h
    refine Eval.icmpF rfl (feq hc127).1 ?_
    refine Eval.iconst (x := (0 : Int32)) rfl rfl ?_
    cases h
    subst hk
    exact Eval.ret rfl rfl
def h_agree_b146 (s : Q) (v2 v3 : Int32) (v4 v5 v7 : Int32) : Option (Int32) := (if (0 : Int32) < v4 then ((j_byteAt s (1 : Int32) (v4 - (1 : Int32))).bind fun p122 => (if p122 = v7 then (h_agree_b167 s v2 v3 v4 v5) else some ((0 : Int32)))) else (h_agree_b167 s v2 v3 v4 v5))
set_option maxRecDepth 100000 in
theorem ev_h_agree_b146 (R : AHeap) (scr : List Int32) (s : Q) (v2 v3 : Int32) (v4 v5 v7 : Int32) {res : Int32} {out : Option Value × AHeap} (h : h_agree_b146 s v2 v3 v4 v5 v7 = some res) (hk : out = (some (.int res), (W1 scr s R))) : Eval own_P 4 146 [some (.ref 1), none, some (.int v2), some (.int v3), some (.int v4), some (.int v5), none, some (.int v7), none, none, none, none, none, none, none] [] (W1 scr s R) out := by
  rw [h_agree_b146] at h
  refine Eval.iload rfl rfl ?_
  by_cases hc121 : (0 : Int32) < v4
  · rw [if_pos hc121] at h
    refine Eval.ifF rfl (tlt hc121).2.2.2 ?_
    refine Eval.aload_n rfl rfl ?_
    refine Eval.iconst (x := (1 : Int32)) rfl rfl ?_
    refine Eval.iload rfl rfl ?_
    refine Eval.iconst (x := (1 : Int32)) rfl rfl ?_
    refine Eval.isub rfl ?_
    obtain ⟨p122, hq123, h⟩ := bind_some h
    refine Eval.callI (rest := []) (x := p122) (H1 := (W1 scr s R)) rfl rfl (ev_j_byteAt R scr s (1 : Int32) (v4 - (1 : Int32)) hq123 rfl) ?_
    refine Eval.iload rfl rfl ?_
    by_cases hc124 : p122 = v7
    · rw [if_pos hc124] at h
      refine Eval.icmpT (t := 167) rfl rfl (teq hc124).1 ?_
      refine Eval.weak (lw_mk 61 _) ?_
      exact ev_h_agree_b167 R scr s v2 v3 v4 v5 h hk
    · rw [if_neg hc124] at h
      refine Eval.icmpF rfl (feq hc124).1 ?_
      refine Eval.iconst (x := (0 : Int32)) rfl rfl ?_
      cases h
      subst hk
      exact Eval.ret rfl rfl
  · rw [if_neg hc121] at h
    refine Eval.ifT (t := 167) rfl rfl (flt hc121).2.2.2 ?_
    refine Eval.weak (lw_mk 61 _) ?_
    exact ev_h_agree_b167 R scr s v2 v3 v4 v5 h hk
def h_agree_b122 (s : Q) (v2 v3 : Int32) (v4 v5 : Int32) (v6 v7 : Int32) (w0 w1 : Int32) : Option (Int32) := (if w0 = w1 then (if (0 : Int32) < v3 then ((j_byteAt s (0 : Int32) (v3 - (1 : Int32))).bind fun p118 => (if p118 = v6 then (h_agree_b146 s v2 v3 v4 v5 v7) else some ((0 : Int32)))) else (h_agree_b146 s v2 v3 v4 v5 v7)) else some ((0 : Int32)))
set_option maxRecDepth 100000 in
theorem ev_h_agree_b122 (R : AHeap) (scr : List Int32) (s : Q) (v2 v3 : Int32) (v4 v5 : Int32) (v6 v7 : Int32) (w0 w1 : Int32) {res : Int32} {out : Option Value × AHeap} (h : h_agree_b122 s v2 v3 v4 v5 v6 v7 w0 w1 = some res) (hk : out = (some (.int res), (W1 scr s R))) : Eval own_P 4 122 [some (.ref 1), none, some (.int v2), some (.int v3), some (.int v4), some (.int v5), some (.int v6), some (.int v7), none, none, none, none, none, none, none] [.int w1, .int w0] (W1 scr s R) out := by
  rw [h_agree_b122] at h
  by_cases hc105 : w0 = w1
  · rw [if_pos hc105] at h
    refine Eval.icmpT (t := 127) rfl rfl (teq hc105).1 ?_
    refine Eval.iload_n rfl rfl ?_
    by_cases hc106 : (0 : Int32) < v3
    · rw [if_pos hc106] at h
      refine Eval.ifF rfl (tlt hc106).2.2.2 ?_
      refine Eval.aload_n rfl rfl ?_
      refine Eval.iconst (x := (0 : Int32)) rfl rfl ?_
      refine Eval.iload_n rfl rfl ?_
      refine Eval.iconst (x := (1 : Int32)) rfl rfl ?_
      refine Eval.isub rfl ?_
      obtain ⟨p118, hq119, h⟩ := bind_some h
      refine Eval.callI (rest := []) (x := p118) (H1 := (W1 scr s R)) rfl rfl (ev_j_byteAt R scr s (0 : Int32) (v3 - (1 : Int32)) hq119 rfl) ?_
      refine Eval.iload rfl rfl ?_
      by_cases hc120 : p118 = v6
      · rw [if_pos hc120] at h
        refine Eval.icmpT (t := 146) rfl rfl (teq hc120).1 ?_
        refine Eval.weak (lw_mk 189 _) ?_
        exact ev_h_agree_b146 R scr s v2 v3 v4 v5 v7 h hk
      · rw [if_neg hc120] at h
        refine Eval.icmpF rfl (feq hc120).1 ?_
        refine Eval.iconst (x := (0 : Int32)) rfl rfl ?_
        cases h
        subst hk
        exact Eval.ret rfl rfl
    · rw [if_neg hc106] at h
      refine Eval.ifT (t := 146) rfl rfl (flt hc106).2.2.2 ?_
      refine Eval.weak (lw_mk 189 _) ?_
      exact ev_h_agree_b146 R scr s v2 v3 v4 v5 v7 h hk
  · rw [if_neg hc105] at h
    refine Eval.icmpF rfl (feq hc105).1 ?_
    refine Eval.iconst (x := (0 : Int32)) rfl rfl ?_
    cases h
    subst hk
    exact Eval.ret rfl rfl
def h_agree_b102 (s : Q) (v2 v3 : Int32) (v4 v5 : Int32) (v6 v7 : Int32) (w0 w1 : Int32) : Option (Int32) := (if w0 = w1 then (h_agree_b122 s v2 v3 v4 v5 v6 v7 (j_opCount s) (if v2 < (2 : Int32) then (0 : Int32) else v5)) else some ((0 : Int32)))
set_option maxRecDepth 100000 in
theorem ev_h_agree_b102 (R : AHeap) (scr : List Int32) (s : Q) (v2 v3 : Int32) (v4 v5 : Int32) (v6 v7 : Int32) (w0 w1 : Int32) {res : Int32} {out : Option Value × AHeap} (h : h_agree_b102 s v2 v3 v4 v5 v6 v7 w0 w1 = some res) (hk : out = (some (.int res), (W1 scr s R))) : Eval own_P 4 102 [some (.ref 1), none, some (.int v2), some (.int v3), some (.int v4), some (.int v5), some (.int v6), some (.int v7), none, none, none, none, none, none, none] [.int w1, .int w0] (W1 scr s R) out := by
  rw [h_agree_b102] at h
  by_cases hc102 : w0 = w1
  · rw [if_pos hc102] at h
    refine Eval.icmpT (t := 107) rfl rfl (teq hc102).1 ?_
    refine Eval.aload_n rfl rfl ?_
    refine Eval.callI (rest := []) (x := (j_opCount s)) (H1 := (W1 scr s R)) rfl rfl (ev_j_opCount R scr s rfl rfl) ?_
    refine Eval.iload_n rfl rfl ?_
    refine Eval.iconst (x := (2 : Int32)) rfl rfl ?_
    suffices hJ104 : Eval own_P 4 122 [some (.ref 1), none, some (.int v2), some (.int v3), some (.int v4), some (.int v5), some (.int v6), some (.int v7), none, none, none, none, none, none, none] [.int (if v2 < (2 : Int32) then (0 : Int32) else v5), .int (j_opCount s)] (W1 scr s R) out by
      by_cases hc103 : v2 < (2 : Int32)
      · refine Eval.icmpT (t := 121) rfl rfl (tlt hc103).1 ?_
        refine Eval.iconst (x := (0 : Int32)) rfl rfl ?_
        exact (Eval.conv hJ104 rfl (by simp only [if_pos hc103]))
      · refine Eval.icmpF rfl (flt hc103).1 ?_
        refine Eval.iload rfl rfl ?_
        refine Eval.goto (t := 122) rfl rfl ?_
        exact (Eval.conv hJ104 rfl (by simp only [if_neg hc103]))
    exact ev_h_agree_b122 R scr s v2 v3 v4 v5 v6 v7 (j_opCount s) (if v2 < (2 : Int32) then (0 : Int32) else v5) h hk
  · rw [if_neg hc102] at h
    refine Eval.icmpF rfl (feq hc102).1 ?_
    refine Eval.iconst (x := (0 : Int32)) rfl rfl ?_
    cases h
    subst hk
    exact Eval.ret rfl rfl
def h_agree_b86 (s : Q) (v2 v3 : Int32) (v4 v5 : Int32) (v6 v7 : Int32) : Option (Int32) := (h_agree_b102 s v2 v3 v4 v5 v6 v7 (j_length s (3 : Int32)) (if v2 = (3 : Int32) then v4 else (0 : Int32)))
set_option maxRecDepth 100000 in
theorem ev_h_agree_b86 (R : AHeap) (scr : List Int32) (s : Q) (v2 v3 : Int32) (v4 v5 : Int32) (v6 v7 : Int32) {res : Int32} {out : Option Value × AHeap} (h : h_agree_b86 s v2 v3 v4 v5 v6 v7 = some res) (hk : out = (some (.int res), (W1 scr s R))) : Eval own_P 4 86 [some (.ref 1), none, some (.int v2), some (.int v3), some (.int v4), some (.int v5), some (.int v6), some (.int v7), none, none, none, none, none, none, none] [] (W1 scr s R) out := by
  rw [h_agree_b86] at h
  refine Eval.aload_n rfl rfl ?_
  refine Eval.iconst (x := (3 : Int32)) rfl rfl ?_
  refine Eval.callI (rest := []) (x := (j_length s (3 : Int32))) (H1 := (W1 scr s R)) rfl rfl (ev_j_length R scr s (3 : Int32) rfl rfl) ?_
  refine Eval.iload_n rfl rfl ?_
  refine Eval.iconst (x := (3 : Int32)) rfl rfl ?_
  suffices hJ101 : Eval own_P 4 102 [some (.ref 1), none, some (.int v2), some (.int v3), some (.int v4), some (.int v5), some (.int v6), some (.int v7), none, none, none, none, none, none, none] [.int (if v2 = (3 : Int32) then v4 else (0 : Int32)), .int (j_length s (3 : Int32))] (W1 scr s R) out by
    by_cases hc100 : v2 = (3 : Int32)
    · refine Eval.icmpF rfl (teq hc100).2 ?_
      refine Eval.iload rfl rfl ?_
      refine Eval.goto (t := 102) rfl rfl ?_
      exact (Eval.conv hJ101 rfl (by simp only [if_pos hc100]))
    · refine Eval.icmpT (t := 101) rfl rfl (feq hc100).2 ?_
      refine Eval.iconst (x := (0 : Int32)) rfl rfl ?_
      exact (Eval.conv hJ101 rfl (by simp only [if_neg hc100]))
  exact ev_h_agree_b102 R scr s v2 v3 v4 v5 v6 v7 (j_length s (3 : Int32)) (if v2 = (3 : Int32) then v4 else (0 : Int32)) h hk
def h_agree_b47 (s : Q) (v1 v2 : Int32) (v3 v4 : Int32) (v5 v6 : Int32) (v7 w0 : Int32) : Option (Int32) := (if (j_blockCount s) = w0 then (if (0 : Int32) < w0 then ((j_blockLength s (w0 - (1 : Int32))).bind fun p97 => (if p97 = (v3 - ((w0 - (1 : Int32)) * v1)) then (h_agree_b86 s v2 v3 v4 v5 v6 v7) else some ((0 : Int32)))) else (h_agree_b86 s v2 v3 v4 v5 v6 v7)) else some ((0 : Int32)))
set_option maxRecDepth 100000 in
theorem ev_h_agree_b47 (R : AHeap) (scr : List Int32) (s : Q) (v1 v2 : Int32) (v3 v4 : Int32) (v5 v6 : Int32) (v7 w0 : Int32) {res : Int32} {out : Option Value × AHeap} (h : h_agree_b47 s v1 v2 v3 v4 v5 v6 v7 w0 = some res) (hk : out = (some (.int res), (W1 scr s R))) : Eval own_P 4 47 [some (.ref 1), some (.int v1), some (.int v2), some (.int v3), some (.int v4), some (.int v5), some (.int v6), some (.int v7), none, none, none, none, none, none, none] [.int w0] (W1 scr s R) out := by
  rw [h_agree_b47] at h
  refine Eval.istore (L' := [some (.ref 1), some (.int v1), some (.int v2), some (.int v3), some (.int v4), some (.int v5), some (.int v6), some (.int v7), some (.int w0), none, none, none, none, none, none]) rfl rfl ?_
  refine Eval.aload_n rfl rfl ?_
  refine Eval.callI (rest := []) (x := (j_blockCount s)) (H1 := (W1 scr s R)) rfl rfl (ev_j_blockCount R scr s rfl rfl) ?_
  refine Eval.iload rfl rfl ?_
  by_cases hc92 : (j_blockCount s) = w0
  · rw [if_pos hc92] at h
    refine Eval.icmpT (t := 60) rfl rfl (teq hc92).1 ?_
    refine Eval.iload rfl rfl ?_
    by_cases hc93 : (0 : Int32) < w0
    · rw [if_pos hc93] at h
      refine Eval.ifF rfl (tlt hc93).2.2.2 ?_
      refine Eval.aload_n rfl rfl ?_
      refine Eval.iload rfl rfl ?_
      refine Eval.iconst (x := (1 : Int32)) rfl rfl ?_
      refine Eval.isub rfl ?_
      obtain ⟨p97, hq98, h⟩ := bind_some h
      refine Eval.callI (rest := []) (x := p97) (H1 := (W1 scr s R)) rfl rfl (ev_j_blockLength R scr s (w0 - (1 : Int32)) hq98 rfl) ?_
      refine Eval.iload_n rfl rfl ?_
      refine Eval.iload rfl rfl ?_
      refine Eval.iconst (x := (1 : Int32)) rfl rfl ?_
      refine Eval.isub rfl ?_
      refine Eval.iload_n rfl rfl ?_
      refine Eval.imul rfl ?_
      refine Eval.isub rfl ?_
      by_cases hc99 : p97 = (v3 - ((w0 - (1 : Int32)) * v1))
      · rw [if_pos hc99] at h
        refine Eval.icmpT (t := 86) rfl rfl (teq hc99).1 ?_
        refine Eval.weak (lw_mk 253 _) ?_
        exact ev_h_agree_b86 R scr s v2 v3 v4 v5 v6 v7 h hk
      · rw [if_neg hc99] at h
        refine Eval.icmpF rfl (feq hc99).1 ?_
        refine Eval.iconst (x := (0 : Int32)) rfl rfl ?_
        cases h
        subst hk
        exact Eval.ret rfl rfl
    · rw [if_neg hc93] at h
      refine Eval.ifT (t := 86) rfl rfl (flt hc93).2.2.2 ?_
      refine Eval.weak (lw_mk 253 _) ?_
      exact ev_h_agree_b86 R scr s v2 v3 v4 v5 v6 v7 h hk
  · rw [if_neg hc92] at h
    refine Eval.icmpF rfl (feq hc92).1 ?_
    refine Eval.iconst (x := (0 : Int32)) rfl rfl ?_
    cases h
    subst hk
    exact Eval.ret rfl rfl
def h_agree (s : Q) (v1 v2 : Int32) (v3 v4 : Int32) (v5 v6 v7 : Int32) : Option (Int32) := (if (j_phase s) = v2 then (if (j_length s (0 : Int32)) = v3 then (if (j_length s (1 : Int32)) = v4 then (if v2 < (1 : Int32) then (h_agree_b47 s v1 v2 v3 v4 v5 v6 v7 (0 : Int32)) else (if v1 = (0 : Int32) then none else (h_agree_b47 s v1 v2 v3 v4 v5 v6 v7 (((v3 + v1) - (1 : Int32)) / v1)))) else some ((0 : Int32))) else some ((0 : Int32))) else some ((0 : Int32)))
set_option maxRecDepth 100000 in
theorem ev_h_agree (R : AHeap) (scr : List Int32) (s : Q) (v1 v2 : Int32) (v3 v4 : Int32) (v5 v6 v7 : Int32) {res : Int32} {out : Option Value × AHeap} (h : h_agree s v1 v2 v3 v4 v5 v6 v7 = some res) (hk : out = (some (.int res), (W1 scr s R))) : Eval own_P 4 0 [some (.ref 1), some (.int v1), some (.int v2), some (.int v3), some (.int v4), some (.int v5), some (.int v6), some (.int v7), none, none, none, none, none, none, none] [] (W1 scr s R) out := by
  rw [h_agree] at h
  refine Eval.aload_n rfl rfl ?_
  refine Eval.callI (rest := []) (x := (j_phase s)) (H1 := (W1 scr s R)) rfl rfl (ev_j_phase R scr s rfl rfl) ?_
  refine Eval.iload_n rfl rfl ?_
  by_cases hc83 : (j_phase s) = v2
  · rw [if_pos hc83] at h
    refine Eval.icmpT (t := 10) rfl rfl (teq hc83).1 ?_
    refine Eval.aload_n rfl rfl ?_
    refine Eval.iconst (x := (0 : Int32)) rfl rfl ?_
    refine Eval.callI (rest := []) (x := (j_length s (0 : Int32))) (H1 := (W1 scr s R)) rfl rfl (ev_j_length R scr s (0 : Int32) rfl rfl) ?_
    refine Eval.iload_n rfl rfl ?_
    by_cases hc88 : (j_length s (0 : Int32)) = v3
    · rw [if_pos hc88] at h
      refine Eval.icmpF rfl (teq hc88).2 ?_
      refine Eval.aload_n rfl rfl ?_
      refine Eval.iconst (x := (1 : Int32)) rfl rfl ?_
      refine Eval.callI (rest := []) (x := (j_length s (1 : Int32))) (H1 := (W1 scr s R)) rfl rfl (ev_j_length R scr s (1 : Int32) rfl rfl) ?_
      refine Eval.iload rfl rfl ?_
      by_cases hc89 : (j_length s (1 : Int32)) = v4
      · rw [if_pos hc89] at h
        refine Eval.icmpT (t := 31) rfl rfl (teq hc89).1 ?_
        refine Eval.iload_n rfl rfl ?_
        refine Eval.iconst (x := (1 : Int32)) rfl rfl ?_
        by_cases hc91 : v2 < (1 : Int32)
        · rw [if_pos hc91] at h
          refine Eval.icmpT (t := 46) rfl rfl (tlt hc91).1 ?_
          refine Eval.iconst (x := (0 : Int32)) rfl rfl ?_
          exact ev_h_agree_b47 R scr s v1 v2 v3 v4 v5 v6 v7 (0 : Int32) h hk
        · rw [if_neg hc91] at h
          refine Eval.icmpF rfl (flt hc91).1 ?_
          refine Eval.iload_n rfl rfl ?_
          refine Eval.iload_n rfl rfl ?_
          refine Eval.iadd rfl ?_
          refine Eval.iconst (x := (1 : Int32)) rfl rfl ?_
          refine Eval.isub rfl ?_
          refine Eval.iload_n rfl rfl ?_
          obtain ⟨hz160, h⟩ := ite_none h
          refine Eval.idiv rfl hz160 ?_
          refine Eval.goto (t := 47) rfl rfl ?_
          exact ev_h_agree_b47 R scr s v1 v2 v3 v4 v5 v6 v7 (((v3 + v1) - (1 : Int32)) / v1) h hk
      · rw [if_neg hc89] at h
        refine Eval.icmpF rfl (feq hc89).1 ?_
        refine Eval.iconst (x := (0 : Int32)) rfl rfl ?_
        cases h
        subst hk
        exact Eval.ret rfl rfl
    · rw [if_neg hc88] at h
      refine Eval.icmpT (t := 29) rfl rfl (feq hc88).2 ?_
      refine Eval.iconst (x := (0 : Int32)) rfl rfl ?_
      cases h
      subst hk
      exact Eval.ret rfl rfl
  · rw [if_neg hc83] at h
    refine Eval.icmpF rfl (feq hc83).1 ?_
    refine Eval.iconst (x := (0 : Int32)) rfl rfl ?_
    cases h
    subst hk
    exact Eval.ret rfl rfl
def law_b495 (go_ : Q → List Int32 → Int32 → Int32 → Int32 → Int32 → Int32 → Int32 → Int32 → Int32 → Option ((Q) ⊕ ((Q) ⊕ ((Q) ⊕ ((Q) ⊕ ((Q) ⊕ ((Q) ⊕ ((Q) ⊕ ((Q) ⊕ ((Q) ⊕ ((Q) ⊕ ((Q) ⊕ (Q))))))))))))) (s : Q) (scr : List Int32) (v2 v4 : Int32) (v5 v6 : Int32) (v7 v8 : Int32) (v9 v10 : Int32) : Option ((Q) ⊕ ((Q) ⊕ ((Q) ⊕ ((Q) ⊕ ((Q) ⊕ ((Q) ⊕ ((Q) ⊕ ((Q) ⊕ ((Q) ⊕ ((Q) ⊕ ((Q) ⊕ (Q)))))))))))) := ((h_agree s v2 v4 v5 v6 v7 v8 v9).bind fun p161 => (if p161 = (0 : Int32) then some (.inr (.inr (.inr (.inr (.inr (.inr (.inr (.inr (.inr (.inr (.inl (s)))))))))))) else (go_ s scr v2 v4 v5 v6 v7 v8 v9 (v10 + (3 : Int32)))))
set_option maxRecDepth 100000 in
theorem ev_law_b495 (go_ : Q → List Int32 → Int32 → Int32 → Int32 → Int32 → Int32 → Int32 → Int32 → Int32 → Option ((Q) ⊕ ((Q) ⊕ ((Q) ⊕ ((Q) ⊕ ((Q) ⊕ ((Q) ⊕ ((Q) ⊕ ((Q) ⊕ ((Q) ⊕ ((Q) ⊕ ((Q) ⊕ (Q))))))))))))) (hrec : ∀ (s : Q) (scr : List Int32) (v2 v4 : Int32) (v5 v6 : Int32) (v7 v8 : Int32) (v9 v10 : Int32) {res : (Q) ⊕ ((Q) ⊕ ((Q) ⊕ ((Q) ⊕ ((Q) ⊕ ((Q) ⊕ ((Q) ⊕ ((Q) ⊕ ((Q) ⊕ ((Q) ⊕ ((Q) ⊕ (Q)))))))))))} {out : Option Value × AHeap}, go_ s scr v2 v4 v5 v6 v7 v8 v9 v10 = some res → law_l65_K scr res out → Eval own_P 0 65 [some (.ref 0), none, some (.int v2), some (.ref 1), some (.int v4), some (.int v5), some (.int v6), some (.int v7), some (.int v8), some (.int v9), some (.int v10), none, none, none, none, none] [] (W1 scr s []) out) (s : Q) (scr : List Int32) (v2 v4 : Int32) (v5 v6 : Int32) (v7 v8 : Int32) (v9 v10 : Int32) {res : (Q) ⊕ ((Q) ⊕ ((Q) ⊕ ((Q) ⊕ ((Q) ⊕ ((Q) ⊕ ((Q) ⊕ ((Q) ⊕ ((Q) ⊕ ((Q) ⊕ ((Q) ⊕ (Q)))))))))))} {out : Option Value × AHeap} (h : law_b495 go_ s scr v2 v4 v5 v6 v7 v8 v9 v10 = some res) (hk : law_l65_K scr res out) : Eval own_P 0 495 [some (.ref 0), none, some (.int v2), some (.ref 1), some (.int v4), some (.int v5), some (.int v6), some (.int v7), some (.int v8), some (.int v9), some (.int v10), none, none, none, none, none] [] (W1 scr s []) out := by
  rw [law_b495] at h
  refine Eval.aload_n rfl rfl ?_
  refine Eval.iload_n rfl rfl ?_
  refine Eval.iload rfl rfl ?_
  refine Eval.iload rfl rfl ?_
  refine Eval.iload rfl rfl ?_
  refine Eval.iload rfl rfl ?_
  refine Eval.iload rfl rfl ?_
  refine Eval.iload rfl rfl ?_
  obtain ⟨p161, hq162, h⟩ := bind_some h
  refine Eval.callI (rest := []) (x := p161) (H1 := (W1 scr s [])) rfl rfl (ev_h_agree [] scr s v2 v4 v5 v6 v7 v8 v9 hq162 rfl) ?_
  by_cases hc163 : p161 = (0 : Int32)
  · rw [if_pos hc163] at h
    refine Eval.ifF rfl (teq hc163).2 ?_
    cases h
    refine Eval.weak (lw_mk 0 _) ?_
    exact hk
  · rw [if_neg hc163] at h
    refine Eval.ifT (t := 517) rfl rfl (feq hc163).2 ?_
    refine Eval.iinc (L' := [some (.ref 0), none, some (.int v2), some (.ref 1), some (.int v4), some (.int v5), some (.int v6), some (.int v7), some (.int v8), some (.int v9), some (.int (v10 + (3 : Int32))), none, none, none, none, none]) rfl rfl rfl ?_
    refine Eval.goto (t := 65) rfl rfl ?_
    exact hrec _ _ _ _ _ _ _ _ _ _ h hk
def law_b349 (go_ : Q → List Int32 → Int32 → Int32 → Int32 → Int32 → Int32 → Int32 → Int32 → Int32 → Option ((Q) ⊕ ((Q) ⊕ ((Q) ⊕ ((Q) ⊕ ((Q) ⊕ ((Q) ⊕ ((Q) ⊕ ((Q) ⊕ ((Q) ⊕ ((Q) ⊕ ((Q) ⊕ (Q))))))))))))) (s : Q) (scr : List Int32) (v2 v4 : Int32) (v5 v6 : Int32) (v7 v8 : Int32) (v9 v10 : Int32) : Option ((Q) ⊕ ((Q) ⊕ ((Q) ⊕ ((Q) ⊕ ((Q) ⊕ ((Q) ⊕ ((Q) ⊕ ((Q) ⊕ ((Q) ⊕ ((Q) ⊕ ((Q) ⊕ (Q)))))))))))) := (law_b495 (go_) s scr v2 v4 v5 v6 v7 v8 v9 v10)
set_option maxRecDepth 100000 in
theorem ev_law_b349 (go_ : Q → List Int32 → Int32 → Int32 → Int32 → Int32 → Int32 → Int32 → Int32 → Int32 → Option ((Q) ⊕ ((Q) ⊕ ((Q) ⊕ ((Q) ⊕ ((Q) ⊕ ((Q) ⊕ ((Q) ⊕ ((Q) ⊕ ((Q) ⊕ ((Q) ⊕ ((Q) ⊕ (Q))))))))))))) (hrec : ∀ (s : Q) (scr : List Int32) (v2 v4 : Int32) (v5 v6 : Int32) (v7 v8 : Int32) (v9 v10 : Int32) {res : (Q) ⊕ ((Q) ⊕ ((Q) ⊕ ((Q) ⊕ ((Q) ⊕ ((Q) ⊕ ((Q) ⊕ ((Q) ⊕ ((Q) ⊕ ((Q) ⊕ ((Q) ⊕ (Q)))))))))))} {out : Option Value × AHeap}, go_ s scr v2 v4 v5 v6 v7 v8 v9 v10 = some res → law_l65_K scr res out → Eval own_P 0 65 [some (.ref 0), none, some (.int v2), some (.ref 1), some (.int v4), some (.int v5), some (.int v6), some (.int v7), some (.int v8), some (.int v9), some (.int v10), none, none, none, none, none] [] (W1 scr s []) out) (s : Q) (scr : List Int32) (v2 v4 : Int32) (v5 v6 : Int32) (v7 v8 : Int32) (v9 v10 : Int32) {res : (Q) ⊕ ((Q) ⊕ ((Q) ⊕ ((Q) ⊕ ((Q) ⊕ ((Q) ⊕ ((Q) ⊕ ((Q) ⊕ ((Q) ⊕ ((Q) ⊕ ((Q) ⊕ (Q)))))))))))} {out : Option Value × AHeap} (h : law_b349 go_ s scr v2 v4 v5 v6 v7 v8 v9 v10 = some res) (hk : law_l65_K scr res out) : Eval own_P 0 349 [some (.ref 0), none, some (.int v2), some (.ref 1), some (.int v4), some (.int v5), some (.int v6), some (.int v7), some (.int v8), some (.int v9), some (.int v10), none, none, none, none, none] [] (W1 scr s []) out := by
  rw [law_b349] at h
  refine Eval.goto (t := 495) rfl rfl ?_
  exact ev_law_b495 _ hrec s scr v2 v4 v5 v6 v7 v8 v9 v10 h hk
abbrev j_encode_l29_K (R : AHeap) (scr : List Int32) (res : Q) (out : Option Value × AHeap) : Prop := Eval own_P 14 86 [some (.ref 1), none, none, none] [] (W1 scr res R) out

abbrev j_encode_l29_N (s res : Q) : Prop := Q.len res = Q.len s
abbrev j_sameBytes_l3_K (R : AHeap) (scr : List Int32) (s : Q) (res : (Unit) ⊕ ((Unit) ⊕ (Unit))) (out : Option Value × AHeap) : Prop := Sum.elim (fun res => Eval own_P 22 49 [none, none, none, none, none, none, none] [] (W1 scr s R) out) (fun res => Sum.elim (fun res => Eval own_P 22 68 [none, none, none, none, none, none, none] [] (W1 scr s R) out) (fun res => Eval own_P 22 76 [none, none, none, none, none, none, none] [] (W1 scr s R) out) res) res

def j_sameBytes_l3 : Nat → Q → Int32 → Int32 → Int32 → Int32 → Option ((Unit) ⊕ ((Unit) ⊕ (Unit)))
  | 0, _, _, _, _, _ => none
  | n + 1, s, v1, v2, v3, v4 => (if v4 < v3 then (if (v1 + v4) < (0 : Int32) then some (.inl ()) else (if (v1 + v4) < s.f_basisLen then (if (v2 + v4) < (0 : Int32) then some (.inl ()) else (if (v2 + v4) < s.f_targetLen then (if inb s.f_basis.length (v1 + v4) = true then (if inb s.f_target.length (v2 + v4) = true then (if (rd s.f_basis (v1 + v4)) = (rd s.f_target (v2 + v4)) then (j_sameBytes_l3 n s v1 v2 v3 (v4 + (1 : Int32))) else some (.inr (.inl ()))) else none) else none) else some (.inl ()))) else some (.inl ()))) else some (.inr (.inr ())))
set_option maxRecDepth 100000 in
theorem ev_j_sameBytes_l3 (R : AHeap) (scr : List Int32) : ∀ (n : Nat) (s : Q) (v1 v2 : Int32) (v3 v4 : Int32) {res : (Unit) ⊕ ((Unit) ⊕ (Unit))} {out : Option Value × AHeap}, j_sameBytes_l3 n s v1 v2 v3 v4 = some res → j_sameBytes_l3_K R scr s res out → Eval own_P 22 3 [some (.ref 1), some (.int v1), some (.int v2), some (.int v3), some (.int v4), none, none] [] (W1 scr s R) out := by
  intro n
  induction n with
  | zero => intro _ _ _ _ _ res out h hk; cases h
  | succ n hrec =>
    intro s v1 v2 v3 v4 res out h hk
    rw [j_sameBytes_l3] at h
    refine Eval.iload rfl rfl ?_
    refine Eval.iload_n rfl rfl ?_
    by_cases hc176 : v4 < v3
    · rw [if_pos hc176] at h
      refine Eval.icmpF rfl (tlt hc176).2.1 ?_
      refine Eval.iload_n rfl rfl ?_
      refine Eval.iload rfl rfl ?_
      refine Eval.iadd rfl ?_
      refine Eval.istore (L' := [some (.ref 1), some (.int v1), some (.int v2), some (.int v3), some (.int v4), some (.int (v1 + v4)), none]) rfl rfl ?_
      refine Eval.iload_n rfl rfl ?_
      refine Eval.iload rfl rfl ?_
      refine Eval.iadd rfl ?_
      refine Eval.istore (L' := [some (.ref 1), some (.int v1), some (.int v2), some (.int v3), some (.int v4), some (.int (v1 + v4)), some (.int (v2 + v4))]) rfl rfl ?_
      refine Eval.iload rfl rfl ?_
      by_cases hc177 : (v1 + v4) < (0 : Int32)
      · rw [if_pos hc177] at h
        refine Eval.ifT (t := 49) rfl rfl (tlt hc177).1 ?_
        cases h
        refine Eval.weak (lw_mk 0 _) ?_
        exact hk
      · rw [if_neg hc177] at h
        refine Eval.ifF rfl (flt hc177).1 ?_
        refine Eval.iload rfl rfl ?_
        refine Eval.aload_n rfl rfl ?_
        refine Eval.getfield rfl rfl own_g1_basisLen ?_
        by_cases hc178 : (v1 + v4) < s.f_basisLen
        · rw [if_pos hc178] at h
          refine Eval.icmpF rfl (tlt hc178).2.1 ?_
          refine Eval.iload rfl rfl ?_
          by_cases hc179 : (v2 + v4) < (0 : Int32)
          · rw [if_pos hc179] at h
            refine Eval.ifT (t := 49) rfl rfl (tlt hc179).1 ?_
            cases h
            refine Eval.weak (lw_mk 0 _) ?_
            exact hk
          · rw [if_neg hc179] at h
            refine Eval.ifF rfl (flt hc179).1 ?_
            refine Eval.iload rfl rfl ?_
            refine Eval.aload_n rfl rfl ?_
            refine Eval.getfield rfl rfl own_g1_targetLen ?_
            by_cases hc180 : (v2 + v4) < s.f_targetLen
            · rw [if_pos hc180] at h
              refine Eval.icmpT (t := 51) rfl rfl (tlt hc180).1 ?_
              refine Eval.aload_n rfl rfl ?_
              refine Eval.getfield rfl rfl own_g1_basis ?_
              refine Eval.iload rfl rfl ?_
              obtain ⟨hb181, h⟩ := ite_some h
              refine Eval.iaload rfl own_a1_basis hb181 ?_
              refine Eval.aload_n rfl rfl ?_
              refine Eval.getfield rfl rfl own_g1_target ?_
              refine Eval.iload rfl rfl ?_
              obtain ⟨hb182, h⟩ := ite_some h
              refine Eval.iaload rfl own_a1_target hb182 ?_
              by_cases hc183 : (rd s.f_basis (v1 + v4)) = (rd s.f_target (v2 + v4))
              · rw [if_pos hc183] at h
                refine Eval.icmpT (t := 70) rfl rfl (teq hc183).1 ?_
                refine Eval.iinc (L' := [some (.ref 1), some (.int v1), some (.int v2), some (.int v3), some (.int (v4 + (1 : Int32))), some (.int (v1 + v4)), some (.int (v2 + v4))]) rfl rfl rfl ?_
                refine Eval.goto (t := 3) rfl rfl ?_
                refine Eval.weak (lw_mk 31 _) ?_
                exact hrec _ _ _ _ _ h hk
              · rw [if_neg hc183] at h
                refine Eval.icmpF rfl (feq hc183).1 ?_
                cases h
                refine Eval.weak (lw_mk 0 _) ?_
                exact hk
            · rw [if_neg hc180] at h
              refine Eval.icmpF rfl (flt hc180).1 ?_
              cases h
              refine Eval.weak (lw_mk 0 _) ?_
              exact hk
        · rw [if_neg hc178] at h
          refine Eval.icmpT (t := 49) rfl rfl (flt hc178).2.1 ?_
          cases h
          refine Eval.weak (lw_mk 0 _) ?_
          exact hk
    · rw [if_neg hc176] at h
      refine Eval.icmpT (t := 76) rfl rfl (flt hc176).2.1 ?_
      cases h
      refine Eval.weak (lw_mk 0 _) ?_
      exact hk
def j_sameBytes (s : Q) (v1 v2 v3 : Int32) : Option (Int32) := ((j_sameBytes_l3 3000 s v1 v2 v3 (0 : Int32)).bind fun p184 => Sum.elim (fun p186 => some ((0 : Int32))) (fun p187 => Sum.elim (fun p188 => some ((0 : Int32))) (fun p189 => some ((1 : Int32))) p187) p184)
set_option maxRecDepth 100000 in
theorem ev_j_sameBytes (R : AHeap) (scr : List Int32) (s : Q) (v1 v2 v3 : Int32) {res : Int32} {out : Option Value × AHeap} (h : j_sameBytes s v1 v2 v3 = some res) (hk : out = (some (.int res), (W1 scr s R))) : Eval own_P 22 0 [some (.ref 1), some (.int v1), some (.int v2), some (.int v3), none, none, none] [] (W1 scr s R) out := by
  rw [j_sameBytes] at h
  refine Eval.iconst (x := (0 : Int32)) rfl rfl ?_
  refine Eval.istore (L' := [some (.ref 1), some (.int v1), some (.int v2), some (.int v3), some (.int (0 : Int32)), none, none]) rfl rfl ?_
  obtain ⟨p184, hq185, h⟩ := bind_some h
  rcases p184 with p186 | p187
  · dsimp only [Sum.elim] at h
    refine ev_j_sameBytes_l3 R scr _ s v1 v2 v3 (0 : Int32) hq185 ?_
    show Eval own_P 22 49 [none, none, none, none, none, none, none] [] (W1 scr s R) out
    refine Eval.iconst (x := (0 : Int32)) rfl rfl ?_
    cases h
    subst hk
    exact Eval.ret rfl rfl
  · dsimp only [Sum.elim] at h
    rcases p187 with p188 | p189
    · dsimp only [Sum.elim] at h
      refine ev_j_sameBytes_l3 R scr _ s v1 v2 v3 (0 : Int32) hq185 ?_
      show Eval own_P 22 68 [none, none, none, none, none, none, none] [] (W1 scr s R) out
      refine Eval.iconst (x := (0 : Int32)) rfl rfl ?_
      cases h
      subst hk
      exact Eval.ret rfl rfl
    · dsimp only [Sum.elim] at h
      refine ev_j_sameBytes_l3 R scr _ s v1 v2 v3 (0 : Int32) hq185 ?_
      show Eval own_P 22 76 [none, none, none, none, none, none, none] [] (W1 scr s R) out
      refine Eval.iconst (x := (1 : Int32)) rfl rfl ?_
      cases h
      subst hk
      exact Eval.ret rfl rfl
def j_findMatch_b21 (s : Q) (v1 v2 : Int32) : Option (Int32 × Q) := (if v2 < (0 : Int32) then (if s.f_shortBlock < (0 : Int32) then some (v2, s) else (if s.f_shortBlock < (128 : Int32) then (if inb s.f_blkLen.length s.f_shortBlock = true then (if (v1 + (rd s.f_blkLen s.f_shortBlock)) = s.f_targetLen then ((j_sameBytes s (s.f_shortBlock * s.f_blockSize) v1 (rd s.f_blkLen s.f_shortBlock)).bind fun p190 => (if p190 = (0 : Int32) then some (v2, s) else some (s.f_shortBlock, s))) else some (v2, s)) else none) else some (v2, s))) else some (v2, s))
set_option maxRecDepth 100000 in
theorem ev_j_findMatch_b21 (R : AHeap) (scr : List Int32) (s : Q) (v1 v2 : Int32) {res : Int32 × Q} {out : Option Value × AHeap} (h : j_findMatch_b21 s v1 v2 = some res) (hk : out = (some (.int res.1), (W1 scr res.2 R))) : Eval own_P 19 21 [some (.ref 1), some (.int v1), some (.int v2), none] [] (W1 scr s R) out := by
  rw [j_findMatch_b21] at h
  refine Eval.iload_n rfl rfl ?_
  by_cases hc171 : v2 < (0 : Int32)
  · rw [if_pos hc171] at h
    refine Eval.ifF rfl (tlt hc171).2.1 ?_
    refine Eval.aload_n rfl rfl ?_
    refine Eval.getfield rfl rfl own_g1_shortBlock ?_
    by_cases hc172 : s.f_shortBlock < (0 : Int32)
    · rw [if_pos hc172] at h
      refine Eval.ifT (t := 85) rfl rfl (tlt hc172).1 ?_
      refine Eval.iload_n rfl rfl ?_
      cases h
      subst hk
      exact Eval.ret rfl rfl
    · rw [if_neg hc172] at h
      refine Eval.ifF rfl (flt hc172).1 ?_
      refine Eval.aload_n rfl rfl ?_
      refine Eval.getfield rfl rfl own_g1_shortBlock ?_
      refine Eval.sipush (x := (128 : Int32)) rfl rfl ?_
      by_cases hc173 : s.f_shortBlock < (128 : Int32)
      · rw [if_pos hc173] at h
        refine Eval.icmpF rfl (tlt hc173).2.1 ?_
        refine Eval.aload_n rfl rfl ?_
        refine Eval.getfield rfl rfl own_g1_blkLen ?_
        refine Eval.aload_n rfl rfl ?_
        refine Eval.getfield rfl rfl own_g1_shortBlock ?_
        obtain ⟨hb174, h⟩ := ite_some h
        refine Eval.iaload rfl own_a1_blkLen hb174 ?_
        refine Eval.istore_n (L' := [some (.ref 1), some (.int v1), some (.int v2), some (.int (rd s.f_blkLen s.f_shortBlock))]) rfl rfl ?_
        refine Eval.iload_n rfl rfl ?_
        refine Eval.iload_n rfl rfl ?_
        refine Eval.iadd rfl ?_
        refine Eval.aload_n rfl rfl ?_
        refine Eval.getfield rfl rfl own_g1_targetLen ?_
        by_cases hc175 : (v1 + (rd s.f_blkLen s.f_shortBlock)) = s.f_targetLen
        · rw [if_pos hc175] at h
          refine Eval.icmpF rfl (teq hc175).2 ?_
          refine Eval.aload_n rfl rfl ?_
          refine Eval.aload_n rfl rfl ?_
          refine Eval.getfield rfl rfl own_g1_shortBlock ?_
          refine Eval.aload_n rfl rfl ?_
          refine Eval.getfield rfl rfl own_g1_blockSize ?_
          refine Eval.imul rfl ?_
          refine Eval.iload_n rfl rfl ?_
          refine Eval.iload_n rfl rfl ?_
          obtain ⟨p190, hq191, h⟩ := bind_some h
          refine Eval.callI (rest := []) (x := p190) (H1 := (W1 scr s R)) rfl rfl (ev_j_sameBytes R scr s (s.f_shortBlock * s.f_blockSize) v1 (rd s.f_blkLen s.f_shortBlock) hq191 rfl) ?_
          by_cases hc192 : p190 = (0 : Int32)
          · rw [if_pos hc192] at h
            refine Eval.ifT (t := 85) rfl rfl (teq hc192).1 ?_
            refine Eval.iload_n rfl rfl ?_
            cases h
            subst hk
            exact Eval.ret rfl rfl
          · rw [if_neg hc192] at h
            refine Eval.ifF rfl (feq hc192).1 ?_
            refine Eval.aload_n rfl rfl ?_
            refine Eval.getfield rfl rfl own_g1_shortBlock ?_
            refine Eval.istore_n (L' := [some (.ref 1), some (.int v1), some (.int s.f_shortBlock), some (.int (rd s.f_blkLen s.f_shortBlock))]) rfl rfl ?_
            refine Eval.iload_n rfl rfl ?_
            cases h
            subst hk
            exact Eval.ret rfl rfl
        · rw [if_neg hc175] at h
          refine Eval.icmpT (t := 85) rfl rfl (feq hc175).2 ?_
          refine Eval.iload_n rfl rfl ?_
          cases h
          subst hk
          exact Eval.ret rfl rfl
      · rw [if_neg hc173] at h
        refine Eval.icmpT (t := 85) rfl rfl (flt hc173).2.1 ?_
        refine Eval.iload_n rfl rfl ?_
        cases h
        subst hk
        exact Eval.ret rfl rfl
  · rw [if_neg hc171] at h
    refine Eval.ifT (t := 85) rfl rfl (flt hc171).2.1 ?_
    refine Eval.iload_n rfl rfl ?_
    cases h
    subst hk
    exact Eval.ret rfl rfl
abbrev j_recomputeWindow_l13_K (R : AHeap) (scr : List Int32) (s : Q) (res : (Int32 × Int32 × Int32) ⊕ (Int32 × Int32 × Int32)) (out : Option Value × AHeap) : Prop := Sum.elim (fun res => Eval own_P 28 39 [some (.ref 1), some (.int res.1), some (.int res.2.1), some (.int res.2.2), none, none, none, none] [] (W1 scr s R) out) (fun res => Eval own_P 28 73 [some (.ref 1), some (.int res.1), some (.int res.2.1), some (.int res.2.2), none, none, none, none] [] (W1 scr s R) out) res

def j_recomputeWindow_l13 : Nat → Q → Int32 → Int32 → Int32 → Int32 → Int32 → Option ((Int32 × Int32 × Int32) ⊕ (Int32 × Int32 × Int32))
  | 0, _, _, _, _, _, _ => none
  | n + 1, s, v1, v2, v3, v4, v5 => (if v5 < v4 then (if (v1 + v5) < (0 : Int32) then some (.inr (v1, v2, v3)) else (if (v1 + v5) < (256 : Int32) then (if inb s.f_target.length (v1 + v5) = true then (j_recomputeWindow_l13 n s v1 (v2 + (rd s.f_target (v1 + v5))) (v3 + ((v4 - v5) * (rd s.f_target (v1 + v5)))) v4 (v5 + (1 : Int32))) else none) else some (.inl (v1, v2, v3)))) else some (.inr (v1, v2, v3)))
set_option maxRecDepth 100000 in
theorem ev_j_recomputeWindow_l13 (R : AHeap) (scr : List Int32) : ∀ (n : Nat) (s : Q) (v1 v2 : Int32) (v3 v4 v5 : Int32) {res : (Int32 × Int32 × Int32) ⊕ (Int32 × Int32 × Int32)} {out : Option Value × AHeap}, j_recomputeWindow_l13 n s v1 v2 v3 v4 v5 = some res → j_recomputeWindow_l13_K R scr s res out → Eval own_P 28 13 [some (.ref 1), some (.int v1), some (.int v2), some (.int v3), some (.int v4), some (.int v5), none, none] [] (W1 scr s R) out := by
  intro n
  induction n with
  | zero => intro _ _ _ _ _ _ res out h hk; cases h
  | succ n hrec =>
    intro s v1 v2 v3 v4 v5 res out h hk
    rw [j_recomputeWindow_l13] at h
    refine Eval.iload rfl rfl ?_
    refine Eval.iload rfl rfl ?_
    by_cases hc195 : v5 < v4
    · rw [if_pos hc195] at h
      refine Eval.icmpF rfl (tlt hc195).2.1 ?_
      refine Eval.iload_n rfl rfl ?_
      refine Eval.iload rfl rfl ?_
      refine Eval.iadd rfl ?_
      refine Eval.istore (L' := [some (.ref 1), some (.int v1), some (.int v2), some (.int v3), some (.int v4), some (.int v5), some (.int (v1 + v5)), none]) rfl rfl ?_
      refine Eval.iload rfl rfl ?_
      by_cases hc196 : (v1 + v5) < (0 : Int32)
      · rw [if_pos hc196] at h
        refine Eval.ifT (t := 73) rfl rfl (tlt hc196).1 ?_
        cases h
        refine Eval.weak (lw_mk 15 _) ?_
        exact hk
      · rw [if_neg hc196] at h
        refine Eval.ifF rfl (flt hc196).1 ?_
        refine Eval.iload rfl rfl ?_
        refine Eval.sipush (x := (256 : Int32)) rfl rfl ?_
        by_cases hc197 : (v1 + v5) < (256 : Int32)
        · rw [if_pos hc197] at h
          refine Eval.icmpT (t := 42) rfl rfl (tlt hc197).1 ?_
          refine Eval.aload_n rfl rfl ?_
          refine Eval.getfield rfl rfl own_g1_target ?_
          refine Eval.iload rfl rfl ?_
          obtain ⟨hb198, h⟩ := ite_some h
          refine Eval.iaload rfl own_a1_target hb198 ?_
          refine Eval.istore (L' := [some (.ref 1), some (.int v1), some (.int v2), some (.int v3), some (.int v4), some (.int v5), some (.int (v1 + v5)), some (.int (rd s.f_target (v1 + v5)))]) rfl rfl ?_
          refine Eval.iload_n rfl rfl ?_
          refine Eval.iload rfl rfl ?_
          refine Eval.iadd rfl ?_
          refine Eval.istore_n (L' := [some (.ref 1), some (.int v1), some (.int (v2 + (rd s.f_target (v1 + v5)))), some (.int v3), some (.int v4), some (.int v5), some (.int (v1 + v5)), some (.int (rd s.f_target (v1 + v5)))]) rfl rfl ?_
          refine Eval.iload_n rfl rfl ?_
          refine Eval.iload rfl rfl ?_
          refine Eval.iload rfl rfl ?_
          refine Eval.isub rfl ?_
          refine Eval.iload rfl rfl ?_
          refine Eval.imul rfl ?_
          refine Eval.iadd rfl ?_
          refine Eval.istore_n (L' := [some (.ref 1), some (.int v1), some (.int (v2 + (rd s.f_target (v1 + v5)))), some (.int (v3 + ((v4 - v5) * (rd s.f_target (v1 + v5))))), some (.int v4), some (.int v5), some (.int (v1 + v5)), some (.int (rd s.f_target (v1 + v5)))]) rfl rfl ?_
          refine Eval.iinc (L' := [some (.ref 1), some (.int v1), some (.int (v2 + (rd s.f_target (v1 + v5)))), some (.int (v3 + ((v4 - v5) * (rd s.f_target (v1 + v5))))), some (.int v4), some (.int (v5 + (1 : Int32))), some (.int (v1 + v5)), some (.int (rd s.f_target (v1 + v5)))]) rfl rfl rfl ?_
          refine Eval.goto (t := 13) rfl rfl ?_
          refine Eval.weak (lw_mk 63 _) ?_
          exact hrec _ _ _ _ _ _ h hk
        · rw [if_neg hc197] at h
          refine Eval.icmpF rfl (flt hc197).1 ?_
          cases h
          refine Eval.weak (lw_mk 15 _) ?_
          exact hk
    · rw [if_neg hc195] at h
      refine Eval.icmpT (t := 73) rfl rfl (flt hc195).2.1 ?_
      cases h
      refine Eval.weak (lw_mk 15 _) ?_
      exact hk
def j_recomputeWindow_b73 (s : Q) (v1 v2 v3 : Int32) : Option (Q) := some ((Q.mk s.f_basis s.f_target s.f_literal s.f_out s.f_blkLen s.f_blkWeak s.f_blkStrong s.f_head s.f_next s.f_kinds s.f_values s.f_blockSize s.f_basisLen s.f_targetLen s.f_literalLen s.f_outLen s.f_blocks s.f_ops s.f_shortBlock v1 v2 v3 s.f_phaseNow))
set_option maxRecDepth 100000 in
theorem ev_j_recomputeWindow_b73 (R : AHeap) (scr : List Int32) (s : Q) (v1 v2 v3 : Int32) {res : Q} {out : Option Value × AHeap} (h : j_recomputeWindow_b73 s v1 v2 v3 = some res) (hk : out = (none, (W1 scr res R))) : Eval own_P 28 73 [some (.ref 1), some (.int v1), some (.int v2), some (.int v3), none, none, none, none] [] (W1 scr s R) out := by
  rw [j_recomputeWindow_b73] at h
  refine Eval.aload_n rfl rfl ?_
  refine Eval.iload_n rfl rfl ?_
  refine Eval.putfield rfl rfl own_p1_winA ?_
  refine Eval.aload_n rfl rfl ?_
  refine Eval.iload_n rfl rfl ?_
  refine Eval.putfield rfl rfl own_p1_winB ?_
  refine Eval.aload_n rfl rfl ?_
  refine Eval.iload_n rfl rfl ?_
  refine Eval.putfield rfl rfl own_p1_winPos ?_
  cases h
  subst hk
  exact Eval.retH own_mk1 rfl rfl
def j_recomputeWindow (s : Q) (v1 : Int32) : Option (Q) := ((j_recomputeWindow_l13 3000 s v1 (0 : Int32) (0 : Int32) s.f_blockSize (0 : Int32)).bind fun p199 => Sum.elim (fun p201 => (j_recomputeWindow_b73 s p201.1 p201.2.1 p201.2.2)) (fun p202 => (j_recomputeWindow_b73 s p202.1 p202.2.1 p202.2.2)) p199)
set_option maxRecDepth 100000 in
theorem ev_j_recomputeWindow (R : AHeap) (scr : List Int32) (s : Q) (v1 : Int32) {res : Q} {out : Option Value × AHeap} (h : j_recomputeWindow s v1 = some res) (hk : out = (none, (W1 scr res R))) : Eval own_P 28 0 [some (.ref 1), some (.int v1), none, none, none, none, none, none] [] (W1 scr s R) out := by
  rw [j_recomputeWindow] at h
  refine Eval.iconst (x := (0 : Int32)) rfl rfl ?_
  refine Eval.istore_n (L' := [some (.ref 1), some (.int v1), some (.int (0 : Int32)), none, none, none, none, none]) rfl rfl ?_
  refine Eval.iconst (x := (0 : Int32)) rfl rfl ?_
  refine Eval.istore_n (L' := [some (.ref 1), some (.int v1), some (.int (0 : Int32)), some (.int (0 : Int32)), none, none, none, none]) rfl rfl ?_
  refine Eval.aload_n rfl rfl ?_
  refine Eval.getfield rfl rfl own_g1_blockSize ?_
  refine Eval.istore (L' := [some (.ref 1), some (.int v1), some (.int (0 : Int32)), some (.int (0 : Int32)), some (.int s.f_blockSize), none, none, none]) rfl rfl ?_
  refine Eval.iconst (x := (0 : Int32)) rfl rfl ?_
  refine Eval.istore (L' := [some (.ref 1), some (.int v1), some (.int (0 : Int32)), some (.int (0 : Int32)), some (.int s.f_blockSize), some (.int (0 : Int32)), none, none]) rfl rfl ?_
  obtain ⟨p199, hq200, h⟩ := bind_some h
  rcases p199 with p201 | p202
  · dsimp only [Sum.elim] at h
    refine ev_j_recomputeWindow_l13 R scr _ s v1 (0 : Int32) (0 : Int32) s.f_blockSize (0 : Int32) hq200 ?_
    show Eval own_P 28 39 [some (.ref 1), some (.int p201.1), some (.int p201.2.1), some (.int p201.2.2), none, none, none, none] [] (W1 scr s R) out
    refine Eval.goto (t := 73) rfl rfl ?_
    exact ev_j_recomputeWindow_b73 R scr s p201.1 p201.2.1 p201.2.2 h hk
  · dsimp only [Sum.elim] at h
    refine ev_j_recomputeWindow_l13 R scr _ s v1 (0 : Int32) (0 : Int32) s.f_blockSize (0 : Int32) hq200 ?_
    show Eval own_P 28 73 [some (.ref 1), some (.int p202.1), some (.int p202.2.1), some (.int p202.2.2), none, none, none, none] [] (W1 scr s R) out
    exact ev_j_recomputeWindow_b73 R scr s p202.1 p202.2.1 p202.2.2 h hk
def j_ensureWindow_b112 (s : Q) (v1 : Int32) : Option (Q) := ((j_recomputeWindow s v1).bind fun p203 => some (p203))
set_option maxRecDepth 100000 in
theorem ev_j_ensureWindow_b112 (R : AHeap) (scr : List Int32) (s : Q) (v1 : Int32) {res : Q} {out : Option Value × AHeap} (h : j_ensureWindow_b112 s v1 = some res) (hk : out = (none, (W1 scr res R))) : Eval own_P 27 112 [some (.ref 1), some (.int v1), none, none, none, none] [] (W1 scr s R) out := by
  rw [j_ensureWindow_b112] at h
  refine Eval.aload_n rfl rfl ?_
  refine Eval.iload_n rfl rfl ?_
  obtain ⟨p203, hq204, h⟩ := bind_some h
  refine Eval.callN (rest := []) (H1 := (W1 scr p203 R)) rfl rfl (ev_j_recomputeWindow R scr s v1 hq204 rfl) ?_
  cases h
  subst hk
  exact Eval.ret rfl rfl
def j_ensureWindow_b16 (s : Q) (v1 : Int32) : Option (Q) := (if s.f_winPos < (0 : Int32) then (j_ensureWindow_b112 s v1) else (if (s.f_winPos + (1 : Int32)) = v1 then (if v1 < (1 : Int32) then (j_ensureWindow_b112 s v1) else (if ((v1 + s.f_blockSize) - (1 : Int32)) < (256 : Int32) then (if inb s.f_target.length (v1 - (1 : Int32)) = true then (if inb s.f_target.length ((v1 + s.f_blockSize) - (1 : Int32)) = true then some ((Q.mk s.f_basis s.f_target s.f_literal s.f_out s.f_blkLen s.f_blkWeak s.f_blkStrong s.f_head s.f_next s.f_kinds s.f_values s.f_blockSize s.f_basisLen s.f_targetLen s.f_literalLen s.f_outLen s.f_blocks s.f_ops s.f_shortBlock v1 ((s.f_winA - (rd s.f_target (v1 - (1 : Int32)))) + (rd s.f_target ((v1 + s.f_blockSize) - (1 : Int32)))) ((s.f_winB - (s.f_blockSize * (rd s.f_target (v1 - (1 : Int32))))) + ((s.f_winA - (rd s.f_target (v1 - (1 : Int32)))) + (rd s.f_target ((v1 + s.f_blockSize) - (1 : Int32))))) s.f_phaseNow)) else none) else none) else (j_ensureWindow_b112 s v1))) else (j_ensureWindow_b112 s v1)))
set_option maxRecDepth 100000 in
theorem ev_j_ensureWindow_b16 (R : AHeap) (scr : List Int32) (s : Q) (v1 : Int32) {res : Q} {out : Option Value × AHeap} (h : j_ensureWindow_b16 s v1 = some res) (hk : out = (none, (W1 scr res R))) : Eval own_P 27 16 [some (.ref 1), some (.int v1), none, none, none, none] [] (W1 scr s R) out := by
  rw [j_ensureWindow_b16] at h
  refine Eval.aload_n rfl rfl ?_
  refine Eval.getfield rfl rfl own_g1_blockSize ?_
  refine Eval.istore_n (L' := [some (.ref 1), some (.int v1), some (.int s.f_blockSize), none, none, none]) rfl rfl ?_
  refine Eval.iload_n rfl rfl ?_
  refine Eval.iload_n rfl rfl ?_
  refine Eval.iadd rfl ?_
  refine Eval.iconst (x := (1 : Int32)) rfl rfl ?_
  refine Eval.isub rfl ?_
  refine Eval.istore_n (L' := [some (.ref 1), some (.int v1), some (.int s.f_blockSize), some (.int ((v1 + s.f_blockSize) - (1 : Int32))), none, none]) rfl rfl ?_
  refine Eval.aload_n rfl rfl ?_
  refine Eval.getfield rfl rfl own_g1_winPos ?_
  by_cases hc194 : s.f_winPos < (0 : Int32)
  · rw [if_pos hc194] at h
    refine Eval.ifT (t := 112) rfl rfl (tlt hc194).1 ?_
    refine Eval.weak (lw_mk 3 _) ?_
    exact ev_j_ensureWindow_b112 R scr s v1 h hk
  · rw [if_neg hc194] at h
    refine Eval.ifF rfl (flt hc194).1 ?_
    refine Eval.aload_n rfl rfl ?_
    refine Eval.getfield rfl rfl own_g1_winPos ?_
    refine Eval.iconst (x := (1 : Int32)) rfl rfl ?_
    refine Eval.iadd rfl ?_
    refine Eval.iload_n rfl rfl ?_
    by_cases hc206 : (s.f_winPos + (1 : Int32)) = v1
    · rw [if_pos hc206] at h
      refine Eval.icmpF rfl (teq hc206).2 ?_
      refine Eval.iload_n rfl rfl ?_
      refine Eval.iconst (x := (1 : Int32)) rfl rfl ?_
      by_cases hc207 : v1 < (1 : Int32)
      · rw [if_pos hc207] at h
        refine Eval.icmpT (t := 112) rfl rfl (tlt hc207).1 ?_
        refine Eval.weak (lw_mk 3 _) ?_
        exact ev_j_ensureWindow_b112 R scr s v1 h hk
      · rw [if_neg hc207] at h
        refine Eval.icmpF rfl (flt hc207).1 ?_
        refine Eval.iload_n rfl rfl ?_
        refine Eval.sipush (x := (256 : Int32)) rfl rfl ?_
        by_cases hc208 : ((v1 + s.f_blockSize) - (1 : Int32)) < (256 : Int32)
        · rw [if_pos hc208] at h
          refine Eval.icmpF rfl (tlt hc208).2.1 ?_
          refine Eval.aload_n rfl rfl ?_
          refine Eval.getfield rfl rfl own_g1_target ?_
          refine Eval.iload_n rfl rfl ?_
          refine Eval.iconst (x := (1 : Int32)) rfl rfl ?_
          refine Eval.isub rfl ?_
          obtain ⟨hb209, h⟩ := ite_some h
          refine Eval.iaload rfl own_a1_target hb209 ?_
          refine Eval.istore (L' := [some (.ref 1), some (.int v1), some (.int s.f_blockSize), some (.int ((v1 + s.f_blockSize) - (1 : Int32))), some (.int (rd s.f_target (v1 - (1 : Int32)))), none]) rfl rfl ?_
          refine Eval.aload_n rfl rfl ?_
          refine Eval.getfield rfl rfl own_g1_target ?_
          refine Eval.iload_n rfl rfl ?_
          obtain ⟨hb210, h⟩ := ite_some h
          refine Eval.iaload rfl own_a1_target hb210 ?_
          refine Eval.istore (L' := [some (.ref 1), some (.int v1), some (.int s.f_blockSize), some (.int ((v1 + s.f_blockSize) - (1 : Int32))), some (.int (rd s.f_target (v1 - (1 : Int32)))), some (.int (rd s.f_target ((v1 + s.f_blockSize) - (1 : Int32))))]) rfl rfl ?_
          refine Eval.aload_n rfl rfl ?_
          refine Eval.aload_n rfl rfl ?_
          refine Eval.getfield rfl rfl own_g1_winA ?_
          refine Eval.iload rfl rfl ?_
          refine Eval.isub rfl ?_
          refine Eval.iload rfl rfl ?_
          refine Eval.iadd rfl ?_
          refine Eval.putfield rfl rfl own_p1_winA ?_
          refine Eval.aload_n rfl rfl ?_
          refine Eval.aload_n rfl rfl ?_
          refine Eval.getfield rfl rfl own_g1_winB ?_
          refine Eval.iload_n rfl rfl ?_
          refine Eval.iload rfl rfl ?_
          refine Eval.imul rfl ?_
          refine Eval.isub rfl ?_
          refine Eval.aload_n rfl rfl ?_
          refine Eval.getfield rfl rfl own_g1_winA ?_
          refine Eval.iadd rfl ?_
          refine Eval.putfield rfl rfl own_p1_winB ?_
          refine Eval.aload_n rfl rfl ?_
          refine Eval.iload_n rfl rfl ?_
          refine Eval.putfield rfl rfl own_p1_winPos ?_
          cases h
          subst hk
          exact Eval.retH own_mk1 rfl rfl
        · rw [if_neg hc208] at h
          refine Eval.icmpT (t := 112) rfl rfl (flt hc208).2.1 ?_
          refine Eval.weak (lw_mk 3 _) ?_
          exact ev_j_ensureWindow_b112 R scr s v1 h hk
    · rw [if_neg hc206] at h
      refine Eval.icmpT (t := 112) rfl rfl (feq hc206).2 ?_
      refine Eval.weak (lw_mk 3 _) ?_
      exact ev_j_ensureWindow_b112 R scr s v1 h hk
def j_ensureWindow (s : Q) (v1 : Int32) : Option (Q) := (if s.f_winPos < (0 : Int32) then (j_ensureWindow_b16 s v1) else (if s.f_winPos = v1 then some (s) else (j_ensureWindow_b16 s v1)))
set_option maxRecDepth 100000 in
theorem ev_j_ensureWindow (R : AHeap) (scr : List Int32) (s : Q) (v1 : Int32) {res : Q} {out : Option Value × AHeap} (h : j_ensureWindow s v1 = some res) (hk : out = (none, (W1 scr res R))) : Eval own_P 27 0 [some (.ref 1), some (.int v1), none, none, none, none] [] (W1 scr s R) out := by
  rw [j_ensureWindow] at h
  refine Eval.aload_n rfl rfl ?_
  refine Eval.getfield rfl rfl own_g1_winPos ?_
  by_cases hc193 : s.f_winPos < (0 : Int32)
  · rw [if_pos hc193] at h
    refine Eval.ifT (t := 16) rfl rfl (tlt hc193).1 ?_
    exact ev_j_ensureWindow_b16 R scr s v1 h hk
  · rw [if_neg hc193] at h
    refine Eval.ifF rfl (flt hc193).1 ?_
    refine Eval.aload_n rfl rfl ?_
    refine Eval.getfield rfl rfl own_g1_winPos ?_
    refine Eval.iload_n rfl rfl ?_
    by_cases hc211 : s.f_winPos = v1
    · rw [if_pos hc211] at h
      refine Eval.icmpF rfl (teq hc211).2 ?_
      cases h
      subst hk
      exact Eval.ret rfl rfl
    · rw [if_neg hc211] at h
      refine Eval.icmpT (t := 16) rfl rfl (feq hc211).2 ?_
      exact ev_j_ensureWindow_b16 R scr s v1 h hk
abbrev j_findFullMatch_l38_K (R : AHeap) (scr : List Int32) (s : Q) (res : (Int32) ⊕ (Unit)) (out : Option Value × AHeap) : Prop := Sum.elim (fun res => Eval own_P 26 116 [none, none, none, some (.int res), none, none, none, none] [] (W1 scr s R) out) (fun res => Eval own_P 26 131 [none, none, none, none, none, none, none, none] [] (W1 scr s R) out) res

abbrev j_strongOfTarget_l7_K (R : AHeap) (scr : List Int32) (s : Q) (res : (Int64) ⊕ (Int64)) (out : Option Value × AHeap) : Prop := Sum.elim (fun res => Eval own_P 30 32 [none, none, none, some (.long res), none, none, none] [] (W1 scr s R) out) (fun res => Eval own_P 30 58 [none, none, none, some (.long res), none, none, none] [] (W1 scr s R) out) res

def j_strongOfTarget_l7 : Nat → Q → Int32 → Int32 → Int64 → Int32 → Option ((Int64) ⊕ (Int64))
  | 0, _, _, _, _, _ => none
  | n + 1, s, v1, v2, v3, v5 => (if v5 < v2 then (if (v1 + v5) < (0 : Int32) then some (.inr (v3)) else (if (v1 + v5) < (256 : Int32) then (if inb s.f_target.length (v1 + v5) = true then (j_strongOfTarget_l7 n s v1 v2 ((v3 ^^^ (Int32.toInt64 (rd s.f_target (v1 + v5)))) * (1099511628211 : Int64)) (v5 + (1 : Int32))) else none) else some (.inl (v3)))) else some (.inr (v3)))
set_option maxRecDepth 100000 in
theorem ev_j_strongOfTarget_l7 (R : AHeap) (scr : List Int32) : ∀ (n : Nat) (s : Q) (v1 v2 : Int32) (v3 : Int64) (v5 : Int32) {res : (Int64) ⊕ (Int64)} {out : Option Value × AHeap}, j_strongOfTarget_l7 n s v1 v2 v3 v5 = some res → j_strongOfTarget_l7_K R scr s res out → Eval own_P 30 7 [some (.ref 1), some (.int v1), some (.int v2), some (.long v3), none, some (.int v5), none] [] (W1 scr s R) out := by
  intro n
  induction n with
  | zero => intro _ _ _ _ _ res out h hk; cases h
  | succ n hrec =>
    intro s v1 v2 v3 v5 res out h hk
    rw [j_strongOfTarget_l7] at h
    refine Eval.iload rfl rfl ?_
    refine Eval.iload_n rfl rfl ?_
    by_cases hc223 : v5 < v2
    · rw [if_pos hc223] at h
      refine Eval.icmpF rfl (tlt hc223).2.1 ?_
      refine Eval.iload_n rfl rfl ?_
      refine Eval.iload rfl rfl ?_
      refine Eval.iadd rfl ?_
      refine Eval.istore (L' := [some (.ref 1), some (.int v1), some (.int v2), some (.long v3), none, some (.int v5), some (.int (v1 + v5))]) rfl rfl ?_
      refine Eval.iload rfl rfl ?_
      by_cases hc224 : (v1 + v5) < (0 : Int32)
      · rw [if_pos hc224] at h
        refine Eval.ifT (t := 58) rfl rfl (tlt hc224).1 ?_
        cases h
        refine Eval.weak (lw_mk 8 _) ?_
        exact hk
      · rw [if_neg hc224] at h
        refine Eval.ifF rfl (flt hc224).1 ?_
        refine Eval.iload rfl rfl ?_
        refine Eval.sipush (x := (256 : Int32)) rfl rfl ?_
        by_cases hc225 : (v1 + v5) < (256 : Int32)
        · rw [if_pos hc225] at h
          refine Eval.icmpT (t := 35) rfl rfl (tlt hc225).1 ?_
          refine Eval.lload_n rfl rfl ?_
          refine Eval.aload_n rfl rfl ?_
          refine Eval.getfield rfl rfl own_g1_target ?_
          refine Eval.iload rfl rfl ?_
          obtain ⟨hb226, h⟩ := ite_some h
          refine Eval.iaload rfl own_a1_target hb226 ?_
          refine Eval.i2l rfl ?_
          refine Eval.lxor rfl ?_
          refine Eval.lstore_n (L' := [some (.ref 1), some (.int v1), some (.int v2), some (.long (v3 ^^^ (Int32.toInt64 (rd s.f_target (v1 + v5))))), none, some (.int v5), some (.int (v1 + v5))]) rfl rfl ?_
          refine Eval.lload_n rfl rfl ?_
          refine Eval.ldc2_w (x := (1099511628211 : Int64)) rfl rfl ?_
          refine Eval.lmul rfl ?_
          refine Eval.lstore_n (L' := [some (.ref 1), some (.int v1), some (.int v2), some (.long ((v3 ^^^ (Int32.toInt64 (rd s.f_target (v1 + v5)))) * (1099511628211 : Int64))), none, some (.int v5), some (.int (v1 + v5))]) rfl rfl ?_
          refine Eval.iinc (L' := [some (.ref 1), some (.int v1), some (.int v2), some (.long ((v3 ^^^ (Int32.toInt64 (rd s.f_target (v1 + v5)))) * (1099511628211 : Int64))), none, some (.int (v5 + (1 : Int32))), some (.int (v1 + v5))]) rfl rfl rfl ?_
          refine Eval.goto (t := 7) rfl rfl ?_
          refine Eval.weak (lw_mk 47 _) ?_
          exact hrec _ _ _ _ _ h hk
        · rw [if_neg hc225] at h
          refine Eval.icmpF rfl (flt hc225).1 ?_
          cases h
          refine Eval.weak (lw_mk 8 _) ?_
          exact hk
    · rw [if_neg hc223] at h
      refine Eval.icmpT (t := 58) rfl rfl (flt hc223).2.1 ?_
      cases h
      refine Eval.weak (lw_mk 8 _) ?_
      exact hk
def j_strongOfTarget_b58 (s : Q) (v3 : Int64) : Option (Int64) := some (v3)
set_option maxRecDepth 100000 in
theorem ev_j_strongOfTarget_b58 (R : AHeap) (scr : List Int32) (s : Q) (v3 : Int64) {res : Int64} {out : Option Value × AHeap} (h : j_strongOfTarget_b58 s v3 = some res) (hk : out = (some (.long res), (W1 scr s R))) : Eval own_P 30 58 [none, none, none, some (.long v3), none, none, none] [] (W1 scr s R) out := by
  rw [j_strongOfTarget_b58] at h
  refine Eval.lload_n rfl rfl ?_
  cases h
  subst hk
  exact Eval.ret rfl rfl
def j_strongOfTarget (s : Q) (v1 v2 : Int32) : Option (Int64) := ((j_strongOfTarget_l7 3000 s v1 v2 (-3750763034362895579 : Int64) (0 : Int32)).bind fun p227 => Sum.elim (fun p229 => (j_strongOfTarget_b58 s p229)) (fun p230 => (j_strongOfTarget_b58 s p230)) p227)
set_option maxRecDepth 100000 in
theorem ev_j_strongOfTarget (R : AHeap) (scr : List Int32) (s : Q) (v1 v2 : Int32) {res : Int64} {out : Option Value × AHeap} (h : j_strongOfTarget s v1 v2 = some res) (hk : out = (some (.long res), (W1 scr s R))) : Eval own_P 30 0 [some (.ref 1), some (.int v1), some (.int v2), none, none, none, none] [] (W1 scr s R) out := by
  rw [j_strongOfTarget] at h
  refine Eval.ldc2_w (x := (-3750763034362895579 : Int64)) rfl rfl ?_
  refine Eval.lstore_n (L' := [some (.ref 1), some (.int v1), some (.int v2), some (.long (-3750763034362895579 : Int64)), none, none, none]) rfl rfl ?_
  refine Eval.iconst (x := (0 : Int32)) rfl rfl ?_
  refine Eval.istore (L' := [some (.ref 1), some (.int v1), some (.int v2), some (.long (-3750763034362895579 : Int64)), none, some (.int (0 : Int32)), none]) rfl rfl ?_
  obtain ⟨p227, hq228, h⟩ := bind_some h
  rcases p227 with p229 | p230
  · dsimp only [Sum.elim] at h
    refine ev_j_strongOfTarget_l7 R scr _ s v1 v2 (-3750763034362895579 : Int64) (0 : Int32) hq228 ?_
    show Eval own_P 30 32 [none, none, none, some (.long p229), none, none, none] [] (W1 scr s R) out
    refine Eval.goto (t := 58) rfl rfl ?_
    exact ev_j_strongOfTarget_b58 R scr s p229 h hk
  · dsimp only [Sum.elim] at h
    refine ev_j_strongOfTarget_l7 R scr _ s v1 v2 (-3750763034362895579 : Int64) (0 : Int32) hq228 ?_
    show Eval own_P 30 58 [none, none, none, some (.long p230), none, none, none] [] (W1 scr s R) out
    exact ev_j_strongOfTarget_b58 R scr s p230 h hk
def j_findFullMatch_b118 (go_ : Q → Int32 → Int32 → Int32 → Int32 → Int64 → Int32 → Option ((Int32) ⊕ (Unit))) (s : Q) (v1 v2 : Int32) (v3 v4 : Int32) (v5 : Int64) (v7 : Int32) : Option ((Int32) ⊕ (Unit)) := (if inb s.f_next.length v3 = true then (go_ s v1 v2 (rd s.f_next v3) v4 v5 (v7 + (1 : Int32))) else none)
set_option maxRecDepth 100000 in
theorem ev_j_findFullMatch_b118 (R : AHeap) (scr : List Int32) (go_ : Q → Int32 → Int32 → Int32 → Int32 → Int64 → Int32 → Option ((Int32) ⊕ (Unit))) (hrec : ∀ (s : Q) (v1 v2 : Int32) (v3 v4 : Int32) (v5 : Int64) (v7 : Int32) {res : (Int32) ⊕ (Unit)} {out : Option Value × AHeap}, go_ s v1 v2 v3 v4 v5 v7 = some res → j_findFullMatch_l38_K R scr s res out → Eval own_P 26 38 [some (.ref 1), some (.int v1), some (.int v2), some (.int v3), some (.int v4), some (.long v5), none, some (.int v7)] [] (W1 scr s R) out) (s : Q) (v1 v2 : Int32) (v3 v4 : Int32) (v5 : Int64) (v7 : Int32) {res : (Int32) ⊕ (Unit)} {out : Option Value × AHeap} (h : j_findFullMatch_b118 go_ s v1 v2 v3 v4 v5 v7 = some res) (hk : j_findFullMatch_l38_K R scr s res out) : Eval own_P 26 118 [some (.ref 1), some (.int v1), some (.int v2), some (.int v3), some (.int v4), some (.long v5), none, some (.int v7)] [] (W1 scr s R) out := by
  rw [j_findFullMatch_b118] at h
  refine Eval.aload_n rfl rfl ?_
  refine Eval.getfield rfl rfl own_g1_next ?_
  refine Eval.iload_n rfl rfl ?_
  obtain ⟨hb238, h⟩ := ite_some h
  refine Eval.iaload rfl own_a1_next hb238 ?_
  refine Eval.istore_n (L' := [some (.ref 1), some (.int v1), some (.int v2), some (.int (rd s.f_next v3)), some (.int v4), some (.long v5), none, some (.int v7)]) rfl rfl ?_
  refine Eval.iinc (L' := [some (.ref 1), some (.int v1), some (.int v2), some (.int (rd s.f_next v3)), some (.int v4), some (.long v5), none, some (.int (v7 + (1 : Int32)))]) rfl rfl rfl ?_
  refine Eval.goto (t := 38) rfl rfl ?_
  exact hrec _ _ _ _ _ _ _ h hk
def j_findFullMatch_b86 (go_ : Q → Int32 → Int32 → Int32 → Int32 → Int64 → Int32 → Option ((Int32) ⊕ (Unit))) (s : Q) (v1 v2 : Int32) (v3 v4 : Int32) (v5 : Int64) (v7 : Int32) : Option ((Int32) ⊕ (Unit)) := (if inb s.f_blkStrong.length v3 = true then (if (lcm (rdL s.f_blkStrong v3) v5) = (0 : Int32) then ((j_sameBytes s (v3 * s.f_blockSize) v1 s.f_blockSize).bind fun p235 => (if p235 = (0 : Int32) then (j_findFullMatch_b118 (go_) s v1 v2 v3 v4 v5 v7) else some (.inl (v3)))) else (j_findFullMatch_b118 (go_) s v1 v2 v3 v4 v5 v7)) else none)
set_option maxRecDepth 100000 in
theorem ev_j_findFullMatch_b86 (R : AHeap) (scr : List Int32) (go_ : Q → Int32 → Int32 → Int32 → Int32 → Int64 → Int32 → Option ((Int32) ⊕ (Unit))) (hrec : ∀ (s : Q) (v1 v2 : Int32) (v3 v4 : Int32) (v5 : Int64) (v7 : Int32) {res : (Int32) ⊕ (Unit)} {out : Option Value × AHeap}, go_ s v1 v2 v3 v4 v5 v7 = some res → j_findFullMatch_l38_K R scr s res out → Eval own_P 26 38 [some (.ref 1), some (.int v1), some (.int v2), some (.int v3), some (.int v4), some (.long v5), none, some (.int v7)] [] (W1 scr s R) out) (s : Q) (v1 v2 : Int32) (v3 v4 : Int32) (v5 : Int64) (v7 : Int32) {res : (Int32) ⊕ (Unit)} {out : Option Value × AHeap} (h : j_findFullMatch_b86 go_ s v1 v2 v3 v4 v5 v7 = some res) (hk : j_findFullMatch_l38_K R scr s res out) : Eval own_P 26 86 [some (.ref 1), some (.int v1), some (.int v2), some (.int v3), some (.int v4), some (.long v5), none, some (.int v7)] [] (W1 scr s R) out := by
  rw [j_findFullMatch_b86] at h
  refine Eval.aload_n rfl rfl ?_
  refine Eval.getfield rfl rfl own_g1_blkStrong ?_
  refine Eval.iload_n rfl rfl ?_
  obtain ⟨hb233, h⟩ := ite_some h
  refine Eval.laload rfl own_a1_blkStrong hb233 ?_
  refine Eval.lload rfl rfl ?_
  refine Eval.lcmp rfl ?_
  by_cases hc234 : (lcm (rdL s.f_blkStrong v3) v5) = (0 : Int32)
  · rw [if_pos hc234] at h
    refine Eval.ifF rfl (teq hc234).2 ?_
    refine Eval.aload_n rfl rfl ?_
    refine Eval.iload_n rfl rfl ?_
    refine Eval.aload_n rfl rfl ?_
    refine Eval.getfield rfl rfl own_g1_blockSize ?_
    refine Eval.imul rfl ?_
    refine Eval.iload_n rfl rfl ?_
    refine Eval.aload_n rfl rfl ?_
    refine Eval.getfield rfl rfl own_g1_blockSize ?_
    obtain ⟨p235, hq236, h⟩ := bind_some h
    refine Eval.callI (rest := []) (x := p235) (H1 := (W1 scr s R)) rfl rfl (ev_j_sameBytes R scr s (v3 * s.f_blockSize) v1 s.f_blockSize hq236 rfl) ?_
    by_cases hc237 : p235 = (0 : Int32)
    · rw [if_pos hc237] at h
      refine Eval.ifT (t := 118) rfl rfl (teq hc237).1 ?_
      exact ev_j_findFullMatch_b118 R scr _ hrec s v1 v2 v3 v4 v5 v7 h hk
    · rw [if_neg hc237] at h
      refine Eval.ifF rfl (feq hc237).1 ?_
      cases h
      refine Eval.weak (lw_mk 8 _) ?_
      exact hk
  · rw [if_neg hc234] at h
    refine Eval.ifT (t := 118) rfl rfl (feq hc234).2 ?_
    exact ev_j_findFullMatch_b118 R scr _ hrec s v1 v2 v3 v4 v5 v7 h hk
def j_findFullMatch_l38 : Nat → Q → Int32 → Int32 → Int32 → Int32 → Int64 → Int32 → Option ((Int32) ⊕ (Unit))
  | 0, _, _, _, _, _, _, _ => none
  | n + 1, s, v1, v2, v3, v4, v5, v7 => (if v7 < (128 : Int32) then (if v3 < (0 : Int32) then some (.inr ()) else (if v3 < (128 : Int32) then (if inb s.f_blkWeak.length v3 = true then (if (rd s.f_blkWeak v3) = v2 then (if v4 = (0 : Int32) then ((j_strongOfTarget s v1 s.f_blockSize).bind fun p231 => (j_findFullMatch_b86 (j_findFullMatch_l38 n) s v1 v2 v3 (1 : Int32) p231 v7)) else (j_findFullMatch_b86 (j_findFullMatch_l38 n) s v1 v2 v3 v4 v5 v7)) else (j_findFullMatch_b118 (j_findFullMatch_l38 n) s v1 v2 v3 v4 v5 v7)) else none) else some (.inr ()))) else some (.inr ()))
set_option maxRecDepth 100000 in
theorem ev_j_findFullMatch_l38 (R : AHeap) (scr : List Int32) : ∀ (n : Nat) (s : Q) (v1 v2 : Int32) (v3 v4 : Int32) (v5 : Int64) (v7 : Int32) {res : (Int32) ⊕ (Unit)} {out : Option Value × AHeap}, j_findFullMatch_l38 n s v1 v2 v3 v4 v5 v7 = some res → j_findFullMatch_l38_K R scr s res out → Eval own_P 26 38 [some (.ref 1), some (.int v1), some (.int v2), some (.int v3), some (.int v4), some (.long v5), none, some (.int v7)] [] (W1 scr s R) out := by
  intro n
  induction n with
  | zero => intro _ _ _ _ _ _ _ res out h hk; cases h
  | succ n hrec =>
    intro s v1 v2 v3 v4 v5 v7 res out h hk
    rw [j_findFullMatch_l38] at h
    refine Eval.iload rfl rfl ?_
    refine Eval.sipush (x := (128 : Int32)) rfl rfl ?_
    by_cases hc216 : v7 < (128 : Int32)
    · rw [if_pos hc216] at h
      refine Eval.icmpF rfl (tlt hc216).2.1 ?_
      refine Eval.iload_n rfl rfl ?_
      by_cases hc217 : v3 < (0 : Int32)
      · rw [if_pos hc217] at h
        refine Eval.ifT (t := 131) rfl rfl (tlt hc217).1 ?_
        cases h
        refine Eval.weak (lw_mk 0 _) ?_
        exact hk
      · rw [if_neg hc217] at h
        refine Eval.ifF rfl (flt hc217).1 ?_
        refine Eval.iload_n rfl rfl ?_
        refine Eval.sipush (x := (128 : Int32)) rfl rfl ?_
        by_cases hc218 : v3 < (128 : Int32)
        · rw [if_pos hc218] at h
          refine Eval.icmpF rfl (tlt hc218).2.1 ?_
          refine Eval.aload_n rfl rfl ?_
          refine Eval.getfield rfl rfl own_g1_blkWeak ?_
          refine Eval.iload_n rfl rfl ?_
          obtain ⟨hb219, h⟩ := ite_some h
          refine Eval.iaload rfl own_a1_blkWeak hb219 ?_
          refine Eval.iload_n rfl rfl ?_
          by_cases hc220 : (rd s.f_blkWeak v3) = v2
          · rw [if_pos hc220] at h
            refine Eval.icmpF rfl (teq hc220).2 ?_
            refine Eval.iload rfl rfl ?_
            by_cases hc222 : v4 = (0 : Int32)
            · rw [if_pos hc222] at h
              refine Eval.ifF rfl (teq hc222).2 ?_
              refine Eval.aload_n rfl rfl ?_
              refine Eval.iload_n rfl rfl ?_
              refine Eval.aload_n rfl rfl ?_
              refine Eval.getfield rfl rfl own_g1_blockSize ?_
              obtain ⟨p231, hq232, h⟩ := bind_some h
              refine Eval.callJ (rest := []) (x := p231) (H1 := (W1 scr s R)) rfl rfl (ev_j_strongOfTarget R scr s v1 s.f_blockSize hq232 rfl) ?_
              refine Eval.lstore (L' := [some (.ref 1), some (.int v1), some (.int v2), some (.int v3), some (.int v4), some (.long p231), none, some (.int v7)]) rfl rfl ?_
              refine Eval.iconst (x := (1 : Int32)) rfl rfl ?_
              refine Eval.istore (L' := [some (.ref 1), some (.int v1), some (.int v2), some (.int v3), some (.int (1 : Int32)), some (.long p231), none, some (.int v7)]) rfl rfl ?_
              exact ev_j_findFullMatch_b86 R scr _ hrec s v1 v2 v3 (1 : Int32) p231 v7 h hk
            · rw [if_neg hc222] at h
              refine Eval.ifT (t := 86) rfl rfl (feq hc222).2 ?_
              exact ev_j_findFullMatch_b86 R scr _ hrec s v1 v2 v3 v4 v5 v7 h hk
          · rw [if_neg hc220] at h
            refine Eval.icmpT (t := 118) rfl rfl (feq hc220).2 ?_
            exact ev_j_findFullMatch_b118 R scr _ hrec s v1 v2 v3 v4 v5 v7 h hk
        · rw [if_neg hc218] at h
          refine Eval.icmpT (t := 131) rfl rfl (flt hc218).2.1 ?_
          cases h
          refine Eval.weak (lw_mk 0 _) ?_
          exact hk
    · rw [if_neg hc216] at h
      refine Eval.icmpT (t := 131) rfl rfl (flt hc216).2.1 ?_
      cases h
      refine Eval.weak (lw_mk 0 _) ?_
      exact hk
def j_findFullMatch (s : Q) (v1 : Int32) : Option (Int32 × Q) := ((j_ensureWindow s v1).bind fun p212 => (if inb p212.f_head.length (j_bucketOf (j_packWeak p212.f_winA p212.f_winB)) = true then ((j_findFullMatch_l38 3000 p212 v1 (j_packWeak p212.f_winA p212.f_winB) (rd p212.f_head (j_bucketOf (j_packWeak p212.f_winA p212.f_winB))) (0 : Int32) (0 : Int64) (0 : Int32)).bind fun p239 => Sum.elim (fun p241 => some (p241, p212)) (fun p242 => some ((-1 : Int32), p212)) p239) else none))
set_option maxRecDepth 100000 in
theorem ev_j_findFullMatch (R : AHeap) (scr : List Int32) (s : Q) (v1 : Int32) {res : Int32 × Q} {out : Option Value × AHeap} (h : j_findFullMatch s v1 = some res) (hk : out = (some (.int res.1), (W1 scr res.2 R))) : Eval own_P 26 0 [some (.ref 1), some (.int v1), none, none, none, none, none, none] [] (W1 scr s R) out := by
  rw [j_findFullMatch] at h
  refine Eval.aload_n rfl rfl ?_
  refine Eval.iload_n rfl rfl ?_
  obtain ⟨p212, hq213, h⟩ := bind_some h
  refine Eval.callN (rest := []) (H1 := (W1 scr p212 R)) rfl rfl (ev_j_ensureWindow R scr s v1 hq213 rfl) ?_
  refine Eval.aload_n rfl rfl ?_
  refine Eval.aload_n rfl rfl ?_
  refine Eval.getfield rfl rfl own_g1_winA ?_
  refine Eval.aload_n rfl rfl ?_
  refine Eval.getfield rfl rfl own_g1_winB ?_
  refine Eval.callI (rest := []) (x := (j_packWeak p212.f_winA p212.f_winB)) (H1 := (W1 scr p212 R)) rfl rfl (ev_j_packWeak (W1 scr p212 R) 1 p212.f_winA p212.f_winB rfl rfl) ?_
  refine Eval.istore_n (L' := [some (.ref 1), some (.int v1), some (.int (j_packWeak p212.f_winA p212.f_winB)), none, none, none, none, none]) rfl rfl ?_
  refine Eval.aload_n rfl rfl ?_
  refine Eval.getfield rfl rfl own_g1_head ?_
  refine Eval.aload_n rfl rfl ?_
  refine Eval.iload_n rfl rfl ?_
  refine Eval.callI (rest := [.ref 9]) (x := (j_bucketOf (j_packWeak p212.f_winA p212.f_winB))) (H1 := (W1 scr p212 R)) rfl rfl (ev_j_bucketOf (W1 scr p212 R) 1 (j_packWeak p212.f_winA p212.f_winB) rfl rfl) ?_
  obtain ⟨hb215, h⟩ := ite_some h
  refine Eval.iaload rfl own_a1_head hb215 ?_
  refine Eval.istore_n (L' := [some (.ref 1), some (.int v1), some (.int (j_packWeak p212.f_winA p212.f_winB)), some (.int (rd p212.f_head (j_bucketOf (j_packWeak p212.f_winA p212.f_winB)))), none, none, none, none]) rfl rfl ?_
  refine Eval.iconst (x := (0 : Int32)) rfl rfl ?_
  refine Eval.istore (L' := [some (.ref 1), some (.int v1), some (.int (j_packWeak p212.f_winA p212.f_winB)), some (.int (rd p212.f_head (j_bucketOf (j_packWeak p212.f_winA p212.f_winB)))), some (.int (0 : Int32)), none, none, none]) rfl rfl ?_
  refine Eval.lconst (x := (0 : Int64)) rfl rfl ?_
  refine Eval.lstore (L' := [some (.ref 1), some (.int v1), some (.int (j_packWeak p212.f_winA p212.f_winB)), some (.int (rd p212.f_head (j_bucketOf (j_packWeak p212.f_winA p212.f_winB)))), some (.int (0 : Int32)), some (.long (0 : Int64)), none, none]) rfl rfl ?_
  refine Eval.iconst (x := (0 : Int32)) rfl rfl ?_
  refine Eval.istore (L' := [some (.ref 1), some (.int v1), some (.int (j_packWeak p212.f_winA p212.f_winB)), some (.int (rd p212.f_head (j_bucketOf (j_packWeak p212.f_winA p212.f_winB)))), some (.int (0 : Int32)), some (.long (0 : Int64)), none, some (.int (0 : Int32))]) rfl rfl ?_
  obtain ⟨p239, hq240, h⟩ := bind_some h
  rcases p239 with p241 | p242
  · dsimp only [Sum.elim] at h
    refine ev_j_findFullMatch_l38 R scr _ p212 v1 (j_packWeak p212.f_winA p212.f_winB) (rd p212.f_head (j_bucketOf (j_packWeak p212.f_winA p212.f_winB))) (0 : Int32) (0 : Int64) (0 : Int32) hq240 ?_
    show Eval own_P 26 116 [none, none, none, some (.int p241), none, none, none, none] [] (W1 scr p212 R) out
    refine Eval.iload_n rfl rfl ?_
    cases h
    subst hk
    exact Eval.ret rfl rfl
  · dsimp only [Sum.elim] at h
    refine ev_j_findFullMatch_l38 R scr _ p212 v1 (j_packWeak p212.f_winA p212.f_winB) (rd p212.f_head (j_bucketOf (j_packWeak p212.f_winA p212.f_winB))) (0 : Int32) (0 : Int64) (0 : Int32) hq240 ?_
    show Eval own_P 26 131 [none, none, none, none, none, none, none, none] [] (W1 scr p212 R) out
    refine Eval.iconst (x := (-1 : Int32)) rfl rfl ?_
    cases h
    subst hk
    exact Eval.ret rfl rfl
def j_findMatch (s : Q) (v1 : Int32) : Option (Int32 × Q) := (if s.f_targetLen < (v1 + s.f_blockSize) then (j_findMatch_b21 s v1 (-1 : Int32)) else ((j_findFullMatch s v1).bind fun p243 => (j_findMatch_b21 p243.2 v1 p243.1)))
set_option maxRecDepth 100000 in
theorem ev_j_findMatch (R : AHeap) (scr : List Int32) (s : Q) (v1 : Int32) {res : Int32 × Q} {out : Option Value × AHeap} (h : j_findMatch s v1 = some res) (hk : out = (some (.int res.1), (W1 scr res.2 R))) : Eval own_P 19 0 [some (.ref 1), some (.int v1), none, none] [] (W1 scr s R) out := by
  rw [j_findMatch] at h
  refine Eval.iconst (x := (-1 : Int32)) rfl rfl ?_
  refine Eval.istore_n (L' := [some (.ref 1), some (.int v1), some (.int (-1 : Int32)), none]) rfl rfl ?_
  refine Eval.iload_n rfl rfl ?_
  refine Eval.aload_n rfl rfl ?_
  refine Eval.getfield rfl rfl own_g1_blockSize ?_
  refine Eval.iadd rfl ?_
  refine Eval.aload_n rfl rfl ?_
  refine Eval.getfield rfl rfl own_g1_targetLen ?_
  by_cases hc170 : s.f_targetLen < (v1 + s.f_blockSize)
  · rw [if_pos hc170] at h
    refine Eval.icmpT (t := 21) rfl rfl (tlt hc170).2.2.1 ?_
    exact ev_j_findMatch_b21 R scr s v1 (-1 : Int32) h hk
  · rw [if_neg hc170] at h
    refine Eval.icmpF rfl (flt hc170).2.2.1 ?_
    refine Eval.aload_n rfl rfl ?_
    refine Eval.iload_n rfl rfl ?_
    obtain ⟨p243, hq244, h⟩ := bind_some h
    refine Eval.callI (rest := []) (x := p243.1) (H1 := (W1 scr p243.2 R)) rfl rfl (ev_j_findFullMatch R scr s v1 hq244 rfl) ?_
    refine Eval.istore_n (L' := [some (.ref 1), some (.int v1), some (.int p243.1), none]) rfl rfl ?_
    exact ev_j_findMatch_b21 R scr p243.2 v1 p243.1 h hk
def j_addOp (s : Q) (v1 v2 : Int32) : Option (Q) := (if s.f_ops < (256 : Int32) then (if inb s.f_kinds.length s.f_ops = true then (if inb s.f_values.length s.f_ops = true then some ((Q.mk s.f_basis s.f_target s.f_literal s.f_out s.f_blkLen s.f_blkWeak s.f_blkStrong s.f_head s.f_next (wr s.f_kinds s.f_ops v1) (wr s.f_values s.f_ops v2) s.f_blockSize s.f_basisLen s.f_targetLen s.f_literalLen s.f_outLen s.f_blocks (s.f_ops + (1 : Int32)) s.f_shortBlock s.f_winPos s.f_winA s.f_winB s.f_phaseNow)) else none) else none) else some (s))
set_option maxRecDepth 100000 in
theorem ev_j_addOp (R : AHeap) (scr : List Int32) (s : Q) (v1 v2 : Int32) {res : Q} {out : Option Value × AHeap} (h : j_addOp s v1 v2 = some res) (hk : out = (none, (W1 scr res R))) : Eval own_P 21 0 [some (.ref 1), some (.int v1), some (.int v2)] [] (W1 scr s R) out := by
  rw [j_addOp] at h
  refine Eval.aload_n rfl rfl ?_
  refine Eval.getfield rfl rfl own_g1_ops ?_
  refine Eval.sipush (x := (256 : Int32)) rfl rfl ?_
  by_cases hc263 : s.f_ops < (256 : Int32)
  · rw [if_pos hc263] at h
    refine Eval.icmpT (t := 11) rfl rfl (tlt hc263).1 ?_
    refine Eval.aload_n rfl rfl ?_
    refine Eval.getfield rfl rfl own_g1_kinds ?_
    refine Eval.aload_n rfl rfl ?_
    refine Eval.getfield rfl rfl own_g1_ops ?_
    refine Eval.iload_n rfl rfl ?_
    obtain ⟨hb264, h⟩ := ite_some h
    refine Eval.iastore rfl rfl own_a1_kinds hb264 own_s1_kinds ?_
    refine Eval.aload_n rfl rfl ?_
    refine Eval.getfield rfl rfl own_g1_values ?_
    refine Eval.aload_n rfl rfl ?_
    refine Eval.getfield rfl rfl own_g1_ops ?_
    refine Eval.iload_n rfl rfl ?_
    obtain ⟨hb265, h⟩ := ite_some h
    refine Eval.iastore rfl rfl own_a1_values hb265 own_s1_values ?_
    refine Eval.aload_n rfl rfl ?_
    refine Eval.dupR rfl ?_
    refine Eval.getfield rfl rfl own_g1_ops ?_
    refine Eval.iconst (x := (1 : Int32)) rfl rfl ?_
    refine Eval.iadd rfl ?_
    refine Eval.putfield rfl rfl own_p1_ops ?_
    cases h
    subst hk
    exact Eval.retH own_mk1 rfl rfl
  · rw [if_neg hc263] at h
    refine Eval.icmpF rfl (flt hc263).1 ?_
    cases h
    subst hk
    exact Eval.ret rfl rfl
def j_addLiteral_b86 (s : Q) : Option (Q) := ((j_addOp s (2 : Int32) (1 : Int32)).bind fun p266 => some (p266))
set_option maxRecDepth 100000 in
theorem ev_j_addLiteral_b86 (R : AHeap) (scr : List Int32) (s : Q) {res : Q} {out : Option Value × AHeap} (h : j_addLiteral_b86 s = some res) (hk : out = (none, (W1 scr res R))) : Eval own_P 20 86 [some (.ref 1), none] [] (W1 scr s R) out := by
  rw [j_addLiteral_b86] at h
  refine Eval.aload_n rfl rfl ?_
  refine Eval.iconst (x := (2 : Int32)) rfl rfl ?_
  refine Eval.iconst (x := (1 : Int32)) rfl rfl ?_
  obtain ⟨p266, hq267, h⟩ := bind_some h
  refine Eval.callN (rest := []) (H1 := (W1 scr p266 R)) rfl rfl (ev_j_addOp R scr s (2 : Int32) (1 : Int32) hq267 rfl) ?_
  cases h
  subst hk
  exact Eval.ret rfl rfl
def j_addLiteral_b46 (s : Q) : Option (Q) := (if (0 : Int32) < s.f_ops then (if inb s.f_kinds.length (s.f_ops - (1 : Int32)) = true then (if (rd s.f_kinds (s.f_ops - (1 : Int32))) = (2 : Int32) then (if inb s.f_values.length (s.f_ops - (1 : Int32)) = true then (if inb s.f_values.length (s.f_ops - (1 : Int32)) = true then some ((Q.mk s.f_basis s.f_target s.f_literal s.f_out s.f_blkLen s.f_blkWeak s.f_blkStrong s.f_head s.f_next s.f_kinds (wr s.f_values (s.f_ops - (1 : Int32)) ((rd s.f_values (s.f_ops - (1 : Int32))) + (1 : Int32))) s.f_blockSize s.f_basisLen s.f_targetLen s.f_literalLen s.f_outLen s.f_blocks s.f_ops s.f_shortBlock s.f_winPos s.f_winA s.f_winB s.f_phaseNow)) else none) else none) else (j_addLiteral_b86 s)) else none) else (j_addLiteral_b86 s))
set_option maxRecDepth 100000 in
theorem ev_j_addLiteral_b46 (R : AHeap) (scr : List Int32) (s : Q) {res : Q} {out : Option Value × AHeap} (h : j_addLiteral_b46 s = some res) (hk : out = (none, (W1 scr res R))) : Eval own_P 20 46 [some (.ref 1), none] [] (W1 scr s R) out := by
  rw [j_addLiteral_b46] at h
  refine Eval.aload_n rfl rfl ?_
  refine Eval.getfield rfl rfl own_g1_ops ?_
  by_cases hc258 : (0 : Int32) < s.f_ops
  · rw [if_pos hc258] at h
    refine Eval.ifF rfl (tlt hc258).2.2.2 ?_
    refine Eval.aload_n rfl rfl ?_
    refine Eval.getfield rfl rfl own_g1_kinds ?_
    refine Eval.aload_n rfl rfl ?_
    refine Eval.getfield rfl rfl own_g1_ops ?_
    refine Eval.iconst (x := (1 : Int32)) rfl rfl ?_
    refine Eval.isub rfl ?_
    obtain ⟨hb259, h⟩ := ite_some h
    refine Eval.iaload rfl own_a1_kinds hb259 ?_
    refine Eval.iconst (x := (2 : Int32)) rfl rfl ?_
    by_cases hc260 : (rd s.f_kinds (s.f_ops - (1 : Int32))) = (2 : Int32)
    · rw [if_pos hc260] at h
      refine Eval.icmpF rfl (teq hc260).2 ?_
      refine Eval.aload_n rfl rfl ?_
      refine Eval.getfield rfl rfl own_g1_values ?_
      refine Eval.aload_n rfl rfl ?_
      refine Eval.getfield rfl rfl own_g1_ops ?_
      refine Eval.iconst (x := (1 : Int32)) rfl rfl ?_
      refine Eval.isub rfl ?_
      refine Eval.dup2 rfl ?_
      obtain ⟨hb261, h⟩ := ite_some h
      refine Eval.iaload rfl own_a1_values hb261 ?_
      refine Eval.iconst (x := (1 : Int32)) rfl rfl ?_
      refine Eval.iadd rfl ?_
      obtain ⟨hb262, h⟩ := ite_some h
      refine Eval.iastore rfl rfl own_a1_values hb262 own_s1_values ?_
      refine Eval.goto (t := 92) rfl rfl ?_
      cases h
      subst hk
      exact Eval.retH own_mk1 rfl rfl
    · rw [if_neg hc260] at h
      refine Eval.icmpT (t := 86) rfl rfl (feq hc260).2 ?_
      exact ev_j_addLiteral_b86 R scr s h hk
  · rw [if_neg hc258] at h
    refine Eval.ifT (t := 86) rfl rfl (flt hc258).2.2.2 ?_
    exact ev_j_addLiteral_b86 R scr s h hk
def j_addLiteral (s : Q) (v1 : Int32) : Option (Q) := (if s.f_literalLen < (256 : Int32) then (if v1 < (0 : Int32) then (j_addLiteral_b46 s) else (if v1 < (256 : Int32) then (if inb s.f_target.length v1 = true then (if inb s.f_literal.length s.f_literalLen = true then (j_addLiteral_b46 (Q.mk s.f_basis s.f_target (wr s.f_literal s.f_literalLen (rd s.f_target v1)) s.f_out s.f_blkLen s.f_blkWeak s.f_blkStrong s.f_head s.f_next s.f_kinds s.f_values s.f_blockSize s.f_basisLen s.f_targetLen (s.f_literalLen + (1 : Int32)) s.f_outLen s.f_blocks s.f_ops s.f_shortBlock s.f_winPos s.f_winA s.f_winB s.f_phaseNow)) else none) else none) else (j_addLiteral_b46 s))) else (j_addLiteral_b46 s))
set_option maxRecDepth 100000 in
theorem ev_j_addLiteral (R : AHeap) (scr : List Int32) (s : Q) (v1 : Int32) {res : Q} {out : Option Value × AHeap} (h : j_addLiteral s v1 = some res) (hk : out = (none, (W1 scr res R))) : Eval own_P 20 0 [some (.ref 1), some (.int v1)] [] (W1 scr s R) out := by
  rw [j_addLiteral] at h
  refine Eval.aload_n rfl rfl ?_
  refine Eval.getfield rfl rfl own_g1_literalLen ?_
  refine Eval.sipush (x := (256 : Int32)) rfl rfl ?_
  by_cases hc254 : s.f_literalLen < (256 : Int32)
  · rw [if_pos hc254] at h
    refine Eval.icmpF rfl (tlt hc254).2.1 ?_
    refine Eval.iload_n rfl rfl ?_
    by_cases hc257 : v1 < (0 : Int32)
    · rw [if_pos hc257] at h
      refine Eval.ifT (t := 46) rfl rfl (tlt hc257).1 ?_
      refine Eval.weak (lw_mk 1 _) ?_
      exact ev_j_addLiteral_b46 R scr s h hk
    · rw [if_neg hc257] at h
      refine Eval.ifF rfl (flt hc257).1 ?_
      refine Eval.iload_n rfl rfl ?_
      refine Eval.sipush (x := (256 : Int32)) rfl rfl ?_
      by_cases hc270 : v1 < (256 : Int32)
      · rw [if_pos hc270] at h
        refine Eval.icmpF rfl (tlt hc270).2.1 ?_
        refine Eval.aload_n rfl rfl ?_
        refine Eval.getfield rfl rfl own_g1_literal ?_
        refine Eval.aload_n rfl rfl ?_
        refine Eval.getfield rfl rfl own_g1_literalLen ?_
        refine Eval.aload_n rfl rfl ?_
        refine Eval.getfield rfl rfl own_g1_target ?_
        refine Eval.iload_n rfl rfl ?_
        obtain ⟨hb271, h⟩ := ite_some h
        refine Eval.iaload rfl own_a1_target hb271 ?_
        obtain ⟨hb272, h⟩ := ite_some h
        refine Eval.iastore rfl rfl own_a1_literal hb272 own_s1_literal ?_
        refine Eval.aload_n rfl rfl ?_
        refine Eval.dupR rfl ?_
        refine Eval.getfield rfl rfl own_g1_literalLen ?_
        refine Eval.iconst (x := (1 : Int32)) rfl rfl ?_
        refine Eval.iadd rfl ?_
        refine Eval.putfield rfl rfl own_p1_literalLen ?_
        refine Eval.heap own_mk1 ?_
        refine Eval.weak (lw_mk 1 _) ?_
        exact ev_j_addLiteral_b46 R scr (Q.mk s.f_basis s.f_target (wr s.f_literal s.f_literalLen (rd s.f_target v1)) s.f_out s.f_blkLen s.f_blkWeak s.f_blkStrong s.f_head s.f_next s.f_kinds s.f_values s.f_blockSize s.f_basisLen s.f_targetLen (s.f_literalLen + (1 : Int32)) s.f_outLen s.f_blocks s.f_ops s.f_shortBlock s.f_winPos s.f_winA s.f_winB s.f_phaseNow) h hk
      · rw [if_neg hc270] at h
        refine Eval.icmpT (t := 46) rfl rfl (flt hc270).2.1 ?_
        refine Eval.weak (lw_mk 1 _) ?_
        exact ev_j_addLiteral_b46 R scr s h hk
  · rw [if_neg hc254] at h
    refine Eval.icmpT (t := 46) rfl rfl (flt hc254).2.1 ?_
    refine Eval.weak (lw_mk 1 _) ?_
    exact ev_j_addLiteral_b46 R scr s h hk
def j_encode_b80 (go_ : Q → Int32 → Int32 → Option (Q)) (s : Q) (v1 v2 : Int32) : Option (Q) := (go_ s v1 (v2 + (1 : Int32)))
set_option maxRecDepth 100000 in
theorem ev_j_encode_b80 (R : AHeap) (scr : List Int32) (go_ : Q → Int32 → Int32 → Option (Q)) (hrec : ∀ (s : Q) (v1 v2 : Int32) {res : Q} {out : Option Value × AHeap}, go_ s v1 v2 = some res → j_encode_l29_K R scr res out → Eval own_P 14 29 [some (.ref 1), some (.int v1), some (.int v2), none] [] (W1 scr s R) out) (s : Q) (v1 v2 : Int32) {res : Q} {out : Option Value × AHeap} (h : j_encode_b80 go_ s v1 v2 = some res) (hk : j_encode_l29_K R scr res out) : Eval own_P 14 80 [some (.ref 1), some (.int v1), some (.int v2), none] [] (W1 scr s R) out := by
  rw [j_encode_b80] at h
  refine Eval.iinc (L' := [some (.ref 1), some (.int v1), some (.int (v2 + (1 : Int32))), none]) rfl rfl rfl ?_
  refine Eval.goto (t := 29) rfl rfl ?_
  exact hrec _ _ _ h hk
def j_encode_l29 : Nat → Q → Int32 → Int32 → Option (Q)
  | 0, _, _, _ => none
  | n + 1, s, v1, v2 => (if v2 < (256 : Int32) then (if v1 < s.f_targetLen then ((j_findMatch s v1).bind fun p246 => (if p246.1 < (0 : Int32) then ((j_addLiteral p246.2 v1).bind fun p273 => (j_encode_b80 (j_encode_l29 n) p273 (v1 + (1 : Int32)) v2)) else ((j_addOp p246.2 (1 : Int32) p246.1).bind fun p276 => (if inb p276.f_blkLen.length p246.1 = true then (j_encode_b80 (j_encode_l29 n) p276 (v1 + (rd p276.f_blkLen p246.1)) v2) else none)))) else some (s)) else some (s))
set_option maxRecDepth 100000 in
theorem ev_j_encode_l29 (R : AHeap) (scr : List Int32) : ∀ (n : Nat) (s : Q) (v1 v2 : Int32) {res : Q} {out : Option Value × AHeap}, j_encode_l29 n s v1 v2 = some res → j_encode_l29_K R scr res out → Eval own_P 14 29 [some (.ref 1), some (.int v1), some (.int v2), none] [] (W1 scr s R) out := by
  intro n
  induction n with
  | zero => intro _ _ _ res out h hk; cases h
  | succ n hrec =>
    intro s v1 v2 res out h hk
    rw [j_encode_l29] at h
    refine Eval.iload_n rfl rfl ?_
    refine Eval.sipush (x := (256 : Int32)) rfl rfl ?_
    by_cases hc167 : v2 < (256 : Int32)
    · rw [if_pos hc167] at h
      refine Eval.icmpF rfl (tlt hc167).2.1 ?_
      refine Eval.iload_n rfl rfl ?_
      refine Eval.aload_n rfl rfl ?_
      refine Eval.getfield rfl rfl own_g1_targetLen ?_
      by_cases hc168 : v1 < s.f_targetLen
      · rw [if_pos hc168] at h
        refine Eval.icmpF rfl (tlt hc168).2.1 ?_
        refine Eval.aload_n rfl rfl ?_
        refine Eval.iload_n rfl rfl ?_
        obtain ⟨p246, hq247, h⟩ := bind_some h
        refine Eval.callI (rest := []) (x := p246.1) (H1 := (W1 scr p246.2 R)) rfl rfl (ev_j_findMatch R scr s v1 hq247 rfl) ?_
        refine Eval.istore_n (L' := [some (.ref 1), some (.int v1), some (.int v2), some (.int p246.1)]) rfl rfl ?_
        refine Eval.iload_n rfl rfl ?_
        by_cases hc250 : p246.1 < (0 : Int32)
        · rw [if_pos hc250] at h
          refine Eval.ifT (t := 72) rfl rfl (tlt hc250).1 ?_
          refine Eval.aload_n rfl rfl ?_
          refine Eval.iload_n rfl rfl ?_
          obtain ⟨p273, hq274, h⟩ := bind_some h
          refine Eval.callN (rest := []) (H1 := (W1 scr p273 R)) rfl rfl (ev_j_addLiteral R scr p246.2 v1 hq274 rfl) ?_
          refine Eval.iinc (L' := [some (.ref 1), some (.int (v1 + (1 : Int32))), some (.int v2), some (.int p246.1)]) rfl rfl rfl ?_
          refine Eval.weak (lw_mk 7 _) ?_
          exact ev_j_encode_b80 R scr _ hrec p273 (v1 + (1 : Int32)) v2 h hk
        · rw [if_neg hc250] at h
          refine Eval.ifF rfl (flt hc250).1 ?_
          refine Eval.aload_n rfl rfl ?_
          refine Eval.iconst (x := (1 : Int32)) rfl rfl ?_
          refine Eval.iload_n rfl rfl ?_
          obtain ⟨p276, hq277, h⟩ := bind_some h
          refine Eval.callN (rest := []) (H1 := (W1 scr p276 R)) rfl rfl (ev_j_addOp R scr p246.2 (1 : Int32) p246.1 hq277 rfl) ?_
          refine Eval.iload_n rfl rfl ?_
          refine Eval.aload_n rfl rfl ?_
          refine Eval.getfield rfl rfl own_g1_blkLen ?_
          refine Eval.iload_n rfl rfl ?_
          obtain ⟨hb279, h⟩ := ite_some h
          refine Eval.iaload rfl own_a1_blkLen hb279 ?_
          refine Eval.iadd rfl ?_
          refine Eval.istore_n (L' := [some (.ref 1), some (.int (v1 + (rd p276.f_blkLen p246.1))), some (.int v2), some (.int p246.1)]) rfl rfl ?_
          refine Eval.goto (t := 80) rfl rfl ?_
          refine Eval.weak (lw_mk 7 _) ?_
          exact ev_j_encode_b80 R scr _ hrec p276 (v1 + (rd p276.f_blkLen p246.1)) v2 h hk
      · rw [if_neg hc168] at h
        refine Eval.icmpT (t := 86) rfl rfl (flt hc168).2.1 ?_
        cases h
        refine Eval.weak (lw_mk 1 _) ?_
        exact hk
    · rw [if_neg hc167] at h
      refine Eval.icmpT (t := 86) rfl rfl (flt hc167).2.1 ?_
      cases h
      refine Eval.weak (lw_mk 1 _) ?_
      exact hk
def j_encode (s : Q) : Option (Int32 × Q) := (if s.f_phaseNow = (1 : Int32) then ((j_encode_l29 3000 (Q.mk s.f_basis s.f_target s.f_literal s.f_out s.f_blkLen s.f_blkWeak s.f_blkStrong s.f_head s.f_next s.f_kinds s.f_values s.f_blockSize s.f_basisLen s.f_targetLen (0 : Int32) s.f_outLen s.f_blocks (0 : Int32) s.f_shortBlock (-1 : Int32) s.f_winA s.f_winB s.f_phaseNow) (0 : Int32) (0 : Int32)).bind fun p280 => some (p280.f_ops, (Q.mk p280.f_basis p280.f_target p280.f_literal p280.f_out p280.f_blkLen p280.f_blkWeak p280.f_blkStrong p280.f_head p280.f_next p280.f_kinds p280.f_values p280.f_blockSize p280.f_basisLen p280.f_targetLen p280.f_literalLen p280.f_outLen p280.f_blocks p280.f_ops p280.f_shortBlock p280.f_winPos p280.f_winA p280.f_winB (2 : Int32)))) else some ((-1 : Int32), s))
set_option maxRecDepth 100000 in
theorem ev_j_encode (R : AHeap) (scr : List Int32) (s : Q) {res : Int32 × Q} {out : Option Value × AHeap} (h : j_encode s = some res) (hk : out = (some (.int res.1), (W1 scr res.2 R))) : Eval own_P 14 0 [some (.ref 1), none, none, none] [] (W1 scr s R) out := by
  rw [j_encode] at h
  refine Eval.aload_n rfl rfl ?_
  refine Eval.getfield rfl rfl own_g1_phaseNow ?_
  refine Eval.iconst (x := (1 : Int32)) rfl rfl ?_
  by_cases hc166 : s.f_phaseNow = (1 : Int32)
  · rw [if_pos hc166] at h
    refine Eval.icmpT (t := 10) rfl rfl (teq hc166).1 ?_
    refine Eval.aload_n rfl rfl ?_
    refine Eval.iconst (x := (0 : Int32)) rfl rfl ?_
    refine Eval.putfield rfl rfl own_p1_ops ?_
    refine Eval.aload_n rfl rfl ?_
    refine Eval.iconst (x := (0 : Int32)) rfl rfl ?_
    refine Eval.putfield rfl rfl own_p1_literalLen ?_
    refine Eval.aload_n rfl rfl ?_
    refine Eval.iconst (x := (-1 : Int32)) rfl rfl ?_
    refine Eval.putfield rfl rfl own_p1_winPos ?_
    refine Eval.iconst (x := (0 : Int32)) rfl rfl ?_
    refine Eval.istore_n (L' := [some (.ref 1), some (.int (0 : Int32)), none, none]) rfl rfl ?_
    refine Eval.iconst (x := (0 : Int32)) rfl rfl ?_
    refine Eval.istore_n (L' := [some (.ref 1), some (.int (0 : Int32)), some (.int (0 : Int32)), none]) rfl rfl ?_
    refine Eval.heap own_mk1 ?_
    obtain ⟨p280, hq281, h⟩ := bind_some h
    refine ev_j_encode_l29 R scr _ (Q.mk s.f_basis s.f_target s.f_literal s.f_out s.f_blkLen s.f_blkWeak s.f_blkStrong s.f_head s.f_next s.f_kinds s.f_values s.f_blockSize s.f_basisLen s.f_targetLen (0 : Int32) s.f_outLen s.f_blocks (0 : Int32) s.f_shortBlock (-1 : Int32) s.f_winA s.f_winB s.f_phaseNow) (0 : Int32) (0 : Int32) hq281 ?_
    show Eval own_P 14 86 [some (.ref 1), none, none, none] [] (W1 scr p280 R) out
    refine Eval.aload_n rfl rfl ?_
    refine Eval.iconst (x := (2 : Int32)) rfl rfl ?_
    refine Eval.putfield rfl rfl own_p1_phaseNow ?_
    refine Eval.aload_n rfl rfl ?_
    refine Eval.getfield rfl rfl own_g1_ops ?_
    cases h
    subst hk
    exact Eval.retH own_mk1 rfl rfl
  · rw [if_neg hc166] at h
    refine Eval.icmpF rfl (feq hc166).1 ?_
    refine Eval.iconst (x := (-1 : Int32)) rfl rfl ?_
    cases h
    subst hk
    exact Eval.ret rfl rfl
def law_b425 (go_ : Q → List Int32 → Int32 → Int32 → Int32 → Int32 → Int32 → Int32 → Int32 → Int32 → Option ((Q) ⊕ ((Q) ⊕ ((Q) ⊕ ((Q) ⊕ ((Q) ⊕ ((Q) ⊕ ((Q) ⊕ ((Q) ⊕ ((Q) ⊕ ((Q) ⊕ ((Q) ⊕ (Q))))))))))))) (s : Q) (scr : List Int32) (v2 v4 : Int32) (v5 v6 : Int32) (v7 v8 : Int32) (v9 v10 : Int32) : Option ((Q) ⊕ ((Q) ⊕ ((Q) ⊕ ((Q) ⊕ ((Q) ⊕ ((Q) ⊕ ((Q) ⊕ ((Q) ⊕ ((Q) ⊕ ((Q) ⊕ ((Q) ⊕ (Q)))))))))))) := (law_b495 (go_) s scr v2 v4 v5 v6 v7 v8 v9 v10)
set_option maxRecDepth 100000 in
theorem ev_law_b425 (go_ : Q → List Int32 → Int32 → Int32 → Int32 → Int32 → Int32 → Int32 → Int32 → Int32 → Option ((Q) ⊕ ((Q) ⊕ ((Q) ⊕ ((Q) ⊕ ((Q) ⊕ ((Q) ⊕ ((Q) ⊕ ((Q) ⊕ ((Q) ⊕ ((Q) ⊕ ((Q) ⊕ (Q))))))))))))) (hrec : ∀ (s : Q) (scr : List Int32) (v2 v4 : Int32) (v5 v6 : Int32) (v7 v8 : Int32) (v9 v10 : Int32) {res : (Q) ⊕ ((Q) ⊕ ((Q) ⊕ ((Q) ⊕ ((Q) ⊕ ((Q) ⊕ ((Q) ⊕ ((Q) ⊕ ((Q) ⊕ ((Q) ⊕ ((Q) ⊕ (Q)))))))))))} {out : Option Value × AHeap}, go_ s scr v2 v4 v5 v6 v7 v8 v9 v10 = some res → law_l65_K scr res out → Eval own_P 0 65 [some (.ref 0), none, some (.int v2), some (.ref 1), some (.int v4), some (.int v5), some (.int v6), some (.int v7), some (.int v8), some (.int v9), some (.int v10), none, none, none, none, none] [] (W1 scr s []) out) (s : Q) (scr : List Int32) (v2 v4 : Int32) (v5 v6 : Int32) (v7 v8 : Int32) (v9 v10 : Int32) {res : (Q) ⊕ ((Q) ⊕ ((Q) ⊕ ((Q) ⊕ ((Q) ⊕ ((Q) ⊕ ((Q) ⊕ ((Q) ⊕ ((Q) ⊕ ((Q) ⊕ ((Q) ⊕ (Q)))))))))))} {out : Option Value × AHeap} (h : law_b425 go_ s scr v2 v4 v5 v6 v7 v8 v9 v10 = some res) (hk : law_l65_K scr res out) : Eval own_P 0 425 [some (.ref 0), none, some (.int v2), some (.ref 1), some (.int v4), some (.int v5), some (.int v6), some (.int v7), some (.int v8), some (.int v9), some (.int v10), none, none, none, none, none] [] (W1 scr s []) out := by
  rw [law_b425] at h
  refine Eval.goto (t := 495) rfl rfl ?_
  exact ev_law_b495 _ hrec s scr v2 v4 v5 v6 v7 v8 v9 v10 h hk
def law_b402 (go_ : Q → List Int32 → Int32 → Int32 → Int32 → Int32 → Int32 → Int32 → Int32 → Int32 → Option ((Q) ⊕ ((Q) ⊕ ((Q) ⊕ ((Q) ⊕ ((Q) ⊕ ((Q) ⊕ ((Q) ⊕ ((Q) ⊕ ((Q) ⊕ ((Q) ⊕ ((Q) ⊕ (Q))))))))))))) (s : Q) (scr : List Int32) (v2 v5 : Int32) (v6 v8 : Int32) (v9 v10 : Int32) (v14 w0 w1 : Int32) : Option ((Q) ⊕ ((Q) ⊕ ((Q) ⊕ ((Q) ⊕ ((Q) ⊕ ((Q) ⊕ ((Q) ⊕ ((Q) ⊕ ((Q) ⊕ ((Q) ⊕ ((Q) ⊕ (Q)))))))))))) := (if w0 = w1 then (law_b425 (go_) s scr v2 (2 : Int32) v5 v6 v14 v8 v9 v10) else some (.inr (.inr (.inr (.inr (.inr (.inr (.inl (s)))))))))
set_option maxRecDepth 100000 in
theorem ev_law_b402 (go_ : Q → List Int32 → Int32 → Int32 → Int32 → Int32 → Int32 → Int32 → Int32 → Int32 → Option ((Q) ⊕ ((Q) ⊕ ((Q) ⊕ ((Q) ⊕ ((Q) ⊕ ((Q) ⊕ ((Q) ⊕ ((Q) ⊕ ((Q) ⊕ ((Q) ⊕ ((Q) ⊕ (Q))))))))))))) (hrec : ∀ (s : Q) (scr : List Int32) (v2 v4 : Int32) (v5 v6 : Int32) (v7 v8 : Int32) (v9 v10 : Int32) {res : (Q) ⊕ ((Q) ⊕ ((Q) ⊕ ((Q) ⊕ ((Q) ⊕ ((Q) ⊕ ((Q) ⊕ ((Q) ⊕ ((Q) ⊕ ((Q) ⊕ ((Q) ⊕ (Q)))))))))))} {out : Option Value × AHeap}, go_ s scr v2 v4 v5 v6 v7 v8 v9 v10 = some res → law_l65_K scr res out → Eval own_P 0 65 [some (.ref 0), none, some (.int v2), some (.ref 1), some (.int v4), some (.int v5), some (.int v6), some (.int v7), some (.int v8), some (.int v9), some (.int v10), none, none, none, none, none] [] (W1 scr s []) out) (s : Q) (scr : List Int32) (v2 v5 : Int32) (v6 v8 : Int32) (v9 v10 : Int32) (v14 w0 w1 : Int32) {res : (Q) ⊕ ((Q) ⊕ ((Q) ⊕ ((Q) ⊕ ((Q) ⊕ ((Q) ⊕ ((Q) ⊕ ((Q) ⊕ ((Q) ⊕ ((Q) ⊕ ((Q) ⊕ (Q)))))))))))} {out : Option Value × AHeap} (h : law_b402 go_ s scr v2 v5 v6 v8 v9 v10 v14 w0 w1 = some res) (hk : law_l65_K scr res out) : Eval own_P 0 402 [some (.ref 0), none, some (.int v2), some (.ref 1), none, some (.int v5), some (.int v6), none, some (.int v8), some (.int v9), some (.int v10), none, none, none, some (.int v14), none] [.int w1, .int w0] (W1 scr s []) out := by
  rw [law_b402] at h
  by_cases hc292 : w0 = w1
  · rw [if_pos hc292] at h
    refine Eval.icmpT (t := 407) rfl rfl (teq hc292).1 ?_
    refine Eval.iload rfl rfl ?_
    refine Eval.istore (L' := [some (.ref 0), none, some (.int v2), some (.ref 1), none, some (.int v5), some (.int v6), some (.int v14), some (.int v8), some (.int v9), some (.int v10), none, none, none, some (.int v14), none]) rfl rfl ?_
    refine Eval.iconst (x := (2 : Int32)) rfl rfl ?_
    refine Eval.istore (L' := [some (.ref 0), none, some (.int v2), some (.ref 1), some (.int (2 : Int32)), some (.int v5), some (.int v6), some (.int v14), some (.int v8), some (.int v9), some (.int v10), none, none, none, some (.int v14), none]) rfl rfl ?_
    refine Eval.goto (t := 425) rfl rfl ?_
    refine Eval.weak (lw_mk 2045 _) ?_
    exact ev_law_b425 _ hrec s scr v2 (2 : Int32) v5 v6 v14 v8 v9 v10 h hk
  · rw [if_neg hc292] at h
    refine Eval.icmpF rfl (feq hc292).1 ?_
    cases h
    refine Eval.weak (lw_mk 0 _) ?_
    exact hk
def law_b392 (go_ : Q → List Int32 → Int32 → Int32 → Int32 → Int32 → Int32 → Int32 → Int32 → Int32 → Option ((Q) ⊕ ((Q) ⊕ ((Q) ⊕ ((Q) ⊕ ((Q) ⊕ ((Q) ⊕ ((Q) ⊕ ((Q) ⊕ ((Q) ⊕ ((Q) ⊕ ((Q) ⊕ (Q))))))))))))) (s : Q) (scr : List Int32) (v2 v5 : Int32) (v6 v8 : Int32) (v9 v10 : Int32) (v14 w0 : Int32) : Option ((Q) ⊕ ((Q) ⊕ ((Q) ⊕ ((Q) ⊕ ((Q) ⊕ ((Q) ⊕ ((Q) ⊕ ((Q) ⊕ ((Q) ⊕ ((Q) ⊕ ((Q) ⊕ (Q)))))))))))) := (law_b402 (go_) s scr v2 v5 v6 v8 v9 v10 v14 w0 (if v14 = (0 : Int32) then (1 : Int32) else (0 : Int32)))
set_option maxRecDepth 100000 in
theorem ev_law_b392 (go_ : Q → List Int32 → Int32 → Int32 → Int32 → Int32 → Int32 → Int32 → Int32 → Int32 → Option ((Q) ⊕ ((Q) ⊕ ((Q) ⊕ ((Q) ⊕ ((Q) ⊕ ((Q) ⊕ ((Q) ⊕ ((Q) ⊕ ((Q) ⊕ ((Q) ⊕ ((Q) ⊕ (Q))))))))))))) (hrec : ∀ (s : Q) (scr : List Int32) (v2 v4 : Int32) (v5 v6 : Int32) (v7 v8 : Int32) (v9 v10 : Int32) {res : (Q) ⊕ ((Q) ⊕ ((Q) ⊕ ((Q) ⊕ ((Q) ⊕ ((Q) ⊕ ((Q) ⊕ ((Q) ⊕ ((Q) ⊕ ((Q) ⊕ ((Q) ⊕ (Q)))))))))))} {out : Option Value × AHeap}, go_ s scr v2 v4 v5 v6 v7 v8 v9 v10 = some res → law_l65_K scr res out → Eval own_P 0 65 [some (.ref 0), none, some (.int v2), some (.ref 1), some (.int v4), some (.int v5), some (.int v6), some (.int v7), some (.int v8), some (.int v9), some (.int v10), none, none, none, none, none] [] (W1 scr s []) out) (s : Q) (scr : List Int32) (v2 v5 : Int32) (v6 v8 : Int32) (v9 v10 : Int32) (v14 w0 : Int32) {res : (Q) ⊕ ((Q) ⊕ ((Q) ⊕ ((Q) ⊕ ((Q) ⊕ ((Q) ⊕ ((Q) ⊕ ((Q) ⊕ ((Q) ⊕ ((Q) ⊕ ((Q) ⊕ (Q)))))))))))} {out : Option Value × AHeap} (h : law_b392 go_ s scr v2 v5 v6 v8 v9 v10 v14 w0 = some res) (hk : law_l65_K scr res out) : Eval own_P 0 392 [some (.ref 0), none, some (.int v2), some (.ref 1), none, some (.int v5), some (.int v6), none, some (.int v8), some (.int v9), some (.int v10), none, none, none, some (.int v14), none] [.int w0] (W1 scr s []) out := by
  rw [law_b392] at h
  refine Eval.iload rfl rfl ?_
  suffices hJ291 : Eval own_P 0 402 [some (.ref 0), none, some (.int v2), some (.ref 1), none, some (.int v5), some (.int v6), none, some (.int v8), some (.int v9), some (.int v10), none, none, none, some (.int v14), none] [.int (if v14 = (0 : Int32) then (1 : Int32) else (0 : Int32)), .int w0] (W1 scr s []) out by
    by_cases hc290 : v14 = (0 : Int32)
    · refine Eval.ifF rfl (teq hc290).2 ?_
      refine Eval.iconst (x := (1 : Int32)) rfl rfl ?_
      refine Eval.goto (t := 402) rfl rfl ?_
      exact (Eval.conv hJ291 rfl (by simp only [if_pos hc290]))
    · refine Eval.ifT (t := 401) rfl rfl (feq hc290).2 ?_
      refine Eval.iconst (x := (0 : Int32)) rfl rfl ?_
      exact (Eval.conv hJ291 rfl (by simp only [if_neg hc290]))
  exact ev_law_b402 _ hrec s scr v2 v5 v6 v8 v9 v10 v14 w0 (if v14 = (0 : Int32) then (1 : Int32) else (0 : Int32)) h hk
abbrev j_apply_l27_K (R : AHeap) (scr : List Int32) (res : Q) (out : Option Value × AHeap) : Prop := Eval own_P 13 83 [some (.ref 1), none, none] [] (W1 scr res R) out

abbrev j_apply_l27_N (s res : Q) : Prop := Q.len res = Q.len s
abbrev j_appendBlockToOut_l30_K (R : AHeap) (scr : List Int32) (res : (Q) ⊕ (Q)) (out : Option Value × AHeap) : Prop := Sum.elim (fun res => Eval own_P 31 65 [none, none, none, none, none, none] [] (W1 scr res R) out) (fun res => Eval own_P 31 100 [none, none, none, none, none, none] [] (W1 scr res R) out) res

abbrev j_appendBlockToOut_l30_N (s : Q) (res : (Q) ⊕ (Q)) : Prop := Sum.elim (fun res => Q.len res = Q.len s) (fun res => Q.len res = Q.len s) res
def j_appendBlockToOut_l30 : Nat → Q → Int32 → Int32 → Int32 → Option ((Q) ⊕ (Q))
  | 0, _, _, _, _ => none
  | n + 1, s, v2, v3, v4 => (if v4 < v3 then (if (v2 + v4) < (0 : Int32) then some (.inr (s)) else (if (v2 + v4) < (256 : Int32) then (if s.f_outLen < (256 : Int32) then (if inb s.f_basis.length (v2 + v4) = true then (if inb s.f_out.length s.f_outLen = true then (j_appendBlockToOut_l30 n (Q.mk s.f_basis s.f_target s.f_literal (wr s.f_out s.f_outLen (rd s.f_basis (v2 + v4))) s.f_blkLen s.f_blkWeak s.f_blkStrong s.f_head s.f_next s.f_kinds s.f_values s.f_blockSize s.f_basisLen s.f_targetLen s.f_literalLen (s.f_outLen + (1 : Int32)) s.f_blocks s.f_ops s.f_shortBlock s.f_winPos s.f_winA s.f_winB s.f_phaseNow) v2 v3 (v4 + (1 : Int32))) else none) else none) else some (.inl (s))) else some (.inr (s)))) else some (.inr (s)))
set_option maxRecDepth 100000 in
theorem ev_j_appendBlockToOut_l30 (R : AHeap) (scr : List Int32) : ∀ (n : Nat) (s : Q) (v2 v3 v4 : Int32) {res : (Q) ⊕ (Q)} {out : Option Value × AHeap}, j_appendBlockToOut_l30 n s v2 v3 v4 = some res → j_appendBlockToOut_l30_K R scr res out → Eval own_P 31 30 [some (.ref 1), none, some (.int v2), some (.int v3), some (.int v4), none] [] (W1 scr s R) out := by
  intro n
  induction n with
  | zero => intro _ _ _ _ res out h hk; cases h
  | succ n hrec =>
    intro s v2 v3 v4 res out h hk
    rw [j_appendBlockToOut_l30] at h
    refine Eval.iload rfl rfl ?_
    refine Eval.iload_n rfl rfl ?_
    by_cases hc305 : v4 < v3
    · rw [if_pos hc305] at h
      refine Eval.icmpF rfl (tlt hc305).2.1 ?_
      refine Eval.iload_n rfl rfl ?_
      refine Eval.iload rfl rfl ?_
      refine Eval.iadd rfl ?_
      refine Eval.istore (L' := [some (.ref 1), none, some (.int v2), some (.int v3), some (.int v4), some (.int (v2 + v4))]) rfl rfl ?_
      refine Eval.iload rfl rfl ?_
      by_cases hc306 : (v2 + v4) < (0 : Int32)
      · rw [if_pos hc306] at h
        refine Eval.ifT (t := 100) rfl rfl (tlt hc306).1 ?_
        cases h
        refine Eval.weak (lw_mk 0 _) ?_
        exact hk
      · rw [if_neg hc306] at h
        refine Eval.ifF rfl (flt hc306).1 ?_
        refine Eval.iload rfl rfl ?_
        refine Eval.sipush (x := (256 : Int32)) rfl rfl ?_
        by_cases hc307 : (v2 + v4) < (256 : Int32)
        · rw [if_pos hc307] at h
          refine Eval.icmpF rfl (tlt hc307).2.1 ?_
          refine Eval.aload_n rfl rfl ?_
          refine Eval.getfield rfl rfl own_g1_outLen ?_
          refine Eval.sipush (x := (256 : Int32)) rfl rfl ?_
          by_cases hc308 : s.f_outLen < (256 : Int32)
          · rw [if_pos hc308] at h
            refine Eval.icmpT (t := 68) rfl rfl (tlt hc308).1 ?_
            refine Eval.aload_n rfl rfl ?_
            refine Eval.getfield rfl rfl own_g1_out ?_
            refine Eval.aload_n rfl rfl ?_
            refine Eval.getfield rfl rfl own_g1_outLen ?_
            refine Eval.aload_n rfl rfl ?_
            refine Eval.getfield rfl rfl own_g1_basis ?_
            refine Eval.iload rfl rfl ?_
            obtain ⟨hb309, h⟩ := ite_some h
            refine Eval.iaload rfl own_a1_basis hb309 ?_
            obtain ⟨hb310, h⟩ := ite_some h
            refine Eval.iastore rfl rfl own_a1_out hb310 own_s1_out ?_
            refine Eval.aload_n rfl rfl ?_
            refine Eval.dupR rfl ?_
            refine Eval.getfield rfl rfl own_g1_outLen ?_
            refine Eval.iconst (x := (1 : Int32)) rfl rfl ?_
            refine Eval.iadd rfl ?_
            refine Eval.putfield rfl rfl own_p1_outLen ?_
            refine Eval.iinc (L' := [some (.ref 1), none, some (.int v2), some (.int v3), some (.int (v4 + (1 : Int32))), some (.int (v2 + v4))]) rfl rfl rfl ?_
            refine Eval.goto (t := 30) rfl rfl ?_
            refine Eval.heap own_mk1 ?_
            refine Eval.weak (lw_mk 29 _) ?_
            exact hrec _ _ _ _ h hk
          · rw [if_neg hc308] at h
            refine Eval.icmpF rfl (flt hc308).1 ?_
            cases h
            refine Eval.weak (lw_mk 0 _) ?_
            exact hk
        · rw [if_neg hc307] at h
          refine Eval.icmpT (t := 100) rfl rfl (flt hc307).2.1 ?_
          cases h
          refine Eval.weak (lw_mk 0 _) ?_
          exact hk
    · rw [if_neg hc305] at h
      refine Eval.icmpT (t := 100) rfl rfl (flt hc305).2.1 ?_
      cases h
      refine Eval.weak (lw_mk 0 _) ?_
      exact hk
def j_appendBlockToOut (s : Q) (v1 : Int32) : Option (Q) := (if v1 < (0 : Int32) then some (s) else (if v1 < s.f_blocks then (if inb s.f_blkLen.length v1 = true then ((j_appendBlockToOut_l30 3000 s (v1 * s.f_blockSize) (rd s.f_blkLen v1) (0 : Int32)).bind fun p311 => Sum.elim (fun p313 => some (p313)) (fun p314 => some (p314)) p311) else none) else some (s)))
set_option maxRecDepth 100000 in
theorem ev_j_appendBlockToOut (R : AHeap) (scr : List Int32) (s : Q) (v1 : Int32) {res : Q} {out : Option Value × AHeap} (h : j_appendBlockToOut s v1 = some res) (hk : out = (none, (W1 scr res R))) : Eval own_P 31 0 [some (.ref 1), some (.int v1), none, none, none, none] [] (W1 scr s R) out := by
  rw [j_appendBlockToOut] at h
  refine Eval.iload_n rfl rfl ?_
  by_cases hc302 : v1 < (0 : Int32)
  · rw [if_pos hc302] at h
    refine Eval.ifT (t := 12) rfl rfl (tlt hc302).1 ?_
    cases h
    subst hk
    exact Eval.ret rfl rfl
  · rw [if_neg hc302] at h
    refine Eval.ifF rfl (flt hc302).1 ?_
    refine Eval.iload_n rfl rfl ?_
    refine Eval.aload_n rfl rfl ?_
    refine Eval.getfield rfl rfl own_g1_blocks ?_
    by_cases hc303 : v1 < s.f_blocks
    · rw [if_pos hc303] at h
      refine Eval.icmpT (t := 13) rfl rfl (tlt hc303).1 ?_
      refine Eval.iload_n rfl rfl ?_
      refine Eval.aload_n rfl rfl ?_
      refine Eval.getfield rfl rfl own_g1_blockSize ?_
      refine Eval.imul rfl ?_
      refine Eval.istore_n (L' := [some (.ref 1), some (.int v1), some (.int (v1 * s.f_blockSize)), none, none, none]) rfl rfl ?_
      refine Eval.aload_n rfl rfl ?_
      refine Eval.getfield rfl rfl own_g1_blkLen ?_
      refine Eval.iload_n rfl rfl ?_
      obtain ⟨hb304, h⟩ := ite_some h
      refine Eval.iaload rfl own_a1_blkLen hb304 ?_
      refine Eval.istore_n (L' := [some (.ref 1), some (.int v1), some (.int (v1 * s.f_blockSize)), some (.int (rd s.f_blkLen v1)), none, none]) rfl rfl ?_
      refine Eval.iconst (x := (0 : Int32)) rfl rfl ?_
      refine Eval.istore (L' := [some (.ref 1), some (.int v1), some (.int (v1 * s.f_blockSize)), some (.int (rd s.f_blkLen v1)), some (.int (0 : Int32)), none]) rfl rfl ?_
      refine Eval.weak (lw_mk 29 _) ?_
      obtain ⟨p311, hq312, h⟩ := bind_some h
      rcases p311 with p313 | p314
      · dsimp only [Sum.elim] at h
        refine ev_j_appendBlockToOut_l30 R scr _ s (v1 * s.f_blockSize) (rd s.f_blkLen v1) (0 : Int32) hq312 ?_
        show Eval own_P 31 65 [none, none, none, none, none, none] [] (W1 scr p313 R) out
        refine Eval.goto (t := 100) rfl rfl ?_
        cases h
        subst hk
        exact Eval.ret rfl rfl
      · dsimp only [Sum.elim] at h
        refine ev_j_appendBlockToOut_l30 R scr _ s (v1 * s.f_blockSize) (rd s.f_blkLen v1) (0 : Int32) hq312 ?_
        show Eval own_P 31 100 [none, none, none, none, none, none] [] (W1 scr p314 R) out
        cases h
        subst hk
        exact Eval.ret rfl rfl
    · rw [if_neg hc303] at h
      refine Eval.icmpF rfl (flt hc303).1 ?_
      cases h
      subst hk
      exact Eval.ret rfl rfl
def j_apply_b77 (go_ : Q → Int32 → Int32 → Option (Q)) (s : Q) (v1 v2 : Int32) : Option (Q) := (go_ s v1 (v2 + (1 : Int32)))
set_option maxRecDepth 100000 in
theorem ev_j_apply_b77 (R : AHeap) (scr : List Int32) (go_ : Q → Int32 → Int32 → Option (Q)) (hrec : ∀ (s : Q) (v1 v2 : Int32) {res : Q} {out : Option Value × AHeap}, go_ s v1 v2 = some res → j_apply_l27_K R scr res out → Eval own_P 13 27 [some (.ref 1), some (.int v1), some (.int v2)] [] (W1 scr s R) out) (s : Q) (v1 v2 : Int32) {res : Q} {out : Option Value × AHeap} (h : j_apply_b77 go_ s v1 v2 = some res) (hk : j_apply_l27_K R scr res out) : Eval own_P 13 77 [some (.ref 1), some (.int v1), some (.int v2)] [] (W1 scr s R) out := by
  rw [j_apply_b77] at h
  refine Eval.iinc (L' := [some (.ref 1), some (.int v1), some (.int (v2 + (1 : Int32)))]) rfl rfl rfl ?_
  refine Eval.goto (t := 27) rfl rfl ?_
  exact hrec _ _ _ h hk
abbrev j_appendLiteralToOut_l5_K (R : AHeap) (scr : List Int32) (res : Int32 × Q) (out : Option Value × AHeap) : Prop := Eval own_P 25 82 [none, none, none, some (.int res.1), none] [] (W1 scr res.2 R) out

abbrev j_appendLiteralToOut_l5_N (s : Q) (res : Int32 × Q) : Prop := Q.len res.2 = Q.len s
def j_appendLiteralToOut_b73 (go_ : Q → Int32 → Int32 → Int32 → Option (Int32 × Q)) (s : Q) (v2 v3 v4 : Int32) : Option (Int32 × Q) := (go_ s v2 (v3 + (1 : Int32)) (v4 + (1 : Int32)))
set_option maxRecDepth 100000 in
theorem ev_j_appendLiteralToOut_b73 (R : AHeap) (scr : List Int32) (go_ : Q → Int32 → Int32 → Int32 → Option (Int32 × Q)) (hrec : ∀ (s : Q) (v2 v3 v4 : Int32) {res : Int32 × Q} {out : Option Value × AHeap}, go_ s v2 v3 v4 = some res → j_appendLiteralToOut_l5_K R scr res out → Eval own_P 25 5 [some (.ref 1), none, some (.int v2), some (.int v3), some (.int v4)] [] (W1 scr s R) out) (s : Q) (v2 v3 v4 : Int32) {res : Int32 × Q} {out : Option Value × AHeap} (h : j_appendLiteralToOut_b73 go_ s v2 v3 v4 = some res) (hk : j_appendLiteralToOut_l5_K R scr res out) : Eval own_P 25 73 [some (.ref 1), none, some (.int v2), some (.int v3), some (.int v4)] [] (W1 scr s R) out := by
  rw [j_appendLiteralToOut_b73] at h
  refine Eval.iinc (L' := [some (.ref 1), none, some (.int v2), some (.int (v3 + (1 : Int32))), some (.int v4)]) rfl rfl rfl ?_
  refine Eval.iinc (L' := [some (.ref 1), none, some (.int v2), some (.int (v3 + (1 : Int32))), some (.int (v4 + (1 : Int32)))]) rfl rfl rfl ?_
  refine Eval.goto (t := 5) rfl rfl ?_
  exact hrec _ _ _ _ h hk
def j_appendLiteralToOut_l5 : Nat → Q → Int32 → Int32 → Int32 → Option (Int32 × Q)
  | 0, _, _, _, _ => none
  | n + 1, s, v2, v3, v4 => (if v4 < v2 then (if v4 < (256 : Int32) then (if v3 < (0 : Int32) then (j_appendLiteralToOut_b73 (j_appendLiteralToOut_l5 n) s v2 v3 v4) else (if v3 < s.f_literalLen then (if v3 < (256 : Int32) then (if s.f_outLen < (256 : Int32) then (if inb s.f_literal.length v3 = true then (if inb s.f_out.length s.f_outLen = true then (j_appendLiteralToOut_b73 (j_appendLiteralToOut_l5 n) (Q.mk s.f_basis s.f_target s.f_literal (wr s.f_out s.f_outLen (rd s.f_literal v3)) s.f_blkLen s.f_blkWeak s.f_blkStrong s.f_head s.f_next s.f_kinds s.f_values s.f_blockSize s.f_basisLen s.f_targetLen s.f_literalLen (s.f_outLen + (1 : Int32)) s.f_blocks s.f_ops s.f_shortBlock s.f_winPos s.f_winA s.f_winB s.f_phaseNow) v2 v3 v4) else none) else none) else (j_appendLiteralToOut_b73 (j_appendLiteralToOut_l5 n) s v2 v3 v4)) else (j_appendLiteralToOut_b73 (j_appendLiteralToOut_l5 n) s v2 v3 v4)) else (j_appendLiteralToOut_b73 (j_appendLiteralToOut_l5 n) s v2 v3 v4))) else some (v3, s)) else some (v3, s))
set_option maxRecDepth 100000 in
theorem ev_j_appendLiteralToOut_l5 (R : AHeap) (scr : List Int32) : ∀ (n : Nat) (s : Q) (v2 v3 v4 : Int32) {res : Int32 × Q} {out : Option Value × AHeap}, j_appendLiteralToOut_l5 n s v2 v3 v4 = some res → j_appendLiteralToOut_l5_K R scr res out → Eval own_P 25 5 [some (.ref 1), none, some (.int v2), some (.int v3), some (.int v4)] [] (W1 scr s R) out := by
  intro n
  induction n with
  | zero => intro _ _ _ _ res out h hk; cases h
  | succ n hrec =>
    intro s v2 v3 v4 res out h hk
    rw [j_appendLiteralToOut_l5] at h
    refine Eval.iload rfl rfl ?_
    refine Eval.iload_n rfl rfl ?_
    by_cases hc321 : v4 < v2
    · rw [if_pos hc321] at h
      refine Eval.icmpF rfl (tlt hc321).2.1 ?_
      refine Eval.iload rfl rfl ?_
      refine Eval.sipush (x := (256 : Int32)) rfl rfl ?_
      by_cases hc322 : v4 < (256 : Int32)
      · rw [if_pos hc322] at h
        refine Eval.icmpF rfl (tlt hc322).2.1 ?_
        refine Eval.iload_n rfl rfl ?_
        by_cases hc327 : v3 < (0 : Int32)
        · rw [if_pos hc327] at h
          refine Eval.ifT (t := 73) rfl rfl (tlt hc327).1 ?_
          exact ev_j_appendLiteralToOut_b73 R scr _ hrec s v2 v3 v4 h hk
        · rw [if_neg hc327] at h
          refine Eval.ifF rfl (flt hc327).1 ?_
          refine Eval.iload_n rfl rfl ?_
          refine Eval.aload_n rfl rfl ?_
          refine Eval.getfield rfl rfl own_g1_literalLen ?_
          by_cases hc331 : v3 < s.f_literalLen
          · rw [if_pos hc331] at h
            refine Eval.icmpF rfl (tlt hc331).2.1 ?_
            refine Eval.iload_n rfl rfl ?_
            refine Eval.sipush (x := (256 : Int32)) rfl rfl ?_
            by_cases hc334 : v3 < (256 : Int32)
            · rw [if_pos hc334] at h
              refine Eval.icmpF rfl (tlt hc334).2.1 ?_
              refine Eval.aload_n rfl rfl ?_
              refine Eval.getfield rfl rfl own_g1_outLen ?_
              refine Eval.sipush (x := (256 : Int32)) rfl rfl ?_
              by_cases hc336 : s.f_outLen < (256 : Int32)
              · rw [if_pos hc336] at h
                refine Eval.icmpF rfl (tlt hc336).2.1 ?_
                refine Eval.aload_n rfl rfl ?_
                refine Eval.getfield rfl rfl own_g1_out ?_
                refine Eval.aload_n rfl rfl ?_
                refine Eval.getfield rfl rfl own_g1_outLen ?_
                refine Eval.aload_n rfl rfl ?_
                refine Eval.getfield rfl rfl own_g1_literal ?_
                refine Eval.iload_n rfl rfl ?_
                obtain ⟨hb337, h⟩ := ite_some h
                refine Eval.iaload rfl own_a1_literal hb337 ?_
                obtain ⟨hb338, h⟩ := ite_some h
                refine Eval.iastore rfl rfl own_a1_out hb338 own_s1_out ?_
                refine Eval.aload_n rfl rfl ?_
                refine Eval.dupR rfl ?_
                refine Eval.getfield rfl rfl own_g1_outLen ?_
                refine Eval.iconst (x := (1 : Int32)) rfl rfl ?_
                refine Eval.iadd rfl ?_
                refine Eval.putfield rfl rfl own_p1_outLen ?_
                refine Eval.heap own_mk1 ?_
                exact ev_j_appendLiteralToOut_b73 R scr _ hrec (Q.mk s.f_basis s.f_target s.f_literal (wr s.f_out s.f_outLen (rd s.f_literal v3)) s.f_blkLen s.f_blkWeak s.f_blkStrong s.f_head s.f_next s.f_kinds s.f_values s.f_blockSize s.f_basisLen s.f_targetLen s.f_literalLen (s.f_outLen + (1 : Int32)) s.f_blocks s.f_ops s.f_shortBlock s.f_winPos s.f_winA s.f_winB s.f_phaseNow) v2 v3 v4 h hk
              · rw [if_neg hc336] at h
                refine Eval.icmpT (t := 73) rfl rfl (flt hc336).2.1 ?_
                exact ev_j_appendLiteralToOut_b73 R scr _ hrec s v2 v3 v4 h hk
            · rw [if_neg hc334] at h
              refine Eval.icmpT (t := 73) rfl rfl (flt hc334).2.1 ?_
              exact ev_j_appendLiteralToOut_b73 R scr _ hrec s v2 v3 v4 h hk
          · rw [if_neg hc331] at h
            refine Eval.icmpT (t := 73) rfl rfl (flt hc331).2.1 ?_
            exact ev_j_appendLiteralToOut_b73 R scr _ hrec s v2 v3 v4 h hk
      · rw [if_neg hc322] at h
        refine Eval.icmpT (t := 82) rfl rfl (flt hc322).2.1 ?_
        cases h
        refine Eval.weak (lw_mk 8 _) ?_
        exact hk
    · rw [if_neg hc321] at h
      refine Eval.icmpT (t := 82) rfl rfl (flt hc321).2.1 ?_
      cases h
      refine Eval.weak (lw_mk 8 _) ?_
      exact hk
def j_appendLiteralToOut (s : Q) (v1 v2 : Int32) : Option (Int32 × Q) := ((j_appendLiteralToOut_l5 3000 s v2 v1 (0 : Int32)).bind fun p339 => some (p339.1, p339.2))
set_option maxRecDepth 100000 in
theorem ev_j_appendLiteralToOut (R : AHeap) (scr : List Int32) (s : Q) (v1 v2 : Int32) {res : Int32 × Q} {out : Option Value × AHeap} (h : j_appendLiteralToOut s v1 v2 = some res) (hk : out = (some (.int res.1), (W1 scr res.2 R))) : Eval own_P 25 0 [some (.ref 1), some (.int v1), some (.int v2), none, none] [] (W1 scr s R) out := by
  rw [j_appendLiteralToOut] at h
  refine Eval.iload_n rfl rfl ?_
  refine Eval.istore_n (L' := [some (.ref 1), some (.int v1), some (.int v2), some (.int v1), none]) rfl rfl ?_
  refine Eval.iconst (x := (0 : Int32)) rfl rfl ?_
  refine Eval.istore (L' := [some (.ref 1), some (.int v1), some (.int v2), some (.int v1), some (.int (0 : Int32))]) rfl rfl ?_
  refine Eval.weak (lw_mk 29 _) ?_
  obtain ⟨p339, hq340, h⟩ := bind_some h
  refine ev_j_appendLiteralToOut_l5 R scr _ s v2 v1 (0 : Int32) hq340 ?_
  show Eval own_P 25 82 [none, none, none, some (.int p339.1), none] [] (W1 scr p339.2 R) out
  refine Eval.iload_n rfl rfl ?_
  cases h
  subst hk
  exact Eval.ret rfl rfl
def j_apply_l27 : Nat → Q → Int32 → Int32 → Option (Q)
  | 0, _, _, _ => none
  | n + 1, s, v1, v2 => (if v2 < s.f_ops then (if v2 < (256 : Int32) then (if inb s.f_kinds.length v2 = true then (if (rd s.f_kinds v2) = (1 : Int32) then (if inb s.f_values.length v2 = true then ((j_appendBlockToOut s (rd s.f_values v2)).bind fun p317 => (j_apply_b77 (j_apply_l27 n) p317 v1 v2)) else none) else (if inb s.f_values.length v2 = true then ((j_appendLiteralToOut s v1 (rd s.f_values v2)).bind fun p342 => (j_apply_b77 (j_apply_l27 n) p342.2 p342.1 v2)) else none)) else none) else some (s)) else some (s))
set_option maxRecDepth 100000 in
theorem ev_j_apply_l27 (R : AHeap) (scr : List Int32) : ∀ (n : Nat) (s : Q) (v1 v2 : Int32) {res : Q} {out : Option Value × AHeap}, j_apply_l27 n s v1 v2 = some res → j_apply_l27_K R scr res out → Eval own_P 13 27 [some (.ref 1), some (.int v1), some (.int v2)] [] (W1 scr s R) out := by
  intro n
  induction n with
  | zero => intro _ _ _ res out h hk; cases h
  | succ n hrec =>
    intro s v1 v2 res out h hk
    rw [j_apply_l27] at h
    refine Eval.iload_n rfl rfl ?_
    refine Eval.aload_n rfl rfl ?_
    refine Eval.getfield rfl rfl own_g1_ops ?_
    by_cases hc296 : v2 < s.f_ops
    · rw [if_pos hc296] at h
      refine Eval.icmpF rfl (tlt hc296).2.1 ?_
      refine Eval.iload_n rfl rfl ?_
      refine Eval.sipush (x := (256 : Int32)) rfl rfl ?_
      by_cases hc297 : v2 < (256 : Int32)
      · rw [if_pos hc297] at h
        refine Eval.icmpF rfl (tlt hc297).2.1 ?_
        refine Eval.aload_n rfl rfl ?_
        refine Eval.getfield rfl rfl own_g1_kinds ?_
        refine Eval.iload_n rfl rfl ?_
        obtain ⟨hb298, h⟩ := ite_some h
        refine Eval.iaload rfl own_a1_kinds hb298 ?_
        refine Eval.iconst (x := (1 : Int32)) rfl rfl ?_
        by_cases hc300 : (rd s.f_kinds v2) = (1 : Int32)
        · rw [if_pos hc300] at h
          refine Eval.icmpF rfl (teq hc300).2 ?_
          refine Eval.aload_n rfl rfl ?_
          refine Eval.aload_n rfl rfl ?_
          refine Eval.getfield rfl rfl own_g1_values ?_
          refine Eval.iload_n rfl rfl ?_
          obtain ⟨hb301, h⟩ := ite_some h
          refine Eval.iaload rfl own_a1_values hb301 ?_
          obtain ⟨p317, hq318, h⟩ := bind_some h
          refine Eval.callN (rest := []) (H1 := (W1 scr p317 R)) rfl rfl (ev_j_appendBlockToOut R scr s (rd s.f_values v2) hq318 rfl) ?_
          refine Eval.goto (t := 77) rfl rfl ?_
          exact ev_j_apply_b77 R scr _ hrec p317 v1 v2 h hk
        · rw [if_neg hc300] at h
          refine Eval.icmpT (t := 65) rfl rfl (feq hc300).2 ?_
          refine Eval.aload_n rfl rfl ?_
          refine Eval.iload_n rfl rfl ?_
          refine Eval.aload_n rfl rfl ?_
          refine Eval.getfield rfl rfl own_g1_values ?_
          refine Eval.iload_n rfl rfl ?_
          obtain ⟨hb320, h⟩ := ite_some h
          refine Eval.iaload rfl own_a1_values hb320 ?_
          obtain ⟨p342, hq343, h⟩ := bind_some h
          refine Eval.callI (rest := []) (x := p342.1) (H1 := (W1 scr p342.2 R)) rfl rfl (ev_j_appendLiteralToOut R scr s v1 (rd s.f_values v2) hq343 rfl) ?_
          refine Eval.istore_n (L' := [some (.ref 1), some (.int p342.1), some (.int v2)]) rfl rfl ?_
          exact ev_j_apply_b77 R scr _ hrec p342.2 p342.1 v2 h hk
      · rw [if_neg hc297] at h
        refine Eval.icmpT (t := 83) rfl rfl (flt hc297).2.1 ?_
        cases h
        refine Eval.weak (lw_mk 1 _) ?_
        exact hk
    · rw [if_neg hc296] at h
      refine Eval.icmpT (t := 83) rfl rfl (flt hc296).2.1 ?_
      cases h
      refine Eval.weak (lw_mk 1 _) ?_
      exact hk
def j_apply_b18 (s : Q) : Option (Int32 × Q) := ((j_apply_l27 3000 (Q.mk s.f_basis s.f_target s.f_literal s.f_out s.f_blkLen s.f_blkWeak s.f_blkStrong s.f_head s.f_next s.f_kinds s.f_values s.f_blockSize s.f_basisLen s.f_targetLen s.f_literalLen (0 : Int32) s.f_blocks s.f_ops s.f_shortBlock s.f_winPos s.f_winA s.f_winB s.f_phaseNow) (0 : Int32) (0 : Int32)).bind fun p345 => some (p345.f_outLen, (Q.mk p345.f_basis p345.f_target p345.f_literal p345.f_out p345.f_blkLen p345.f_blkWeak p345.f_blkStrong p345.f_head p345.f_next p345.f_kinds p345.f_values p345.f_blockSize p345.f_basisLen p345.f_targetLen p345.f_literalLen p345.f_outLen p345.f_blocks p345.f_ops p345.f_shortBlock p345.f_winPos p345.f_winA p345.f_winB (3 : Int32))))
set_option maxRecDepth 100000 in
theorem ev_j_apply_b18 (R : AHeap) (scr : List Int32) (s : Q) {res : Int32 × Q} {out : Option Value × AHeap} (h : j_apply_b18 s = some res) (hk : out = (some (.int res.1), (W1 scr res.2 R))) : Eval own_P 13 18 [some (.ref 1), none, none] [] (W1 scr s R) out := by
  rw [j_apply_b18] at h
  refine Eval.aload_n rfl rfl ?_
  refine Eval.iconst (x := (0 : Int32)) rfl rfl ?_
  refine Eval.putfield rfl rfl own_p1_outLen ?_
  refine Eval.iconst (x := (0 : Int32)) rfl rfl ?_
  refine Eval.istore_n (L' := [some (.ref 1), some (.int (0 : Int32)), none]) rfl rfl ?_
  refine Eval.iconst (x := (0 : Int32)) rfl rfl ?_
  refine Eval.istore_n (L' := [some (.ref 1), some (.int (0 : Int32)), some (.int (0 : Int32))]) rfl rfl ?_
  refine Eval.heap own_mk1 ?_
  obtain ⟨p345, hq346, h⟩ := bind_some h
  refine ev_j_apply_l27 R scr _ (Q.mk s.f_basis s.f_target s.f_literal s.f_out s.f_blkLen s.f_blkWeak s.f_blkStrong s.f_head s.f_next s.f_kinds s.f_values s.f_blockSize s.f_basisLen s.f_targetLen s.f_literalLen (0 : Int32) s.f_blocks s.f_ops s.f_shortBlock s.f_winPos s.f_winA s.f_winB s.f_phaseNow) (0 : Int32) (0 : Int32) hq346 ?_
  show Eval own_P 13 83 [some (.ref 1), none, none] [] (W1 scr p345 R) out
  refine Eval.aload_n rfl rfl ?_
  refine Eval.iconst (x := (3 : Int32)) rfl rfl ?_
  refine Eval.putfield rfl rfl own_p1_phaseNow ?_
  refine Eval.aload_n rfl rfl ?_
  refine Eval.getfield rfl rfl own_g1_outLen ?_
  cases h
  subst hk
  exact Eval.retH own_mk1 rfl rfl
def j_apply (s : Q) : Option (Int32 × Q) := (if s.f_phaseNow = (2 : Int32) then (j_apply_b18 s) else (if s.f_phaseNow = (3 : Int32) then (j_apply_b18 s) else some ((-1 : Int32), s)))
set_option maxRecDepth 100000 in
theorem ev_j_apply (R : AHeap) (scr : List Int32) (s : Q) {res : Int32 × Q} {out : Option Value × AHeap} (h : j_apply s = some res) (hk : out = (some (.int res.1), (W1 scr res.2 R))) : Eval own_P 13 0 [some (.ref 1), none, none] [] (W1 scr s R) out := by
  rw [j_apply] at h
  refine Eval.aload_n rfl rfl ?_
  refine Eval.getfield rfl rfl own_g1_phaseNow ?_
  refine Eval.iconst (x := (2 : Int32)) rfl rfl ?_
  by_cases hc295 : s.f_phaseNow = (2 : Int32)
  · rw [if_pos hc295] at h
    refine Eval.icmpT (t := 18) rfl rfl (teq hc295).1 ?_
    exact ev_j_apply_b18 R scr s h hk
  · rw [if_neg hc295] at h
    refine Eval.icmpF rfl (feq hc295).1 ?_
    refine Eval.aload_n rfl rfl ?_
    refine Eval.getfield rfl rfl own_g1_phaseNow ?_
    refine Eval.iconst (x := (3 : Int32)) rfl rfl ?_
    by_cases hc348 : s.f_phaseNow = (3 : Int32)
    · rw [if_pos hc348] at h
      refine Eval.icmpT (t := 18) rfl rfl (teq hc348).1 ?_
      exact ev_j_apply_b18 R scr s h hk
    · rw [if_neg hc348] at h
      refine Eval.icmpF rfl (feq hc348).1 ?_
      refine Eval.iconst (x := (-1 : Int32)) rfl rfl ?_
      cases h
      subst hk
      exact Eval.ret rfl rfl
def law_b470 (go_ : Q → List Int32 → Int32 → Int32 → Int32 → Int32 → Int32 → Int32 → Int32 → Int32 → Option ((Q) ⊕ ((Q) ⊕ ((Q) ⊕ ((Q) ⊕ ((Q) ⊕ ((Q) ⊕ ((Q) ⊕ ((Q) ⊕ ((Q) ⊕ ((Q) ⊕ ((Q) ⊕ (Q))))))))))))) (s : Q) (scr : List Int32) (v2 v4 : Int32) (v5 v6 : Int32) (v7 v8 : Int32) (v9 v10 : Int32) : Option ((Q) ⊕ ((Q) ⊕ ((Q) ⊕ ((Q) ⊕ ((Q) ⊕ ((Q) ⊕ ((Q) ⊕ ((Q) ⊕ ((Q) ⊕ ((Q) ⊕ ((Q) ⊕ (Q)))))))))))) := (law_b495 (go_) s scr v2 v4 v5 v6 v7 v8 v9 v10)
set_option maxRecDepth 100000 in
theorem ev_law_b470 (go_ : Q → List Int32 → Int32 → Int32 → Int32 → Int32 → Int32 → Int32 → Int32 → Int32 → Option ((Q) ⊕ ((Q) ⊕ ((Q) ⊕ ((Q) ⊕ ((Q) ⊕ ((Q) ⊕ ((Q) ⊕ ((Q) ⊕ ((Q) ⊕ ((Q) ⊕ ((Q) ⊕ (Q))))))))))))) (hrec : ∀ (s : Q) (scr : List Int32) (v2 v4 : Int32) (v5 v6 : Int32) (v7 v8 : Int32) (v9 v10 : Int32) {res : (Q) ⊕ ((Q) ⊕ ((Q) ⊕ ((Q) ⊕ ((Q) ⊕ ((Q) ⊕ ((Q) ⊕ ((Q) ⊕ ((Q) ⊕ ((Q) ⊕ ((Q) ⊕ (Q)))))))))))} {out : Option Value × AHeap}, go_ s scr v2 v4 v5 v6 v7 v8 v9 v10 = some res → law_l65_K scr res out → Eval own_P 0 65 [some (.ref 0), none, some (.int v2), some (.ref 1), some (.int v4), some (.int v5), some (.int v6), some (.int v7), some (.int v8), some (.int v9), some (.int v10), none, none, none, none, none] [] (W1 scr s []) out) (s : Q) (scr : List Int32) (v2 v4 : Int32) (v5 v6 : Int32) (v7 v8 : Int32) (v9 v10 : Int32) {res : (Q) ⊕ ((Q) ⊕ ((Q) ⊕ ((Q) ⊕ ((Q) ⊕ ((Q) ⊕ ((Q) ⊕ ((Q) ⊕ ((Q) ⊕ ((Q) ⊕ ((Q) ⊕ (Q)))))))))))} {out : Option Value × AHeap} (h : law_b470 go_ s scr v2 v4 v5 v6 v7 v8 v9 v10 = some res) (hk : law_l65_K scr res out) : Eval own_P 0 470 [some (.ref 0), none, some (.int v2), some (.ref 1), some (.int v4), some (.int v5), some (.int v6), some (.int v7), some (.int v8), some (.int v9), some (.int v10), none, none, none, none, none] [] (W1 scr s []) out := by
  rw [law_b470] at h
  refine Eval.goto (t := 495) rfl rfl ?_
  exact ev_law_b495 _ hrec s scr v2 v4 v5 v6 v7 v8 v9 v10 h hk
abbrev j_appendTarget_l45_K (R : AHeap) (scr : List Int32) (res : Q) (out : Option Value × AHeap) : Prop := Eval own_P 3 85 [some (.ref 1), none, none, none] [] (W1 scr res R) out

abbrev j_appendTarget_l45_N (s res : Q) : Prop := Q.len res = Q.len s
def j_appendTarget_l45 : Nat → Q → Int32 → Int32 → Int32 → Option (Q)
  | 0, _, _, _, _ => none
  | n + 1, s, v1, v2, v3 => (if v3 < v2 then (if inb s.f_target.length s.f_targetLen = true then (j_appendTarget_l45 n (Q.mk s.f_basis (wr s.f_target s.f_targetLen ((ush v1 ((8 : Int32) * v3)) &&& (255 : Int32))) s.f_literal s.f_out s.f_blkLen s.f_blkWeak s.f_blkStrong s.f_head s.f_next s.f_kinds s.f_values s.f_blockSize s.f_basisLen (s.f_targetLen + (1 : Int32)) s.f_literalLen s.f_outLen s.f_blocks s.f_ops s.f_shortBlock s.f_winPos s.f_winA s.f_winB s.f_phaseNow) v1 v2 (v3 + (1 : Int32))) else none) else some (s))
set_option maxRecDepth 100000 in
theorem ev_j_appendTarget_l45 (R : AHeap) (scr : List Int32) : ∀ (n : Nat) (s : Q) (v1 v2 v3 : Int32) {res : Q} {out : Option Value × AHeap}, j_appendTarget_l45 n s v1 v2 v3 = some res → j_appendTarget_l45_K R scr res out → Eval own_P 3 45 [some (.ref 1), some (.int v1), some (.int v2), some (.int v3)] [] (W1 scr s R) out := by
  intro n
  induction n with
  | zero => intro _ _ _ _ res out h hk; cases h
  | succ n hrec =>
    intro s v1 v2 v3 res out h hk
    rw [j_appendTarget_l45] at h
    refine Eval.iload_n rfl rfl ?_
    refine Eval.iload_n rfl rfl ?_
    by_cases hc364 : v3 < v2
    · rw [if_pos hc364] at h
      refine Eval.icmpF rfl (tlt hc364).2.1 ?_
      refine Eval.aload_n rfl rfl ?_
      refine Eval.getfield rfl rfl own_g1_target ?_
      refine Eval.aload_n rfl rfl ?_
      refine Eval.getfield rfl rfl own_g1_targetLen ?_
      refine Eval.iload_n rfl rfl ?_
      refine Eval.bipush (x := (8 : Int32)) rfl rfl ?_
      refine Eval.iload_n rfl rfl ?_
      refine Eval.imul rfl ?_
      refine Eval.iushr rfl ?_
      refine Eval.sipush (x := (255 : Int32)) rfl rfl ?_
      refine Eval.iand rfl ?_
      obtain ⟨hb365, h⟩ := ite_some h
      refine Eval.iastore rfl rfl own_a1_target hb365 own_s1_target ?_
      refine Eval.aload_n rfl rfl ?_
      refine Eval.dupR rfl ?_
      refine Eval.getfield rfl rfl own_g1_targetLen ?_
      refine Eval.iconst (x := (1 : Int32)) rfl rfl ?_
      refine Eval.iadd rfl ?_
      refine Eval.putfield rfl rfl own_p1_targetLen ?_
      refine Eval.iinc (L' := [some (.ref 1), some (.int v1), some (.int v2), some (.int (v3 + (1 : Int32)))]) rfl rfl rfl ?_
      refine Eval.goto (t := 45) rfl rfl ?_
      refine Eval.heap own_mk1 ?_
      exact hrec _ _ _ _ h hk
    · rw [if_neg hc364] at h
      refine Eval.icmpT (t := 85) rfl rfl (flt hc364).2.1 ?_
      cases h
      refine Eval.weak (lw_mk 1 _) ?_
      exact hk
def j_appendTarget_b17 (s : Q) (v1 v2 : Int32) : Option (Int32 × Q) := (if v2 < (1 : Int32) then some ((-1 : Int32), s) else (if (4 : Int32) < v2 then some ((-1 : Int32), s) else (if (256 : Int32) < (s.f_targetLen + v2) then some ((-1 : Int32), s) else ((j_appendTarget_l45 3000 s v1 v2 (0 : Int32)).bind fun p366 => some (p366.f_targetLen, p366)))))
set_option maxRecDepth 100000 in
theorem ev_j_appendTarget_b17 (R : AHeap) (scr : List Int32) (s : Q) (v1 v2 : Int32) {res : Int32 × Q} {out : Option Value × AHeap} (h : j_appendTarget_b17 s v1 v2 = some res) (hk : out = (some (.int res.1), (W1 scr res.2 R))) : Eval own_P 3 17 [some (.ref 1), some (.int v1), some (.int v2), none] [] (W1 scr s R) out := by
  rw [j_appendTarget_b17] at h
  refine Eval.iload_n rfl rfl ?_
  refine Eval.iconst (x := (1 : Int32)) rfl rfl ?_
  by_cases hc361 : v2 < (1 : Int32)
  · rw [if_pos hc361] at h
    refine Eval.icmpT (t := 27) rfl rfl (tlt hc361).1 ?_
    refine Eval.iconst (x := (-1 : Int32)) rfl rfl ?_
    cases h
    subst hk
    exact Eval.ret rfl rfl
  · rw [if_neg hc361] at h
    refine Eval.icmpF rfl (flt hc361).1 ?_
    refine Eval.iload_n rfl rfl ?_
    refine Eval.iconst (x := (4 : Int32)) rfl rfl ?_
    by_cases hc362 : (4 : Int32) < v2
    · rw [if_pos hc362] at h
      refine Eval.icmpF rfl (tlt hc362).2.2.2 ?_
      refine Eval.iconst (x := (-1 : Int32)) rfl rfl ?_
      cases h
      subst hk
      exact Eval.ret rfl rfl
    · rw [if_neg hc362] at h
      refine Eval.icmpT (t := 29) rfl rfl (flt hc362).2.2.2 ?_
      refine Eval.aload_n rfl rfl ?_
      refine Eval.getfield rfl rfl own_g1_targetLen ?_
      refine Eval.iload_n rfl rfl ?_
      refine Eval.iadd rfl ?_
      refine Eval.sipush (x := (256 : Int32)) rfl rfl ?_
      by_cases hc363 : (256 : Int32) < (s.f_targetLen + v2)
      · rw [if_pos hc363] at h
        refine Eval.icmpF rfl (tlt hc363).2.2.2 ?_
        refine Eval.iconst (x := (-1 : Int32)) rfl rfl ?_
        cases h
        subst hk
        exact Eval.ret rfl rfl
      · rw [if_neg hc363] at h
        refine Eval.icmpT (t := 43) rfl rfl (flt hc363).2.2.2 ?_
        refine Eval.iconst (x := (0 : Int32)) rfl rfl ?_
        refine Eval.istore_n (L' := [some (.ref 1), some (.int v1), some (.int v2), some (.int (0 : Int32))]) rfl rfl ?_
        obtain ⟨p366, hq367, h⟩ := bind_some h
        refine ev_j_appendTarget_l45 R scr _ s v1 v2 (0 : Int32) hq367 ?_
        show Eval own_P 3 85 [some (.ref 1), none, none, none] [] (W1 scr p366 R) out
        refine Eval.aload_n rfl rfl ?_
        refine Eval.getfield rfl rfl own_g1_targetLen ?_
        cases h
        subst hk
        exact Eval.ret rfl rfl
def j_appendTarget (s : Q) (v1 v2 : Int32) : Option (Int32 × Q) := (if s.f_phaseNow = (0 : Int32) then (j_appendTarget_b17 s v1 v2) else (if s.f_phaseNow = (1 : Int32) then (j_appendTarget_b17 s v1 v2) else some ((-1 : Int32), s)))
set_option maxRecDepth 100000 in
theorem ev_j_appendTarget (R : AHeap) (scr : List Int32) (s : Q) (v1 v2 : Int32) {res : Int32 × Q} {out : Option Value × AHeap} (h : j_appendTarget s v1 v2 = some res) (hk : out = (some (.int res.1), (W1 scr res.2 R))) : Eval own_P 3 0 [some (.ref 1), some (.int v1), some (.int v2), none] [] (W1 scr s R) out := by
  rw [j_appendTarget] at h
  refine Eval.aload_n rfl rfl ?_
  refine Eval.getfield rfl rfl own_g1_phaseNow ?_
  by_cases hc360 : s.f_phaseNow = (0 : Int32)
  · rw [if_pos hc360] at h
    refine Eval.ifT (t := 17) rfl rfl (teq hc360).1 ?_
    exact ev_j_appendTarget_b17 R scr s v1 v2 h hk
  · rw [if_neg hc360] at h
    refine Eval.ifF rfl (feq hc360).1 ?_
    refine Eval.aload_n rfl rfl ?_
    refine Eval.getfield rfl rfl own_g1_phaseNow ?_
    refine Eval.iconst (x := (1 : Int32)) rfl rfl ?_
    by_cases hc369 : s.f_phaseNow = (1 : Int32)
    · rw [if_pos hc369] at h
      refine Eval.icmpT (t := 17) rfl rfl (teq hc369).1 ?_
      exact ev_j_appendTarget_b17 R scr s v1 v2 h hk
    · rw [if_neg hc369] at h
      refine Eval.icmpF rfl (feq hc369).1 ?_
      refine Eval.iconst (x := (-1 : Int32)) rfl rfl ?_
      cases h
      subst hk
      exact Eval.ret rfl rfl
def law_b300 (go_ : Q → List Int32 → Int32 → Int32 → Int32 → Int32 → Int32 → Int32 → Int32 → Int32 → Option ((Q) ⊕ ((Q) ⊕ ((Q) ⊕ ((Q) ⊕ ((Q) ⊕ ((Q) ⊕ ((Q) ⊕ ((Q) ⊕ ((Q) ⊕ ((Q) ⊕ ((Q) ⊕ (Q))))))))))))) (s : Q) (scr : List Int32) (v2 v4 : Int32) (v5 v6 : Int32) (v7 v8 : Int32) (v9 v10 : Int32) : Option ((Q) ⊕ ((Q) ⊕ ((Q) ⊕ ((Q) ⊕ ((Q) ⊕ ((Q) ⊕ ((Q) ⊕ ((Q) ⊕ ((Q) ⊕ ((Q) ⊕ ((Q) ⊕ (Q)))))))))))) := (law_b495 (go_) s scr v2 v4 v5 v6 v7 v8 v9 v10)
set_option maxRecDepth 100000 in
theorem ev_law_b300 (go_ : Q → List Int32 → Int32 → Int32 → Int32 → Int32 → Int32 → Int32 → Int32 → Int32 → Option ((Q) ⊕ ((Q) ⊕ ((Q) ⊕ ((Q) ⊕ ((Q) ⊕ ((Q) ⊕ ((Q) ⊕ ((Q) ⊕ ((Q) ⊕ ((Q) ⊕ ((Q) ⊕ (Q))))))))))))) (hrec : ∀ (s : Q) (scr : List Int32) (v2 v4 : Int32) (v5 v6 : Int32) (v7 v8 : Int32) (v9 v10 : Int32) {res : (Q) ⊕ ((Q) ⊕ ((Q) ⊕ ((Q) ⊕ ((Q) ⊕ ((Q) ⊕ ((Q) ⊕ ((Q) ⊕ ((Q) ⊕ ((Q) ⊕ ((Q) ⊕ (Q)))))))))))} {out : Option Value × AHeap}, go_ s scr v2 v4 v5 v6 v7 v8 v9 v10 = some res → law_l65_K scr res out → Eval own_P 0 65 [some (.ref 0), none, some (.int v2), some (.ref 1), some (.int v4), some (.int v5), some (.int v6), some (.int v7), some (.int v8), some (.int v9), some (.int v10), none, none, none, none, none] [] (W1 scr s []) out) (s : Q) (scr : List Int32) (v2 v4 : Int32) (v5 v6 : Int32) (v7 v8 : Int32) (v9 v10 : Int32) {res : (Q) ⊕ ((Q) ⊕ ((Q) ⊕ ((Q) ⊕ ((Q) ⊕ ((Q) ⊕ ((Q) ⊕ ((Q) ⊕ ((Q) ⊕ ((Q) ⊕ ((Q) ⊕ (Q)))))))))))} {out : Option Value × AHeap} (h : law_b300 go_ s scr v2 v4 v5 v6 v7 v8 v9 v10 = some res) (hk : law_l65_K scr res out) : Eval own_P 0 300 [some (.ref 0), none, some (.int v2), some (.ref 1), some (.int v4), some (.int v5), some (.int v6), some (.int v7), some (.int v8), some (.int v9), some (.int v10), none, none, none, none, none] [] (W1 scr s []) out := by
  rw [law_b300] at h
  refine Eval.goto (t := 495) rfl rfl ?_
  exact ev_law_b495 _ hrec s scr v2 v4 v5 v6 v7 v8 v9 v10 h hk
def law_b237 (go_ : Q → List Int32 → Int32 → Int32 → Int32 → Int32 → Int32 → Int32 → Int32 → Int32 → Option ((Q) ⊕ ((Q) ⊕ ((Q) ⊕ ((Q) ⊕ ((Q) ⊕ ((Q) ⊕ ((Q) ⊕ ((Q) ⊕ ((Q) ⊕ ((Q) ⊕ ((Q) ⊕ (Q))))))))))))) (s : Q) (scr : List Int32) (v2 v4 : Int32) (v5 v6 : Int32) (v7 v8 : Int32) (v9 v10 : Int32) (v12 v13 w0 : Int32) : Option ((Q) ⊕ ((Q) ⊕ ((Q) ⊕ ((Q) ⊕ ((Q) ⊕ ((Q) ⊕ ((Q) ⊕ ((Q) ⊕ ((Q) ⊕ ((Q) ⊕ ((Q) ⊕ (Q)))))))))))) := ((j_appendTarget s v12 v13).bind fun p370 => (if w0 = (0 : Int32) then (if p370.1 = (-1 : Int32) then (law_b300 (go_) p370.2 scr v2 v4 v5 v6 v7 v8 v9 v10) else some (.inr (.inr (.inr (.inl (p370.2)))))) else (if p370.1 = (v6 + v13) then (law_b300 (go_) p370.2 scr v2 v4 v5 (v6 + v13) v7 v8 ((ush v12 ((8 : Int32) * (v13 - (1 : Int32)))) &&& (255 : Int32)) v10) else some (.inr (.inr (.inl (p370.2)))))))
set_option maxRecDepth 100000 in
theorem ev_law_b237 (go_ : Q → List Int32 → Int32 → Int32 → Int32 → Int32 → Int32 → Int32 → Int32 → Int32 → Option ((Q) ⊕ ((Q) ⊕ ((Q) ⊕ ((Q) ⊕ ((Q) ⊕ ((Q) ⊕ ((Q) ⊕ ((Q) ⊕ ((Q) ⊕ ((Q) ⊕ ((Q) ⊕ (Q))))))))))))) (hrec : ∀ (s : Q) (scr : List Int32) (v2 v4 : Int32) (v5 v6 : Int32) (v7 v8 : Int32) (v9 v10 : Int32) {res : (Q) ⊕ ((Q) ⊕ ((Q) ⊕ ((Q) ⊕ ((Q) ⊕ ((Q) ⊕ ((Q) ⊕ ((Q) ⊕ ((Q) ⊕ ((Q) ⊕ ((Q) ⊕ (Q)))))))))))} {out : Option Value × AHeap}, go_ s scr v2 v4 v5 v6 v7 v8 v9 v10 = some res → law_l65_K scr res out → Eval own_P 0 65 [some (.ref 0), none, some (.int v2), some (.ref 1), some (.int v4), some (.int v5), some (.int v6), some (.int v7), some (.int v8), some (.int v9), some (.int v10), none, none, none, none, none] [] (W1 scr s []) out) (s : Q) (scr : List Int32) (v2 v4 : Int32) (v5 v6 : Int32) (v7 v8 : Int32) (v9 v10 : Int32) (v12 v13 w0 : Int32) {res : (Q) ⊕ ((Q) ⊕ ((Q) ⊕ ((Q) ⊕ ((Q) ⊕ ((Q) ⊕ ((Q) ⊕ ((Q) ⊕ ((Q) ⊕ ((Q) ⊕ ((Q) ⊕ (Q)))))))))))} {out : Option Value × AHeap} (h : law_b237 go_ s scr v2 v4 v5 v6 v7 v8 v9 v10 v12 v13 w0 = some res) (hk : law_l65_K scr res out) : Eval own_P 0 237 [some (.ref 0), none, some (.int v2), some (.ref 1), some (.int v4), some (.int v5), some (.int v6), some (.int v7), some (.int v8), some (.int v9), some (.int v10), none, some (.int v12), some (.int v13), none, none] [.int w0] (W1 scr s []) out := by
  rw [law_b237] at h
  refine Eval.istore (L' := [some (.ref 0), none, some (.int v2), some (.ref 1), some (.int v4), some (.int v5), some (.int v6), some (.int v7), some (.int v8), some (.int v9), some (.int v10), none, some (.int v12), some (.int v13), some (.int w0), none]) rfl rfl ?_
  refine Eval.aload_n rfl rfl ?_
  refine Eval.iload rfl rfl ?_
  refine Eval.iload rfl rfl ?_
  obtain ⟨p370, hq371, h⟩ := bind_some h
  refine Eval.callI (rest := []) (x := p370.1) (H1 := (W1 scr p370.2 [])) rfl rfl (ev_j_appendTarget [] scr s v12 v13 hq371 rfl) ?_
  refine Eval.istore (L' := [some (.ref 0), none, some (.int v2), some (.ref 1), some (.int v4), some (.int v5), some (.int v6), some (.int v7), some (.int v8), some (.int v9), some (.int v10), none, some (.int v12), some (.int v13), some (.int w0), some (.int p370.1)]) rfl rfl ?_
  refine Eval.iload rfl rfl ?_
  by_cases hc372 : w0 = (0 : Int32)
  · rw [if_pos hc372] at h
    refine Eval.ifT (t := 292) rfl rfl (teq hc372).1 ?_
    refine Eval.iload rfl rfl ?_
    refine Eval.iconst (x := (-1 : Int32)) rfl rfl ?_
    by_cases hc373 : p370.1 = (-1 : Int32)
    · rw [if_pos hc373] at h
      refine Eval.icmpT (t := 300) rfl rfl (teq hc373).1 ?_
      refine Eval.weak (lw_mk 2045 _) ?_
      exact ev_law_b300 _ hrec p370.2 scr v2 v4 v5 v6 v7 v8 v9 v10 h hk
    · rw [if_neg hc373] at h
      refine Eval.icmpF rfl (feq hc373).1 ?_
      cases h
      refine Eval.weak (lw_mk 0 _) ?_
      exact hk
  · rw [if_neg hc372] at h
    refine Eval.ifF rfl (feq hc372).1 ?_
    refine Eval.iload rfl rfl ?_
    refine Eval.iload rfl rfl ?_
    refine Eval.iload rfl rfl ?_
    refine Eval.iadd rfl ?_
    by_cases hc374 : p370.1 = (v6 + v13)
    · rw [if_pos hc374] at h
      refine Eval.icmpT (t := 266) rfl rfl (teq hc374).1 ?_
      refine Eval.iload rfl rfl ?_
      refine Eval.iload rfl rfl ?_
      refine Eval.iadd rfl ?_
      refine Eval.istore (L' := [some (.ref 0), none, some (.int v2), some (.ref 1), some (.int v4), some (.int v5), some (.int (v6 + v13)), some (.int v7), some (.int v8), some (.int v9), some (.int v10), none, some (.int v12), some (.int v13), some (.int w0), some (.int p370.1)]) rfl rfl ?_
      refine Eval.iload rfl rfl ?_
      refine Eval.bipush (x := (8 : Int32)) rfl rfl ?_
      refine Eval.iload rfl rfl ?_
      refine Eval.iconst (x := (1 : Int32)) rfl rfl ?_
      refine Eval.isub rfl ?_
      refine Eval.imul rfl ?_
      refine Eval.iushr rfl ?_
      refine Eval.sipush (x := (255 : Int32)) rfl rfl ?_
      refine Eval.iand rfl ?_
      refine Eval.istore (L' := [some (.ref 0), none, some (.int v2), some (.ref 1), some (.int v4), some (.int v5), some (.int (v6 + v13)), some (.int v7), some (.int v8), some (.int ((ush v12 ((8 : Int32) * (v13 - (1 : Int32)))) &&& (255 : Int32))), some (.int v10), none, some (.int v12), some (.int v13), some (.int w0), some (.int p370.1)]) rfl rfl ?_
      refine Eval.goto (t := 300) rfl rfl ?_
      refine Eval.weak (lw_mk 2045 _) ?_
      exact ev_law_b300 _ hrec p370.2 scr v2 v4 v5 (v6 + v13) v7 v8 ((ush v12 ((8 : Int32) * (v13 - (1 : Int32)))) &&& (255 : Int32)) v10 h hk
    · rw [if_neg hc374] at h
      refine Eval.icmpF rfl (feq hc374).1 ?_
      cases h
      refine Eval.weak (lw_mk 0 _) ?_
      exact hk
abbrev j_appendBasis_l37_K (R : AHeap) (scr : List Int32) (res : Q) (out : Option Value × AHeap) : Prop := Eval own_P 10 77 [some (.ref 1), none, none, none] [] (W1 scr res R) out

abbrev j_appendBasis_l37_N (s res : Q) : Prop := Q.len res = Q.len s
def j_appendBasis_l37 : Nat → Q → Int32 → Int32 → Int32 → Option (Q)
  | 0, _, _, _, _ => none
  | n + 1, s, v1, v2, v3 => (if v3 < v2 then (if inb s.f_basis.length s.f_basisLen = true then (j_appendBasis_l37 n (Q.mk (wr s.f_basis s.f_basisLen ((ush v1 ((8 : Int32) * v3)) &&& (255 : Int32))) s.f_target s.f_literal s.f_out s.f_blkLen s.f_blkWeak s.f_blkStrong s.f_head s.f_next s.f_kinds s.f_values s.f_blockSize (s.f_basisLen + (1 : Int32)) s.f_targetLen s.f_literalLen s.f_outLen s.f_blocks s.f_ops s.f_shortBlock s.f_winPos s.f_winA s.f_winB s.f_phaseNow) v1 v2 (v3 + (1 : Int32))) else none) else some (s))
set_option maxRecDepth 100000 in
theorem ev_j_appendBasis_l37 (R : AHeap) (scr : List Int32) : ∀ (n : Nat) (s : Q) (v1 v2 v3 : Int32) {res : Q} {out : Option Value × AHeap}, j_appendBasis_l37 n s v1 v2 v3 = some res → j_appendBasis_l37_K R scr res out → Eval own_P 10 37 [some (.ref 1), some (.int v1), some (.int v2), some (.int v3)] [] (W1 scr s R) out := by
  intro n
  induction n with
  | zero => intro _ _ _ _ res out h hk; cases h
  | succ n hrec =>
    intro s v1 v2 v3 res out h hk
    rw [j_appendBasis_l37] at h
    refine Eval.iload_n rfl rfl ?_
    refine Eval.iload_n rfl rfl ?_
    by_cases hc383 : v3 < v2
    · rw [if_pos hc383] at h
      refine Eval.icmpF rfl (tlt hc383).2.1 ?_
      refine Eval.aload_n rfl rfl ?_
      refine Eval.getfield rfl rfl own_g1_basis ?_
      refine Eval.aload_n rfl rfl ?_
      refine Eval.getfield rfl rfl own_g1_basisLen ?_
      refine Eval.iload_n rfl rfl ?_
      refine Eval.bipush (x := (8 : Int32)) rfl rfl ?_
      refine Eval.iload_n rfl rfl ?_
      refine Eval.imul rfl ?_
      refine Eval.iushr rfl ?_
      refine Eval.sipush (x := (255 : Int32)) rfl rfl ?_
      refine Eval.iand rfl ?_
      obtain ⟨hb384, h⟩ := ite_some h
      refine Eval.iastore rfl rfl own_a1_basis hb384 own_s1_basis ?_
      refine Eval.aload_n rfl rfl ?_
      refine Eval.dupR rfl ?_
      refine Eval.getfield rfl rfl own_g1_basisLen ?_
      refine Eval.iconst (x := (1 : Int32)) rfl rfl ?_
      refine Eval.iadd rfl ?_
      refine Eval.putfield rfl rfl own_p1_basisLen ?_
      refine Eval.iinc (L' := [some (.ref 1), some (.int v1), some (.int v2), some (.int (v3 + (1 : Int32)))]) rfl rfl rfl ?_
      refine Eval.goto (t := 37) rfl rfl ?_
      refine Eval.heap own_mk1 ?_
      exact hrec _ _ _ _ h hk
    · rw [if_neg hc383] at h
      refine Eval.icmpT (t := 77) rfl rfl (flt hc383).2.1 ?_
      cases h
      refine Eval.weak (lw_mk 1 _) ?_
      exact hk
def j_appendBasis (s : Q) (v1 v2 : Int32) : Option (Int32 × Q) := (if s.f_phaseNow = (0 : Int32) then (if v2 < (1 : Int32) then some ((-1 : Int32), s) else (if (4 : Int32) < v2 then some ((-1 : Int32), s) else (if (256 : Int32) < (s.f_basisLen + v2) then some ((-1 : Int32), s) else ((j_appendBasis_l37 3000 s v1 v2 (0 : Int32)).bind fun p385 => some (p385.f_basisLen, p385))))) else some ((-1 : Int32), s))
set_option maxRecDepth 100000 in
theorem ev_j_appendBasis (R : AHeap) (scr : List Int32) (s : Q) (v1 v2 : Int32) {res : Int32 × Q} {out : Option Value × AHeap} (h : j_appendBasis s v1 v2 = some res) (hk : out = (some (.int res.1), (W1 scr res.2 R))) : Eval own_P 10 0 [some (.ref 1), some (.int v1), some (.int v2), none] [] (W1 scr s R) out := by
  rw [j_appendBasis] at h
  refine Eval.aload_n rfl rfl ?_
  refine Eval.getfield rfl rfl own_g1_phaseNow ?_
  by_cases hc379 : s.f_phaseNow = (0 : Int32)
  · rw [if_pos hc379] at h
    refine Eval.ifT (t := 9) rfl rfl (teq hc379).1 ?_
    refine Eval.iload_n rfl rfl ?_
    refine Eval.iconst (x := (1 : Int32)) rfl rfl ?_
    by_cases hc380 : v2 < (1 : Int32)
    · rw [if_pos hc380] at h
      refine Eval.icmpT (t := 19) rfl rfl (tlt hc380).1 ?_
      refine Eval.iconst (x := (-1 : Int32)) rfl rfl ?_
      cases h
      subst hk
      exact Eval.ret rfl rfl
    · rw [if_neg hc380] at h
      refine Eval.icmpF rfl (flt hc380).1 ?_
      refine Eval.iload_n rfl rfl ?_
      refine Eval.iconst (x := (4 : Int32)) rfl rfl ?_
      by_cases hc381 : (4 : Int32) < v2
      · rw [if_pos hc381] at h
        refine Eval.icmpF rfl (tlt hc381).2.2.2 ?_
        refine Eval.iconst (x := (-1 : Int32)) rfl rfl ?_
        cases h
        subst hk
        exact Eval.ret rfl rfl
      · rw [if_neg hc381] at h
        refine Eval.icmpT (t := 21) rfl rfl (flt hc381).2.2.2 ?_
        refine Eval.aload_n rfl rfl ?_
        refine Eval.getfield rfl rfl own_g1_basisLen ?_
        refine Eval.iload_n rfl rfl ?_
        refine Eval.iadd rfl ?_
        refine Eval.sipush (x := (256 : Int32)) rfl rfl ?_
        by_cases hc382 : (256 : Int32) < (s.f_basisLen + v2)
        · rw [if_pos hc382] at h
          refine Eval.icmpF rfl (tlt hc382).2.2.2 ?_
          refine Eval.iconst (x := (-1 : Int32)) rfl rfl ?_
          cases h
          subst hk
          exact Eval.ret rfl rfl
        · rw [if_neg hc382] at h
          refine Eval.icmpT (t := 35) rfl rfl (flt hc382).2.2.2 ?_
          refine Eval.iconst (x := (0 : Int32)) rfl rfl ?_
          refine Eval.istore_n (L' := [some (.ref 1), some (.int v1), some (.int v2), some (.int (0 : Int32))]) rfl rfl ?_
          obtain ⟨p385, hq386, h⟩ := bind_some h
          refine ev_j_appendBasis_l37 R scr _ s v1 v2 (0 : Int32) hq386 ?_
          show Eval own_P 10 77 [some (.ref 1), none, none, none] [] (W1 scr p385 R) out
          refine Eval.aload_n rfl rfl ?_
          refine Eval.getfield rfl rfl own_g1_basisLen ?_
          cases h
          subst hk
          exact Eval.ret rfl rfl
  · rw [if_neg hc379] at h
    refine Eval.ifF rfl (feq hc379).1 ?_
    refine Eval.iconst (x := (-1 : Int32)) rfl rfl ?_
    cases h
    subst hk
    exact Eval.ret rfl rfl
def law_b200 (go_ : Q → List Int32 → Int32 → Int32 → Int32 → Int32 → Int32 → Int32 → Int32 → Int32 → Option ((Q) ⊕ ((Q) ⊕ ((Q) ⊕ ((Q) ⊕ ((Q) ⊕ ((Q) ⊕ ((Q) ⊕ ((Q) ⊕ ((Q) ⊕ ((Q) ⊕ ((Q) ⊕ (Q))))))))))))) (s : Q) (scr : List Int32) (v2 v4 : Int32) (v5 v6 : Int32) (v7 v8 : Int32) (v9 v10 : Int32) : Option ((Q) ⊕ ((Q) ⊕ ((Q) ⊕ ((Q) ⊕ ((Q) ⊕ ((Q) ⊕ ((Q) ⊕ ((Q) ⊕ ((Q) ⊕ ((Q) ⊕ ((Q) ⊕ (Q)))))))))))) := (law_b495 (go_) s scr v2 v4 v5 v6 v7 v8 v9 v10)
set_option maxRecDepth 100000 in
theorem ev_law_b200 (go_ : Q → List Int32 → Int32 → Int32 → Int32 → Int32 → Int32 → Int32 → Int32 → Int32 → Option ((Q) ⊕ ((Q) ⊕ ((Q) ⊕ ((Q) ⊕ ((Q) ⊕ ((Q) ⊕ ((Q) ⊕ ((Q) ⊕ ((Q) ⊕ ((Q) ⊕ ((Q) ⊕ (Q))))))))))))) (hrec : ∀ (s : Q) (scr : List Int32) (v2 v4 : Int32) (v5 v6 : Int32) (v7 v8 : Int32) (v9 v10 : Int32) {res : (Q) ⊕ ((Q) ⊕ ((Q) ⊕ ((Q) ⊕ ((Q) ⊕ ((Q) ⊕ ((Q) ⊕ ((Q) ⊕ ((Q) ⊕ ((Q) ⊕ ((Q) ⊕ (Q)))))))))))} {out : Option Value × AHeap}, go_ s scr v2 v4 v5 v6 v7 v8 v9 v10 = some res → law_l65_K scr res out → Eval own_P 0 65 [some (.ref 0), none, some (.int v2), some (.ref 1), some (.int v4), some (.int v5), some (.int v6), some (.int v7), some (.int v8), some (.int v9), some (.int v10), none, none, none, none, none] [] (W1 scr s []) out) (s : Q) (scr : List Int32) (v2 v4 : Int32) (v5 v6 : Int32) (v7 v8 : Int32) (v9 v10 : Int32) {res : (Q) ⊕ ((Q) ⊕ ((Q) ⊕ ((Q) ⊕ ((Q) ⊕ ((Q) ⊕ ((Q) ⊕ ((Q) ⊕ ((Q) ⊕ ((Q) ⊕ ((Q) ⊕ (Q)))))))))))} {out : Option Value × AHeap} (h : law_b200 go_ s scr v2 v4 v5 v6 v7 v8 v9 v10 = some res) (hk : law_l65_K scr res out) : Eval own_P 0 200 [some (.ref 0), none, some (.int v2), some (.ref 1), some (.int v4), some (.int v5), some (.int v6), some (.int v7), some (.int v8), some (.int v9), some (.int v10), none, none, none, none, none] [] (W1 scr s []) out := by
  rw [law_b200] at h
  refine Eval.goto (t := 495) rfl rfl ?_
  exact ev_law_b495 _ hrec s scr v2 v4 v5 v6 v7 v8 v9 v10 h hk
def law_b137 (go_ : Q → List Int32 → Int32 → Int32 → Int32 → Int32 → Int32 → Int32 → Int32 → Int32 → Option ((Q) ⊕ ((Q) ⊕ ((Q) ⊕ ((Q) ⊕ ((Q) ⊕ ((Q) ⊕ ((Q) ⊕ ((Q) ⊕ ((Q) ⊕ ((Q) ⊕ ((Q) ⊕ (Q))))))))))))) (s : Q) (scr : List Int32) (v2 v4 : Int32) (v5 v6 : Int32) (v7 v8 : Int32) (v9 v10 : Int32) (v12 v13 w0 : Int32) : Option ((Q) ⊕ ((Q) ⊕ ((Q) ⊕ ((Q) ⊕ ((Q) ⊕ ((Q) ⊕ ((Q) ⊕ ((Q) ⊕ ((Q) ⊕ ((Q) ⊕ ((Q) ⊕ (Q)))))))))))) := ((j_appendBasis s v12 v13).bind fun p388 => (if w0 = (0 : Int32) then (if p388.1 = (-1 : Int32) then (law_b200 (go_) p388.2 scr v2 v4 v5 v6 v7 v8 v9 v10) else some (.inr (.inl (p388.2)))) else (if p388.1 = (v5 + v13) then (law_b200 (go_) p388.2 scr v2 v4 (v5 + v13) v6 v7 ((ush v12 ((8 : Int32) * (v13 - (1 : Int32)))) &&& (255 : Int32)) v9 v10) else some (.inl (p388.2)))))
set_option maxRecDepth 100000 in
theorem ev_law_b137 (go_ : Q → List Int32 → Int32 → Int32 → Int32 → Int32 → Int32 → Int32 → Int32 → Int32 → Option ((Q) ⊕ ((Q) ⊕ ((Q) ⊕ ((Q) ⊕ ((Q) ⊕ ((Q) ⊕ ((Q) ⊕ ((Q) ⊕ ((Q) ⊕ ((Q) ⊕ ((Q) ⊕ (Q))))))))))))) (hrec : ∀ (s : Q) (scr : List Int32) (v2 v4 : Int32) (v5 v6 : Int32) (v7 v8 : Int32) (v9 v10 : Int32) {res : (Q) ⊕ ((Q) ⊕ ((Q) ⊕ ((Q) ⊕ ((Q) ⊕ ((Q) ⊕ ((Q) ⊕ ((Q) ⊕ ((Q) ⊕ ((Q) ⊕ ((Q) ⊕ (Q)))))))))))} {out : Option Value × AHeap}, go_ s scr v2 v4 v5 v6 v7 v8 v9 v10 = some res → law_l65_K scr res out → Eval own_P 0 65 [some (.ref 0), none, some (.int v2), some (.ref 1), some (.int v4), some (.int v5), some (.int v6), some (.int v7), some (.int v8), some (.int v9), some (.int v10), none, none, none, none, none] [] (W1 scr s []) out) (s : Q) (scr : List Int32) (v2 v4 : Int32) (v5 v6 : Int32) (v7 v8 : Int32) (v9 v10 : Int32) (v12 v13 w0 : Int32) {res : (Q) ⊕ ((Q) ⊕ ((Q) ⊕ ((Q) ⊕ ((Q) ⊕ ((Q) ⊕ ((Q) ⊕ ((Q) ⊕ ((Q) ⊕ ((Q) ⊕ ((Q) ⊕ (Q)))))))))))} {out : Option Value × AHeap} (h : law_b137 go_ s scr v2 v4 v5 v6 v7 v8 v9 v10 v12 v13 w0 = some res) (hk : law_l65_K scr res out) : Eval own_P 0 137 [some (.ref 0), none, some (.int v2), some (.ref 1), some (.int v4), some (.int v5), some (.int v6), some (.int v7), some (.int v8), some (.int v9), some (.int v10), none, some (.int v12), some (.int v13), none, none] [.int w0] (W1 scr s []) out := by
  rw [law_b137] at h
  refine Eval.istore (L' := [some (.ref 0), none, some (.int v2), some (.ref 1), some (.int v4), some (.int v5), some (.int v6), some (.int v7), some (.int v8), some (.int v9), some (.int v10), none, some (.int v12), some (.int v13), some (.int w0), none]) rfl rfl ?_
  refine Eval.aload_n rfl rfl ?_
  refine Eval.iload rfl rfl ?_
  refine Eval.iload rfl rfl ?_
  obtain ⟨p388, hq389, h⟩ := bind_some h
  refine Eval.callI (rest := []) (x := p388.1) (H1 := (W1 scr p388.2 [])) rfl rfl (ev_j_appendBasis [] scr s v12 v13 hq389 rfl) ?_
  refine Eval.istore (L' := [some (.ref 0), none, some (.int v2), some (.ref 1), some (.int v4), some (.int v5), some (.int v6), some (.int v7), some (.int v8), some (.int v9), some (.int v10), none, some (.int v12), some (.int v13), some (.int w0), some (.int p388.1)]) rfl rfl ?_
  refine Eval.iload rfl rfl ?_
  by_cases hc390 : w0 = (0 : Int32)
  · rw [if_pos hc390] at h
    refine Eval.ifT (t := 192) rfl rfl (teq hc390).1 ?_
    refine Eval.iload rfl rfl ?_
    refine Eval.iconst (x := (-1 : Int32)) rfl rfl ?_
    by_cases hc391 : p388.1 = (-1 : Int32)
    · rw [if_pos hc391] at h
      refine Eval.icmpT (t := 200) rfl rfl (teq hc391).1 ?_
      refine Eval.weak (lw_mk 2045 _) ?_
      exact ev_law_b200 _ hrec p388.2 scr v2 v4 v5 v6 v7 v8 v9 v10 h hk
    · rw [if_neg hc391] at h
      refine Eval.icmpF rfl (feq hc391).1 ?_
      cases h
      refine Eval.weak (lw_mk 0 _) ?_
      exact hk
  · rw [if_neg hc390] at h
    refine Eval.ifF rfl (feq hc390).1 ?_
    refine Eval.iload rfl rfl ?_
    refine Eval.iload rfl rfl ?_
    refine Eval.iload rfl rfl ?_
    refine Eval.iadd rfl ?_
    by_cases hc392 : p388.1 = (v5 + v13)
    · rw [if_pos hc392] at h
      refine Eval.icmpT (t := 166) rfl rfl (teq hc392).1 ?_
      refine Eval.iload rfl rfl ?_
      refine Eval.iload rfl rfl ?_
      refine Eval.iadd rfl ?_
      refine Eval.istore (L' := [some (.ref 0), none, some (.int v2), some (.ref 1), some (.int v4), some (.int (v5 + v13)), some (.int v6), some (.int v7), some (.int v8), some (.int v9), some (.int v10), none, some (.int v12), some (.int v13), some (.int w0), some (.int p388.1)]) rfl rfl ?_
      refine Eval.iload rfl rfl ?_
      refine Eval.bipush (x := (8 : Int32)) rfl rfl ?_
      refine Eval.iload rfl rfl ?_
      refine Eval.iconst (x := (1 : Int32)) rfl rfl ?_
      refine Eval.isub rfl ?_
      refine Eval.imul rfl ?_
      refine Eval.iushr rfl ?_
      refine Eval.sipush (x := (255 : Int32)) rfl rfl ?_
      refine Eval.iand rfl ?_
      refine Eval.istore (L' := [some (.ref 0), none, some (.int v2), some (.ref 1), some (.int v4), some (.int (v5 + v13)), some (.int v6), some (.int v7), some (.int ((ush v12 ((8 : Int32) * (v13 - (1 : Int32)))) &&& (255 : Int32))), some (.int v9), some (.int v10), none, some (.int v12), some (.int v13), some (.int w0), some (.int p388.1)]) rfl rfl ?_
      refine Eval.goto (t := 200) rfl rfl ?_
      refine Eval.weak (lw_mk 2045 _) ?_
      exact ev_law_b200 _ hrec p388.2 scr v2 v4 (v5 + v13) v6 v7 ((ush v12 ((8 : Int32) * (v13 - (1 : Int32)))) &&& (255 : Int32)) v9 v10 h hk
    · rw [if_neg hc392] at h
      refine Eval.icmpF rfl (feq hc392).1 ?_
      cases h
      refine Eval.weak (lw_mk 0 _) ?_
      exact hk
def law_l65 : Nat → Q → List Int32 → Int32 → Int32 → Int32 → Int32 → Int32 → Int32 → Int32 → Int32 → Option ((Q) ⊕ ((Q) ⊕ ((Q) ⊕ ((Q) ⊕ ((Q) ⊕ ((Q) ⊕ ((Q) ⊕ ((Q) ⊕ ((Q) ⊕ ((Q) ⊕ ((Q) ⊕ (Q))))))))))))
  | 0, _, _, _, _, _, _, _, _, _, _ => none
  | n + 1, s, scr, v2, v4, v5, v6, v7, v8, v9, v10 => (if (v10 + (2 : Int32)) < (Nat.toInt32 scr.length) then (if inb scr.length v10 = true then (if inb scr.length (v10 + (1 : Int32)) = true then (if inb scr.length (v10 + (2 : Int32)) = true then (if (1 : Int32) < ((rd scr v10) &&& (7 : Int32)) then (if (3 : Int32) < ((rd scr v10) &&& (7 : Int32)) then (if ((rd scr v10) &&& (7 : Int32)) = (4 : Int32) then ((j_sign s).bind fun p78 => (if v4 = (0 : Int32) then (if v2 = (0 : Int32) then none else (if p78.1 = (((v5 + v2) - (1 : Int32)) / v2) then (law_b349 (law_l65 n) p78.2 scr v2 (1 : Int32) v5 v6 v7 v8 v9 v10) else some (.inr (.inr (.inr (.inr (.inl (p78.2)))))))) else (if p78.1 = (-1 : Int32) then (law_b349 (law_l65 n) p78.2 scr v2 v4 v5 v6 v7 v8 v9 v10) else some (.inr (.inr (.inr (.inr (.inr (.inl (p78.2)))))))))) else (if ((rd scr v10) &&& (7 : Int32)) = (5 : Int32) then ((j_encode s).bind fun p283 => (if v4 = (1 : Int32) then (if p283.1 < (0 : Int32) then some (.inr (.inr (.inr (.inr (.inr (.inr (.inl (p283.2)))))))) else (if v6 < p283.1 then some (.inr (.inr (.inr (.inr (.inr (.inr (.inl (p283.2)))))))) else (law_b392 (law_l65 n) p283.2 scr v2 v5 v6 v8 v9 v10 p283.1 (if v6 = (0 : Int32) then (1 : Int32) else (0 : Int32))))) else (if p283.1 = (-1 : Int32) then (law_b425 (law_l65 n) p283.2 scr v2 v4 v5 v6 v7 v8 v9 v10) else some (.inr (.inr (.inr (.inr (.inr (.inr (.inr (.inl (p283.2)))))))))))) else (if ((rd scr v10) &&& (7 : Int32)) = (6 : Int32) then ((j_apply s).bind fun p349 => (if v4 < (2 : Int32) then (if p349.1 = (-1 : Int32) then (law_b470 (law_l65 n) p349.2 scr v2 v4 v5 v6 v7 v8 v9 v10) else some (.inr (.inr (.inr (.inr (.inr (.inr (.inr (.inr (.inr (.inl (p349.2)))))))))))) else (if p349.1 = v6 then (law_b470 (law_l65 n) p349.2 scr v2 (3 : Int32) v5 v6 v7 v8 v9 v10) else some (.inr (.inr (.inr (.inr (.inr (.inr (.inr (.inr (.inl (p349.2))))))))))))) else ((j_reset s).bind fun p354 => (law_b495 (law_l65 n) p354 scr v2 (0 : Int32) (0 : Int32) (0 : Int32) (0 : Int32) (-1 : Int32) (-1 : Int32) v10))))) else (law_b237 (law_l65 n) s scr v2 v4 v5 v6 v7 v8 v9 v10 (rd scr (v10 + (1 : Int32))) (((rd scr (v10 + (2 : Int32))) &&& (7 : Int32)) % (5 : Int32)) (if (1 : Int32) < v4 then (0 : Int32) else (if (((rd scr (v10 + (2 : Int32))) &&& (7 : Int32)) % (5 : Int32)) < (1 : Int32) then (0 : Int32) else (if (256 : Int32) < (v6 + (((rd scr (v10 + (2 : Int32))) &&& (7 : Int32)) % (5 : Int32))) then (0 : Int32) else (1 : Int32)))))) else (law_b137 (law_l65 n) s scr v2 v4 v5 v6 v7 v8 v9 v10 (rd scr (v10 + (1 : Int32))) (((rd scr (v10 + (2 : Int32))) &&& (7 : Int32)) % (5 : Int32)) (if v4 = (0 : Int32) then (if (((rd scr (v10 + (2 : Int32))) &&& (7 : Int32)) % (5 : Int32)) < (1 : Int32) then (0 : Int32) else (if (256 : Int32) < (v5 + (((rd scr (v10 + (2 : Int32))) &&& (7 : Int32)) % (5 : Int32))) then (0 : Int32) else (1 : Int32))) else (0 : Int32)))) else none) else none) else none) else some (.inr (.inr (.inr (.inr (.inr (.inr (.inr (.inr (.inr (.inr (.inr (s)))))))))))))
set_option maxRecDepth 100000 in
theorem ev_law_l65 : ∀ (n : Nat) (s : Q) (scr : List Int32) (v2 v4 : Int32) (v5 v6 : Int32) (v7 v8 : Int32) (v9 v10 : Int32) {res : (Q) ⊕ ((Q) ⊕ ((Q) ⊕ ((Q) ⊕ ((Q) ⊕ ((Q) ⊕ ((Q) ⊕ ((Q) ⊕ ((Q) ⊕ ((Q) ⊕ ((Q) ⊕ (Q)))))))))))} {out : Option Value × AHeap}, law_l65 n s scr v2 v4 v5 v6 v7 v8 v9 v10 = some res → law_l65_K scr res out → Eval own_P 0 65 [some (.ref 0), none, some (.int v2), some (.ref 1), some (.int v4), some (.int v5), some (.int v6), some (.int v7), some (.int v8), some (.int v9), some (.int v10), none, none, none, none, none] [] (W1 scr s []) out := by
  intro n
  induction n with
  | zero => intro _ _ _ _ _ _ _ _ _ _ res out h hk; cases h
  | succ n hrec =>
    intro s scr v2 v4 v5 v6 v7 v8 v9 v10 res out h hk
    rw [law_l65] at h
    refine Eval.iload rfl rfl ?_
    refine Eval.iconst (x := (2 : Int32)) rfl rfl ?_
    refine Eval.iadd rfl ?_
    refine Eval.aload_n rfl rfl ?_
    refine Eval.alenI (xs := scr) rfl rfl ?_
    by_cases hc16 : (v10 + (2 : Int32)) < (Nat.toInt32 scr.length)
    · rw [if_pos hc16] at h
      refine Eval.icmpF rfl (tlt hc16).2.1 ?_
      refine Eval.aload_n rfl rfl ?_
      refine Eval.iload rfl rfl ?_
      obtain ⟨hb17, h⟩ := ite_some h
      refine Eval.iaload0 (xs := scr) rfl rfl hb17 ?_
      refine Eval.bipush (x := (7 : Int32)) rfl rfl ?_
      refine Eval.iand rfl ?_
      refine Eval.istore (L' := [some (.ref 0), none, some (.int v2), some (.ref 1), some (.int v4), some (.int v5), some (.int v6), some (.int v7), some (.int v8), some (.int v9), some (.int v10), some (.int ((rd scr v10) &&& (7 : Int32))), none, none, none, none]) rfl rfl ?_
      refine Eval.aload_n rfl rfl ?_
      refine Eval.iload rfl rfl ?_
      refine Eval.iconst (x := (1 : Int32)) rfl rfl ?_
      refine Eval.iadd rfl ?_
      obtain ⟨hb18, h⟩ := ite_some h
      refine Eval.iaload0 (xs := scr) rfl rfl hb18 ?_
      refine Eval.istore (L' := [some (.ref 0), none, some (.int v2), some (.ref 1), some (.int v4), some (.int v5), some (.int v6), some (.int v7), some (.int v8), some (.int v9), some (.int v10), some (.int ((rd scr v10) &&& (7 : Int32))), some (.int (rd scr (v10 + (1 : Int32)))), none, none, none]) rfl rfl ?_
      refine Eval.aload_n rfl rfl ?_
      refine Eval.iload rfl rfl ?_
      refine Eval.iconst (x := (2 : Int32)) rfl rfl ?_
      refine Eval.iadd rfl ?_
      obtain ⟨hb19, h⟩ := ite_some h
      refine Eval.iaload0 (xs := scr) rfl rfl hb19 ?_
      refine Eval.bipush (x := (7 : Int32)) rfl rfl ?_
      refine Eval.iand rfl ?_
      refine Eval.iconst (x := (5 : Int32)) rfl rfl ?_
      refine Eval.irem rfl (by decide) ?_
      refine Eval.istore (L' := [some (.ref 0), none, some (.int v2), some (.ref 1), some (.int v4), some (.int v5), some (.int v6), some (.int v7), some (.int v8), some (.int v9), some (.int v10), some (.int ((rd scr v10) &&& (7 : Int32))), some (.int (rd scr (v10 + (1 : Int32)))), some (.int (((rd scr (v10 + (2 : Int32))) &&& (7 : Int32)) % (5 : Int32))), none, none]) rfl rfl ?_
      refine Eval.iload rfl rfl ?_
      refine Eval.iconst (x := (1 : Int32)) rfl rfl ?_
      by_cases hc20 : (1 : Int32) < ((rd scr v10) &&& (7 : Int32))
      · rw [if_pos hc20] at h
        refine Eval.icmpT (t := 203) rfl rfl (tlt hc20).2.2.1 ?_
        refine Eval.iload rfl rfl ?_
        refine Eval.iconst (x := (3 : Int32)) rfl rfl ?_
        by_cases hc21 : (3 : Int32) < ((rd scr v10) &&& (7 : Int32))
        · rw [if_pos hc21] at h
          refine Eval.icmpT (t := 303) rfl rfl (tlt hc21).2.2.1 ?_
          refine Eval.iload rfl rfl ?_
          refine Eval.iconst (x := (4 : Int32)) rfl rfl ?_
          by_cases hc22 : ((rd scr v10) &&& (7 : Int32)) = (4 : Int32)
          · rw [if_pos hc22] at h
            refine Eval.icmpF rfl (teq hc22).2 ?_
            refine Eval.aload_n rfl rfl ?_
            obtain ⟨p78, hq79, h⟩ := bind_some h
            refine Eval.callI (rest := []) (x := p78.1) (H1 := (W1 scr p78.2 [])) rfl rfl (ev_j_sign [] scr s hq79 rfl) ?_
            refine Eval.istore (L' := [some (.ref 0), none, some (.int v2), some (.ref 1), some (.int v4), some (.int v5), some (.int v6), some (.int v7), some (.int v8), some (.int v9), some (.int v10), some (.int ((rd scr v10) &&& (7 : Int32))), some (.int (rd scr (v10 + (1 : Int32)))), some (.int (((rd scr (v10 + (2 : Int32))) &&& (7 : Int32)) % (5 : Int32))), some (.int p78.1), none]) rfl rfl ?_
            refine Eval.iload rfl rfl ?_
            by_cases hc80 : v4 = (0 : Int32)
            · rw [if_pos hc80] at h
              refine Eval.ifF rfl (teq hc80).2 ?_
              refine Eval.iload rfl rfl ?_
              refine Eval.iload rfl rfl ?_
              refine Eval.iload_n rfl rfl ?_
              refine Eval.iadd rfl ?_
              refine Eval.iconst (x := (1 : Int32)) rfl rfl ?_
              refine Eval.isub rfl ?_
              refine Eval.iload_n rfl rfl ?_
              obtain ⟨hz81, h⟩ := ite_none h
              refine Eval.idiv rfl hz81 ?_
              by_cases hc82 : p78.1 = (((v5 + v2) - (1 : Int32)) / v2)
              · rw [if_pos hc82] at h
                refine Eval.icmpT (t := 335) rfl rfl (teq hc82).1 ?_
                refine Eval.iconst (x := (1 : Int32)) rfl rfl ?_
                refine Eval.istore (L' := [some (.ref 0), none, some (.int v2), some (.ref 1), some (.int (1 : Int32)), some (.int v5), some (.int v6), some (.int v7), some (.int v8), some (.int v9), some (.int v10), some (.int ((rd scr v10) &&& (7 : Int32))), some (.int (rd scr (v10 + (1 : Int32)))), some (.int (((rd scr (v10 + (2 : Int32))) &&& (7 : Int32)) % (5 : Int32))), some (.int p78.1), none]) rfl rfl ?_
                refine Eval.goto (t := 349) rfl rfl ?_
                refine Eval.weak (lw_mk 2045 _) ?_
                exact ev_law_b349 _ hrec p78.2 scr v2 (1 : Int32) v5 v6 v7 v8 v9 v10 h hk
              · rw [if_neg hc82] at h
                refine Eval.icmpF rfl (feq hc82).1 ?_
                cases h
                refine Eval.weak (lw_mk 0 _) ?_
                exact hk
            · rw [if_neg hc80] at h
              refine Eval.ifT (t := 341) rfl rfl (feq hc80).2 ?_
              refine Eval.iload rfl rfl ?_
              refine Eval.iconst (x := (-1 : Int32)) rfl rfl ?_
              by_cases hc164 : p78.1 = (-1 : Int32)
              · rw [if_pos hc164] at h
                refine Eval.icmpT (t := 349) rfl rfl (teq hc164).1 ?_
                refine Eval.weak (lw_mk 2045 _) ?_
                exact ev_law_b349 _ hrec p78.2 scr v2 v4 v5 v6 v7 v8 v9 v10 h hk
              · rw [if_neg hc164] at h
                refine Eval.icmpF rfl (feq hc164).1 ?_
                cases h
                refine Eval.weak (lw_mk 0 _) ?_
                exact hk
          · rw [if_neg hc22] at h
            refine Eval.icmpT (t := 352) rfl rfl (feq hc22).2 ?_
            refine Eval.iload rfl rfl ?_
            refine Eval.iconst (x := (5 : Int32)) rfl rfl ?_
            by_cases hc165 : ((rd scr v10) &&& (7 : Int32)) = (5 : Int32)
            · rw [if_pos hc165] at h
              refine Eval.icmpF rfl (teq hc165).2 ?_
              refine Eval.aload_n rfl rfl ?_
              obtain ⟨p283, hq284, h⟩ := bind_some h
              refine Eval.callI (rest := []) (x := p283.1) (H1 := (W1 scr p283.2 [])) rfl rfl (ev_j_encode [] scr s hq284 rfl) ?_
              refine Eval.istore (L' := [some (.ref 0), none, some (.int v2), some (.ref 1), some (.int v4), some (.int v5), some (.int v6), some (.int v7), some (.int v8), some (.int v9), some (.int v10), some (.int ((rd scr v10) &&& (7 : Int32))), some (.int (rd scr (v10 + (1 : Int32)))), some (.int (((rd scr (v10 + (2 : Int32))) &&& (7 : Int32)) % (5 : Int32))), some (.int p283.1), none]) rfl rfl ?_
              refine Eval.iload rfl rfl ?_
              refine Eval.iconst (x := (1 : Int32)) rfl rfl ?_
              by_cases hc285 : v4 = (1 : Int32)
              · rw [if_pos hc285] at h
                refine Eval.icmpF rfl (teq hc285).2 ?_
                refine Eval.iload rfl rfl ?_
                by_cases hc286 : p283.1 < (0 : Int32)
                · rw [if_pos hc286] at h
                  refine Eval.ifT (t := 405) rfl rfl (tlt hc286).1 ?_
                  cases h
                  refine Eval.weak (lw_mk 0 _) ?_
                  exact hk
                · rw [if_neg hc286] at h
                  refine Eval.ifF rfl (flt hc286).1 ?_
                  refine Eval.iload rfl rfl ?_
                  refine Eval.iload rfl rfl ?_
                  by_cases hc287 : v6 < p283.1
                  · rw [if_pos hc287] at h
                    refine Eval.icmpT (t := 405) rfl rfl (tlt hc287).2.2.1 ?_
                    cases h
                    refine Eval.weak (lw_mk 0 _) ?_
                    exact hk
                  · rw [if_neg hc287] at h
                    refine Eval.icmpF rfl (flt hc287).2.2.1 ?_
                    refine Eval.iload rfl rfl ?_
                    suffices hJ289 : Eval own_P 0 392 [some (.ref 0), none, some (.int v2), some (.ref 1), none, some (.int v5), some (.int v6), none, some (.int v8), some (.int v9), some (.int v10), none, none, none, some (.int p283.1), none] [.int (if v6 = (0 : Int32) then (1 : Int32) else (0 : Int32))] (W1 scr p283.2 []) out by
                      by_cases hc288 : v6 = (0 : Int32)
                      · refine Eval.ifF rfl (teq hc288).2 ?_
                        refine Eval.iconst (x := (1 : Int32)) rfl rfl ?_
                        refine Eval.goto (t := 392) rfl rfl ?_
                        refine Eval.weak (lw_mk 18285 _) ?_
                        exact (Eval.conv hJ289 rfl (by simp only [if_pos hc288]))
                      · refine Eval.ifT (t := 391) rfl rfl (feq hc288).2 ?_
                        refine Eval.iconst (x := (0 : Int32)) rfl rfl ?_
                        refine Eval.weak (lw_mk 18285 _) ?_
                        exact (Eval.conv hJ289 rfl (by simp only [if_neg hc288]))
                    exact ev_law_b392 _ hrec p283.2 scr v2 v5 v6 v8 v9 v10 p283.1 (if v6 = (0 : Int32) then (1 : Int32) else (0 : Int32)) h hk
              · rw [if_neg hc285] at h
                refine Eval.icmpT (t := 417) rfl rfl (feq hc285).2 ?_
                refine Eval.iload rfl rfl ?_
                refine Eval.iconst (x := (-1 : Int32)) rfl rfl ?_
                by_cases hc293 : p283.1 = (-1 : Int32)
                · rw [if_pos hc293] at h
                  refine Eval.icmpT (t := 425) rfl rfl (teq hc293).1 ?_
                  refine Eval.weak (lw_mk 2045 _) ?_
                  exact ev_law_b425 _ hrec p283.2 scr v2 v4 v5 v6 v7 v8 v9 v10 h hk
                · rw [if_neg hc293] at h
                  refine Eval.icmpF rfl (feq hc293).1 ?_
                  cases h
                  refine Eval.weak (lw_mk 0 _) ?_
                  exact hk
            · rw [if_neg hc165] at h
              refine Eval.icmpT (t := 428) rfl rfl (feq hc165).2 ?_
              refine Eval.iload rfl rfl ?_
              refine Eval.bipush (x := (6 : Int32)) rfl rfl ?_
              by_cases hc294 : ((rd scr v10) &&& (7 : Int32)) = (6 : Int32)
              · rw [if_pos hc294] at h
                refine Eval.icmpF rfl (teq hc294).2 ?_
                refine Eval.aload_n rfl rfl ?_
                obtain ⟨p349, hq350, h⟩ := bind_some h
                refine Eval.callI (rest := []) (x := p349.1) (H1 := (W1 scr p349.2 [])) rfl rfl (ev_j_apply [] scr s hq350 rfl) ?_
                refine Eval.istore (L' := [some (.ref 0), none, some (.int v2), some (.ref 1), some (.int v4), some (.int v5), some (.int v6), some (.int v7), some (.int v8), some (.int v9), some (.int v10), some (.int ((rd scr v10) &&& (7 : Int32))), some (.int (rd scr (v10 + (1 : Int32)))), some (.int (((rd scr (v10 + (2 : Int32))) &&& (7 : Int32)) % (5 : Int32))), some (.int p349.1), none]) rfl rfl ?_
                refine Eval.iload rfl rfl ?_
                refine Eval.iconst (x := (2 : Int32)) rfl rfl ?_
                by_cases hc351 : v4 < (2 : Int32)
                · rw [if_pos hc351] at h
                  refine Eval.icmpT (t := 462) rfl rfl (tlt hc351).1 ?_
                  refine Eval.iload rfl rfl ?_
                  refine Eval.iconst (x := (-1 : Int32)) rfl rfl ?_
                  by_cases hc352 : p349.1 = (-1 : Int32)
                  · rw [if_pos hc352] at h
                    refine Eval.icmpT (t := 470) rfl rfl (teq hc352).1 ?_
                    refine Eval.weak (lw_mk 2045 _) ?_
                    exact ev_law_b470 _ hrec p349.2 scr v2 v4 v5 v6 v7 v8 v9 v10 h hk
                  · rw [if_neg hc352] at h
                    refine Eval.icmpF rfl (feq hc352).1 ?_
                    cases h
                    refine Eval.weak (lw_mk 0 _) ?_
                    exact hk
                · rw [if_neg hc351] at h
                  refine Eval.icmpF rfl (flt hc351).1 ?_
                  refine Eval.iload rfl rfl ?_
                  refine Eval.iload rfl rfl ?_
                  by_cases hc353 : p349.1 = v6
                  · rw [if_pos hc353] at h
                    refine Eval.icmpT (t := 456) rfl rfl (teq hc353).1 ?_
                    refine Eval.iconst (x := (3 : Int32)) rfl rfl ?_
                    refine Eval.istore (L' := [some (.ref 0), none, some (.int v2), some (.ref 1), some (.int (3 : Int32)), some (.int v5), some (.int v6), some (.int v7), some (.int v8), some (.int v9), some (.int v10), some (.int ((rd scr v10) &&& (7 : Int32))), some (.int (rd scr (v10 + (1 : Int32)))), some (.int (((rd scr (v10 + (2 : Int32))) &&& (7 : Int32)) % (5 : Int32))), some (.int p349.1), none]) rfl rfl ?_
                    refine Eval.goto (t := 470) rfl rfl ?_
                    refine Eval.weak (lw_mk 2045 _) ?_
                    exact ev_law_b470 _ hrec p349.2 scr v2 (3 : Int32) v5 v6 v7 v8 v9 v10 h hk
                  · rw [if_neg hc353] at h
                    refine Eval.icmpF rfl (feq hc353).1 ?_
                    cases h
                    refine Eval.weak (lw_mk 0 _) ?_
                    exact hk
              · rw [if_neg hc294] at h
                refine Eval.icmpT (t := 473) rfl rfl (feq hc294).2 ?_
                refine Eval.aload_n rfl rfl ?_
                obtain ⟨p354, hq355, h⟩ := bind_some h
                refine Eval.callN (rest := []) (H1 := (W1 scr p354 [])) rfl rfl (ev_j_reset [] scr s hq355 rfl) ?_
                refine Eval.iconst (x := (0 : Int32)) rfl rfl ?_
                refine Eval.istore (L' := [some (.ref 0), none, some (.int v2), some (.ref 1), some (.int (0 : Int32)), some (.int v5), some (.int v6), some (.int v7), some (.int v8), some (.int v9), some (.int v10), some (.int ((rd scr v10) &&& (7 : Int32))), some (.int (rd scr (v10 + (1 : Int32)))), some (.int (((rd scr (v10 + (2 : Int32))) &&& (7 : Int32)) % (5 : Int32))), none, none]) rfl rfl ?_
                refine Eval.iconst (x := (0 : Int32)) rfl rfl ?_
                refine Eval.istore (L' := [some (.ref 0), none, some (.int v2), some (.ref 1), some (.int (0 : Int32)), some (.int (0 : Int32)), some (.int v6), some (.int v7), some (.int v8), some (.int v9), some (.int v10), some (.int ((rd scr v10) &&& (7 : Int32))), some (.int (rd scr (v10 + (1 : Int32)))), some (.int (((rd scr (v10 + (2 : Int32))) &&& (7 : Int32)) % (5 : Int32))), none, none]) rfl rfl ?_
                refine Eval.iconst (x := (0 : Int32)) rfl rfl ?_
                refine Eval.istore (L' := [some (.ref 0), none, some (.int v2), some (.ref 1), some (.int (0 : Int32)), some (.int (0 : Int32)), some (.int (0 : Int32)), some (.int v7), some (.int v8), some (.int v9), some (.int v10), some (.int ((rd scr v10) &&& (7 : Int32))), some (.int (rd scr (v10 + (1 : Int32)))), some (.int (((rd scr (v10 + (2 : Int32))) &&& (7 : Int32)) % (5 : Int32))), none, none]) rfl rfl ?_
                refine Eval.iconst (x := (0 : Int32)) rfl rfl ?_
                refine Eval.istore (L' := [some (.ref 0), none, some (.int v2), some (.ref 1), some (.int (0 : Int32)), some (.int (0 : Int32)), some (.int (0 : Int32)), some (.int (0 : Int32)), some (.int v8), some (.int v9), some (.int v10), some (.int ((rd scr v10) &&& (7 : Int32))), some (.int (rd scr (v10 + (1 : Int32)))), some (.int (((rd scr (v10 + (2 : Int32))) &&& (7 : Int32)) % (5 : Int32))), none, none]) rfl rfl ?_
                refine Eval.iconst (x := (-1 : Int32)) rfl rfl ?_
                refine Eval.istore (L' := [some (.ref 0), none, some (.int v2), some (.ref 1), some (.int (0 : Int32)), some (.int (0 : Int32)), some (.int (0 : Int32)), some (.int (0 : Int32)), some (.int (-1 : Int32)), some (.int v9), some (.int v10), some (.int ((rd scr v10) &&& (7 : Int32))), some (.int (rd scr (v10 + (1 : Int32)))), some (.int (((rd scr (v10 + (2 : Int32))) &&& (7 : Int32)) % (5 : Int32))), none, none]) rfl rfl ?_
                refine Eval.iconst (x := (-1 : Int32)) rfl rfl ?_
                refine Eval.istore (L' := [some (.ref 0), none, some (.int v2), some (.ref 1), some (.int (0 : Int32)), some (.int (0 : Int32)), some (.int (0 : Int32)), some (.int (0 : Int32)), some (.int (-1 : Int32)), some (.int (-1 : Int32)), some (.int v10), some (.int ((rd scr v10) &&& (7 : Int32))), some (.int (rd scr (v10 + (1 : Int32)))), some (.int (((rd scr (v10 + (2 : Int32))) &&& (7 : Int32)) % (5 : Int32))), none, none]) rfl rfl ?_
                refine Eval.weak (lw_mk 2045 _) ?_
                exact ev_law_b495 _ hrec p354 scr v2 (0 : Int32) (0 : Int32) (0 : Int32) (0 : Int32) (-1 : Int32) (-1 : Int32) v10 h hk
        · rw [if_neg hc21] at h
          refine Eval.icmpF rfl (flt hc21).2.2.1 ?_
          refine Eval.iload rfl rfl ?_
          refine Eval.iconst (x := (1 : Int32)) rfl rfl ?_
          suffices hJ359 : Eval own_P 0 237 [some (.ref 0), none, some (.int v2), some (.ref 1), some (.int v4), some (.int v5), some (.int v6), some (.int v7), some (.int v8), some (.int v9), some (.int v10), none, some (.int (rd scr (v10 + (1 : Int32)))), some (.int (((rd scr (v10 + (2 : Int32))) &&& (7 : Int32)) % (5 : Int32))), none, none] [.int (if (1 : Int32) < v4 then (0 : Int32) else (if (((rd scr (v10 + (2 : Int32))) &&& (7 : Int32)) % (5 : Int32)) < (1 : Int32) then (0 : Int32) else (if (256 : Int32) < (v6 + (((rd scr (v10 + (2 : Int32))) &&& (7 : Int32)) % (5 : Int32))) then (0 : Int32) else (1 : Int32))))] (W1 scr s []) out by
            by_cases hc356 : (1 : Int32) < v4
            · refine Eval.icmpT (t := 236) rfl rfl (tlt hc356).2.2.1 ?_
              refine Eval.iconst (x := (0 : Int32)) rfl rfl ?_
              refine Eval.weak (lw_mk 14333 _) ?_
              exact (Eval.conv hJ359 rfl (by simp only [if_pos hc356]))
            · refine Eval.icmpF rfl (flt hc356).2.2.1 ?_
              refine Eval.iload rfl rfl ?_
              refine Eval.iconst (x := (1 : Int32)) rfl rfl ?_
              by_cases hc357 : (((rd scr (v10 + (2 : Int32))) &&& (7 : Int32)) % (5 : Int32)) < (1 : Int32)
              · refine Eval.icmpT (t := 236) rfl rfl (tlt hc357).1 ?_
                refine Eval.iconst (x := (0 : Int32)) rfl rfl ?_
                refine Eval.weak (lw_mk 14333 _) ?_
                exact (Eval.conv hJ359 rfl (by simp only [if_neg hc356, if_pos hc357]))
              · refine Eval.icmpF rfl (flt hc357).1 ?_
                refine Eval.iload rfl rfl ?_
                refine Eval.iload rfl rfl ?_
                refine Eval.iadd rfl ?_
                refine Eval.sipush (x := (256 : Int32)) rfl rfl ?_
                by_cases hc358 : (256 : Int32) < (v6 + (((rd scr (v10 + (2 : Int32))) &&& (7 : Int32)) % (5 : Int32)))
                · refine Eval.icmpT (t := 236) rfl rfl (tlt hc358).2.2.1 ?_
                  refine Eval.iconst (x := (0 : Int32)) rfl rfl ?_
                  refine Eval.weak (lw_mk 14333 _) ?_
                  exact (Eval.conv hJ359 rfl (by simp only [if_neg hc356, if_neg hc357, if_pos hc358]))
                · refine Eval.icmpF rfl (flt hc358).2.2.1 ?_
                  refine Eval.iconst (x := (1 : Int32)) rfl rfl ?_
                  refine Eval.goto (t := 237) rfl rfl ?_
                  refine Eval.weak (lw_mk 14333 _) ?_
                  exact (Eval.conv hJ359 rfl (by simp only [if_neg hc356, if_neg hc357, if_neg hc358]))
          exact ev_law_b237 _ hrec s scr v2 v4 v5 v6 v7 v8 v9 v10 (rd scr (v10 + (1 : Int32))) (((rd scr (v10 + (2 : Int32))) &&& (7 : Int32)) % (5 : Int32)) (if (1 : Int32) < v4 then (0 : Int32) else (if (((rd scr (v10 + (2 : Int32))) &&& (7 : Int32)) % (5 : Int32)) < (1 : Int32) then (0 : Int32) else (if (256 : Int32) < (v6 + (((rd scr (v10 + (2 : Int32))) &&& (7 : Int32)) % (5 : Int32))) then (0 : Int32) else (1 : Int32)))) h hk
      · rw [if_neg hc20] at h
        refine Eval.icmpF rfl (flt hc20).2.2.1 ?_
        refine Eval.iload rfl rfl ?_
        suffices hJ378 : Eval own_P 0 137 [some (.ref 0), none, some (.int v2), some (.ref 1), some (.int v4), some (.int v5), some (.int v6), some (.int v7), some (.int v8), some (.int v9), some (.int v10), none, some (.int (rd scr (v10 + (1 : Int32)))), some (.int (((rd scr (v10 + (2 : Int32))) &&& (7 : Int32)) % (5 : Int32))), none, none] [.int (if v4 = (0 : Int32) then (if (((rd scr (v10 + (2 : Int32))) &&& (7 : Int32)) % (5 : Int32)) < (1 : Int32) then (0 : Int32) else (if (256 : Int32) < (v5 + (((rd scr (v10 + (2 : Int32))) &&& (7 : Int32)) % (5 : Int32))) then (0 : Int32) else (1 : Int32))) else (0 : Int32))] (W1 scr s []) out by
          by_cases hc375 : v4 = (0 : Int32)
          · refine Eval.ifF rfl (teq hc375).2 ?_
            refine Eval.iload rfl rfl ?_
            refine Eval.iconst (x := (1 : Int32)) rfl rfl ?_
            by_cases hc376 : (((rd scr (v10 + (2 : Int32))) &&& (7 : Int32)) % (5 : Int32)) < (1 : Int32)
            · refine Eval.icmpT (t := 136) rfl rfl (tlt hc376).1 ?_
              refine Eval.iconst (x := (0 : Int32)) rfl rfl ?_
              refine Eval.weak (lw_mk 14333 _) ?_
              exact (Eval.conv hJ378 rfl (by simp only [if_pos hc375, if_pos hc376]))
            · refine Eval.icmpF rfl (flt hc376).1 ?_
              refine Eval.iload rfl rfl ?_
              refine Eval.iload rfl rfl ?_
              refine Eval.iadd rfl ?_
              refine Eval.sipush (x := (256 : Int32)) rfl rfl ?_
              by_cases hc377 : (256 : Int32) < (v5 + (((rd scr (v10 + (2 : Int32))) &&& (7 : Int32)) % (5 : Int32)))
              · refine Eval.icmpT (t := 136) rfl rfl (tlt hc377).2.2.1 ?_
                refine Eval.iconst (x := (0 : Int32)) rfl rfl ?_
                refine Eval.weak (lw_mk 14333 _) ?_
                exact (Eval.conv hJ378 rfl (by simp only [if_pos hc375, if_neg hc376, if_pos hc377]))
              · refine Eval.icmpF rfl (flt hc377).2.2.1 ?_
                refine Eval.iconst (x := (1 : Int32)) rfl rfl ?_
                refine Eval.goto (t := 137) rfl rfl ?_
                refine Eval.weak (lw_mk 14333 _) ?_
                exact (Eval.conv hJ378 rfl (by simp only [if_pos hc375, if_neg hc376, if_neg hc377]))
          · refine Eval.ifT (t := 136) rfl rfl (feq hc375).2 ?_
            refine Eval.iconst (x := (0 : Int32)) rfl rfl ?_
            refine Eval.weak (lw_mk 14333 _) ?_
            exact (Eval.conv hJ378 rfl (by simp only [if_neg hc375]))
        exact ev_law_b137 _ hrec s scr v2 v4 v5 v6 v7 v8 v9 v10 (rd scr (v10 + (1 : Int32))) (((rd scr (v10 + (2 : Int32))) &&& (7 : Int32)) % (5 : Int32)) (if v4 = (0 : Int32) then (if (((rd scr (v10 + (2 : Int32))) &&& (7 : Int32)) % (5 : Int32)) < (1 : Int32) then (0 : Int32) else (if (256 : Int32) < (v5 + (((rd scr (v10 + (2 : Int32))) &&& (7 : Int32)) % (5 : Int32))) then (0 : Int32) else (1 : Int32))) else (0 : Int32)) h hk
    · rw [if_neg hc16] at h
      refine Eval.icmpT (t := 523) rfl rfl (flt hc16).2.1 ?_
      cases h
      refine Eval.weak (lw_mk 0 _) ?_
      exact hk
def law_b34 (scr : List Int32) (v1 w0 : Int32) : Option (Int32 × Q) := ((j_init v1).bind fun p14 => ((law_l65 3000 p14 scr w0 (0 : Int32) (0 : Int32) (0 : Int32) (0 : Int32) (-1 : Int32) (-1 : Int32) (1 : Int32)).bind fun p393 => Sum.elim (fun p395 => some ((0 : Int32), p395)) (fun p396 => Sum.elim (fun p397 => some ((0 : Int32), p397)) (fun p398 => Sum.elim (fun p399 => some ((0 : Int32), p399)) (fun p400 => Sum.elim (fun p401 => some ((0 : Int32), p401)) (fun p402 => Sum.elim (fun p403 => some ((0 : Int32), p403)) (fun p404 => Sum.elim (fun p405 => some ((0 : Int32), p405)) (fun p406 => Sum.elim (fun p407 => some ((0 : Int32), p407)) (fun p408 => Sum.elim (fun p409 => some ((0 : Int32), p409)) (fun p410 => Sum.elim (fun p411 => some ((0 : Int32), p411)) (fun p412 => Sum.elim (fun p413 => some ((0 : Int32), p413)) (fun p414 => Sum.elim (fun p415 => some ((0 : Int32), p415)) (fun p416 => some ((1 : Int32), p416)) p414) p412) p410) p408) p406) p404) p402) p400) p398) p396) p393))
set_option maxRecDepth 100000 in
theorem ev_law_b34 (scr : List Int32) (v1 w0 : Int32) {res : Int32 × Q} {out : Option Value × AHeap} (h : law_b34 scr v1 w0 = some res) (hk : out = (some (.int res.1), (W1 scr res.2 []))) : Eval own_P 0 34 [some (.ref 0), some (.int v1), none, none, none, none, none, none, none, none, none, none, none, none, none, none] [.int w0] (W0 scr []) out := by
  rw [law_b34] at h
  refine Eval.istore_n (L' := [some (.ref 0), some (.int v1), some (.int w0), none, none, none, none, none, none, none, none, none, none, none, none, none]) rfl rfl ?_
  refine Eval.new (z := 0) (a := 1) (H1 := (W0 scr [.inl (Prog.fresh own_P)])) rfl rfl rfl (by decide) rfl (by decide) rfl ?_
  refine Eval.dupR rfl ?_
  refine Eval.iload_n rfl rfl ?_
  obtain ⟨p14, hq15, h⟩ := bind_some h
  refine Eval.callN (rest := [.ref 1]) (H1 := (W1 scr p14 [])) rfl rfl (ev_j_init scr v1 hq15 rfl) ?_
  refine Eval.astore_n (L' := [some (.ref 0), some (.int v1), some (.int w0), some (.ref 1), none, none, none, none, none, none, none, none, none, none, none, none]) rfl rfl ?_
  refine Eval.iconst (x := (0 : Int32)) rfl rfl ?_
  refine Eval.istore (L' := [some (.ref 0), some (.int v1), some (.int w0), some (.ref 1), some (.int (0 : Int32)), none, none, none, none, none, none, none, none, none, none, none]) rfl rfl ?_
  refine Eval.iconst (x := (0 : Int32)) rfl rfl ?_
  refine Eval.istore (L' := [some (.ref 0), some (.int v1), some (.int w0), some (.ref 1), some (.int (0 : Int32)), some (.int (0 : Int32)), none, none, none, none, none, none, none, none, none, none]) rfl rfl ?_
  refine Eval.iconst (x := (0 : Int32)) rfl rfl ?_
  refine Eval.istore (L' := [some (.ref 0), some (.int v1), some (.int w0), some (.ref 1), some (.int (0 : Int32)), some (.int (0 : Int32)), some (.int (0 : Int32)), none, none, none, none, none, none, none, none, none]) rfl rfl ?_
  refine Eval.iconst (x := (0 : Int32)) rfl rfl ?_
  refine Eval.istore (L' := [some (.ref 0), some (.int v1), some (.int w0), some (.ref 1), some (.int (0 : Int32)), some (.int (0 : Int32)), some (.int (0 : Int32)), some (.int (0 : Int32)), none, none, none, none, none, none, none, none]) rfl rfl ?_
  refine Eval.iconst (x := (-1 : Int32)) rfl rfl ?_
  refine Eval.istore (L' := [some (.ref 0), some (.int v1), some (.int w0), some (.ref 1), some (.int (0 : Int32)), some (.int (0 : Int32)), some (.int (0 : Int32)), some (.int (0 : Int32)), some (.int (-1 : Int32)), none, none, none, none, none, none, none]) rfl rfl ?_
  refine Eval.iconst (x := (-1 : Int32)) rfl rfl ?_
  refine Eval.istore (L' := [some (.ref 0), some (.int v1), some (.int w0), some (.ref 1), some (.int (0 : Int32)), some (.int (0 : Int32)), some (.int (0 : Int32)), some (.int (0 : Int32)), some (.int (-1 : Int32)), some (.int (-1 : Int32)), none, none, none, none, none, none]) rfl rfl ?_
  refine Eval.iconst (x := (1 : Int32)) rfl rfl ?_
  refine Eval.istore (L' := [some (.ref 0), some (.int v1), some (.int w0), some (.ref 1), some (.int (0 : Int32)), some (.int (0 : Int32)), some (.int (0 : Int32)), some (.int (0 : Int32)), some (.int (-1 : Int32)), some (.int (-1 : Int32)), some (.int (1 : Int32)), none, none, none, none, none]) rfl rfl ?_
  refine Eval.weak (lw_mk 2045 _) ?_
  obtain ⟨p393, hq394, h⟩ := bind_some h
  rcases p393 with p395 | p396
  · dsimp only [Sum.elim] at h
    refine ev_law_l65 _ p14 scr w0 (0 : Int32) (0 : Int32) (0 : Int32) (0 : Int32) (-1 : Int32) (-1 : Int32) (1 : Int32) hq394 ?_
    show Eval own_P 0 164 [none, none, none, none, none, none, none, none, none, none, none, none, none, none, none, none] [] (W1 scr p395 []) out
    refine Eval.iconst (x := (0 : Int32)) rfl rfl ?_
    cases h
    subst hk
    exact Eval.ret rfl rfl
  · dsimp only [Sum.elim] at h
    rcases p396 with p397 | p398
    · dsimp only [Sum.elim] at h
      refine ev_law_l65 _ p14 scr w0 (0 : Int32) (0 : Int32) (0 : Int32) (0 : Int32) (-1 : Int32) (-1 : Int32) (1 : Int32) hq394 ?_
      show Eval own_P 0 198 [none, none, none, none, none, none, none, none, none, none, none, none, none, none, none, none] [] (W1 scr p397 []) out
      refine Eval.iconst (x := (0 : Int32)) rfl rfl ?_
      cases h
      subst hk
      exact Eval.ret rfl rfl
    · dsimp only [Sum.elim] at h
      rcases p398 with p399 | p400
      · dsimp only [Sum.elim] at h
        refine ev_law_l65 _ p14 scr w0 (0 : Int32) (0 : Int32) (0 : Int32) (0 : Int32) (-1 : Int32) (-1 : Int32) (1 : Int32) hq394 ?_
        show Eval own_P 0 264 [none, none, none, none, none, none, none, none, none, none, none, none, none, none, none, none] [] (W1 scr p399 []) out
        refine Eval.iconst (x := (0 : Int32)) rfl rfl ?_
        cases h
        subst hk
        exact Eval.ret rfl rfl
      · dsimp only [Sum.elim] at h
        rcases p400 with p401 | p402
        · dsimp only [Sum.elim] at h
          refine ev_law_l65 _ p14 scr w0 (0 : Int32) (0 : Int32) (0 : Int32) (0 : Int32) (-1 : Int32) (-1 : Int32) (1 : Int32) hq394 ?_
          show Eval own_P 0 298 [none, none, none, none, none, none, none, none, none, none, none, none, none, none, none, none] [] (W1 scr p401 []) out
          refine Eval.iconst (x := (0 : Int32)) rfl rfl ?_
          cases h
          subst hk
          exact Eval.ret rfl rfl
        · dsimp only [Sum.elim] at h
          rcases p402 with p403 | p404
          · dsimp only [Sum.elim] at h
            refine ev_law_l65 _ p14 scr w0 (0 : Int32) (0 : Int32) (0 : Int32) (0 : Int32) (-1 : Int32) (-1 : Int32) (1 : Int32) hq394 ?_
            show Eval own_P 0 333 [none, none, none, none, none, none, none, none, none, none, none, none, none, none, none, none] [] (W1 scr p403 []) out
            refine Eval.iconst (x := (0 : Int32)) rfl rfl ?_
            cases h
            subst hk
            exact Eval.ret rfl rfl
          · dsimp only [Sum.elim] at h
            rcases p404 with p405 | p406
            · dsimp only [Sum.elim] at h
              refine ev_law_l65 _ p14 scr w0 (0 : Int32) (0 : Int32) (0 : Int32) (0 : Int32) (-1 : Int32) (-1 : Int32) (1 : Int32) hq394 ?_
              show Eval own_P 0 347 [none, none, none, none, none, none, none, none, none, none, none, none, none, none, none, none] [] (W1 scr p405 []) out
              refine Eval.iconst (x := (0 : Int32)) rfl rfl ?_
              cases h
              subst hk
              exact Eval.ret rfl rfl
            · dsimp only [Sum.elim] at h
              rcases p406 with p407 | p408
              · dsimp only [Sum.elim] at h
                refine ev_law_l65 _ p14 scr w0 (0 : Int32) (0 : Int32) (0 : Int32) (0 : Int32) (-1 : Int32) (-1 : Int32) (1 : Int32) hq394 ?_
                show Eval own_P 0 405 [none, none, none, none, none, none, none, none, none, none, none, none, none, none, none, none] [] (W1 scr p407 []) out
                refine Eval.iconst (x := (0 : Int32)) rfl rfl ?_
                cases h
                subst hk
                exact Eval.ret rfl rfl
              · dsimp only [Sum.elim] at h
                rcases p408 with p409 | p410
                · dsimp only [Sum.elim] at h
                  refine ev_law_l65 _ p14 scr w0 (0 : Int32) (0 : Int32) (0 : Int32) (0 : Int32) (-1 : Int32) (-1 : Int32) (1 : Int32) hq394 ?_
                  show Eval own_P 0 423 [none, none, none, none, none, none, none, none, none, none, none, none, none, none, none, none] [] (W1 scr p409 []) out
                  refine Eval.iconst (x := (0 : Int32)) rfl rfl ?_
                  cases h
                  subst hk
                  exact Eval.ret rfl rfl
                · dsimp only [Sum.elim] at h
                  rcases p410 with p411 | p412
                  · dsimp only [Sum.elim] at h
                    refine ev_law_l65 _ p14 scr w0 (0 : Int32) (0 : Int32) (0 : Int32) (0 : Int32) (-1 : Int32) (-1 : Int32) (1 : Int32) hq394 ?_
                    show Eval own_P 0 454 [none, none, none, none, none, none, none, none, none, none, none, none, none, none, none, none] [] (W1 scr p411 []) out
                    refine Eval.iconst (x := (0 : Int32)) rfl rfl ?_
                    cases h
                    subst hk
                    exact Eval.ret rfl rfl
                  · dsimp only [Sum.elim] at h
                    rcases p412 with p413 | p414
                    · dsimp only [Sum.elim] at h
                      refine ev_law_l65 _ p14 scr w0 (0 : Int32) (0 : Int32) (0 : Int32) (0 : Int32) (-1 : Int32) (-1 : Int32) (1 : Int32) hq394 ?_
                      show Eval own_P 0 468 [none, none, none, none, none, none, none, none, none, none, none, none, none, none, none, none] [] (W1 scr p413 []) out
                      refine Eval.iconst (x := (0 : Int32)) rfl rfl ?_
                      cases h
                      subst hk
                      exact Eval.ret rfl rfl
                    · dsimp only [Sum.elim] at h
                      rcases p414 with p415 | p416
                      · dsimp only [Sum.elim] at h
                        refine ev_law_l65 _ p14 scr w0 (0 : Int32) (0 : Int32) (0 : Int32) (0 : Int32) (-1 : Int32) (-1 : Int32) (1 : Int32) hq394 ?_
                        show Eval own_P 0 515 [none, none, none, none, none, none, none, none, none, none, none, none, none, none, none, none] [] (W1 scr p415 []) out
                        refine Eval.iconst (x := (0 : Int32)) rfl rfl ?_
                        cases h
                        subst hk
                        exact Eval.ret rfl rfl
                      · dsimp only [Sum.elim] at h
                        refine ev_law_l65 _ p14 scr w0 (0 : Int32) (0 : Int32) (0 : Int32) (0 : Int32) (-1 : Int32) (-1 : Int32) (1 : Int32) hq394 ?_
                        show Eval own_P 0 523 [none, none, none, none, none, none, none, none, none, none, none, none, none, none, none, none] [] (W1 scr p416 []) out
                        refine Eval.iconst (x := (1 : Int32)) rfl rfl ?_
                        cases h
                        subst hk
                        exact Eval.ret rfl rfl
def law_b12 (scr : List Int32) (w0 : Int32) : Option (Int32 × Q) := (law_b34 scr w0 (if w0 < (2 : Int32) then (2 : Int32) else (if (32 : Int32) < w0 then (32 : Int32) else w0)))
set_option maxRecDepth 100000 in
theorem ev_law_b12 (scr : List Int32) (w0 : Int32) {res : Int32 × Q} {out : Option Value × AHeap} (h : law_b12 scr w0 = some res) (hk : out = (some (.int res.1), (W1 scr res.2 []))) : Eval own_P 0 12 [some (.ref 0), none, none, none, none, none, none, none, none, none, none, none, none, none, none, none] [.int w0] (W0 scr []) out := by
  rw [law_b12] at h
  refine Eval.istore_n (L' := [some (.ref 0), some (.int w0), none, none, none, none, none, none, none, none, none, none, none, none, none, none]) rfl rfl ?_
  refine Eval.iload_n rfl rfl ?_
  refine Eval.iconst (x := (2 : Int32)) rfl rfl ?_
  suffices hJ6 : Eval own_P 0 34 [some (.ref 0), some (.int w0), none, none, none, none, none, none, none, none, none, none, none, none, none, none] [.int (if w0 < (2 : Int32) then (2 : Int32) else (if (32 : Int32) < w0 then (32 : Int32) else w0))] (W0 scr []) out by
    by_cases hc4 : w0 < (2 : Int32)
    · refine Eval.icmpF rfl (tlt hc4).2.1 ?_
      refine Eval.iconst (x := (2 : Int32)) rfl rfl ?_
      refine Eval.goto (t := 34) rfl rfl ?_
      exact (Eval.conv hJ6 rfl (by simp only [if_pos hc4]))
    · refine Eval.icmpT (t := 22) rfl rfl (flt hc4).2.1 ?_
      refine Eval.iload_n rfl rfl ?_
      refine Eval.bipush (x := (32 : Int32)) rfl rfl ?_
      by_cases hc5 : (32 : Int32) < w0
      · refine Eval.icmpF rfl (tlt hc5).2.2.2 ?_
        refine Eval.bipush (x := (32 : Int32)) rfl rfl ?_
        refine Eval.goto (t := 34) rfl rfl ?_
        exact (Eval.conv hJ6 rfl (by simp only [if_neg hc4, if_pos hc5]))
      · refine Eval.icmpT (t := 33) rfl rfl (flt hc5).2.2.2 ?_
        refine Eval.iload_n rfl rfl ?_
        exact (Eval.conv hJ6 rfl (by simp only [if_neg hc4, if_neg hc5]))
  exact ev_law_b34 scr w0 (if w0 < (2 : Int32) then (2 : Int32) else (if (32 : Int32) < w0 then (32 : Int32) else w0)) h hk
def law (scr : List Int32) : Option (Int32 × Q) := (if (0 : Int32) < (Nat.toInt32 scr.length) then (if inb scr.length (0 : Int32) = true then (law_b12 scr (rd scr (0 : Int32))) else none) else (law_b12 scr (4 : Int32)))
set_option maxRecDepth 100000 in
theorem ev_law (scr : List Int32) {res : Int32 × Q} {out : Option Value × AHeap} (h : law scr = some res) (hk : out = (some (.int res.1), (W1 scr res.2 []))) : Eval own_P 0 0 [some (.ref 0), none, none, none, none, none, none, none, none, none, none, none, none, none, none, none] [] (W0 scr []) out := by
  rw [law] at h
  refine Eval.aload_n rfl rfl ?_
  refine Eval.alenI (xs := scr) rfl rfl ?_
  by_cases hc2 : (0 : Int32) < (Nat.toInt32 scr.length)
  · rw [if_pos hc2] at h
    refine Eval.ifF rfl (tlt hc2).2.2.2 ?_
    refine Eval.aload_n rfl rfl ?_
    refine Eval.iconst (x := (0 : Int32)) rfl rfl ?_
    obtain ⟨hb3, h⟩ := ite_some h
    refine Eval.iaload0 (xs := scr) rfl rfl hb3 ?_
    refine Eval.goto (t := 12) rfl rfl ?_
    exact ev_law_b12 scr (rd scr (0 : Int32)) h hk
  · rw [if_neg hc2] at h
    refine Eval.ifT (t := 11) rfl rfl (flt hc2).2.2.2 ?_
    refine Eval.iconst (x := (4 : Int32)) rfl rfl ?_
    exact ev_law_b12 scr (4 : Int32) h hk
theorem own_rdc {n : Nat} {c j : Int32} (h : inb n j = true) : rd (List.replicate n c) j = c := by
  have q := rd_at (xs := List.replicate n c) (j := j) (by simpa using h)
  rw [List.getElem?_replicate] at q
  split at q
  · exact (Option.some.inj q).symm
  · cases q
theorem own_n2i {i : Nat} (h : i < 2147483648) : (Int32.ofNat i).toInt = i := by
  rw [Int32.toInt_ofNat']
  simp only [Int32.size, Int.bmod_def]
  omega
theorem own_n2n {i : Nat} (h : i < 2147483648) : (Int32.ofNat i).toNatClampNeg = i := by
  simp only [Int32.toNatClampNeg, own_n2i h]; omega
theorem own_succ (i : Nat) : Int32.ofNat i + 1 = Int32.ofNat (i + 1) := (Int32.ofNat_add i 1).symm
theorem own_inbN {n i : Nat} (h : i < n) (hn : n < 2147483648) : inb n (Int32.ofNat i) = true := inb_iff.mpr (by rw [own_n2i (by omega)]; omega)
theorem own_ltN {i k : Nat} (hi : i < 2147483648) (hk : k < 2147483648) : Int32.ofNat i < Int32.ofNat k ↔ i < k := by
  rw [lt32, own_n2i hi, own_n2i hk]; omega
theorem own_wrA {A r : List Int32} {d x : Int32} {i : Nat} (hi : A.length = i) (h : i < 2147483648) : wr (A ++ d :: r) (Int32.ofNat i) x = A ++ x :: r := by
  unfold wr
  rw [own_n2n h, ← hi]
  simp
theorem own_repS (i : Nat) (c : Int32) (r : List Int32) : List.replicate i c ++ c :: r = List.replicate (i + 1) c ++ r := by
  rw [List.replicate_succ']; simp
theorem own_add {x y : Int32} (h1 : -2147483648 ≤ x.toInt + y.toInt) (h2 : x.toInt + y.toInt < 2147483648) : (x + y).toInt = x.toInt + y.toInt := by
  rw [Int32.toInt_add, Int.bmod_def]
  omega
theorem own_sub {x y : Int32} (h1 : -2147483648 ≤ x.toInt - y.toInt) (h2 : x.toInt - y.toInt < 2147483648) : (x - y).toInt = x.toInt - y.toInt := by
  rw [Int32.toInt_sub, Int.bmod_def]
  omega
theorem own_mul {x y : Int32} (h1 : -2147483648 ≤ x.toInt * y.toInt) (h2 : x.toInt * y.toInt < 2147483648) : (x * y).toInt = x.toInt * y.toInt := by
  rw [Int32.toInt_mul, Int.bmod_def]
  omega
theorem own_eta (s : Q) : Q.mk s.f_basis s.f_target s.f_literal s.f_out s.f_blkLen s.f_blkWeak s.f_blkStrong s.f_head s.f_next s.f_kinds s.f_values s.f_blockSize s.f_basisLen s.f_targetLen s.f_literalLen s.f_outLen s.f_blocks s.f_ops s.f_shortBlock s.f_winPos s.f_winA s.f_winB s.f_phaseNow = s := rfl
theorem own_wrc (n : Nat) (c j : Int32) : wr (List.replicate n c) j c = List.replicate n c := by simp [wr, List.set_replicate_self]

theorem own_wrz {xs : List Int32} {n : Nat} (h : xs = List.replicate n 0) (j : Int32) : wr xs j 0 = xs := by rw [h, own_wrc]
theorem own_wrzL {xs : List Int64} {n : Nat} (h : xs = List.replicate n 0) (j : Int32) : wrL xs j 0 = xs := by rw [h]; simp [wrL, List.set_replicate_self]
theorem own_inc {x : Int32} (h : x.toInt < 1000000) (h0 : -1000000 ≤ x.toInt) : (x + 1).toInt = x.toInt + 1 := own_add (by simp only [Int32.reduceToInt]; omega) (by simp only [Int32.reduceToInt]; omega)

def own_ok {α : Type} (o : Option α) (P : α → Prop) : Prop := ∃ r, o = some r ∧ P r
theorem own_ok_some {α : Type} (x : α) (P : α → Prop) : own_ok (some x) P ↔ P x := by
  constructor
  · rintro ⟨r, h, p⟩; cases h; exact p
  · intro p; exact ⟨x, rfl, p⟩
theorem own_ok_none {α : Type} (P : α → Prop) : own_ok (none : Option α) P ↔ False := by
  constructor
  · rintro ⟨r, h, p⟩; cases h
  · intro p; exact p.elim
theorem own_ok_bind {α β : Type} (o : Option α) (f : α → Option β) (P : β → Prop) : own_ok (o.bind f) P ↔ own_ok o (fun x => own_ok (f x) P) := by
  constructor
  · rintro ⟨r, h, p⟩
    obtain ⟨a, ha, hb⟩ := Option.bind_eq_some_iff.mp h
    exact ⟨a, ha, r, hb, p⟩
  · rintro ⟨a, ha, r, hb, p⟩
    exact ⟨r, Option.bind_eq_some_iff.mpr ⟨a, ha, hb⟩, p⟩
theorem own_ok_ite {α : Type} (c : Prop) [Decidable c] (a b : Option α) (P : α → Prop) : own_ok (if c then a else b) P ↔ (c → own_ok a P) ∧ (¬ c → own_ok b P) := by
  by_cases h : c
  · simp [h]
  · simp [h]
theorem own_mono {α : Type} {o : Option α} {P R : α → Prop} (h : own_ok o P) (m : ∀ x, P x → R x) : own_ok o R := by
  obtain ⟨r, e, p⟩ := h
  exact ⟨r, e, m r p⟩
theorem own_bind {α β : Type} {o : Option α} {f : α → Option β} {P : α → Prop} {R : β → Prop} (h : own_ok o P) (m : ∀ x, P x → own_ok (f x) R) : own_ok (o.bind f) R :=
  (own_ok_bind o f R).mpr (own_mono h m)
theorem own_okE {α : Type} {o : Option α} {r : α} {P : α → Prop} (e : o = some r) (p : P r) : own_ok o P := ⟨r, e, p⟩

theorem own_msk (x m : Int32) (hm : 0 ≤ m.toInt) : 0 ≤ (x &&& m).toInt ∧ (x &&& m).toInt ≤ m.toInt := by
  have a : (x &&& m).toBitVec.toNat ≤ m.toBitVec.toNat := by
    rw [Int32.toBitVec_and, BitVec.toNat_and]
    exact Nat.and_le_right
  have e : (x &&& m).toInt = (x &&& m).toBitVec.toInt := rfl
  have f : m.toInt = m.toBitVec.toInt := rfl
  rw [f, BitVec.toInt_eq_toNat_cond] at hm
  rw [e, f, BitVec.toInt_eq_toNat_cond, BitVec.toInt_eq_toNat_cond]
  have := m.toBitVec.isLt
  split at hm <;> split <;> omega
theorem own_nnN {x : Int32} : 0 ≤ x.toInt ↔ x.toBitVec.toNat < 2 ^ 31 := by
  have e : x.toInt = x.toBitVec.toInt := rfl
  rw [e, BitVec.toInt_eq_toNat_cond]
  have := x.toBitVec.isLt
  split <;> omega
theorem own_or_nn {x y : Int32} (hx : 0 ≤ x.toInt) (hy : 0 ≤ y.toInt) : 0 ≤ (x ||| y).toInt := by
  rw [own_nnN] at *
  rw [Int32.toBitVec_or, BitVec.toNat_or]
  exact Nat.or_lt_two_pow hx hy
theorem own_or0 {x y : Int32} (h : x ||| y = 0) : y = 0 := by
  have q := congrArg Int32.toBitVec h
  rw [Int32.toBitVec_or] at q
  have r := (BitVec.or_eq_zero_iff.mp q).2
  exact Int32.toBitVec_inj.mp r
theorem own_nn1 {x : Int32} (h : 0 ≤ x.toInt) : ¬ x = -1 := by
  intro e; rw [e] at h; exact absurd h (by decide)

theorem own_rem {x y : Int32} (h0 : 0 ≤ x.toInt) (h1 : 0 < y.toInt) : 0 ≤ (x % y).toInt ∧ (x % y).toInt < y.toInt := by
  rw [Int32.toInt_mod, Int.tmod_eq_emod_of_nonneg h0]
  exact ⟨Int.emod_nonneg _ (by omega), Int.emod_lt_of_pos _ h1⟩

theorem own_div {x y : Int32} (h0 : 0 ≤ x.toInt) (h1 : 0 < y.toInt) : (x / y).toInt = x.toInt / y.toInt := by
  have q : x.toInt < 2147483648 := by have := Int32.toInt_lt x; simpa using this
  rw [Int32.toInt_div, Int.tdiv_eq_ediv_of_nonneg h0]
  have a := Int.ediv_le_self y.toInt h0
  have b : 0 ≤ x.toInt / y.toInt := Int.ediv_nonneg h0 (by omega)
  rw [Int.bmod_def]
  omega

theorem own_and2 {α : Type} {o : Option α} {P R : α → Prop} (h : own_ok o P) (g : own_ok o R) : own_ok o (fun x => P x ∧ R x) := by
  obtain ⟨r, e, p⟩ := h
  obtain ⟨r', e', p'⟩ := g
  rw [e] at e'
  cases e'
  exact ⟨r, e, p, p'⟩
def own_L1 (s : Q) : Prop := s.f_basis.length = 256 ∧ s.f_target.length = 256 ∧ s.f_literal.length = 256 ∧ s.f_out.length = 256 ∧ s.f_blkLen.length = 128 ∧ s.f_blkWeak.length = 128 ∧ s.f_blkStrong.length = 128 ∧ s.f_head.length = 256 ∧ s.f_next.length = 128 ∧ s.f_kinds.length = 256 ∧ s.f_values.length = 256
def own_I (B : Int32) (s : Q) : Prop := own_L1 s ∧ s.f_blockSize = B ∧ (2 ≤ B.toInt ∧ B.toInt ≤ 32) ∧ (0 ≤ s.f_basisLen.toInt ∧ s.f_basisLen.toInt ≤ 256) ∧ (0 ≤ s.f_targetLen.toInt ∧ s.f_targetLen.toInt ≤ 256)
/-- j is a full block -/
def own_fl (s : Q) (j : Int32) : Prop := 0 ≤ j.toInt ∧ j.toInt < s.f_blocks.toInt ∧ rd s.f_blkLen j = s.f_blockSize
def own_bl (s : Q) (B j : Int32) : Int32 := if j = s.f_blocks - 1 then s.f_basisLen - (s.f_blocks - 1) * B else B
/-- the block table is right -/
def own_T (B : Int32) (s : Q) : Prop := s.f_blocks = (s.f_basisLen + B - 1) / B ∧ ∀ j : Int32, 0 ≤ j.toInt → j.toInt < s.f_blocks.toInt → rd s.f_blkLen j = own_bl s B j
def own_X (s : Q) : Prop := (s.f_shortBlock = -1 ∨ (0 ≤ s.f_shortBlock.toInt ∧ s.f_shortBlock.toInt < s.f_blocks.toInt)) ∧ (∀ i, inb 256 i = true → rd s.f_head i = -1 ∨ own_fl s (rd s.f_head i)) ∧ (∀ j, 0 ≤ j.toInt → j.toInt < s.f_blocks.toInt → rd s.f_next j = -1 ∨ own_fl s (rd s.f_next j))
/-- how many blocks there are -/
theorem own_nb {bl B : Int32} (h0 : 0 ≤ bl.toInt) (h1 : bl.toInt ≤ 256) (b0 : 2 ≤ B.toInt) (b1 : B.toInt ≤ 32) : ((bl + B - 1) / B).toInt = (bl.toInt + B.toInt - 1) / B.toInt ∧ 0 ≤ ((bl + B - 1) / B).toInt ∧ ((bl + B - 1) / B).toInt ≤ 128 ∧ (0 < bl.toInt → (((bl + B - 1) / B).toInt - 1) * B.toInt < bl.toInt ∧ bl.toInt ≤ ((bl + B - 1) / B).toInt * B.toInt ∧ 1 ≤ ((bl + B - 1) / B).toInt) ∧ (bl.toInt = 0 → ((bl + B - 1) / B).toInt = 0) := by
  have e1 : (bl + B).toInt = bl.toInt + B.toInt := by rw [own_add] <;> omega
  have e2 : (bl + B - 1).toInt = bl.toInt + B.toInt - 1 := by rw [own_sub] <;> simp only [Int32.reduceToInt] <;> omega
  have e3 : ((bl + B - 1) / B).toInt = (bl.toInt + B.toInt - 1) / B.toInt := by rw [own_div (by omega) (by omega), e2]
  have q := Int.mul_ediv_add_emod (bl.toInt + B.toInt - 1) B.toInt
  have r0 := Int.emod_nonneg (bl.toInt + B.toInt - 1) (show B.toInt ≠ 0 by omega)
  have r1 := Int.emod_lt_of_pos (bl.toInt + B.toInt - 1) (show 0 < B.toInt by omega)
  have q0 : 0 ≤ (bl.toInt + B.toInt - 1) / B.toInt := Int.ediv_nonneg (by omega) (by omega)
  have le : (bl.toInt + B.toInt - 1) / B.toInt ≤ 128 := by
    have : (bl.toInt + B.toInt - 1) / B.toInt < 129 := by
      apply Int.ediv_lt_of_lt_mul (by omega)
      omega
    omega
  rw [e3]
  generalize hd : (bl.toInt + B.toInt - 1) / B.toInt = d at *
  generalize (bl.toInt + B.toInt - 1) % B.toInt = r at *
  have cm : B.toInt * d = d * B.toInt := Int.mul_comm _ _
  refine ⟨rfl, q0, le, ?_, ?_⟩
  · intro hp
    have h1 : 1 ≤ d := by
      by_cases z : d = 0
      · rw [z, Int.mul_zero] at q; omega
      · omega
    have e : (d - 1) * B.toInt = d * B.toInt - B.toInt := by rw [Int.sub_mul, Int.one_mul]
    rw [e]
    refine ⟨by omega, by omega, h1⟩
  · intro hz
    by_cases z : d = 0
    · exact z
    · have : B.toInt * 1 ≤ B.toInt * d := Int.mul_le_mul_of_nonneg_left (by omega) (by omega)
      omega
/-- what a valid block is -/
theorem own_blk {B : Int32} {s : Q} {j : Int32} (hI : own_I B s) (hT : own_T B s) (h0 : 0 ≤ j.toInt) (h1 : j.toInt < s.f_blocks.toInt) : 1 ≤ (rd s.f_blkLen j).toInt ∧ (rd s.f_blkLen j).toInt ≤ B.toInt ∧ (j * B).toInt = j.toInt * B.toInt ∧ 0 ≤ j.toInt * B.toInt ∧ j.toInt * B.toInt + (rd s.f_blkLen j).toInt ≤ s.f_basisLen.toInt ∧ j.toInt < 128 := by
  obtain ⟨_, _, ⟨b0, b1⟩, ⟨n0, n1⟩, _⟩ := hI
  obtain ⟨t1, t2⟩ := hT
  obtain ⟨x1, x2, x3, x4, x5⟩ := own_nb n0 n1 b0 b1
  rw [← t1] at x1 x2 x3 x4 x5
  have bp : 0 < s.f_basisLen.toInt := by
    by_cases z : s.f_basisLen.toInt = 0
    · have := x5 z; omega
    · omega
  obtain ⟨y1, y2, y3⟩ := x4 bp
  have jm : 0 ≤ j.toInt * B.toInt := Int.mul_nonneg h0 (by omega)
  have jm2 : j.toInt * B.toInt ≤ (s.f_blocks.toInt - 1) * B.toInt := Int.mul_le_mul_of_nonneg_right (by omega) (by omega)
  have mul : (j * B).toInt = j.toInt * B.toInt := by rw [own_mul] <;> omega
  have eb1 : (s.f_blocks - 1).toInt = s.f_blocks.toInt - 1 := by rw [own_sub] <;> simp only [Int32.reduceToInt] <;> omega
  have em : ((s.f_blocks - 1) * B).toInt = (s.f_blocks.toInt - 1) * B.toInt := by rw [own_mul, eb1] <;> rw [eb1] <;> omega
  have ed : (s.f_basisLen - (s.f_blocks - 1) * B).toInt = s.f_basisLen.toInt - (s.f_blocks.toInt - 1) * B.toInt := by rw [own_sub, em] <;> rw [em] <;> omega
  have es : (s.f_blocks.toInt - 1) * B.toInt = s.f_blocks.toInt * B.toInt - B.toInt := by rw [Int.sub_mul, Int.one_mul]
  rw [t2 j h0 h1]
  unfold own_bl
  by_cases c : j = s.f_blocks - 1
  · rw [if_pos c, ed]
    have cj : j.toInt = s.f_blocks.toInt - 1 := by rw [c, eb1]
    refine ⟨by omega, by omega, mul, jm, by rw [cj]; omega, by omega⟩
  · rw [if_neg c]
    have cj : j.toInt + 1 ≤ s.f_blocks.toInt - 1 := by
      have : ¬ j.toInt = s.f_blocks.toInt - 1 := fun z => c (Int32.toInt_inj.mp (by rw [eb1]; exact z))
      omega
    have jm3 : (j.toInt + 1) * B.toInt ≤ (s.f_blocks.toInt - 1) * B.toInt := Int.mul_le_mul_of_nonneg_right cj (by omega)
    have ej : (j.toInt + 1) * B.toInt = j.toInt * B.toInt + B.toInt := by rw [Int.add_mul, Int.one_mul]
    refine ⟨by omega, by omega, mul, jm, by omega, by omega⟩
/-- bytes appended to the basis -/
theorem own_apbasis {w : Int32} {n : Int32} {s : Q} (hn : n.toInt ≤ 4) : ∀ (m : Nat) (x : List Int32) (l k : Int32), x.length = 256 → 0 ≤ k.toInt → k.toInt ≤ n.toInt → 0 ≤ l.toInt → l.toInt + (n.toInt - k.toInt) ≤ 256 → (0 < k.toInt → rd x (l - 1) = ush w (8 * (k - 1)) &&& 255) → n.toInt - k.toInt < m → own_ok (j_appendBasis_l37 m ((s.s_basis x).s_basisLen l) w n k) (fun s' => ∃ y l', s' = (s.s_basis y).s_basisLen l' ∧ y.length = 256 ∧ l'.toInt = l.toInt + (n.toInt - k.toInt) ∧ (0 < n.toInt → rd y (l' - 1) = ush w (8 * (n - 1)) &&& 255)) := by
  intro m
  induction m with
  | zero => intro x l k _ _ _ _ _ _ h; omega
  | succ m ih =>
    intro x l k hx k0 k1 l0 l1 hb hm
    rw [j_appendBasis_l37]
    by_cases c : k < n
    · rw [if_pos c]
      rw [lt32] at c
      have ek : (k + 1).toInt = k.toInt + 1 := own_inc (by omega) (by omega)
      have el : (l + 1).toInt = l.toInt + 1 := own_inc (by omega) (by omega)
      have il : inb 256 l = true := inb_iff.mpr (by omega)
      have nx := ih (wr x l (ush w (8 * k) &&& 255)) (l + 1) (k + 1) (by rw [len_wr, hx]) (by omega) (by omega) (by omega) (by omega) (fun _ => by
        rw [Int32.add_sub_cancel, Int32.add_sub_cancel]
        exact rd_wr_same (by rw [hx]; exact il) _) (by omega)
      simp only [own_Qa] at nx ⊢
      rw [hx, if_pos il]
      refine own_mono nx ?_
      rintro s' ⟨y, l', e1, e2, e3, e4⟩
      exact ⟨y, l', e1, e2, by omega, e4⟩
    · rw [if_neg c]
      rw [lt32] at c
      have e : k = n := Int32.toInt_inj.mp (by omega)
      exact ⟨_, rfl, x, l, rfl, hx, by omega, fun z => by rw [← e] at z ⊢; exact hb z⟩
/-- bytes appended to the target -/
theorem own_aptarget {w : Int32} {n : Int32} {s : Q} (hn : n.toInt ≤ 4) : ∀ (m : Nat) (x : List Int32) (l k : Int32), x.length = 256 → 0 ≤ k.toInt → k.toInt ≤ n.toInt → 0 ≤ l.toInt → l.toInt + (n.toInt - k.toInt) ≤ 256 → (0 < k.toInt → rd x (l - 1) = ush w (8 * (k - 1)) &&& 255) → n.toInt - k.toInt < m → own_ok (j_appendTarget_l45 m ((s.s_target x).s_targetLen l) w n k) (fun s' => ∃ y l', s' = (s.s_target y).s_targetLen l' ∧ y.length = 256 ∧ l'.toInt = l.toInt + (n.toInt - k.toInt) ∧ (0 < n.toInt → rd y (l' - 1) = ush w (8 * (n - 1)) &&& 255)) := by
  intro m
  induction m with
  | zero => intro x l k _ _ _ _ _ _ h; omega
  | succ m ih =>
    intro x l k hx k0 k1 l0 l1 hb hm
    rw [j_appendTarget_l45]
    by_cases c : k < n
    · rw [if_pos c]
      rw [lt32] at c
      have ek : (k + 1).toInt = k.toInt + 1 := own_inc (by omega) (by omega)
      have el : (l + 1).toInt = l.toInt + 1 := own_inc (by omega) (by omega)
      have il : inb 256 l = true := inb_iff.mpr (by omega)
      have nx := ih (wr x l (ush w (8 * k) &&& 255)) (l + 1) (k + 1) (by rw [len_wr, hx]) (by omega) (by omega) (by omega) (by omega) (fun _ => by
        rw [Int32.add_sub_cancel, Int32.add_sub_cancel]
        exact rd_wr_same (by rw [hx]; exact il) _) (by omega)
      simp only [own_Qa] at nx ⊢
      rw [hx, if_pos il]
      refine own_mono nx ?_
      rintro s' ⟨y, l', e1, e2, e3, e4⟩
      exact ⟨y, l', e1, e2, by omega, e4⟩
    · rw [if_neg c]
      rw [lt32] at c
      have e : k = n := Int32.toInt_inj.mp (by omega)
      exact ⟨_, rfl, x, l, rfl, hx, by omega, fun z => by rw [← e] at z ⊢; exact hb z⟩
theorem own_appB {B : Int32} {s : Q} {w n : Int32} (hI : own_I B s) (h0 : s.f_phaseNow = 0) (n1 : 1 ≤ n.toInt) (n4 : n.toInt ≤ 4) (hl : s.f_basisLen.toInt + n.toInt ≤ 256) : ∃ y, j_appendBasis s w n = some (s.f_basisLen + n, (s.s_basis y).s_basisLen (s.f_basisLen + n)) ∧ y.length = 256 ∧ rd y (s.f_basisLen + n - 1) = ush w (8 * (n - 1)) &&& 255 := by
  have lb : s.f_basis.length = 256 := hI.1.1
  have bl := hI.2.2.2.1
  have en : (s.f_basisLen + n).toInt = s.f_basisLen.toInt + n.toInt := by rw [own_add] <;> omega
  have z := own_apbasis (w := w) (n := n) (s := s) n4 3000 s.f_basis s.f_basisLen 0 lb (by decide) (by simp only [Int32.reduceToInt]; omega) bl.1 (by simp only [Int32.reduceToInt]; omega) (fun q => absurd q (by decide)) (by simp only [Int32.reduceToInt]; omega)
  have es : (s.s_basis s.f_basis).s_basisLen s.f_basisLen = s := by simp only [own_Qa]; exact own_eta s
  rw [es] at z
  obtain ⟨s', e, y, l', e1, e2, e3, e4⟩ := z
  simp only [Int32.reduceToInt] at e3
  have el : l' = s.f_basisLen + n := Int32.toInt_inj.mp (by omega)
  subst el
  refine ⟨y, ?_, e2, e4 (by omega)⟩
  unfold j_appendBasis
  rw [if_pos h0, if_neg (by rw [lt32]; simp only [Int32.reduceToInt]; omega), if_neg (by rw [lt32]; simp only [Int32.reduceToInt]; omega), if_neg (by rw [lt32, en]; simp only [Int32.reduceToInt]; omega), e, Option.bind_some, e1]
  simp only [own_Qa]
theorem own_appT {B : Int32} {s : Q} {w n : Int32} (hI : own_I B s) (h0 : s.f_phaseNow = 0 ∨ s.f_phaseNow = 1) (n1 : 1 ≤ n.toInt) (n4 : n.toInt ≤ 4) (hl : s.f_targetLen.toInt + n.toInt ≤ 256) : ∃ y, j_appendTarget s w n = some (s.f_targetLen + n, (s.s_target y).s_targetLen (s.f_targetLen + n)) ∧ y.length = 256 ∧ rd y (s.f_targetLen + n - 1) = ush w (8 * (n - 1)) &&& 255 := by
  have lb : s.f_target.length = 256 := hI.1.2.1
  have bl := hI.2.2.2.2
  have en : (s.f_targetLen + n).toInt = s.f_targetLen.toInt + n.toInt := by rw [own_add] <;> omega
  have z := own_aptarget (w := w) (n := n) (s := s) n4 3000 s.f_target s.f_targetLen 0 lb (by decide) (by simp only [Int32.reduceToInt]; omega) bl.1 (by simp only [Int32.reduceToInt]; omega) (fun q => absurd q (by decide)) (by simp only [Int32.reduceToInt]; omega)
  have es : (s.s_target s.f_target).s_targetLen s.f_targetLen = s := by simp only [own_Qa]; exact own_eta s
  rw [es] at z
  obtain ⟨s', e, y, l', e1, e2, e3, e4⟩ := z
  simp only [Int32.reduceToInt] at e3
  have el : l' = s.f_targetLen + n := Int32.toInt_inj.mp (by omega)
  subst el
  refine ⟨y, ?_, e2, e4 (by omega)⟩
  have b17 : j_appendTarget_b17 s w n = some (s.f_targetLen + n, (s.s_target y).s_targetLen (s.f_targetLen + n)) := by
    unfold j_appendTarget_b17
    rw [if_neg (by rw [lt32]; simp only [Int32.reduceToInt]; omega), if_neg (by rw [lt32]; simp only [Int32.reduceToInt]; omega), if_neg (by rw [lt32, en]; simp only [Int32.reduceToInt]; omega), e, Option.bind_some, e1]
    simp only [own_Qa]
  unfold j_appendTarget
  rcases h0 with q | q
  · rw [if_pos q]; exact b17
  · rw [if_neg (by rw [q]; decide), if_pos q]; exact b17
/-- refusals of the appends -/
theorem own_refB {B : Int32} {s : Q} {w n : Int32} (hI : own_I B s) (n0 : 0 ≤ n.toInt) (n4 : n.toInt ≤ 4) (h : ¬ s.f_phaseNow = 0 ∨ n.toInt < 1 ∨ 256 < s.f_basisLen.toInt + n.toInt) : j_appendBasis s w n = some (-1, s) := by
  have bl := hI.2.2.2.1
  have en : (s.f_basisLen + n).toInt = s.f_basisLen.toInt + n.toInt := by rw [own_add] <;> omega
  unfold j_appendBasis
  by_cases a : s.f_phaseNow = 0
  · rw [if_pos a]
    by_cases b : n < 1
    · rw [if_pos b]
    · rw [if_neg b, if_neg (by rw [lt32]; simp only [Int32.reduceToInt]; omega)]
      rw [lt32] at b
      simp only [Int32.reduceToInt] at b
      rw [if_pos (by rw [lt32, en]; simp only [Int32.reduceToInt]; rcases h with q | q | q; exact absurd a q; omega; omega)]
  · rw [if_neg a]
theorem own_refT {B : Int32} {s : Q} {w n : Int32} (hI : own_I B s) (n0 : 0 ≤ n.toInt) (n4 : n.toInt ≤ 4) (h : ¬ (s.f_phaseNow = 0 ∨ s.f_phaseNow = 1) ∨ n.toInt < 1 ∨ 256 < s.f_targetLen.toInt + n.toInt) : j_appendTarget s w n = some (-1, s) := by
  have bl := hI.2.2.2.2
  have en : (s.f_targetLen + n).toInt = s.f_targetLen.toInt + n.toInt := by rw [own_add] <;> omega
  have b17 : (n.toInt < 1 ∨ 256 < s.f_targetLen.toInt + n.toInt) → j_appendTarget_b17 s w n = some (-1, s) := by
    intro hh
    unfold j_appendTarget_b17
    by_cases b : n < 1
    · rw [if_pos b]
    · rw [if_neg b, if_neg (by rw [lt32]; simp only [Int32.reduceToInt]; omega)]
      rw [lt32] at b
      simp only [Int32.reduceToInt] at b
      rw [if_pos (by rw [lt32, en]; simp only [Int32.reduceToInt]; omega)]
  unfold j_appendTarget
  by_cases a : s.f_phaseNow = 0
  · rw [if_pos a]
    exact b17 (h.resolve_left (fun z => z (Or.inl a)))
  · rw [if_neg a]
    by_cases b : s.f_phaseNow = 1
    · rw [if_pos b]
      exact b17 (h.resolve_left (fun z => z (Or.inr b)))
    · rw [if_neg b]

theorem own_wk {s : Q} {st ln : Int32} (hb : s.f_basis.length = 256) (s0 : 0 ≤ st.toInt) (s1 : st.toInt ≤ 1000) (l1 : ln.toInt ≤ 1000) : ∀ (n : Nat) (a b k : Int32), 0 ≤ k.toInt → k.toInt ≤ 1000 → 1000 - k.toInt < n → own_ok (j_weakOfBasis_l8 n s st ln a b k) (fun _ => True) := by
  intro n
  induction n with
  | zero => intro a b k _ _ h; omega
  | succ n ih =>
    intro a b k k0 k1 hn
    rw [j_weakOfBasis_l8]
    by_cases c : k < ln
    · rw [if_pos c]
      rw [lt32] at c
      have e : (st + k).toInt = st.toInt + k.toInt := by rw [own_add] <;> omega
      have ek : (k + 1).toInt = k.toInt + 1 := own_inc (by omega) (by omega)
      rw [if_neg (by rw [lt32, e]; simp only [Int32.reduceToInt]; omega)]
      by_cases d : st + k < 256
      · rw [if_pos d]
        rw [lt32, e] at d
        simp only [Int32.reduceToInt] at d
        rw [hb, if_pos (inb_iff.mpr (by omega))]
        exact ih _ _ (k + 1) (by omega) (by omega) (by omega)
      · rw [if_neg d]; exact ⟨_, rfl, trivial⟩
    · rw [if_neg c]; exact ⟨_, rfl, trivial⟩
theorem own_wkB {s : Q} {st ln : Int32} (hb : s.f_basis.length = 256) (s0 : 0 ≤ st.toInt) (s1 : st.toInt ≤ 1000) (l1 : ln.toInt ≤ 1000) : own_ok (j_weakOfBasis s st ln) (fun _ => True) := by
  unfold j_weakOfBasis j_weakOfBasis_b68
  refine own_bind (own_wk hb s0 s1 l1 3000 0 0 0 (by decide) (by decide) (by decide)) ?_
  rintro (x | x) _
  · exact ⟨_, rfl, trivial⟩
  · exact ⟨_, rfl, trivial⟩
theorem own_sk {s : Q} {st ln : Int32} (hb : s.f_basis.length = 256) (s0 : 0 ≤ st.toInt) (s1 : st.toInt ≤ 1000) (l1 : ln.toInt ≤ 1000) : ∀ (n : Nat) (a : Int64) (k : Int32), 0 ≤ k.toInt → k.toInt ≤ 1000 → 1000 - k.toInt < n → own_ok (j_strongOfBasis_l7 n s st ln a k) (fun _ => True) := by
  intro n
  induction n with
  | zero => intro a k _ _ h; omega
  | succ n ih =>
    intro a k k0 k1 hn
    rw [j_strongOfBasis_l7]
    by_cases c : k < ln
    · rw [if_pos c]
      rw [lt32] at c
      have e : (st + k).toInt = st.toInt + k.toInt := by rw [own_add] <;> omega
      have ek : (k + 1).toInt = k.toInt + 1 := own_inc (by omega) (by omega)
      rw [if_neg (by rw [lt32, e]; simp only [Int32.reduceToInt]; omega)]
      by_cases d : st + k < 256
      · rw [if_pos d]
        rw [lt32, e] at d
        simp only [Int32.reduceToInt] at d
        rw [hb, if_pos (inb_iff.mpr (by omega))]
        exact ih _ (k + 1) (by omega) (by omega) (by omega)
      · rw [if_neg d]; exact ⟨_, rfl, trivial⟩
    · rw [if_neg c]; exact ⟨_, rfl, trivial⟩
theorem own_skB {s : Q} {st ln : Int32} (hb : s.f_basis.length = 256) (s0 : 0 ≤ st.toInt) (s1 : st.toInt ≤ 1000) (l1 : ln.toInt ≤ 1000) : own_ok (j_strongOfBasis s st ln) (fun _ => True) := by
  unfold j_strongOfBasis j_strongOfBasis_b58
  refine own_bind (own_sk hb s0 s1 l1 3000 _ 0 (by decide) (by decide) (by decide)) ?_
  rintro (x | x) _
  · exact ⟨_, rfl, trivial⟩
  · exact ⟨_, rfl, trivial⟩
def own_SU (s : Q) (a b : List Int32) (c : List Int64) : Q := ((s.s_blkLen a).s_blkWeak b).s_blkStrong c
/-- the block lengths are written -/
theorem own_sgl {B : Int32} {s : Q} (hI : own_I B s) (hb : s.f_blocks = (s.f_basisLen + B - 1) / B) : ∀ (n : Nat) (a b : List Int32) (c : List Int64) (j : Int32), a.length = 128 → b.length = 128 → c.length = 128 → (∀ i : Int32, 0 ≤ i.toInt → i.toInt < j.toInt → rd a i = own_bl s B i) → 0 ≤ j.toInt → j.toInt ≤ s.f_blocks.toInt → s.f_blocks.toInt - j.toInt < n → own_ok (j_sign_l58 n (own_SU s a b c) B j) (fun s' => ∃ a b c, s' = own_SU s a b c ∧ a.length = 128 ∧ b.length = 128 ∧ c.length = 128 ∧ ∀ i : Int32, 0 ≤ i.toInt → i.toInt < s.f_blocks.toInt → rd a i = own_bl s B i) := by
  have hI0 := hI
  obtain ⟨hL, hB, ⟨b0, b1⟩, ⟨n0, n1⟩, _⟩ := hI
  obtain ⟨x1, x2, x3, x4, x5⟩ := own_nb n0 n1 b0 b1
  rw [← hb] at x1 x2 x3 x4 x5
  intro n
  induction n with
  | zero => intro a b c j _ _ _ _ _ _ h; omega
  | succ n ih =>
    intro a b c j ha hbb hc hz j0 j1 hn
    rw [j_sign_l58]
    have e1 : (own_SU s a b c).f_blocks = s.f_blocks := by unfold own_SU; simp only [own_Qa]
    have e2 : (own_SU s a b c).f_basisLen = s.f_basisLen := by unfold own_SU; simp only [own_Qa]
    rw [e1, e2]
    by_cases q : j < s.f_blocks
    · rw [if_pos q]
      rw [lt32] at q
      have ej : (j + 1).toInt = j.toInt + 1 := own_inc (by omega) (by omega)
      have ij : inb 128 j = true := inb_iff.mpr (by omega)
      have bp : 0 < s.f_basisLen.toInt := by
        by_cases z : s.f_basisLen.toInt = 0
        · have := x5 z; omega
        · omega
      obtain ⟨y1, y2, y3⟩ := x4 bp
      have jm : 0 ≤ j.toInt * B.toInt := Int.mul_nonneg j0 (by omega)
      have jm2 : j.toInt * B.toInt ≤ (s.f_blocks.toInt - 1) * B.toInt := Int.mul_le_mul_of_nonneg_right (by omega) (by omega)
      have mul : (j * B).toInt = j.toInt * B.toInt := by rw [own_mul] <;> omega
      have eb1 : (s.f_blocks - 1).toInt = s.f_blocks.toInt - 1 := by rw [own_sub] <;> simp only [Int32.reduceToInt] <;> omega
      have em : ((s.f_blocks - 1) * B).toInt = (s.f_blocks.toInt - 1) * B.toInt := by rw [own_mul, eb1] <;> rw [eb1] <;> omega
      have ed : (s.f_basisLen - (s.f_blocks - 1) * B).toInt = s.f_basisLen.toInt - (s.f_blocks.toInt - 1) * B.toInt := by rw [own_sub, em] <;> rw [em] <;> omega
      have el : (own_bl s B j).toInt ≤ 1000 := by
        unfold own_bl
        split
        · rw [ed]; omega
        · omega
      show own_ok (j_sign_b98 (j_sign_l58 n) (own_SU s a b c) B j (j * B) (own_bl s B j)) _
      generalize hl : own_bl s B j = ln at el
      unfold j_sign_b98
      have f1 : (own_SU s a b c).f_blkLen = a := by unfold own_SU; simp only [own_Qa]
      have f2 : (own_SU s a b c).f_blkWeak = b := by unfold own_SU; simp only [own_Qa]
      have f3 : (own_SU s a b c).f_blkStrong = c := by unfold own_SU; simp only [own_Qa]
      rw [f1, f2, f3, ha, hbb, hc, if_pos ij]
      refine own_bind (own_wkB (by unfold own_SU; simp only [own_Qa]; exact hL.1) (by omega) (by omega) el) fun x _ => ?_
      rw [if_pos ij]
      refine own_bind (own_skB (by unfold own_SU; simp only [own_Qa]; exact hL.1) (by omega) (by omega) el) fun y _ => ?_
      rw [if_pos ij]
      have nx := ih (wr a j ln) (wr b j x) (wrL c j y) (j + 1) (by rw [len_wr, ha]) (by rw [len_wr, hbb]) (by rw [len_wrL, hc]) (by
        intro i i0 i1
        by_cases z : j = i
        · rw [← z, rd_wr_same (by rw [ha]; exact ij)]; exact hl.symm
        · have z' : ¬ j.toInt = i.toInt := fun w => z (Int32.toInt_inj.mp w)
          rw [rd_wr_ne (inb_nn ij) (by rw [lt32]; simp only [Int32.reduceToInt]; omega) z]
          exact hz i i0 (by omega)) (by omega) (by omega) (by omega)
      unfold own_SU at nx ⊢
      simp only [own_Qa] at nx ⊢
      exact nx
    · rw [if_neg q]
      rw [lt32] at q
      exact ⟨_, rfl, a, b, c, rfl, ha, hbb, hc, fun i i0 i1 => hz i i0 (by omega)⟩
theorem own_hd {s : Q} : ∀ (n : Nat) (h : List Int32) (i : Int32), h.length = 256 → (∀ x : Int32, inb 256 x = true → x.toInt < i.toInt → rd h x = -1) → 0 ≤ i.toInt → i.toInt ≤ 256 → 256 - i.toInt < n → own_ok (j_buildIndex_l2 n (s.s_head h) i) (fun s' => ∃ h', s' = s.s_head h' ∧ h'.length = 256 ∧ ∀ x : Int32, inb 256 x = true → rd h' x = -1) := by
  intro n
  induction n with
  | zero => intro h i _ _ _ _ z; omega
  | succ n ih =>
    intro h i hh hz i0 i1 hn
    rw [j_buildIndex_l2]
    by_cases c : i < 256
    · rw [if_pos c]
      rw [lt32] at c
      simp only [Int32.reduceToInt] at c
      have ei : (i + 1).toInt = i.toInt + 1 := own_inc (by omega) (by omega)
      have j1 : inb 256 i = true := inb_iff.mpr (by omega)
      have nx := ih (wr h i (-1)) (i + 1) (by rw [len_wr, hh]) (by
        intro x hx hxi
        by_cases q : i = x
        · rw [← q]; exact rd_wr_same (by rw [hh]; exact j1) _
        · have q' : ¬ i.toInt = x.toInt := fun z => q (Int32.toInt_inj.mp z)
          rw [rd_wr_ne (inb_nn j1) (inb_nn hx) q]
          exact hz x hx (by omega)) (by omega) (by omega) (by omega)
      simp only [own_Qa] at nx ⊢
      rw [hh, if_pos j1]
      exact nx
    · rw [if_neg c]
      rw [lt32] at c
      simp only [Int32.reduceToInt] at c
      refine ⟨_, rfl, h, rfl, hh, fun x hx => hz x hx ?_⟩
      have := inb_iff.mp hx
      omega
theorem own_bk (w : Int32) : inb 256 (j_bucketOf w) = true := by
  unfold j_bucketOf
  have := own_msk (((w ^^^ ush w 8) ^^^ ush w 16) ^^^ ush w 24) 255 (by decide)
  simp only [Int32.reduceToInt] at this
  exact inb_iff.mpr (by omega)
def own_BU (s : Q) (h x : List Int32) (q : Int32) : Q := ((s.s_head h).s_next x).s_shortBlock q
theorem own_bil {s : Q} (l1 : s.f_blkLen.length = 128) (l2 : s.f_blkWeak.length = 128) (nb : s.f_blocks.toInt ≤ 128) : ∀ (n : Nat) (h x : List Int32) (q j : Int32), h.length = 256 → x.length = 128 → (q = -1 ∨ (0 ≤ q.toInt ∧ q.toInt < s.f_blocks.toInt)) → (∀ i, inb 256 i = true → rd h i = -1 ∨ own_fl s (rd h i)) → (∀ k : Int32, j.toInt < k.toInt → k.toInt < s.f_blocks.toInt → rd x k = -1 ∨ own_fl s (rd x k)) → -1 ≤ j.toInt → j.toInt < s.f_blocks.toInt ∨ j.toInt = -1 → j.toInt + 1 < n → own_ok (j_buildIndex_l34 n (own_BU s h x q) j) (fun s' => ∃ h x q, s' = own_BU s h x q ∧ h.length = 256 ∧ x.length = 128 ∧ (q = -1 ∨ (0 ≤ q.toInt ∧ q.toInt < s.f_blocks.toInt)) ∧ (∀ i, inb 256 i = true → rd h i = -1 ∨ own_fl s (rd h i)) ∧ (∀ k : Int32, 0 ≤ k.toInt → k.toInt < s.f_blocks.toInt → rd x k = -1 ∨ own_fl s (rd x k))) := by
  intro n
  induction n with
  | zero => intro h x q j _ _ _ _ _ _ _ z; omega
  | succ n ih =>
    intro h x q j hh hx hq hH hX j0 j1 hn
    rw [j_buildIndex_l34]
    by_cases c : j < 0
    · rw [if_pos c]
      rw [lt32] at c
      simp only [Int32.reduceToInt] at c
      exact ⟨_, rfl, h, x, q, rfl, hh, hx, hq, hH, fun k k0 k1 => hX k (by omega) k1⟩
    · rw [if_neg c]
      rw [lt32] at c
      simp only [Int32.reduceToInt] at c
      have jb : j.toInt < s.f_blocks.toInt := by omega
      have ij : inb 128 j = true := inb_iff.mpr (by omega)
      have ej : (j + -1).toInt = j.toInt - 1 := by rw [own_add] <;> simp only [Int32.reduceToInt] <;> omega
      have f1 : (own_BU s h x q).f_blkLen = s.f_blkLen := by unfold own_BU; simp only [own_Qa]
      have f2 : (own_BU s h x q).f_blkWeak = s.f_blkWeak := by unfold own_BU; simp only [own_Qa]
      have f3 : (own_BU s h x q).f_head = h := by unfold own_BU; simp only [own_Qa]
      have f4 : (own_BU s h x q).f_next = x := by unfold own_BU; simp only [own_Qa]
      have f5 : (own_BU s h x q).f_blockSize = s.f_blockSize := by unfold own_BU; simp only [own_Qa]
      rw [f1, f2, f3, f4, f5, l1, l2, hh, hx, if_pos ij, if_pos ij, if_pos ij, if_pos (own_bk _), if_pos (own_bk _)]
      unfold j_buildIndex_b96
      by_cases d : rd s.f_blkLen j = s.f_blockSize
      · rw [if_pos d]
        have fj : own_fl s j := ⟨by omega, jb, d⟩
        have ib := own_bk (rd s.f_blkWeak j)
        have nx := ih (wr h (j_bucketOf (rd s.f_blkWeak j)) j) (wr x j (rd h (j_bucketOf (rd s.f_blkWeak j)))) q (j + -1) (by rw [len_wr, hh]) (by rw [len_wr, hx]) hq (by
          intro i hi
          by_cases z : j_bucketOf (rd s.f_blkWeak j) = i
          · rw [← z, rd_wr_same (by rw [hh]; exact ib)]; exact Or.inr fj
          · rw [rd_wr_ne (inb_nn ib) (inb_nn hi) z]; exact hH i hi) (by
          intro k k0 k1
          by_cases z : j = k
          · rw [← z, rd_wr_same (by rw [hx]; exact ij)]; exact hH _ ib
          · have z' : ¬ j.toInt = k.toInt := fun w => z (Int32.toInt_inj.mp w)
            rw [rd_wr_ne (inb_nn ij) (by rw [lt32]; simp only [Int32.reduceToInt]; omega) z]
            exact hX k (by omega) k1) (by omega) (by omega) (by omega)
        unfold own_BU at nx ⊢
        simp only [own_Qa] at nx ⊢
        exact nx
      · rw [if_neg d]
        have nx := ih h (wr x j (-1)) j (j + -1) hh (by rw [len_wr, hx]) (Or.inr ⟨by omega, jb⟩) hH (by
          intro k k0 k1
          by_cases z : j = k
          · rw [← z, rd_wr_same (by rw [hx]; exact ij)]; exact Or.inl rfl
          · have z' : ¬ j.toInt = k.toInt := fun w => z (Int32.toInt_inj.mp w)
            rw [rd_wr_ne (inb_nn ij) (by rw [lt32]; simp only [Int32.reduceToInt]; omega) z]
            exact hX k (by omega) k1) (by omega) (by omega) (by omega)
        rw [if_pos ij]
        unfold own_BU at nx ⊢
        simp only [own_Qa] at nx ⊢
        exact nx
def own_GU (s : Q) (nb : Int32) (a b : List Int32) (c : List Int64) (h x : List Int32) (q : Int32) : Q := (own_BU (own_SU (s.s_blocks nb) a b c) h x q).s_phaseNow 1
theorem own_sgn {B : Int32} {s : Q} (hI : own_I B s) (h0 : s.f_phaseNow = 0) : own_ok (j_sign s) (fun r => r.1 = (s.f_basisLen + B - 1) / B ∧ (∃ a b c h x q, r.2 = own_GU s ((s.f_basisLen + B - 1) / B) a b c h x q) ∧ own_I B r.2 ∧ own_T B r.2 ∧ own_X r.2) := by
  have hI0 := hI
  obtain ⟨⟨z1, z2, z3, z4, z5, z6, z7, z8, z9, z10, z11⟩, hB, ⟨b0, b1⟩, ⟨n0, n1⟩, ht⟩ := hI
  obtain ⟨x1, x2, x3, x4, x5⟩ := own_nb n0 n1 b0 b1
  have b56 : own_ok (j_sign_b56 (s.s_blocks ((s.f_basisLen + B - 1) / B)) B) (fun r => r.1 = (s.f_basisLen + B - 1) / B ∧ (∃ a b c h x q, r.2 = own_GU s ((s.f_basisLen + B - 1) / B) a b c h x q) ∧ own_I B r.2 ∧ own_T B r.2 ∧ own_X r.2) := by
    generalize hnb : (s.f_basisLen + B - 1) / B = nb at *
    have hI1 : own_I B (s.s_blocks nb) := by
      unfold own_I own_L1
      simp only [own_Qa]
      exact ⟨⟨z1, z2, z3, z4, z5, z6, z7, z8, z9, z10, z11⟩, hB, ⟨b0, b1⟩, ⟨n0, n1⟩, ht⟩
    unfold j_sign_b56
    have es : own_SU (s.s_blocks nb) s.f_blkLen s.f_blkWeak s.f_blkStrong = s.s_blocks nb := by
      unfold own_SU
      simp only [own_Qa]
    have A := own_sgl hI1 (by simp only [own_Qa]; exact hnb.symm) 3000 s.f_blkLen s.f_blkWeak s.f_blkStrong 0 z5 z6 z7 (fun i i0 i1 => by simp only [Int32.reduceToInt] at i1; omega) (by decide) (by simp only [own_Qa, Int32.reduceToInt]; omega) (by simp only [own_Qa, Int32.reduceToInt]; omega)
    rw [es] at A
    refine own_bind A ?_
    rintro y ⟨a, b, c, ey, a1, a2, a3, a4⟩
    have yb : y.f_blocks = nb := by rw [ey]; unfold own_SU; simp only [own_Qa]
    unfold j_buildIndex
    have eh : y.s_head y.f_head = y := by rw [own_e_head]; exact own_eta y
    have yh : y.f_head = s.f_head := by rw [ey]; unfold own_SU; simp only [own_Qa]
    have yn : y.f_next = s.f_next := by rw [ey]; unfold own_SU; simp only [own_Qa]
    have Hh := own_hd (s := y) 3000 y.f_head 0 (by rw [yh]; exact z8) (fun x hx hxi => by
      have := inb_iff.mp hx
      simp only [Int32.reduceToInt] at hxi
      omega) (by decide) (by decide) (by decide)
    rw [eh] at Hh
    refine own_bind (P := fun w => ∃ h x q, w = own_BU y h x q ∧ h.length = 256 ∧ x.length = 128 ∧ (q = -1 ∨ (0 ≤ q.toInt ∧ q.toInt < y.f_blocks.toInt)) ∧ (∀ i, inb 256 i = true → rd h i = -1 ∨ own_fl y (rd h i)) ∧ (∀ k : Int32, 0 ≤ k.toInt → k.toInt < y.f_blocks.toInt → rd x k = -1 ∨ own_fl y (rd x k))) ?_ ?_
    · refine own_bind Hh ?_
      rintro w ⟨h, ew, h1, h2⟩
      have wb : w.f_blocks = nb := by rw [ew]; simp only [own_Qa]; exact yb
      have eB : (nb - 1).toInt = nb.toInt - 1 := by rw [own_sub] <;> simp only [Int32.reduceToInt] <;> omega
      have Z := own_bil (s := y) (by rw [ey]; unfold own_SU; simp only [own_Qa]; exact a1) (by rw [ey]; unfold own_SU; simp only [own_Qa]; exact a2) (by rw [yb]; exact x3) 3000 h y.f_next (-1) (nb - 1) h1 (by rw [yn]; exact z9) (Or.inl rfl) (fun i hi => Or.inl (h2 i hi)) (fun k k0 k1 => by rw [yb] at k1; omega) (by omega) (by rw [yb]; omega) (by omega)
      have eu : own_BU y h y.f_next (-1) = w.s_shortBlock (-1) := by
        rw [ew]; unfold own_BU; simp only [own_Qa]
      rw [eu, own_e_shortBlock, ← wb] at Z
      exact own_bind Z fun v hv => ⟨_, rfl, hv⟩
    · rintro w ⟨h, x, q, ew, h1, h2, h3, h4, h5⟩
      rw [← own_e_phaseNow]
      have eg : w.s_phaseNow 1 = own_GU s nb a b c h x q := by
        rw [ew, ey]; unfold own_GU; rfl
      have fb : (own_GU s nb a b c h x q).f_blocks = nb := by unfold own_GU own_BU own_SU; simp only [own_Qa]
      have fl : (own_GU s nb a b c h x q).f_blkLen = a := by unfold own_GU own_BU own_SU; simp only [own_Qa]
      have fs : (own_GU s nb a b c h x q).f_blockSize = s.f_blockSize := by unfold own_GU own_BU own_SU; simp only [own_Qa]
      have fbl : (own_GU s nb a b c h x q).f_basisLen = s.f_basisLen := by unfold own_GU own_BU own_SU; simp only [own_Qa]
      have yl : y.f_blkLen = a := by rw [ey]; unfold own_SU; simp only [own_Qa]
      have ys : y.f_blockSize = s.f_blockSize := by rw [ey]; unfold own_SU; simp only [own_Qa]
      have ful : ∀ k, own_fl y k → own_fl (own_GU s nb a b c h x q) k := by
        intro k hk
        unfold own_fl at hk ⊢
        rw [fb, fl, fs]
        rw [yb, yl, ys] at hk
        exact hk
      rw [eg]
      refine ⟨_, rfl, ?_, ⟨a, b, c, h, x, q, rfl⟩, ?_, ?_, ?_⟩
      · show w.f_blocks = nb
        rw [ew]; unfold own_BU; simp only [own_Qa]; exact yb
      · unfold own_I own_L1 own_GU own_BU own_SU
        simp only [own_Qa]
        exact ⟨⟨z1, z2, z3, z4, a1, a2, a3, h1, h2, z10, z11⟩, hB, ⟨b0, b1⟩, ⟨n0, n1⟩, ht⟩
      · unfold own_T
        rw [fb, fl, fbl]
        refine ⟨hnb.symm, fun j j0 j1 => ?_⟩
        rw [a4 j j0 (by simp only [own_Qa]; exact j1)]
        unfold own_bl
        simp only [own_Qa]
        rw [fb, fbl]
      · have g1 : (own_GU s nb a b c h x q).f_shortBlock = q := by unfold own_GU own_BU own_SU; simp only [own_Qa]
        have g2 : (own_GU s nb a b c h x q).f_head = h := by unfold own_GU own_BU own_SU; simp only [own_Qa]
        have g3 : (own_GU s nb a b c h x q).f_next = x := by unfold own_GU own_BU own_SU; simp only [own_Qa]
        unfold own_X
        rw [g1, g2, g3, fb]
        rw [yb] at h3 h5
        exact ⟨h3, fun i hi => (h4 i hi).imp id (ful _), fun k k0 k1 => (h5 k k0 k1).imp id (ful _)⟩
  subst hB
  unfold j_sign j_sign_b36
  rw [if_pos h0]
  rw [own_e_blocks] at b56
  by_cases e : s.f_basisLen = 0
  · rw [if_pos e, if_neg (by decide)]
    have ez : (s.f_basisLen + s.f_blockSize - 1) / s.f_blockSize = 0 := Int32.toInt_inj.mp (by rw [x5 (by rw [e]; rfl)]; rfl)
    rw [ez] at b56
    rw [ez]
    exact b56
  · rw [if_neg e, if_neg (by intro z; rw [z] at b0; simp only [Int32.reduceToInt] at b0; omega), if_neg (by rw [lt32]; simp only [Int32.reduceToInt]; omega)]
    exact b56

/-- sameBytes answers 1 only where the bytes are equal and within the lengths -/
theorem own_sbl {B : Int32} {s : Q} (hI : own_I B s) {st tt ln : Int32} (s0 : 0 ≤ st.toInt) (s1 : st.toInt ≤ 10000) (t0 : 0 ≤ tt.toInt) (t1 : tt.toInt ≤ 10000) (l1 : ln.toInt ≤ 1000) : ∀ (n : Nat) (k : Int32), 0 ≤ k.toInt → k.toInt ≤ 1000 → 1000 - k.toInt < n → own_ok (j_sameBytes_l3 n s st tt ln k) (fun r => r = .inr (.inr ()) → ∀ i : Int32, k.toInt ≤ i.toInt → i.toInt < ln.toInt → rd s.f_basis (st + i) = rd s.f_target (tt + i)) := by
  obtain ⟨⟨z1, z2, _⟩, _, _, bl, tl⟩ := hI
  intro n
  induction n with
  | zero => intro k _ _ h; omega
  | succ n ih =>
    intro k k0 k1 hn
    rw [j_sameBytes_l3]
    by_cases c : k < ln
    · rw [if_pos c]
      rw [lt32] at c
      have e : (st + k).toInt = st.toInt + k.toInt := by rw [own_add] <;> omega
      have e' : (tt + k).toInt = tt.toInt + k.toInt := by rw [own_add] <;> omega
      have ek : (k + 1).toInt = k.toInt + 1 := own_inc (by omega) (by omega)
      rw [if_neg (by rw [lt32, e]; simp only [Int32.reduceToInt]; omega)]
      by_cases d : st + k < s.f_basisLen
      · rw [if_pos d, if_neg (by rw [lt32, e']; simp only [Int32.reduceToInt]; omega)]
        rw [lt32, e] at d
        by_cases f : tt + k < s.f_targetLen
        · rw [if_pos f]
          rw [lt32, e'] at f
          rw [z1, z2, if_pos (inb_iff.mpr (by omega)), if_pos (inb_iff.mpr (by omega))]
          by_cases g : rd s.f_basis (st + k) = rd s.f_target (tt + k)
          · rw [if_pos g]
            refine own_mono (ih (k + 1) (by omega) (by omega) (by omega)) ?_
            intro r hr e1 i i0 i1
            by_cases z : i = k
            · rw [z]; exact g
            · have z' : ¬ i.toInt = k.toInt := fun w => z (Int32.toInt_inj.mp w)
              exact hr e1 i (by omega) i1
          · rw [if_neg g]; exact ⟨_, rfl, fun q => by cases q⟩
        · rw [if_neg f]; exact ⟨_, rfl, fun q => by cases q⟩
      · rw [if_neg d]; exact ⟨_, rfl, fun q => by cases q⟩
    · rw [if_neg c]
      rw [lt32] at c
      exact ⟨_, rfl, fun _ i i0 i1 => by omega⟩
theorem own_sb {B : Int32} {s : Q} (hI : own_I B s) {st tt ln : Int32} (s0 : 0 ≤ st.toInt) (s1 : st.toInt ≤ 10000) (t0 : 0 ≤ tt.toInt) (t1 : tt.toInt ≤ 10000) (l1 : ln.toInt ≤ 1000) : own_ok (j_sameBytes s st tt ln) (fun r => ¬ r = 0 → ∀ i : Int32, 0 ≤ i.toInt → i.toInt < ln.toInt → rd s.f_basis (st + i) = rd s.f_target (tt + i)) := by
  unfold j_sameBytes
  refine own_bind (own_sbl hI s0 s1 t0 t1 l1 3000 0 (by decide) (by decide) (by decide)) ?_
  rintro (x | x | x) hx
  · exact ⟨_, rfl, fun q => absurd rfl q⟩
  · exact ⟨_, rfl, fun q => absurd rfl q⟩
  · exact ⟨_, rfl, fun _ i i0 i1 => hx rfl i (by simp only [Int32.reduceToInt]; omega) i1⟩
/-- the window fields alone change -/
def own_WU (s : Q) (p a b : Int32) : Q := ((s.s_winPos p).s_winA a).s_winB b
theorem own_WI {B : Int32} {s : Q} {p a b : Int32} (h : own_I B s) : own_I B (own_WU s p a b) := by
  unfold own_I own_L1 own_WU at *
  simp only [own_Qa]
  exact h
theorem own_WX {s : Q} {p a b : Int32} (h : own_X s) : own_X (own_WU s p a b) := by
  unfold own_X own_fl own_WU at *
  simp only [own_Qa]
  exact h
theorem own_WT {B : Int32} {s : Q} {p a b : Int32} (h : own_T B s) : own_T B (own_WU s p a b) := by
  unfold own_T own_bl own_WU at *
  simp only [own_Qa]
  exact h
theorem own_rcl {s : Q} (z2 : s.f_target.length = 256) {p b : Int32} (p0 : 0 ≤ p.toInt) (p1 : p.toInt ≤ 1000) (b1 : b.toInt ≤ 1000) : ∀ (n : Nat) (x y k : Int32), 0 ≤ k.toInt → k.toInt ≤ 1000 → 1000 - k.toInt < n → own_ok (j_recomputeWindow_l13 n s p x y b k) (fun _ => True) := by
  intro n
  induction n with
  | zero => intro x y k _ _ h; omega
  | succ n ih =>
    intro x y k k0 k1 hn
    rw [j_recomputeWindow_l13]
    by_cases c : k < b
    · rw [if_pos c]
      rw [lt32] at c
      have e : (p + k).toInt = p.toInt + k.toInt := by rw [own_add] <;> omega
      have ek : (k + 1).toInt = k.toInt + 1 := own_inc (by omega) (by omega)
      rw [if_neg (by rw [lt32, e]; simp only [Int32.reduceToInt]; omega)]
      by_cases d : p + k < 256
      · rw [if_pos d]
        rw [lt32, e] at d
        simp only [Int32.reduceToInt] at d
        rw [z2, if_pos (inb_iff.mpr (by omega))]
        exact ih _ _ (k + 1) (by omega) (by omega) (by omega)
      · rw [if_neg d]; exact ⟨_, rfl, trivial⟩
    · rw [if_neg c]; exact ⟨_, rfl, trivial⟩
theorem own_ew {B : Int32} {s : Q} (hI : own_I B s) {p : Int32} (p0 : 0 ≤ p.toInt) (p1 : p.toInt ≤ 256) : own_ok (j_ensureWindow s p) (fun s' => ∃ q a b, s' = own_WU s q a b) := by
  obtain ⟨⟨z1, z2, _⟩, hB, ⟨b0, b1⟩, bl, tl⟩ := hI
  have same : s = own_WU s s.f_winPos s.f_winA s.f_winB := by
    unfold own_WU
    simp only [own_Qa]
    exact (own_eta s).symm
  have rc : own_ok (j_ensureWindow_b112 s p) (fun s' => ∃ q a b, s' = own_WU s q a b) := by
    unfold j_ensureWindow_b112 j_recomputeWindow
    refine own_bind (P := fun s' => ∃ q a b, s' = own_WU s q a b) ?_ (fun x hx => ⟨_, rfl, hx⟩)
    refine own_bind (own_rcl z2 p0 (by omega) (by rw [hB]; omega) 3000 0 0 0 (by decide) (by decide) (by decide)) ?_
    rintro (x | x) _
    · exact ⟨_, rfl, _, _, _, by unfold own_WU; simp only [own_Qa]; rfl⟩
    · exact ⟨_, rfl, _, _, _, by unfold own_WU; simp only [own_Qa]; rfl⟩
  have b16 : own_ok (j_ensureWindow_b16 s p) (fun s' => ∃ q a b, s' = own_WU s q a b) := by
    unfold j_ensureWindow_b16
    split
    · exact rc
    · split
      · split
        · exact rc
        · rename_i h1 h2 h3
          rw [lt32] at h3
          simp only [Int32.reduceToInt] at h3
          split
          · rename_i h4
            have e1 : (p + s.f_blockSize).toInt = p.toInt + B.toInt := by rw [hB, own_add] <;> omega
            have e2 : (p + s.f_blockSize - 1).toInt = p.toInt + B.toInt - 1 := by
              rw [own_sub (by rw [e1]; simp only [Int32.reduceToInt]; omega) (by rw [e1]; simp only [Int32.reduceToInt]; omega), e1]; rfl
            have e3 : (p - 1).toInt = p.toInt - 1 := by rw [own_sub] <;> simp only [Int32.reduceToInt] <;> omega
            rw [lt32, e2] at h4
            simp only [Int32.reduceToInt] at h4
            rw [z2, if_pos (inb_iff.mpr (by omega)), if_pos (inb_iff.mpr (by omega))]
            exact ⟨_, rfl, _, _, _, by unfold own_WU; simp only [own_Qa]; rfl⟩
          · exact rc
      · exact rc
  unfold j_ensureWindow
  split
  · exact b16
  · split
    · exact ⟨_, rfl, _, _, _, same⟩
    · exact b16
theorem own_stl {s : Q} (z2 : s.f_target.length = 256) {p b : Int32} (p0 : 0 ≤ p.toInt) (p1 : p.toInt ≤ 1000) (b1 : b.toInt ≤ 1000) : ∀ (n : Nat) (x : Int64) (k : Int32), 0 ≤ k.toInt → k.toInt ≤ 1000 → 1000 - k.toInt < n → own_ok (j_strongOfTarget_l7 n s p b x k) (fun _ => True) := by
  intro n
  induction n with
  | zero => intro x k _ _ h; omega
  | succ n ih =>
    intro x k k0 k1 hn
    rw [j_strongOfTarget_l7]
    by_cases c : k < b
    · rw [if_pos c]
      rw [lt32] at c
      have e : (p + k).toInt = p.toInt + k.toInt := by rw [own_add] <;> omega
      have ek : (k + 1).toInt = k.toInt + 1 := own_inc (by omega) (by omega)
      rw [if_neg (by rw [lt32, e]; simp only [Int32.reduceToInt]; omega)]
      by_cases d : p + k < 256
      · rw [if_pos d]
        rw [lt32, e] at d
        simp only [Int32.reduceToInt] at d
        rw [z2, if_pos (inb_iff.mpr (by omega))]
        exact ih _ (k + 1) (by omega) (by omega) (by omega)
      · rw [if_neg d]; exact ⟨_, rfl, trivial⟩
    · rw [if_neg c]; exact ⟨_, rfl, trivial⟩
theorem own_stT {s : Q} (z2 : s.f_target.length = 256) {p b : Int32} (p0 : 0 ≤ p.toInt) (p1 : p.toInt ≤ 1000) (b1 : b.toInt ≤ 1000) : own_ok (j_strongOfTarget s p b) (fun _ => True) := by
  unfold j_strongOfTarget j_strongOfTarget_b58
  refine own_bind (own_stl z2 p0 p1 b1 3000 _ 0 (by decide) (by decide) (by decide)) ?_
  rintro (x | x) _
  · exact ⟨_, rfl, trivial⟩
  · exact ⟨_, rfl, trivial⟩
/-- a block that matches at p -/
def own_mt (B : Int32) (s : Q) (p j : Int32) : Prop := 0 ≤ j.toInt ∧ j.toInt < s.f_blocks.toInt ∧ p.toInt + (rd s.f_blkLen j).toInt ≤ s.f_targetLen.toInt ∧ ∀ i : Int32, 0 ≤ i.toInt → i.toInt < (rd s.f_blkLen j).toInt → rd s.f_basis (j * B + i) = rd s.f_target (p + i)
theorem own_ffl {B : Int32} {s : Q} (hI : own_I B s) (hT : own_T B s) (hX : own_X s) {p w : Int32} (p0 : 0 ≤ p.toInt) (p1 : p.toInt + B.toInt ≤ s.f_targetLen.toInt) : ∀ (n : Nat) (j hs : Int32) (st : Int64) (g : Int32), (j = -1 ∨ own_fl s j) → 0 ≤ g.toInt → g.toInt ≤ 128 → 128 - g.toInt < n → own_ok (j_findFullMatch_l38 n s p w j hs st g) (fun r => Sum.elim (fun x => own_mt B s p x) (fun _ => True) r) := by
  have hI0 := hI
  obtain ⟨⟨z1, z2, z3, z4, z5, z6, z7, z8, z9, z10, z11⟩, hB, ⟨b0, b1⟩, bl, tl⟩ := hI
  intro n
  induction n with
  | zero => intro j hs st g _ _ _ h; omega
  | succ n ih =>
    intro j hs st g hj g0 g1 hn
    rw [j_findFullMatch_l38]
    by_cases c : g < 128
    · rw [if_pos c]
      rw [lt32] at c
      simp only [Int32.reduceToInt] at c
      have eg : (g + 1).toInt = g.toInt + 1 := own_inc (by omega) (by omega)
      rcases hj with e | hf
      · rw [e, if_pos (by decide)]; exact ⟨_, rfl, trivial⟩
      · obtain ⟨j0, j1, j2⟩ := hf
        obtain ⟨k1, k2, k3, k4, k5, k6⟩ := own_blk hI0 hT j0 j1
        have ij : inb 128 j = true := inb_iff.mpr (by omega)
        rw [if_neg (by rw [lt32]; simp only [Int32.reduceToInt]; omega), if_pos (by rw [lt32]; simp only [Int32.reduceToInt]; omega), z6, if_pos ij]
        have b118 : ∀ hs st, own_ok (j_findFullMatch_b118 (j_findFullMatch_l38 n) s p w j hs st g) (fun r => Sum.elim (fun x => own_mt B s p x) (fun _ => True) r) := by
          intro hs st
          unfold j_findFullMatch_b118
          rw [z9, if_pos ij]
          exact ih _ hs st (g + 1) (hX.2.2 j j0 j1) (by omega) (by omega) (by omega)
        have b86 : ∀ hs st, own_ok (j_findFullMatch_b86 (j_findFullMatch_l38 n) s p w j hs st g) (fun r => Sum.elim (fun x => own_mt B s p x) (fun _ => True) r) := by
          intro hs st
          unfold j_findFullMatch_b86
          rw [z7, if_pos ij]
          split
          · rw [hB]
            refine own_bind (own_sb hI0 (by omega) (by omega) p0 (by omega) (by omega)) ?_
            intro r hr
            by_cases q : r = 0
            · rw [if_pos q]; exact b118 hs st
            · rw [if_neg q]
              refine ⟨_, rfl, j0, j1, ?_, ?_⟩
              · rw [j2, hB]; exact p1
              · intro i i0 i1
                rw [j2, hB] at i1
                exact hr q i i0 i1
          · exact b118 hs st
        split
        · split
          · rw [hB]
            refine own_bind (own_stT z2 p0 (by omega) (by omega)) fun x _ => ?_
            exact b86 _ _
          · exact b86 _ _
        · exact b118 _ _
    · rw [if_neg c]; exact ⟨_, rfl, trivial⟩
theorem own_mtW {B : Int32} {s : Q} {p j q a b : Int32} (h : own_mt B s p j) : own_mt B (own_WU s q a b) p j := by
  unfold own_mt own_WU at *
  simp only [own_Qa]
  exact h
/-- findMatch: no match, or a block that matches; the window fields alone change -/
theorem own_fm {B : Int32} {s : Q} (hI : own_I B s) (hT : own_T B s) (hX : own_X s) {p : Int32} (p0 : 0 ≤ p.toInt) (p1 : p.toInt < s.f_targetLen.toInt) : own_ok (j_findMatch s p) (fun r => (∃ q a b, r.2 = own_WU s q a b) ∧ (r.1 < 0 ∨ own_mt B r.2 p r.1)) := by
  have hI0 := hI
  obtain ⟨⟨z1, z2, z3, z4, z5, z6, z7, z8, z9, z10, z11⟩, hB, ⟨b0, b1⟩, bl, tl⟩ := hI
  have same : s = own_WU s s.f_winPos s.f_winA s.f_winB := by
    unfold own_WU
    simp only [own_Qa]
    exact (own_eta s).symm
  have b21 : ∀ (S : Q) (v : Int32), own_I B S → own_T B S → own_X S → S.f_targetLen = s.f_targetLen → (v < 0 ∨ own_mt B S p v) → own_ok (j_findMatch_b21 S p v) (fun r => r.2 = S ∧ (r.1 < 0 ∨ own_mt B r.2 p r.1)) := by
    intro S v hS hST hSX eT hv
    have l5 : S.f_blkLen.length = 128 := hS.1.2.2.2.2.1
    have hSB := hS.2.1
    have hSb := hS.2.2.2.1
    unfold j_findMatch_b21
    by_cases c : v < 0
    · rw [if_pos c]
      by_cases d : S.f_shortBlock < 0
      · rw [if_pos d]; exact ⟨_, rfl, rfl, Or.inl c⟩
      · rw [if_neg d]
        have d' := d
        rw [lt32] at d'
        simp only [Int32.reduceToInt] at d'
        rcases hSX.1 with e | ⟨q0, q1⟩
        · rw [e] at d; exact absurd (by decide) d
        · obtain ⟨k1, k2, k3, k4, k5, k6⟩ := own_blk hS hST q0 q1
          rw [if_pos (by rw [lt32]; simp only [Int32.reduceToInt]; omega), l5, if_pos (inb_iff.mpr (by omega))]
          by_cases f : p + rd S.f_blkLen S.f_shortBlock = S.f_targetLen
          · rw [if_pos f, hSB]
            refine own_bind (own_sb hS (by omega) (by omega) p0 (by omega) (by omega)) ?_
            intro r hr
            by_cases q : r = 0
            · rw [if_pos q]; exact ⟨_, rfl, rfl, Or.inl c⟩
            · rw [if_neg q]
              refine ⟨_, rfl, rfl, Or.inr ⟨q0, q1, ?_, hr q⟩⟩
              have e : (p + rd S.f_blkLen S.f_shortBlock).toInt = p.toInt + (rd S.f_blkLen S.f_shortBlock).toInt := by rw [own_add] <;> omega
              rw [f] at e
              show p.toInt + (rd S.f_blkLen S.f_shortBlock).toInt ≤ S.f_targetLen.toInt
              omega
          · rw [if_neg f]; exact ⟨_, rfl, rfl, Or.inl c⟩
    · rw [if_neg c]; exact ⟨_, rfl, rfl, hv⟩
  unfold j_findMatch
  have eb : (p + s.f_blockSize).toInt = p.toInt + B.toInt := by rw [hB, own_add] <;> omega
  by_cases c : s.f_targetLen < p + s.f_blockSize
  · rw [if_pos c]
    refine own_mono (b21 s (-1) hI0 hT hX rfl (Or.inl (by decide))) ?_
    rintro r ⟨r1, r2⟩
    exact ⟨⟨_, _, _, by rw [r1]; exact same⟩, r2⟩
  · rw [if_neg c]
    rw [lt32, eb] at c
    unfold j_findFullMatch
    refine own_bind (P := fun r => (∃ q a b, r.2 = own_WU s q a b) ∧ (r.1 < 0 ∨ own_mt B r.2 p r.1)) ?_ ?_
    · refine own_bind (own_ew hI0 p0 (by omega)) ?_
      rintro S ⟨q, a, b, eS⟩
      have hS : own_I B S := by rw [eS]; exact own_WI hI0
      have hST : own_T B S := by rw [eS]; exact own_WT hT
      have hSX : own_X S := by rw [eS]; exact own_WX hX
      have eT : S.f_targetLen = s.f_targetLen := by rw [eS]; unfold own_WU; simp only [own_Qa]
      rw [hS.1.2.2.2.2.2.2.2.1, if_pos (own_bk _)]
      refine own_bind (own_ffl hS hST hSX p0 (by rw [eT]; omega) 3000 _ 0 0 0 (hSX.2.1 _ (own_bk _)) (by decide) (by decide) (by decide)) ?_
      rintro (x | x) hx
      · exact ⟨_, rfl, ⟨q, a, b, eS⟩, Or.inr hx⟩
      · exact ⟨_, rfl, ⟨q, a, b, eS⟩, Or.inl (show (-1 : Int32) < 0 from by decide)⟩
    · rintro r ⟨⟨q, a, b, eS⟩, r2⟩
      have hS : own_I B r.2 := by rw [eS]; exact own_WI hI0
      have hST : own_T B r.2 := by rw [eS]; exact own_WT hT
      have hSX : own_X r.2 := by rw [eS]; exact own_WX hX
      have eT : r.2.f_targetLen = s.f_targetLen := by rw [eS]; unfold own_WU; simp only [own_Qa]
      refine own_mono (b21 r.2 r.1 hS hST hSX eT r2) ?_
      rintro x ⟨x1, x2⟩
      exact ⟨⟨q, a, b, by rw [x1]; exact eS⟩, x2⟩

def own_kd (s : Q) (i : Nat) : Int32 := rd s.f_kinds (Int32.ofNat i)
def own_vl (s : Q) (i : Nat) : Int32 := rd s.f_values (Int32.ofNat i)
/-- operation i takes the target from a to a' and the literals from l to l' -/
def own_op (B : Int32) (s : Q) (i a a' l l' : Nat) : Prop :=
  (own_kd s i = 1 ∧ a < a' ∧ l' = l ∧ 0 ≤ (own_vl s i).toInt ∧ (own_vl s i).toInt < s.f_blocks.toInt ∧ (a' : Int) = a + (rd s.f_blkLen (own_vl s i)).toInt ∧ ∀ t : Nat, a + t < a' → rd s.f_basis (own_vl s i * B + Int32.ofNat t) = rd s.f_target (Int32.ofNat (a + t))) ∨
  (own_kd s i = 2 ∧ a < a' ∧ l' + a = l + a' ∧ (own_vl s i).toInt = (a' : Int) - a ∧ (∀ t : Nat, a + t < a' → rd s.f_literal (Int32.ofNat (l + t)) = rd s.f_target (Int32.ofNat (a + t))) ∧ (0 < i → own_kd s (i - 1) = 1))
def own_OP (B : Int32) (s : Q) (pos lc : Nat → Nat) (n p : Nat) : Prop := s.f_ops = Int32.ofNat n ∧ n ≤ p ∧ pos 0 = 0 ∧ lc 0 = 0 ∧ pos n = p ∧ s.f_literalLen = Int32.ofNat (lc n) ∧ lc n ≤ p ∧ p ≤ 256 ∧ ∀ i, i < n → own_op B s i (pos i) (pos (i + 1)) (lc i) (lc (i + 1))
def own_O (B : Int32) (s : Q) (p : Nat) : Prop := ∃ pos lc n, own_OP B s pos lc n p
theorem own_opm {B : Int32} {s : Q} {i a a' l l' : Nat} (h : own_op B s i a a' l l') : a < a' ∧ l ≤ l' := by
  rcases h with h | h
  · exact ⟨h.2.1, by omega⟩
  · exact ⟨h.2.1, by omega⟩
theorem own_mon {B : Int32} {s : Q} {pos lc : Nat → Nat} {n p : Nat} (h : own_OP B s pos lc n p) : ∀ k i : Nat, i + k = n → pos i + k ≤ p ∧ lc i ≤ lc n := by
  obtain ⟨h1, h2, h3, h4, h5, h6, h7, h8, h9⟩ := h
  intro k
  induction k with
  | zero => intro i hi; rw [Nat.add_zero] at hi; subst hi; omega
  | succ k ih =>
    intro i hi
    have := ih (i + 1) (by omega)
    have := own_opm (h9 i (by omega))
    omega
def own_EU (s : Q) (l : List Int32) (ll : Int32) (k v : List Int32) (o q a b : Int32) : Q := (((((((s.s_literal l).s_literalLen ll).s_kinds k).s_values v).s_ops o).s_winPos q).s_winA a).s_winB b
def own_ER (s s' : Q) : Prop := ∃ l ll k v o q a b, s' = own_EU s l ll k v o q a b ∧ l.length = 256 ∧ k.length = 256 ∧ v.length = 256
theorem own_ERr {s s' s'' : Q} (h : own_ER s s') (g : own_ER s' s'') : own_ER s s'' := by
  obtain ⟨l, ll, k, v, o, q, a, b, e, _⟩ := h
  obtain ⟨l', ll', k', v', o', q', a', b', e', x1, x2, x3⟩ := g
  refine ⟨l', ll', k', v', o', q', a', b', ?_, x1, x2, x3⟩
  rw [e', e]
  unfold own_EU
  simp only [own_Qa]
theorem own_ERs {B : Int32} {s : Q} (hI : own_I B s) : own_ER s s := ⟨s.f_literal, s.f_literalLen, s.f_kinds, s.f_values, s.f_ops, s.f_winPos, s.f_winA, s.f_winB, by unfold own_EU; simp only [own_Qa]; exact (own_eta s).symm, hI.1.2.2.1, hI.1.2.2.2.2.2.2.2.2.2.1, hI.1.2.2.2.2.2.2.2.2.2.2⟩
theorem own_ERI {B : Int32} {s s' : Q} (h : own_ER s s') (hI : own_I B s) (hT : own_T B s) (hX : own_X s) : own_I B s' ∧ own_T B s' ∧ own_X s' := by
  obtain ⟨l, ll, k, v, o, q, a, b, e, x1, x2, x3⟩ := h
  rw [e]
  refine ⟨?_, ?_, ?_⟩
  · obtain ⟨⟨z1, z2, z3, z4, z5, z6, z7, z8, z9, z10, z11⟩, r⟩ := hI
    unfold own_I own_L1 own_EU
    simp only [own_Qa]
    exact ⟨⟨z1, z2, x1, z4, z5, z6, z7, z8, z9, x2, x3⟩, r⟩
  · unfold own_T own_bl own_EU at *
    simp only [own_Qa]
    exact hT
  · unfold own_X own_fl own_EU at *
    simp only [own_Qa]
    exact hX
theorem own_ERf {s s' : Q} (h : own_ER s s') : s'.f_targetLen = s.f_targetLen ∧ s'.f_basisLen = s.f_basisLen ∧ s'.f_phaseNow = s.f_phaseNow ∧ s'.f_outLen = s.f_outLen ∧ s'.f_blocks = s.f_blocks ∧ s'.f_basis = s.f_basis ∧ s'.f_target = s.f_target := by
  obtain ⟨l, ll, k, v, o, q, a, b, e, x1, x2, x3⟩ := h
  rw [e]
  unfold own_EU
  simp only [own_Qa]
  exact ⟨trivial, trivial, trivial, trivial, trivial, trivial, trivial⟩
theorem own_WE {B : Int32} {s : Q} {q a b : Int32} (hI : own_I B s) : own_ER s (own_WU s q a b) := ⟨s.f_literal, s.f_literalLen, s.f_kinds, s.f_values, s.f_ops, q, a, b, by unfold own_EU own_WU; simp only [own_Qa], hI.1.2.2.1, hI.1.2.2.2.2.2.2.2.2.2.1, hI.1.2.2.2.2.2.2.2.2.2.2⟩
theorem own_WO {B : Int32} {s : Q} {q a b : Int32} {pos lc : Nat → Nat} {n p : Nat} (h : own_OP B s pos lc n p) : own_OP B (own_WU s q a b) pos lc n p := by
  unfold own_OP own_op own_kd own_vl own_WU at *
  simp only [own_Qa]
  exact h
def own_fu (f : Nat → Nat) (m v i : Nat) : Nat := if i = m then v else f i
theorem own_fu1 (f : Nat → Nat) (m v : Nat) : own_fu f m v m = v := if_pos rfl
theorem own_fu2 {f : Nat → Nat} {m v i : Nat} (h : ¬ i = m) : own_fu f m v i = f i := if_neg h
theorem own_neN {i j : Nat} (hi : i < 1000) (hj : j < 1000) (h : ¬ i = j) : Int32.ofNat i ≠ Int32.ofNat j := by
  intro z
  have z' := congrArg Int32.toInt z
  rw [own_n2i (by omega), own_n2i (by omega)] at z'
  omega
theorem own_rdN {xs : List Int32} {i j : Nat} {v : Int32} (hl : xs.length = 256) (hi : i < 256) (hj : j < 256) : rd (wr xs (Int32.ofNat i) v) (Int32.ofNat j) = if i = j then v else rd xs (Int32.ofNat j) := by
  have ii := own_inbN (n := 256) hi (by decide)
  have ij := own_inbN (n := 256) hj (by decide)
  by_cases e : i = j
  · subst e
    rw [if_pos rfl]; exact rd_wr_same (by rw [hl]; exact ii) _
  · rw [if_neg e]; exact rd_wr_ne (inb_nn ii) (inb_nn ij) (own_neN (by omega) (by omega) e) _
/-- an operation is added at the end -/
theorem own_aop {B : Int32} {s : Q} {kd v : Int32} {pos lc : Nat → Nat} {n p p' l' : Nat} (hI : own_I B s) (h : own_OP B s pos lc n p) (hp : p < 256) (hp' : p < p') (hp2 : p' ≤ 256) (hl : l' ≤ p') (hll : s.f_literalLen = Int32.ofNat (lc n)) (hop : ∀ s' : Q, s' = ((s.s_kinds (wr s.f_kinds (Int32.ofNat n) kd)).s_values (wr s.f_values (Int32.ofNat n) v)).s_ops (Int32.ofNat (n + 1)) → own_kd s' n = kd → own_vl s' n = v → (∀ i, i < n → own_kd s' i = own_kd s i) → own_op B s' n p p' (lc n) l') (s' : Q) (hs : s' = ((s.s_kinds (wr s.f_kinds (Int32.ofNat n) kd)).s_values (wr s.f_values (Int32.ofNat n) v)).s_ops (Int32.ofNat (n + 1))) : own_OP B (s'.s_literalLen (Int32.ofNat l')) (own_fu pos (n + 1) p') (own_fu lc (n + 1) l') (n + 1) p' := by
  have zk : s.f_kinds.length = 256 := hI.1.2.2.2.2.2.2.2.2.2.1
  have zv : s.f_values.length = 256 := hI.1.2.2.2.2.2.2.2.2.2.2
  obtain ⟨h1, h2, h3, h4, h5, h6, h7, h8, h9⟩ := h
  have k1 : own_kd s' n = kd := by
    rw [hs]; unfold own_kd; simp only [own_Qa]
    rw [own_rdN zk (by omega) (by omega), if_pos rfl]
  have v1 : own_vl s' n = v := by
    rw [hs]; unfold own_vl; simp only [own_Qa]
    rw [own_rdN zv (by omega) (by omega), if_pos rfl]
  have k2 : ∀ i, i < n → own_kd s' i = own_kd s i := by
    intro i hi
    rw [hs]; unfold own_kd; simp only [own_Qa]
    rw [own_rdN zk (by omega) (by omega), if_neg (by omega)]
  have v2 : ∀ i, i < n → own_vl s' i = own_vl s i := by
    intro i hi
    rw [hs]; unfold own_vl; simp only [own_Qa]
    rw [own_rdN zv (by omega) (by omega), if_neg (by omega)]
  have opn := hop s' hs k1 v1 k2
  refine ⟨?_, by omega, ?_, ?_, ?_, ?_, ?_, hp2, ?_⟩
  · rw [hs]; simp only [own_Qa]
  · rw [own_fu2 (by omega)]; exact h3
  · rw [own_fu2 (by omega)]; exact h4
  · rw [own_fu1]
  · rw [own_fu1]; simp only [own_Qa]
  · rw [own_fu1]; exact hl
  · intro i hi
    have lift : ∀ a a' l l2, own_op B s' i a a' l l2 → own_op B (s'.s_literalLen (Int32.ofNat l')) i a a' l l2 := by
      intro a a' l l2 ho
      unfold own_op own_kd own_vl at *
      simp only [own_Qa]
      exact ho
    apply lift
    by_cases e : i = n
    · subst e
      rw [own_fu2 (by omega), own_fu1, own_fu2 (by omega), own_fu1, h5]
      exact opn
    · rw [own_fu2 (by omega), own_fu2 (by omega), own_fu2 (by omega), own_fu2 (by omega)]
      have o := h9 i (by omega)
      have fb : s'.f_blocks = s.f_blocks := by rw [hs]; simp only [own_Qa]
      have f1 : s'.f_blkLen = s.f_blkLen := by rw [hs]; simp only [own_Qa]
      have f2 : s'.f_basis = s.f_basis := by rw [hs]; simp only [own_Qa]
      have f3 : s'.f_target = s.f_target := by rw [hs]; simp only [own_Qa]
      have f4 : s'.f_literal = s.f_literal := by rw [hs]; simp only [own_Qa]
      unfold own_op at o ⊢
      rw [k2 i (by omega), v2 i (by omega), fb, f1, f2, f3, f4]
      rcases o with o | ⟨o1, o2, o3, o4, o5, o6⟩
      · exact Or.inl o
      · exact Or.inr ⟨o1, o2, o3, o4, o5, fun z => by rw [k2 (i - 1) (by omega)]; exact o6 z⟩
theorem own_addC {B : Int32} {s : Q} {p : Nat} {j : Int32} {pos lc : Nat → Nat} {n : Nat} (hI : own_I B s) (hT : own_T B s) (h : own_OP B s pos lc n p) (hp : p < 256) (hm : own_mt B s (Int32.ofNat p) j) : ∃ s', j_addOp s 1 j = some s' ∧ own_ER s s' ∧ own_O B s' (p + (rd s.f_blkLen j).toInt.toNat) := by
  have zk : s.f_kinds.length = 256 := hI.1.2.2.2.2.2.2.2.2.2.1
  have zv : s.f_values.length = 256 := hI.1.2.2.2.2.2.2.2.2.2.2
  have tl := hI.2.2.2.2
  have h0 := h
  obtain ⟨h1, h2, h3, h4, h5, h6, h7, h8, h9⟩ := h
  obtain ⟨m1, m2, m3, m4⟩ := hm
  obtain ⟨k1, k2, k3, k4, k5, k6⟩ := own_blk hI hT m1 m2
  rw [own_n2i (by omega)] at m3
  have ii := own_inbN (n := 256) (i := n) (by omega) (by decide)
  refine ⟨((s.s_kinds (wr s.f_kinds (Int32.ofNat n) 1)).s_values (wr s.f_values (Int32.ofNat n) j)).s_ops (Int32.ofNat (n + 1)), ?_, ?_, ?_⟩
  · unfold j_addOp
    rw [h1, if_pos (show Int32.ofNat n < (256 : Int32) from (own_ltN (k := 256) (by omega) (by omega)).mpr (by omega)), zk, zv, if_pos ii, if_pos ii, own_succ]
    simp only [own_Qa]
  · exact ⟨s.f_literal, s.f_literalLen, _, _, _, s.f_winPos, s.f_winA, s.f_winB, by unfold own_EU; simp only [own_Qa]; rfl, hI.1.2.2.1, by rw [len_wr]; exact zk, by rw [len_wr]; exact zv⟩
  · have z := own_aop (kd := 1) (v := j) (p' := p + (rd s.f_blkLen j).toInt.toNat) (l' := lc n) hI h0 hp (by omega) (by omega) (by omega) h6 (by
      intro s' hs kk vv _
      left
      have fb : s'.f_blocks = s.f_blocks := by rw [hs]; simp only [own_Qa]
      have f1 : s'.f_blkLen = s.f_blkLen := by rw [hs]; simp only [own_Qa]
      have f2 : s'.f_basis = s.f_basis := by rw [hs]; simp only [own_Qa]
      have f3 : s'.f_target = s.f_target := by rw [hs]; simp only [own_Qa]
      refine ⟨kk, by omega, rfl, by rw [vv]; exact m1, by rw [vv, fb]; exact m2, by rw [vv, f1]; omega, ?_⟩
      intro t ht
      rw [vv, f2, f3]
      have q := m4 (Int32.ofNat t) (by rw [own_n2i (by omega)]; omega) (by rw [own_n2i (by omega)]; omega)
      rw [q, ← Int32.ofNat_add]) _ rfl
    have e : (((s.s_kinds (wr s.f_kinds (Int32.ofNat n) 1)).s_values (wr s.f_values (Int32.ofNat n) j)).s_ops (Int32.ofNat (n + 1))).s_literalLen (Int32.ofNat (lc n)) = ((s.s_kinds (wr s.f_kinds (Int32.ofNat n) 1)).s_values (wr s.f_values (Int32.ofNat n) j)).s_ops (Int32.ofNat (n + 1)) := by
      rw [← h6]; simp only [own_Qa]
    rw [e] at z
    exact ⟨_, _, _, z⟩

/-- a byte written behind the literals in use changes no operation -/
theorem own_lit {B : Int32} {s : Q} {pos lc : Nat → Nat} {n p : Nat} {v : Int32} (hI : own_I B s) (h : own_OP B s pos lc n p) (hp : p < 256) : own_OP B (s.s_literal (wr s.f_literal (Int32.ofNat (lc n)) v)) pos lc n p := by
  have zl : s.f_literal.length = 256 := hI.1.2.2.1
  have mn := own_mon h
  obtain ⟨h1, h2, h3, h4, h5, h6, h7, h8, h9⟩ := h
  refine ⟨by simp only [own_Qa]; exact h1, h2, h3, h4, h5, by simp only [own_Qa]; exact h6, h7, h8, ?_⟩
  intro i hi
  have o := h9 i hi
  have m1 := mn (n - i) i (by omega)
  have m2 := mn (n - (i + 1)) (i + 1) (by omega)
  unfold own_op own_kd own_vl at *
  simp only [own_Qa]
  rcases o with o | ⟨o1, o2, o3, o4, o5, o6⟩
  · exact Or.inl o
  · refine Or.inr ⟨o1, o2, o3, o4, fun t ht => ?_, o6⟩
    rw [own_rdN zl (by omega) (by omega), if_neg (by omega)]
    exact o5 t ht
theorem own_addL {B : Int32} {s : Q} {p : Nat} {pos lc : Nat → Nat} {n : Nat} (hI : own_I B s) (h : own_OP B s pos lc n p) (hp : p < 256) : ∃ s', j_addLiteral s (Int32.ofNat p) = some s' ∧ own_ER s s' ∧ own_O B s' (p + 1) := by
  have zl : s.f_literal.length = 256 := hI.1.2.2.1
  have zt : s.f_target.length = 256 := hI.1.2.1
  have zk : s.f_kinds.length = 256 := hI.1.2.2.2.2.2.2.2.2.2.1
  have zv : s.f_values.length = 256 := hI.1.2.2.2.2.2.2.2.2.2.2
  have h0 := h
  have mn := own_mon h
  obtain ⟨h1, h2, h3, h4, h5, h6, h7, h8, h9⟩ := h
  have il := own_inbN (n := 256) (i := lc n) (by omega) (by decide)
  have ip := own_inbN (n := 256) (i := p) (by omega) (by decide)
  have hlit := own_lit (v := rd s.f_target (Int32.ofNat p)) hI h0 hp
  have hI1 : own_I B (s.s_literal (wr s.f_literal (Int32.ofNat (lc n)) (rd s.f_target (Int32.ofNat p)))) := by
    obtain ⟨⟨z1, z2, z3, z4, z5, z6, z7, z8, z9, z10, z11⟩, r⟩ := hI
    unfold own_I own_L1
    simp only [own_Qa, len_wr]
    exact ⟨⟨z1, z2, z3, z4, z5, z6, z7, z8, z9, z10, z11⟩, r⟩
  generalize hs1 : (s.s_literal (wr s.f_literal (Int32.ofNat (lc n)) (rd s.f_target (Int32.ofNat p)))).s_literalLen (Int32.ofNat (lc n + 1)) = s1
  have e1 : j_addLiteral s (Int32.ofNat p) = j_addLiteral_b46 s1 := by
    unfold j_addLiteral
    rw [h6, if_pos (show Int32.ofNat (lc n) < (256 : Int32) from (own_ltN (k := 256) (by omega) (by omega)).mpr (by omega)), if_neg (by rw [lt32, own_n2i (by omega)]; simp only [Int32.reduceToInt]; omega), if_pos (show Int32.ofNat p < (256 : Int32) from (own_ltN (k := 256) (by omega) (by omega)).mpr (by omega)), zt, zl, if_pos ip, if_pos il, own_succ, ← hs1]
    simp only [own_Qa]
  have f1 : s1.f_ops = Int32.ofNat n := by rw [← hs1]; simp only [own_Qa]; exact h1
  have f2 : s1.f_kinds = s.f_kinds := by rw [← hs1]; simp only [own_Qa]
  have f3 : s1.f_values = s.f_values := by rw [← hs1]; simp only [own_Qa]
  have new : (0 < n → own_kd s (n - 1) = 1) → ∃ s', j_addLiteral_b86 s1 = some s' ∧ own_ER s s' ∧ own_O B s' (p + 1) := by
    intro hk
    have ii := own_inbN (n := 256) (i := n) (by omega) (by decide)
    have z := own_aop (kd := 2) (v := 1) (p' := p + 1) (l' := lc n + 1) hI1 hlit hp (by omega) (by omega) (by omega) hlit.2.2.2.2.2.1 (by
      intro s' hs kk vv k2
      right
      have f4 : s'.f_target = s.f_target := by rw [hs]; simp only [own_Qa]
      have f5 : s'.f_literal = wr s.f_literal (Int32.ofNat (lc n)) (rd s.f_target (Int32.ofNat p)) := by rw [hs]; simp only [own_Qa]
      refine ⟨kk, by omega, by omega, by rw [vv]; simp only [Int32.reduceToInt]; omega, ?_, ?_⟩
      · intro t ht
        have : t = 0 := by omega
        subst this
        rw [f4, f5, Nat.add_zero, Nat.add_zero]
        exact rd_wr_same (by rw [zl]; exact il) _
      · intro hn
        rw [k2 (n - 1) (by omega)]
        have q := hk hn
        unfold own_kd at q ⊢
        simp only [own_Qa]
        exact q) _ rfl
    refine ⟨_, ?_, ?_, _, _, _, z⟩
    · unfold j_addLiteral_b86 j_addOp
      rw [f1, if_pos (show Int32.ofNat n < (256 : Int32) from (own_ltN (k := 256) (by omega) (by omega)).mpr (by omega)), f2, f3, zk, zv, if_pos ii, if_pos ii, own_succ, Option.bind_some, ← hs1]
      simp only [own_Qa]
    · exact ⟨_, _, _, _, _, s.f_winPos, s.f_winA, s.f_winB, by unfold own_EU; simp only [own_Qa]; rfl, by rw [len_wr]; exact zl, by rw [len_wr]; exact zk, by rw [len_wr]; exact zv⟩
  rw [e1]
  unfold j_addLiteral_b46
  rw [f1, f2, f3, zk, zv]
  by_cases n0 : n = 0
  · rw [if_neg (by rw [n0]; decide)]
    exact new (fun z => by omega)
  · rw [if_pos (show (0 : Int32) < Int32.ofNat n from (own_ltN (i := 0) (by omega) (by omega)).mpr (by omega))]
    have en : Int32.ofNat n - 1 = Int32.ofNat (n - 1) := by
      have : n = n - 1 + 1 := by omega
      rw [this, ← own_succ]
      simp only [Nat.add_sub_cancel]
      exact Int32.add_sub_cancel _ _
    have ii := own_inbN (n := 256) (i := n - 1) (by omega) (by decide)
    rw [en, if_pos ii]
    have o := h9 (n - 1) (by omega)
    rw [show n - 1 + 1 = n from by omega, h5] at o
    have m1 := mn 1 (n - 1) (by omega)
    by_cases k2 : rd s.f_kinds (Int32.ofNat (n - 1)) = 2
    · rw [if_pos k2, if_pos ii, if_pos ii]
      rcases o with ⟨o1, _⟩ | ⟨o1, o2, o3, o4, o5, o6⟩
      · unfold own_kd at o1; rw [k2] at o1; exact absurd o1 (by decide)
      · refine ⟨_, rfl, ?_, own_fu pos n (p + 1), own_fu lc n (lc n + 1), n, ?_, by omega, ?_, ?_, ?_, ?_, ?_, by omega, ?_⟩
        · rw [← hs1]
          exact ⟨wr s.f_literal (Int32.ofNat (lc n)) (rd s.f_target (Int32.ofNat p)), Int32.ofNat (lc n + 1), s.f_kinds, wr s.f_values (Int32.ofNat (n - 1)) (rd s.f_values (Int32.ofNat (n - 1)) + 1), Int32.ofNat n, s.f_winPos, s.f_winA, s.f_winB, by unfold own_EU; simp only [own_Qa], by rw [len_wr]; exact zl, zk, by rw [len_wr]; exact zv⟩
        · simp only [own_Qa]
        · rw [own_fu2 (by omega)]; exact h3
        · rw [own_fu2 (by omega)]; exact h4
        · rw [own_fu1]
        · rw [own_fu1, ← hs1]; simp only [own_Qa]
        · rw [own_fu1]; omega
        · intro i hi
          have vi : ∀ x : Int32, rd (wr s.f_values (Int32.ofNat (n - 1)) x) (Int32.ofNat i) = if n - 1 = i then x else rd s.f_values (Int32.ofNat i) := fun x => own_rdN zv (by omega) (by omega)
          by_cases e : i = n - 1
          · subst e
            rw [show n - 1 + 1 = n from by omega, own_fu2 (by omega), own_fu1, own_fu2 (by omega), own_fu1]
            right
            unfold own_kd own_vl at *
            rw [← hs1]
            simp only [own_Qa]
            have ev : (rd s.f_values (Int32.ofNat (n - 1)) + 1).toInt = (rd s.f_values (Int32.ofNat (n - 1))).toInt + 1 := own_inc (by omega) (by omega)
            refine ⟨o1, by omega, by omega, ?_, ?_, o6⟩
            · rw [vi, if_pos rfl, ev]; omega
            · intro t ht
              rw [own_rdN zl (by omega) (by omega)]
              by_cases q : pos (n - 1) + t = p
              · rw [if_pos (by omega), q]
              · rw [if_neg (by omega)]
                exact o5 t (by omega)
          · rw [own_fu2 (by omega), own_fu2 (by omega), own_fu2 (by omega), own_fu2 (by omega)]
            have oi := hlit.2.2.2.2.2.2.2.2 i hi
            unfold own_op own_kd own_vl at oi ⊢
            rw [← hs1]
            simp only [own_Qa] at oi ⊢
            rw [vi, if_neg (by omega)]
            exact oi
    · rw [if_neg k2]
      refine new (fun _ => ?_)
      rcases o with ⟨o1, _⟩ | ⟨o1, _⟩
      · exact o1
      · exact absurd o1 k2
theorem own_enl {B : Int32} {s0 : Q} : ∀ (n : Nat) (s : Q) (p : Nat) (g : Int32), own_I B s → own_T B s → own_X s → own_ER s0 s → own_O B s p → (p : Int) ≤ s.f_targetLen.toInt → 0 ≤ g.toInt → g.toInt ≤ p → s.f_targetLen.toInt - p < n → own_ok (j_encode_l29 n s (Int32.ofNat p) g) (fun s' => own_ER s0 s' ∧ own_O B s' s'.f_targetLen.toInt.toNat) := by
  intro n
  induction n with
  | zero => intro s p g _ _ _ _ _ _ _ _ h; omega
  | succ n ih =>
    intro s p g hI hT hX hE hO hp g0 g1 hn
    have tl := hI.2.2.2.2
    rw [j_encode_l29]
    have eP : (Int32.ofNat p).toInt = p := own_n2i (by omega)
    by_cases c : Int32.ofNat p < s.f_targetLen
    · have c' := c
      rw [lt32, eP] at c'
      rw [if_pos (by rw [lt32]; simp only [Int32.reduceToInt]; omega), if_pos c]
      have eg : (g + 1).toInt = g.toInt + 1 := own_inc (by omega) (by omega)
      obtain ⟨pos, lc, m, hOP⟩ := hO
      refine own_bind (own_fm hI hT hX (by omega) (by omega)) ?_
      rintro r ⟨⟨q, a, b, er⟩, hr⟩
      have hE1 : own_ER s r.2 := by rw [er]; exact own_WE hI
      obtain ⟨hI1, hT1, hX1⟩ := own_ERI hE1 hI hT hX
      have hOP1 : own_OP B r.2 pos lc m p := by rw [er]; exact own_WO hOP
      have f1 := own_ERf hE1
      unfold j_encode_b80
      by_cases d : r.1 < 0
      · rw [if_pos d]
        obtain ⟨s', e1, e2, e3⟩ := own_addL hI1 hOP1 (by omega)
        obtain ⟨hI2, hT2, hX2⟩ := own_ERI e2 hI1 hT1 hX1
        have f2 := own_ERf e2
        rw [e1, Option.bind_some, own_succ]
        exact ih s' (p + 1) (g + 1) hI2 hT2 hX2 (own_ERr hE (own_ERr hE1 e2)) e3 (by rw [f2.1, f1.1]; omega) (by omega) (by omega) (by rw [f2.1, f1.1]; omega)
      · rw [if_neg d]
        have hm := hr.resolve_left d
        obtain ⟨s', e1, e2, e3⟩ := own_addC hI1 hT1 hOP1 (by omega) hm
        obtain ⟨hI2, hT2, hX2⟩ := own_ERI e2 hI1 hT1 hX1
        have f2 := own_ERf e2
        obtain ⟨k1, k2, k3, k4, k5, k6⟩ := own_blk hI1 hT1 hm.1 hm.2.1
        have el : s'.f_blkLen = r.2.f_blkLen := by
          obtain ⟨l, ll, k, v, o, q, a, b, e, _⟩ := e2
          rw [e]; unfold own_EU; simp only [own_Qa]
        have m3 := hm.2.2.1
        rw [eP, f1.1] at m3
        have en : Int32.ofNat p + rd r.2.f_blkLen r.1 = Int32.ofNat (p + (rd r.2.f_blkLen r.1).toInt.toNat) := by
          apply Int32.toInt_inj.mp
          rw [own_n2i (by omega), own_add (by rw [eP]; omega) (by rw [eP]; omega), eP]
          omega
        rw [e1, Option.bind_some, hI2.1.2.2.2.2.1, if_pos (inb_iff.mpr (by have := hm.1; omega)), el, en]
        exact ih s' _ (g + 1) hI2 hT2 hX2 (own_ERr hE (own_ERr hE1 e2)) e3 (by rw [f2.1, f1.1]; omega) (by omega) (by omega) (by rw [f2.1, f1.1]; omega)
    · have c' := c
      rw [lt32, eP] at c'
      have ep : s.f_targetLen.toInt.toNat = p := by omega
      have fin : own_ok (some s) (fun s' => own_ER s0 s' ∧ own_O B s' s'.f_targetLen.toInt.toNat) := ⟨_, rfl, hE, by rw [ep]; exact hO⟩
      rw [if_neg c]
      split
      · exact fin
      · exact fin
theorem own_enc {B : Int32} {s : Q} (hI : own_I B s) (hT : own_T B s) (hX : own_X s) (h1 : s.f_phaseNow = 1) : own_ok (j_encode s) (fun r => ∃ s', r = (s'.f_ops, s'.s_phaseNow 2) ∧ own_ER s s' ∧ own_O B s' s'.f_targetLen.toInt.toNat) := by
  have tl := hI.2.2.2.2
  unfold j_encode
  rw [if_pos h1]
  have hE : own_ER s (((s.s_literalLen 0).s_ops 0).s_winPos (-1)) := ⟨s.f_literal, 0, s.f_kinds, s.f_values, 0, -1, s.f_winA, s.f_winB, by unfold own_EU; simp only [own_Qa], hI.1.2.2.1, hI.1.2.2.2.2.2.2.2.2.2.1, hI.1.2.2.2.2.2.2.2.2.2.2⟩
  obtain ⟨hI1, hT1, hX1⟩ := own_ERI hE hI hT hX
  have f1 := own_ERf hE
  have z := own_enl (s0 := s) 3000 _ 0 0 hI1 hT1 hX1 hE ⟨fun _ => 0, fun _ => 0, 0, by simp only [own_Qa]; rfl, by decide, rfl, rfl, rfl, by simp only [own_Qa]; rfl, by decide, by decide, fun i hi => absurd hi (Nat.not_lt_zero i)⟩ (by rw [f1.1]; omega) (by decide) (by decide) (by rw [f1.1]; omega)
  simp only [own_Qa] at z
  refine own_bind (show own_ok (j_encode_l29 3000 _ 0 0) _ from z) ?_
  rintro y ⟨y1, y2⟩
  exact ⟨_, rfl, y, by simp only [own_Qa], y1, y2⟩

/-- only out changes -/
def own_UU (s : Q) (x : List Int32) (l : Int32) : Q := (s.s_out x).s_outLen l
/-- the first l bytes of x are those of the target -/
def own_eqT (s : Q) (x : List Int32) (l : Nat) : Prop := ∀ t : Nat, t < l → rd x (Int32.ofNat t) = rd s.f_target (Int32.ofNat t)
theorem own_abl {B : Int32} {s : Q} {st ln : Int32} {a : Nat} (hI : own_I B s) (s0 : 0 ≤ st.toInt) (s1 : st.toInt + ln.toInt ≤ 256) (l0 : 0 ≤ ln.toInt) (l1 : (a : Int) + ln.toInt ≤ 256) (hc : ∀ t : Nat, (t : Int) < ln.toInt → rd s.f_basis (st + Int32.ofNat t) = rd s.f_target (Int32.ofNat (a + t))) : ∀ (m n k : Nat) (x : List Int32), (k : Int) + m = ln.toInt → m < n → x.length = 256 → own_eqT s x (a + k) → own_ok (j_appendBlockToOut_l30 n (own_UU s x (Int32.ofNat (a + k))) st ln (Int32.ofNat k)) (fun r => ∃ y, r = .inr (own_UU s y (Int32.ofNat (a + ln.toInt.toNat))) ∧ y.length = 256 ∧ own_eqT s y (a + ln.toInt.toNat)) := by
  intro m
  induction m with
  | zero =>
    intro n k x hk hn hx hq
    obtain ⟨n, rfl⟩ : ∃ n', n = n' + 1 := ⟨n - 1, by omega⟩
    have ek : k = ln.toInt.toNat := by omega
    rw [j_appendBlockToOut_l30, if_neg (by rw [lt32, own_n2i (by omega)]; omega)]
    exact ⟨_, rfl, x, by rw [ek], hx, by rw [← ek]; exact hq⟩
  | succ m ih =>
    intro n k x hk hn hx hq
    obtain ⟨n, rfl⟩ : ∃ n', n = n' + 1 := ⟨n - 1, by omega⟩
    have eK : (Int32.ofNat k).toInt = k := own_n2i (by omega)
    have es : (st + Int32.ofNat k).toInt = st.toInt + k := by rw [own_add (by rw [eK]; omega) (by rw [eK]; omega), eK]
    have f1 : (own_UU s x (Int32.ofNat (a + k))).f_outLen = Int32.ofNat (a + k) := by unfold own_UU; simp only [own_Qa]
    have f2 : (own_UU s x (Int32.ofNat (a + k))).f_basis = s.f_basis := by unfold own_UU; simp only [own_Qa]
    have f3 : (own_UU s x (Int32.ofNat (a + k))).f_out = x := by unfold own_UU; simp only [own_Qa]
    have ia := own_inbN (n := 256) (i := a + k) (by omega) (by decide)
    rw [j_appendBlockToOut_l30, if_pos (by rw [lt32, eK]; omega), if_neg (by rw [lt32, es]; simp only [Int32.reduceToInt]; omega), if_pos (by rw [lt32, es]; simp only [Int32.reduceToInt]; omega), f1, f2, f3, if_pos (show Int32.ofNat (a + k) < (256 : Int32) from (own_ltN (k := 256) (by omega) (by omega)).mpr (by omega)), hI.1.1, hx, if_pos (inb_iff.mpr (by omega)), if_pos ia, own_succ, own_succ]
    have nx := ih n (k + 1) (wr x (Int32.ofNat (a + k)) (rd s.f_basis (st + Int32.ofNat k))) (by omega) (by omega) (by rw [len_wr, hx]) (by
      intro t ht
      rw [own_rdN hx (by omega) (by omega)]
      by_cases q : a + k = t
      · rw [if_pos q, ← q]; exact hc k (by omega)
      · rw [if_neg q]; exact hq t (by omega))
    unfold own_UU at nx ⊢
    simp only [own_Qa] at nx ⊢
    exact nx
theorem own_all {B : Int32} {s : Q} {v : Int32} {a l : Nat} (hI : own_I B s) (hL : (l : Int) + v.toInt ≤ s.f_literalLen.toInt) (hL2 : s.f_literalLen.toInt ≤ 256) (v0 : 0 ≤ v.toInt) (l1 : (a : Int) + v.toInt ≤ 256) (hc : ∀ t : Nat, (t : Int) < v.toInt → rd s.f_literal (Int32.ofNat (l + t)) = rd s.f_target (Int32.ofNat (a + t))) : ∀ (m n k : Nat) (x : List Int32), (k : Int) + m = v.toInt → m < n → x.length = 256 → own_eqT s x (a + k) → own_ok (j_appendLiteralToOut_l5 n (own_UU s x (Int32.ofNat (a + k))) v (Int32.ofNat (l + k)) (Int32.ofNat k)) (fun r => ∃ y, r = (Int32.ofNat (l + v.toInt.toNat), own_UU s y (Int32.ofNat (a + v.toInt.toNat))) ∧ y.length = 256 ∧ own_eqT s y (a + v.toInt.toNat)) := by
  intro m
  induction m with
  | zero =>
    intro n k x hk hn hx hq
    obtain ⟨n, rfl⟩ : ∃ n', n = n' + 1 := ⟨n - 1, by omega⟩
    have ek : k = v.toInt.toNat := by omega
    rw [j_appendLiteralToOut_l5, if_neg (by rw [lt32, own_n2i (by omega)]; omega)]
    exact ⟨_, rfl, x, by rw [ek], hx, by rw [← ek]; exact hq⟩
  | succ m ih =>
    intro n k x hk hn hx hq
    obtain ⟨n, rfl⟩ : ∃ n', n = n' + 1 := ⟨n - 1, by omega⟩
    have eK : (Int32.ofNat k).toInt = k := own_n2i (by omega)
    have eL : (Int32.ofNat (l + k)).toInt = ((l + k : Nat) : Int) := own_n2i (by omega)
    have f1 : (own_UU s x (Int32.ofNat (a + k))).f_outLen = Int32.ofNat (a + k) := by unfold own_UU; simp only [own_Qa]
    have f2 : (own_UU s x (Int32.ofNat (a + k))).f_literal = s.f_literal := by unfold own_UU; simp only [own_Qa]
    have f3 : (own_UU s x (Int32.ofNat (a + k))).f_out = x := by unfold own_UU; simp only [own_Qa]
    have f4 : (own_UU s x (Int32.ofNat (a + k))).f_literalLen = s.f_literalLen := by unfold own_UU; simp only [own_Qa]
    have ia := own_inbN (n := 256) (i := a + k) (by omega) (by decide)
    have il := own_inbN (n := 256) (i := l + k) (by omega) (by decide)
    rw [j_appendLiteralToOut_l5, if_pos (by rw [lt32, eK]; omega), if_pos (by rw [lt32, eK]; simp only [Int32.reduceToInt]; omega), if_neg (by rw [lt32, eL]; simp only [Int32.reduceToInt]; omega), f1, f2, f3, f4, if_pos (by rw [lt32, eL]; omega), if_pos (by rw [lt32, eL]; simp only [Int32.reduceToInt]; omega), if_pos (show Int32.ofNat (a + k) < (256 : Int32) from (own_ltN (k := 256) (by omega) (by omega)).mpr (by omega)), hI.1.2.2.1, hx, if_pos il, if_pos ia]
    unfold j_appendLiteralToOut_b73
    rw [own_succ, own_succ, own_succ]
    have nx := ih n (k + 1) (wr x (Int32.ofNat (a + k)) (rd s.f_literal (Int32.ofNat (l + k)))) (by omega) (by omega) (by rw [len_wr, hx]) (by
      intro t ht
      rw [own_rdN hx (by omega) (by omega)]
      by_cases q : a + k = t
      · rw [if_pos q, ← q]; exact hc k (by omega)
      · rw [if_neg q]; exact hq t (by omega))
    unfold own_UU at nx ⊢
    simp only [own_Qa] at nx ⊢
    exact nx
theorem own_UI {B : Int32} {s : Q} {x : List Int32} {l : Int32} (hI : own_I B s) (hx : x.length = 256) : own_I B (own_UU s x l) := by
  obtain ⟨⟨z1, z2, z3, z4, z5, z6, z7, z8, z9, z10, z11⟩, r⟩ := hI
  unfold own_I own_L1 own_UU
  simp only [own_Qa]
  exact ⟨⟨z1, z2, z3, hx, z5, z6, z7, z8, z9, z10, z11⟩, r⟩
theorem own_apl {B : Int32} {s : Q} {pos lc : Nat → Nat} {N p : Nat} (hI : own_I B s) (hT : own_T B s) (hO : own_OP B s pos lc N p) : ∀ (m n i : Nat) (x : List Int32), i + m = N → m < n → x.length = 256 → own_eqT s x (pos i) → own_ok (j_apply_l27 n (own_UU s x (Int32.ofNat (pos i))) (Int32.ofNat (lc i)) (Int32.ofNat i)) (fun r => ∃ y, r = own_UU s y (Int32.ofNat p) ∧ y.length = 256 ∧ own_eqT s y p) := by
  have mn := own_mon hO
  obtain ⟨h1, h2, h3, h4, h5, h6, h7, h8, h9⟩ := hO
  intro m
  induction m with
  | zero =>
    intro n i x hi hn hx hq
    obtain ⟨n, rfl⟩ : ∃ n', n = n' + 1 := ⟨n - 1, by omega⟩
    have ei : i = N := by omega
    subst ei
    have f1 : (own_UU s x (Int32.ofNat (pos i))).f_ops = s.f_ops := by unfold own_UU; simp only [own_Qa]
    rw [j_apply_l27, f1, h1, if_neg (by rw [own_ltN (by omega) (by omega)]; omega)]
    exact ⟨_, rfl, x, by rw [h5], hx, by rw [← h5]; exact hq⟩
  | succ m ih =>
    intro n i x hi hn hx hq
    obtain ⟨n, rfl⟩ : ∃ n', n = n' + 1 := ⟨n - 1, by omega⟩
    have f1 : (own_UU s x (Int32.ofNat (pos i))).f_ops = s.f_ops := by unfold own_UU; simp only [own_Qa]
    have f2 : (own_UU s x (Int32.ofNat (pos i))).f_kinds = s.f_kinds := by unfold own_UU; simp only [own_Qa]
    have f3 : (own_UU s x (Int32.ofNat (pos i))).f_values = s.f_values := by unfold own_UU; simp only [own_Qa]
    have ii := own_inbN (n := 256) (i := i) (by omega) (by decide)
    have m1 := mn (m + 1) i (by omega)
    have m2 := mn m (i + 1) (by omega)
    rw [j_apply_l27, f1, h1, if_pos (by rw [own_ltN (by omega) (by omega)]; omega), if_pos (show Int32.ofNat i < (256 : Int32) from (own_ltN (k := 256) (by omega) (by omega)).mpr (by omega)), f2, f3, hI.1.2.2.2.2.2.2.2.2.2.1, hI.1.2.2.2.2.2.2.2.2.2.2, if_pos ii, if_pos ii]
    unfold j_apply_b77
    rcases h9 i (by omega) with ⟨o1, o2, o3, o4, o5, o6, o7⟩ | ⟨o1, o2, o3, o4, o5, o6⟩
    · unfold own_kd at o1
      unfold own_vl at o4 o5 o6 o7
      rw [if_pos o1]
      obtain ⟨k1, k2, k3, k4, k5, k6⟩ := own_blk hI hT o4 o5
      have bl := hI.2.2.2.1
      generalize rd s.f_values (Int32.ofNat i) = v at *
      have g1 : (own_UU s x (Int32.ofNat (pos i))).f_blocks = s.f_blocks := by unfold own_UU; simp only [own_Qa]
      have g2 : (own_UU s x (Int32.ofNat (pos i))).f_blkLen = s.f_blkLen := by unfold own_UU; simp only [own_Qa]
      have g3 : (own_UU s x (Int32.ofNat (pos i))).f_blockSize = B := by unfold own_UU; simp only [own_Qa]; exact hI.2.1
      have z := own_abl (st := v * B) (ln := rd s.f_blkLen v) (a := pos i) hI (by omega) (by omega) (by omega) (by omega) (fun t ht => o7 t (by omega)) (rd s.f_blkLen v).toInt.toNat 3000 0 x (by omega) (by omega) hx hq
      rw [Nat.add_zero] at z
      have en : pos i + (rd s.f_blkLen v).toInt.toNat = pos (i + 1) := by omega
      rw [en] at z
      unfold j_appendBlockToOut
      rw [if_neg (by rw [lt32]; simp only [Int32.reduceToInt]; omega), g1, if_pos (by rw [lt32]; exact o5), g2, hI.1.2.2.2.2.1, if_pos (inb_iff.mpr (by omega)), g3]
      refine own_bind (P := fun w => ∃ y, w = own_UU s y (Int32.ofNat (pos (i + 1))) ∧ y.length = 256 ∧ own_eqT s y (pos (i + 1))) ?_ ?_
      · refine own_bind (show own_ok (j_appendBlockToOut_l30 3000 _ _ _ 0) _ from z) ?_
        rintro r ⟨y, e, y1, y2⟩
        subst e
        exact ⟨_, rfl, y, rfl, y1, y2⟩
      · rintro w ⟨y, e, y1, y2⟩
        rw [e, own_succ, ← o3]
        exact ih n (i + 1) y (by omega) (by omega) y1 y2
    · unfold own_kd at o1
      unfold own_vl at o4
      rw [if_neg (by rw [o1]; decide)]
      generalize rd s.f_values (Int32.ofNat i) = v at *
      have eL : s.f_literalLen.toInt = lc N := by rw [h6, own_n2i (by omega)]
      have z := own_all (v := v) (a := pos i) (l := lc i) hI (by omega) (by omega) (by omega) (by omega) (fun t ht => o5 t (by omega)) v.toInt.toNat 3000 0 x (by omega) (by omega) hx hq
      rw [Nat.add_zero, Nat.add_zero] at z
      have en : pos i + v.toInt.toNat = pos (i + 1) := by omega
      have el : lc i + v.toInt.toNat = lc (i + 1) := by omega
      rw [en, el] at z
      rw [if_pos ii]
      unfold j_appendLiteralToOut
      refine own_bind (P := fun w => ∃ y, w = (Int32.ofNat (lc (i + 1)), own_UU s y (Int32.ofNat (pos (i + 1)))) ∧ y.length = 256 ∧ own_eqT s y (pos (i + 1))) ?_ ?_
      · refine own_bind (show own_ok (j_appendLiteralToOut_l5 3000 _ _ _ 0) _ from z) ?_
        rintro r ⟨y, e, y1, y2⟩
        subst e
        exact ⟨_, rfl, y, rfl, y1, y2⟩
      · rintro w ⟨y, e, y1, y2⟩
        rw [e, own_succ]
        exact ih n (i + 1) y (by omega) (by omega) y1 y2
/-- apply: the out buffer becomes the target -/
theorem own_app {B : Int32} {s : Q} {p : Nat} (hI : own_I B s) (hT : own_T B s) (hO : own_O B s p) (h : s.f_phaseNow = 2 ∨ s.f_phaseNow = 3) : ∃ y, j_apply s = some (Int32.ofNat p, (own_UU s y (Int32.ofNat p)).s_phaseNow 3) ∧ y.length = 256 ∧ own_eqT s y p := by
  obtain ⟨pos, lc, n, hOP⟩ := hO
  have h0 := hOP
  obtain ⟨h1, h2, h3, h4, h5, h6, h7, h8, h9⟩ := hOP
  have z := own_apl hI hT h0 n 3000 0 s.f_out (by omega) (by omega) hI.1.2.2.2.1 (by rw [h3]; intro t ht; omega)
  rw [h3, h4] at z
  obtain ⟨r, er, y, e, y1, y2⟩ := z
  have b18 : j_apply_b18 s = some (Int32.ofNat p, (own_UU s y (Int32.ofNat p)).s_phaseNow 3) := by
    unfold j_apply_b18
    have e0 : own_UU s s.f_out (Int32.ofNat 0) = s.s_outLen 0 := by unfold own_UU; simp only [own_Qa]; rfl
    rw [e0, own_e_outLen] at er
    have er' : j_apply_l27 3000 (Q.mk s.f_basis s.f_target s.f_literal s.f_out s.f_blkLen s.f_blkWeak s.f_blkStrong s.f_head s.f_next s.f_kinds s.f_values s.f_blockSize s.f_basisLen s.f_targetLen s.f_literalLen 0 s.f_blocks s.f_ops s.f_shortBlock s.f_winPos s.f_winA s.f_winB s.f_phaseNow) 0 0 = some r := er
    rw [er', Option.bind_some, e]
    unfold own_UU
    simp only [own_Qa]
  refine ⟨y, ?_, y1, y2⟩
  unfold j_apply
  rcases h with q | q
  · rw [if_pos q]; exact b18
  · rw [if_neg (by rw [q]; decide), if_pos q]; exact b18

def own_fin (r : Q ⊕ (Q ⊕ (Q ⊕ (Q ⊕ (Q ⊕ (Q ⊕ (Q ⊕ (Q ⊕ (Q ⊕ (Q ⊕ (Q ⊕ (Q)))))))))))) : Prop := ∃ q, r = .inr (.inr (.inr (.inr (.inr (.inr (.inr (.inr (.inr (.inr (.inr (q)))))))))))
def own_Z (B v4 v5 v6 v7 v8 v9 : Int32) (s : Q) : Prop := own_I B s ∧ s.f_phaseNow = v4 ∧ s.f_basisLen = v5 ∧ s.f_targetLen = v6 ∧ (v4 = 0 ∨ v4 = 1 ∨ v4 = 2 ∨ v4 = 3) ∧ (v4 = 0 → s.f_blocks = 0) ∧ (¬ v4 = 0 → own_T B s ∧ own_X s) ∧ ((v4 = 0 ∨ v4 = 1) → s.f_ops = 0 ∧ s.f_literalLen = 0) ∧ ((v4 = 2 ∨ v4 = 3) → own_O B s v6.toInt.toNat ∧ s.f_ops = v7) ∧ s.f_outLen = (if v4 = 3 then v6 else 0) ∧ (0 < v5.toInt → rd s.f_basis (v5 - 1) = v8) ∧ (0 < v6.toInt → rd s.f_target (v6 - 1) = v9)
theorem own_agl {B : Int32} {s : Q} {v2 v5 : Int32} {pos lc : Nat → Nat} {N p : Nat} (hI : own_I B s) (hT : own_T B s) (hO : own_OP B s pos lc N p) (h2 : ¬ v2 < 2) (hv : s.f_ops = v5) (v4 : Int32) : ∀ (m n i : Nat), i + m = N → m < n → h_agree_l188 n s v2 v4 v5 (Int32.ofNat (lc i)) (Int32.ofNat (pos i)) (Int32.ofNat i) = some (.inl (v2, v4, Int32.ofNat (lc N), Int32.ofNat p)) := by
  have mn := own_mon hO
  obtain ⟨h1, h2', h3, h4, h5, h6, h7, h8, h9⟩ := hO
  intro m
  induction m with
  | zero =>
    intro n i hi hn
    obtain ⟨n, rfl⟩ : ∃ n', n = n' + 1 := ⟨n - 1, by omega⟩
    have ei : i = N := by omega
    subst ei
    rw [h_agree_l188, if_pos (show Int32.ofNat i < (257 : Int32) from (own_ltN (k := 257) (by omega) (by omega)).mpr (by omega)), if_neg h2, ← hv, h1, if_neg (by rw [own_ltN (by omega) (by omega)]; omega), h5]
  | succ m ih =>
    intro n i hi hn
    obtain ⟨n, rfl⟩ : ∃ n', n = n' + 1 := ⟨n - 1, by omega⟩
    have m1 := mn (m + 1) i (by omega)
    have m2 := mn m (i + 1) (by omega)
    have ii := own_inbN (n := 256) (i := i) (by omega) (by decide)
    have lo : Int32.ofNat i < s.f_ops := by rw [h1, own_ltN (by omega) (by omega)]; omega
    have nn : ¬ Int32.ofNat i < 0 := by rw [lt32, own_n2i (by omega)]; simp only [Int32.reduceToInt]; omega
    have ek : j_opKind s (Int32.ofNat i) = some (own_kd s i) := by
      unfold j_opKind own_kd
      rw [if_neg nn, if_pos lo, hI.1.2.2.2.2.2.2.2.2.2.1, if_pos ii]
    have ev : j_opValue s (Int32.ofNat i) = some (own_vl s i) := by
      unfold j_opValue own_vl
      rw [if_neg nn, if_pos lo, hI.1.2.2.2.2.2.2.2.2.2.2, if_pos ii]
    rw [h_agree_l188, if_pos (show Int32.ofNat i < (257 : Int32) from (own_ltN (k := 257) (by omega) (by omega)).mpr (by omega)), if_neg h2, ← hv, if_pos lo, ek, Option.bind_some, ev, Option.bind_some]
    unfold h_agree_b292
    rw [own_succ]
    have nx := ih n (i + 1) (by omega) (by omega)
    rcases h9 i (by omega) with ⟨o1, o2, o3, o4, o5, o6, o7⟩ | ⟨o1, o2, o3, o4, o5, o6⟩
    · obtain ⟨k1, k2, k3, k4, k5, k6⟩ := own_blk hI hT o4 o5
      have bl := hI.2.2.1
      have el : j_blockLength s (own_vl s i) = some (rd s.f_blkLen (own_vl s i)) := by
        unfold j_blockLength
        rw [if_neg (by rw [lt32]; simp only [Int32.reduceToInt]; omega), if_pos (by rw [lt32]; exact o5), hI.1.2.2.2.2.1, if_pos (inb_iff.mpr (by omega))]
      have ep : Int32.ofNat (pos i) + rd s.f_blkLen (own_vl s i) = Int32.ofNat (pos (i + 1)) := by
        apply Int32.toInt_inj.mp
        have e1 : (Int32.ofNat (pos i)).toInt = pos i := own_n2i (by omega)
        rw [own_n2i (by omega), own_add (by rw [e1]; omega) (by rw [e1]; omega), e1]
        omega
      rw [if_neg (by rw [o1]; decide), if_pos o1, el, Option.bind_some, if_neg (by rw [lt32]; simp only [Int32.reduceToInt]; omega), ep, ← o3, hv]
      exact nx
    · have ep : Int32.ofNat (pos i) + own_vl s i = Int32.ofNat (pos (i + 1)) := by
        apply Int32.toInt_inj.mp
        have e1 : (Int32.ofNat (pos i)).toInt = pos i := own_n2i (by omega)
        rw [own_n2i (by omega), own_add (by rw [e1]; omega) (by rw [e1]; omega), e1]
        omega
      have el : Int32.ofNat (lc i) + own_vl s i = Int32.ofNat (lc (i + 1)) := by
        apply Int32.toInt_inj.mp
        have e1 : (Int32.ofNat (lc i)).toInt = lc i := own_n2i (by omega)
        rw [own_n2i (by omega), own_add (by rw [e1]; omega) (by rw [e1]; omega), e1]
        omega
      rw [if_pos o1, if_neg (by rw [lt32]; simp only [Int32.reduceToInt]; omega), ep, el, hv]
      exact nx
theorem own_by0 {B : Int32} {s : Q} {i : Int32} (hI : own_I B s) (h0 : 0 ≤ i.toInt) (h1 : i.toInt < s.f_basisLen.toInt) : j_byteAt s 0 i = some (rd s.f_basis i) := by
  have bl := hI.2.2.2.1
  have e : j_length s 0 = s.f_basisLen := by unfold j_length; rw [if_pos rfl]
  unfold j_byteAt
  rw [e, if_neg (by intro z; rw [z] at bl; simp only [Int32.reduceToInt] at bl; omega), if_neg (by rw [lt32]; simp only [Int32.reduceToInt]; omega), if_pos (by rw [lt32]; exact h1), if_pos (by rw [lt32]; simp only [Int32.reduceToInt]; omega), if_pos rfl, hI.1.1, if_pos (inb_iff.mpr (by omega))]
theorem own_by1 {B : Int32} {s : Q} {i : Int32} (hI : own_I B s) (h0 : 0 ≤ i.toInt) (h1 : i.toInt < s.f_targetLen.toInt) : j_byteAt s 1 i = some (rd s.f_target i) := by
  have bl := hI.2.2.2.2
  have e : j_length s 1 = s.f_targetLen := by unfold j_length; rw [if_neg (by decide), if_pos rfl]
  unfold j_byteAt
  rw [e, if_neg (by intro z; rw [z] at bl; simp only [Int32.reduceToInt] at bl; omega), if_neg (by rw [lt32]; simp only [Int32.reduceToInt]; omega), if_pos (by rw [lt32]; exact h1), if_pos (by rw [lt32]; simp only [Int32.reduceToInt]; omega), if_neg (by decide), if_pos rfl, hI.1.2.1, if_pos (inb_iff.mpr (by omega))]
theorem own_byE {B : Int32} {s : Q} (hI : own_I B s) : j_byteAt s 0 s.f_basisLen = some (-1) := by
  have bl := hI.2.2.2.1
  have e : j_length s 0 = s.f_basisLen := by unfold j_length; rw [if_pos rfl]
  unfold j_byteAt
  rw [e, if_neg (by intro z; rw [z] at bl; simp only [Int32.reduceToInt] at bl; omega), if_neg (by rw [lt32]; simp only [Int32.reduceToInt]; omega), if_neg (by rw [lt32]; omega)]
theorem own_agree {B v4 v5 v6 v7 v8 v9 : Int32} {s : Q} (hZ : own_Z B v4 v5 v6 v7 v8 v9 s) : h_agree s B v4 v5 v6 v7 v8 v9 = some 1 := by
  obtain ⟨hI, e4, e5, e6, c4, hb, hT, h01, h23, ho, lB, lT⟩ := hZ
  have hI0 := hI
  obtain ⟨hL, hB, ⟨b0, b1⟩, n, t⟩ := hI
  rw [e5] at n
  rw [e6] at t
  have j0 : j_length s 0 = v5 := by unfold j_length; rw [if_pos rfl]; exact e5
  have j1 : j_length s 1 = v6 := by unfold j_length; rw [if_neg (by decide), if_pos rfl]; exact e6
  have j2 : j_length s 2 = s.f_literalLen := by unfold j_length; rw [if_neg (by decide), if_neg (by decide), if_pos rfl]
  have j3 : j_length s 3 = s.f_outLen := by unfold j_length; rw [if_neg (by decide), if_neg (by decide), if_neg (by decide), if_pos rfl]
  have b167 : h_agree_b167 s v4 v5 v6 v7 = some 1 := by
    unfold h_agree_b167
    have z := own_byE hI0
    rw [e5] at z
    rw [z, Option.bind_some, if_pos rfl]
    by_cases c : v4 < 2
    · have c01 : v4 = 0 ∨ v4 = 1 := by
        rcases c4 with q | q | q | q
        · exact Or.inl q
        · exact Or.inr q
        · rw [q] at c; exact absurd c (by decide)
        · rw [q] at c; exact absurd c (by decide)
      rw [h_agree_l188, if_pos (by decide), if_pos c, Option.bind_some, Sum.elim_inr, Sum.elim_inr, Sum.elim_inr, Sum.elim_inr]
      unfold h_agree_b298
      rw [j2, (h01 c01).2, if_pos rfl, if_pos c]
    · have c23 : v4 = 2 ∨ v4 = 3 := by
        rcases c4 with q | q | q | q
        · rw [q] at c; exact absurd (by decide) c
        · rw [q] at c; exact absurd (by decide) c
        · exact Or.inl q
        · exact Or.inr q
      obtain ⟨⟨pos, lc, N, hO⟩, hv⟩ := h23 c23
      have nz : ¬ v4 = 0 := by rcases c23 with q | q <;> rw [q] <;> decide
      have h3 := hO.2.2.1
      have h4 := hO.2.2.2.1
      have z2 := own_agl hI0 (hT nz).1 hO c hv v6 N 3000 0 (by omega) (by have q1 := hO.2.1; have q2 := hO.2.2.2.2.2.2.2.1; omega)
      rw [h3, h4] at z2
      rw [show h_agree_l188 3000 s v4 v6 v7 0 0 0 = _ from z2, Option.bind_some, Sum.elim_inl]
      unfold h_agree_b298
      have ep : Int32.ofNat v6.toInt.toNat = v6 := Int32.toInt_inj.mp (by rw [own_n2i (by omega)]; omega)
      rw [j2, hO.2.2.2.2.2.1, if_pos rfl, if_neg c, if_pos ep]
  have b146 : h_agree_b146 s v4 v5 v6 v7 v9 = some 1 := by
    unfold h_agree_b146
    by_cases c : 0 < v6
    · rw [if_pos c]
      rw [lt32] at c
      simp only [Int32.reduceToInt] at c
      have es : (v6 - 1).toInt = v6.toInt - 1 := by rw [own_sub] <;> simp only [Int32.reduceToInt] <;> omega
      rw [own_by1 hI0 (by omega) (by rw [e6]; omega), Option.bind_some, if_pos (lT c)]
      exact b167
    · rw [if_neg c]; exact b167
  have b86 : h_agree_b86 s v4 v5 v6 v7 v8 v9 = some 1 := by
    unfold h_agree_b86 h_agree_b102 j_opCount
    rw [j3, if_pos ho]
    have eo : s.f_ops = if v4 < 2 then 0 else v7 := by
      rcases c4 with q | q | q | q
      · rw [if_pos (by rw [q]; decide)]; exact (h01 (Or.inl q)).1
      · rw [if_pos (by rw [q]; decide)]; exact (h01 (Or.inr q)).1
      · rw [if_neg (by rw [q]; decide)]; exact (h23 (Or.inl q)).2
      · rw [if_neg (by rw [q]; decide)]; exact (h23 (Or.inr q)).2
    unfold h_agree_b122
    rw [if_pos eo]
    by_cases c : 0 < v5
    · rw [if_pos c]
      rw [lt32] at c
      simp only [Int32.reduceToInt] at c
      have es : (v5 - 1).toInt = v5.toInt - 1 := by rw [own_sub] <;> simp only [Int32.reduceToInt] <;> omega
      rw [own_by0 hI0 (by omega) (by rw [e5]; omega), Option.bind_some, if_pos (lB c)]
      exact b146
    · rw [if_neg c]; exact b146
  unfold h_agree j_phase
  rw [if_pos e4, j0, if_pos rfl, j1, if_pos rfl]
  unfold h_agree_b47 j_blockCount
  by_cases c : v4 < 1
  · have c0 : v4 = 0 := by
      rcases c4 with q | q | q | q
      · exact q
      · rw [q] at c; exact absurd c (by decide)
      · rw [q] at c; exact absurd c (by decide)
      · rw [q] at c; exact absurd c (by decide)
    rw [if_pos c, hb c0, if_pos rfl, if_neg (by decide)]
    exact b86
  · have nz : ¬ v4 = 0 := by
      intro q; rw [q] at c; exact absurd (by decide) c
    have T := (hT nz).1
    obtain ⟨t1, t2⟩ := T
    rw [e5] at t1
    obtain ⟨x1, x2, x3, x4, x5⟩ := own_nb n.1 n.2 b0 b1
    rw [if_neg c, if_neg (by intro z; rw [z] at b0; simp only [Int32.reduceToInt] at b0; omega), if_pos t1]
    rw [← t1] at x2 x3 ⊢
    by_cases d : 0 < s.f_blocks
    · rw [if_pos d]
      rw [lt32] at d
      simp only [Int32.reduceToInt] at d
      have es : (s.f_blocks - 1).toInt = s.f_blocks.toInt - 1 := by rw [own_sub] <;> simp only [Int32.reduceToInt] <;> omega
      have el : j_blockLength s (s.f_blocks - 1) = some (v5 - (s.f_blocks - 1) * B) := by
        unfold j_blockLength
        rw [if_neg (by rw [lt32, es]; simp only [Int32.reduceToInt]; omega), if_pos (by rw [lt32, es]; omega), hL.2.2.2.2.1, if_pos (inb_iff.mpr (by omega)), t2 _ (by omega) (by omega)]
        unfold own_bl
        rw [if_pos rfl, e5]
      rw [el, Option.bind_some, if_pos rfl]
      exact b86
    · rw [if_neg d]; exact b86
theorem own_495 {go_ : Q → List Int32 → Int32 → Int32 → Int32 → Int32 → Int32 → Int32 → Int32 → Int32 → Option (Q ⊕ (Q ⊕ (Q ⊕ (Q ⊕ (Q ⊕ (Q ⊕ (Q ⊕ (Q ⊕ (Q ⊕ (Q ⊕ (Q ⊕ (Q))))))))))))} {s : Q} {scr : List Int32} {B v4 v5 v6 v7 v8 v9 v10 : Int32} (hZ : own_Z B v4 v5 v6 v7 v8 v9 s) (nx : ∀ (x : Q) (v4 v5 v6 v7 v8 v9 : Int32), own_Z B v4 v5 v6 v7 v8 v9 x → own_ok (go_ x scr B v4 v5 v6 v7 v8 v9 (v10 + 3)) own_fin) : own_ok (law_b495 go_ s scr B v4 v5 v6 v7 v8 v9 v10) own_fin := by
  unfold law_b495
  rw [own_agree hZ, Option.bind_some, if_neg (by decide)]
  exact nx s _ _ _ _ _ _ hZ

theorem own_n5 (x : Int32) : 0 ≤ ((x &&& 7) % 5).toInt ∧ ((x &&& 7) % 5).toInt ≤ 4 := by
  have m7 := own_msk x 7 (by decide)
  have m5 := own_rem (x := x &&& 7) (y := 5) m7.1 (by decide)
  simp only [Int32.reduceToInt] at m5
  omega
theorem own_opB {go_ : Q → List Int32 → Int32 → Int32 → Int32 → Int32 → Int32 → Int32 → Int32 → Int32 → Option (Q ⊕ (Q ⊕ (Q ⊕ (Q ⊕ (Q ⊕ (Q ⊕ (Q ⊕ (Q ⊕ (Q ⊕ (Q ⊕ (Q ⊕ (Q))))))))))))} {s : Q} {scr : List Int32} {B v4 v5 v6 v7 v8 v9 v10 : Int32} (hZ : own_Z B v4 v5 v6 v7 v8 v9 s) (nx : ∀ (x : Q) (v4 v5 v6 v7 v8 v9 : Int32), own_Z B v4 v5 v6 v7 v8 v9 x → own_ok (go_ x scr B v4 v5 v6 v7 v8 v9 (v10 + 3)) own_fin) (w n : Int32) (n0 : 0 ≤ n.toInt) (n4 : n.toInt ≤ 4) : own_ok (law_b137 go_ s scr B v4 v5 v6 v7 v8 v9 v10 w n (if v4 = 0 then (if n < 1 then 0 else (if 256 < v5 + n then 0 else 1)) else 0)) own_fin := by
  obtain ⟨hI, e4, e5, e6, c4, hb, hT, h01, h23, ho, lB, lT⟩ := hZ
  have hZ : own_Z B v4 v5 v6 v7 v8 v9 s := ⟨hI, e4, e5, e6, c4, hb, hT, h01, h23, ho, lB, lT⟩
  have bl := hI.2.2.2.1
  rw [e5] at bl
  have en : (v5 + n).toInt = v5.toInt + n.toInt := by rw [own_add] <;> omega
  unfold law_b137 law_b200
  by_cases c : v4 = 0 ∧ 1 ≤ n.toInt ∧ v5.toInt + n.toInt ≤ 256
  · obtain ⟨c0, c1, c2⟩ := c
    obtain ⟨y, ey, y1, y2⟩ := own_appB (w := w) hI (by rw [e4]; exact c0) c1 n4 (by rw [e5]; exact c2)
    have w1 : (if v4 = 0 then (if n < 1 then (0 : Int32) else (if 256 < v5 + n then 0 else 1)) else 0) = 1 := by
      rw [if_pos c0, if_neg (by rw [lt32]; simp only [Int32.reduceToInt]; omega), if_neg (by rw [lt32, en]; simp only [Int32.reduceToInt]; omega)]
    rw [w1, ey, Option.bind_some, if_neg (show ¬ (1 : Int32) = 0 from by decide), e5, if_pos rfl]
    rw [e5] at y2
    refine own_495 ?_ nx
    obtain ⟨⟨z1, z2, z3, z4, z5, z6, z7, z8, z9, z10, z11⟩, hB, hb2, nn, tt⟩ := hI
    refine ⟨?_, ?_, ?_, ?_, Or.inl c0, ?_, fun z => absurd c0 z, ?_, ?_, ?_, ?_, ?_⟩
    · unfold own_I own_L1
      simp only [own_Qa]
      exact ⟨⟨y1, z2, z3, z4, z5, z6, z7, z8, z9, z10, z11⟩, hB, hb2, ⟨by omega, by omega⟩, tt⟩
    · simp only [own_Qa]; exact e4
    · simp only [own_Qa]
    · simp only [own_Qa]; exact e6
    · simp only [own_Qa]; exact hb
    · simp only [own_Qa]; exact h01
    · intro z; rcases z with z | z <;> rw [c0] at z <;> exact absurd z (by decide)
    · simp only [own_Qa]; exact ho
    · intro _; simp only [own_Qa]; exact y2
    · simp only [own_Qa]; exact lT
  · have w0 : (if v4 = 0 then (if n < 1 then (0 : Int32) else (if 256 < v5 + n then 0 else 1)) else 0) = 0 := by
      by_cases a : v4 = 0
      · rw [if_pos a]
        by_cases b : n < 1
        · rw [if_pos b]
        · rw [if_neg b]
          rw [lt32] at b
          simp only [Int32.reduceToInt] at b
          rw [if_pos]
          rw [lt32, en]
          simp only [Int32.reduceToInt]
          by_cases q : v5.toInt + n.toInt ≤ 256
          · exact absurd ⟨a, by omega, q⟩ c
          · omega
      · rw [if_neg a]
    rw [w0, own_refB hI n0 n4 (by
      rw [e4, e5]
      by_cases a : v4 = 0
      · by_cases b : n.toInt < 1
        · exact Or.inr (Or.inl b)
        · by_cases q : v5.toInt + n.toInt ≤ 256
          · exact absurd ⟨a, by omega, q⟩ c
          · exact Or.inr (Or.inr (by omega))
      · exact Or.inl a), Option.bind_some, if_pos rfl, if_pos rfl]
    exact own_495 hZ nx
theorem own_opT {go_ : Q → List Int32 → Int32 → Int32 → Int32 → Int32 → Int32 → Int32 → Int32 → Int32 → Option (Q ⊕ (Q ⊕ (Q ⊕ (Q ⊕ (Q ⊕ (Q ⊕ (Q ⊕ (Q ⊕ (Q ⊕ (Q ⊕ (Q ⊕ (Q))))))))))))} {s : Q} {scr : List Int32} {B v4 v5 v6 v7 v8 v9 v10 : Int32} (hZ : own_Z B v4 v5 v6 v7 v8 v9 s) (nx : ∀ (x : Q) (v4 v5 v6 v7 v8 v9 : Int32), own_Z B v4 v5 v6 v7 v8 v9 x → own_ok (go_ x scr B v4 v5 v6 v7 v8 v9 (v10 + 3)) own_fin) (w n : Int32) (n0 : 0 ≤ n.toInt) (n4 : n.toInt ≤ 4) : own_ok (law_b237 go_ s scr B v4 v5 v6 v7 v8 v9 v10 w n (if 1 < v4 then 0 else (if n < 1 then 0 else (if 256 < v6 + n then 0 else 1)))) own_fin := by
  obtain ⟨hI, e4, e5, e6, c4, hb, hT, h01, h23, ho, lB, lT⟩ := hZ
  have hZ : own_Z B v4 v5 v6 v7 v8 v9 s := ⟨hI, e4, e5, e6, c4, hb, hT, h01, h23, ho, lB, lT⟩
  have bl := hI.2.2.2.2
  rw [e6] at bl
  have en : (v6 + n).toInt = v6.toInt + n.toInt := by rw [own_add] <;> omega
  have l1 : (1 < v4 ↔ ¬ (v4 = 0 ∨ v4 = 1)) := by
    rcases c4 with q | q | q | q <;> rw [q] <;> decide
  unfold law_b237 law_b300
  by_cases c : (v4 = 0 ∨ v4 = 1) ∧ 1 ≤ n.toInt ∧ v6.toInt + n.toInt ≤ 256
  · obtain ⟨c0, c1, c2⟩ := c
    obtain ⟨y, ey, y1, y2⟩ := own_appT (w := w) hI (by rw [e4]; exact c0) c1 n4 (by rw [e6]; exact c2)
    have w1 : (if 1 < v4 then (0 : Int32) else (if n < 1 then 0 else (if 256 < v6 + n then 0 else 1))) = 1 := by
      rw [if_neg (fun z => l1.mp z c0), if_neg (by rw [lt32]; simp only [Int32.reduceToInt]; omega), if_neg (by rw [lt32, en]; simp only [Int32.reduceToInt]; omega)]
    rw [w1, ey, Option.bind_some, if_neg (show ¬ (1 : Int32) = 0 from by decide), e6, if_pos rfl]
    rw [e6] at y2
    refine own_495 ?_ nx
    obtain ⟨⟨z1, z2, z3, z4, z5, z6, z7, z8, z9, z10, z11⟩, hB, hb2, nn, tt⟩ := hI
    refine ⟨?_, ?_, ?_, ?_, c4, ?_, ?_, ?_, ?_, ?_, ?_, ?_⟩
    · unfold own_I own_L1
      simp only [own_Qa]
      exact ⟨⟨z1, y1, z3, z4, z5, z6, z7, z8, z9, z10, z11⟩, hB, hb2, nn, ⟨by omega, by omega⟩⟩
    · simp only [own_Qa]; exact e4
    · simp only [own_Qa]; exact e5
    · simp only [own_Qa]
    · simp only [own_Qa]; exact hb
    · intro z
      have q := hT z
      unfold own_T own_bl own_X own_fl at *
      simp only [own_Qa]
      exact q
    · simp only [own_Qa]; exact h01
    · intro z
      exfalso
      rcases z with z | z <;> rw [z] at c0 <;> exact absurd c0 (by decide)
    · simp only [own_Qa]
      rw [ho]
      have n3 : ¬ v4 = 3 := by rcases c0 with q | q <;> rw [q] <;> decide
      rw [if_neg n3, if_neg n3]
    · simp only [own_Qa]; exact lB
    · intro _; simp only [own_Qa]; exact y2
  · have w0 : (if 1 < v4 then (0 : Int32) else (if n < 1 then 0 else (if 256 < v6 + n then 0 else 1))) = 0 := by
      by_cases a : v4 = 0 ∨ v4 = 1
      · rw [if_neg (fun z => l1.mp z a)]
        by_cases b : n < 1
        · rw [if_pos b]
        · rw [if_neg b]
          rw [lt32] at b
          simp only [Int32.reduceToInt] at b
          rw [if_pos]
          rw [lt32, en]
          simp only [Int32.reduceToInt]
          by_cases q : v6.toInt + n.toInt ≤ 256
          · exact absurd ⟨a, by omega, q⟩ c
          · omega
      · rw [if_pos (l1.mpr a)]
    rw [w0, own_refT hI n0 n4 (by
      rw [e4, e6]
      by_cases a : v4 = 0 ∨ v4 = 1
      · by_cases b : n.toInt < 1
        · exact Or.inr (Or.inl b)
        · by_cases q : v6.toInt + n.toInt ≤ 256
          · exact absurd ⟨a, by omega, q⟩ c
          · exact Or.inr (Or.inr (by omega))
      · exact Or.inl a), Option.bind_some, if_pos rfl, if_pos rfl]
    exact own_495 hZ nx
theorem own_opS {go_ : Q → List Int32 → Int32 → Int32 → Int32 → Int32 → Int32 → Int32 → Int32 → Int32 → Option (Q ⊕ (Q ⊕ (Q ⊕ (Q ⊕ (Q ⊕ (Q ⊕ (Q ⊕ (Q ⊕ (Q ⊕ (Q ⊕ (Q ⊕ (Q))))))))))))} {s : Q} {scr : List Int32} {B v4 v5 v6 v7 v8 v9 v10 : Int32} (hZ : own_Z B v4 v5 v6 v7 v8 v9 s) (nx : ∀ (x : Q) (v4 v5 v6 v7 v8 v9 : Int32), own_Z B v4 v5 v6 v7 v8 v9 x → own_ok (go_ x scr B v4 v5 v6 v7 v8 v9 (v10 + 3)) own_fin) : own_ok ((j_sign s).bind fun p78 => (if v4 = 0 then (if B = 0 then none else (if p78.1 = (((v5 + B) - 1) / B) then (law_b349 go_ p78.2 scr B 1 v5 v6 v7 v8 v9 v10) else some (.inr (.inr (.inr (.inr (.inl p78.2))))))) else (if p78.1 = -1 then (law_b349 go_ p78.2 scr B v4 v5 v6 v7 v8 v9 v10) else some (.inr (.inr (.inr (.inr (.inr (.inl p78.2))))))))) own_fin := by
  obtain ⟨hI, e4, e5, e6, c4, hb, hT, h01, h23, ho, lB, lT⟩ := hZ
  have hZ : own_Z B v4 v5 v6 v7 v8 v9 s := ⟨hI, e4, e5, e6, c4, hb, hT, h01, h23, ho, lB, lT⟩
  have b0 := hI.2.2.1.1
  unfold law_b349
  by_cases c : v4 = 0
  · refine own_bind (own_sgn hI (by rw [e4]; exact c)) ?_
    rintro r ⟨r1, ⟨a, b, c', h, x, q, r2⟩, r3, r4, r5⟩
    rw [e5] at r1
    rw [if_pos c, if_neg (by intro z; rw [z] at b0; simp only [Int32.reduceToInt] at b0; omega), if_pos r1]
    refine own_495 ?_ nx
    refine ⟨r3, ?_, ?_, ?_, Or.inr (Or.inl rfl), fun z => absurd z (by decide), fun _ => ⟨r4, r5⟩, ?_, ?_, ?_, ?_, ?_⟩
    · rw [r2]; unfold own_GU own_BU own_SU; simp only [own_Qa]
    · rw [r2]; unfold own_GU own_BU own_SU; simp only [own_Qa]; exact e5
    · rw [r2]; unfold own_GU own_BU own_SU; simp only [own_Qa]; exact e6
    · intro _
      rw [r2]; unfold own_GU own_BU own_SU; simp only [own_Qa]
      exact h01 (Or.inl c)
    · intro z; rcases z with z | z <;> exact absurd z (by decide)
    · rw [r2, if_neg (by decide)]; unfold own_GU own_BU own_SU; simp only [own_Qa]
      rw [ho, if_neg (by rw [c]; decide)]
    · rw [r2]; unfold own_GU own_BU own_SU; simp only [own_Qa]; exact lB
    · rw [r2]; unfold own_GU own_BU own_SU; simp only [own_Qa]; exact lT
  · have q : j_sign s = some (-1, s) := by
      unfold j_sign
      rw [if_neg (by rw [e4]; exact c)]
    rw [q, Option.bind_some, if_neg c, if_pos rfl]
    exact own_495 hZ nx
theorem own_opE {go_ : Q → List Int32 → Int32 → Int32 → Int32 → Int32 → Int32 → Int32 → Int32 → Int32 → Option (Q ⊕ (Q ⊕ (Q ⊕ (Q ⊕ (Q ⊕ (Q ⊕ (Q ⊕ (Q ⊕ (Q ⊕ (Q ⊕ (Q ⊕ (Q))))))))))))} {s : Q} {scr : List Int32} {B v4 v5 v6 v7 v8 v9 v10 : Int32} (hZ : own_Z B v4 v5 v6 v7 v8 v9 s) (nx : ∀ (x : Q) (v4 v5 v6 v7 v8 v9 : Int32), own_Z B v4 v5 v6 v7 v8 v9 x → own_ok (go_ x scr B v4 v5 v6 v7 v8 v9 (v10 + 3)) own_fin) : own_ok ((j_encode s).bind fun p283 => (if v4 = 1 then (if p283.1 < 0 then some (.inr (.inr (.inr (.inr (.inr (.inr (.inl p283.2))))))) else (if v6 < p283.1 then some (.inr (.inr (.inr (.inr (.inr (.inr (.inl p283.2))))))) else (law_b392 go_ p283.2 scr B v5 v6 v8 v9 v10 p283.1 (if v6 = 0 then 1 else 0)))) else (if p283.1 = -1 then (law_b425 go_ p283.2 scr B v4 v5 v6 v7 v8 v9 v10) else some (.inr (.inr (.inr (.inr (.inr (.inr (.inr (.inl p283.2))))))))))) own_fin := by
  obtain ⟨hI, e4, e5, e6, c4, hb, hT, h01, h23, ho, lB, lT⟩ := hZ
  have hZ : own_Z B v4 v5 v6 v7 v8 v9 s := ⟨hI, e4, e5, e6, c4, hb, hT, h01, h23, ho, lB, lT⟩
  have tl := hI.2.2.2.2
  rw [e6] at tl
  unfold law_b392 law_b402 law_b425
  by_cases c : v4 = 1
  · have nz : ¬ v4 = 0 := by rw [c]; decide
    obtain ⟨T, X⟩ := hT nz
    refine own_bind (own_enc hI T X (by rw [e4]; exact c)) ?_
    rintro r ⟨s', er, hE, hO⟩
    subst er
    obtain ⟨hI1, hT1, hX1⟩ := own_ERI hE hI T X
    obtain ⟨f1, f2, f3, f4, f5, f6, f7⟩ := own_ERf hE
    rw [f1, e6] at hO
    have hO0 := hO
    obtain ⟨pos, lc, N, hOP⟩ := hO
    have mn := own_mon hOP N 0 (by omega)
    obtain ⟨h1, h2, h3, h4, h5, h6, h7, h8, h9⟩ := hOP
    have en : s'.f_ops.toInt = N := by rw [h1, own_n2i (by omega)]
    rw [if_pos c, if_neg (by rw [lt32, en]; simp only [Int32.reduceToInt]; omega), if_neg (by rw [lt32, en]; omega)]
    have eqz : (if v6 = 0 then (1 : Int32) else 0) = if s'.f_ops = 0 then 1 else 0 := by
      by_cases z : v6 = 0
      · rw [if_pos z, if_pos]
        apply Int32.toInt_inj.mp
        rw [en]
        have : v6.toInt = 0 := by rw [z]; rfl
        simp only [Int32.reduceToInt]
        omega
      · rw [if_neg z, if_neg]
        intro y
        rw [y] at en
        simp only [Int32.reduceToInt] at en
        have n0 : N = 0 := by omega
        rw [n0, h3] at h5
        exact z (Int32.toInt_inj.mp (by simp only [Int32.reduceToInt]; omega))
    rw [if_pos eqz]
    refine own_495 ?_ nx
    refine ⟨?_, ?_, ?_, ?_, Or.inr (Or.inr (Or.inl rfl)), fun z => absurd z (by decide), ?_, ?_, ?_, ?_, ?_, ?_⟩
    · unfold own_I own_L1 at *
      simp only [own_Qa]; exact hI1
    · simp only [own_Qa]
    · simp only [own_Qa]; rw [f2]; exact e5
    · simp only [own_Qa]; rw [f1]; exact e6
    · intro _
      unfold own_T own_bl own_X own_fl at *
      simp only [own_Qa]
      exact ⟨hT1, hX1⟩
    · intro z; rcases z with z | z <;> exact absurd z (by decide)
    · intro _
      refine ⟨?_, by simp only [own_Qa]⟩
      unfold own_O own_OP own_op own_kd own_vl at *
      simp only [own_Qa]
      exact hO0
    · rw [if_neg (by decide)]; simp only [own_Qa]; rw [f4, ho, if_neg (by rw [c]; decide)]
    · simp only [own_Qa]; rw [f6]; exact lB
    · simp only [own_Qa]; rw [f7]; exact lT
  · have q : j_encode s = some (-1, s) := by
      unfold j_encode
      rw [if_neg (by rw [e4]; exact c)]
    rw [q, Option.bind_some, if_neg c, if_pos rfl]
    exact own_495 hZ nx
theorem own_opA {go_ : Q → List Int32 → Int32 → Int32 → Int32 → Int32 → Int32 → Int32 → Int32 → Int32 → Option (Q ⊕ (Q ⊕ (Q ⊕ (Q ⊕ (Q ⊕ (Q ⊕ (Q ⊕ (Q ⊕ (Q ⊕ (Q ⊕ (Q ⊕ (Q))))))))))))} {s : Q} {scr : List Int32} {B v4 v5 v6 v7 v8 v9 v10 : Int32} (hZ : own_Z B v4 v5 v6 v7 v8 v9 s) (nx : ∀ (x : Q) (v4 v5 v6 v7 v8 v9 : Int32), own_Z B v4 v5 v6 v7 v8 v9 x → own_ok (go_ x scr B v4 v5 v6 v7 v8 v9 (v10 + 3)) own_fin) : own_ok ((j_apply s).bind fun p349 => (if v4 < 2 then (if p349.1 = -1 then (law_b470 go_ p349.2 scr B v4 v5 v6 v7 v8 v9 v10) else some (.inr (.inr (.inr (.inr (.inr (.inr (.inr (.inr (.inr (.inl p349.2))))))))))) else (if p349.1 = v6 then (law_b470 go_ p349.2 scr B 3 v5 v6 v7 v8 v9 v10) else some (.inr (.inr (.inr (.inr (.inr (.inr (.inr (.inr (.inl p349.2)))))))))))) own_fin := by
  obtain ⟨hI, e4, e5, e6, c4, hb, hT, h01, h23, ho, lB, lT⟩ := hZ
  have hZ : own_Z B v4 v5 v6 v7 v8 v9 s := ⟨hI, e4, e5, e6, c4, hb, hT, h01, h23, ho, lB, lT⟩
  have tl := hI.2.2.2.2
  rw [e6] at tl
  unfold law_b470
  by_cases c : v4 < 2
  · have c01 : v4 = 0 ∨ v4 = 1 := by
      rcases c4 with q | q | q | q
      · exact Or.inl q
      · exact Or.inr q
      · rw [q] at c; exact absurd c (by decide)
      · rw [q] at c; exact absurd c (by decide)
    have q : j_apply s = some (-1, s) := by
      unfold j_apply
      rw [e4, if_neg (by rcases c01 with z | z <;> rw [z] <;> decide), if_neg (by rcases c01 with z | z <;> rw [z] <;> decide)]
    rw [q, Option.bind_some, if_pos c, if_pos rfl]
    exact own_495 hZ nx
  · have c23 : v4 = 2 ∨ v4 = 3 := by
      rcases c4 with q | q | q | q
      · rw [q] at c; exact absurd (by decide) c
      · rw [q] at c; exact absurd (by decide) c
      · exact Or.inl q
      · exact Or.inr q
    have nz : ¬ v4 = 0 := by rcases c23 with q | q <;> rw [q] <;> decide
    obtain ⟨T, X⟩ := hT nz
    obtain ⟨O, hv⟩ := h23 c23
    obtain ⟨y, ey, y1, y2⟩ := own_app hI T O (by rw [e4]; exact c23)
    have ep : Int32.ofNat v6.toInt.toNat = v6 := Int32.toInt_inj.mp (by rw [own_n2i (by omega)]; omega)
    rw [ep] at ey
    rw [ey, Option.bind_some, if_neg c, if_pos rfl]
    refine own_495 ?_ nx
    have hIU := own_UI (l := v6) hI y1
    refine ⟨?_, ?_, ?_, ?_, Or.inr (Or.inr (Or.inr rfl)), fun z => absurd z (by decide), ?_, ?_, ?_, ?_, ?_, ?_⟩
    · unfold own_I own_L1 own_UU at *
      simp only [own_Qa] at hIU ⊢; exact hIU
    · simp only [own_Qa]
    · unfold own_UU; simp only [own_Qa]; exact e5
    · unfold own_UU; simp only [own_Qa]; exact e6
    · intro _
      unfold own_T own_bl own_X own_fl own_UU at *
      simp only [own_Qa]
      exact ⟨T, X⟩
    · intro z; rcases z with z | z <;> exact absurd z (by decide)
    · intro _
      refine ⟨?_, by unfold own_UU; simp only [own_Qa]; exact hv⟩
      unfold own_O own_OP own_op own_kd own_vl own_UU at *
      simp only [own_Qa]
      exact O
    · rw [if_pos rfl]; unfold own_UU; simp only [own_Qa]
    · unfold own_UU; simp only [own_Qa]; exact lB
    · unfold own_UU; simp only [own_Qa]; exact lT
theorem own_opR {go_ : Q → List Int32 → Int32 → Int32 → Int32 → Int32 → Int32 → Int32 → Int32 → Int32 → Option (Q ⊕ (Q ⊕ (Q ⊕ (Q ⊕ (Q ⊕ (Q ⊕ (Q ⊕ (Q ⊕ (Q ⊕ (Q ⊕ (Q ⊕ (Q))))))))))))} {s : Q} {scr : List Int32} {B v4 v5 v6 v7 v8 v9 v10 : Int32} (hZ : own_Z B v4 v5 v6 v7 v8 v9 s) (nx : ∀ (x : Q) (v4 v5 v6 v7 v8 v9 : Int32), own_Z B v4 v5 v6 v7 v8 v9 x → own_ok (go_ x scr B v4 v5 v6 v7 v8 v9 (v10 + 3)) own_fin) : own_ok ((j_reset s).bind fun p354 => (law_b495 go_ p354 scr B 0 0 0 0 (-1) (-1) v10)) own_fin := by
  obtain ⟨hI, _⟩ := hZ
  obtain ⟨⟨z1, z2, z3, z4, z5, z6, z7, z8, z9, z10, z11⟩, hB, hb2, nn, tt⟩ := hI
  unfold j_reset
  rw [Option.bind_some]
  refine own_495 ?_ nx
  refine ⟨?_, ?_, ?_, ?_, Or.inl rfl, ?_, fun z => absurd rfl z, ?_, ?_, ?_, ?_, ?_⟩
  · unfold own_I own_L1
    simp only [own_Qa]
    exact ⟨⟨z1, z2, z3, z4, z5, z6, z7, z8, z9, z10, z11⟩, hB, hb2, ⟨by decide, by decide⟩, ⟨by decide, by decide⟩⟩
  · simp only [own_Qa]
  · simp only [own_Qa]
  · simp only [own_Qa]
  · intro _; simp only [own_Qa]
  · intro _; simp only [own_Qa]; exact ⟨trivial, trivial⟩
  · intro z; rcases z with z | z <;> exact absurd z (by decide)
  · rw [if_neg (by decide)]; simp only [own_Qa]
  · intro z; exact absurd z (by decide)
  · intro z; exact absurd z (by decide)
theorem own_loop (scr : List Int32) (hl : scr.length ≤ 260) {B : Int32} (hB : 2 ≤ B.toInt) : ∀ (n : Nat) (s : Q) (v4 v5 v6 v7 v8 v9 v10 : Int32), own_Z B v4 v5 v6 v7 v8 v9 s → 0 ≤ v10.toInt → v10.toInt ≤ 264 → 264 - v10.toInt < n → own_ok (law_l65 n s scr B v4 v5 v6 v7 v8 v9 v10) own_fin := by
  intro n
  induction n with
  | zero => intro s v4 v5 v6 v7 v8 v9 v10 _ h0 h1 h2; omega
  | succ n ih =>
    intro s v4 v5 v6 v7 v8 v9 v10 hZ h0 h1 hn
    have eL : (Nat.toInt32 scr.length).toInt = scr.length := own_n2i (by omega)
    have e1 : (v10 + 1).toInt = v10.toInt + 1 := by rw [own_add] <;> simp only [Int32.reduceToInt] <;> omega
    have e2 : (v10 + 2).toInt = v10.toInt + 2 := by rw [own_add] <;> simp only [Int32.reduceToInt] <;> omega
    have e3 : (v10 + 3).toInt = v10.toInt + 3 := by rw [own_add] <;> simp only [Int32.reduceToInt] <;> omega
    rw [law_l65]
    by_cases c : v10 + 2 < Nat.toInt32 scr.length
    · rw [if_pos c]
      rw [lt32, e2, eL] at c
      have i0 : inb scr.length v10 = true := inb_iff.mpr (by omega)
      have i1 : inb scr.length (v10 + 1) = true := inb_iff.mpr (by omega)
      have i2 : inb scr.length (v10 + 2) = true := inb_iff.mpr (by omega)
      rw [if_pos i0, if_pos i1, if_pos i2]
      have nx : ∀ (x : Q) (v4 v5 v6 v7 v8 v9 : Int32), own_Z B v4 v5 v6 v7 v8 v9 x → own_ok (law_l65 n x scr B v4 v5 v6 v7 v8 v9 (v10 + 3)) own_fin := fun x v4 v5 v6 v7 v8 v9 hx => ih x v4 v5 v6 v7 v8 v9 (v10 + 3) hx (by omega) (by omega) (by omega)
      have m5 := own_n5 (rd scr (v10 + 2))
      generalize (rd scr (v10 + 2) &&& 7) % 5 = k at *
      generalize rd scr v10 &&& 7 = op
      by_cases o1 : 1 < op
      · rw [if_pos o1]
        by_cases o3 : 3 < op
        · rw [if_pos o3]
          by_cases o4 : op = 4
          · rw [if_pos o4]; exact own_opS hZ nx
          · rw [if_neg o4]
            by_cases o5 : op = 5
            · rw [if_pos o5]; exact own_opE hZ nx
            · rw [if_neg o5]
              by_cases o6 : op = 6
              · rw [if_pos o6]; exact own_opA hZ nx
              · rw [if_neg o6]; exact own_opR hZ nx
        · rw [if_neg o3]; exact own_opT hZ nx _ _ m5.1 m5.2
      · rw [if_neg o1]; exact own_opB hZ nx _ _ m5.1 m5.2
    · rw [if_neg c]
      exact ⟨_, rfl, _, rfl⟩
def own_cb (w : Int32) : Int32 := if w < 2 then 2 else if 32 < w then 32 else w
theorem own_cbb (w : Int32) : 2 ≤ (own_cb w).toInt ∧ (own_cb w).toInt ≤ 32 := by
  unfold own_cb
  by_cases a : w < 2
  · rw [if_pos a]; decide
  · rw [if_neg a]
    rw [lt32] at a
    simp only [Int32.reduceToInt] at a
    by_cases b : 32 < w
    · rw [if_pos b]; decide
    · rw [if_neg b]
      rw [lt32] at b
      simp only [Int32.reduceToInt] at b
      omega
theorem own_start (w : Int32) : own_ok (j_init w) (fun s => own_Z (own_cb w) 0 0 0 0 (-1) (-1) s) := by
  have e : (if 32 < (if w < 2 then 2 else w) then 32 else (if w < 2 then 2 else w)) = own_cb w := by
    unfold own_cb
    by_cases a : w < 2
    · rw [if_pos a, if_pos a, if_neg (by decide)]
    · rw [if_neg a, if_neg a]
  unfold j_init j_init_b103 j_init_b112 j_init_b121
  rw [e]
  have cb := own_cbb w
  generalize own_cb w = B at *
  unfold j_reset
  rw [Option.bind_some]
  refine ⟨_, rfl, ?_⟩
  refine ⟨?_, ?_, ?_, ?_, Or.inl rfl, ?_, fun z => absurd rfl z, ?_, ?_, ?_, ?_, ?_⟩
  · unfold own_I own_L1
    simp only [own_Qa, List.length_replicate, -List.reduceReplicate]
    exact ⟨by simp, trivial, cb, ⟨by decide, by decide⟩, ⟨by decide, by decide⟩⟩
  · simp only [own_Qa]
  · simp only [own_Qa]
  · simp only [own_Qa]
  · intro _; simp only [own_Qa]
  · intro _; simp only [own_Qa]; exact ⟨trivial, trivial⟩
  · intro z; rcases z with z | z <;> exact absurd z (by decide)
  · rw [if_neg (by decide)]; simp only [own_Qa]
  · intro z; exact absurd z (by decide)
  · intro z; exact absurd z (by decide)
theorem own_law (scr : List Int32) (hl : scr.length ≤ 260) : (law scr).map (·.1) = some 1 := by
  have go : ∀ w : Int32, (law_b12 scr w).map (·.1) = some 1 := by
    intro w
    obtain ⟨s, e, hz⟩ := own_start w
    obtain ⟨r, er, q, eq⟩ := own_loop scr hl (own_cbb w).1 3000 s 0 0 0 0 (-1) (-1) 1 hz (by decide) (by decide) (by decide)
    subst eq
    unfold law_b12 law_b34
    have ew : (if w < 2 then (2 : Int32) else (if 32 < w then 32 else w)) = own_cb w := rfl
    rw [e, ew]
    simp only [Option.bind_some, er, Sum.elim_inr, Option.map_some]
  have eL : (Nat.toInt32 scr.length).toInt = scr.length := own_n2i (by omega)
  unfold law
  by_cases c : 0 < Nat.toInt32 scr.length
  · rw [if_pos c]
    rw [lt32, eL] at c
    simp only [Int32.reduceToInt] at c
    rw [if_pos (inb_iff.mpr (by simp only [Int32.reduceToInt]; omega))]
    exact go _
  · rw [if_neg c]
    exact go _


theorem fit_of {s : State} (hF : heapFits s = true) : Fit s := fun {y c} hc i hi => by
  obtain ⟨ha, rfl⟩ := Array.getElem?_eq_some_iff.mp hc
  have q := List.all_eq_true.mp ((Array.all_eq_true_iff_forall_mem.mp hF) _ (Array.getElem_mem ha)) i (List.mem_range.mpr hi)
  simpa [Array.getElem?_eq_getElem hi] using q
set_option maxRecDepth 65536 in
set_option maxHeartbeats 4000000 in
theorem comes_1 {Post : Tables → Env → Array Value → State → Outcome → State → Prop} (hpost : ∀ tb e args s v u, (limb_1_1.after args s (.returned v) u = true ∧ limb_1_2.after args s (.returned v) u = true ∧ True) → FrameEnd s (.returned v) u (Jvm.fieldLocs frame_1_writes args s ++ Jvm.arrayLocs frame_1_arrays args s ++ Jvm.staticLocs frame_1_statics s) 32 4736 → Post tb e args s (.returned v) u) :
    ArmFor flags0 classFile x code maxLocals ret World_1 tables_1 room_1 Calls_1 rest_1 Pre_1 Post := by
  intro l hfl _ _ p e ha hc hk s m args below hf hA hF happ hP
  obtain ⟨hcalls, hrest, hpre⟩ := hP
  obtain ⟨-, -, -, hnamed, -, -, -, hat⟩ := (Spec.applies_iff hf).mp happ
  obtain ⟨hg, hn⟩ := and_e (Cond.before_iff.mp (show (Jvm.Cond.and given_1 narrow_1).before args s = true from hpre))
  obtain ⟨hcnt, h0⟩ := and_e hg
  obtain ⟨w0, rfl⟩ : ∃ w0 : Value, args = #[w0] := by
    have hs : args.size = 1 := by simpa [Cond.value, given_1] using hcnt
    obtain ⟨L⟩ := args
    match L, hs with
    | [w0], _ => exact ⟨w0, rfl⟩
  have hw := fun d (hd : d ∈ tables_1) => atoms_spec (ws := Jvm.Cond.code x code maxLocals ret :: tables_1) hat d (List.mem_cons_of_mem _ hd)
  obtain ⟨hy1, hy2⟩ := and_e hn
  obtain ⟨a, rfl⟩ : ∃ a, w0 = .ref a := by
    cases w0 <;> first | exact ⟨_, rfl⟩ | (exfalso; simp [Cond.value, Term.eval] at hy1)
  obtain ⟨cl, A⟩ := Arr.start (Z := s) (ty := .int) (show (Term.arg 0).eval #[Value.ref a] s none [] s = some (.ref a) from rfl) hy1
  have hlen : (cl.slots.toList.map intOf).length ≤ 260 := by
    have q := A.fin (Vm.Alike.refl _)
    by_cases hz : cl.slots.size < 2 ^ 31
    · simp only [Cond.value, Term.eval, List.getElem?_toArray, List.getElem?_cons_zero, Option.bind_eq_bind, Option.bind_some, q, hz, if_true, Option.pure_def] at hy2
      have q2 := Int32.le_iff_toInt_le.mp (by simpa using hy2)
      rw [len_toInt hz] at q2
      simp only [List.length_map, Array.length_toList]
      have q3 : (260 : Int32).toInt = 260 := rfl
      omega
    · simp [Cond.value, Term.eval, q, hz] at hy2
  have hL := own_law (cl.slots.toList.map intOf) hlen
  obtain ⟨res, hres, hr1⟩ := Option.map_eq_some_iff.mp hL
  obtain ⟨n, hrun⟩ := ev_law (cl.slots.toList.map intOf) hres rfl
  have hr1' : res.1 = 1 := hr1
  rw [hr1'] at hrun
  have hcap := run_cap hrun
  have hcC : own_P.capC = 33 := rfl
  have hcS : own_P.capS = 4736 := rfl
  rw [hcC, hcS] at hcap
  have hc1 : (W0 (cl.slots.toList.map intOf) []).length = 1 := rfl
  have hc2 : hsz own_P (W0 (cl.slots.toList.map intOf) []) = 0 := rfl
  have hM := metOf (sound (own_good hw) n) (k := 0) (as := [.ref 0]) (H := (W0 (cl.slots.toList.map intOf) [])) hrun (l := l) (wsC := tables_1) (rm := room_1) own_pn0 rfl (fun h => nomatch h) (by decide) (by decide) (by show _ ≤ 32; omega) (by show _ ≤ 4736; omega) (am := [a]) (ws := [.ref a]) (h := s.heap) (n0 := s.heap.size) ⟨_, _, rfl, ⟨a, rfl, rfl⟩, rfl⟩ (Nat.le_of_ble_eq_true rfl) (script_start rfl (fit_of hF) A) (Nat.le_refl _)
  obtain ⟨n, o, h1, h2, h3, w, L, rfl, ⟨N, -, am', -, -, hv⟩, hq⟩ := hM p e ha hc hk s m _ below hf ((Spec.applies_iff_loose hf).mp happ).1 ⟨rfl, State.Warmed39.refl s, rfl⟩ trivial
  obtain ⟨y, rfl, rfl⟩ := hv
  exact ⟨n, _, h1, h2, h3, hpost _ _ _ _ _ _ ⟨Cond.after_iff.mpr rfl, Cond.after_iff.mpr (eq_i res_at (Term.int_eval (1)) rfl), trivial⟩ ⟨hq.1, hq.2.1, (hq.2.2.sift fun y hy => Or.inr (N y hy)).mono (by omega) (by omega)⟩⟩
theorem main_1_1 : Claimed_1_1 := comes_1 fun _ _ _ _ _ _ h hF => ⟨h.1, hF⟩
theorem main_1_2 : Claimed_1_2 := comes_1 fun _ _ _ _ _ _ h hF => ⟨h.2.1, hF⟩
end Jvm.Pilot.@@N@@
namespace Jvm.Pilot.@@N@@
open Jvm Jvm.ClassFile Sem Op Lib Jvm.Free Jvm.Stand Jvm.Pilot.@@N@@.Jvm.D
/-! MADE BY PROGRAM (witnessworld.py) out of the Statement's table words and the real class files: 11 classes; the members and pool entries that the words name. The judged class is class 1, her method 1. -/
namespace start1
open Jvm.ClassFile
def u (s : String) : CpInfo := .utf8 (stringToUtf16 s)
/-- a pool by its gaps: so many unusable entries, then the entry; so many at the end -/
def gap : Nat → List CpInfo → List CpInfo
  | 0, r => r
  | n + 1, r => .unusable :: gap n r
def poolList (es : List (Nat × CpInfo)) (last : Nat) : List CpInfo := es.foldr (fun e r => gap e.1 (e.2 :: r)) (gap last [])
def pool (es : List (Nat × CpInfo)) (last : Nat) : Array CpInfo := ⟨poolList es last⟩
def fileOf (pool : Array CpInfo) (this : Nat) (attrs : Array Attribute := #[]) (ms : Array MethodInfo := #[]) (fl : Nat := 33) (sup : Nat := 0) (ifs : Array Nat := #[]) (fds : Array FieldInfo := #[]) : ClassFile where
  minorVersion := 0
  majorVersion := 65
  constantPool := pool
  accessFlags := fl
  thisClass := this
  superClass := sup
  interfaces := ifs
  fields := fds
  methods := ms
  attributes := attrs
def plain (name : String) (sup : Option ClassId) : Class where
  name := name
  kind := .ordinary
  loader := none
  accessFlags := 33
  super := sup
  interfaces := #[]
  cf := none
  fields := #[]
  methods := #[]
  instanceTypes := #[]
  staticTypes := #[]
  resolved := #[]
  callSites := []
  init := .initialized
  statics := none
  mirror := none

def pool0 : Array CpInfo := pool [(5, u "<init>"), (0, u "()V"), (1, .class_ 10), (1, u "java/lang/Object")] 113

def k0c0 : Code := { maxStack := 0, maxLocals := 1, code := object_method_1_code, exceptionTable := #[], attributes := #[] }
def k0m0 : Method := { name := "<init>", desc := "()V", sig := { parameters := [], returnType := none }, accessFlags := 1, code := some k0c0 }
/-- java/lang/Object -/
def k0 : Class := { plain "java/lang/Object" none with
  accessFlags := 33
  interfaces := #[]
  cf := some (fileOf pool0 8 #[] #[{ accessFlags := 1, nameIndex := 5, descriptorIndex := 6, attributes := #[] }] 33 0 #[] #[])
  fields := #[]
  methods := #[k0m0]
  instanceTypes := #[]
  staticTypes := #[]
  resolved := Array.replicate 124 none
  statics := none }

def pool1 : Array CpInfo := pool [(2, .class_ 4), (1, u "java/lang/Object"), (0, u "<init>"), (0, u "()V"), (0, .class_ 8), (0, u "RemoteDelta"), (0, .methodref 7 10), (0, .nameAndType 5 11), (0, u "(I)V"), (0, .methodref 7 13), (0, .nameAndType 14 15), (0, u "appendBasis"), (0, u "(II)I"), (0, .methodref 7 17), (0, .nameAndType 18 15), (0, u "appendTarget"), (0, .methodref 7 20), (0, .nameAndType 21 22), (0, u "sign"), (0, u "()I"), (0, .methodref 7 24), (0, .nameAndType 25 22), (0, u "encode"), (0, .methodref 7 27), (0, .nameAndType 28 22), (0, u "apply"), (0, .methodref 7 30), (0, .nameAndType 31 6), (0, u "reset"), (0, .methodref 33 34), (0, .class_ 35), (0, .nameAndType 36 37), (0, u "RemoteDeltaL6"), (0, u "agree"), (0, u "(LRemoteDelta;IIIIIII)Z"), (0, .methodref 7 39), (0, .nameAndType 40 22), (0, u "phase"), (0, .methodref 7 42), (0, .nameAndType 43 44), (0, u "length"), (0, u "(I)I"), (0, .methodref 7 46), (0, .nameAndType 47 22), (0, u "blockCount"), (0, .methodref 7 49), (0, .nameAndType 50 44), (0, u "blockLength"), (0, .methodref 7 52), (0, .nameAndType 53 22), (0, u "opCount"), (0, .methodref 7 55), (0, .nameAndType 56 15), (0, u "byteAt"), (0, .methodref 7 58), (0, .nameAndType 59 44), (0, u "opKind"), (0, .methodref 7 61), (0, .nameAndType 62 44), (0, u "opValue"), (2, u "law"), (0, u "([I)Z")] 5

def k1m0 : Method := { name := "<init>", desc := "()V", sig := { parameters := [], returnType := none }, accessFlags := 1, code := none }
def k1c1 : Code := { maxStack := 8, maxLocals := 16, code := code, exceptionTable := #[], attributes := #[] }
def k1m1 : Method := { name := "law", desc := "([I)Z", sig := { parameters := [(.array .int)], returnType := some .boolean }, accessFlags := 9, code := some k1c1 }
def k1c2 : Code := { maxStack := 4, maxLocals := 15, code := method_3_code, exceptionTable := #[], attributes := #[] }
def k1m2 : Method := { name := "agree", desc := "(LRemoteDelta;IIIIIII)Z", sig := { parameters := [(.object "RemoteDelta"), .int, .int, .int, .int, .int, .int, .int], returnType := some .boolean }, accessFlags := 10, code := some k1c2 }
/-- RemoteDeltaL6 -/
def k1 : Class := { plain "RemoteDeltaL6" (some 0) with
  accessFlags := 33
  interfaces := #[]
  cf := some (fileOf pool1 33 #[] #[{ accessFlags := 1, nameIndex := 5, descriptorIndex := 6, attributes := #[] }, { accessFlags := 9, nameIndex := 65, descriptorIndex := 66, attributes := #[] }, { accessFlags := 10, nameIndex := 36, descriptorIndex := 37, attributes := #[] }] 33 2 #[] #[])
  fields := #[]
  methods := #[k1m0, k1m1, k1m2]
  instanceTypes := #[]
  staticTypes := #[]
  resolved := Array.replicate 72 none
  statics := none }

def pool2 : Array CpInfo := pool [(1, .methodref 2 3), (0, .class_ 4), (0, .nameAndType 5 6), (0, u "java/lang/Object"), (0, u "<init>"), (0, u "()V"), (0, .fieldref 8 9), (0, .class_ 10), (0, .nameAndType 11 12), (0, u "RemoteDelta"), (0, u "basis"), (0, u "[I"), (0, .fieldref 8 14), (0, .nameAndType 15 12), (0, u "target"), (0, .fieldref 8 17), (0, .nameAndType 18 12), (0, u "literal"), (0, .fieldref 8 20), (0, .nameAndType 21 12), (0, u "out"), (0, .fieldref 8 23), (0, .nameAndType 24 12), (0, u "blkLen"), (0, .fieldref 8 26), (0, .nameAndType 27 12), (0, u "blkWeak"), (0, .fieldref 8 29), (0, .nameAndType 30 31), (0, u "blkStrong"), (0, u "[J"), (0, .fieldref 8 33), (0, .nameAndType 34 12), (0, u "head"), (0, .fieldref 8 36), (0, .nameAndType 37 12), (0, u "next"), (0, .fieldref 8 39), (0, .nameAndType 40 12), (0, u "kinds"), (0, .fieldref 8 42), (0, .nameAndType 43 12), (0, u "values"), (0, .fieldref 8 45), (0, .nameAndType 46 47), (0, u "blockSize"), (0, u "I"), (0, .methodref 8 49), (0, .nameAndType 50 6), (0, u "reset"), (0, .fieldref 8 52), (0, .nameAndType 53 47), (0, u "basisLen"), (0, .fieldref 8 55), (0, .nameAndType 56 47), (0, u "targetLen"), (0, .fieldref 8 58), (0, .nameAndType 59 47), (0, u "literalLen"), (0, .fieldref 8 61), (0, .nameAndType 62 47), (0, u "outLen"), (0, .fieldref 8 64), (0, .nameAndType 65 47), (0, u "blocks"), (0, .fieldref 8 67), (0, .nameAndType 68 47), (0, u "ops"), (0, .fieldref 8 70), (0, .nameAndType 71 47), (0, u "shortBlock"), (0, .fieldref 8 73), (0, .nameAndType 74 47), (0, u "winPos"), (0, .fieldref 8 76), (0, .nameAndType 77 47), (0, u "winA"), (0, .fieldref 8 79), (0, .nameAndType 80 47), (0, u "winB"), (0, .fieldref 8 82), (0, .nameAndType 83 47), (0, u "phaseNow"), (0, .methodref 8 85), (0, .nameAndType 86 87), (0, u "weakOfBasis"), (0, u "(II)I"), (0, .methodref 8 89), (0, .nameAndType 90 91), (0, u "strongOfBasis"), (0, u "(II)J"), (0, .methodref 8 93), (0, .nameAndType 94 6), (0, u "buildIndex"), (0, .methodref 8 96), (0, .nameAndType 97 98), (0, u "findMatch"), (0, u "(I)I"), (0, .methodref 8 100), (0, .nameAndType 101 102), (0, u "addOp"), (0, u "(II)V"), (0, .methodref 8 104), (0, .nameAndType 105 106), (0, u "addLiteral"), (0, u "(I)V"), (0, .methodref 8 108), (0, .nameAndType 109 106), (0, u "appendBlockToOut"), (0, .methodref 8 111), (0, .nameAndType 112 87), (0, u "appendLiteralToOut"), (0, .methodref 8 114), (0, .nameAndType 115 98), (0, u "length"), (0, .integer 65535), (0, .methodref 8 118), (0, .nameAndType 119 87), (0, u "packWeak"), (0, .long 14695981039346656037), (1, .long 1099511628211), (1, .methodref 8 125), (0, .nameAndType 126 98), (0, u "bucketOf"), (0, .methodref 8 128), (0, .nameAndType 129 98), (0, u "findFullMatch"), (0, .methodref 8 131), (0, .nameAndType 132 133), (0, u "sameBytes"), (0, u "(III)Z"), (0, .methodref 8 135), (0, .nameAndType 136 106), (0, u "ensureWindow"), (0, .methodref 8 138), (0, .nameAndType 139 91), (0, u "strongOfTarget"), (0, .methodref 8 141), (0, .nameAndType 142 106), (0, u "recomputeWindow"), (0, u "REFUSED"), (2, u "PHASE_LOADING"), (1, u "PHASE_SIGNED"), (1, u "PHASE_ENCODED"), (1, u "PHASE_APPLIED"), (1, u "OP_NONE"), (0, u "OP_COPY"), (0, u "OP_LITERAL"), (0, u "BUF_BASIS"), (0, u "BUF_TARGET"), (0, u "BUF_LITERAL"), (0, u "BUF_OUT"), (0, u "MAX_FILE"), (4, u "appendBasis"), (0, u "appendTarget"), (0, u "sign"), (0, u "()I"), (0, u "encode"), (0, u "apply"), (0, u "phase"), (0, u "blockCount"), (0, u "blockLength"), (3, u "byteAt"), (0, u "opCount"), (0, u "opKind"), (0, u "opValue")] 2

def k2c0 : Code := { maxStack := 2, maxLocals := 3, code := prog_1_method_1_code, exceptionTable := #[], attributes := #[] }
def k2m0 : Method := { name := "<init>", desc := "(I)V", sig := { parameters := [.int], returnType := none }, accessFlags := 1, code := some k2c0 }
def k2c1 : Code := { maxStack := 2, maxLocals := 1, code := prog_1_method_2_code, exceptionTable := #[], attributes := #[] }
def k2m1 : Method := { name := "reset", desc := "()V", sig := { parameters := [], returnType := none }, accessFlags := 1, code := some k2c1 }
def k2c2 : Code := { maxStack := 5, maxLocals := 4, code := prog_1_method_3_code, exceptionTable := #[], attributes := #[] }
def k2m2 : Method := { name := "appendBasis", desc := "(II)I", sig := { parameters := [.int, .int], returnType := some .int }, accessFlags := 1, code := some k2c2 }
def k2c3 : Code := { maxStack := 5, maxLocals := 4, code := prog_1_method_4_code, exceptionTable := #[], attributes := #[] }
def k2m3 : Method := { name := "appendTarget", desc := "(II)I", sig := { parameters := [.int, .int], returnType := some .int }, accessFlags := 1, code := some k2c3 }
def k2c4 : Code := { maxStack := 5, maxLocals := 5, code := prog_1_method_5_code, exceptionTable := #[], attributes := #[] }
def k2m4 : Method := { name := "sign", desc := "()I", sig := { parameters := [], returnType := some .int }, accessFlags := 1, code := some k2c4 }
def k2c5 : Code := { maxStack := 3, maxLocals := 4, code := prog_1_method_6_code, exceptionTable := #[], attributes := #[] }
def k2m5 : Method := { name := "encode", desc := "()I", sig := { parameters := [], returnType := some .int }, accessFlags := 1, code := some k2c5 }
def k2c6 : Code := { maxStack := 4, maxLocals := 3, code := prog_1_method_7_code, exceptionTable := #[], attributes := #[] }
def k2m6 : Method := { name := "apply", desc := "()I", sig := { parameters := [], returnType := some .int }, accessFlags := 1, code := some k2c6 }
def k2c7 : Code := { maxStack := 1, maxLocals := 1, code := prog_1_method_8_code, exceptionTable := #[], attributes := #[] }
def k2m7 : Method := { name := "phase", desc := "()I", sig := { parameters := [], returnType := some .int }, accessFlags := 1, code := some k2c7 }
def k2c8 : Code := { maxStack := 1, maxLocals := 1, code := prog_1_method_9_code, exceptionTable := #[], attributes := #[] }
def k2m8 : Method := { name := "blockCount", desc := "()I", sig := { parameters := [], returnType := some .int }, accessFlags := 1, code := some k2c8 }
def k2c9 : Code := { maxStack := 2, maxLocals := 2, code := prog_1_method_10_code, exceptionTable := #[], attributes := #[] }
def k2m9 : Method := { name := "blockLength", desc := "(I)I", sig := { parameters := [.int], returnType := some .int }, accessFlags := 1, code := some k2c9 }
def k2c10 : Code := { maxStack := 2, maxLocals := 2, code := prog_1_method_13_code, exceptionTable := #[], attributes := #[] }
def k2m10 : Method := { name := "length", desc := "(I)I", sig := { parameters := [.int], returnType := some .int }, accessFlags := 1, code := some k2c10 }
def k2c11 : Code := { maxStack := 2, maxLocals := 4, code := prog_1_method_14_code, exceptionTable := #[], attributes := #[] }
def k2m11 : Method := { name := "byteAt", desc := "(II)I", sig := { parameters := [.int, .int], returnType := some .int }, accessFlags := 1, code := some k2c11 }
def k2c12 : Code := { maxStack := 1, maxLocals := 1, code := prog_1_method_15_code, exceptionTable := #[], attributes := #[] }
def k2m12 : Method := { name := "opCount", desc := "()I", sig := { parameters := [], returnType := some .int }, accessFlags := 1, code := some k2c12 }
def k2c13 : Code := { maxStack := 2, maxLocals := 2, code := prog_1_method_16_code, exceptionTable := #[], attributes := #[] }
def k2m13 : Method := { name := "opKind", desc := "(I)I", sig := { parameters := [.int], returnType := some .int }, accessFlags := 1, code := some k2c13 }
def k2c14 : Code := { maxStack := 2, maxLocals := 2, code := prog_1_method_17_code, exceptionTable := #[], attributes := #[] }
def k2m14 : Method := { name := "opValue", desc := "(I)I", sig := { parameters := [.int], returnType := some .int }, accessFlags := 1, code := some k2c14 }
def k2c15 : Code := { maxStack := 3, maxLocals := 3, code := prog_1_method_18_code, exceptionTable := #[], attributes := #[] }
def k2m15 : Method := { name := "packWeak", desc := "(II)I", sig := { parameters := [.int, .int], returnType := some .int }, accessFlags := 2, code := some k2c15 }
def k2c16 : Code := { maxStack := 3, maxLocals := 8, code := prog_1_method_19_code, exceptionTable := #[], attributes := #[] }
def k2m16 : Method := { name := "weakOfBasis", desc := "(II)I", sig := { parameters := [.int, .int], returnType := some .int }, accessFlags := 2, code := some k2c16 }
def k2c17 : Code := { maxStack := 4, maxLocals := 7, code := prog_1_method_20_code, exceptionTable := #[], attributes := #[] }
def k2m17 : Method := { name := "strongOfBasis", desc := "(II)J", sig := { parameters := [.int, .int], returnType := some .long }, accessFlags := 2, code := some k2c17 }
def k2c18 : Code := { maxStack := 4, maxLocals := 7, code := prog_1_method_21_code, exceptionTable := #[], attributes := #[] }
def k2m18 : Method := { name := "strongOfTarget", desc := "(II)J", sig := { parameters := [.int, .int], returnType := some .long }, accessFlags := 2, code := some k2c18 }
def k2c19 : Code := { maxStack := 3, maxLocals := 3, code := prog_1_method_22_code, exceptionTable := #[], attributes := #[] }
def k2m19 : Method := { name := "bucketOf", desc := "(I)I", sig := { parameters := [.int], returnType := some .int }, accessFlags := 2, code := some k2c19 }
def k2c20 : Code := { maxStack := 4, maxLocals := 3, code := prog_1_method_23_code, exceptionTable := #[], attributes := #[] }
def k2m20 : Method := { name := "buildIndex", desc := "()V", sig := { parameters := [], returnType := none }, accessFlags := 2, code := some k2c20 }
def k2c21 : Code := { maxStack := 4, maxLocals := 4, code := prog_1_method_24_code, exceptionTable := #[], attributes := #[] }
def k2m21 : Method := { name := "findMatch", desc := "(I)I", sig := { parameters := [.int], returnType := some .int }, accessFlags := 2, code := some k2c21 }
def k2c22 : Code := { maxStack := 4, maxLocals := 8, code := prog_1_method_25_code, exceptionTable := #[], attributes := #[] }
def k2m22 : Method := { name := "findFullMatch", desc := "(I)I", sig := { parameters := [.int], returnType := some .int }, accessFlags := 2, code := some k2c22 }
def k2c23 : Code := { maxStack := 4, maxLocals := 6, code := prog_1_method_26_code, exceptionTable := #[], attributes := #[] }
def k2m23 : Method := { name := "ensureWindow", desc := "(I)V", sig := { parameters := [.int], returnType := none }, accessFlags := 2, code := some k2c23 }
def k2c24 : Code := { maxStack := 3, maxLocals := 8, code := prog_1_method_27_code, exceptionTable := #[], attributes := #[] }
def k2m24 : Method := { name := "recomputeWindow", desc := "(I)V", sig := { parameters := [.int], returnType := none }, accessFlags := 2, code := some k2c24 }
def k2c25 : Code := { maxStack := 3, maxLocals := 7, code := prog_1_method_28_code, exceptionTable := #[], attributes := #[] }
def k2m25 : Method := { name := "sameBytes", desc := "(III)Z", sig := { parameters := [.int, .int, .int], returnType := some .boolean }, accessFlags := 2, code := some k2c25 }
def k2c26 : Code := { maxStack := 3, maxLocals := 3, code := prog_1_method_29_code, exceptionTable := #[], attributes := #[] }
def k2m26 : Method := { name := "addOp", desc := "(II)V", sig := { parameters := [.int, .int], returnType := none }, accessFlags := 2, code := some k2c26 }
def k2c27 : Code := { maxStack := 4, maxLocals := 2, code := prog_1_method_30_code, exceptionTable := #[], attributes := #[] }
def k2m27 : Method := { name := "addLiteral", desc := "(I)V", sig := { parameters := [.int], returnType := none }, accessFlags := 2, code := some k2c27 }
def k2c28 : Code := { maxStack := 4, maxLocals := 6, code := prog_1_method_31_code, exceptionTable := #[], attributes := #[] }
def k2m28 : Method := { name := "appendBlockToOut", desc := "(I)V", sig := { parameters := [.int], returnType := none }, accessFlags := 2, code := some k2c28 }
def k2c29 : Code := { maxStack := 4, maxLocals := 5, code := prog_1_method_32_code, exceptionTable := #[], attributes := #[] }
def k2m29 : Method := { name := "appendLiteralToOut", desc := "(II)I", sig := { parameters := [.int, .int], returnType := some .int }, accessFlags := 2, code := some k2c29 }
/-- RemoteDelta -/
def k2 : Class := { plain "RemoteDelta" (some 0) with
  accessFlags := 49
  interfaces := #[]
  cf := some (fileOf pool2 8 #[] #[{ accessFlags := 1, nameIndex := 5, descriptorIndex := 106, attributes := #[] }, { accessFlags := 1, nameIndex := 50, descriptorIndex := 6, attributes := #[] }, { accessFlags := 1, nameIndex := 166, descriptorIndex := 87, attributes := #[] }, { accessFlags := 1, nameIndex := 167, descriptorIndex := 87, attributes := #[] }, { accessFlags := 1, nameIndex := 168, descriptorIndex := 169, attributes := #[] }, { accessFlags := 1, nameIndex := 170, descriptorIndex := 169, attributes := #[] }, { accessFlags := 1, nameIndex := 171, descriptorIndex := 169, attributes := #[] }, { accessFlags := 1, nameIndex := 172, descriptorIndex := 169, attributes := #[] }, { accessFlags := 1, nameIndex := 173, descriptorIndex := 169, attributes := #[] }, { accessFlags := 1, nameIndex := 174, descriptorIndex := 98, attributes := #[] }, { accessFlags := 1, nameIndex := 115, descriptorIndex := 98, attributes := #[] }, { accessFlags := 1, nameIndex := 178, descriptorIndex := 87, attributes := #[] }, { accessFlags := 1, nameIndex := 179, descriptorIndex := 169, attributes := #[] }, { accessFlags := 1, nameIndex := 180, descriptorIndex := 98, attributes := #[] }, { accessFlags := 1, nameIndex := 181, descriptorIndex := 98, attributes := #[] }, { accessFlags := 2, nameIndex := 119, descriptorIndex := 87, attributes := #[] }, { accessFlags := 2, nameIndex := 86, descriptorIndex := 87, attributes := #[] }, { accessFlags := 2, nameIndex := 90, descriptorIndex := 91, attributes := #[] }, { accessFlags := 2, nameIndex := 139, descriptorIndex := 91, attributes := #[] }, { accessFlags := 2, nameIndex := 126, descriptorIndex := 98, attributes := #[] }, { accessFlags := 2, nameIndex := 94, descriptorIndex := 6, attributes := #[] }, { accessFlags := 2, nameIndex := 97, descriptorIndex := 98, attributes := #[] }, { accessFlags := 2, nameIndex := 129, descriptorIndex := 98, attributes := #[] }, { accessFlags := 2, nameIndex := 136, descriptorIndex := 106, attributes := #[] }, { accessFlags := 2, nameIndex := 142, descriptorIndex := 106, attributes := #[] }, { accessFlags := 2, nameIndex := 132, descriptorIndex := 133, attributes := #[] }, { accessFlags := 2, nameIndex := 101, descriptorIndex := 102, attributes := #[] }, { accessFlags := 2, nameIndex := 105, descriptorIndex := 106, attributes := #[] }, { accessFlags := 2, nameIndex := 109, descriptorIndex := 106, attributes := #[] }, { accessFlags := 2, nameIndex := 112, descriptorIndex := 87, attributes := #[] }] 49 2 #[] #[{ accessFlags := 25, nameIndex := 143, descriptorIndex := 47, attributes := #[] }, { accessFlags := 25, nameIndex := 146, descriptorIndex := 47, attributes := #[] }, { accessFlags := 25, nameIndex := 148, descriptorIndex := 47, attributes := #[] }, { accessFlags := 25, nameIndex := 150, descriptorIndex := 47, attributes := #[] }, { accessFlags := 25, nameIndex := 152, descriptorIndex := 47, attributes := #[] }, { accessFlags := 25, nameIndex := 154, descriptorIndex := 47, attributes := #[] }, { accessFlags := 25, nameIndex := 155, descriptorIndex := 47, attributes := #[] }, { accessFlags := 25, nameIndex := 156, descriptorIndex := 47, attributes := #[] }, { accessFlags := 25, nameIndex := 157, descriptorIndex := 47, attributes := #[] }, { accessFlags := 25, nameIndex := 158, descriptorIndex := 47, attributes := #[] }, { accessFlags := 25, nameIndex := 159, descriptorIndex := 47, attributes := #[] }, { accessFlags := 25, nameIndex := 160, descriptorIndex := 47, attributes := #[] }, { accessFlags := 25, nameIndex := 161, descriptorIndex := 47, attributes := #[] }, { accessFlags := 2, nameIndex := 46, descriptorIndex := 47, attributes := #[] }, { accessFlags := 2, nameIndex := 83, descriptorIndex := 47, attributes := #[] }, { accessFlags := 18, nameIndex := 11, descriptorIndex := 12, attributes := #[] }, { accessFlags := 2, nameIndex := 53, descriptorIndex := 47, attributes := #[] }, { accessFlags := 18, nameIndex := 15, descriptorIndex := 12, attributes := #[] }, { accessFlags := 2, nameIndex := 56, descriptorIndex := 47, attributes := #[] }, { accessFlags := 18, nameIndex := 18, descriptorIndex := 12, attributes := #[] }, { accessFlags := 2, nameIndex := 59, descriptorIndex := 47, attributes := #[] }, { accessFlags := 18, nameIndex := 21, descriptorIndex := 12, attributes := #[] }, { accessFlags := 2, nameIndex := 62, descriptorIndex := 47, attributes := #[] }, { accessFlags := 18, nameIndex := 24, descriptorIndex := 12, attributes := #[] }, { accessFlags := 18, nameIndex := 27, descriptorIndex := 12, attributes := #[] }, { accessFlags := 18, nameIndex := 30, descriptorIndex := 31, attributes := #[] }, { accessFlags := 2, nameIndex := 65, descriptorIndex := 47, attributes := #[] }, { accessFlags := 2, nameIndex := 71, descriptorIndex := 47, attributes := #[] }, { accessFlags := 18, nameIndex := 34, descriptorIndex := 12, attributes := #[] }, { accessFlags := 18, nameIndex := 37, descriptorIndex := 12, attributes := #[] }, { accessFlags := 18, nameIndex := 40, descriptorIndex := 12, attributes := #[] }, { accessFlags := 18, nameIndex := 43, descriptorIndex := 12, attributes := #[] }, { accessFlags := 2, nameIndex := 68, descriptorIndex := 47, attributes := #[] }, { accessFlags := 2, nameIndex := 77, descriptorIndex := 47, attributes := #[] }, { accessFlags := 2, nameIndex := 80, descriptorIndex := 47, attributes := #[] }, { accessFlags := 2, nameIndex := 74, descriptorIndex := 47, attributes := #[] }])
  fields := #[{ name := "REFUSED", type := .int, accessFlags := 25, slot := 0, constantValue := 0 }, { name := "PHASE_LOADING", type := .int, accessFlags := 25, slot := 1, constantValue := 0 }, { name := "PHASE_SIGNED", type := .int, accessFlags := 25, slot := 2, constantValue := 0 }, { name := "PHASE_ENCODED", type := .int, accessFlags := 25, slot := 3, constantValue := 0 }, { name := "PHASE_APPLIED", type := .int, accessFlags := 25, slot := 4, constantValue := 0 }, { name := "OP_NONE", type := .int, accessFlags := 25, slot := 5, constantValue := 0 }, { name := "OP_COPY", type := .int, accessFlags := 25, slot := 6, constantValue := 0 }, { name := "OP_LITERAL", type := .int, accessFlags := 25, slot := 7, constantValue := 0 }, { name := "BUF_BASIS", type := .int, accessFlags := 25, slot := 8, constantValue := 0 }, { name := "BUF_TARGET", type := .int, accessFlags := 25, slot := 9, constantValue := 0 }, { name := "BUF_LITERAL", type := .int, accessFlags := 25, slot := 10, constantValue := 0 }, { name := "BUF_OUT", type := .int, accessFlags := 25, slot := 11, constantValue := 0 }, { name := "MAX_FILE", type := .int, accessFlags := 25, slot := 12, constantValue := 0 }, { name := "blockSize", type := .int, accessFlags := 2, slot := 0, constantValue := 0 }, { name := "phaseNow", type := .int, accessFlags := 2, slot := 1, constantValue := 0 }, { name := "basis", type := (.array .int), accessFlags := 18, slot := 2, constantValue := 0 }, { name := "basisLen", type := .int, accessFlags := 2, slot := 3, constantValue := 0 }, { name := "target", type := (.array .int), accessFlags := 18, slot := 4, constantValue := 0 }, { name := "targetLen", type := .int, accessFlags := 2, slot := 5, constantValue := 0 }, { name := "literal", type := (.array .int), accessFlags := 18, slot := 6, constantValue := 0 }, { name := "literalLen", type := .int, accessFlags := 2, slot := 7, constantValue := 0 }, { name := "out", type := (.array .int), accessFlags := 18, slot := 8, constantValue := 0 }, { name := "outLen", type := .int, accessFlags := 2, slot := 9, constantValue := 0 }, { name := "blkLen", type := (.array .int), accessFlags := 18, slot := 10, constantValue := 0 }, { name := "blkWeak", type := (.array .int), accessFlags := 18, slot := 11, constantValue := 0 }, { name := "blkStrong", type := (.array .long), accessFlags := 18, slot := 12, constantValue := 0 }, { name := "blocks", type := .int, accessFlags := 2, slot := 13, constantValue := 0 }, { name := "shortBlock", type := .int, accessFlags := 2, slot := 14, constantValue := 0 }, { name := "head", type := (.array .int), accessFlags := 18, slot := 15, constantValue := 0 }, { name := "next", type := (.array .int), accessFlags := 18, slot := 16, constantValue := 0 }, { name := "kinds", type := (.array .int), accessFlags := 18, slot := 17, constantValue := 0 }, { name := "values", type := (.array .int), accessFlags := 18, slot := 18, constantValue := 0 }, { name := "ops", type := .int, accessFlags := 2, slot := 19, constantValue := 0 }, { name := "winA", type := .int, accessFlags := 2, slot := 20, constantValue := 0 }, { name := "winB", type := .int, accessFlags := 2, slot := 21, constantValue := 0 }, { name := "winPos", type := .int, accessFlags := 2, slot := 22, constantValue := 0 }]
  methods := #[k2m0, k2m1, k2m2, k2m3, k2m4, k2m5, k2m6, k2m7, k2m8, k2m9, k2m10, k2m11, k2m12, k2m13, k2m14, k2m15, k2m16, k2m17, k2m18, k2m19, k2m20, k2m21, k2m22, k2m23, k2m24, k2m25, k2m26, k2m27, k2m28, k2m29]
  instanceTypes := #[.int, .int, (.array .int), .int, (.array .int), .int, (.array .int), .int, (.array .int), .int, (.array .int), (.array .int), (.array .long), .int, .int, (.array .int), (.array .int), (.array .int), (.array .int), .int, .int, .int, .int]
  staticTypes := #[.int, .int, .int, .int, .int, .int, .int, .int, .int, .int, .int, .int, .int]
  resolved := Array.replicate 184 none
  statics := none }

def pool3 : Array CpInfo := pool [(1, u "java/lang/Cloneable"), (0, .class_ 1), (0, u "java/lang/Object"), (0, .class_ 3)] 3

/-- java/lang/Cloneable -/
def k3 : Class := { plain "java/lang/Cloneable" (some 0) with
  accessFlags := 1537
  interfaces := #[]
  cf := some (fileOf pool3 2 #[] #[] 1537 4 #[] #[])
  fields := #[]
  methods := #[]
  instanceTypes := #[]
  staticTypes := #[]
  resolved := Array.replicate 8 none
  statics := none }

def pool4 : Array CpInfo := pool [(1, u "java/io/Serializable"), (0, .class_ 1), (0, u "java/lang/Object"), (0, .class_ 3)] 3

/-- java/io/Serializable -/
def k4 : Class := { plain "java/io/Serializable" (some 0) with
  accessFlags := 1537
  interfaces := #[]
  cf := some (fileOf pool4 2 #[] #[] 1537 4 #[] #[])
  fields := #[]
  methods := #[]
  instanceTypes := #[]
  staticTypes := #[]
  resolved := Array.replicate 8 none
  statics := none }

/-- the primitive byte -/
def k5 : Class := { plain "byte" none with kind := .primitive 'B', accessFlags := 0x411 }
/-- [B -/
def k6 : Class := { plain "[B" (some 0) with kind := .array 5 .byte, interfaces := #[3, 4], accessFlags := 1041 }

/-- the primitive int -/
def k7 : Class := { plain "int" none with kind := .primitive 'I', accessFlags := 0x411 }
/-- [I -/
def k8 : Class := { plain "[I" (some 0) with kind := .array 7 .int, interfaces := #[3, 4], accessFlags := 1041 }

/-- the primitive long -/
def k9 : Class := { plain "long" none with kind := .primitive 'J', accessFlags := 0x411 }
/-- [J -/
def k10 : Class := { plain "[J" (some 0) with kind := .array 9 .long, interfaces := #[3, 4], accessFlags := 1041 }

def heap : Heap := #[{ cls := 8, slots := #[.int 0], vm := .none }]
def classes : Array Class := #[k0, k1, k2, k3, k4, k5, k6, k7, k8, k9, k10]
def interned : List (Array UInt16 × Addr) := []
def slotsUsed : Nat := 1
def theMethod : MethodId := ⟨1, 1⟩
def args0 : Array Value := #[.ref 0]
def aboutOver (below : List Frame) : State where
  vm := { classes := classes, interned := interned.toArray }
  heap := heap
  slotsUsed := slotsUsed
  threads := #[{ frames := .invoking theMethod args0 :: below }]
def below0 : List Frame := [.native { method := ⟨0, 0⟩, args := #[] }]
def about1 : State := aboutOver below0
def p0 : Program := .bare "" "" ""
def e0 : Env := launch0.env 0 0 0
theorem w_frames : about1.frames = Frame.invoking theMethod args0 :: below0 := rfl
set_option maxRecDepth 65536 in
theorem w_args : argsFit about1.vm theMethod args0 = true := by decide +kernel
set_option maxRecDepth 65536 in
theorem w_heap : heapFits about1 = true := by decide +kernel
set_option maxRecDepth 65536 in
theorem w_runnable : about1.curStatus? = some .runnable := by decide +kernel
set_option maxRecDepth 65536 in
theorem w_alone : about1.alone = true := by decide +kernel
set_option maxRecDepth 65536 in
theorem w_named : about1.methodNamed? x = some theMethod := by decide +kernel
set_option maxRecDepth 65536 in
theorem w_hears : about1.hears theMethod below0 = true := by decide +kernel
set_option maxRecDepth 65536 in
theorem w_ripe : about1.ripe theMethod args0 below0 = true := by decide +kernel
theorem w_running : about1.status = .running := rfl
set_option maxRecDepth 65536 in
theorem w_room : about1.hasRoom e0.platform room_1 = true :=
  launch0.hasRoom_least _ room_1 (by decide +kernel) (by decide +kernel) (by decide +kernel) (by decide +kernel) (by decide +kernel) (by decide +kernel)
theorem allAtoms_all (ts : List Jvm.Cond) (a : Array Jvm.Value) (st : Jvm.State) : (allAtoms ts).before a st = ts.all (fun c => c.before a st) := by
  induction ts with
  | nil => rfl
  | cons c t ih =>
    show (Jvm.Cond.and c (allAtoms t)).before a st = _
    rw [Jvm.Cond.before_and, ih, List.all_cons]
def words1 : List Jvm.Cond := Jvm.Cond.code x code maxLocals ret :: tables_1
/-- a 'code' word, met by the world's own term for the bytes: nothing is compared byte by byte -/
theorem code_word {y : MethodName} {bytes : ByteArray} {mx : Nat} {rt : Option FieldType} {a : Array Value} {s : State} {m : MethodId} {meth : Method} {c : Code} (h1 : s.methodNamed? y = some m) (h2 : s.vm.method? m = some meth) (h3 : meth.code = some c) (h4 : c.code = bytes)
    (h5 : (c.maxLocals == mx && c.exceptionTable.isEmpty && decide (c.maxStack ≤ mostOperands) && decide (meth.sig.returnType = rt) && !meth.locks && decide (parseMethodDescriptor y.desc = some meth.sig)) = true) : (Jvm.Cond.code y bytes mx rt).before a s = true := by
  simp only [Bool.and_eq_true, beq_iff_eq, Bool.not_eq_true', decide_eq_true_eq] at h5
  obtain ⟨⟨⟨⟨⟨g1, g2⟩, g3⟩, g4⟩, g5⟩, g6⟩ := h5
  simp [Cond.before, Cond.holds, Cond.value, h1, h2, h3, h4, g1, g2, g3, g4, g5, g6]
def isCode : Jvm.Cond → Bool
  | .code _ _ _ _ => true
  | _ => false
theorem all_split {L : List Jvm.Cond} {P : Jvm.Cond → Bool} (h1 : L.all (fun c => isCode c || P c) = true) (h2 : ∀ c ∈ L.filter isCode, P c = true) : L.all P = true := by
  refine List.all_eq_true.mpr fun c hc => ?_
  have h := List.all_eq_true.mp h1 c hc
  rcases Bool.eq_false_or_eq_true (isCode c) with hi | hi
  · exact h2 c (List.mem_filter.mpr ⟨hc, hi⟩)
  · simpa [hi] using h
set_option maxRecDepth 65536 in
theorem w_c0 : (Jvm.Cond.code x code maxLocals ret).before args0 about1 = true := code_word (m := ⟨1, 1⟩) (meth := k1m1) (c := k1c1) (by decide +kernel) rfl rfl rfl (by decide +kernel)
set_option maxRecDepth 65536 in
theorem w_c1 : (Jvm.Cond.code ({ cls := "RemoteDelta", name := "<init>", desc := "(I)V" } : Jvm.MethodName) prog_1_method_1_code (3 : Nat) (Option.none : Option Jvm.ClassFile.FieldType)).before args0 about1 = true := code_word (m := ⟨2, 0⟩) (meth := k2m0) (c := k2c0) (by decide +kernel) rfl rfl rfl (by decide +kernel)
set_option maxRecDepth 65536 in
theorem w_c2 : (Jvm.Cond.code ({ cls := "java/lang/Object", name := "<init>", desc := "()V" } : Jvm.MethodName) object_method_1_code (1 : Nat) (Option.none : Option Jvm.ClassFile.FieldType)).before args0 about1 = true := code_word (m := ⟨0, 0⟩) (meth := k0m0) (c := k0c0) (by decide +kernel) rfl rfl rfl (by decide +kernel)
set_option maxRecDepth 65536 in
theorem w_c3 : (Jvm.Cond.code ({ cls := "RemoteDelta", name := "reset", desc := "()V" } : Jvm.MethodName) prog_1_method_2_code (1 : Nat) (Option.none : Option Jvm.ClassFile.FieldType)).before args0 about1 = true := code_word (m := ⟨2, 1⟩) (meth := k2m1) (c := k2c1) (by decide +kernel) rfl rfl rfl (by decide +kernel)
set_option maxRecDepth 65536 in
theorem w_c4 : (Jvm.Cond.code ({ cls := "RemoteDelta", name := "appendTarget", desc := "(II)I" } : Jvm.MethodName) prog_1_method_4_code (4 : Nat) (Option.some Jvm.ClassFile.FieldType.int)).before args0 about1 = true := code_word (m := ⟨2, 3⟩) (meth := k2m3) (c := k2c3) (by decide +kernel) rfl rfl rfl (by decide +kernel)
set_option maxRecDepth 65536 in
theorem w_c5 : (Jvm.Cond.code ({ cls := "RemoteDeltaL6", name := "agree", desc := "(LRemoteDelta;IIIIIII)Z" } : Jvm.MethodName) method_3_code (15 : Nat) (Option.some Jvm.ClassFile.FieldType.boolean)).before args0 about1 = true := code_word (m := ⟨1, 2⟩) (meth := k1m2) (c := k1c2) (by decide +kernel) rfl rfl rfl (by decide +kernel)
set_option maxRecDepth 65536 in
theorem w_c6 : (Jvm.Cond.code ({ cls := "RemoteDelta", name := "phase", desc := "()I" } : Jvm.MethodName) prog_1_method_8_code (1 : Nat) (Option.some Jvm.ClassFile.FieldType.int)).before args0 about1 = true := code_word (m := ⟨2, 7⟩) (meth := k2m7) (c := k2c7) (by decide +kernel) rfl rfl rfl (by decide +kernel)
set_option maxRecDepth 65536 in
theorem w_c7 : (Jvm.Cond.code ({ cls := "RemoteDelta", name := "length", desc := "(I)I" } : Jvm.MethodName) prog_1_method_13_code (2 : Nat) (Option.some Jvm.ClassFile.FieldType.int)).before args0 about1 = true := code_word (m := ⟨2, 10⟩) (meth := k2m10) (c := k2c10) (by decide +kernel) rfl rfl rfl (by decide +kernel)
set_option maxRecDepth 65536 in
theorem w_c8 : (Jvm.Cond.code ({ cls := "RemoteDelta", name := "blockCount", desc := "()I" } : Jvm.MethodName) prog_1_method_9_code (1 : Nat) (Option.some Jvm.ClassFile.FieldType.int)).before args0 about1 = true := code_word (m := ⟨2, 8⟩) (meth := k2m8) (c := k2c8) (by decide +kernel) rfl rfl rfl (by decide +kernel)
set_option maxRecDepth 65536 in
theorem w_c9 : (Jvm.Cond.code ({ cls := "RemoteDelta", name := "opCount", desc := "()I" } : Jvm.MethodName) prog_1_method_15_code (1 : Nat) (Option.some Jvm.ClassFile.FieldType.int)).before args0 about1 = true := code_word (m := ⟨2, 12⟩) (meth := k2m12) (c := k2c12) (by decide +kernel) rfl rfl rfl (by decide +kernel)
set_option maxRecDepth 65536 in
theorem w_c10 : (Jvm.Cond.code ({ cls := "RemoteDelta", name := "byteAt", desc := "(II)I" } : Jvm.MethodName) prog_1_method_14_code (4 : Nat) (Option.some Jvm.ClassFile.FieldType.int)).before args0 about1 = true := code_word (m := ⟨2, 11⟩) (meth := k2m11) (c := k2c11) (by decide +kernel) rfl rfl rfl (by decide +kernel)
set_option maxRecDepth 65536 in
theorem w_c11 : (Jvm.Cond.code ({ cls := "RemoteDelta", name := "appendBasis", desc := "(II)I" } : Jvm.MethodName) prog_1_method_3_code (4 : Nat) (Option.some Jvm.ClassFile.FieldType.int)).before args0 about1 = true := code_word (m := ⟨2, 2⟩) (meth := k2m2) (c := k2c2) (by decide +kernel) rfl rfl rfl (by decide +kernel)
set_option maxRecDepth 65536 in
theorem w_c12 : (Jvm.Cond.code ({ cls := "RemoteDelta", name := "sign", desc := "()I" } : Jvm.MethodName) prog_1_method_5_code (5 : Nat) (Option.some Jvm.ClassFile.FieldType.int)).before args0 about1 = true := code_word (m := ⟨2, 4⟩) (meth := k2m4) (c := k2c4) (by decide +kernel) rfl rfl rfl (by decide +kernel)
set_option maxRecDepth 65536 in
theorem w_c13 : (Jvm.Cond.code ({ cls := "RemoteDelta", name := "buildIndex", desc := "()V" } : Jvm.MethodName) prog_1_method_23_code (3 : Nat) (Option.none : Option Jvm.ClassFile.FieldType)).before args0 about1 = true := code_word (m := ⟨2, 20⟩) (meth := k2m20) (c := k2c20) (by decide +kernel) rfl rfl rfl (by decide +kernel)
set_option maxRecDepth 65536 in
theorem w_c14 : (Jvm.Cond.code ({ cls := "RemoteDelta", name := "apply", desc := "()I" } : Jvm.MethodName) prog_1_method_7_code (3 : Nat) (Option.some Jvm.ClassFile.FieldType.int)).before args0 about1 = true := code_word (m := ⟨2, 6⟩) (meth := k2m6) (c := k2c6) (by decide +kernel) rfl rfl rfl (by decide +kernel)
set_option maxRecDepth 65536 in
theorem w_c15 : (Jvm.Cond.code ({ cls := "RemoteDelta", name := "encode", desc := "()I" } : Jvm.MethodName) prog_1_method_6_code (4 : Nat) (Option.some Jvm.ClassFile.FieldType.int)).before args0 about1 = true := code_word (m := ⟨2, 5⟩) (meth := k2m5) (c := k2c5) (by decide +kernel) rfl rfl rfl (by decide +kernel)
set_option maxRecDepth 65536 in
theorem w_c16 : (Jvm.Cond.code ({ cls := "RemoteDelta", name := "weakOfBasis", desc := "(II)I" } : Jvm.MethodName) prog_1_method_19_code (8 : Nat) (Option.some Jvm.ClassFile.FieldType.int)).before args0 about1 = true := code_word (m := ⟨2, 16⟩) (meth := k2m16) (c := k2c16) (by decide +kernel) rfl rfl rfl (by decide +kernel)
set_option maxRecDepth 65536 in
theorem w_c17 : (Jvm.Cond.code ({ cls := "RemoteDelta", name := "packWeak", desc := "(II)I" } : Jvm.MethodName) prog_1_method_18_code (3 : Nat) (Option.some Jvm.ClassFile.FieldType.int)).before args0 about1 = true := code_word (m := ⟨2, 15⟩) (meth := k2m15) (c := k2c15) (by decide +kernel) rfl rfl rfl (by decide +kernel)
set_option maxRecDepth 65536 in
theorem w_c18 : (Jvm.Cond.code ({ cls := "RemoteDelta", name := "strongOfBasis", desc := "(II)J" } : Jvm.MethodName) prog_1_method_20_code (7 : Nat) (Option.some Jvm.ClassFile.FieldType.long)).before args0 about1 = true := code_word (m := ⟨2, 17⟩) (meth := k2m17) (c := k2c17) (by decide +kernel) rfl rfl rfl (by decide +kernel)
set_option maxRecDepth 65536 in
theorem w_c19 : (Jvm.Cond.code ({ cls := "RemoteDelta", name := "blockLength", desc := "(I)I" } : Jvm.MethodName) prog_1_method_10_code (2 : Nat) (Option.some Jvm.ClassFile.FieldType.int)).before args0 about1 = true := code_word (m := ⟨2, 9⟩) (meth := k2m9) (c := k2c9) (by decide +kernel) rfl rfl rfl (by decide +kernel)
set_option maxRecDepth 65536 in
theorem w_c20 : (Jvm.Cond.code ({ cls := "RemoteDelta", name := "findMatch", desc := "(I)I" } : Jvm.MethodName) prog_1_method_24_code (4 : Nat) (Option.some Jvm.ClassFile.FieldType.int)).before args0 about1 = true := code_word (m := ⟨2, 21⟩) (meth := k2m21) (c := k2c21) (by decide +kernel) rfl rfl rfl (by decide +kernel)
set_option maxRecDepth 65536 in
theorem w_c21 : (Jvm.Cond.code ({ cls := "RemoteDelta", name := "addLiteral", desc := "(I)V" } : Jvm.MethodName) prog_1_method_30_code (2 : Nat) (Option.none : Option Jvm.ClassFile.FieldType)).before args0 about1 = true := code_word (m := ⟨2, 27⟩) (meth := k2m27) (c := k2c27) (by decide +kernel) rfl rfl rfl (by decide +kernel)
set_option maxRecDepth 65536 in
theorem w_c22 : (Jvm.Cond.code ({ cls := "RemoteDelta", name := "addOp", desc := "(II)V" } : Jvm.MethodName) prog_1_method_29_code (3 : Nat) (Option.none : Option Jvm.ClassFile.FieldType)).before args0 about1 = true := code_word (m := ⟨2, 26⟩) (meth := k2m26) (c := k2c26) (by decide +kernel) rfl rfl rfl (by decide +kernel)
set_option maxRecDepth 65536 in
theorem w_c23 : (Jvm.Cond.code ({ cls := "RemoteDelta", name := "sameBytes", desc := "(III)Z" } : Jvm.MethodName) prog_1_method_28_code (7 : Nat) (Option.some Jvm.ClassFile.FieldType.boolean)).before args0 about1 = true := code_word (m := ⟨2, 25⟩) (meth := k2m25) (c := k2c25) (by decide +kernel) rfl rfl rfl (by decide +kernel)
set_option maxRecDepth 65536 in
theorem w_c24 : (Jvm.Cond.code ({ cls := "RemoteDelta", name := "opKind", desc := "(I)I" } : Jvm.MethodName) prog_1_method_16_code (2 : Nat) (Option.some Jvm.ClassFile.FieldType.int)).before args0 about1 = true := code_word (m := ⟨2, 13⟩) (meth := k2m13) (c := k2c13) (by decide +kernel) rfl rfl rfl (by decide +kernel)
set_option maxRecDepth 65536 in
theorem w_c25 : (Jvm.Cond.code ({ cls := "RemoteDelta", name := "opValue", desc := "(I)I" } : Jvm.MethodName) prog_1_method_17_code (2 : Nat) (Option.some Jvm.ClassFile.FieldType.int)).before args0 about1 = true := code_word (m := ⟨2, 14⟩) (meth := k2m14) (c := k2c14) (by decide +kernel) rfl rfl rfl (by decide +kernel)
set_option maxRecDepth 65536 in
theorem w_c26 : (Jvm.Cond.code ({ cls := "RemoteDelta", name := "appendLiteralToOut", desc := "(II)I" } : Jvm.MethodName) prog_1_method_32_code (5 : Nat) (Option.some Jvm.ClassFile.FieldType.int)).before args0 about1 = true := code_word (m := ⟨2, 29⟩) (meth := k2m29) (c := k2c29) (by decide +kernel) rfl rfl rfl (by decide +kernel)
set_option maxRecDepth 65536 in
theorem w_c27 : (Jvm.Cond.code ({ cls := "RemoteDelta", name := "findFullMatch", desc := "(I)I" } : Jvm.MethodName) prog_1_method_25_code (8 : Nat) (Option.some Jvm.ClassFile.FieldType.int)).before args0 about1 = true := code_word (m := ⟨2, 22⟩) (meth := k2m22) (c := k2c22) (by decide +kernel) rfl rfl rfl (by decide +kernel)
set_option maxRecDepth 65536 in
theorem w_c28 : (Jvm.Cond.code ({ cls := "RemoteDelta", name := "ensureWindow", desc := "(I)V" } : Jvm.MethodName) prog_1_method_26_code (6 : Nat) (Option.none : Option Jvm.ClassFile.FieldType)).before args0 about1 = true := code_word (m := ⟨2, 23⟩) (meth := k2m23) (c := k2c23) (by decide +kernel) rfl rfl rfl (by decide +kernel)
set_option maxRecDepth 65536 in
theorem w_c29 : (Jvm.Cond.code ({ cls := "RemoteDelta", name := "recomputeWindow", desc := "(I)V" } : Jvm.MethodName) prog_1_method_27_code (8 : Nat) (Option.none : Option Jvm.ClassFile.FieldType)).before args0 about1 = true := code_word (m := ⟨2, 24⟩) (meth := k2m24) (c := k2c24) (by decide +kernel) rfl rfl rfl (by decide +kernel)
set_option maxRecDepth 65536 in
theorem w_c30 : (Jvm.Cond.code ({ cls := "RemoteDelta", name := "bucketOf", desc := "(I)I" } : Jvm.MethodName) prog_1_method_22_code (3 : Nat) (Option.some Jvm.ClassFile.FieldType.int)).before args0 about1 = true := code_word (m := ⟨2, 19⟩) (meth := k2m19) (c := k2c19) (by decide +kernel) rfl rfl rfl (by decide +kernel)
set_option maxRecDepth 65536 in
theorem w_c31 : (Jvm.Cond.code ({ cls := "RemoteDelta", name := "strongOfTarget", desc := "(II)J" } : Jvm.MethodName) prog_1_method_21_code (7 : Nat) (Option.some Jvm.ClassFile.FieldType.long)).before args0 about1 = true := code_word (m := ⟨2, 18⟩) (meth := k2m18) (c := k2c18) (by decide +kernel) rfl rfl rfl (by decide +kernel)
set_option maxRecDepth 65536 in
theorem w_c32 : (Jvm.Cond.code ({ cls := "RemoteDelta", name := "appendBlockToOut", desc := "(I)V" } : Jvm.MethodName) prog_1_method_31_code (6 : Nat) (Option.none : Option Jvm.ClassFile.FieldType)).before args0 about1 = true := code_word (m := ⟨2, 28⟩) (meth := k2m28) (c := k2c28) (by decide +kernel) rfl rfl rfl (by decide +kernel)
def codes1 : List Jvm.Cond := [Jvm.Cond.code x code maxLocals ret, Jvm.Cond.code ({ cls := "RemoteDelta", name := "<init>", desc := "(I)V" } : Jvm.MethodName) prog_1_method_1_code (3 : Nat) (Option.none : Option Jvm.ClassFile.FieldType), Jvm.Cond.code ({ cls := "java/lang/Object", name := "<init>", desc := "()V" } : Jvm.MethodName) object_method_1_code (1 : Nat) (Option.none : Option Jvm.ClassFile.FieldType), Jvm.Cond.code ({ cls := "RemoteDelta", name := "reset", desc := "()V" } : Jvm.MethodName) prog_1_method_2_code (1 : Nat) (Option.none : Option Jvm.ClassFile.FieldType), Jvm.Cond.code ({ cls := "RemoteDelta", name := "appendTarget", desc := "(II)I" } : Jvm.MethodName) prog_1_method_4_code (4 : Nat) (Option.some Jvm.ClassFile.FieldType.int), Jvm.Cond.code ({ cls := "RemoteDeltaL6", name := "agree", desc := "(LRemoteDelta;IIIIIII)Z" } : Jvm.MethodName) method_3_code (15 : Nat) (Option.some Jvm.ClassFile.FieldType.boolean), Jvm.Cond.code ({ cls := "RemoteDelta", name := "phase", desc := "()I" } : Jvm.MethodName) prog_1_method_8_code (1 : Nat) (Option.some Jvm.ClassFile.FieldType.int), Jvm.Cond.code ({ cls := "RemoteDelta", name := "length", desc := "(I)I" } : Jvm.MethodName) prog_1_method_13_code (2 : Nat) (Option.some Jvm.ClassFile.FieldType.int), Jvm.Cond.code ({ cls := "RemoteDelta", name := "blockCount", desc := "()I" } : Jvm.MethodName) prog_1_method_9_code (1 : Nat) (Option.some Jvm.ClassFile.FieldType.int), Jvm.Cond.code ({ cls := "RemoteDelta", name := "opCount", desc := "()I" } : Jvm.MethodName) prog_1_method_15_code (1 : Nat) (Option.some Jvm.ClassFile.FieldType.int), Jvm.Cond.code ({ cls := "RemoteDelta", name := "byteAt", desc := "(II)I" } : Jvm.MethodName) prog_1_method_14_code (4 : Nat) (Option.some Jvm.ClassFile.FieldType.int), Jvm.Cond.code ({ cls := "RemoteDelta", name := "appendBasis", desc := "(II)I" } : Jvm.MethodName) prog_1_method_3_code (4 : Nat) (Option.some Jvm.ClassFile.FieldType.int), Jvm.Cond.code ({ cls := "RemoteDelta", name := "sign", desc := "()I" } : Jvm.MethodName) prog_1_method_5_code (5 : Nat) (Option.some Jvm.ClassFile.FieldType.int), Jvm.Cond.code ({ cls := "RemoteDelta", name := "buildIndex", desc := "()V" } : Jvm.MethodName) prog_1_method_23_code (3 : Nat) (Option.none : Option Jvm.ClassFile.FieldType), Jvm.Cond.code ({ cls := "RemoteDelta", name := "apply", desc := "()I" } : Jvm.MethodName) prog_1_method_7_code (3 : Nat) (Option.some Jvm.ClassFile.FieldType.int), Jvm.Cond.code ({ cls := "RemoteDelta", name := "encode", desc := "()I" } : Jvm.MethodName) prog_1_method_6_code (4 : Nat) (Option.some Jvm.ClassFile.FieldType.int), Jvm.Cond.code ({ cls := "RemoteDelta", name := "weakOfBasis", desc := "(II)I" } : Jvm.MethodName) prog_1_method_19_code (8 : Nat) (Option.some Jvm.ClassFile.FieldType.int), Jvm.Cond.code ({ cls := "RemoteDelta", name := "packWeak", desc := "(II)I" } : Jvm.MethodName) prog_1_method_18_code (3 : Nat) (Option.some Jvm.ClassFile.FieldType.int), Jvm.Cond.code ({ cls := "RemoteDelta", name := "strongOfBasis", desc := "(II)J" } : Jvm.MethodName) prog_1_method_20_code (7 : Nat) (Option.some Jvm.ClassFile.FieldType.long), Jvm.Cond.code ({ cls := "RemoteDelta", name := "blockLength", desc := "(I)I" } : Jvm.MethodName) prog_1_method_10_code (2 : Nat) (Option.some Jvm.ClassFile.FieldType.int), Jvm.Cond.code ({ cls := "RemoteDelta", name := "findMatch", desc := "(I)I" } : Jvm.MethodName) prog_1_method_24_code (4 : Nat) (Option.some Jvm.ClassFile.FieldType.int), Jvm.Cond.code ({ cls := "RemoteDelta", name := "addLiteral", desc := "(I)V" } : Jvm.MethodName) prog_1_method_30_code (2 : Nat) (Option.none : Option Jvm.ClassFile.FieldType), Jvm.Cond.code ({ cls := "RemoteDelta", name := "addOp", desc := "(II)V" } : Jvm.MethodName) prog_1_method_29_code (3 : Nat) (Option.none : Option Jvm.ClassFile.FieldType), Jvm.Cond.code ({ cls := "RemoteDelta", name := "sameBytes", desc := "(III)Z" } : Jvm.MethodName) prog_1_method_28_code (7 : Nat) (Option.some Jvm.ClassFile.FieldType.boolean), Jvm.Cond.code ({ cls := "RemoteDelta", name := "opKind", desc := "(I)I" } : Jvm.MethodName) prog_1_method_16_code (2 : Nat) (Option.some Jvm.ClassFile.FieldType.int), Jvm.Cond.code ({ cls := "RemoteDelta", name := "opValue", desc := "(I)I" } : Jvm.MethodName) prog_1_method_17_code (2 : Nat) (Option.some Jvm.ClassFile.FieldType.int), Jvm.Cond.code ({ cls := "RemoteDelta", name := "appendLiteralToOut", desc := "(II)I" } : Jvm.MethodName) prog_1_method_32_code (5 : Nat) (Option.some Jvm.ClassFile.FieldType.int), Jvm.Cond.code ({ cls := "RemoteDelta", name := "findFullMatch", desc := "(I)I" } : Jvm.MethodName) prog_1_method_25_code (8 : Nat) (Option.some Jvm.ClassFile.FieldType.int), Jvm.Cond.code ({ cls := "RemoteDelta", name := "ensureWindow", desc := "(I)V" } : Jvm.MethodName) prog_1_method_26_code (6 : Nat) (Option.none : Option Jvm.ClassFile.FieldType), Jvm.Cond.code ({ cls := "RemoteDelta", name := "recomputeWindow", desc := "(I)V" } : Jvm.MethodName) prog_1_method_27_code (8 : Nat) (Option.none : Option Jvm.ClassFile.FieldType), Jvm.Cond.code ({ cls := "RemoteDelta", name := "bucketOf", desc := "(I)I" } : Jvm.MethodName) prog_1_method_22_code (3 : Nat) (Option.some Jvm.ClassFile.FieldType.int), Jvm.Cond.code ({ cls := "RemoteDelta", name := "strongOfTarget", desc := "(II)J" } : Jvm.MethodName) prog_1_method_21_code (7 : Nat) (Option.some Jvm.ClassFile.FieldType.long), Jvm.Cond.code ({ cls := "RemoteDelta", name := "appendBlockToOut", desc := "(I)V" } : Jvm.MethodName) prog_1_method_31_code (6 : Nat) (Option.none : Option Jvm.ClassFile.FieldType)]
set_option maxRecDepth 65536 in
theorem codes_eq : words1.filter isCode = codes1 := rfl
theorem w_codes : ∀ c ∈ words1.filter isCode, c.before args0 about1 = true := by
  rw [codes_eq]
  intro c hc
  simp only [codes1, List.mem_cons, List.not_mem_nil, or_false] at hc
  rcases hc with rfl | rfl | rfl | rfl | rfl | rfl | rfl | rfl | rfl | rfl | rfl | rfl | rfl | rfl | rfl | rfl | rfl | rfl | rfl | rfl | rfl | rfl | rfl | rfl | rfl | rfl | rfl | rfl | rfl | rfl | rfl | rfl | rfl
  · exact w_c0
  · exact w_c1
  · exact w_c2
  · exact w_c3
  · exact w_c4
  · exact w_c5
  · exact w_c6
  · exact w_c7
  · exact w_c8
  · exact w_c9
  · exact w_c10
  · exact w_c11
  · exact w_c12
  · exact w_c13
  · exact w_c14
  · exact w_c15
  · exact w_c16
  · exact w_c17
  · exact w_c18
  · exact w_c19
  · exact w_c20
  · exact w_c21
  · exact w_c22
  · exact w_c23
  · exact w_c24
  · exact w_c25
  · exact w_c26
  · exact w_c27
  · exact w_c28
  · exact w_c29
  · exact w_c30
  · exact w_c31
  · exact w_c32
set_option maxRecDepth 65536 in
theorem w_t1 : (words1.take 24).all (fun c => isCode c || c.before args0 about1) = true := by decide +kernel
set_option maxRecDepth 65536 in
theorem w_t2 : ((words1.drop 24).take 24).all (fun c => isCode c || c.before args0 about1) = true := by decide +kernel
set_option maxRecDepth 65536 in
theorem w_t3 : (((words1.drop 24).drop 24).take 24).all (fun c => isCode c || c.before args0 about1) = true := by decide +kernel
set_option maxRecDepth 65536 in
theorem w_t4 : ((((words1.drop 24).drop 24).drop 24).take 24).all (fun c => isCode c || c.before args0 about1) = true := by decide +kernel
set_option maxRecDepth 65536 in
theorem w_t5 : (((((words1.drop 24).drop 24).drop 24).drop 24).take 24).all (fun c => isCode c || c.before args0 about1) = true := by decide +kernel
set_option maxRecDepth 65536 in
theorem w_t6 : ((((((words1.drop 24).drop 24).drop 24).drop 24).drop 24).take 24).all (fun c => isCode c || c.before args0 about1) = true := by decide +kernel
set_option maxRecDepth 65536 in
theorem w_t7 : (((((((words1.drop 24).drop 24).drop 24).drop 24).drop 24).drop 24).take 24).all (fun c => isCode c || c.before args0 about1) = true := by decide +kernel
set_option maxRecDepth 65536 in
theorem w_t8 : ((((((((words1.drop 24).drop 24).drop 24).drop 24).drop 24).drop 24).drop 24).take 24).all (fun c => isCode c || c.before args0 about1) = true := by decide +kernel
set_option maxRecDepth 65536 in
theorem w_t9 : ((((((((words1.drop 24).drop 24).drop 24).drop 24).drop 24).drop 24).drop 24).drop 24).all (fun c => isCode c || c.before args0 about1) = true := by decide +kernel
theorem w_tables : (allAtoms (Jvm.Cond.code x code maxLocals ret :: tables_1)).before args0 about1 = true := by
  rw [allAtoms_all]
  show words1.all (fun c => c.before args0 about1) = true
  refine all_split ?_ w_codes
  rw [← List.take_append_drop 24 words1, List.all_append, w_t1, ← List.take_append_drop 24 (words1.drop 24), List.all_append, w_t2, ← List.take_append_drop 24 ((words1.drop 24).drop 24), List.all_append, w_t3, ← List.take_append_drop 24 (((words1.drop 24).drop 24).drop 24), List.all_append, w_t4, ← List.take_append_drop 24 ((((words1.drop 24).drop 24).drop 24).drop 24), List.all_append, w_t5, ← List.take_append_drop 24 (((((words1.drop 24).drop 24).drop 24).drop 24).drop 24), List.all_append, w_t6, ← List.take_append_drop 24 ((((((words1.drop 24).drop 24).drop 24).drop 24).drop 24).drop 24), List.all_append, w_t7, ← List.take_append_drop 24 (((((((words1.drop 24).drop 24).drop 24).drop 24).drop 24).drop 24).drop 24), List.all_append, w_t8, w_t9]
  rfl
set_option maxRecDepth 65536 in
theorem w_rest : rest_1_c.before args0 about1 = true := by decide +kernel
set_option maxRecDepth 65536 in
theorem w_case : (Jvm.Cond.and given_1 narrow_1).before args0 about1 = true := by decide +kernel
theorem w_applies : (headSpec (Jvm.Cond.code x code maxLocals ret :: tables_1) room_1).applies x e0.platform about1 = true :=
  (Spec.applies_iff w_frames).mpr ⟨w_running, w_runnable, w_alone, w_named, w_hears, w_ripe, w_room, w_tables⟩
theorem atStart : AtStart classFile x code maxLocals ret World_1 tables_1 room_1 Calls_1 rest_1 Pre_1 launch0 p0 e0 about1 theMethod args0 below0 :=
  ⟨lists_1, trivial, launch0.admits_env _ _ _, launch0.least_env, fairChoices_fair.cas, fairChoices_fair.clock, w_frames, w_args, w_heap, w_applies, trivial, w_rest, w_case⟩
end start1
theorem witness_1 : WitnessClaimed_1 := ⟨start1.p0, start1.e0, start1.about1, start1.theMethod, start1.args0, start1.below0, start1.atStart⟩
end Jvm.Pilot.@@N@@
