import JvmDerived
import JvmDerived.Pilot.@@N@@Statement
import JvmDerived.Pilot.@@N@@Code
set_option linter.unusedVariables false
set_option linter.unusedSimpArgs false
/-! # A small executor over an abstract heap, and that it is sound for the model (Stand's family). Same text in every claim. -/
namespace Jvm.OwnX
open Sem ClassFile Op Lib Jvm.Stand Jvm.Free Jvm.LawKit Jvm.RoadKit
/-- a cell: an object's fields; an array of ints (0: handed in; 1), booleans (2), bytes (3); an array of longs -/
abbrev ACell := Sum (List Value) (Sum (Nat × List Int32) (List Int64))
abbrev AHeap := List ACell
abbrev ALoc := List (Option Value)
/-- a method: class, maxLocals, how many it pops, what it returns, is it a constructor, frames, locals -/
abbrev MI := Nat × Nat × Nat × Option FieldType × Bool × Nat × Nat
/-- code | methods | method links (kind, callee) | field links | constants | fields (name, descriptor, kind, final) | slots of an object | read-only cells | cells at most | slots at most -/
def Prog : Type := (Nat → Nat → Option (Instr × Nat)) × (Nat → MI) × (Nat → Nat → Option (Nat × Nat)) × (Nat → Nat → Option Nat) × (Nat → Nat → Option Value) × List (String × String × Nat × Bool) × Nat × Nat × Nat × Nat
def Prog.code (P : Prog) : Nat → Nat → Option (Instr × Nat) := P.1
def Prog.mi (P : Prog) : Nat → MI := P.2.1
def Prog.link (P : Prog) : Nat → Nat → Option (Nat × Nat) := P.2.2.1
def Prog.fld (P : Prog) : Nat → Nat → Option Nat := P.2.2.2.1
def Prog.kon (P : Prog) : Nat → Nat → Option Value := P.2.2.2.2.1
def Prog.fields (P : Prog) : List (String × String × Nat × Bool) := P.2.2.2.2.2.1
def Prog.objN (P : Prog) : Nat := P.2.2.2.2.2.2.1
def Prog.ro (P : Prog) : Nat := P.2.2.2.2.2.2.2.1
def Prog.capC (P : Prog) : Nat := P.2.2.2.2.2.2.2.2.1
def Prog.capS (P : Prog) : Nat := P.2.2.2.2.2.2.2.2.2
def Prog.cls (P : Prog) (k : Nat) : Nat := (P.mi k).1
def Prog.maxL (P : Prog) (k : Nat) : Nat := (P.mi k).2.1
def Prog.pops (P : Prog) (k : Nat) : Nat := (P.mi k).2.2.1
def Prog.ret (P : Prog) (k : Nat) : Option FieldType := (P.mi k).2.2.2.1
def Prog.ini (P : Prog) (k : Nat) : Bool := (P.mi k).2.2.2.2.1
def Prog.rf (P : Prog) (k : Nat) : Nat := (P.mi k).2.2.2.2.2.1
def Prog.rl (P : Prog) (k : Nat) : Nat := (P.mi k).2.2.2.2.2.2
def dflt : Nat → Value
  | 0 => .int 0
  | 1 => .int 0
  | 2 => .long 0
  | _ => .null
def Prog.fresh (P : Prog) : List Value := P.fields.map fun f => dflt f.2.2.1
/-- is j a place of an array of n -/
def inb (n : Nat) (j : Int32) : Bool := !(decide (j < 0)) && Nat.ble (j.toNatClampNeg + 1) n
def rd (xs : List Int32) (j : Int32) : Int32 := xs.getD j.toNatClampNeg 0
def wr (xs : List Int32) (j : Int32) (v : Int32) : List Int32 := xs.set j.toNatClampNeg v
def rdL (xs : List Int64) (j : Int32) : Int64 := xs.getD j.toNatClampNeg 0
def wrL (xs : List Int64) (j : Int32) (v : Int64) : List Int64 := xs.set j.toNatClampNeg v
def kill1 (L : ALoc) (i : Nat) : ALoc :=
  match i with
  | 0 => L
  | i + 1 => match L[i]? with
    | some (some (.long _)) => L.set i none
    | _ => L
def lput (L : ALoc) (i : Nat) (v : Value) : Option ALoc := bif Nat.ble (i + 1) L.length then some ((kill1 L i).set i (some v)) else none
def lputL (L : ALoc) (i : Nat) (v : Int64) : Option ALoc := bif Nat.ble (i + 2) L.length then some (((kill1 L i).set i (some (.long v))).set (i + 1) none) else none
def entL : List Value → ALoc
  | [] => []
  | .long v :: r => some (.long v) :: none :: entL r
  | v :: r => some v :: entL r
def pad (n : Nat) (L : ALoc) : ALoc := L ++ List.replicate (n - L.length) none
def entry (P : Prog) (k : Nat) (as : List Value) : ALoc := pad (P.maxL k) (entL as)
def cat (v : Value) : Nat := match v with | .long _ => 2 | _ => 1
def cats : List Value → Nat
  | [] => 0
  | v :: r => cat v + cats r
def okV : Value → Bool
  | .int _ => true | .long _ => true | .ref _ => true | .null => true | _ => false
def csz : Nat → ACell → Nat
  | n, .inl _ => n
  | _, .inr (.inl (0, _)) => 0
  | _, .inr (.inl (_, x)) => x.length
  | _, .inr (.inr x) => x.length
def hsz (P : Prog) : AHeap → Nat
  | [] => 0
  | c :: r => csz P.objN c + hsz P r
/-- how long an instruction is (0: as decode says) -/
def ilen : Instr → Nat
  | .iload _ => 2 | .lload _ => 2 | .aload _ => 2 | .istore _ => 2 | .lstore _ => 2 | .astore _ => 2 | .bipush _ => 2 | .ldc _ => 2 | .newarray _ => 2
  | .iinc _ _ => 3 | .sipush _ => 3 | .goto _ => 3 | .ifCond _ _ => 3 | .if_icmp _ _ => 3 | .getfield _ => 3 | .putfield _ => 3 | .new _ => 3 | .invokespecial _ => 3 | .invokestatic _ => 3 | .invokevirtual _ => 3 | .ldc2_w _ => 3
  | .tableswitch _ _ _ _ => 0
  | _ => 1
def tgt (pc : Nat) (o : Int) : Option Nat := match (pc : Int) + o with | .ofNat n => some n | .negSucc _ => none
def ish (x y : Int32) : Int32 := x <<< (y &&& 31)
def isr (x y : Int32) : Int32 := x >>> (y &&& 31)
def ush (x y : Int32) : Int32 := (x.toUInt32 >>> (y &&& 31).toUInt32).toInt32
def lsh (x : Int64) (y : Int32) : Int64 := x <<< (y &&& 0x3f).toInt64
def lus (x : Int64) (y : Int32) : Int64 := (x.toUInt64 >>> (y &&& 0x3f).toInt64.toUInt64).toInt64
def lcm (x y : Int64) : Int32 := if x > y then 1 else if x = y then 0 else -1
def i8 (x : Int32) : Int32 := x.toInt8.toInt32
def aop : Instr → Option (Int32 → Int32 → Int32)
  | .iadd => some fun x y => x + y
  | .isub => some fun x y => x - y
  | .imul => some fun x y => x * y
  | .iand => some fun x y => x &&& y
  | .ior => some fun x y => x ||| y
  | .ixor => some fun x y => x ^^^ y
  | .ishl => some fun x y => x <<< (y &&& 31)
  | .ishr => some fun x y => x >>> (y &&& 31)
  | .iushr => some fun x y => (x.toUInt32 >>> (y &&& 31).toUInt32).toInt32
  | _ => none
def lop : Instr → Option (Int64 → Int64 → Int64)
  | .ladd => some fun x y => x + y
  | .lsub => some fun x y => x - y
  | .lmul => some fun x y => x * y
  | .land => some fun x y => x &&& y
  | .lor => some fun x y => x ||| y
  | .lxor => some fun x y => x ^^^ y
  | _ => none
def loadI (L : ALoc) (n : Nat) : Option Int32 := match L[n]? with | some (some (.int x)) => some x | _ => none
def loadJ (L : ALoc) (n : Nat) : Option Int64 := match L[n]? with | some (some (.long x)) => some x | _ => none
def loadA (L : ALoc) (n : Nat) : Option Nat := match L[n]? with | some (some (.ref a)) => some a | _ => none
def getC (H : AHeap) (a j : Nat) : Option Value := match H[a]? with | some (.inl fs) => fs[j]? | _ => none
def conv (t : Nat) (v : Value) : Option Value :=
  match t, v with
  | 0, .int x => some (.int x)
  | 1, .int x => some (.int (x &&& 1))
  | 2, .long x => some (.long x)
  | 3, .ref a => some (.ref a)
  | _, _ => none
/-- a step within one frame -/
abbrev St := Nat × ALoc × List Value × AHeap
def atyOf : ArrayType → Option Nat
  | .int => some 1 | .boolean => some 2 | .byte => some 3 | .long => some 4 | _ => none
def newC (t n : Nat) : ACell := match t with | 4 => .inr (.inr (List.replicate n 0)) | t => .inr (.inl (t, List.replicate n 0))
def isObjInit (P : Prog) (k j : Nat) : Bool := match P.link (P.cls k) j with | some (4, _) => true | _ => false
/-- what is stored into an array of that kind -/
def narA (t : Nat) (x : Int32) : Int32 := match t with | 2 => x &&& 1 | 3 => x.toInt8.toInt32 | _ => x
def step (P : Prog) (k : Nat) (i : Instr) (np pc : Nat) (L : ALoc) (S : List Value) (H : AHeap) : Option St :=
  match i with
  | .iload_n n => match loadI L n.val with | some x => some (np, L, .int x :: S, H) | none => none
  | .iload n => match loadI L n with | some x => some (np, L, .int x :: S, H) | none => none
  | .lload_n n => match loadJ L n.val with | some x => some (np, L, .long x :: S, H) | none => none
  | .lload n => match loadJ L n with | some x => some (np, L, .long x :: S, H) | none => none
  | .aload_n n => match loadA L n.val with | some x => some (np, L, .ref x :: S, H) | none => none
  | .aload n => match loadA L n with | some x => some (np, L, .ref x :: S, H) | none => none
  | .istore_n n => match S with | .int x :: r => (match lput L n.val (.int x) with | some L' => some (np, L', r, H) | none => none) | _ => none
  | .istore n => match S with | .int x :: r => (match lput L n (.int x) with | some L' => some (np, L', r, H) | none => none) | _ => none
  | .astore_n n => match S with | .ref x :: r => (match lput L n.val (.ref x) with | some L' => some (np, L', r, H) | none => none) | _ => none
  | .astore n => match S with | .ref x :: r => (match lput L n (.ref x) with | some L' => some (np, L', r, H) | none => none) | _ => none
  | .lstore_n n => match S with | .long x :: r => (match lputL L n.val x with | some L' => some (np, L', r, H) | none => none) | _ => none
  | .lstore n => match S with | .long x :: r => (match lputL L n x with | some L' => some (np, L', r, H) | none => none) | _ => none
  | .iinc n c => match loadI L n with | some x => (match lput L n (.int (x + Int32.ofInt c)) with | some L' => some (np, L', S, H) | none => none) | none => none
  | .iconst c => some (np, L, .int (Int32.ofInt c) :: S, H)
  | .bipush c => some (np, L, .int (Int8.ofInt c).toInt32 :: S, H)
  | .sipush c => some (np, L, .int (Int16.ofInt c).toInt32 :: S, H)
  | .lconst c => some (np, L, .long (Int64.ofNat c) :: S, H)
  | .ldc j => match P.kon (P.cls k) j with | some (.int x) => some (np, L, .int x :: S, H) | _ => none
  | .ldc2_w j => match P.kon (P.cls k) j with | some (.long x) => some (np, L, .long x :: S, H) | _ => none
  | .idiv => match S with | .int y :: .int x :: r => (bif decide (y = 0) then none else some (np, L, .int (x / y) :: r, H)) | _ => none
  | .irem => match S with | .int y :: .int x :: r => (bif decide (y = 0) then none else some (np, L, .int (x % y) :: r, H)) | _ => none
  | .lshl => match S with | .int y :: .long x :: r => some (np, L, .long (x <<< (y &&& 0x3f).toInt64) :: r, H) | _ => none
  | .lushr => match S with | .int y :: .long x :: r => some (np, L, .long ((x.toUInt64 >>> (y &&& 0x3f).toInt64.toUInt64).toInt64) :: r, H) | _ => none
  | .lcmp => match S with | .long y :: .long x :: r => some (np, L, .int (if x > y then 1 else if x = y then 0 else -1) :: r, H) | _ => none
  | .lneg => match S with | .long x :: r => some (np, L, .long (-x) :: r, H) | _ => none
  | .i2l => match S with | .int x :: r => some (np, L, .long x.toInt64 :: r, H) | _ => none
  | .l2i => match S with | .long x :: r => some (np, L, .int x.toInt32 :: r, H) | _ => none
  | .i2b => match S with | .int x :: r => some (np, L, .int x.toInt8.toInt32 :: r, H) | _ => none
  | .dup => match S with | .ref x :: r => some (np, L, .ref x :: .ref x :: r, H) | .int x :: r => some (np, L, .int x :: .int x :: r, H) | _ => none
  | .dup2 => match S with | .int x :: .ref y :: r => some (np, L, .int x :: .ref y :: .int x :: .ref y :: r, H) | _ => none
  | .pop => match S with | .int _ :: r => some (np, L, r, H) | .ref _ :: r => some (np, L, r, H) | _ => none
  | .goto o => match tgt pc o with | some t => some (t, L, S, H) | none => none
  | .ifCond cd o => match S with
    | .int x :: r => (bif if_icmp.holds cd x 0 then (match tgt pc o with | some t => some (t, L, r, H) | none => none) else some (np, L, r, H))
    | _ => none
  | .if_icmp cd o => match S with
    | .int y :: .int x :: r => (bif if_icmp.holds cd x y then (match tgt pc o with | some t => some (t, L, r, H) | none => none) else some (np, L, r, H))
    | _ => none
  | .tableswitch d lo hi offs => match S with
    | .int x :: r => (bif decide (x.toInt < lo) || decide (x.toInt > hi) then (match tgt pc d with | some t => some (t, L, r, H) | none => none)
        else (match offs.toList[(x.toInt - lo).toNat]? with | some o => (match tgt pc o with | some t => some (t, L, r, H) | none => none) | none => none))
    | _ => none
  | .getfield j => match S with
    | .ref a :: r => (match P.fld (P.cls k) j with | some f => (match getC H a f with | some v => some (np, L, v :: r, H) | none => none) | none => none)
    | _ => none
  | .putfield j => match S with
    | v :: .ref a :: r => (match P.fld (P.cls k) j with
      | some f => (match P.fields[f]? with
        | some (_, _, t, fin) => (bif (!fin || P.ini k) && Nat.ble P.ro a then (match conv t v with
          | some v' => (match H[a]? with
            | some (.inl fs) => (bif Nat.ble (f + 1) fs.length then some (np, L, r, H.set a (.inl (fs.set f v'))) else none)
            | _ => none)
          | none => none) else none)
        | none => none)
      | none => none)
    | _ => none
  | .iaload => match S with
    | .int j :: .ref a :: r => (match H[a]? with
      | some (.inr (.inl (1, xs))) => (bif inb xs.length j then some (np, L, .int (rd xs j) :: r, H) else none)
      | some (.inr (.inl (0, xs))) => (bif inb xs.length j then some (np, L, .int (rd xs j) :: r, H) else none)
      | _ => none)
    | _ => none
  | .baload => match S with
    | .int j :: .ref a :: r => (match H[a]? with
      | some (.inr (.inl (2, xs))) => (bif inb xs.length j then some (np, L, .int (rd xs j) :: r, H) else none)
      | some (.inr (.inl (3, xs))) => (bif inb xs.length j then some (np, L, .int (rd xs j) :: r, H) else none)
      | _ => none)
    | _ => none
  | .laload => match S with
    | .int j :: .ref a :: r => (match H[a]? with | some (.inr (.inr xs)) => (bif inb xs.length j then some (np, L, .long (rdL xs j) :: r, H) else none) | _ => none)
    | _ => none
  | .iastore => match S with
    | .int x :: .int j :: .ref a :: r => (bif Nat.ble P.ro a then (match H[a]? with | some (.inr (.inl (1, xs))) => (bif inb xs.length j then some (np, L, r, H.set a (.inr (.inl (1, wr xs j x)))) else none) | _ => none) else none)
    | _ => none
  | .bastore => match S with
    | .int x :: .int j :: .ref a :: r => (bif Nat.ble P.ro a then (match H[a]? with
      | some (.inr (.inl (2, xs))) => (bif inb xs.length j then some (np, L, r, H.set a (.inr (.inl (2, wr xs j (x &&& 1))))) else none)
      | some (.inr (.inl (3, xs))) => (bif inb xs.length j then some (np, L, r, H.set a (.inr (.inl (3, wr xs j x.toInt8.toInt32)))) else none)
      | _ => none) else none)
    | _ => none
  | .lastore => match S with
    | .long x :: .int j :: .ref a :: r => (bif Nat.ble P.ro a then (match H[a]? with | some (.inr (.inr xs)) => (bif inb xs.length j then some (np, L, r, H.set a (.inr (.inr (wrL xs j x)))) else none) | _ => none) else none)
    | _ => none
  | .arraylength => match S with
    | .ref a :: r => (match H[a]? with
      | some (.inr (.inl (_, xs))) => some (np, L, .int xs.length.toInt32 :: r, H)
      | some (.inr (.inr xs)) => some (np, L, .int xs.length.toInt32 :: r, H)
      | _ => none)
    | _ => none
  | .newarray t => match S with
    | .int n :: r => (match atyOf t with | some q => (bif !(decide (n < 0)) && Nat.ble n.toNatClampNeg 60000 && Nat.ble (H.length + 1) P.capC && Nat.ble (hsz P H + n.toNatClampNeg) P.capS then some (np, L, .ref H.length :: r, H ++ [newC q n.toNatClampNeg]) else none) | none => none)
    | _ => none
  | .new j => match P.link (P.cls k) j with | some (5, _) => (bif Nat.ble (H.length + 1) P.capC && Nat.ble (hsz P H + P.objN) P.capS then some (np, L, .ref H.length :: S, H ++ [.inl P.fresh]) else none) | _ => none
  | .invokespecial j => match S with
    | .ref _ :: r => (bif isObjInit P k j && Nat.ble 1 (P.rf k) && Nat.ble (cats r + 12) (P.rl k) then some (np, L, r, H) else none)
    | _ => none
  | i => match S with
    | .int y :: .int x :: r => (match aop i with | some f => some (np, L, .int (f x y) :: r, H) | none => none)
    | .long y :: .long x :: r => (match lop i with | some f => some (np, L, .long (f x y) :: r, H) | none => none)
    | _ => none
/-- what a return hands back -/
def retV (P : Prog) (k : Nat) (i : Instr) (S : List Value) : Option (Option Value) :=
  match i with
  | .return_ => match S, P.ret k with | [], none => some none | _, _ => none
  | .ireturn => match S with
    | .int x :: _ => (match P.ret k with | some .int => some (some (.int x)) | some .boolean => some (some (.int (x &&& 1))) | _ => none)
    | _ => none
  | .lreturn => match S with | .long x :: _ => (match P.ret k with | some .long => some (some (.long x)) | _ => none) | _ => none
  | _ => none
def kindOk : Instr → Nat → Bool
  | .invokestatic _, 0 => true
  | .invokespecial _, 1 => true
  | .invokevirtual _, 2 => true
  | .invokevirtual _, 3 => true
  | _, _ => false
def poolOf : Instr → Option Nat
  | .invokestatic j => some j
  | .invokespecial j => some j
  | .invokevirtual j => some j
  | _ => none
/-- the receiver is there -/
def recvOk (P : Prog) (H : AHeap) (q : Nat) (as : List Value) : Bool :=
  match q with
  | 0 => true
  | _ => match as with
    | .ref a :: _ => (match H[a]? with | some (.inl _) => true | _ => false)
    | _ => false
def callV (P : Prog) (k : Nat) (i : Instr) (S : List Value) (H : AHeap) : Option (Nat × List Value × List Value) :=
  match poolOf i with
  | none => none
  | some j => match P.link (P.cls k) j with
    | none => none
    | some (q, k') =>
      bif kindOk i q && Nat.ble (P.pops k') S.length && Nat.ble (P.rf k' + 1) (P.rf k) && Nat.ble (cats (S.drop (P.pops k')) + (P.maxL k' + 11) + P.rl k') (P.rl k) && recvOk P H q (S.take (P.pops k')).reverse && Nat.ble (entL (S.take (P.pops k')).reverse).length (P.maxL k') then
        some (k', (S.take (P.pops k')).reverse, S.drop (P.pops k'))
      else none
def run (P : Prog) : Nat → Nat → Nat → ALoc → List Value → AHeap → Option (Option Value × AHeap)
  | 0, _, _, _, _, _ => none
  | n + 1, k, pc, L, S, H =>
    match P.code k pc with
    | none => none
    | some (i, np) =>
      match retV P k i S with
      | some v => some (v, H)
      | none =>
        match callV P k i S H with
        | some (k', as, rest) =>
          (match run P n k' 0 (entry P k' as) [] H with
          | some (v, H1) => run P n k np L (v.toList ++ rest) H1
          | none => none)
        | none =>
          (match step P k i np pc L S H with
          | some (pc', L', S', H') => run P n k pc' L' S' H'
          | none => none)
def Eval (P : Prog) (k pc : Nat) (L : ALoc) (S : List Value) (H : AHeap) (out : Option Value × AHeap) : Prop := ∃ n, run P n k pc L S H = some out
end Jvm.OwnX
namespace Jvm.OwnX
open Sem ClassFile Op Lib Jvm.Stand Jvm.Free Jvm.LawKit Jvm.RoadKit
/-! ## values, stacks, local variables -/
def VR (am : List Addr) (v w : Value) : Prop := match v with
  | .ref i => ∃ a, am[i]? = some a ∧ w = .ref a
  | .int x => w = .int x
  | .long x => w = .long x
  | .null => w = .null
  | _ => False
def SR (am : List Addr) : List Value → List Value → Prop
  | [], ws => ws = []
  | v :: vs, ws => ∃ w ws', ws = w :: ws' ∧ VR am v w ∧ SR am vs ws'
def Pre (am am' : List Addr) : Prop := ∀ (i : Nat) (a : Addr), am[i]? = some a → am'[i]? = some a
theorem Pre.refl (am : List Addr) : Pre am am := fun _ _ h => h
theorem Pre.trans {a b c : List Addr} (h : Pre a b) (h' : Pre b c) : Pre a c := fun i x q => h' i x (h i x q)
theorem Pre.app (am : List Addr) (x : Addr) : Pre am (am ++ [x]) := fun i a h => by
  rw [List.getElem?_append_left (List.getElem?_eq_some_iff.mp h).1]; exact h
theorem VR.mono {am am' : List Addr} (h : Pre am am') {v w : Value} (r : VR am v w) : VR am' v w := by
  cases v <;> simp only [VR] at r ⊢ <;> try exact r
  obtain ⟨a, h1, h2⟩ := r; exact ⟨a, h _ _ h1, h2⟩
theorem SR.mono {am am' : List Addr} (h : Pre am am') : ∀ {S ws : List Value}, SR am S ws → SR am' S ws
  | [], _, r => r
  | _ :: _, _, ⟨w, ws', e, r1, r2⟩ => ⟨w, ws', e, r1.mono h, SR.mono h r2⟩
theorem VR.cat {am : List Addr} {v w : Value} (r : VR am v w) : w.category = OwnX.cat v := by
  cases v <;> simp only [VR] at r
  · subst r; rfl
  · subst r; rfl
  · subst r; rfl
  · obtain ⟨a, -, rfl⟩ := r; rfl
theorem SR.cats {am : List Addr} : ∀ {S ws : List Value}, SR am S ws → (ws.map fun v => v.category).sum = OwnX.cats S
  | [], _, r => by cases r; rfl
  | v :: vs, _, ⟨w, ws', e, r1, r2⟩ => by subst e; simp [OwnX.cats, r1.cat, SR.cats r2]
theorem SR.app {am : List Addr} : ∀ {S ws : List Value} (A B : List Value), SR am S ws → S = A ++ B → ∃ x y, ws = x ++ y ∧ SR am A x ∧ SR am B y
  | S, ws, [], B, r, e => ⟨[], ws, rfl, rfl, by rw [show B = S from by simpa using e.symm]; exact r⟩
  | S, ws, v :: A, B, r, e => by
    subst e
    obtain ⟨w, ws', rfl, r1, r2⟩ := r
    obtain ⟨x, y, rfl, h1, h2⟩ := SR.app A B r2 rfl
    exact ⟨w :: x, y, rfl, ⟨w, x, rfl, r1, h1⟩, h2⟩
theorem SR.join {am : List Addr} : ∀ {A x B y : List Value}, SR am A x → SR am B y → SR am (A ++ B) (x ++ y)
  | [], _, _, _, h, h' => by cases h; exact h'
  | _ :: _, _, _, _, ⟨w, ws', e, r1, r2⟩, h' => by subst e; exact ⟨w, _, rfl, r1, SR.join r2 h'⟩
theorem SR.rev {am : List Addr} : ∀ {A x : List Value}, SR am A x → SR am A.reverse x.reverse
  | [], _, h => by cases h; rfl
  | _ :: _, _, ⟨w, ws', e, r1, r2⟩ => by
    subst e
    rw [List.reverse_cons, List.reverse_cons]
    exact SR.join (SR.rev r2) ⟨w, [], rfl, r1, rfl⟩
theorem SR.len {am : List Addr} : ∀ {A x : List Value}, SR am A x → x.length = A.length
  | [], _, h => by cases h; rfl
  | _ :: _, _, ⟨w, ws', e, r1, r2⟩ => by subst e; simp [SR.len r2]
def WFL (l : Array Slot) : Prop := (∀ (i : Nat) w, l[i]? = some (.val w) → w.category = 2 → l[i + 1]? = some .second) ∧ (∀ (i : Nat), l[i]? = some .second → ∃ (j : Nat) (w : Value), i = j + 1 ∧ l[j]? = some (.val w) ∧ w.category = 2)
/-- the places of the variables behind a store of one word -/
def After1 (l l' : Array Slot) (i : Nat) (v : Value) : Prop := ∀ j : Nat, l'[j]? = if j = i then some (.val v) else if j + 1 = i ∧ l[i]? = some .second then some .unset else if j = i + 1 ∧ l[j]? = some .second then some .unset else l[j]?
theorem sib (l : Array Slot) (i j : Nat) (x : Slot) (hi : i < l.size) : (l.setIfInBounds i x)[j]? = if j = i then some x else l[j]? := by
  by_cases h : j = i
  · subst h; simp [hi]
  · simp [Array.getElem?_setIfInBounds_ne (Ne.symm h), h]
theorem store1w {l : Array Slot} {i : Nat} {v : Value} (hw : WFL l) (hi : i < l.size) (hv : v.category = 1) : ∃ l', storeLocals l i v = some l' ∧ l'.size = l.size ∧ After1 l l' i v := by
  have hv2 : ¬ v.category = 2 := by omega
  have hg : l[i]? = some l[i] := Array.getElem?_eq_getElem hi
  cases hq : l[i] with
  | unset =>
    rw [hq] at hg
    refine ⟨l.setIfInBounds i (.val v), by simp [storeLocals, storeSelf, setAt, hg, hq, hi, hv2], by simp, fun j => ?_⟩
    rw [sib _ _ _ _ hi, hg]
    by_cases h : j = i
    · simp [h]
    · simp only [h, if_false, reduceCtorEq, and_false, Option.some.injEq]
      by_cases h2 : j = i + 1 ∧ l[j]? = some .second
      · obtain ⟨j', w, e1, e2, e3⟩ := hw.2 _ h2.2
        have : j' = i := by omega
        subst this; rw [hg] at e2; cases e2
      · simp [h2]
  | second =>
    rw [hq] at hg
    obtain ⟨j0, w, e1, e2, e3⟩ := hw.2 _ hg
    subst e1
    have hj0 : j0 < l.size := by omega
    refine ⟨(l.setIfInBounds j0 .unset).setIfInBounds (j0 + 1) (.val v), by simp [storeLocals, storeSelf, setAt, hg, hq, hi, hv2, hj0], by simp, fun j => ?_⟩
    rw [sib _ _ _ _ (by simpa using hi), sib _ _ _ _ hj0, hg]
    by_cases h : j = j0 + 1
    · simp [h]
    · by_cases h3 : j = j0
      · subst h3; simp
      · have h4 : ¬ (j + 1 = j0 + 1) := by omega
        by_cases h2 : j = j0 + 1 + 1 ∧ l[j]? = some .second
        · obtain ⟨j', w', f1, f2, f3⟩ := hw.2 _ h2.2
          have : j' = j0 + 1 := by omega
          subst this; rw [hg] at f2; cases f2
        · simp [h, h3, h2]
  | val old =>
    rw [hq] at hg
    by_cases hc : old.category = 2
    · have h1 := hw.1 _ _ hg hc
      have h1' := (Array.getElem?_eq_some_iff.mp h1).1
      refine ⟨(l.setIfInBounds (i + 1) .unset).setIfInBounds i (.val v), by simp [storeLocals, storeSelf, setAt, hg, hq, hi, hv2, hc, h1'], by simp, fun j => ?_⟩
      rw [sib _ _ _ _ (by simpa using hi), sib _ _ _ _ h1', hg]
      by_cases h : j = i
      · simp [h]
      · by_cases h3 : j = i + 1
        · subst h3; simp [h1]
        · simp [h, h3]
    · refine ⟨l.setIfInBounds i (.val v), by simp [storeLocals, storeSelf, setAt, hg, hq, hi, hv2, hc], by simp, fun j => ?_⟩
      rw [sib _ _ _ _ hi, hg]
      by_cases h : j = i
      · simp [h]
      · simp only [h, if_false, reduceCtorEq, and_false, Option.some.injEq]
        by_cases h2 : j = i + 1 ∧ l[j]? = some .second
        · obtain ⟨j', w, e1, e2, e3⟩ := hw.2 _ h2.2
          have : j' = i := by omega
          subst this; rw [hg] at e2; cases e2; exact absurd e3 hc
        · simp [h2]
theorem After1.wf {l l' : Array Slot} {i : Nat} {v : Value} (hw : WFL l) (hv : v.category = 1) (A : After1 l l' i v) : WFL l' := by
  refine ⟨fun j w h1 h2 => ?_, fun j h1 => ?_⟩
  · rw [A j] at h1
    by_cases c1 : j = i
    · simp only [c1, if_true, Option.some.injEq, Slot.val.injEq] at h1; subst h1; omega
    · rw [if_neg c1] at h1
      by_cases c2 : j + 1 = i ∧ l[i]? = some .second
      · rw [if_pos c2] at h1; cases h1
      · rw [if_neg c2] at h1
        by_cases c3 : j = i + 1 ∧ l[j]? = some .second
        · rw [if_pos c3] at h1; cases h1
        · rw [if_neg c3] at h1
          have h3 := hw.1 _ _ h1 h2
          rw [A (j + 1)]
          have n1 : ¬ (j + 1 = i) := fun q => c2 ⟨q, q ▸ h3⟩
          have n2 : ¬ (j + 1 + 1 = i ∧ l[i]? = some .second) := fun ⟨q1, q2⟩ => by
            obtain ⟨j', w', f1, f2, f3⟩ := hw.2 _ q2
            have : j' = j + 1 := by omega
            subst this; rw [h3] at f2; cases f2
          have n3 : ¬ (j + 1 = i + 1 ∧ l[j + 1]? = some .second) := fun ⟨q1, _⟩ => c1 (by omega)
          rw [if_neg n1, if_neg n2, if_neg n3]; exact h3
  · rw [A j] at h1
    by_cases c1 : j = i
    · rw [if_pos c1] at h1; cases h1
    · rw [if_neg c1] at h1
      by_cases c2 : j + 1 = i ∧ l[i]? = some .second
      · rw [if_pos c2] at h1; cases h1
      · rw [if_neg c2] at h1
        by_cases c3 : j = i + 1 ∧ l[j]? = some .second
        · rw [if_pos c3] at h1; cases h1
        · rw [if_neg c3] at h1
          obtain ⟨j', w, e1, e2, e3⟩ := hw.2 _ h1
          refine ⟨j', w, e1, ?_, e3⟩
          rw [A j']
          have n1 : ¬ (j' = i) := fun q => c3 ⟨by omega, h1⟩
          have n2 : ¬ (j' + 1 = i ∧ l[i]? = some .second) := fun ⟨q, _⟩ => c1 (by omega)
          have n3 : ¬ (j' = i + 1 ∧ l[j']? = some .second) := fun ⟨_, q⟩ => by rw [e2] at q; cases q
          rw [if_neg n1, if_neg n2, if_neg n3]; exact e2
def lng (o : Option Slot) : Bool := match o with | some (.val w) => decide (w.category = 2) | _ => false
theorem lng_iff (o : Option Slot) : lng o = true ↔ ∃ w, o = some (.val w) ∧ w.category = 2 := by
  unfold lng
  split
  · rename_i w; simp
  · rename_i h; simp; intro w hw; exact absurd hw (h w)
/-- behind a store of a long -/
def After2 (l l' : Array Slot) (i : Nat) (v : Value) : Prop := ∀ j : Nat, l'[j]? = if j = i then some (.val v) else if j = i + 1 then some .second else if j + 1 = i ∧ l[i]? = some .second then some .unset else if j = i + 2 ∧ l[j]? = some .second then some .unset else l[j]?
theorem self2 {l : Array Slot} {i : Nat} {v : Value} (hi : i + 1 < l.size) (hv : v.category = 2) (hz : ∀ w, l[i + 1]? = some (.val w) → w.category = 2 → i + 2 < l.size) :
    ∃ l', storeSelf l i v = some l' ∧ l'.size = l.size ∧ ∀ j : Nat, l'[j]? = if j = i then some (.val v) else if j = i + 1 then some .second else if j = i + 2 ∧ lng l[i + 1]? = true then some .unset else l[j]? := by
  have hi0 : i < l.size := by omega
  have hg : l[i + 1]? = some l[i + 1] := Array.getElem?_eq_getElem hi
  have hne : (l.setIfInBounds i (.val v))[i + 1]? = l[i + 1]? := Array.getElem?_setIfInBounds_ne (by omega)
  have hplain : (∀ w, l[i + 1] = .val w → ¬ w.category = 2) → storeSelf l i v = some ((l.setIfInBounds i (.val v)).setIfInBounds (i + 1) .second) := fun hn => by
    cases hq : l[i + 1] with
    | val w => simp [storeSelf, setAt, hi0, hv, hne, hg, hq, hn _ hq, hi]
    | unset => simp [storeSelf, setAt, hi0, hv, hne, hg, hq, hi]
    | second => simp [storeSelf, setAt, hi0, hv, hne, hg, hq, hi]
  by_cases hx : ∃ w, l[i + 1] = .val w ∧ w.category = 2
  · obtain ⟨w, hw1, hw2⟩ := hx
    have h2 := hz w (by rw [hg, hw1]) hw2
    refine ⟨((l.setIfInBounds i (.val v)).setIfInBounds (i + 2) .unset).setIfInBounds (i + 1) .second, by simp [storeSelf, setAt, hi0, hv, hne, hg, hw1, hw2, hi, h2], by simp, fun j => ?_⟩
    rw [sib _ _ _ _ (by simpa using hi), sib _ _ _ _ (by simpa using h2), sib _ _ _ _ hi0]
    have hE : lng l[i + 1]? = true := (lng_iff _).mpr ⟨w, by rw [hg, hw1], hw2⟩
    by_cases c1 : j = i
    · subst c1; simp
    · by_cases c2 : j = i + 1
      · subst c2; simp
      · by_cases c3 : j = i + 2
        · subst c3; simp [hE]
        · simp [c1, c2, c3]
  · refine ⟨_, hplain fun w h1 h2 => hx ⟨w, h1, h2⟩, by simp, fun j => ?_⟩
    rw [sib _ _ _ _ (by simpa using hi), sib _ _ _ _ hi0]
    have hE : ¬ lng l[i + 1]? = true := fun q => by
      obtain ⟨w, q1, q2⟩ := (lng_iff _).mp q
      exact hx ⟨w, by rw [hg] at q1; exact Option.some.inj q1, q2⟩
    by_cases c1 : j = i
    · subst c1; simp
    · by_cases c2 : j = i + 1
      · subst c2; simp
      · simp [c1, c2, hE]
theorem store2w {l : Array Slot} {i : Nat} {v : Value} (hw : WFL l) (hi : i + 1 < l.size) (hv : v.category = 2) : ∃ l', storeLocals l i v = some l' ∧ l'.size = l.size ∧ After2 l l' i v := by
  have hi0 : i < l.size := by omega
  have hg : l[i]? = some l[i] := Array.getElem?_eq_getElem hi0
  have hz : ∀ w, l[i + 1]? = some (.val w) → w.category = 2 → i + 2 < l.size := fun w q1 q2 => (Array.getElem?_eq_some_iff.mp (hw.1 _ _ q1 q2)).1
  have hsec : ∀ j : Nat, (j = i + 2 ∧ lng l[i + 1]? = true) ↔ (j = i + 2 ∧ l[j]? = some .second) := fun j => by
    constructor
    · rintro ⟨rfl, q⟩
      obtain ⟨w, q1, q2⟩ := (lng_iff _).mp q
      exact ⟨rfl, hw.1 _ _ q1 q2⟩
    · rintro ⟨rfl, q⟩
      obtain ⟨j', w, e1, e2, e3⟩ := hw.2 _ q
      have : j' = i + 1 := by omega
      subst this; exact ⟨rfl, (lng_iff _).mpr ⟨w, e2, e3⟩⟩
  cases hq : l[i] with
  | unset =>
    rw [hq] at hg
    obtain ⟨l', h1, h2, h3⟩ := self2 hi hv hz
    refine ⟨l', by simp [storeLocals, hg, hq, hi0, h1], h2, fun j => ?_⟩
    rw [h3 j, hg]; simp only [hsec, reduceCtorEq, and_false, if_false, Option.some.injEq]
  | second =>
    rw [hq] at hg
    obtain ⟨j0, w, e1, e2, e3⟩ := hw.2 _ hg
    subst e1
    have hj0 : j0 < l.size := by omega
    have hi' : j0 + 1 + 1 < (l.setIfInBounds j0 .unset).size := by simpa using hi
    have hk : ∀ j : Nat, j ≠ j0 → (l.setIfInBounds j0 .unset)[j]? = l[j]? := fun j h => Array.getElem?_setIfInBounds_ne (Ne.symm h)
    obtain ⟨l', h1, h2, h3⟩ := self2 (l := l.setIfInBounds j0 .unset) hi' hv (fun w q1 q2 => by rw [hk _ (by omega)] at q1; simpa using hz w q1 q2)
    refine ⟨l', by simp [storeLocals, setAt, hg, hq, hi0, hj0, h1], by simpa using h2, fun j => ?_⟩
    rw [h3 j, hg, hk (j0 + 1 + 1) (by omega)]; simp only [hsec]
    by_cases c1 : j = j0 + 1
    · simp [c1]
    · by_cases c2 : j = j0 + 1 + 1
      · simp [c2]
      · by_cases c3 : j = j0
        · subst c3; simp [hj0]
        · rw [hk _ c3]
          have : ¬ (j + 1 = j0 + 1) := by omega
          simp [c1, c2, c3]
  | val old =>
    rw [hq] at hg
    by_cases hc : old.category = 2
    · have g1 := hw.1 _ _ hg hc
      have hi' : i + 1 < (l.setIfInBounds (i + 1) .unset).size := by simpa using hi
      have hk : ∀ j : Nat, j ≠ i + 1 → (l.setIfInBounds (i + 1) .unset)[j]? = l[j]? := fun j h => Array.getElem?_setIfInBounds_ne (Ne.symm h)
      have hk1 : (l.setIfInBounds (i + 1) .unset)[i + 1]? = some .unset := by simp [hi]
      obtain ⟨l', h1, h2, h3⟩ := self2 (l := l.setIfInBounds (i + 1) .unset) hi' hv (fun w q1 q2 => by rw [hk1] at q1; cases q1)
      refine ⟨l', by simp [storeLocals, setAt, hg, hq, hi0, hc, hi, h1], by simpa using h2, fun j => ?_⟩
      rw [h3 j, hg, hk1]
      by_cases c1 : j = i
      · simp [c1]
      · by_cases c2 : j = i + 1
        · simp [c2]
        · rw [hk _ c2]
          have c3 : ¬ (j = i + 2 ∧ l[j]? = some .second) := fun ⟨q1, q2⟩ => by
            subst q1
            obtain ⟨j', w, e1, e2, e3⟩ := hw.2 _ q2
            have : j' = i + 1 := by omega
            subst this; rw [g1] at e2; cases e2
          simp [c1, c2, c3, lng]
    · obtain ⟨l', h1, h2, h3⟩ := self2 hi hv hz
      refine ⟨l', by simp [storeLocals, hg, hq, hi0, hc, h1], h2, fun j => ?_⟩
      rw [h3 j, hg]; simp only [hsec, reduceCtorEq, and_false, if_false, Option.some.injEq]
theorem After2.wf {l l' : Array Slot} {i : Nat} {v : Value} (hw : WFL l) (hv : v.category = 2) (A : After2 l l' i v) : WFL l' := by
  refine ⟨fun j w h1 h2 => ?_, fun j h1 => ?_⟩
  · rw [A j] at h1
    by_cases c1 : j = i
    · subst c1; rw [A (j + 1)]; simp
    · rw [if_neg c1] at h1
      by_cases c0 : j = i + 1
      · rw [if_pos c0] at h1; cases h1
      · rw [if_neg c0] at h1
        by_cases c2 : j + 1 = i ∧ l[i]? = some .second
        · rw [if_pos c2] at h1; cases h1
        · rw [if_neg c2] at h1
          by_cases c3 : j = i + 2 ∧ l[j]? = some .second
          · rw [if_pos c3] at h1; cases h1
          · rw [if_neg c3] at h1
            have h3 := hw.1 _ _ h1 h2
            rw [A (j + 1)]
            have n1 : ¬ (j + 1 = i) := fun q => c2 ⟨q, q ▸ h3⟩
            have n0 : ¬ (j + 1 = i + 1) := by omega
            have n2 : ¬ (j + 1 + 1 = i ∧ l[i]? = some .second) := fun ⟨q1, q2⟩ => by
              obtain ⟨j', w', f1, f2, f3⟩ := hw.2 _ q2
              have : j' = j + 1 := by omega
              subst this; rw [h3] at f2; cases f2
            have n3 : ¬ (j + 1 = i + 2 ∧ l[j + 1]? = some .second) := fun ⟨q1, _⟩ => c0 (by omega)
            rw [if_neg n1, if_neg n0, if_neg n2, if_neg n3]; exact h3
  · rw [A j] at h1
    by_cases c1 : j = i
    · rw [if_pos c1] at h1; cases h1
    · rw [if_neg c1] at h1
      by_cases c0 : j = i + 1
      · subst c0; exact ⟨i, v, rfl, by rw [A i]; simp, hv⟩
      · rw [if_neg c0] at h1
        by_cases c2 : j + 1 = i ∧ l[i]? = some .second
        · rw [if_pos c2] at h1; cases h1
        · rw [if_neg c2] at h1
          by_cases c3 : j = i + 2 ∧ l[j]? = some .second
          · rw [if_pos c3] at h1; cases h1
          · rw [if_neg c3] at h1
            obtain ⟨j', w, e1, e2, e3⟩ := hw.2 _ h1
            refine ⟨j', w, e1, ?_, e3⟩
            rw [A j']
            have n1 : ¬ (j' = i) := fun q => c0 (by omega)
            have n0 : ¬ (j' = i + 1) := fun q => c3 ⟨by omega, h1⟩
            have n2 : ¬ (j' + 1 = i ∧ l[i]? = some .second) := fun ⟨q, _⟩ => c1 (by omega)
            have n3 : ¬ (j' = i + 2 ∧ l[j']? = some .second) := fun ⟨_, q⟩ => by rw [e2] at q; cases q
            rw [if_neg n1, if_neg n0, if_neg n2, if_neg n3]; exact e2
def LR (am : List Addr) (L : ALoc) (l : Array Slot) : Prop := L.length = l.size ∧ WFL l ∧ ∀ (i : Nat) v, L[i]? = some (some v) → ∃ w, l[i]? = some (.val w) ∧ VR am v w
theorem LR.mono {am am' : List Addr} (h : Pre am am') {L : ALoc} {l : Array Slot} (r : LR am L l) : LR am' L l :=
  ⟨r.1, r.2.1, fun i v q => by obtain ⟨w, h1, h2⟩ := r.2.2 i v q; exact ⟨w, h1, h2.mono h⟩⟩
theorem kill1_len (L : ALoc) (i : Nat) : (kill1 L i).length = L.length := by
  unfold kill1; split
  · rfl
  · split <;> simp
theorem kill1_get {L : ALoc} {i j : Nat} {v : Value} (h : (kill1 L i)[j]? = some (some v)) : L[j]? = some (some v) ∧ (j + 1 = i → ∀ x, v ≠ .long x) := by
  unfold kill1 at h
  split at h
  · exact ⟨h, fun q => by omega⟩
  · rename_i i
    split at h
    · rename_i x hx
      by_cases e : j = i
      · subst e
        rw [List.getElem?_set] at h
        split at h
        · split at h <;> simp at h
        · omega
      · rw [List.getElem?_set_ne (Ne.symm e)] at h
        exact ⟨h, fun q => absurd (by omega) e⟩
    · rename_i hn
      refine ⟨h, fun q x e => ?_⟩
      have : j = i := by omega
      subst this; subst e; exact hn x h
theorem LR.put {am : List Addr} {L L' : ALoc} {l : Array Slot} {i : Nat} {v w : Value} (r : LR am L l) (h : lput L i v = some L') (hv : VR am v w) (hc : w.category = 1) : ∃ l', storeLocals l i w = some l' ∧ l'.size = l.size ∧ LR am L' l' := by
  unfold lput at h
  cases hb : Nat.ble (i + 1) L.length
  · rw [hb] at h; cases h
  · rw [hb] at h
    have hi : i < L.length := Nat.le_of_ble_eq_true hb
    simp only [cond_true, Option.some.injEq] at h
    obtain ⟨l', h1, h2, h3⟩ := store1w (v := w) r.2.1 (by rw [← r.1]; exact hi) hc
    refine ⟨l', h1, h2, ?_, h3.wf r.2.1 hc, fun j u hu => ?_⟩
    · rw [← h]; simp [kill1_len, r.1, h2]
    · rw [← h, List.getElem?_set] at hu
      rw [h3 j]
      by_cases c : i = j
      · subst c
        simp only [if_true] at hu
        split at hu
        · cases hu; exact ⟨w, by simp, hv⟩
        · cases hu
      · rw [if_neg c] at hu
        obtain ⟨q1, q2⟩ := kill1_get hu
        obtain ⟨w', q3, q4⟩ := r.2.2 j u q1
        have n1 : ¬ (j = i) := fun q => c q.symm
        have n2 : ¬ (j + 1 = i ∧ l[i]? = some .second) := fun ⟨a1, a2⟩ => by
          obtain ⟨j', w2, e1, e2, e3⟩ := r.2.1.2 _ a2
          have : j' = j := by omega
          subst this; rw [q3] at e2; cases e2
          have q5 := q4.cat
          rw [e3] at q5
          cases u <;> simp [OwnX.cat] at q5
          exact q2 a1 _ rfl
        have n3 : ¬ (j = i + 1 ∧ l[j]? = some .second) := fun ⟨_, q⟩ => by rw [q3] at q; cases q
        exact ⟨w', by rw [if_neg n1, if_neg n2, if_neg n3]; exact q3, q4⟩
theorem LR.putL {am : List Addr} {L L' : ALoc} {l : Array Slot} {i : Nat} {x : Int64} (r : LR am L l) (h : lputL L i x = some L') : ∃ l', storeLocals l i (.long x) = some l' ∧ l'.size = l.size ∧ LR am L' l' := by
  unfold lputL at h
  cases hb : Nat.ble (i + 2) L.length
  · rw [hb] at h; cases h
  · rw [hb] at h
    have hi : i + 1 < L.length := Nat.le_of_ble_eq_true hb
    simp only [cond_true, Option.some.injEq] at h
    obtain ⟨l', h1, h2, h3⟩ := store2w (v := .long x) r.2.1 (by rw [← r.1]; exact hi) rfl
    refine ⟨l', h1, h2, ?_, h3.wf r.2.1 rfl, fun j u hu => ?_⟩
    · rw [← h]; simp [kill1_len, r.1, h2]
    · rw [← h, List.getElem?_set] at hu
      rw [h3 j]
      by_cases c0 : i + 1 = j
      · subst c0
        simp only [if_true] at hu
        split at hu <;> cases hu
      · rw [if_neg c0, List.getElem?_set] at hu
        by_cases c : i = j
        · subst c
          simp only [if_true] at hu
          split at hu
          · cases hu; exact ⟨.long x, by simp, rfl⟩
          · cases hu
        · rw [if_neg c] at hu
          obtain ⟨q1, q2⟩ := kill1_get hu
          obtain ⟨w', q3, q4⟩ := r.2.2 j u q1
          have n1 : ¬ (j = i) := fun q => c q.symm
          have n0 : ¬ (j = i + 1) := fun q => c0 q.symm
          have n2 : ¬ (j + 1 = i ∧ l[i]? = some .second) := fun ⟨a1, a2⟩ => by
            obtain ⟨j', w2, e1, e2, e3⟩ := r.2.1.2 _ a2
            have : j' = j := by omega
            subst this; rw [q3] at e2; cases e2
            have q5 := q4.cat
            rw [e3] at q5
            cases u <;> simp [OwnX.cat] at q5
            exact q2 a1 _ rfl
          have n3 : ¬ (j = i + 2 ∧ l[j]? = some .second) := fun ⟨_, q⟩ => by rw [q3] at q; cases q
          exact ⟨w', by rw [if_neg n1, if_neg n0, if_neg n2, if_neg n3]; exact q3, q4⟩
theorem LR.int {am : List Addr} {L : ALoc} {l : Array Slot} {i : Nat} {x : Int32} (r : LR am L l) (h : loadI L i = some x) : l[i]? = some (.val (.int x)) := by
  unfold loadI at h
  split at h
  · rename_i y hy
    cases h
    obtain ⟨w, h1, h2⟩ := r.2.2 _ _ hy
    cases h2; exact h1
  · cases h
theorem LR.long {am : List Addr} {L : ALoc} {l : Array Slot} {i : Nat} {x : Int64} (r : LR am L l) (h : loadJ L i = some x) : l[i]? = some (.val (.long x)) := by
  unfold loadJ at h
  split at h
  · rename_i y hy
    cases h
    obtain ⟨w, h1, h2⟩ := r.2.2 _ _ hy
    cases h2; exact h1
  · cases h
theorem LR.ref {am : List Addr} {L : ALoc} {l : Array Slot} {i x : Nat} (r : LR am L l) (h : loadA L i = some x) : ∃ a, am[x]? = some a ∧ l[i]? = some (.val (.ref a)) := by
  unfold loadA at h
  split at h
  · rename_i y hy
    cases h
    obtain ⟨w, h1, a, h2, rfl⟩ := r.2.2 _ _ hy
    exact ⟨a, h2, h1⟩
  · cases h
end Jvm.OwnX
namespace Jvm.OwnX
open Sem ClassFile Op Lib Jvm.Stand Jvm.Free Jvm.LawKit Jvm.RoadKit
/-! ## the entry's variables -/
def slotsL : List Value → List Slot
  | [] => []
  | v :: r => if v.category = 2 then .val v :: .second :: slotsL r else .val v :: slotsL r
theorem fold_slots : ∀ (ws : List Value) (acc : Array Slot), ws.foldl (fun acc v => if v.category = 2 then (acc.push (.val v)).push .second else acc.push (.val v)) acc = acc ++ (slotsL ws).toArray
  | [], acc => by simp [slotsL]
  | v :: r, acc => by
    rw [List.foldl_cons, fold_slots r]
    by_cases h : v.category = 2
    · simp only [h, if_true, slotsL]; apply Array.ext'; simp
    · simp only [h, if_false, slotsL]; apply Array.ext'; simp
theorem argsToLocals_eq (ws : List Value) (n : Nat) : argsToLocals ws.toArray n = (slotsL ws ++ List.replicate (n - (slotsL ws).length) Slot.unset).toArray := by
  unfold argsToLocals
  have h : Array.foldl (fun acc v => if v.category = 2 then (acc.push (.val v)).push .second else acc.push (.val v)) #[] ws.toArray = (slotsL ws).toArray := by
    rw [List.foldl_toArray, fold_slots]; simp
  simp only [h]
  apply Array.ext'; simp
def WFl (s : List Slot) : Prop := (∀ (i : Nat) (w : Value), s[i]? = some (Slot.val w) → w.category = 2 → s[i + 1]? = some Slot.second) ∧ (∀ (i : Nat), s[i]? = some Slot.second → ∃ (j : Nat) (w : Value), i = j + 1 ∧ s[j]? = some (Slot.val w) ∧ w.category = 2)
theorem WFl.nil : WFl [] := ⟨fun i w h => by simp at h, fun i h => by simp at h⟩
theorem WFl.one {s : List Slot} (h : WFl s) {v : Value} (hv : ¬ v.category = 2) : WFl (.val v :: s) := by
  refine ⟨fun i w h1 h2 => ?_, fun i h1 => ?_⟩
  · cases i with
    | zero => simp at h1; subst h1; exact absurd h2 hv
    | succ i => rw [List.getElem?_cons_succ] at h1 ⊢; exact h.1 _ _ h1 h2
  · cases i with
    | zero => simp at h1
    | succ i =>
      rw [List.getElem?_cons_succ] at h1
      obtain ⟨j, w, rfl, e2, e3⟩ := h.2 _ h1
      exact ⟨j + 1, w, rfl, by rw [List.getElem?_cons_succ]; exact e2, e3⟩
theorem WFl.two {s : List Slot} (h : WFl s) {v : Value} (hv : v.category = 2) : WFl (.val v :: .second :: s) := by
  refine ⟨fun i w h1 h2 => ?_, fun i h1 => ?_⟩
  · match i with
    | 0 => simp
    | 1 => simp at h1
    | i + 2 => simp only [List.getElem?_cons_succ] at h1 ⊢; exact h.1 _ _ h1 h2
  · match i with
    | 0 => simp at h1
    | 1 => exact ⟨0, v, rfl, by simp, hv⟩
    | i + 2 =>
      simp only [List.getElem?_cons_succ] at h1
      obtain ⟨j, w, rfl, e2, e3⟩ := h.2 _ h1
      exact ⟨j + 2, w, rfl, by simp only [List.getElem?_cons_succ]; exact e2, e3⟩
theorem WFl.pad {s : List Slot} (h : WFl s) (n : Nat) : WFl (s ++ List.replicate n Slot.unset) := by
  have hk : ∀ (i : Nat) (x : Slot), (s ++ List.replicate n Slot.unset)[i]? = some x → x ≠ Slot.unset → s[i]? = some x := fun i x q hx => by
    by_cases c : i < s.length
    · rw [List.getElem?_append_left c] at q; exact q
    · rw [List.getElem?_append_right (by omega), List.getElem?_replicate] at q
      split at q
      · cases q; exact absurd rfl hx
      · cases q
  have hl : ∀ (i : Nat) (x : Slot), s[i]? = some x → (s ++ List.replicate n Slot.unset)[i]? = some x := fun i x q => by
    rw [List.getElem?_append_left (List.getElem?_eq_some_iff.mp q).1]; exact q
  refine ⟨fun i w h1 h2 => hl _ _ (h.1 _ _ (hk _ _ h1 (by simp)) h2), fun i h1 => ?_⟩
  obtain ⟨j, w, e1, e2, e3⟩ := h.2 _ (hk _ _ h1 (by simp))
  exact ⟨j, w, e1, hl _ _ e2, e3⟩
theorem slotsL_ok {am : List Addr} : ∀ {as ws : List Value}, SR am as ws → (entL as).length = (slotsL ws).length ∧ WFl (slotsL ws) ∧ ∀ (i : Nat) (v : Value), (entL as)[i]? = some (some v) → ∃ w, (slotsL ws)[i]? = some (Slot.val w) ∧ VR am v w
  | [], _, h => by cases h; exact ⟨rfl, WFl.nil, fun i v q => by simp [entL] at q⟩
  | v :: r, _, ⟨w, ws', e, r1, r2⟩ => by
    subst e
    obtain ⟨i1, i2, i3⟩ := slotsL_ok r2
    have hc := r1.cat
    by_cases h2 : ∃ x, v = .long x
    · obtain ⟨x, rfl⟩ := h2
      have hc2 : w.category = 2 := hc
      refine ⟨by simp [entL, slotsL, hc2, i1], by simp only [slotsL, hc2, if_true]; exact i2.two hc2, fun i u q => ?_⟩
      simp only [slotsL, hc2, if_true, entL] at q ⊢
      match i with
      | 0 => simp at q; subst q; exact ⟨w, by simp, r1⟩
      | 1 => simp at q
      | i + 2 => simp only [List.getElem?_cons_succ] at q ⊢; exact i3 i u q
    · have hv1 : OwnX.cat v = 1 := by cases v <;> first | rfl | (exact absurd ⟨_, rfl⟩ h2)
      have hc2 : ¬ w.category = 2 := by rw [hc, hv1]; decide
      have he : entL (v :: r) = some v :: entL r := by cases v <;> first | rfl | (exact absurd ⟨_, rfl⟩ h2)
      refine ⟨by simp [he, slotsL, hc2, i1], by simp only [slotsL, hc2, if_false]; exact i2.one hc2, fun i u q => ?_⟩
      rw [he] at q
      simp only [slotsL, hc2, if_false]
      match i with
      | 0 => simp at q; subst q; exact ⟨w, by simp, r1⟩
      | i + 1 => simp only [List.getElem?_cons_succ] at q ⊢; exact i3 i u q
theorem LR.entry {am : List Addr} {as ws : List Value} {n : Nat} (h : SR am as ws) (hn : (entL as).length ≤ n) : LR am (pad n (entL as)) (argsToLocals ws.toArray n) := by
  obtain ⟨h1, h2, h3⟩ := slotsL_ok h
  rw [argsToLocals_eq]
  have hw := h2.pad (n - (slotsL ws).length)
  refine ⟨by simp [pad, h1], ⟨fun i w q1 q2 => ?_, fun i q1 => ?_⟩, fun i v q => ?_⟩
  · rw [List.getElem?_toArray] at q1 ⊢; exact hw.1 _ _ q1 q2
  · rw [List.getElem?_toArray] at q1
    obtain ⟨j, w, e1, e2, e3⟩ := hw.2 _ q1
    exact ⟨j, w, e1, by rw [List.getElem?_toArray]; exact e2, e3⟩
  · have hi : i < (entL as).length := by
      by_cases c : i < (entL as).length
      · exact c
      · unfold pad at q
        rw [List.getElem?_append_right (by omega), List.getElem?_replicate] at q
        split at q
        · cases q
        · cases q
    unfold pad at q
    rw [List.getElem?_append_left hi] at q
    obtain ⟨w, e1, e2⟩ := h3 i v q
    exact ⟨w, by rw [List.getElem?_toArray, List.getElem?_append_left (by omega)]; exact e1, e2⟩
theorem entry_size {ws : List Value} {n : Nat} (h : (slotsL ws).length ≤ n) : (argsToLocals ws.toArray n).size = n := by
  rw [argsToLocals_eq]; simp; omega
/-! ## the heap -/
def aty : Nat → FieldType
  | 0 => .int
  | 1 => .int
  | 2 => .boolean
  | 3 => .byte
  | _ => .long
def CR (P : Prog) (C : String) (Z : State) (am : List Addr) (c : ACell) (h : Heap) (a : Addr) : Prop := match c with
  | .inl fs => Exa Z h a C ∧ fs.length = P.fields.length ∧ ∀ (j : Nat) (v : Value) (n d : String) (t : Nat) (f : Bool), fs[j]? = some v → P.fields[j]? = some (n, d, t, f) → ∃ w, VR am v w ∧ Fld Z h a C n d w
  | .inr (.inl (t, xs)) => ∃ cl, Arr Z h a cl (aty t) ∧ cl.slots.size = xs.length ∧ ∀ (j : Nat) (x : Int32), xs[j]? = some x → cl.slots[j]? = some (.int x)
  | .inr (.inr xs) => ∃ cl, Arr Z h a cl .long ∧ cl.slots.size = xs.length ∧ ∀ (j : Nat) (x : Int64), xs[j]? = some x → cl.slots[j]? = some (.long x)
def HR (P : Prog) (C : String) (Z : State) (n0 : Nat) (am : List Addr) (H : AHeap) (h : Heap) : Prop :=
  am.length = H.length ∧ (∀ (i j : Nat) (a : Addr), am[i]? = some a → am[j]? = some a → i = j) ∧ (∀ (i : Nat) (a : Addr), am[i]? = some a → a < h.size ∧ (P.ro ≤ i → n0 ≤ a)) ∧ ∀ (i : Nat) (c : ACell), H[i]? = some c → ∃ a, am[i]? = some a ∧ CR P C Z am c h a
section Heap
variable {P : Prog} {C : String} {Z : State} {n0 : Nat} {am am' : List Addr} {H : AHeap} {h h' : Heap} {a b : Addr} {c : ACell}
theorem CR.ext (E : Ext h h') (hp : Pre am am') (r : CR P C Z am c h a) : CR P C Z am' c h' a := by
  match c, r with
  | .inl fs, ⟨r1, r2, r3⟩ => exact ⟨r1.ext E, r2, fun j v n d t f q1 q2 => by obtain ⟨w, e1, e2⟩ := r3 j v n d t f q1 q2; exact ⟨w, e1.mono hp, e2.ext E⟩⟩
  | .inr (.inl (t, xs)), ⟨cl, r1, r2⟩ => exact ⟨cl, r1.ext E, r2⟩
  | .inr (.inr xs), ⟨cl, r1, r2⟩ => exact ⟨cl, r1.ext E, r2⟩
theorem CR.other {sl : Nat} {v : Value} (W : Wr h h' b sl v) (hne : a ≠ b) (r : CR P C Z am c h a) : CR P C Z am c h' a := by
  match c, r with
  | .inl fs, ⟨r1, r2, r3⟩ => exact ⟨r1.wr W, r2, fun j v n d t f q1 q2 => by obtain ⟨w, e1, e2⟩ := r3 j v n d t f q1 q2; exact ⟨w, e1, e2.other W (Or.inl hne)⟩⟩
  | .inr (.inl (t, xs)), ⟨cl, r1, r2⟩ => exact ⟨cl, r1.other W hne, r2⟩
  | .inr (.inr xs), ⟨cl, r1, r2⟩ => exact ⟨cl, r1.other W hne, r2⟩
/-- a new cell -/
theorem HR.push (E : Ext h h') (r : HR P C Z n0 am H h) (hlt : h.size < h'.size) (hn : n0 ≤ h.size) (hc : CR P C Z (am ++ [h.size]) c h' h.size) : HR P C Z n0 (am ++ [h.size]) (H ++ [c]) h' := by
  obtain ⟨r1, r2, r3, r4⟩ := r
  have hin : ∀ (i : Nat) (x : Addr), (am ++ [h.size])[i]? = some x → (am[i]? = some x ∧ i < am.length) ∨ (i = am.length ∧ x = h.size) := fun i x q => by
    by_cases ci : i < am.length
    · rw [List.getElem?_append_left ci] at q; exact Or.inl ⟨q, ci⟩
    · rw [List.getElem?_append_right (by omega)] at q
      have : i - am.length = 0 := by
        by_cases z : i - am.length = 0
        · exact z
        · rw [List.getElem?_eq_none (by simp; omega)] at q; cases q
      rw [this] at q
      simp at q
      exact Or.inr ⟨by omega, q.symm⟩
  refine ⟨by simp [r1], fun i j x q1 q2 => ?_, fun i x q => ?_, fun i d q => ?_⟩
  · rcases hin i x q1 with ⟨u1, u2⟩ | ⟨u1, u2⟩ <;> rcases hin j x q2 with ⟨v1, v2⟩ | ⟨v1, v2⟩
    · exact r2 _ _ _ u1 v1
    · subst v2; exact absurd (r3 _ _ u1).1 (Nat.lt_irrefl _)
    · subst u2; exact absurd (r3 _ _ v1).1 (Nat.lt_irrefl _)
    · omega
  · rcases hin i x q with ⟨u1, u2⟩ | ⟨u1, u2⟩
    · have := r3 _ _ u1; exact ⟨Nat.lt_of_lt_of_le this.1 E.1, this.2⟩
    · subst u2; exact ⟨hlt, fun _ => hn⟩
  · by_cases ci : i < H.length
    · rw [List.getElem?_append_left ci] at q
      obtain ⟨x, e1, e2⟩ := r4 i d q
      exact ⟨x, Pre.app am _ _ _ e1, e2.ext E (Pre.app am _)⟩
    · rw [List.getElem?_append_right (by omega)] at q
      have : i - H.length = 0 := by
        by_cases z : i - H.length = 0
        · exact z
        · rw [List.getElem?_eq_none (by simp; omega)] at q; cases q
      rw [this] at q
      simp at q; subst q
      have e : i = am.length := by omega
      exact ⟨h.size, by rw [e]; simp, hc⟩
/-- a cell changed in place -/
theorem HR.upd {i sl : Nat} {v : Value} (W : Wr h h' a sl v) (r : HR P C Z n0 am H h) (hi : am[i]? = some a) (hc : CR P C Z am c h' a) : HR P C Z n0 am (H.set i c) h' := by
  obtain ⟨r1, r2, r3, r4⟩ := r
  refine ⟨by simp [r1], r2, fun j x q => by rw [W.size]; exact r3 _ _ q, fun j d q => ?_⟩
  rw [List.getElem?_set] at q
  by_cases e : i = j
  · subst e
    simp only [if_true] at q
    split at q
    · cases q; exact ⟨a, hi, hc⟩
    · cases q
  · rw [if_neg e] at q
    obtain ⟨x, e1, e2⟩ := r4 j d q
    exact ⟨x, e1, e2.other W fun q => e (r2 _ _ _ hi (q ▸ e1))⟩
theorem inb_spec {n : Nat} {j : Int32} (h : inb n j = true) : ¬ (j < 0 ∨ n ≤ j.toNatClampNeg) := by
  simp only [inb, Bool.and_eq_true, Bool.not_eq_true', decide_eq_false_iff_not] at h
  have h2 : j.toNatClampNeg < n := Nat.le_of_ble_eq_true h.2
  rintro (q | q)
  · exact h.1 q
  · omega
theorem inb_lt {n : Nat} {j : Int32} (h : inb n j = true) : j.toNatClampNeg < n := by
  have := inb_spec h; exact Nat.lt_of_not_le fun q => this (Or.inr q)
theorem rd_at {xs : List Int32} {j : Int32} (h : inb xs.length j = true) : xs[j.toNatClampNeg]? = some (rd xs j) := by
  rw [rd, List.getD_eq_getElem?_getD, List.getElem?_eq_getElem (inb_lt h)]; rfl
theorem rdL_at {xs : List Int64} {j : Int32} (h : inb xs.length j = true) : xs[j.toNatClampNeg]? = some (rdL xs j) := by
  rw [rdL, List.getD_eq_getElem?_getD, List.getElem?_eq_getElem (inb_lt h)]; rfl
theorem CR.wrI {t : Nat} {xs : List Int32} {j x : Int32} (W : Wr h h' a j.toNatClampNeg (.int x)) (r : CR P C Z am (.inr (.inl (t, xs))) h a) : CR P C Z am (.inr (.inl (t, wr xs j x))) h' a := by
  obtain ⟨cl, r1, r2, r3⟩ := r
  refine ⟨_, r1.same W, by rw [sz_set, r2]; simp [wr], fun i y q => ?_⟩
  unfold wr at q
  rw [List.getElem?_set] at q
  by_cases e : j.toNatClampNeg = i
  · rw [if_pos e] at q
    split at q
    · cases q; subst e
      have hs : j.toNatClampNeg < cl.slots.size := by omega
      simp [Cell.setSlot, hs]
    · cases q
  · rw [if_neg e] at q
    simp only [Cell.setSlot]
    rw [Array.getElem?_setIfInBounds_ne e]; exact r3 _ _ q
theorem CR.wrJ {xs : List Int64} {j : Int32} {x : Int64} (W : Wr h h' a j.toNatClampNeg (.long x)) (r : CR P C Z am (.inr (.inr xs)) h a) : CR P C Z am (.inr (.inr (wrL xs j x))) h' a := by
  obtain ⟨cl, r1, r2, r3⟩ := r
  refine ⟨_, r1.same W, by rw [sz_set, r2]; simp [wrL], fun i y q => ?_⟩
  unfold wrL at q
  rw [List.getElem?_set] at q
  by_cases e : j.toNatClampNeg = i
  · rw [if_pos e] at q
    split at q
    · cases q; subst e
      have hs : j.toNatClampNeg < cl.slots.size := by omega
      simp [Cell.setSlot, hs]
    · cases q
  · rw [if_neg e] at q
    simp only [Cell.setSlot]
    rw [Array.getElem?_setIfInBounds_ne e]; exact r3 _ _ q
end Heap
/-! ## what the sheet's words must say -/
def tyOk : Nat → FieldType → Bool
  | 0, .int => true
  | 1, .boolean => true
  | 2, .long => true
  | 3, .array _ => true
  | _, _ => false
def rcv (q : Nat) : Nat := match q with | 0 => 0 | _ => 1
def KindOk (P : Prog) (nm : Nat → MethodName) (C : String) (Z : State) (a0 : Array Value) (q k : Nat) : Prop := match q with
  | 0 => (Cond.static (nm k)).before a0 Z = true
  | 1 => (nm k).name = "<init>" ∧ (Cond.instanceMethod (nm k)).before a0 Z = true ∧ P.ret k = none
  | 2 => (Cond.declares (nm k)).before a0 Z = true ∧ (Cond.instanceMethod (nm k)).before a0 Z = true ∧ (Cond.selects C (nm k) (nm k)).before a0 Z = true
  | _ => (nm k).cls = C ∧ (Cond.instanceMethod (nm k)).before a0 Z = true ∧ (Cond.privateMethod (nm k)).before a0 Z = true
def CallOk (P : Prog) (nm : Nat → MethodName) (bc : Nat → ByteArray) (cn : Nat → String) (C : String) (Z : State) (a0 : Array Value) (c j q k : Nat) : Prop :=
  (Cond.methodLink (cn c) j (nm k)).before a0 Z = true ∧ (Cond.code (nm k) (bc k) (P.maxL k) (P.ret k)).before a0 Z = true ∧ (Cond.initialized (nm k).cls).before a0 Z = true ∧
      (∃ ps r, parseMethodDescriptor (nm k).desc = some ⟨ps, r⟩ ∧ P.pops k = ps.length + rcv q) ∧ plainName (nm k).cls = true ∧ ((nm k).cls ≠ "java/lang/invoke/MethodHandle" ∧ (nm k).cls ≠ "java/lang/invoke/VarHandle") ∧ (nm k).cls = cn (P.cls k) ∧ (P.ini k = true → (nm k).name = "<init>" ∧ (nm k).cls = C) ∧ KindOk P nm C Z a0 q k
def LinkOk (P : Prog) (nm : Nat → MethodName) (bc : Nat → ByteArray) (cn : Nat → String) (C : String) (Z : State) (a0 : Array Value) (c j q k : Nat) : Prop := match q with
  | 4 => (Cond.methodLink (cn c) j Lib.objectInit).before a0 Z = true ∧ (Cond.instanceMethod Lib.objectInit).before a0 Z = true ∧ (Cond.code Lib.objectInit ⟨#[0xb1]⟩ 1 none).before a0 Z = true
  | 5 => (Cond.classLink (cn c) j C).before a0 Z = true
  | q => CallOk P nm bc cn C Z a0 c j q k
def KonOk (cn : Nat → String) (Z : State) (a0 : Array Value) (c j : Nat) (v : Value) : Prop := match v with
  | .int x => (Cond.constant (cn c) j x).before a0 Z = true
  | .long x => (Cond.constantLong (cn c) j x).before a0 Z = true
  | _ => False
def Good (P : Prog) (nm : Nat → MethodName) (bc : Nat → ByteArray) (cn : Nat → String) (C : String) (Z : State) (a0 : Array Value) : Prop :=
  (∀ k pc i np, P.code k pc = some (i, np) → ∃ len, decode (bc k) pc = .ok (i, len) ∧ np = pc + len ∧ (ilen i = 0 ∨ len = ilen i)) ∧
  (∀ c j f, P.fld c j = some f → ∃ n d t fin, P.fields[f]? = some (n, d, t, fin) ∧ (Cond.fieldLink (cn c) j C n d).before a0 Z = true) ∧
  (∀ (f : Nat) n d t (fin : Bool), P.fields[f]? = some (n, d, t, fin) → (bif fin then (Cond.laysFinal C C n d).before a0 Z else (Cond.lays C C n d).before a0 Z) = true ∧ ∃ ty, parseFieldDescriptor d = some ty ∧ tyOk t ty = true ∧ defaultValue ty = dflt t) ∧
  (∀ (f g : Nat) n d t (fin : Bool) n' d' t' (fin' : Bool), P.fields[f]? = some (n, d, t, fin) → P.fields[g]? = some (n', d', t', fin') → f ≠ g → n ≠ n') ∧
  (∀ c j v, P.kon c j = some v → KonOk cn Z a0 c j v) ∧
  (Cond.instantiable C P.objN).before a0 Z = true ∧ (Cond.initialized C).before a0 Z = true ∧
  (∀ k pc t np, P.code k pc = some (.newarray t, np) → (Cond.arrayClass (newarray.typeOf t)).before a0 Z = true) ∧
  (∀ c j q k, P.link c j = some (q, k) → LinkOk P nm bc cn C Z a0 c j q k)
end Jvm.OwnX
namespace Jvm.OwnX
open Sem ClassFile Op Lib Jvm.Stand Jvm.Free Jvm.LawKit Jvm.RoadKit
section Sound
variable {p : Program} {l : Launch} {e : Env} {R : Room} {s : State} {m : MethodId} {args : Array Value} {below : List Frame} {meth : Method} {c : Code} {T : State} {locs : List Loc} {cells slots : Nat}
variable {P : Prog} {nm : Nat → MethodName} {bc : Nat → ByteArray} {cn : Nat → String} {C : String} {Z : State} {a0 : Array Value} {n0 : Nat}
/-- where the walk stands behind a step -/
def Behind (p : Program) (l : Launch) (e : Env) (R : Room) (s : State) (m : MethodId) (args : Array Value) (below : List Frame) (meth : Method) (c : Code) (P : Prog) (C : String) (Z : State) (n0 : Nat) (am : List Addr) (cells slots : Nat)
    (T : State) (pc : Nat) (ls : Array Slot) (st : List Value) (pc' : Nat) (L' : ALoc) (S' : List Value) (H' : AHeap) (dc ds : Nat) : Prop :=
  ∃ T' am' ls' st' locs', Stand p l e R s m args below meth c T' locs' (cells + dc) (slots + ds) ∧ LR am' L' ls' ∧ ls'.size = ls.size ∧ SR am' S' st' ∧ HR P C Z n0 am' H' T'.heap ∧ Pre am am' ∧ Fr n0 locs' ∧ n0 ≤ T'.heap.size ∧
    ∀ target, Steps p.tables e below (T'.setTop (mkF m pc' ls' st')) target → Steps p.tables e below (T.setTop (mkF m pc ls st)) target
theorem Behind.plain {am : List Addr} {H : AHeap} {pc pc' : Nat} {L' : ALoc} {S' : List Value} {ls ls' : Array Slot} {st st' : List Value} (X : Stand p l e R s m args below meth c T locs cells slots) (hL : LR am L' ls') (hz : ls'.size = ls.size) (hS : SR am S' st') (hH : HR P C Z n0 am H T.heap) (hF : Fr n0 locs) (hn : n0 ≤ T.heap.size)
    (hs : ∀ target, Steps p.tables e below (T.setTop (mkF m pc' ls' st')) target → Steps p.tables e below (T.setTop (mkF m pc ls st)) target) : Behind p l e R s m args below meth c P C Z n0 am cells slots T pc ls st pc' L' S' H (H.length - H.length) (hsz P H - hsz P H) :=
  ⟨T, am, ls', st', locs, by simpa using X, hL, hz, hS, hH, Pre.refl _, hF, hn, hs⟩
theorem Behind.plain' {T' : State} {am : List Addr} {H : AHeap} {pc pc' : Nat} {L' : ALoc} {S' : List Value} {ls ls' : Array Slot} {st st' : List Value} (X : Stand p l e R s m args below meth c T' locs cells slots) (eT : T'.heap = T.heap) (hL : LR am L' ls') (hz : ls'.size = ls.size) (hS : SR am S' st') (hH : HR P C Z n0 am H T.heap) (hF : Fr n0 locs) (hn : n0 ≤ T.heap.size)
    (hs : ∀ target, Steps p.tables e below (T'.setTop (mkF m pc' ls' st')) target → Steps p.tables e below (T.setTop (mkF m pc ls st)) target) : Behind p l e R s m args below meth c P C Z n0 am cells slots T pc ls st pc' L' S' H (H.length - H.length) (hsz P H - hsz P H) :=
  ⟨T', am, ls', st', locs, by simpa using X, hL, hz, hS, by rw [eT]; exact hH, Pre.refl _, hF, by rw [eT]; exact hn, hs⟩
theorem tgt_spec {pc t : Nat} {o : Int} (h : tgt pc o = some t) : 0 ≤ (pc : Int) + o ∧ ((pc : Int) + o).toNat = t := by
  unfold tgt at h
  split at h
  · rename_i n hn; cases h; rw [hn]; exact ⟨Int.natCast_nonneg _, rfl⟩
  · cases h
theorem hsz_app (P : Prog) : ∀ (H : AHeap) (c : ACell), hsz P (H ++ [c]) = hsz P H + csz P.objN c
  | [], c => by simp [hsz]
  | x :: r, c => by simp only [List.cons_append, hsz, hsz_app P r c]; omega
theorem hsz_append (P : Prog) : ∀ (H T : AHeap), hsz P (H ++ T) = hsz P H + hsz P T
  | [], T => by simp [hsz]
  | x :: r, T => by simp only [List.cons_append, hsz, hsz_append P r T]; omega
theorem hsz_set (P : Prog) : ∀ (H : AHeap) (i : Nat) (c c' : ACell), H[i]? = some c' → csz P.objN c = csz P.objN c' → hsz P (H.set i c) = hsz P H
  | [], i, c, c', h, _ => by simp at h
  | x :: r, 0, c, c', h, e => by simp at h; subst h; simp [hsz, e]
  | x :: r, i + 1, c, c', h, e => by simp only [List.set_cons_succ, hsz]; rw [List.getElem?_cons_succ] at h; rw [hsz_set P r i c c' h e]
/-- a write -/
theorem Behind.write {T' : State} {am : List Addr} {H : AHeap} {i sl : Nat} {cc cc' : ACell} {a : Addr} {w : Value} {h' : Heap} {pc pc' : Nat} {L' : ALoc} {S' : List Value} {ls : Array Slot} {st st' : List Value} (X : Stand p l e R s m args below meth c T' (locs ++ [⟨a, sl⟩]) cells slots) (eT : T'.heap = h') (W : Wr T.heap h' a sl w)
    (hL : LR am L' ls) (hS : SR am S' st') (hH : HR P C Z n0 am H T.heap) (hi : am[i]? = some a) (hro : P.ro ≤ i) (hc' : H[i]? = some cc') (hcs : csz P.objN cc = csz P.objN cc') (hC : CR P C Z am cc h' a) (hF : Fr n0 locs) (hn : n0 ≤ T.heap.size)
    (hs : ∀ target, Steps p.tables e below (T'.setTop (mkF m pc' ls st')) target → Steps p.tables e below (T.setTop (mkF m pc ls st)) target) :
    Behind p l e R s m args below meth c P C Z n0 am cells slots T pc ls st pc' L' S' (H.set i cc) ((H.set i cc).length - H.length) (hsz P (H.set i cc) - hsz P H) := by
  rw [hsz_set P H i cc cc' hc' hcs]
  refine ⟨T', am, ls, st', _, by simpa using X, hL, rfl, hS, by rw [eT]; exact hH.upd W hi hC, Pre.refl _, Fr.snoc X hF ((hH.2.2.1 _ _ hi).2 hro), by rw [eT, W.size]; exact hn, hs⟩
theorem arr_new {am : List Addr} {h h' : Heap} {cA : ClassId} {q : Nat} {n : Int32} {t : ArrayType} (ht : atyOf t = some q) (hn : ¬ n < 0) (A : Arr Z h' h.size (newA cA (newarray.typeOf t) n) (newarray.typeOf t)) : CR P C Z am (newC q n.toNatClampNeg) h' h.size := by
  have key : ∀ {d : Value}, ∀ j, (Array.replicate n.toNatClampNeg d)[j]? = if j < n.toNatClampNeg then some d else none := fun j => by rw [Array.getElem?_replicate]
  cases t <;> simp only [atyOf, Option.some.injEq, reduceCtorEq] at ht <;> subst ht
  · refine ⟨_, A, by simp [newA], fun j x q => ?_⟩
    rw [List.getElem?_replicate] at q
    split at q
    · cases q; simp only [newA]; rw [key, if_pos (by assumption)]; rfl
    · cases q
  · refine ⟨_, A, by simp [newA], fun j x q => ?_⟩
    rw [List.getElem?_replicate] at q
    split at q
    · cases q; simp only [newA]; rw [key, if_pos (by assumption)]; rfl
    · cases q
  · refine ⟨_, A, by simp [newA], fun j x q => ?_⟩
    rw [List.getElem?_replicate] at q
    split at q
    · cases q; simp only [newA]; rw [key, if_pos (by assumption)]; rfl
    · cases q
  · refine ⟨_, A, by simp [newA], fun j x q => ?_⟩
    rw [List.getElem?_replicate] at q
    split at q
    · cases q; simp only [newA]; rw [key, if_pos (by assumption)]; rfl
    · cases q
theorem csz_new {t : ArrayType} {q : Nat} (N n : Nat) (ht : atyOf t = some q) : csz N (newC q n) = n := by
  cases t <;> simp only [atyOf, Option.some.injEq, reduceCtorEq] at ht <;> subst ht <;> simp [newC, csz]
set_option maxHeartbeats 4000000 in
theorem step_sound (G : Good P nm bc cn C Z a0) {k pc np pc' : Nat} {i : Instr} {L L' : ALoc} {S S' : List Value} {H H' : AHeap} (hcode : P.code k pc = some (i, np)) (h : step P k i np pc L S H = some (pc', L', S', H'))
    (X : Stand p l e R s m args below meth c T locs cells slots) (hx : p.tables.exec = Jvm.exec) (hZ : Z.Warmed39 s.vm) (hby : c.code = bc k) (hml : c.maxLocals = P.maxL k) (hown : s.vm.findClass (cn (P.cls k)) = some m.cls) (hini : P.ini k = true → meth.name = "<init>" ∧ cn (P.cls k) = C)
    (hrf : P.rf k ≤ R.frames) (hrl : P.rl k ≤ R.locals) (hcells : cells + (H'.length - H.length) ≤ R.cells) (hslots : slots + (hsz P H' - hsz P H) ≤ R.slots) {am : List Addr} {ls : Array Slot} {st : List Value} (hlz : ls.size = P.maxL k) (hL : LR am L ls) (hS : SR am S st) (hH : HR P C Z n0 am H T.heap) (hF : Fr n0 locs) (hn : n0 ≤ T.heap.size) :
    Behind p l e R s m args below meth c P C Z n0 am cells slots T pc ls st pc' L' S' H' (H'.length - H.length) (hsz P H' - hsz P H) := by
  obtain ⟨G1, G2, G3, G4, G5, G6, G7, G8, G9⟩ := G
  obtain ⟨len, hdec, rfl, hlen⟩ := G1 _ _ _ _ hcode
  have hd : decode c.code pc = .ok (i, len) := by rw [hby]; exact hdec
  cases i
  case iload_n n =>
    simp only [step] at h
    obtain rfl := hlen.resolve_left (by simp [ilen])
    cases hl : loadI L n.val with
    | none => simp [hl] at h
    | some x =>
      simp only [hl, Option.some.injEq, Prod.mk.injEq] at h; obtain ⟨rfl, rfl, rfl, rfl⟩ := h
      exact Behind.plain X hL rfl ⟨_, _, rfl, rfl, hS⟩ hH hF hn fun target hr => XS.iloadN X.here hx rfl (g := mkF m pc ls st) hd (hL.int hl) hr
  case iload n =>
    simp only [step] at h
    obtain rfl := hlen.resolve_left (by simp [ilen])
    cases hl : loadI L n with
    | none => simp [hl] at h
    | some x =>
      simp only [hl, Option.some.injEq, Prod.mk.injEq] at h; obtain ⟨rfl, rfl, rfl, rfl⟩ := h
      exact Behind.plain X hL rfl ⟨_, _, rfl, rfl, hS⟩ hH hF hn fun target hr => XS.iload X.here hx rfl (g := mkF m pc ls st) hd (hL.int hl) hr
  case lload_n n =>
    simp only [step] at h
    obtain rfl := hlen.resolve_left (by simp [ilen])
    cases hl : loadJ L n.val with
    | none => simp [hl] at h
    | some x =>
      simp only [hl, Option.some.injEq, Prod.mk.injEq] at h; obtain ⟨rfl, rfl, rfl, rfl⟩ := h
      exact Behind.plain X hL rfl ⟨_, _, rfl, rfl, hS⟩ hH hF hn fun target hr => XS.lloadN X.here hx rfl (g := mkF m pc ls st) hd (hL.long hl) hr
  case lload n =>
    simp only [step] at h
    obtain rfl := hlen.resolve_left (by simp [ilen])
    cases hl : loadJ L n with
    | none => simp [hl] at h
    | some x =>
      simp only [hl, Option.some.injEq, Prod.mk.injEq] at h; obtain ⟨rfl, rfl, rfl, rfl⟩ := h
      exact Behind.plain X hL rfl ⟨_, _, rfl, rfl, hS⟩ hH hF hn fun target hr => XS.lload X.here hx rfl (g := mkF m pc ls st) hd (hL.long hl) hr
  case aload_n n =>
    simp only [step] at h
    obtain rfl := hlen.resolve_left (by simp [ilen])
    cases hl : loadA L n.val with
    | none => simp [hl] at h
    | some x =>
      simp only [hl, Option.some.injEq, Prod.mk.injEq] at h; obtain ⟨rfl, rfl, rfl, rfl⟩ := h
      obtain ⟨a, ha, hl'⟩ := hL.ref hl
      exact Behind.plain X hL rfl ⟨_, _, rfl, ⟨a, ha, rfl⟩, hS⟩ hH hF hn fun target hr => XS.aloadN X.here hx rfl (g := mkF m pc ls st) hd hl' rfl hr
  case aload n =>
    simp only [step] at h
    obtain rfl := hlen.resolve_left (by simp [ilen])
    cases hl : loadA L n with
    | none => simp [hl] at h
    | some x =>
      simp only [hl, Option.some.injEq, Prod.mk.injEq] at h; obtain ⟨rfl, rfl, rfl, rfl⟩ := h
      obtain ⟨a, ha, hl'⟩ := hL.ref hl
      exact Behind.plain X hL rfl ⟨_, _, rfl, ⟨a, ha, rfl⟩, hS⟩ hH hF hn fun target hr => XS.aload X.here hx rfl (g := mkF m pc ls st) hd hl' rfl hr
  case istore_n n =>
    simp only [step] at h
    obtain rfl := hlen.resolve_left (by simp [ilen])
    split at h
    · rename_i x r
      cases hl : lput L n.val (.int x) with
      | none => simp [hl] at h
      | some L2 =>
        simp only [hl, Option.some.injEq, Prod.mk.injEq] at h; obtain ⟨rfl, rfl, rfl, rfl⟩ := h
        obtain ⟨_, _, rfl, rfl, hr'⟩ := hS
        obtain ⟨l', h1, h2, h3⟩ := hL.put (w := .int x) hl rfl rfl
        exact Behind.plain X h3 h2 hr' hH hF hn fun target hr => XS.istoreN X.here hx rfl (g := mkF m pc ls _) hd rfl h1 hr
    · cases h
  case istore n =>
    simp only [step] at h
    obtain rfl := hlen.resolve_left (by simp [ilen])
    split at h
    · rename_i x r
      cases hl : lput L n (.int x) with
      | none => simp [hl] at h
      | some L2 =>
        simp only [hl, Option.some.injEq, Prod.mk.injEq] at h; obtain ⟨rfl, rfl, rfl, rfl⟩ := h
        obtain ⟨_, _, rfl, rfl, hr'⟩ := hS
        obtain ⟨l', h1, h2, h3⟩ := hL.put (w := .int x) hl rfl rfl
        exact Behind.plain X h3 h2 hr' hH hF hn fun target hr => XS.istore X.here hx rfl (g := mkF m pc ls _) hd rfl h1 hr
    · cases h
  case lstore_n n =>
    simp only [step] at h
    obtain rfl := hlen.resolve_left (by simp [ilen])
    split at h
    · rename_i x r
      cases hl : lputL L n.val x with
      | none => simp [hl] at h
      | some L2 =>
        simp only [hl, Option.some.injEq, Prod.mk.injEq] at h; obtain ⟨rfl, rfl, rfl, rfl⟩ := h
        obtain ⟨_, _, rfl, rfl, hr'⟩ := hS
        obtain ⟨l', h1, h2, h3⟩ := hL.putL hl
        exact Behind.plain X h3 h2 hr' hH hF hn fun target hr => XS.lstoreN X.here hx rfl (g := mkF m pc ls _) hd rfl h1 hr
    · cases h
  case lstore n =>
    simp only [step] at h
    obtain rfl := hlen.resolve_left (by simp [ilen])
    split at h
    · rename_i x r
      cases hl : lputL L n x with
      | none => simp [hl] at h
      | some L2 =>
        simp only [hl, Option.some.injEq, Prod.mk.injEq] at h; obtain ⟨rfl, rfl, rfl, rfl⟩ := h
        obtain ⟨_, _, rfl, rfl, hr'⟩ := hS
        obtain ⟨l', h1, h2, h3⟩ := hL.putL hl
        exact Behind.plain X h3 h2 hr' hH hF hn fun target hr => XS.lstore X.here hx rfl (g := mkF m pc ls _) hd rfl h1 hr
    · cases h
  case astore_n n =>
    simp only [step] at h
    obtain rfl := hlen.resolve_left (by simp [ilen])
    split at h
    · rename_i x r
      cases hl : lput L n.val (.ref x) with
      | none => simp [hl] at h
      | some L2 =>
        simp only [hl, Option.some.injEq, Prod.mk.injEq] at h; obtain ⟨rfl, rfl, rfl, rfl⟩ := h
        obtain ⟨_, _, rfl, ⟨a, ha, rfl⟩, hr'⟩ := hS
        obtain ⟨l', h1, h2, h3⟩ := hL.put (w := .ref a) hl ⟨a, ha, rfl⟩ rfl
        exact Behind.plain X h3 h2 hr' hH hF hn fun target hr => XS.astoreN X.here hx rfl (g := mkF m pc ls _) hd rfl rfl h1 hr
    · cases h
  case astore n =>
    simp only [step] at h
    obtain rfl := hlen.resolve_left (by simp [ilen])
    split at h
    · rename_i x r
      cases hl : lput L n (.ref x) with
      | none => simp [hl] at h
      | some L2 =>
        simp only [hl, Option.some.injEq, Prod.mk.injEq] at h; obtain ⟨rfl, rfl, rfl, rfl⟩ := h
        obtain ⟨_, _, rfl, ⟨a, ha, rfl⟩, hr'⟩ := hS
        obtain ⟨l', h1, h2, h3⟩ := hL.put (w := .ref a) hl ⟨a, ha, rfl⟩ rfl
        exact Behind.plain X h3 h2 hr' hH hF hn fun target hr => XS.astore X.here hx rfl (g := mkF m pc ls _) hd rfl rfl h1 hr
    · cases h
  case iinc n cst =>
    simp only [step] at h
    obtain rfl := hlen.resolve_left (by simp [ilen])
    cases hl : loadI L n with
    | none => simp [hl] at h
    | some x =>
      cases hp : lput L n (.int (x + Int32.ofInt cst)) with
      | none => simp [hl, hp] at h
      | some L2 =>
        simp only [hl, hp, Option.some.injEq, Prod.mk.injEq] at h; obtain ⟨rfl, rfl, rfl, rfl⟩ := h
        obtain ⟨l', h1, h2, h3⟩ := hL.put (w := .int (x + Int32.ofInt cst)) hp rfl rfl
        exact Behind.plain X h3 h2 hS hH hF hn fun target hr => XS.iinc X.here hx rfl (g := mkF m pc ls st) hd (hL.int hl) h1 hr
  case iconst q =>
    simp only [step] at h
    obtain rfl := hlen.resolve_left (by simp [ilen])
    simp only [Option.some.injEq, Prod.mk.injEq] at h; obtain ⟨rfl, rfl, rfl, rfl⟩ := h
    exact Behind.plain X hL rfl ⟨_, _, rfl, rfl, hS⟩ hH hF hn fun target hr => XS.iconst X.here hx rfl (g := mkF m pc ls st) hd hr
  case bipush q =>
    simp only [step] at h
    obtain rfl := hlen.resolve_left (by simp [ilen])
    simp only [Option.some.injEq, Prod.mk.injEq] at h; obtain ⟨rfl, rfl, rfl, rfl⟩ := h
    exact Behind.plain X hL rfl ⟨_, _, rfl, rfl, hS⟩ hH hF hn fun target hr => XS.bipush X.here hx rfl (g := mkF m pc ls st) hd hr
  case sipush q =>
    simp only [step] at h
    obtain rfl := hlen.resolve_left (by simp [ilen])
    simp only [Option.some.injEq, Prod.mk.injEq] at h; obtain ⟨rfl, rfl, rfl, rfl⟩ := h
    exact Behind.plain X hL rfl ⟨_, _, rfl, rfl, hS⟩ hH hF hn fun target hr => XS.sipush X.here hx rfl (g := mkF m pc ls st) hd hr
  case lconst q =>
    simp only [step] at h
    obtain rfl := hlen.resolve_left (by simp [ilen])
    simp only [Option.some.injEq, Prod.mk.injEq] at h; obtain ⟨rfl, rfl, rfl, rfl⟩ := h
    exact Behind.plain X hL rfl ⟨_, _, rfl, rfl, hS⟩ hH hF hn fun target hr => XS.lconst X.here hx rfl (g := mkF m pc ls st) hd hr
  case ldc j =>
    simp only [step] at h
    obtain rfl := hlen.resolve_left (by simp [ilen])
    split at h
    · rename_i x hk
      simp only [Option.some.injEq, Prod.mk.injEq] at h; obtain ⟨rfl, rfl, rfl, rfl⟩ := h
      have w := G5 _ _ _ hk
      exact Behind.plain X hL rfl ⟨_, _, rfl, rfl, hS⟩ hH hF hn fun target hr => X.ldcInt hx hown (mvT hZ w) (g := mkF m pc ls st) rfl hd _ hr
    · cases h
  case ldc2_w j =>
    simp only [step] at h
    obtain rfl := hlen.resolve_left (by simp [ilen])
    split at h
    · rename_i x hk
      simp only [Option.some.injEq, Prod.mk.injEq] at h; obtain ⟨rfl, rfl, rfl, rfl⟩ := h
      have w := G5 _ _ _ hk
      exact Behind.plain X hL rfl ⟨_, _, rfl, rfl, hS⟩ hH hF hn fun target hr => X.ldc2Long hx hown (mvT hZ w) (g := mkF m pc ls st) rfl hd _ hr
    · cases h
  case idiv =>
    simp only [step] at h
    obtain rfl := hlen.resolve_left (by simp [ilen])
    split at h
    · rename_i y x r
      by_cases hy : y = 0
      · simp [hy] at h
      · simp only [hy, decide_false, cond_false, Option.some.injEq, Prod.mk.injEq] at h; obtain ⟨rfl, rfl, rfl, rfl⟩ := h
        obtain ⟨_, _, rfl, rfl, _, _, rfl, rfl, hr'⟩ := hS
        exact Behind.plain X hL rfl ⟨_, _, rfl, rfl, hr'⟩ hH hF hn fun target hr => XS.idiv X.here hx rfl (g := mkF m pc ls _) hd rfl hy hr
    · cases h
  case irem =>
    simp only [step] at h
    obtain rfl := hlen.resolve_left (by simp [ilen])
    split at h
    · rename_i y x r
      by_cases hy : y = 0
      · simp [hy] at h
      · simp only [hy, decide_false, cond_false, Option.some.injEq, Prod.mk.injEq] at h; obtain ⟨rfl, rfl, rfl, rfl⟩ := h
        obtain ⟨_, _, rfl, rfl, _, _, rfl, rfl, hr'⟩ := hS
        exact Behind.plain X hL rfl ⟨_, _, rfl, rfl, hr'⟩ hH hF hn fun target hr => iremM X hx rfl (g := mkF m pc ls _) hd rfl hy hr
    · cases h
  case lshl =>
    simp only [step] at h
    obtain rfl := hlen.resolve_left (by simp [ilen])
    split at h
    · rename_i y x r
      simp only [Option.some.injEq, Prod.mk.injEq] at h; obtain ⟨rfl, rfl, rfl, rfl⟩ := h
      obtain ⟨_, _, rfl, rfl, _, _, rfl, rfl, hr'⟩ := hS
      exact Behind.plain X hL rfl ⟨_, _, rfl, rfl, hr'⟩ hH hF hn fun target hr => XS.lshl X.here hx rfl (g := mkF m pc ls _) hd rfl hr
    · cases h
  case lushr =>
    simp only [step] at h
    obtain rfl := hlen.resolve_left (by simp [ilen])
    split at h
    · rename_i y x r
      simp only [Option.some.injEq, Prod.mk.injEq] at h; obtain ⟨rfl, rfl, rfl, rfl⟩ := h
      obtain ⟨_, _, rfl, rfl, _, _, rfl, rfl, hr'⟩ := hS
      exact Behind.plain X hL rfl ⟨_, _, rfl, rfl, hr'⟩ hH hF hn fun target hr => XS.lushr X.here hx rfl (g := mkF m pc ls _) hd rfl hr
    · cases h
  case lcmp =>
    simp only [step] at h
    obtain rfl := hlen.resolve_left (by simp [ilen])
    split at h
    · rename_i y x r
      simp only [Option.some.injEq, Prod.mk.injEq] at h; obtain ⟨rfl, rfl, rfl, rfl⟩ := h
      obtain ⟨_, _, rfl, rfl, _, _, rfl, rfl, hr'⟩ := hS
      exact Behind.plain X hL rfl ⟨_, _, rfl, rfl, hr'⟩ hH hF hn fun target hr => XS.lcmp X.here hx rfl (g := mkF m pc ls _) hd rfl hr
    · cases h
  case lneg =>
    simp only [step] at h
    obtain rfl := hlen.resolve_left (by simp [ilen])
    split at h
    · rename_i x r
      simp only [Option.some.injEq, Prod.mk.injEq] at h; obtain ⟨rfl, rfl, rfl, rfl⟩ := h
      obtain ⟨_, _, rfl, rfl, hr'⟩ := hS
      exact Behind.plain X hL rfl ⟨_, _, rfl, rfl, hr'⟩ hH hF hn fun target hr => XS.lneg X.here hx rfl (g := mkF m pc ls _) hd rfl hr
    · cases h
  case i2l =>
    simp only [step] at h
    obtain rfl := hlen.resolve_left (by simp [ilen])
    split at h
    · rename_i x r
      simp only [Option.some.injEq, Prod.mk.injEq] at h; obtain ⟨rfl, rfl, rfl, rfl⟩ := h
      obtain ⟨_, _, rfl, rfl, hr'⟩ := hS
      exact Behind.plain X hL rfl ⟨_, _, rfl, rfl, hr'⟩ hH hF hn fun target hr => XS.i2l X.here hx rfl (g := mkF m pc ls _) hd rfl hr
    · cases h
  case l2i =>
    simp only [step] at h
    obtain rfl := hlen.resolve_left (by simp [ilen])
    split at h
    · rename_i x r
      simp only [Option.some.injEq, Prod.mk.injEq] at h; obtain ⟨rfl, rfl, rfl, rfl⟩ := h
      obtain ⟨_, _, rfl, rfl, hr'⟩ := hS
      exact Behind.plain X hL rfl ⟨_, _, rfl, rfl, hr'⟩ hH hF hn fun target hr => XS.l2i X.here hx rfl (g := mkF m pc ls _) hd rfl hr
    · cases h
  case i2b =>
    simp only [step] at h
    obtain rfl := hlen.resolve_left (by simp [ilen])
    split at h
    · rename_i x r
      simp only [Option.some.injEq, Prod.mk.injEq] at h; obtain ⟨rfl, rfl, rfl, rfl⟩ := h
      obtain ⟨_, _, rfl, rfl, hr'⟩ := hS
      exact Behind.plain X hL rfl ⟨_, _, rfl, rfl, hr'⟩ hH hF hn fun target hr => XS.i2b X.here hx rfl (g := mkF m pc ls _) hd rfl hr
    · cases h
  case dup =>
    simp only [step] at h
    obtain rfl := hlen.resolve_left (by simp [ilen])
    split at h
    · rename_i x r
      simp only [Option.some.injEq, Prod.mk.injEq] at h; obtain ⟨rfl, rfl, rfl, rfl⟩ := h
      obtain ⟨_, _, rfl, ⟨a, ha, rfl⟩, hr'⟩ := hS
      exact Behind.plain X hL rfl ⟨_, _, rfl, ⟨a, ha, rfl⟩, _, _, rfl, ⟨a, ha, rfl⟩, hr'⟩ hH hF hn fun target hr => XS.dup X.here hx rfl (g := mkF m pc ls _) hd rfl rfl hr
    · rename_i x r
      simp only [Option.some.injEq, Prod.mk.injEq] at h; obtain ⟨rfl, rfl, rfl, rfl⟩ := h
      obtain ⟨_, _, rfl, rfl, hr'⟩ := hS
      exact Behind.plain X hL rfl ⟨_, _, rfl, rfl, _, _, rfl, rfl, hr'⟩ hH hF hn fun target hr => XS.dup X.here hx rfl (g := mkF m pc ls _) hd rfl rfl hr
    · cases h
  case dup2 =>
    simp only [step] at h
    obtain rfl := hlen.resolve_left (by simp [ilen])
    split at h
    · rename_i x y r
      simp only [Option.some.injEq, Prod.mk.injEq] at h; obtain ⟨rfl, rfl, rfl, rfl⟩ := h
      obtain ⟨_, _, rfl, rfl, _, _, rfl, ⟨a, ha, rfl⟩, hr'⟩ := hS
      exact Behind.plain X hL rfl ⟨_, _, rfl, rfl, _, _, rfl, ⟨a, ha, rfl⟩, _, _, rfl, rfl, _, _, rfl, ⟨a, ha, rfl⟩, hr'⟩ hH hF hn fun target hr => XT.dup2 X.here hx rfl (g := mkF m pc ls _) hd rfl rfl rfl hr
    · cases h
  case pop =>
    simp only [step] at h
    obtain rfl := hlen.resolve_left (by simp [ilen])
    split at h
    · rename_i x r
      simp only [Option.some.injEq, Prod.mk.injEq] at h; obtain ⟨rfl, rfl, rfl, rfl⟩ := h
      obtain ⟨_, _, rfl, rfl, hr'⟩ := hS
      exact Behind.plain X hL rfl hr' hH hF hn fun target hr => XS.pop X.here hx rfl (g := mkF m pc ls _) hd rfl rfl hr
    · rename_i x r
      simp only [Option.some.injEq, Prod.mk.injEq] at h; obtain ⟨rfl, rfl, rfl, rfl⟩ := h
      obtain ⟨_, _, rfl, ⟨a, ha, rfl⟩, hr'⟩ := hS
      exact Behind.plain X hL rfl hr' hH hF hn fun target hr => XS.pop X.here hx rfl (g := mkF m pc ls _) hd rfl rfl hr
    · cases h
  case goto o =>
    simp only [step] at h
    obtain rfl := hlen.resolve_left (by simp [ilen])
    cases ht : tgt pc o with
    | none => simp [ht] at h
    | some t =>
      simp only [ht, Option.some.injEq, Prod.mk.injEq] at h; obtain ⟨rfl, rfl, rfl, rfl⟩ := h
      exact Behind.plain X hL rfl hS hH hF hn fun target hr => XS.goto X.here hx rfl (g := mkF m pc ls st) (pc0 := pc) rfl hd (tgt_spec ht).1 (tgt_spec ht).2 hr
  case ifCond cd o =>
    simp only [step] at h
    obtain rfl := hlen.resolve_left (by simp [ilen])
    split at h
    · rename_i x r
      obtain ⟨_, _, rfl, rfl, hr'⟩ := hS
      cases hc : if_icmp.holds cd x 0
      · simp only [hc, cond_false, Option.some.injEq, Prod.mk.injEq] at h; obtain ⟨rfl, rfl, rfl, rfl⟩ := h
        exact Behind.plain X hL rfl hr' hH hF hn fun target hr => XS.ifNo X.here hx rfl (g := mkF m pc ls _) hd rfl ((if0 _ _).trans hc) hr
      · cases ht : tgt pc o with
        | none => simp [hc, ht] at h
        | some t =>
          simp only [hc, ht, cond_true, Option.some.injEq, Prod.mk.injEq] at h; obtain ⟨rfl, rfl, rfl, rfl⟩ := h
          exact Behind.plain X hL rfl hr' hH hF hn fun target hr => XS.ifYes X.here hx rfl (g := mkF m pc ls _) (pc0 := pc) rfl hd rfl ((if0 _ _).trans hc) (tgt_spec ht).1 (tgt_spec ht).2 hr
    · cases h
  case if_icmp cd o =>
    simp only [step] at h
    obtain rfl := hlen.resolve_left (by simp [ilen])
    split at h
    · rename_i y x r
      obtain ⟨_, _, rfl, rfl, _, _, rfl, rfl, hr'⟩ := hS
      cases hc : if_icmp.holds cd x y
      · simp only [hc, cond_false, Option.some.injEq, Prod.mk.injEq] at h; obtain ⟨rfl, rfl, rfl, rfl⟩ := h
        exact Behind.plain X hL rfl hr' hH hF hn fun target hr => XS.icmpNo X.here hx rfl (g := mkF m pc ls _) hd rfl hc hr
      · cases ht : tgt pc o with
        | none => simp [hc, ht] at h
        | some t =>
          simp only [hc, ht, cond_true, Option.some.injEq, Prod.mk.injEq] at h; obtain ⟨rfl, rfl, rfl, rfl⟩ := h
          exact Behind.plain X hL rfl hr' hH hF hn fun target hr => XS.icmpYes X.here hx rfl (g := mkF m pc ls _) (pc0 := pc) rfl hd rfl hc (tgt_spec ht).1 (tgt_spec ht).2 hr
    · cases h
  case tableswitch d lo hi offs =>
    simp only [step] at h
    split at h
    · rename_i x r
      obtain ⟨_, _, rfl, rfl, hr'⟩ := hS
      by_cases ho : x.toInt < lo ∨ x.toInt > hi
      · have ho' : (decide (x.toInt < lo) || decide (x.toInt > hi)) = true := by simpa using ho
        cases ht : tgt pc d with
        | none => simp [ho', ht] at h
        | some t =>
          simp only [ho', ht, cond_true, Option.some.injEq, Prod.mk.injEq] at h; obtain ⟨rfl, rfl, rfl, rfl⟩ := h
          exact Behind.plain X hL rfl hr' hH hF hn fun target hr => XS.tswOut X.here hx rfl (g := mkF m pc ls _) (pc0 := pc) rfl hd rfl ho (tgt_spec ht).1 (tgt_spec ht).2 hr
      · have ho' : (decide (x.toInt < lo) || decide (x.toInt > hi)) = false := by simpa using ho
        cases hq : offs.toList[(x.toInt - lo).toNat]? with
        | none => simp [ho', hq] at h
        | some o =>
          cases ht : tgt pc o with
          | none => simp [ho', hq, ht] at h
          | some t =>
            simp only [ho', hq, ht, cond_false, Option.some.injEq, Prod.mk.injEq] at h; obtain ⟨rfl, rfl, rfl, rfl⟩ := h
            exact Behind.plain X hL rfl hr' hH hF hn fun target hr => XS.tswIn X.here hx rfl (g := mkF m pc ls _) (pc0 := pc) rfl hd rfl ho (by rw [← Array.getElem?_toList]; exact hq) (tgt_spec ht).1 (tgt_spec ht).2 hr
    · cases h
  case getfield j =>
    simp only [step] at h
    obtain rfl := hlen.resolve_left (by simp [ilen])
    split at h
    · rename_i a r
      obtain ⟨_, _, rfl, ⟨b, hb, rfl⟩, hr'⟩ := hS
      cases hf : P.fld (P.cls k) j with
      | none => simp [hf] at h
      | some f =>
        cases hg : getC H a f with
        | none => simp [hf, hg] at h
        | some v =>
          simp only [hf, hg, Option.some.injEq, Prod.mk.injEq] at h; obtain ⟨rfl, rfl, rfl, rfl⟩ := h
          obtain ⟨n, d, t, fin, g1, g2⟩ := G2 _ _ _ hf
          unfold getC at hg
          split at hg
          · rename_i fs hfs
            obtain ⟨b', e1, e2, e3, e4⟩ := hH.2.2.2 _ _ hfs
            cases hb.symm.trans e1
            obtain ⟨w, e5, e6⟩ := e4 _ _ _ _ _ _ hg g1
            obtain ⟨T2, X2, e7, s2⟩ := getF X hx hZ hown (host := "") (Or.inl g2) Via.refl rfl e6 (g := mkF m pc ls _) rfl rfl hd
            exact Behind.plain' X2 e7 hL rfl ⟨w, _, rfl, e5, hr'⟩ hH hF hn s2
          · cases hg
    · cases h
  case putfield j =>
    simp only [step] at h
    obtain rfl := hlen.resolve_left (by simp [ilen])
    split at h
    · rename_i v a r
      obtain ⟨w0, _, rfl, hv0, _, _, rfl, ⟨b, hb, rfl⟩, hr'⟩ := hS
      cases hf : P.fld (P.cls k) j with
      | none => simp [hf] at h
      | some f =>
        obtain ⟨n, d, t, fin, g1, g2⟩ := G2 _ _ _ hf
        simp only [hf, g1] at h
        cases hq : (!fin || P.ini k) && Nat.ble P.ro a
        · simp [hq] at h
        · simp only [hq, cond_true] at h
          cases hv : conv t v with
          | none => simp [hv] at h
          | some v' =>
            simp only [hv] at h
            split at h
            · rename_i fs hfs
              cases hz : Nat.ble (f + 1) fs.length
              · simp [hz] at h
              · simp only [hz, cond_true, Option.some.injEq, Prod.mk.injEq] at h; obtain ⟨rfl, rfl, rfl, rfl⟩ := h
                obtain ⟨b', e1, e2, e3, e4⟩ := hH.2.2.2 _ _ hfs
                cases hb.symm.trans e1
                simp only [Bool.and_eq_true, Bool.or_eq_true, Bool.not_eq_true'] at hq
                have hro : P.ro ≤ a := Nat.le_of_ble_eq_true hq.2
                have hfl : f < fs.length := Nat.le_of_ble_eq_true hz
                obtain ⟨l1, ty, l2, l3, l4⟩ := G3 _ _ _ _ _ g1
                obtain ⟨w, hw, hnw, hfw⟩ : ∃ w, VR am v' w ∧ narrow ty w0 = w ∧ fits ty w = true := by
                  unfold conv at hv
                  split at hv
                  · cases hv; cases hv0; cases ty <;> simp only [tyOk, Bool.false_eq_true] at l3; exact ⟨_, rfl, rfl, rfl⟩
                  · cases hv; cases hv0; cases ty <;> simp only [tyOk, Bool.false_eq_true] at l3; exact ⟨_, rfl, rfl, fits_nar_bool _⟩
                  · cases hv; cases hv0; cases ty <;> simp only [tyOk, Bool.false_eq_true] at l3; exact ⟨_, rfl, rfl, rfl⟩
                  · cases hv; obtain ⟨z, hz1, rfl⟩ := hv0; cases ty <;> simp only [tyOk, Bool.false_eq_true] at l3; exact ⟨_, ⟨z, hz1, rfl⟩, rfl, rfl⟩
                  · cases hv
                obtain ⟨old, o1, o2⟩ := e4 f _ _ _ _ _ (List.getElem?_eq_getElem hfl) g1
                have hfin : (Cond.lays C C n d).before a0 Z = true ∨ ((Cond.laysFinal C C n d).before a0 Z = true ∧ cn (P.cls k) = C ∧ meth.name = "<init>") := by
                  cases fin
                  · exact Or.inl l1
                  · obtain ⟨q1, q2⟩ := hini (by simpa using hq.1); exact Or.inr ⟨l1, q2, q1⟩
                obtain ⟨T2, h2, X2, e7, W2, s2⟩ := putFN X hx hZ hown g2 Via.refl rfl o2 e2 hfin G6 l2 hnw hfw (g := mkF m pc ls _) rfl rfl hd
                refine Behind.write (T' := T2) X2 e7 W2 hL hr' hH hb hro hfs rfl ?_ hF hn s2
                refine ⟨e2.wr W2, by rw [List.length_set]; exact e3, fun j' u n' d' t' f' q1 q2 => ?_⟩
                rw [List.getElem?_set] at q1
                by_cases ej : f = j'
                · subst ej
                  rw [if_pos rfl, if_pos hfl] at q1
                  cases q1
                  rw [g1] at q2; cases q2
                  exact ⟨w, hw, o2.same W2⟩
                · rw [if_neg ej] at q1
                  obtain ⟨w', y1, y2⟩ := e4 _ _ _ _ _ _ q1 q2
                  obtain ⟨l1', ty', l2', -, -⟩ := G3 _ _ _ _ _ q2
                  have hl1 : Laid Z a0 C C n d := by cases fin; exact Or.inl l1; exact Or.inr l1
                  have hl2 : Laid Z a0 C C n' d' := by cases f'; exact Or.inl l1'; exact Or.inr l1'
                  exact ⟨w', y1, y2.other W2 (Or.inr (slot_ne hl2 hl1 (G4 _ _ _ _ _ _ _ _ _ _ q2 g1 (Ne.symm ej)) l2' l2))⟩
            · cases h
    · cases h
  case iaload =>
    simp only [step] at h
    obtain rfl := hlen.resolve_left (by simp [ilen])
    split at h
    · rename_i j a r
      obtain ⟨_, _, rfl, rfl, _, _, rfl, ⟨b, hb, rfl⟩, hr'⟩ := hS
      split at h
      · rename_i xs hxs
        cases hj : inb xs.length j
        · simp [hj] at h
        · simp only [hj, cond_true, Option.some.injEq, Prod.mk.injEq] at h; obtain ⟨rfl, rfl, rfl, rfl⟩ := h
          obtain ⟨b', e1, cl, A1, A2, A3⟩ := hH.2.2.2 _ _ hxs
          cases hb.symm.trans e1
          have hin := inb_spec hj
          rw [← A2] at hin
          exact Behind.plain X hL rfl ⟨_, _, rfl, rfl, hr'⟩ hH hF hn fun target hr => X.iaload hx A1.1 (State.isArrayOf_alike hZ.alike A1.2.1) A1.2.2 hin (A3 _ _ (rd_at hj)) (g := mkF m pc ls _) rfl rfl hd _ hr
      · rename_i xs hxs
        cases hj : inb xs.length j
        · simp [hj] at h
        · simp only [hj, cond_true, Option.some.injEq, Prod.mk.injEq] at h; obtain ⟨rfl, rfl, rfl, rfl⟩ := h
          obtain ⟨b', e1, cl, A1, A2, A3⟩ := hH.2.2.2 _ _ hxs
          cases hb.symm.trans e1
          have hin := inb_spec hj
          rw [← A2] at hin
          exact Behind.plain X hL rfl ⟨_, _, rfl, rfl, hr'⟩ hH hF hn fun target hr => X.iaload hx A1.1 (State.isArrayOf_alike hZ.alike A1.2.1) A1.2.2 hin (A3 _ _ (rd_at hj)) (g := mkF m pc ls _) rfl rfl hd _ hr
      · cases h
    · cases h
  case baload =>
    simp only [step] at h
    obtain rfl := hlen.resolve_left (by simp [ilen])
    split at h
    · rename_i j a r
      obtain ⟨_, _, rfl, rfl, _, _, rfl, ⟨b, hb, rfl⟩, hr'⟩ := hS
      split at h
      · rename_i xs hxs
        cases hj : inb xs.length j
        · simp [hj] at h
        · simp only [hj, cond_true, Option.some.injEq, Prod.mk.injEq] at h; obtain ⟨rfl, rfl, rfl, rfl⟩ := h
          obtain ⟨b', e1, cl, A1, A2, A3⟩ := hH.2.2.2 _ _ hxs
          cases hb.symm.trans e1
          have hin := inb_spec hj
          rw [← A2] at hin
          exact Behind.plain X hL rfl ⟨_, _, rfl, rfl, hr'⟩ hH hF hn fun target hr => X.baloadBooleans hx A1.1 (State.isArrayOf_alike hZ.alike A1.2.1) A1.2.2 hin (A3 _ _ (rd_at hj)) (g := mkF m pc ls _) rfl rfl hd _ hr
      · rename_i xs hxs
        cases hj : inb xs.length j
        · simp [hj] at h
        · simp only [hj, cond_true, Option.some.injEq, Prod.mk.injEq] at h; obtain ⟨rfl, rfl, rfl, rfl⟩ := h
          obtain ⟨b', e1, cl, A1, A2, A3⟩ := hH.2.2.2 _ _ hxs
          cases hb.symm.trans e1
          have hin := inb_spec hj
          rw [← A2] at hin
          exact Behind.plain X hL rfl ⟨_, _, rfl, rfl, hr'⟩ hH hF hn fun target hr => X.baloadBytes hx A1.1 (State.isArrayOf_alike hZ.alike A1.2.1) A1.2.2 hin (A3 _ _ (rd_at hj)) (g := mkF m pc ls _) rfl rfl hd _ hr
      · cases h
    · cases h
  case laload =>
    simp only [step] at h
    obtain rfl := hlen.resolve_left (by simp [ilen])
    split at h
    · rename_i j a r
      obtain ⟨_, _, rfl, rfl, _, _, rfl, ⟨b, hb, rfl⟩, hr'⟩ := hS
      split at h
      · rename_i xs hxs
        cases hj : inb xs.length j
        · simp [hj] at h
        · simp only [hj, cond_true, Option.some.injEq, Prod.mk.injEq] at h; obtain ⟨rfl, rfl, rfl, rfl⟩ := h
          obtain ⟨b', e1, cl, A1, A2, A3⟩ := hH.2.2.2 _ _ hxs
          cases hb.symm.trans e1
          have hin := inb_spec hj
          rw [← A2] at hin
          exact Behind.plain X hL rfl ⟨_, _, rfl, rfl, hr'⟩ hH hF hn fun target hr => X.laload hx A1.1 (State.isArrayOf_alike hZ.alike A1.2.1) A1.2.2 hin (A3 _ _ (rdL_at hj)) (g := mkF m pc ls _) rfl rfl hd _ hr
      · cases h
    · cases h
  case iastore =>
    simp only [step] at h
    obtain rfl := hlen.resolve_left (by simp [ilen])
    split at h
    · rename_i x j a r
      obtain ⟨_, _, rfl, rfl, _, _, rfl, rfl, _, _, rfl, ⟨b, hb, rfl⟩, hr'⟩ := hS
      cases hq : Nat.ble P.ro a
      · simp [hq] at h
      · simp only [hq, cond_true] at h
        have hro : P.ro ≤ a := Nat.le_of_ble_eq_true hq
        split at h
        · rename_i xs hxs
          cases hj : inb xs.length j
          · simp [hj] at h
          · simp only [hj, cond_true, Option.some.injEq, Prod.mk.injEq] at h; obtain ⟨rfl, rfl, rfl, rfl⟩ := h
            obtain ⟨b', e1, hcr⟩ := hH.2.2.2 _ _ hxs
            cases hb.symm.trans e1
            have hcr0 := hcr
            obtain ⟨cl, A1, A2, A3⟩ := hcr0
            have hin := inb_spec hj
            rw [← A2] at hin
            obtain ⟨T2, h2, X2, e7, W2, s2⟩ := stI X hx hZ rfl A1 hin (g := mkF m pc ls _) rfl rfl hd
            exact Behind.write (T' := T2) X2 e7 W2 hL hr' hH hb hro hxs (by simp [csz, wr, wrL]) (CR.wrI W2 hcr) hF hn s2
        · cases h
    · cases h
  case bastore =>
    simp only [step] at h
    obtain rfl := hlen.resolve_left (by simp [ilen])
    split at h
    · rename_i x j a r
      obtain ⟨_, _, rfl, rfl, _, _, rfl, rfl, _, _, rfl, ⟨b, hb, rfl⟩, hr'⟩ := hS
      cases hq : Nat.ble P.ro a
      · simp [hq] at h
      · simp only [hq, cond_true] at h
        have hro : P.ro ≤ a := Nat.le_of_ble_eq_true hq
        split at h
        · rename_i xs hxs
          cases hj : inb xs.length j
          · simp [hj] at h
          · simp only [hj, cond_true, Option.some.injEq, Prod.mk.injEq] at h; obtain ⟨rfl, rfl, rfl, rfl⟩ := h
            obtain ⟨b', e1, hcr⟩ := hH.2.2.2 _ _ hxs
            cases hb.symm.trans e1
            have hcr0 := hcr
            obtain ⟨cl, A1, A2, A3⟩ := hcr0
            have hin := inb_spec hj
            rw [← A2] at hin
            obtain ⟨T2, h2, X2, e7, W2, s2⟩ := stZ X hx hZ rfl A1 hin (g := mkF m pc ls _) rfl rfl hd
            exact Behind.write (T' := T2) X2 e7 W2 hL hr' hH hb hro hxs (by simp [csz, wr, wrL]) (CR.wrI W2 hcr) hF hn s2
        · rename_i xs hxs
          cases hj : inb xs.length j
          · simp [hj] at h
          · simp only [hj, cond_true, Option.some.injEq, Prod.mk.injEq] at h; obtain ⟨rfl, rfl, rfl, rfl⟩ := h
            obtain ⟨b', e1, hcr⟩ := hH.2.2.2 _ _ hxs
            cases hb.symm.trans e1
            have hcr0 := hcr
            obtain ⟨cl, A1, A2, A3⟩ := hcr0
            have hin := inb_spec hj
            rw [← A2] at hin
            obtain ⟨T2, h2, X2, e7, W2, s2⟩ := stB X hx hZ rfl A1 hin (g := mkF m pc ls _) rfl rfl hd
            exact Behind.write (T' := T2) X2 e7 W2 hL hr' hH hb hro hxs (by simp [csz, wr, wrL]) (CR.wrI W2 hcr) hF hn s2
        · cases h
    · cases h
  case lastore =>
    simp only [step] at h
    obtain rfl := hlen.resolve_left (by simp [ilen])
    split at h
    · rename_i x j a r
      obtain ⟨_, _, rfl, rfl, _, _, rfl, rfl, _, _, rfl, ⟨b, hb, rfl⟩, hr'⟩ := hS
      cases hq : Nat.ble P.ro a
      · simp [hq] at h
      · simp only [hq, cond_true] at h
        have hro : P.ro ≤ a := Nat.le_of_ble_eq_true hq
        split at h
        · rename_i xs hxs
          cases hj : inb xs.length j
          · simp [hj] at h
          · simp only [hj, cond_true, Option.some.injEq, Prod.mk.injEq] at h; obtain ⟨rfl, rfl, rfl, rfl⟩ := h
            obtain ⟨b', e1, hcr⟩ := hH.2.2.2 _ _ hxs
            cases hb.symm.trans e1
            have hcr0 := hcr
            obtain ⟨cl, A1, A2, A3⟩ := hcr0
            have hin := inb_spec hj
            rw [← A2] at hin
            obtain ⟨T2, h2, X2, e7, W2, s2⟩ := stJ X hx hZ rfl A1 hin (g := mkF m pc ls _) rfl rfl hd
            exact Behind.write (T' := T2) X2 e7 W2 hL hr' hH hb hro hxs (by simp [csz, wr, wrL]) (CR.wrJ W2 hcr) hF hn s2
        · cases h
    · cases h
  case arraylength =>
    simp only [step] at h
    obtain rfl := hlen.resolve_left (by simp [ilen])
    split at h
    · rename_i a r
      obtain ⟨_, _, rfl, ⟨b, hb, rfl⟩, hr'⟩ := hS
      split at h
      · rename_i t xs hxs
        simp only [Option.some.injEq, Prod.mk.injEq] at h; obtain ⟨rfl, rfl, rfl, rfl⟩ := h
        obtain ⟨b', e1, cl, A1, A2, A3⟩ := hH.2.2.2 _ _ hxs
        cases hb.symm.trans e1
        exact Behind.plain X hL rfl ⟨_, _, rfl, rfl, hr'⟩ hH hF hn fun target hr => X.arraylength hx A1.1 (State.isArrayOf_alike hZ.alike A1.2.1) (g := mkF m pc ls _) rfl rfl hd _ (by rw [A2]; exact hr)
      · rename_i xs hxs
        simp only [Option.some.injEq, Prod.mk.injEq] at h; obtain ⟨rfl, rfl, rfl, rfl⟩ := h
        obtain ⟨b', e1, cl, A1, A2, A3⟩ := hH.2.2.2 _ _ hxs
        cases hb.symm.trans e1
        exact Behind.plain X hL rfl ⟨_, _, rfl, rfl, hr'⟩ hH hF hn fun target hr => X.arraylength hx A1.1 (State.isArrayOf_alike hZ.alike A1.2.1) (g := mkF m pc ls _) rfl rfl hd _ (by rw [A2]; exact hr)
      · cases h
    · cases h
  case newarray t =>
    simp only [step] at h
    obtain rfl := hlen.resolve_left (by simp [ilen])
    split at h
    · rename_i n r
      obtain ⟨_, _, rfl, rfl, hr'⟩ := hS
      cases ht : atyOf t with
      | none => simp [ht] at h
      | some q =>
        simp only [ht] at h
        cases hq : (!(decide (n < 0)) && Nat.ble n.toNatClampNeg 60000 && Nat.ble (H.length + 1) P.capC && Nat.ble (hsz P H + n.toNatClampNeg) P.capS)
        · simp [hq] at h
        · simp only [hq, cond_true, Option.some.injEq, Prod.mk.injEq] at h; obtain ⟨rfl, rfl, rfl, rfl⟩ := h
          simp only [Bool.and_eq_true, Bool.not_eq_true', decide_eq_false_iff_not] at hq
          have hcap : n.toNatClampNeg ≤ 60000 := Nat.le_of_ble_eq_true hq.1.1.2
          have hq1 := hq.1.1.1
          have d1 : (H ++ [newC q n.toNatClampNeg]).length - H.length = 1 := by simp
          have d2 : hsz P (H ++ [newC q n.toNatClampNeg]) - hsz P H = n.toNatClampNeg := by rw [hsz_app, csz_new _ _ ht]; omega
          rw [d1] at hcells ⊢; rw [d2] at hslots ⊢
          obtain ⟨T2, h2, cA, X2, e7, E2, A2, s2⟩ := newP X hx hZ (G8 _ _ _ _ hcode) rfl (g := mkF m pc ls _) rfl hd rfl hq1 (cap := n.toNatClampNeg) (Nat.le_refl _) (by omega) hcells hslots
          have hlt : T.heap.size < h2.size := A2.lt
          have hm' := hH.1
          refine ⟨T2, am ++ [T.heap.size], ls, _, locs, X2, hL.mono (Pre.app _ _), rfl, ⟨_, _, rfl, ⟨T.heap.size, by rw [← hm']; simp, rfl⟩, hr'.mono (Pre.app _ _)⟩, by rw [e7]; exact hH.push E2 hlt hn (arr_new ht hq1 A2), Pre.app _ _, hF, by rw [e7]; omega, s2⟩
    · cases h
  case new j =>
    simp only [step] at h
    obtain rfl := hlen.resolve_left (by simp [ilen])
    split at h
    · rename_i q hk
      rw [Bool.cond_eq_ite] at h
      split at h
      case isFalse => cases h
      simp only [Option.some.injEq, Prod.mk.injEq] at h; obtain ⟨rfl, rfl, rfl, rfl⟩ := h
      have w := G9 _ _ _ _ hk
      have d1 : (H ++ [Sum.inl P.fresh]).length - H.length = 1 := by simp
      have d2 : hsz P (H ++ [Sum.inl P.fresh]) - hsz P H = P.objN := by rw [hsz_app]; simp [csz]
      rw [d1] at hcells ⊢; rw [d2] at hslots ⊢
      obtain ⟨T2, h2, X2, e7, E2, A2, D2, -, s2⟩ := newO X hx hZ hown w G6 G7 rfl (g := mkF m pc ls st) rfl hd hcells hslots
      have hlt : T.heap.size < h2.size := A2.lt
      have hm' := hH.1
      refine ⟨T2, am ++ [T.heap.size], ls, _, locs, X2, hL.mono (Pre.app _ _), rfl, ⟨_, _, rfl, ⟨T.heap.size, by rw [← hm']; simp, rfl⟩, hS.mono (Pre.app _ _)⟩, ?_, Pre.app _ _, hF, by rw [e7]; omega, s2⟩
      rw [e7]
      refine hH.push E2 hlt hn ⟨A2, by simp [Prog.fresh], fun j' v n d t f q1 q2 => ?_⟩
      obtain ⟨l1, ty, l2, l3, l4⟩ := G3 _ _ _ _ _ q2
      have hl1 : Laid Z a0 C C n d := by cases f; exact Or.inl l1; exact Or.inr l1
      have hv : v = dflt t := by rw [Prog.fresh, List.getElem?_map, q2] at q1; simpa using q1.symm
      subst hv
      refine ⟨defaultValue ty, ?_, D2 hl1 l2⟩
      rw [l4]; unfold dflt; split <;> rfl
    · cases h
  case invokespecial j =>
    simp only [step] at h
    obtain rfl := hlen.resolve_left (by simp [ilen])
    split at h
    · rename_i a r
      obtain ⟨_, _, rfl, ⟨b, hb, rfl⟩, hr'⟩ := hS
      cases hq : isObjInit P k j && Nat.ble 1 (P.rf k) && Nat.ble (cats r + 12) (P.rl k)
      · simp [hq] at h
      · simp only [hq, cond_true, Option.some.injEq, Prod.mk.injEq] at h; obtain ⟨rfl, rfl, rfl, rfl⟩ := h
        simp only [Bool.and_eq_true] at hq
        have h1 : 1 ≤ P.rf k := Nat.le_of_ble_eq_true hq.1.2
        have h2 : cats r + 12 ≤ P.rl k := Nat.le_of_ble_eq_true hq.2
        have h3 := hq.1.1
        unfold isObjInit at h3
        split at h3
        · rename_i kk hk
          obtain ⟨w1, w2, w3⟩ := G9 _ _ _ _ hk
          obtain ⟨T2, X2, e7, s2⟩ := initO X hx hZ hown w1 w2 w3 rfl (g := mkF m pc ls _) rfl (by rw [hml]; exact hlz) rfl hd (by omega) (W := cats r) (by rw [hr'.cats]; show 2 * 0 + _ ≤ _; omega) (by omega)
          exact Behind.plain' X2 e7 hL rfl hr' hH hF hn s2
        · cases h3
    · cases h
  case iadd =>
    simp only [step] at h
    obtain rfl := hlen.resolve_left (by simp [ilen])
    split at h
    · rename_i y x r
      simp only [aop, Option.some.injEq, Prod.mk.injEq] at h; obtain ⟨rfl, rfl, rfl, rfl⟩ := h
      obtain ⟨_, _, rfl, rfl, _, _, rfl, rfl, hr'⟩ := hS
      exact Behind.plain X hL rfl ⟨_, _, rfl, rfl, hr'⟩ hH hF hn fun target hr => XS.iadd X.here hx rfl (g := mkF m pc ls _) hd rfl hr
    · simp [lop] at h
    · cases h
  case isub =>
    simp only [step] at h
    obtain rfl := hlen.resolve_left (by simp [ilen])
    split at h
    · rename_i y x r
      simp only [aop, Option.some.injEq, Prod.mk.injEq] at h; obtain ⟨rfl, rfl, rfl, rfl⟩ := h
      obtain ⟨_, _, rfl, rfl, _, _, rfl, rfl, hr'⟩ := hS
      exact Behind.plain X hL rfl ⟨_, _, rfl, rfl, hr'⟩ hH hF hn fun target hr => XS.isub X.here hx rfl (g := mkF m pc ls _) hd rfl hr
    · simp [lop] at h
    · cases h
  case imul =>
    simp only [step] at h
    obtain rfl := hlen.resolve_left (by simp [ilen])
    split at h
    · rename_i y x r
      simp only [aop, Option.some.injEq, Prod.mk.injEq] at h; obtain ⟨rfl, rfl, rfl, rfl⟩ := h
      obtain ⟨_, _, rfl, rfl, _, _, rfl, rfl, hr'⟩ := hS
      exact Behind.plain X hL rfl ⟨_, _, rfl, rfl, hr'⟩ hH hF hn fun target hr => XS.imul X.here hx rfl (g := mkF m pc ls _) hd rfl hr
    · simp [lop] at h
    · cases h
  case iand =>
    simp only [step] at h
    obtain rfl := hlen.resolve_left (by simp [ilen])
    split at h
    · rename_i y x r
      simp only [aop, Option.some.injEq, Prod.mk.injEq] at h; obtain ⟨rfl, rfl, rfl, rfl⟩ := h
      obtain ⟨_, _, rfl, rfl, _, _, rfl, rfl, hr'⟩ := hS
      exact Behind.plain X hL rfl ⟨_, _, rfl, rfl, hr'⟩ hH hF hn fun target hr => XS.iand X.here hx rfl (g := mkF m pc ls _) hd rfl hr
    · simp [lop] at h
    · cases h
  case ior =>
    simp only [step] at h
    obtain rfl := hlen.resolve_left (by simp [ilen])
    split at h
    · rename_i y x r
      simp only [aop, Option.some.injEq, Prod.mk.injEq] at h; obtain ⟨rfl, rfl, rfl, rfl⟩ := h
      obtain ⟨_, _, rfl, rfl, _, _, rfl, rfl, hr'⟩ := hS
      exact Behind.plain X hL rfl ⟨_, _, rfl, rfl, hr'⟩ hH hF hn fun target hr => XS.ior X.here hx rfl (g := mkF m pc ls _) hd rfl hr
    · simp [lop] at h
    · cases h
  case ixor =>
    simp only [step] at h
    obtain rfl := hlen.resolve_left (by simp [ilen])
    split at h
    · rename_i y x r
      simp only [aop, Option.some.injEq, Prod.mk.injEq] at h; obtain ⟨rfl, rfl, rfl, rfl⟩ := h
      obtain ⟨_, _, rfl, rfl, _, _, rfl, rfl, hr'⟩ := hS
      exact Behind.plain X hL rfl ⟨_, _, rfl, rfl, hr'⟩ hH hF hn fun target hr => XS.ixor X.here hx rfl (g := mkF m pc ls _) hd rfl hr
    · simp [lop] at h
    · cases h
  case ishl =>
    simp only [step] at h
    obtain rfl := hlen.resolve_left (by simp [ilen])
    split at h
    · rename_i y x r
      simp only [aop, Option.some.injEq, Prod.mk.injEq] at h; obtain ⟨rfl, rfl, rfl, rfl⟩ := h
      obtain ⟨_, _, rfl, rfl, _, _, rfl, rfl, hr'⟩ := hS
      exact Behind.plain X hL rfl ⟨_, _, rfl, rfl, hr'⟩ hH hF hn fun target hr => XS.ishl X.here hx rfl (g := mkF m pc ls _) hd rfl hr
    · simp [lop] at h
    · cases h
  case ishr =>
    simp only [step] at h
    obtain rfl := hlen.resolve_left (by simp [ilen])
    split at h
    · rename_i y x r
      simp only [aop, Option.some.injEq, Prod.mk.injEq] at h; obtain ⟨rfl, rfl, rfl, rfl⟩ := h
      obtain ⟨_, _, rfl, rfl, _, _, rfl, rfl, hr'⟩ := hS
      exact Behind.plain X hL rfl ⟨_, _, rfl, rfl, hr'⟩ hH hF hn fun target hr => XS.ishr X.here hx rfl (g := mkF m pc ls _) hd rfl hr
    · simp [lop] at h
    · cases h
  case iushr =>
    simp only [step] at h
    obtain rfl := hlen.resolve_left (by simp [ilen])
    split at h
    · rename_i y x r
      simp only [aop, Option.some.injEq, Prod.mk.injEq] at h; obtain ⟨rfl, rfl, rfl, rfl⟩ := h
      obtain ⟨_, _, rfl, rfl, _, _, rfl, rfl, hr'⟩ := hS
      exact Behind.plain X hL rfl ⟨_, _, rfl, rfl, hr'⟩ hH hF hn fun target hr => XS.iushr X.here hx rfl (g := mkF m pc ls _) hd rfl hr
    · simp [lop] at h
    · cases h
  case ladd =>
    simp only [step] at h
    obtain rfl := hlen.resolve_left (by simp [ilen])
    split at h
    · simp [aop] at h
    · rename_i y x r
      simp only [lop, Option.some.injEq, Prod.mk.injEq] at h; obtain ⟨rfl, rfl, rfl, rfl⟩ := h
      obtain ⟨_, _, rfl, rfl, _, _, rfl, rfl, hr'⟩ := hS
      exact Behind.plain X hL rfl ⟨_, _, rfl, rfl, hr'⟩ hH hF hn fun target hr => XS.ladd X.here hx rfl (g := mkF m pc ls _) hd rfl hr
    · cases h
  case lsub =>
    simp only [step] at h
    obtain rfl := hlen.resolve_left (by simp [ilen])
    split at h
    · simp [aop] at h
    · rename_i y x r
      simp only [lop, Option.some.injEq, Prod.mk.injEq] at h; obtain ⟨rfl, rfl, rfl, rfl⟩ := h
      obtain ⟨_, _, rfl, rfl, _, _, rfl, rfl, hr'⟩ := hS
      exact Behind.plain X hL rfl ⟨_, _, rfl, rfl, hr'⟩ hH hF hn fun target hr => XS.lsub X.here hx rfl (g := mkF m pc ls _) hd rfl hr
    · cases h
  case lmul =>
    simp only [step] at h
    obtain rfl := hlen.resolve_left (by simp [ilen])
    split at h
    · simp [aop] at h
    · rename_i y x r
      simp only [lop, Option.some.injEq, Prod.mk.injEq] at h; obtain ⟨rfl, rfl, rfl, rfl⟩ := h
      obtain ⟨_, _, rfl, rfl, _, _, rfl, rfl, hr'⟩ := hS
      exact Behind.plain X hL rfl ⟨_, _, rfl, rfl, hr'⟩ hH hF hn fun target hr => XS.lmul X.here hx rfl (g := mkF m pc ls _) hd rfl hr
    · cases h
  case land =>
    simp only [step] at h
    obtain rfl := hlen.resolve_left (by simp [ilen])
    split at h
    · simp [aop] at h
    · rename_i y x r
      simp only [lop, Option.some.injEq, Prod.mk.injEq] at h; obtain ⟨rfl, rfl, rfl, rfl⟩ := h
      obtain ⟨_, _, rfl, rfl, _, _, rfl, rfl, hr'⟩ := hS
      exact Behind.plain X hL rfl ⟨_, _, rfl, rfl, hr'⟩ hH hF hn fun target hr => XS.land X.here hx rfl (g := mkF m pc ls _) hd rfl hr
    · cases h
  case lor =>
    simp only [step] at h
    obtain rfl := hlen.resolve_left (by simp [ilen])
    split at h
    · simp [aop] at h
    · rename_i y x r
      simp only [lop, Option.some.injEq, Prod.mk.injEq] at h; obtain ⟨rfl, rfl, rfl, rfl⟩ := h
      obtain ⟨_, _, rfl, rfl, _, _, rfl, rfl, hr'⟩ := hS
      exact Behind.plain X hL rfl ⟨_, _, rfl, rfl, hr'⟩ hH hF hn fun target hr => XS.lor X.here hx rfl (g := mkF m pc ls _) hd rfl hr
    · cases h
  case lxor =>
    simp only [step] at h
    obtain rfl := hlen.resolve_left (by simp [ilen])
    split at h
    · simp [aop] at h
    · rename_i y x r
      simp only [lop, Option.some.injEq, Prod.mk.injEq] at h; obtain ⟨rfl, rfl, rfl, rfl⟩ := h
      obtain ⟨_, _, rfl, rfl, _, _, rfl, rfl, hr'⟩ := hS
      exact Behind.plain X hL rfl ⟨_, _, rfl, rfl, hr'⟩ hH hF hn fun target hr => XS.lxor X.here hx rfl (g := mkF m pc ls _) hd rfl hr
    · cases h
  all_goals (exfalso; simp only [step] at h; split at h <;> simp [aop, lop] at h)
end Sound
end Jvm.OwnX
namespace Jvm.OwnX
open Sem ClassFile Op Lib Jvm.Stand Jvm.Free Jvm.LawKit Jvm.RoadKit
set_option maxHeartbeats 4000000 in
theorem step_grow {P : Prog} {k pc np pc' : Nat} {i : Instr} {L L' : ALoc} {S S' : List Value} {H H' : AHeap} (h : step P k i np pc L S H = some (pc', L', S', H')) : H.length ≤ H'.length ∧ hsz P H ≤ hsz P H' := by
  cases i <;> simp only [step, Bool.cond_eq_ite] at h
  all_goals (repeat' (split at h))
  all_goals first
    | (cases h; done)
    | (simp only [Option.some.injEq, Prod.mk.injEq] at h; obtain ⟨-, -, -, rfl⟩ := h; exact ⟨Nat.le_refl _, Nat.le_refl _⟩)
    | (simp only [Option.some.injEq, Prod.mk.injEq] at h; obtain ⟨-, -, -, rfl⟩ := h; exact ⟨by simp, by rw [hsz_app]; omega⟩)
    | (simp only [Option.some.injEq, Prod.mk.injEq] at h; obtain ⟨-, -, -, rfl⟩ := h; exact ⟨by simp, Nat.le_of_eq (hsz_set P _ _ _ _ (by assumption) (by simp [csz, wr, wrL])).symm⟩)
set_option maxHeartbeats 4000000 in
theorem step_cap {P : Prog} {k pc np pc' : Nat} {i : Instr} {L L' : ALoc} {S S' : List Value} {H H' : AHeap} (h : step P k i np pc L S H = some (pc', L', S', H')) : (H'.length ≤ H.length ∨ H'.length ≤ P.capC) ∧ (hsz P H' ≤ hsz P H ∨ hsz P H' ≤ P.capS) := by
  cases i <;> simp only [step, Bool.cond_eq_ite] at h
  case newarray t =>
    split at h
    · split at h
      · rename_i q ht
        split at h
        · rename_i hq
          simp only [Option.some.injEq, Prod.mk.injEq] at h; obtain ⟨-, -, -, rfl⟩ := h
          simp only [Bool.and_eq_true] at hq
          have h1 := Nat.le_of_ble_eq_true hq.1.2
          have h2 := Nat.le_of_ble_eq_true hq.2
          exact ⟨Or.inr (by simpa using h1), Or.inr (by rw [hsz_app, csz_new _ _ ht]; exact h2)⟩
        · cases h
      · cases h
    · cases h
  case new j =>
    split at h
    · split at h
      · rename_i hq
        simp only [Option.some.injEq, Prod.mk.injEq] at h; obtain ⟨-, -, -, rfl⟩ := h
        simp only [Bool.and_eq_true] at hq
        have h1 := Nat.le_of_ble_eq_true hq.1
        have h2 := Nat.le_of_ble_eq_true hq.2
        exact ⟨Or.inr (by simpa using h1), Or.inr (by rw [hsz_app]; exact h2)⟩
      · cases h
    · cases h
  all_goals (repeat' (split at h))
  all_goals first
    | (cases h; done)
    | (simp only [Option.some.injEq, Prod.mk.injEq] at h; obtain ⟨-, -, -, rfl⟩ := h; exact ⟨Or.inl (Nat.le_refl _), Or.inl (Nat.le_refl _)⟩)
    | (simp only [Option.some.injEq, Prod.mk.injEq] at h; obtain ⟨-, -, -, rfl⟩ := h; exact ⟨Or.inl (by simp), Or.inl (Nat.le_of_eq (hsz_set P _ _ _ _ (by assumption) (by simp [csz, wr, wrL])))⟩)
theorem run_cap {P : Prog} : ∀ {n k pc : Nat} {L : ALoc} {S : List Value} {H : AHeap} {v : Option Value} {H' : AHeap}, run P n k pc L S H = some (v, H') → (H'.length ≤ H.length ∨ H'.length ≤ P.capC) ∧ (hsz P H' ≤ hsz P H ∨ hsz P H' ≤ P.capS)
  | 0, k, pc, L, S, H, v, H', h => by simp [run] at h
  | n + 1, k, pc, L, S, H, v, H', h => by
    rw [run] at h
    split at h
    · cases h
    · split at h
      · cases h; exact ⟨Or.inl (Nat.le_refl _), Or.inl (Nat.le_refl _)⟩
      · split at h
        · split at h
          · rename_i h1
            have g1 := run_cap h1
            have g2 := run_cap h
            omega
          · cases h
        · split at h
          · rename_i h1
            have g1 := step_cap h1
            have g2 := run_cap h
            omega
          · cases h
theorem run_grow {P : Prog} : ∀ {n k pc : Nat} {L : ALoc} {S : List Value} {H : AHeap} {v : Option Value} {H' : AHeap}, run P n k pc L S H = some (v, H') → H.length ≤ H'.length ∧ hsz P H ≤ hsz P H'
  | 0, k, pc, L, S, H, v, H', h => by simp [run] at h
  | n + 1, k, pc, L, S, H, v, H', h => by
    rw [run] at h
    split at h
    · cases h
    · split at h
      · cases h; exact ⟨Nat.le_refl _, Nat.le_refl _⟩
      · split at h
        · split at h
          · rename_i h1
            have g1 := run_grow h1
            have g2 := run_grow h
            omega
          · cases h
        · split at h
          · rename_i h1
            have g1 := step_grow h1
            have g2 := run_grow h
            omega
          · cases h
def OVR (am : List Addr) (v w : Option Value) : Prop := match v with
  | none => w = none
  | some x => ∃ y, w = some y ∧ VR am x y
theorem callV_spec {P : Prog} {k k' : Nat} {i : Instr} {S as rest : List Value} {H : AHeap} (h : callV P k i S H = some (k', as, rest)) :
    ∃ j q, poolOf i = some j ∧ P.link (P.cls k) j = some (q, k') ∧ kindOk i q = true ∧ S = as.reverse ++ rest ∧ as.length = P.pops k' ∧ P.rf k' + 1 ≤ P.rf k ∧ cats rest + (P.maxL k' + 11) + P.rl k' ≤ P.rl k ∧ recvOk P H q as = true ∧ (entL as).length ≤ P.maxL k' := by
  unfold callV at h
  split at h
  · cases h
  · rename_i j hj
    split at h
    · cases h
    · rename_i q k'' hk
      rw [Bool.cond_eq_ite] at h
      split at h
      · rename_i hc
        simp only [Option.some.injEq, Prod.mk.injEq] at h
        obtain ⟨rfl, rfl, rfl⟩ := h
        simp only [Bool.and_eq_true] at hc
        obtain ⟨⟨⟨⟨⟨c1, c2⟩, c3⟩, c4⟩, c5⟩, c6⟩ := hc
        have c2' := Nat.le_of_ble_eq_true c2
        exact ⟨j, q, hj, hk, c1, by rw [List.reverse_reverse, List.take_append_drop], by simp [c2'], Nat.le_of_ble_eq_true c3, Nat.le_of_ble_eq_true c4, c5, Nat.le_of_ble_eq_true c6⟩
      · cases h
theorem linkOk_call {P : Prog} {nm : Nat → MethodName} {bc : Nat → ByteArray} {cn : Nat → String} {C : String} {Z : State} {a0 : Array Value} {c j q k : Nat} (h4 : q ≠ 4) (h5 : q ≠ 5) (h : LinkOk P nm bc cn C Z a0 c j q k) : CallOk P nm bc cn C Z a0 c j q k := by
  unfold LinkOk at h
  split at h
  · exact absurd rfl h4
  · exact absurd rfl h5
  · exact h
theorem recv_spec {P : Prog} {H : AHeap} {q : Nat} {as : List Value} (h0 : q ≠ 0) (h : recvOk P H q as = true) : ∃ a r fs, as = .ref a :: r ∧ H[a]? = some (.inl fs) := by
  unfold recvOk at h
  split at h
  · exact absurd rfl h0
  · split at h
    · split at h
      · rename_i fs hfs
        exact ⟨_, _, fs, rfl, hfs⟩
      · cases h
    · cases h
theorem retV_spec {P : Prog} {k : Nat} {i : Instr} {S : List Value} {v : Option Value} (h : retV P k i S = some v) :
    (i = .return_ ∧ S = [] ∧ P.ret k = none ∧ v = none) ∨ (∃ x r, i = .ireturn ∧ S = .int x :: r ∧ P.ret k = some .int ∧ v = some (.int x)) ∨ (∃ x r, i = .ireturn ∧ S = .int x :: r ∧ P.ret k = some .boolean ∧ v = some (.int (x &&& 1))) ∨ (∃ x r, i = .lreturn ∧ S = .long x :: r ∧ P.ret k = some .long ∧ v = some (.long x)) := by
  unfold retV at h
  split at h
  · split at h
    · rename_i hr; cases h; exact Or.inl ⟨rfl, rfl, hr, rfl⟩
    · cases h
  · split at h
    · split at h
      · rename_i hr; cases h; exact Or.inr (Or.inl ⟨_, _, rfl, rfl, hr, rfl⟩)
      · rename_i hr; cases h; exact Or.inr (Or.inr (Or.inl ⟨_, _, rfl, rfl, hr, rfl⟩))
      · cases h
    · cases h
  · split at h
    · split at h
      · rename_i hr; cases h; exact Or.inr (Or.inr (Or.inr ⟨_, _, rfl, rfl, hr, rfl⟩))
      · cases h
    · cases h
  · cases h
/-- what a callee's contract says behind it -/
def QC (P : Prog) (C : String) (Z : State) (n0 : Nat) (am : List Addr) (v : Option Value) (H1 : AHeap) (w : Option Value) (h' : Heap) (Lc : List Loc) : Prop := Fr n0 Lc ∧ n0 ≤ h'.size ∧ ∃ am', Pre am am' ∧ HR P C Z n0 am' H1 h' ∧ OVR am' v w
/-- the frame's theorem, for one amount of fuel -/
def SoundAt (P : Prog) (nm : Nat → MethodName) (bc : Nat → ByteArray) (cn : Nat → String) (C : String) (Z : State) (n : Nat) : Prop :=
  ∀ (k pc : Nat) (L : ALoc) (S : List Value) (H : AHeap) (v : Option Value) (H' : AHeap), run P n k pc L S H = some (v, H') →
  ∀ {p : Program} {l : Launch} {e : Env} {R : Room} {s : State} {m : MethodId} {args : Array Value} {below : List Frame} {meth : Method} {c : Code} {T : State} {locs : List Loc} {cells slots n0 : Nat} {am : List Addr} {ls : Array Slot} {st : List Value},
    Stand p l e R s m args below meth c T locs cells slots → p.tables.exec = Jvm.exec → Z.Warmed39 s.vm → c.code = bc k → c.maxLocals = P.maxL k → meth.sig.returnType = P.ret k → s.vm.findClass (cn (P.cls k)) = some m.cls → (P.ini k = true → meth.name = "<init>" ∧ cn (P.cls k) = C) →
    P.rf k ≤ R.frames → P.rl k ≤ R.locals → cells + (H'.length - H.length) ≤ R.cells → slots + (hsz P H' - hsz P H) ≤ R.slots → ls.size = P.maxL k → LR am L ls → SR am S st → HR P C Z n0 am H T.heap → Fr n0 locs → n0 ≤ T.heap.size →
    ∃ T' am' locs' w, Stand p l e R s m args below meth c T' locs' (cells + (H'.length - H.length)) (slots + (hsz P H' - hsz P H)) ∧ HR P C Z n0 am' H' T'.heap ∧ Pre am am' ∧ Fr n0 locs' ∧ OVR am' v w ∧ n0 ≤ T'.heap.size ∧ (P.ret k = none → w = none) ∧
      ∀ fs, (∀ (f : JFrame) (acts : List Action), f.method = m → f.locked = none → f.entered = [] → (doReturn e (T'.setTop f) acts w).1 = T'.setFrames fs) → Steps p.tables e below (T.setTop (mkF m pc ls st)) (T'.setFrames fs)
section Met
variable {P : Prog} {nm : Nat → MethodName} {bc : Nat → ByteArray} {cn : Nat → String} {C : String} {Z : State} {a0 : Array Value}
theorem metOf {n k : Nat} {as : List Value} {H H1 : AHeap} {v : Option Value} (IH : SoundAt P nm bc cn C Z n) (hrun : run P n k 0 (entry P k as) [] H = some (v, H1)) {l : Launch} {wsC : List Cond} {rm : Room} (hpl : plainName (nm k).cls = true) (hcls : (nm k).cls = cn (P.cls k)) (hini : P.ini k = true → (nm k).name = "<init>" ∧ (nm k).cls = C)
    (hrf : P.rf k ≤ rm.frames) (hrl : P.rl k ≤ rm.locals) (hrc : H1.length - H.length ≤ rm.cells) (hrs : hsz P H1 - hsz P H ≤ rm.slots) {am : List Addr} {ws : List Value} {h : Heap} {n0 : Nat} (hS : SR am as ws) (hE : (entL as).length ≤ P.maxL k) (hH : HR P C Z n0 am H h) (hn : n0 ≤ h.size) :
    MetFree l (nm k) (head1 (Cond.code (nm k) (bc k) (P.maxL k) (P.ret k) :: wsC) rm) (fun a U => a = ws.toArray ∧ Z.Warmed39 U.vm ∧ U.heap = h) (fun _ _ _ _ _ => True)
      (fun _ U o U' => ∃ w Lc, o = .returned w ∧ QC P C Z n0 am v H1 w U'.heap Lc ∧ FrameEnd U o U' Lc (H1.length - H.length) (hsz P H1 - hsz P H)) := by
  refine MetFree.of_bodySF (plainFor_of_name hpl) hisR ?_
  intro p e s m args below meth c s₁ Bd hml0 hP hK
  obtain ⟨rfl, hZ, hh⟩ := hP
  have hown : s.vm.findClass (nm k).cls = some m.cls := findClass_of_methodNamed Bd.named
  have hnm := (name_of_methodNamed Bd.named Bd.method).1
  have X0 : Stand p l e rm s m ws.toArray below meth c s₁ [] 0 0 := Stand.of_body Bd
  have e0 : s₁.heap = h := by rw [← hh, Bd.state]; rfl
  have hsl := (slotsL_ok hS).1
  obtain ⟨T', am', locs', w, X', h1, h2, h3, h4, h5, h6, h7⟩ := IH k 0 _ _ _ _ _ hrun X0 Bd.exec hZ Bd.bytes hml0 Bd.returns (by rw [← hcls]; exact hown) (fun q => ⟨by rw [hnm]; exact (hini q).1, by rw [← hcls]; exact (hini q).2⟩) hrf hrl (by omega) (by omega) (entry_size (ws := ws) (n := P.maxL k) (by omega)) (LR.entry hS hE) (st := []) rfl (by rw [e0]; exact hH) (Fr.nil n0) (by rw [e0]; exact hn)
  obtain ⟨fs, hr, hrun', hended, hW, hsame⟩ := X'.leave (v := w) (fun q => h6 (by rw [← Bd.returns]; exact q))
  exact ⟨_, _, h7 fs hr, hrun', hended, w, locs', rfl, ⟨h3, h5, am', h2, h1, h4⟩, ⟨_, rfl⟩, hW, hsame.mono (by omega) (by omega)⟩
variable {p : Program} {l : Launch} {e : Env} {R : Room} {s : State} {m : MethodId} {args : Array Value} {below : List Frame} {meth : Method} {c : Code} {T : State} {locs : List Loc} {cells slots : Nat} {n0 : Nat}
theorem call_sound (G : Good P nm bc cn C Z a0) {n k k' pc np : Nat} {i : Instr} {S as rest : List Value} {H H1 : AHeap} {v : Option Value} (IH : SoundAt P nm bc cn C Z n) (hcode : P.code k pc = some (i, np)) (hcall : callV P k i S H = some (k', as, rest)) (hrun : run P n k' 0 (entry P k' as) [] H = some (v, H1))
    (X : Stand p l e R s m args below meth c T locs cells slots) (hx : p.tables.exec = Jvm.exec) (hZ : Z.Warmed39 s.vm) (hby : c.code = bc k) (hml : c.maxLocals = P.maxL k) (hown : s.vm.findClass (cn (P.cls k)) = some m.cls)
    (hrf : P.rf k ≤ R.frames) (hrl : P.rl k ≤ R.locals) (hcells : cells + (H1.length - H.length) ≤ R.cells) (hslots : slots + (hsz P H1 - hsz P H) ≤ R.slots) {am : List Addr} {ls : Array Slot} {st : List Value} (hlz : ls.size = P.maxL k) (hS : SR am S st) (hH : HR P C Z n0 am H T.heap) (hn : n0 ≤ T.heap.size) :
    ∃ T2 w Lc z, np = pc + 3 ∧ Stand p l e R s m args below meth c T2 (locs ++ Lc) (cells + (H1.length - H.length)) (slots + (hsz P H1 - hsz P H)) ∧ QC P C Z n0 am v H1 w T2.heap Lc ∧ SR am rest z ∧
      ∀ target, Steps p.tables e below (T2.setTop (mkF m (pc + 3) ls (w.toList ++ z))) target → Steps p.tables e below (T.setTop (mkF m pc ls st)) target := by
  obtain ⟨j, q, hj, hk, hkind, rfl, hlen, c3, c4, c5, c6⟩ := callV_spec hcall
  obtain ⟨G1, -, -, -, -, G6, -, -, G9⟩ := G
  obtain ⟨len, hdec, rfl, hlen'⟩ := G1 _ _ _ _ hcode
  have hd : decode c.code pc = .ok (i, len) := by rw [hby]; exact hdec
  obtain ⟨y, z, rfl, hy, hz⟩ := SR.app _ _ hS rfl
  have hws : SR am as y.reverse := by have := hy.rev; rwa [List.reverse_reverse] at this
  have hcz := hz.cats
  have lk := G9 _ _ _ _ hk
  have hq4 : q ≠ 4 := fun q4 => by subst q4; cases i <;> simp [kindOk] at hkind
  have hq5 : q ≠ 5 := fun q5 => by subst q5; cases i <;> simp [kindOk] at hkind
  have lk' : CallOk P nm bc cn C Z a0 (P.cls k) j q k' := linkOk_call hq4 hq5 lk
  obtain ⟨w1, w2, w3, ⟨ps, r, w4, w5⟩, w6, w7, w8, w9, w10⟩ := lk'
  have hM := metOf IH hrun (l := l) (wsC := []) (rm := ({ frames := P.rf k', cells := H1.length - H.length, slots := hsz P H1 - hsz P H, locals := P.rl k' } : Room)) w6 w8 w9 (Nat.le_refl _) (Nat.le_refl _) (Nat.le_refl _) (Nat.le_refl _) hws c6 hH hn
  have hB := backOf (R := R) (p := p) (e := e) (below := below) (args := args) (s := s) (len := 3) (W := cats rest) hM hZ w2 w3 (by show P.rf k' + 1 ≤ _; omega) (by show cats rest + (P.maxL k' + 11) + P.rl k' ≤ _; omega)
  have hyl : y.reverse.length = as.length := hws.len
  have recv : q ≠ 0 → ∃ a r' b ws', as = .ref a :: r' ∧ y.reverse = .ref b :: ws' ∧ Exa Z T.heap b C := fun h0 => by
    obtain ⟨a, r', fs, rfl, hfs⟩ := recv_spec h0 c5
    obtain ⟨_, ws', e1, ⟨b, hb, rfl⟩, -⟩ := hws
    obtain ⟨b', f1, f2, -⟩ := hH.2.2.2 _ _ hfs
    cases hb.symm.trans f1
    exact ⟨a, r', b, ws', rfl, e1, f2⟩
  cases i <;> simp only [poolOf, Option.some.injEq, reduceCtorEq] at hj
  case invokestatic j' =>
    subst hj
    obtain rfl : len = 3 := hlen'.resolve_left (by simp [ilen])
    obtain rfl : q = 0 := by
      match q, hkind with
      | 0, _ => rfl
    obtain ⟨w, _, ⟨T2, L2, k2, n2⟩, -, X2, ⟨Lc, hQ, l1, l2, l3⟩, st2⟩ := Jvm.LawKit.callS X hx (y := nm k') hown (mvT hZ w1) (mvT hZ w10) (mvT hZ w3) (mvT hZ w2) w7 hB (g := mkF m pc ls (y ++ z)) rfl (by rw [hml]; exact hlz) (argsL := y.reverse) (rest := z) (lenOf w4 (by rw [hyl, hlen, w5]; rfl)) (by simp) (by rw [hcz]; show 2 * 0 + _ ≤ _; omega) hd (fun _ _ => ⟨rfl, rfl, hcells, hslots⟩)
    dsimp only [Pt.U, Pt.locs, Pt.cells, Pt.slots] at X2 l1 l2 l3 st2 hQ
    subst l1 l2 l3
    exact ⟨T2, w, Lc, z, rfl, X2, hQ, hz, st2⟩
  case invokespecial j' =>
    subst hj
    obtain rfl : len = 3 := hlen'.resolve_left (by simp [ilen])
    obtain rfl : q = 1 := by
      match q, hkind with
      | 1, _ => rfl
    obtain ⟨a, r', b, ws', ea, ey, hEx⟩ := recv (by decide)
    obtain ⟨w11, w12, w13⟩ := w10
    have ey' : y = ws'.reverse ++ [.ref b] := by rw [← List.reverse_reverse y, ey]; simp
    rw [ey] at hB
    have hl : ws'.length = ps.length := by rw [ey, hlen, w5] at hyl; simpa [rcv] using hyl
    obtain ⟨w, _, ⟨T2, L2, k2, n2⟩, -, X2, ⟨Lc, hQ, l1, l2, l3⟩, st2⟩ := X.specialBack hx (y := nm k') w11 hown (mvT hZ w1) (mvT hZ w12) (bytes := bc k') (maxL := P.maxL k') (mvT hZ (by rw [w13] at w2; exact w2)) w7 hB (g := mkF m pc ls (y ++ z)) rfl (by rw [hml]; exact hlz) (Steps.refl _) (a := b) (argsL := ws') (rest := z) (lenOf w4 hl) (by rw [ey']; simp) (by rw [hcz]; show 2 * 0 + _ ≤ _; omega) hd (fun _ _ => ⟨rfl, rfl, hcells, hslots⟩)
    dsimp only [Pt.U, Pt.locs, Pt.cells, Pt.slots] at X2 l1 l2 l3 st2 hQ
    subst l1 l2 l3
    exact ⟨T2, w, Lc, z, rfl, X2, hQ, hz, fun target hr => st2.trans hr⟩
  case invokevirtual j' =>
    subst hj
    obtain rfl : len = 3 := hlen'.resolve_left (by simp [ilen])
    have hq : q = 2 ∨ q = 3 := by
      match q, hkind with
      | 2, _ => exact Or.inl rfl
      | 3, _ => exact Or.inr rfl
    obtain ⟨a, r', b, ws', ea, ey, hEx⟩ := recv (by omega)
    have ey' : y = ws'.reverse ++ [.ref b] := by rw [← List.reverse_reverse y, ey]; simp
    rw [ey] at hB
    rcases hq with rfl | rfl
    · obtain ⟨w11, w12, w13⟩ := w10
      have hl : ws'.length = ps.length := by rw [ey, hlen, w5] at hyl; simpa [rcv] using hyl
      obtain ⟨cq, kq, qa, qb, qc⟩ := isOf hZ rfl hEx
      obtain ⟨w, _, ⟨T2, L2, k2, n2⟩, -, X2, ⟨Lc, hQ, l1, l2, l3⟩, st2⟩ := X.virtualBack hx (y := nm k') (z := nm k') hown (mvT hZ w1) (mvT hZ w11) (notFace_of_selects (args := #[]) (mvT hZ w13)) (mvT hZ w13) (mvT hZ w12) w7 hB qa qc (g := mkF m pc ls (y ++ z)) rfl (by rw [hml]; exact hlz) (Steps.refl _) (argsL := ws') (rest := z) (lenOf w4 hl) (by rw [ey']; simp) (by rw [hcz]; show 2 * 0 + _ ≤ _; omega) hd (fun _ _ => ⟨rfl, rfl, hcells, hslots⟩)
      dsimp only [Pt.U, Pt.locs, Pt.cells, Pt.slots] at X2 l1 l2 l3 st2 hQ
      subst l1 l2 l3
      exact ⟨T2, w, Lc, z, rfl, X2, hQ, hz, fun target hr => st2.trans hr⟩
    · obtain ⟨w11, w12, w13⟩ := w10
      have hl : ws'.length = ps.length := by rw [ey, hlen, w5] at hyl; simpa [rcv] using hyl
      obtain ⟨cq, q1, q2⟩ := hEx.cell
      obtain ⟨cC, kC, i1, i2, i3, i4, -⟩ := Cond.instantiable_spec (mvT hZ G6 : (Cond.instantiable C P.objN).before #[] s = true)
      have hpriv : s.PrivateAt (nm k') := Cond.privateMethod_at (mvP hZ w13 (args := #[]))
      have hsel : (Cond.selects (nm k').cls (nm k') (nm k')).before args s = true := selects_self_of_private (by rw [w11]; exact i1) i2 (by simpa using (Bool.or_eq_false_iff.mp i4).1) hpriv (mvT hZ w12) w7
      obtain ⟨w, _, ⟨T2, L2, k2, n2⟩, -, X2, ⟨Lc, hQ, l1, l2, l3⟩, st2⟩ := X.privateBack hx (y := nm k') hown (mvT hZ w1) (mvT hZ w12) hsel hpriv (mvT hZ w2) w7 hB (g := mkF m pc ls (y ++ z)) rfl (by rw [hml]; exact hlz) (Steps.refl _) (a := b) q1 q2 (argsL := ws') (rest := z) (lenOf w4 hl) (by rw [ey']; simp) (by rw [hcz]; show 2 * 0 + _ ≤ _; omega) hd (fun _ _ => ⟨rfl, rfl, hcells, hslots⟩)
      dsimp only [Pt.U, Pt.locs, Pt.cells, Pt.slots] at X2 l1 l2 l3 st2 hQ
      subst l1 l2 l3
      exact ⟨T2, w, Lc, z, rfl, X2, hQ, hz, fun target hr => st2.trans hr⟩
theorem ret_sound (G : Good P nm bc cn C Z a0) {k pc np : Nat} {i : Instr} {S : List Value} {v : Option Value} (hcode : P.code k pc = some (i, np)) (h : retV P k i S = some v)
    (X : Stand p l e R s m args below meth c T locs cells slots) (hx : p.tables.exec = Jvm.exec) (hby : c.code = bc k) (hret : meth.sig.returnType = P.ret k) {am : List Addr} {ls : Array Slot} {st : List Value} (hS : SR am S st) :
    ∃ w, OVR am v w ∧ (P.ret k = none → w = none) ∧ ∀ fs, (∀ (f : JFrame) (acts : List Action), f.method = m → f.locked = none → f.entered = [] → (doReturn e (T.setTop f) acts w).1 = T.setFrames fs) → Steps p.tables e below (T.setTop (mkF m pc ls st)) (T.setFrames fs) := by
  obtain ⟨G1, -⟩ := G
  obtain ⟨len, hdec, rfl, hlen⟩ := G1 _ _ _ _ hcode
  have hd : decode c.code pc = .ok (i, len) := by rw [hby]; exact hdec
  rcases retV_spec h with ⟨rfl, rfl, hr, rfl⟩ | ⟨x, r, rfl, rfl, hr, rfl⟩ | ⟨x, r, rfl, rfl, hr, rfl⟩ | ⟨x, r, rfl, rfl, hr, rfl⟩
  · obtain rfl : len = 1 := hlen.resolve_left (by simp [ilen])
    cases hS
    exact ⟨none, rfl, fun _ => rfl, fun fs hl => X.returnOut hx (hret.trans hr) hd hl⟩
  · obtain rfl : len = 1 := hlen.resolve_left (by simp [ilen])
    obtain ⟨_, _, rfl, rfl, hr'⟩ := hS
    exact ⟨some (.int x), ⟨_, rfl, rfl⟩, (fun q => by rw [hr] at q; cases q), fun fs hl => retOut X hx (hret.trans hr) rfl (Or.inl ⟨rfl, Or.inl rfl, x, rfl⟩) hd hl⟩
  · obtain rfl : len = 1 := hlen.resolve_left (by simp [ilen])
    obtain ⟨_, _, rfl, rfl, hr'⟩ := hS
    exact ⟨some (.int (x &&& 1)), ⟨_, rfl, rfl⟩, (fun q => by rw [hr] at q; cases q), fun fs hl => retN X hx (hret.trans hr) (Or.inl rfl) hd hl⟩
  · obtain rfl : len = 1 := hlen.resolve_left (by simp [ilen])
    obtain ⟨_, _, rfl, rfl, hr'⟩ := hS
    exact ⟨some (.long x), ⟨_, rfl, rfl⟩, (fun q => by rw [hr] at q; cases q), fun fs hl => retOut X hx (hret.trans hr) rfl (Or.inr (Or.inl ⟨rfl, rfl, x, rfl⟩)) hd hl⟩
theorem SR.opt {am : List Addr} {v w : Option Value} {S st : List Value} (h : OVR am v w) (hS : SR am S st) : SR am (v.toList ++ S) (w.toList ++ st) := by
  cases v with
  | none => cases h; exact hS
  | some x => obtain ⟨y, rfl, h1⟩ := h; exact ⟨y, st, rfl, h1, hS⟩
theorem sound (G : Good P nm bc cn C Z a0) : ∀ n, SoundAt P nm bc cn C Z n
  | 0 => fun k pc L S H v H' h => by simp [run] at h
  | n + 1 => fun k pc L S H v H' h => by
    have IH := sound G n
    intro p l e R s m args below meth c T locs cells slots n0 am ls st X hx hZ hby hml hret hown hini hrf hrl hcells hslots hlz hL hS hH hF hn
    rw [run] at h
    split at h
    · cases h
    · rename_i i np hcode
      split at h
      · rename_i v' hv
        cases h
        obtain ⟨w, h1, h2, h3⟩ := ret_sound G hcode hv X hx hby hret (ls := ls) hS
        exact ⟨T, am, locs, w, by simpa using X, hH, Pre.refl _, hF, h1, hn, h2, h3⟩
      · split at h
        · rename_i k' as rest hcall
          split at h
          · rename_i v1 H1 hr1
            have g1 := run_grow hr1
            have g2 := run_grow h
            obtain ⟨T2, w, Lc, z, rfl, X2, ⟨q1, q2, am2, q3, q4, q5⟩, hz, st2⟩ := call_sound G IH hcode hcall hr1 X hx hZ hby hml hown hrf hrl (by omega) (by omega) (ls := ls) hlz hS hH hn
            obtain ⟨T', am', locs', w', X', f1, f2, f3, f4, f5, f6, f7⟩ := IH k _ _ _ _ _ _ h X2 hx hZ hby hml hret hown hini hrf hrl (by omega) (by omega) hlz (hL.mono q3) (SR.opt q5 (hz.mono q3)) q4 (Fr.app hF q1) q2
            refine ⟨T', am', locs', w', ?_, f1, q3.trans f2, f3, f4, f5, f6, fun fs hl => st2 _ (f7 fs hl)⟩
            have a1 : cells + (H1.length - H.length) + (H'.length - H1.length) = cells + (H'.length - H.length) := by omega
            have a2 : slots + (hsz P H1 - hsz P H) + (hsz P H' - hsz P H1) = slots + (hsz P H' - hsz P H) := by omega
            rw [a1, a2] at X'; exact X'
          · cases h
        · split at h
          · rename_i pc1 L1 S1 H1 hs1
            have g1 := step_grow hs1
            have g2 := run_grow h
            obtain ⟨T2, am2, ls2, st2, locs2, X2, b1, b2, b3, b4, b5, b6, b7, b8⟩ := step_sound G hcode hs1 X hx hZ hby hml hown hini hrf hrl (by omega) (by omega) hlz hL hS hH hF hn
            obtain ⟨T', am', locs', w', X', f1, f2, f3, f4, f5, f6, f7⟩ := IH k _ _ _ _ _ _ h X2 hx hZ hby hml hret hown hini hrf hrl (by omega) (by omega) (b2.trans hlz) b1 b3 b4 b6 b7
            refine ⟨T', am', locs', w', ?_, f1, b5.trans f2, f3, f4, f5, f6, fun fs hl => b8 _ (f7 fs hl)⟩
            have a1 : cells + (H1.length - H.length) + (H'.length - H1.length) = cells + (H'.length - H.length) := by omega
            have a2 : slots + (hsz P H1 - hsz P H) + (hsz P H' - hsz P H1) = slots + (hsz P H' - hsz P H) := by omega
            rw [a1, a2] at X'; exact X'
          · cases h
end Met
end Jvm.OwnX
namespace Jvm.OwnX
open Sem ClassFile Op Lib Jvm.Stand Jvm.Free Jvm.LawKit Jvm.RoadKit
theorem run_succ {P : Prog} : ∀ (n : Nat) {k pc : Nat} {L : ALoc} {S : List Value} {H : AHeap} {out : Option Value × AHeap}, run P n k pc L S H = some out → run P (n + 1) k pc L S H = some out
  | 0, k, pc, L, S, H, out, h => by simp [run] at h
  | n + 1, k, pc, L, S, H, out, h => by
    rw [run] at h
    rw [run]
    split at h
    · cases h
    · rename_i i np hc
      try simp only [hc]
      split at h
      · rename_i v hv
        try simp only [hv]
        exact h
      · rename_i hv
        try simp only [hv]
        split at h
        · rename_i k' as rest hcall
          try simp only [hcall]
          split at h
          · rename_i v1 H1 h1
            rw [run_succ n h1]; exact run_succ n h
          · cases h
        · rename_i hcall
          try simp only [hcall]
          split at h
          · rename_i pc1 L1 S1 H1 h1
            try simp only [h1]
            exact run_succ n h
          · cases h
theorem run_le {P : Prog} {n m k pc : Nat} {L : ALoc} {S : List Value} {H : AHeap} {out : Option Value × AHeap} (hm : n ≤ m) (h : run P n k pc L S H = some out) : run P m k pc L S H = some out := by
  induction hm with
  | refl => exact h
  | step _ ih => exact run_succ _ ih
section Rules
variable {P : Prog} {k pc np : Nat} {L L' : ALoc} {S r : List Value} {H : AHeap} {out : Option Value × AHeap}
theorem Eval.of_step {i : Instr} {pc' : Nat} {S' : List Value} {H' : AHeap} (hc : P.code k pc = some (i, np)) (h1 : retV P k i S = none) (h2 : callV P k i S H = none) (h3 : step P k i np pc L S H = some (pc', L', S', H')) (h : Eval P k pc' L' S' H' out) : Eval P k pc L S H out := by
  obtain ⟨n, h⟩ := h
  exact ⟨n + 1, by rw [run]; simp only [hc, h1, h2, h3]; exact h⟩
theorem Eval.call {i : Instr} {k' : Nat} {as rest : List Value} {v : Option Value} {H1 : AHeap} (hc : P.code k pc = some (i, np)) (h2 : callV P k i S H = some (k', as, rest)) (he : Eval P k' 0 (entry P k' as) [] H (v, H1)) (h : Eval P k np L (v.toList ++ rest) H1 out) : Eval P k pc L S H out := by
  obtain ⟨n, he⟩ := he
  obtain ⟨m, h⟩ := h
  have h1 : retV P k i S = none := by
    unfold callV at h2
    cases i <;> simp only [poolOf, reduceCtorEq] at h2 <;> rfl
  exact ⟨n + m + 1, by rw [run]; simp only [hc, h1, h2]; rw [run_le (Nat.le_add_right n m) he]; exact run_le (Nat.le_add_left m n) h⟩
theorem Eval.ret {i : Instr} {v : Option Value} (hc : P.code k pc = some (i, np)) (h1 : retV P k i S = some v) : Eval P k pc L S H (v, H) := ⟨1, by rw [run]; simp only [hc, h1]⟩
theorem Eval.eq {out' : Option Value × AHeap} (h : Eval P k pc L S H out') (e : out' = out) : Eval P k pc L S H out := e ▸ h
theorem Eval.iload_n {n : Fin 4} {x : Int32} (hc : P.code k pc = some (.iload_n n, np)) (hl : loadI L n.val = some x) (h : Eval P k np L (.int x :: S) H out) : Eval P k pc L S H out := Eval.of_step hc rfl rfl (by simp only [step, hl]) h
theorem Eval.iload {n : Nat} {x : Int32} (hc : P.code k pc = some (.iload n, np)) (hl : loadI L n = some x) (h : Eval P k np L (.int x :: S) H out) : Eval P k pc L S H out := Eval.of_step hc rfl rfl (by simp only [step, hl]) h
theorem Eval.lload_n {n : Fin 4} {x : Int64} (hc : P.code k pc = some (.lload_n n, np)) (hl : loadJ L n.val = some x) (h : Eval P k np L (.long x :: S) H out) : Eval P k pc L S H out := Eval.of_step hc rfl rfl (by simp only [step, hl]) h
theorem Eval.lload {n : Nat} {x : Int64} (hc : P.code k pc = some (.lload n, np)) (hl : loadJ L n = some x) (h : Eval P k np L (.long x :: S) H out) : Eval P k pc L S H out := Eval.of_step hc rfl rfl (by simp only [step, hl]) h
theorem Eval.aload_n {n : Fin 4} {x : Nat} (hc : P.code k pc = some (.aload_n n, np)) (hl : loadA L n.val = some x) (h : Eval P k np L (.ref x :: S) H out) : Eval P k pc L S H out := Eval.of_step hc rfl rfl (by simp only [step, hl]) h
theorem Eval.aload {n : Nat} {x : Nat} (hc : P.code k pc = some (.aload n, np)) (hl : loadA L n = some x) (h : Eval P k np L (.ref x :: S) H out) : Eval P k pc L S H out := Eval.of_step hc rfl rfl (by simp only [step, hl]) h
theorem Eval.istore_n {n : Fin 4} {x : Int32} (hc : P.code k pc = some (.istore_n n, np)) (hl : lput L n.val (.int x) = some L') (h : Eval P k np L' r H out) : Eval P k pc L (.int x :: r) H out := Eval.of_step hc rfl rfl (by simp only [step, hl]) h
theorem Eval.istore {n : Nat} {x : Int32} (hc : P.code k pc = some (.istore n, np)) (hl : lput L n (.int x) = some L') (h : Eval P k np L' r H out) : Eval P k pc L (.int x :: r) H out := Eval.of_step hc rfl rfl (by simp only [step, hl]) h
theorem Eval.astore_n {n : Fin 4} {x : Nat} (hc : P.code k pc = some (.astore_n n, np)) (hl : lput L n.val (.ref x) = some L') (h : Eval P k np L' r H out) : Eval P k pc L (.ref x :: r) H out := Eval.of_step hc rfl rfl (by simp only [step, hl]) h
theorem Eval.astore {n : Nat} {x : Nat} (hc : P.code k pc = some (.astore n, np)) (hl : lput L n (.ref x) = some L') (h : Eval P k np L' r H out) : Eval P k pc L (.ref x :: r) H out := Eval.of_step hc rfl rfl (by simp only [step, hl]) h
theorem Eval.lstore_n {n : Fin 4} {x : Int64} (hc : P.code k pc = some (.lstore_n n, np)) (hl : lputL L n.val x = some L') (h : Eval P k np L' r H out) : Eval P k pc L (.long x :: r) H out := Eval.of_step hc rfl rfl (by simp only [step, hl]) h
theorem Eval.lstore {n : Nat} {x : Int64} (hc : P.code k pc = some (.lstore n, np)) (hl : lputL L n x = some L') (h : Eval P k np L' r H out) : Eval P k pc L (.long x :: r) H out := Eval.of_step hc rfl rfl (by simp only [step, hl]) h
theorem Eval.iinc {n : Nat} {c : Int} {x : Int32} (hc : P.code k pc = some (.iinc n c, np)) (hl : loadI L n = some x) (hp : lput L n (.int (x + Int32.ofInt c)) = some L') (h : Eval P k np L' S H out) : Eval P k pc L S H out := Eval.of_step hc rfl rfl (by simp only [step, hl, hp]) h
theorem Eval.iconst {c : Int} {x : Int32} (hc : P.code k pc = some (.iconst c, np)) (hx : Int32.ofInt c = x) (h : Eval P k np L (.int x :: S) H out) : Eval P k pc L S H out := Eval.of_step hc rfl rfl (by subst hx; rfl) h
theorem Eval.bipush {c : Int} {x : Int32} (hc : P.code k pc = some (.bipush c, np)) (hx : (Int8.ofInt c).toInt32 = x) (h : Eval P k np L (.int x :: S) H out) : Eval P k pc L S H out := Eval.of_step hc rfl rfl (by subst hx; rfl) h
theorem Eval.sipush {c : Int} {x : Int32} (hc : P.code k pc = some (.sipush c, np)) (hx : (Int16.ofInt c).toInt32 = x) (h : Eval P k np L (.int x :: S) H out) : Eval P k pc L S H out := Eval.of_step hc rfl rfl (by subst hx; rfl) h
theorem Eval.lconst {c : Fin 2} {x : Int64} (hc : P.code k pc = some (.lconst c, np)) (hx : Int64.ofNat c = x) (h : Eval P k np L (.long x :: S) H out) : Eval P k pc L S H out := Eval.of_step hc rfl rfl (by subst hx; rfl) h
theorem Eval.ldc {j : Nat} {x : Int32} (hc : P.code k pc = some (.ldc j, np)) (hx : P.kon (P.cls k) j = some (.int x)) (h : Eval P k np L (.int x :: S) H out) : Eval P k pc L S H out := Eval.of_step hc rfl rfl (by simp only [step, hx]) h
theorem Eval.ldc2_w {j : Nat} {x : Int64} (hc : P.code k pc = some (.ldc2_w j, np)) (hx : P.kon (P.cls k) j = some (.long x)) (h : Eval P k np L (.long x :: S) H out) : Eval P k pc L S H out := Eval.of_step hc rfl rfl (by simp only [step, hx]) h
theorem Eval.idiv {x y : Int32} (hc : P.code k pc = some (.idiv, np)) (hy : ¬ y = 0) (h : Eval P k np L (.int (x / y) :: r) H out) : Eval P k pc L (.int y :: .int x :: r) H out := Eval.of_step hc rfl rfl (by simp [step, hy]) h
theorem Eval.irem {x y : Int32} (hc : P.code k pc = some (.irem, np)) (hy : ¬ y = 0) (h : Eval P k np L (.int (x % y) :: r) H out) : Eval P k pc L (.int y :: .int x :: r) H out := Eval.of_step hc rfl rfl (by simp [step, hy]) h
theorem Eval.iadd {x y : Int32} (hc : P.code k pc = some (.iadd, np))  (h : Eval P k np L (.int (x + y) :: r) H out) : Eval P k pc L (.int y :: .int x :: r) H out := Eval.of_step hc rfl rfl (by rfl) h
theorem Eval.isub {x y : Int32} (hc : P.code k pc = some (.isub, np))  (h : Eval P k np L (.int (x - y) :: r) H out) : Eval P k pc L (.int y :: .int x :: r) H out := Eval.of_step hc rfl rfl (by rfl) h
theorem Eval.imul {x y : Int32} (hc : P.code k pc = some (.imul, np))  (h : Eval P k np L (.int (x * y) :: r) H out) : Eval P k pc L (.int y :: .int x :: r) H out := Eval.of_step hc rfl rfl (by rfl) h
theorem Eval.iand {x y : Int32} (hc : P.code k pc = some (.iand, np))  (h : Eval P k np L (.int (x &&& y) :: r) H out) : Eval P k pc L (.int y :: .int x :: r) H out := Eval.of_step hc rfl rfl (by rfl) h
theorem Eval.ior {x y : Int32} (hc : P.code k pc = some (.ior, np))  (h : Eval P k np L (.int (x ||| y) :: r) H out) : Eval P k pc L (.int y :: .int x :: r) H out := Eval.of_step hc rfl rfl (by rfl) h
theorem Eval.ixor {x y : Int32} (hc : P.code k pc = some (.ixor, np))  (h : Eval P k np L (.int (x ^^^ y) :: r) H out) : Eval P k pc L (.int y :: .int x :: r) H out := Eval.of_step hc rfl rfl (by rfl) h
theorem Eval.ishl {x y : Int32} (hc : P.code k pc = some (.ishl, np))  (h : Eval P k np L (.int (ish x y) :: r) H out) : Eval P k pc L (.int y :: .int x :: r) H out := Eval.of_step hc rfl rfl (by rfl) h
theorem Eval.ishr {x y : Int32} (hc : P.code k pc = some (.ishr, np))  (h : Eval P k np L (.int (isr x y) :: r) H out) : Eval P k pc L (.int y :: .int x :: r) H out := Eval.of_step hc rfl rfl (by rfl) h
theorem Eval.iushr {x y : Int32} (hc : P.code k pc = some (.iushr, np))  (h : Eval P k np L (.int (ush x y) :: r) H out) : Eval P k pc L (.int y :: .int x :: r) H out := Eval.of_step hc rfl rfl (by rfl) h
theorem Eval.ladd {x y : Int64} (hc : P.code k pc = some (.ladd, np))  (h : Eval P k np L (.long (x + y) :: r) H out) : Eval P k pc L (.long y :: .long x :: r) H out := Eval.of_step hc rfl rfl (by rfl) h
theorem Eval.lsub {x y : Int64} (hc : P.code k pc = some (.lsub, np))  (h : Eval P k np L (.long (x - y) :: r) H out) : Eval P k pc L (.long y :: .long x :: r) H out := Eval.of_step hc rfl rfl (by rfl) h
theorem Eval.lmul {x y : Int64} (hc : P.code k pc = some (.lmul, np))  (h : Eval P k np L (.long (x * y) :: r) H out) : Eval P k pc L (.long y :: .long x :: r) H out := Eval.of_step hc rfl rfl (by rfl) h
theorem Eval.land {x y : Int64} (hc : P.code k pc = some (.land, np))  (h : Eval P k np L (.long (x &&& y) :: r) H out) : Eval P k pc L (.long y :: .long x :: r) H out := Eval.of_step hc rfl rfl (by rfl) h
theorem Eval.lor {x y : Int64} (hc : P.code k pc = some (.lor, np))  (h : Eval P k np L (.long (x ||| y) :: r) H out) : Eval P k pc L (.long y :: .long x :: r) H out := Eval.of_step hc rfl rfl (by rfl) h
theorem Eval.lxor {x y : Int64} (hc : P.code k pc = some (.lxor, np))  (h : Eval P k np L (.long (x ^^^ y) :: r) H out) : Eval P k pc L (.long y :: .long x :: r) H out := Eval.of_step hc rfl rfl (by rfl) h
theorem Eval.lshl {x : Int64} {y : Int32} (hc : P.code k pc = some (.lshl, np))  (h : Eval P k np L (.long (lsh x y) :: r) H out) : Eval P k pc L (.int y :: .long x :: r) H out := Eval.of_step hc rfl rfl (by rfl) h
theorem Eval.lushr {x : Int64} {y : Int32} (hc : P.code k pc = some (.lushr, np))  (h : Eval P k np L (.long (lus x y) :: r) H out) : Eval P k pc L (.int y :: .long x :: r) H out := Eval.of_step hc rfl rfl (by rfl) h
theorem Eval.lcmp {x y : Int64} (hc : P.code k pc = some (.lcmp, np))  (h : Eval P k np L (.int (lcm x y) :: r) H out) : Eval P k pc L (.long y :: .long x :: r) H out := Eval.of_step hc rfl rfl (by rfl) h
theorem Eval.lneg {x : Int64} (hc : P.code k pc = some (.lneg, np))  (h : Eval P k np L (.long (-x) :: r) H out) : Eval P k pc L (.long x :: r) H out := Eval.of_step hc rfl rfl (by rfl) h
theorem Eval.i2l {x : Int32} (hc : P.code k pc = some (.i2l, np))  (h : Eval P k np L (.long x.toInt64 :: r) H out) : Eval P k pc L (.int x :: r) H out := Eval.of_step hc rfl rfl (by rfl) h
theorem Eval.l2i {x : Int64} (hc : P.code k pc = some (.l2i, np))  (h : Eval P k np L (.int x.toInt32 :: r) H out) : Eval P k pc L (.long x :: r) H out := Eval.of_step hc rfl rfl (by rfl) h
theorem Eval.i2b {x : Int32} (hc : P.code k pc = some (.i2b, np))  (h : Eval P k np L (.int (i8 x) :: r) H out) : Eval P k pc L (.int x :: r) H out := Eval.of_step hc rfl rfl (by rfl) h
theorem Eval.dupR {x : Nat} (hc : P.code k pc = some (.dup, np))  (h : Eval P k np L (.ref x :: .ref x :: r) H out) : Eval P k pc L (.ref x :: r) H out := Eval.of_step hc rfl rfl (by rfl) h
theorem Eval.dupI {x : Int32} (hc : P.code k pc = some (.dup, np))  (h : Eval P k np L (.int x :: .int x :: r) H out) : Eval P k pc L (.int x :: r) H out := Eval.of_step hc rfl rfl (by rfl) h
theorem Eval.dup2 {x : Int32} {y : Nat} (hc : P.code k pc = some (.dup2, np))  (h : Eval P k np L (.int x :: .ref y :: .int x :: .ref y :: r) H out) : Eval P k pc L (.int x :: .ref y :: r) H out := Eval.of_step hc rfl rfl (by rfl) h
theorem Eval.popI {x : Int32} (hc : P.code k pc = some (.pop, np))  (h : Eval P k np L r H out) : Eval P k pc L (.int x :: r) H out := Eval.of_step hc rfl rfl (by rfl) h
theorem Eval.popR {x : Nat} (hc : P.code k pc = some (.pop, np))  (h : Eval P k np L r H out) : Eval P k pc L (.ref x :: r) H out := Eval.of_step hc rfl rfl (by rfl) h
theorem Eval.goto {o : Int} {t : Nat} (hc : P.code k pc = some (.goto o, np)) (ht : tgt pc o = some t) (h : Eval P k t L S H out) : Eval P k pc L S H out := Eval.of_step hc rfl rfl (by simp only [step, ht]) h
theorem Eval.ifT {cd : ClassFile.Cond} {o : Int} {t : Nat} {x : Int32} (hc : P.code k pc = some (.ifCond cd o, np)) (ht : tgt pc o = some t) (hb : if_icmp.holds cd x 0 = true) (h : Eval P k t L r H out) : Eval P k pc L (.int x :: r) H out := Eval.of_step hc rfl rfl (by simp only [step, ht, hb, cond_true]) h
theorem Eval.ifF {cd : ClassFile.Cond} {o : Int} {x : Int32} (hc : P.code k pc = some (.ifCond cd o, np)) (hb : if_icmp.holds cd x 0 = false) (h : Eval P k np L r H out) : Eval P k pc L (.int x :: r) H out := Eval.of_step hc rfl rfl (by simp only [step, hb, cond_false]) h
theorem Eval.icmpT {cd : ClassFile.Cond} {o : Int} {t : Nat} {x y : Int32} (hc : P.code k pc = some (.if_icmp cd o, np)) (ht : tgt pc o = some t) (hb : if_icmp.holds cd x y = true) (h : Eval P k t L r H out) : Eval P k pc L (.int y :: .int x :: r) H out := Eval.of_step hc rfl rfl (by simp only [step, ht, hb, cond_true]) h
theorem Eval.icmpF {cd : ClassFile.Cond} {o : Int} {x y : Int32} (hc : P.code k pc = some (.if_icmp cd o, np)) (hb : if_icmp.holds cd x y = false) (h : Eval P k np L r H out) : Eval P k pc L (.int y :: .int x :: r) H out := Eval.of_step hc rfl rfl (by simp only [step, hb, cond_false]) h
theorem Eval.tswIn {d lo hi o : Int} {offs : Array Int} {t : Nat} {x : Int32} (hc : P.code k pc = some (.tableswitch d lo hi offs, np)) (h1 : (decide (x.toInt < lo) || decide (x.toInt > hi)) = false) (h2 : offs.toList[(x.toInt - lo).toNat]? = some o) (ht : tgt pc o = some t) (h : Eval P k t L r H out) : Eval P k pc L (.int x :: r) H out := Eval.of_step hc rfl rfl (by simp only [step, h1, h2, ht, cond_false]) h
theorem Eval.tswOut {d lo hi : Int} {offs : Array Int} {t : Nat} {x : Int32} (hc : P.code k pc = some (.tableswitch d lo hi offs, np)) (h1 : (decide (x.toInt < lo) || decide (x.toInt > hi)) = true) (ht : tgt pc d = some t) (h : Eval P k t L r H out) : Eval P k pc L (.int x :: r) H out := Eval.of_step hc rfl rfl (by simp only [step, h1, ht, cond_true]) h
theorem Eval.getfield {j f a : Nat} {v : Value} (hc : P.code k pc = some (.getfield j, np)) (hf : P.fld (P.cls k) j = some f) (hg : getC H a f = some v) (h : Eval P k np L (v :: r) H out) : Eval P k pc L (.ref a :: r) H out := Eval.of_step hc rfl rfl (by simp only [step, hf, hg]) h
/-- the heap with a field written -/
def putC (P : Prog) (k : Nat) (H : AHeap) (a f : Nat) (v : Value) : Option AHeap := match P.fields[f]? with
  | some (_, _, t, fin) => (bif (!fin || P.ini k) && Nat.ble P.ro a then (match conv t v with
    | some v' => (match H[a]? with
      | some (.inl fs) => (bif Nat.ble (f + 1) fs.length then some (H.set a (.inl (fs.set f v'))) else none)
      | _ => none)
    | none => none) else none)
  | none => none
theorem putC_spec {P : Prog} {k a f : Nat} {v : Value} {H H1 : AHeap} (hp : putC P k H a f v = some H1) : ∃ n d t fin v' fs, P.fields[f]? = some (n, d, t, fin) ∧ ((!fin || P.ini k) && Nat.ble P.ro a) = true ∧ conv t v = some v' ∧ H[a]? = some (.inl fs) ∧ Nat.ble (f + 1) fs.length = true ∧ H1 = H.set a (.inl (fs.set f v')) := by
  unfold putC at hp
  simp only [Bool.cond_eq_ite] at hp
  split at hp
  · rename_i n d t fin hq
    split at hp
    · rename_i hc
      split at hp
      · rename_i v' hv
        split at hp
        · rename_i fs hfs
          split at hp
          · rename_i hz
            cases hp; exact ⟨n, d, t, fin, v', fs, hq, hc, hv, hfs, hz, rfl⟩
          · cases hp
        · cases hp
      · cases hp
    · cases hp
  · cases hp
theorem step_put {j f a : Nat} {v : Value} {H1 : AHeap} (hf : P.fld (P.cls k) j = some f) (hp : putC P k H a f v = some H1) : step P k (.putfield j) np pc L (v :: .ref a :: r) H = some (np, L, r, H1) := by
  obtain ⟨n, d, t, fin, v', fs, h1, h2, h3, h4, h5, rfl⟩ := putC_spec hp
  simp only [step, hf, h1, h2, h3, h4, h5, cond_true]
theorem Eval.putfield {j f a : Nat} {v : Value} {H1 : AHeap} (hc : P.code k pc = some (.putfield j, np)) (hf : P.fld (P.cls k) j = some f) (hp : putC P k H a f v = some H1) (h : Eval P k np L r H1 out) : Eval P k pc L (v :: .ref a :: r) H out := Eval.of_step hc rfl rfl (step_put hf hp) h
theorem Eval.iaload0 {a : Nat} {j : Int32} {xs : List Int32} (hc : P.code k pc = some (.iaload, np)) (ha : H[a]? = some (.inr (.inl (0, xs)))) (hj : inb xs.length j = true) (h : Eval P k np L (.int (rd xs j) :: r) H out) : Eval P k pc L (.int j :: .ref a :: r) H out := Eval.of_step hc rfl rfl (by simp only [step, ha, hj, cond_true]) h
theorem Eval.iaload {a : Nat} {j : Int32} {xs : List Int32} (hc : P.code k pc = some (.iaload, np)) (ha : H[a]? = some (.inr (.inl (1, xs)))) (hj : inb xs.length j = true) (h : Eval P k np L (.int (rd xs j) :: r) H out) : Eval P k pc L (.int j :: .ref a :: r) H out := Eval.of_step hc rfl rfl (by simp only [step, ha, hj, cond_true]) h
theorem Eval.baloadZ {a : Nat} {j : Int32} {xs : List Int32} (hc : P.code k pc = some (.baload, np)) (ha : H[a]? = some (.inr (.inl (2, xs)))) (hj : inb xs.length j = true) (h : Eval P k np L (.int (rd xs j) :: r) H out) : Eval P k pc L (.int j :: .ref a :: r) H out := Eval.of_step hc rfl rfl (by simp only [step, ha, hj, cond_true]) h
theorem Eval.baloadB {a : Nat} {j : Int32} {xs : List Int32} (hc : P.code k pc = some (.baload, np)) (ha : H[a]? = some (.inr (.inl (3, xs)))) (hj : inb xs.length j = true) (h : Eval P k np L (.int (rd xs j) :: r) H out) : Eval P k pc L (.int j :: .ref a :: r) H out := Eval.of_step hc rfl rfl (by simp only [step, ha, hj, cond_true]) h
theorem Eval.laload {a : Nat} {j : Int32} {xs : List Int64} (hc : P.code k pc = some (.laload, np)) (ha : H[a]? = some (.inr (.inr xs))) (hj : inb xs.length j = true) (h : Eval P k np L (.long (rdL xs j) :: r) H out) : Eval P k pc L (.int j :: .ref a :: r) H out := Eval.of_step hc rfl rfl (by simp only [step, ha, hj, cond_true]) h
theorem Eval.iastore {a : Nat} {j : Int32} {x : Int32} {xs : List Int32} {H1 : AHeap} (hc : P.code k pc = some (.iastore, np)) (hro : Nat.ble P.ro a = true) (ha : H[a]? = some (.inr (.inl (1, xs)))) (hj : inb xs.length j = true) (hH : H.set a (.inr (.inl (1, wr xs j x))) = H1) (h : Eval P k np L r H1 out) : Eval P k pc L (.int x :: .int j :: .ref a :: r) H out := Eval.of_step hc rfl rfl (by subst hH; simp only [step, hro, ha, hj, cond_true]; try rfl) h
theorem Eval.bastoreZ {a : Nat} {j : Int32} {x : Int32} {xs : List Int32} {H1 : AHeap} (hc : P.code k pc = some (.bastore, np)) (hro : Nat.ble P.ro a = true) (ha : H[a]? = some (.inr (.inl (2, xs)))) (hj : inb xs.length j = true) (hH : H.set a (.inr (.inl (2, wr xs j (x &&& 1)))) = H1) (h : Eval P k np L r H1 out) : Eval P k pc L (.int x :: .int j :: .ref a :: r) H out := Eval.of_step hc rfl rfl (by subst hH; simp only [step, hro, ha, hj, cond_true]; try rfl) h
theorem Eval.bastoreB {a : Nat} {j : Int32} {x : Int32} {xs : List Int32} {H1 : AHeap} (hc : P.code k pc = some (.bastore, np)) (hro : Nat.ble P.ro a = true) (ha : H[a]? = some (.inr (.inl (3, xs)))) (hj : inb xs.length j = true) (hH : H.set a (.inr (.inl (3, wr xs j (i8 x)))) = H1) (h : Eval P k np L r H1 out) : Eval P k pc L (.int x :: .int j :: .ref a :: r) H out := Eval.of_step hc rfl rfl (by subst hH; simp only [step, hro, ha, hj, cond_true]; try rfl) h
theorem Eval.lastore {a : Nat} {j : Int32} {x : Int64} {xs : List Int64} {H1 : AHeap} (hc : P.code k pc = some (.lastore, np)) (hro : Nat.ble P.ro a = true) (ha : H[a]? = some (.inr (.inr xs))) (hj : inb xs.length j = true) (hH : H.set a (.inr (.inr (wrL xs j x))) = H1) (h : Eval P k np L r H1 out) : Eval P k pc L (.long x :: .int j :: .ref a :: r) H out := Eval.of_step hc rfl rfl (by subst hH; simp only [step, hro, ha, hj, cond_true]; try rfl) h
theorem Eval.alenI {a t : Nat} {xs : List Int32} (hc : P.code k pc = some (.arraylength, np)) (ha : H[a]? = some (.inr (.inl (t, xs)))) (h : Eval P k np L (.int xs.length.toInt32 :: r) H out) : Eval P k pc L (.ref a :: r) H out := Eval.of_step hc rfl rfl (by simp only [step, ha]) h
theorem Eval.newarray {t : ArrayType} {n : Int32} {q a z N : Nat} {H1 : AHeap} (hc : P.code k pc = some (.newarray t, np)) (hla : H.length = a) (ht : atyOf t = some q) (hn : decide (n < 0) = false) (hN : n.toNatClampNeg = N) (hb : N ≤ 60000) (hC : a + 1 ≤ P.capC) (hz : hsz P H = z) (hS : z + N ≤ P.capS) (hH : H ++ [newC q N] = H1) (h : Eval P k np L (.ref a :: r) H1 out) : Eval P k pc L (.int n :: r) H out := by
  subst hla hN hz
  have hq : (!(decide (n < 0)) && Nat.ble n.toNatClampNeg 60000 && Nat.ble (H.length + 1) P.capC && Nat.ble (hsz P H + n.toNatClampNeg) P.capS) = true := by
    simp only [hn, Bool.not_false, Bool.true_and, Bool.and_eq_true]
    exact ⟨⟨Nat.ble_eq_true_of_le hb, Nat.ble_eq_true_of_le hC⟩, Nat.ble_eq_true_of_le hS⟩
  exact Eval.of_step hc rfl rfl (by simp only [step, ht, hq, cond_true, hH]) h
theorem Eval.new {j q a z : Nat} {H1 : AHeap} (hc : P.code k pc = some (.new j, np)) (hla : H.length = a) (ht : P.link (P.cls k) j = some (5, q)) (hC : a + 1 ≤ P.capC) (hz : hsz P H = z) (hS : z + P.objN ≤ P.capS) (hH : H ++ [.inl P.fresh] = H1) (h : Eval P k np L (.ref a :: S) H1 out) : Eval P k pc L S H out := by
  subst hla hz
  have hq : (Nat.ble (H.length + 1) P.capC && Nat.ble (hsz P H + P.objN) P.capS) = true := by
    simp only [Bool.and_eq_true]
    exact ⟨Nat.ble_eq_true_of_le hC, Nat.ble_eq_true_of_le hS⟩
  exact Eval.of_step hc rfl rfl (by simp only [step, ht, hq, cond_true, hH]) h
theorem Eval.objInit {j a : Nat} (hc : P.code k pc = some (.invokespecial j, np)) (hq : (isObjInit P k j && Nat.ble 1 (P.rf k) && Nat.ble (cats r + 12) (P.rl k)) = true) (h : Eval P k np L r H out) : Eval P k pc L (.ref a :: r) H out := by
  refine Eval.of_step hc rfl ?_ (by simp only [step, hq, cond_true]) h
  simp only [Bool.and_eq_true] at hq
  have h3 := hq.1.1
  unfold isObjInit at h3
  split at h3
  · rename_i kk hk
    simp [callV, poolOf, hk, kindOk]
  · cases h3
/-- the left knows at least what the right knows -/
def lw : ALoc → ALoc → Prop
  | [], b => b = []
  | a :: r, b => ∃ x r', b = x :: r' ∧ (x = none ∨ x = a) ∧ lw r r'
theorem lw.refl : ∀ L : ALoc, lw L L
  | [] => rfl
  | a :: r => ⟨a, r, rfl, Or.inr rfl, lw.refl r⟩
theorem lw.spec : ∀ {L L' : ALoc}, lw L L' → L.length = L'.length ∧ ∀ (i : Nat) v, L'[i]? = some (some v) → L[i]? = some (some v)
  | [], _, h => by cases h; exact ⟨rfl, fun i v q => by simp at q⟩
  | a :: r, _, ⟨x, r', e, h1, h2⟩ => by
    subst e
    obtain ⟨i1, i2⟩ := lw.spec h2
    refine ⟨by simp [i1], fun i v q => ?_⟩
    cases i with
    | zero =>
      simp only [List.getElem?_cons_zero, Option.some.injEq] at q ⊢
      rcases h1 with rfl | rfl
      · cases q
      · exact q
    | succ i => rw [List.getElem?_cons_succ] at q ⊢; exact i2 i v q
theorem lw.of : ∀ {L L' : ALoc}, L.length = L'.length → (∀ (i : Nat) v, L'[i]? = some (some v) → L[i]? = some (some v)) → lw L L'
  | [], L', h, _ => by cases L' with
    | nil => rfl
    | cons _ _ => simp at h
  | a :: r, L', h, q => by
    cases L' with
    | nil => simp at h
    | cons x r' =>
      refine ⟨x, r', rfl, ?_, lw.of (by simpa using h) fun i v e => ?_⟩
      · cases x with
        | none => exact Or.inl rfl
        | some v => have := q 0 v rfl; simp at this; exact Or.inr this.symm
      · have := q (i + 1) v (by rw [List.getElem?_cons_succ]; exact e); rwa [List.getElem?_cons_succ] at this
theorem lw.kill {L L' : ALoc} (h : lw L L') (i : Nat) : lw (kill1 L i) (kill1 L' i) := by
  obtain ⟨h1, h2⟩ := h.spec
  refine lw.of (by rw [kill1_len, kill1_len, h1]) fun j v q => ?_
  obtain ⟨q1, q2⟩ := kill1_get q
  have q3 := h2 _ _ q1
  unfold kill1
  split
  · exact q3
  · rename_i i
    split
    · rename_i x hx
      by_cases e : i = j
      · subst e; rw [hx] at q3; cases q3; exact absurd rfl (q2 rfl x)
      · rw [List.getElem?_set_ne e]; exact q3
    · exact q3
theorem lw.set {L L' : ALoc} (h : lw L L') (i : Nat) (x : Option Value) : lw (L.set i x) (L'.set i x) := by
  obtain ⟨h1, h2⟩ := h.spec
  refine lw.of (by simp [h1]) fun j v q => ?_
  rw [List.getElem?_set] at q ⊢
  split at q
  · rename_i e
    rw [if_pos e, h1]; exact q
  · rename_i e
    rw [if_neg e]; exact h2 _ _ q
theorem lw.put {L L' L1 : ALoc} (h : lw L L') {i : Nat} {v : Value} (hp : lput L' i v = some L1) : ∃ L2, lput L i v = some L2 ∧ lw L2 L1 := by
  unfold lput at hp ⊢
  rw [h.spec.1]
  rw [Bool.cond_eq_ite] at hp ⊢
  split at hp
  · rename_i hc
    cases hp; exact ⟨_, if_pos hc, (h.kill i).set i _⟩
  · cases hp
theorem lw.putL {L L' L1 : ALoc} (h : lw L L') {i : Nat} {v : Int64} (hp : lputL L' i v = some L1) : ∃ L2, lputL L i v = some L2 ∧ lw L2 L1 := by
  unfold lputL at hp ⊢
  rw [h.spec.1]
  rw [Bool.cond_eq_ite] at hp ⊢
  split at hp
  · rename_i hc
    cases hp; exact ⟨_, if_pos hc, ((h.kill i).set i _).set (i + 1) _⟩
  · cases hp
theorem lw.loadI {L L' : ALoc} (h : lw L L') {i : Nat} {x : Int32} (q : OwnX.loadI L' i = some x) : OwnX.loadI L i = some x := by
  unfold OwnX.loadI at q ⊢
  split at q
  · rename_i y hy
    rw [h.spec.2 _ _ hy]; exact q
  · cases q
theorem lw.loadJ {L L' : ALoc} (h : lw L L') {i : Nat} {x : Int64} (q : OwnX.loadJ L' i = some x) : OwnX.loadJ L i = some x := by
  unfold OwnX.loadJ at q ⊢
  split at q
  · rename_i y hy
    rw [h.spec.2 _ _ hy]; exact q
  · cases q
theorem lw.loadA {L L' : ALoc} (h : lw L L') {i x : Nat} (q : OwnX.loadA L' i = some x) : OwnX.loadA L i = some x := by
  unfold OwnX.loadA at q ⊢
  split at q
  · rename_i y hy
    rw [h.spec.2 _ _ hy]; exact q
  · cases q
set_option maxHeartbeats 4000000 in
theorem step_weak {i : Instr} {pc' : Nat} {S' : List Value} {H' : AHeap} {L1 : ALoc} (hw : lw L L') (h : step P k i np pc L' S H = some (pc', L1, S', H')) : ∃ L2, step P k i np pc L S H = some (pc', L2, S', H') ∧ lw L2 L1 := by
  cases i
  case iload_n n =>
    simp only [step] at h ⊢
    split at h
    · rename_i x hx
      rw [hw.loadI hx]; cases h; exact ⟨L, rfl, hw⟩
    · cases h
  case iload n =>
    simp only [step] at h ⊢
    split at h
    · rename_i x hx
      rw [hw.loadI hx]; cases h; exact ⟨L, rfl, hw⟩
    · cases h
  case lload_n n =>
    simp only [step] at h ⊢
    split at h
    · rename_i x hx
      rw [hw.loadJ hx]; cases h; exact ⟨L, rfl, hw⟩
    · cases h
  case lload n =>
    simp only [step] at h ⊢
    split at h
    · rename_i x hx
      rw [hw.loadJ hx]; cases h; exact ⟨L, rfl, hw⟩
    · cases h
  case aload_n n =>
    simp only [step] at h ⊢
    split at h
    · rename_i x hx
      rw [hw.loadA hx]; cases h; exact ⟨L, rfl, hw⟩
    · cases h
  case aload n =>
    simp only [step] at h ⊢
    split at h
    · rename_i x hx
      rw [hw.loadA hx]; cases h; exact ⟨L, rfl, hw⟩
    · cases h
  case istore_n n =>
    simp only [step] at h ⊢
    split at h
    · split at h
      · rename_i L3 hx
        obtain ⟨L2, e1, e2⟩ := hw.put hx
        cases h; exact ⟨L2, by simp only [e1], e2⟩
      · cases h
    · cases h
  case istore n =>
    simp only [step] at h ⊢
    split at h
    · split at h
      · rename_i L3 hx
        obtain ⟨L2, e1, e2⟩ := hw.put hx
        cases h; exact ⟨L2, by simp only [e1], e2⟩
      · cases h
    · cases h
  case astore_n n =>
    simp only [step] at h ⊢
    split at h
    · split at h
      · rename_i L3 hx
        obtain ⟨L2, e1, e2⟩ := hw.put hx
        cases h; exact ⟨L2, by simp only [e1], e2⟩
      · cases h
    · cases h
  case astore n =>
    simp only [step] at h ⊢
    split at h
    · split at h
      · rename_i L3 hx
        obtain ⟨L2, e1, e2⟩ := hw.put hx
        cases h; exact ⟨L2, by simp only [e1], e2⟩
      · cases h
    · cases h
  case lstore_n n =>
    simp only [step] at h ⊢
    split at h
    · split at h
      · rename_i L3 hx
        obtain ⟨L2, e1, e2⟩ := hw.putL hx
        cases h; exact ⟨L2, by simp only [e1], e2⟩
      · cases h
    · cases h
  case lstore n =>
    simp only [step] at h ⊢
    split at h
    · split at h
      · rename_i L3 hx
        obtain ⟨L2, e1, e2⟩ := hw.putL hx
        cases h; exact ⟨L2, by simp only [e1], e2⟩
      · cases h
    · cases h
  case iinc n c =>
    simp only [step] at h ⊢
    split at h
    · rename_i x hx
      rw [hw.loadI hx]
      split at h
      · rename_i L3 hp
        obtain ⟨L2, e1, e2⟩ := hw.put hp
        cases h; exact ⟨L2, by simp only [e1], e2⟩
      · cases h
    · cases h
  all_goals
    simp only [step, Bool.cond_eq_ite] at h ⊢
    repeat' (split at h)
  all_goals first
    | (cases h; done)
    | (simp only [Option.some.injEq, Prod.mk.injEq] at h; obtain ⟨rfl, rfl, rfl, rfl⟩ := h; refine ⟨L, ?_, hw⟩; first | rfl | (simp only [*, if_true, if_false]; done) | (simp [*]; done))
theorem run_weak : ∀ (n : Nat) {pc : Nat} {L L' : ALoc} {S : List Value} {H : AHeap} {out : Option Value × AHeap}, lw L L' → run P n k pc L' S H = some out → run P n k pc L S H = some out
  | 0, _, _, _, _, _, _, _, h => by simp [run] at h
  | n + 1, pc, L, L', S, H, out, hw, h => by
    rw [run] at h
    rw [run]
    split at h
    · cases h
    · rename_i i np hc
      try simp only [hc]
      split at h
      · rename_i v hv
        try simp only [hv]
        exact h
      · rename_i hv
        try simp only [hv]
        split at h
        · rename_i k' as rest hcall
          try simp only [hcall]
          split at h
          · rename_i v1 H1 h1
            try simp only [h1]
            exact run_weak n hw h
          · cases h
        · rename_i hcall
          try simp only [hcall]
          split at h
          · rename_i pc1 L1 S1 H1 h1
            obtain ⟨L2, e1, e2⟩ := step_weak hw h1
            simp only [e1]; exact run_weak n e2 h
          · cases h
theorem Eval.weak (hw : lw L L') (h : Eval P k pc L' S H out) : Eval P k pc L S H out := by
  obtain ⟨n, h⟩ := h
  exact ⟨n, run_weak n hw h⟩
end Rules
end Jvm.OwnX
namespace Jvm.OwnX
open Sem ClassFile Op Lib Jvm.Stand Jvm.Free Jvm.LawKit Jvm.RoadKit
/-! ## tables as lists -/
def findC : List (Nat × Instr × Nat) → Nat → Option (Instr × Nat)
  | [], _ => none
  | (q, x) :: r, pc => bif Nat.beq q pc then some x else findC r pc
abbrev CodeL := List (ByteArray × List (List (Nat × Instr × Nat)))
def codeAt (cs : CodeL) (k pc : Nat) : Option (Instr × Nat) := match cs[k]? with
  | some (_, ch) => (match ch[pc / 32]? with | some c => findC c pc | none => none)
  | none => none
def bcOf (cs : CodeL) (k : Nat) : ByteArray := match cs[k]? with | some (b, _) => b | none => ⟨#[]⟩
def okI (b : ByteArray) (e : Nat × Instr × Nat) : Bool := match decode b e.1 with
  | .ok (i, len) => decide (i = e.2.1) && Nat.beq (e.1 + len) e.2.2 && (Nat.beq (ilen i) 0 || Nat.beq len (ilen i))
  | _ => false
def okCs (cs : CodeL) : Bool := cs.all fun m => m.2.all fun c => c.all (okI m.1)
def tyCs (ty : ArrayType → Bool) (cs : CodeL) : Bool := cs.all fun m => m.2.all fun c => c.all fun e => match e.2.1 with | .newarray t => ty t | _ => true
theorem findC_mem : ∀ {l : List (Nat × Instr × Nat)} {pc : Nat} {x : Instr × Nat}, findC l pc = some x → (pc, x) ∈ l
  | [], pc, x, h => by cases h
  | (q, y) :: r, pc, x, h => by
    unfold findC at h
    cases hb : Nat.beq q pc
    · rw [hb] at h; exact List.mem_cons_of_mem _ (findC_mem h)
    · rw [hb] at h; cases h
      have : q = pc := Nat.eq_of_beq_eq_true hb
      subst this; exact List.mem_cons_self ..
theorem codeAt_mem {cs : CodeL} {k pc : Nat} {x : Instr × Nat} (h : codeAt cs k pc = some x) : ∃ m ∈ cs, bcOf cs k = m.1 ∧ ∃ c ∈ m.2, (pc, x) ∈ c := by
  unfold codeAt at h
  split at h
  · rename_i b ch hk
    split at h
    · rename_i c hc
      exact ⟨(b, ch), List.mem_of_getElem? hk, by simp [bcOf, hk], c, List.mem_of_getElem? hc, findC_mem h⟩
    · cases h
  · cases h
theorem code_ok {cs : CodeL} (h : okCs cs = true) {k pc : Nat} {i : Instr} {np : Nat} (hc : codeAt cs k pc = some (i, np)) : ∃ len, decode (bcOf cs k) pc = .ok (i, len) ∧ np = pc + len ∧ (ilen i = 0 ∨ len = ilen i) := by
  obtain ⟨m, h1, h2, c, h3, h4⟩ := codeAt_mem hc
  have q := List.all_eq_true.mp (List.all_eq_true.mp (List.all_eq_true.mp h m h1) c h3) _ h4
  unfold okI at q
  rw [h2]
  split at q
  · rename_i i' len hd
    simp only [Bool.and_eq_true, Bool.or_eq_true, decide_eq_true_eq] at q
    obtain ⟨⟨rfl, q2⟩, q3⟩ := q
    refine ⟨len, hd, (Nat.eq_of_beq_eq_true q2).symm, q3.elim (fun z => Or.inl (Nat.eq_of_beq_eq_true z)) fun z => Or.inr (Nat.eq_of_beq_eq_true z)⟩
  · cases q
theorem code_ty {ty : ArrayType → Bool} {cs : CodeL} (h : tyCs ty cs = true) {k pc : Nat} {t : ArrayType} {np : Nat} (hc : codeAt cs k pc = some (.newarray t, np)) : ty t = true := by
  obtain ⟨m, h1, h2, c, h3, h4⟩ := codeAt_mem hc
  exact List.all_eq_true.mp (List.all_eq_true.mp (List.all_eq_true.mp h m h1) c h3) _ h4
def lookT {α : Type} : List (Nat × Nat × α) → Nat → Nat → Option α
  | [], _, _ => none
  | (c', j', x) :: r, c, j => bif Nat.beq j' j && Nat.beq c' c then some x else lookT r c j
theorem lookT_mem {α : Type} : ∀ {l : List (Nat × Nat × α)} {c j : Nat} {x : α}, lookT l c j = some x → (c, j, x) ∈ l
  | [], c, j, x, h => by cases h
  | (c', j', y) :: r, c, j, x, h => by
    unfold lookT at h
    cases hb : (Nat.beq j' j && Nat.beq c' c)
    · rw [hb] at h; exact List.mem_cons_of_mem _ (lookT_mem h)
    · rw [hb] at h; cases h
      simp only [Bool.and_eq_true] at hb
      have h1 : j' = j := Nat.eq_of_beq_eq_true hb.1
      have h2 : c' = c := Nat.eq_of_beq_eq_true hb.2
      subst h1 h2; exact List.mem_cons_self ..
def AllP {α : Type} (p : α → Prop) : List α → Prop
  | [] => True
  | a :: r => p a ∧ AllP p r
theorem AllP.mem {α : Type} {p : α → Prop} : ∀ {l : List α}, AllP p l → ∀ a ∈ l, p a
  | [], _, a, h => nomatch h
  | _ :: _, ⟨h1, h2⟩, a, h => (List.mem_cons.mp h).elim (fun e => e ▸ h1) (AllP.mem h2 a)
def FldOk (P : Prog) (cn : Nat → String) (C : String) (Z : State) (a0 : Array Value) (e : Nat × Nat × Nat) : Prop := ∃ n d t fin, P.fields[e.2.2]? = some (n, d, t, fin) ∧ (Cond.fieldLink (cn e.1) e.2.1 C n d).before a0 Z = true
def FieldOk (C : String) (Z : State) (a0 : Array Value) (e : String × String × Nat × Bool) : Prop := (bif e.2.2.2 then (Cond.laysFinal C C e.1 e.2.1).before a0 Z else (Cond.lays C C e.1 e.2.1).before a0 Z) = true ∧ ∃ ty, parseFieldDescriptor e.2.1 = some ty ∧ tyOk e.2.2.1 ty = true ∧ defaultValue ty = dflt e.2.2.1
theorem good_of {cs : CodeL} {mi : Nat → MI} {links : List (Nat × Nat × Nat × Nat)} {flds : List (Nat × Nat × Nat)} {kons : List (Nat × Nat × Value)} {fields : List (String × String × Nat × Bool)} {objN ro cc cS : Nat} {nm : Nat → MethodName} {cn : Nat → String} {C : String} {Z : State} {a0 : Array Value} {ty : ArrayType → Bool} {P : Prog}
    (hP : P = (codeAt cs, mi, lookT links, lookT flds, lookT kons, fields, objN, ro, cc, cS)) (h1 : okCs cs = true) (h2 : AllP (FldOk P cn C Z a0) flds) (h3 : AllP (FieldOk C Z a0) fields) (h4 : (fields.map (·.1)).Nodup) (h5 : AllP (fun e => KonOk cn Z a0 e.1 e.2.1 e.2.2) kons)
    (h6 : (Cond.instantiable C objN).before a0 Z = true) (h7 : (Cond.initialized C).before a0 Z = true) (h8 : tyCs ty cs = true) (h8' : ∀ t, ty t = true → (Cond.arrayClass (newarray.typeOf t)).before a0 Z = true) (h9 : AllP (fun e => LinkOk P nm (bcOf cs) cn C Z a0 e.1 e.2.1 e.2.2.1 e.2.2.2) links) : Good P nm (bcOf cs) cn C Z a0 := by
  subst hP
  refine ⟨fun k pc i np h => code_ok h1 h, fun c j f h => h2.mem _ (lookT_mem h), fun f n d t fin h => h3.mem _ (List.mem_of_getElem? h), fun f g n d t fin n' d' t' fin' q1 q2 ne e => ?_, fun c j v h => h5.mem _ (lookT_mem h), h6, h7, fun k pc t np h => h8' _ (code_ty h8 h), fun c j q k h => h9.mem _ (lookT_mem h)⟩
  subst e
  have e1 : (fields.map (·.1))[f]? = some n := by rw [List.getElem?_map]; exact congrArg (Option.map (·.1)) q1
  have e2 : (fields.map (·.1))[g]? = some n := by rw [List.getElem?_map]; exact congrArg (Option.map (·.1)) q2
  exact ne ((List.getElem?_inj (List.getElem?_eq_some_iff.mp e1).1 h4).mp (e1.trans e2.symm))
/-! ## what the walks of functions use -/
theorem ite_some {α : Type} {c : Prop} [Decidable c] {a : Option α} {r : α} (h : (if c then a else none) = some r) : c ∧ a = some r := by
  by_cases hc : c
  · rw [if_pos hc] at h; exact ⟨hc, h⟩
  · rw [if_neg hc] at h; cases h
theorem ite_none {α : Type} {c : Prop} [Decidable c] {a : Option α} {r : α} (h : (if c then none else a) = some r) : ¬ c ∧ a = some r := by
  by_cases hc : c
  · rw [if_pos hc] at h; cases h
  · rw [if_neg hc] at h; exact ⟨hc, h⟩
theorem bind_some {α β : Type} {o : Option α} {f : α → Option β} {r : β} (h : o.bind f = some r) : ∃ a, o = some a ∧ f a = some r := Option.bind_eq_some_iff.mp h
section Calls
variable {P : Prog} {k pc np : Nat} {L L' : ALoc} {S S' : List Value} {H H1 : AHeap} {out : Option Value × AHeap} {i : Instr} {k' : Nat} {as rest : List Value}
theorem Eval.callI {x : Int32} (hc : P.code k pc = some (i, np)) (h2 : callV P k i S H = some (k', as, rest)) (he : Eval P k' 0 (entry P k' as) [] H (some (.int x), H1)) (h : Eval P k np L (.int x :: rest) H1 out) : Eval P k pc L S H out := Eval.call hc h2 he h
theorem Eval.callJ {x : Int64} (hc : P.code k pc = some (i, np)) (h2 : callV P k i S H = some (k', as, rest)) (he : Eval P k' 0 (entry P k' as) [] H (some (.long x), H1)) (h : Eval P k np L (.long x :: rest) H1 out) : Eval P k pc L S H out := Eval.call hc h2 he h
theorem Eval.callN (hc : P.code k pc = some (i, np)) (h2 : callV P k i S H = some (k', as, rest)) (he : Eval P k' 0 (entry P k' as) [] H (none, H1)) (h : Eval P k np L rest H1 out) : Eval P k pc L S H out := Eval.call hc h2 he h
theorem Eval.conv (h : Eval P k pc L S H out) (e1 : L = L') (e2 : S = S') : Eval P k pc L' S' H out := e1 ▸ e2 ▸ h
theorem Eval.heap {H' : AHeap} (e : H' = H) (h : Eval P k pc L S H' out) : Eval P k pc L S H out := e ▸ h
theorem Eval.retH {H' : AHeap} {v : Option Value} (e : H' = H) (hc : P.code k pc = some (i, np)) (h1 : retV P k i S = some v) : Eval P k pc L S H (v, H') := e ▸ Eval.ret hc h1
end Calls
end Jvm.OwnX
namespace Jvm.OwnX
open Sem ClassFile Op Lib Jvm.Stand Jvm.Free Jvm.LawKit Jvm.RoadKit
theorem HR.none (P : Prog) (C : String) (Z : State) (n0 : Nat) (h : Heap) : HR P C Z n0 [] [] h := ⟨rfl, fun i j a q => by simp at q, fun i a q => by simp at q, fun i c q => by simp at q⟩
def intOf : Value → Int32
  | .int x => x
  | _ => 0
theorem script_start {P : Prog} {C : String} {s : State} {a : Addr} {c : Cell} (hro : P.ro = 1) (hf : Fit s) (A : Arr s s.heap a c .int) : HR P C s s.heap.size [a] [.inr (.inl (0, c.slots.toList.map intOf))] s.heap := by
  have hlt := (Array.getElem?_eq_some_iff.mp A.1).1
  have hint : ∀ i (hi : i < c.slots.size), ∃ x, c.slots[i] = .int x := fun i hi => by
    have q := hf A.1 hi
    obtain ⟨hs, k, hk, comp, hkind⟩ := A.2.1
    have e : s.slotType? c.cls c.vm i = some .int := by
      cases hq : c.vm <;> first | exact absurd hq (hs _) | simp [State.slotType?, hk, hkind]
    have q2 : fits .int c.slots[i] = true := by simpa [State.fitsSlot, e] using q
    exact fit_I q2 (Or.inl rfl)
  refine ⟨rfl, fun i j x q1 q2 => ?_, fun i x q => ?_, fun i d q => ?_⟩
  · cases i with
    | zero => cases j with
      | zero => rfl
      | succ j => simp at q2
    | succ i => simp at q1
  · cases i with
    | zero => simp at q; subst q; exact ⟨hlt, fun h => by rw [hro] at h; omega⟩
    | succ i => simp at q
  · cases i with
    | zero =>
      simp at q; subst q
      refine ⟨a, rfl, c, A, by simp, fun j x hx => ?_⟩
      rw [List.getElem?_map] at hx
      obtain ⟨v, hv, rfl⟩ := Option.map_eq_some_iff.mp hx
      rw [Array.getElem?_toList] at hv
      obtain ⟨hj, rfl⟩ := Array.getElem?_eq_some_iff.mp hv
      obtain ⟨x, e⟩ := hint j hj
      rw [Array.getElem?_eq_getElem hj, e]; rfl
    | succ i => simp at q
end Jvm.OwnX
namespace Jvm.OwnX
/-! ## plain facts on the functions' words -/
theorem len_wr (xs : List Int32) (j v : Int32) : (wr xs j v).length = xs.length := by simp [wr]
theorem len_wrL (xs : List Int64) (j : Int32) (v : Int64) : (wrL xs j v).length = xs.length := by simp [wrL]
theorem rd_wr_same {xs : List Int32} {j : Int32} (h : inb xs.length j = true) (v : Int32) : rd (wr xs j v) j = v := by
  have := inb_lt h
  simp [rd, wr, List.getD_eq_getElem?_getD, this]
theorem rdL_wrL_same {xs : List Int64} {j : Int32} (h : inb xs.length j = true) (v : Int64) : rdL (wrL xs j v) j = v := by
  have := inb_lt h
  simp [rdL, wrL, List.getD_eq_getElem?_getD, this]
theorem nat_inj {i j : Int32} (hi : ¬ i < 0) (hj : ¬ j < 0) (h : i.toNatClampNeg = j.toNatClampNeg) : i = j := by
  apply Int32.toInt_inj.mp
  simp only [Int32.lt_iff_toInt_lt, Int32.toNatClampNeg, Int32.reduceToInt] at hi hj h; omega
theorem inb_nn {n : Nat} {j : Int32} (h : inb n j = true) : ¬ j < 0 := fun q => inb_spec h (Or.inl q)
theorem rd_wr_ne {xs : List Int32} {i j : Int32} (hi : ¬ i < 0) (hj : ¬ j < 0) (h : i ≠ j) (v : Int32) : rd (wr xs i v) j = rd xs j := by
  have : i.toNatClampNeg ≠ j.toNatClampNeg := fun q => h (nat_inj hi hj q)
  simp [rd, wr, List.getD_eq_getElem?_getD, List.getElem?_set_ne this]
theorem rdL_wrL_ne {xs : List Int64} {i j : Int32} (hi : ¬ i < 0) (hj : ¬ j < 0) (h : i ≠ j) (v : Int64) : rdL (wrL xs i v) j = rdL xs j := by
  have : i.toNatClampNeg ≠ j.toNatClampNeg := fun q => h (nat_inj hi hj q)
  simp [rdL, wrL, List.getD_eq_getElem?_getD, List.getElem?_set_ne this]
theorem rd_rep (n : Nat) (j : Int32) : rd (List.replicate n 0) j = 0 := by
  simp only [rd, List.getD_eq_getElem?_getD, List.getElem?_replicate]; split <;> rfl
theorem rdL_rep (n : Nat) (j : Int32) : rdL (List.replicate n 0) j = 0 := by
  simp only [rdL, List.getD_eq_getElem?_getD, List.getElem?_replicate]; split <;> rfl
theorem inb_iff {n : Nat} {j : Int32} : inb n j = true ↔ 0 ≤ j.toInt ∧ j.toInt < n := by
  simp only [inb, Bool.and_eq_true, Bool.not_eq_true', decide_eq_false_iff_not, Int32.lt_iff_toInt_lt, Int32.reduceToInt]
  constructor
  · rintro ⟨h1, h2⟩
    have h3 := Nat.le_of_ble_eq_true h2
    simp only [Int32.toNatClampNeg] at h3
    omega
  · rintro ⟨h1, h2⟩
    refine ⟨by omega, Nat.ble_eq_true_of_le ?_⟩
    simp only [Int32.toNatClampNeg]; omega
theorem lt32 {x y : Int32} : x < y ↔ x.toInt < y.toInt := Int32.lt_iff_toInt_lt
theorem eq32 {x y : Int32} : x = y ↔ x.toInt = y.toInt := Int32.toInt_inj.symm
end Jvm.OwnX
namespace Jvm.Pilot.@@N@@
open Jvm Jvm.ClassFile Sem Op Lib Jvm.Free Jvm.Stand Jvm.LawKit Jvm.RoadKit Bundle Jvm.Pilot.@@N@@.Jvm.D Jvm.OwnX
/-! # tables (printed by gen.py out of the claim's listing and sheet) -/
def own_cs : CodeL := [
  (code, [
    [(0, .new 7, 3), (3, .dup, 4), (4, .iload_n 0, 5), (5, .invokespecial 9, 8), (8, .astore 5, 10), (10, .iload_n 0, 11), (11, .iconst 2, 12), (12, .if_icmp .ge 7, 15), (15, .iconst 2, 16), (16, .goto 15, 19), (19, .iload_n 0, 20), (20, .bipush 32, 22), (22, .if_icmp .le 8, 25), (25, .bipush 32, 27), (27, .goto 4, 30), (30, .iload_n 0, 31), (31, .istore 6, 33)],
    [(33, .iload_n 2, 34), (34, .iconst 1, 35), (35, .if_icmp .lt 12, 38), (38, .iload_n 2, 39), (39, .iconst 4, 40), (40, .if_icmp .gt 7, 43), (43, .iconst 1, 44), (44, .goto 4, 47), (47, .iconst 0, 48), (48, .istore 7, 50), (50, .iload 7, 52), (52, .ifCond .eq 7, 55), (55, .iload_n 2, 56), (56, .goto 4, 59), (59, .iconst 0, 60), (60, .istore 8, 62), (62, .aload 5, 64)],
    [(64, .iload_n 1, 65), (65, .iload_n 2, 66), (66, .invokevirtual 12, 69), (69, .iload 7, 71), (71, .ifCond .eq 7, 74), (74, .iload_n 2, 75), (75, .goto 4, 78), (78, .iconst (-1), 79), (79, .if_icmp .eq 5, 82), (82, .iconst 0, 83), (83, .ireturn, 84), (84, .iload 8, 86), (86, .ifCond .ne 7, 89), (89, .iconst 0, 90), (90, .goto 13, 93), (93, .iload 8, 95), (95, .iload 6, 97)],
    [(97, .iadd, 98), (98, .iconst 1, 99), (99, .isub, 100), (100, .iload 6, 102), (102, .idiv, 103), (103, .istore 9, 105), (105, .aload 5, 107), (107, .invokevirtual 16, 110), (110, .iload 9, 112), (112, .if_icmp .eq 5, 115), (115, .iconst 0, 116), (116, .ireturn, 117), (117, .aload 5, 119), (119, .invokevirtual 20, 122), (122, .iconst 1, 123), (123, .if_icmp .eq 5, 126), (126, .iconst 0, 127), (127, .ireturn, 128)],
    [(128, .aload 5, 130), (130, .invokevirtual 23, 133), (133, .iload 9, 135), (135, .if_icmp .eq 5, 138), (138, .iconst 0, 139), (139, .ireturn, 140), (140, .iload 9, 142), (142, .iconst 1, 143), (143, .if_icmp .lt 20, 146), (146, .iload 8, 148), (148, .iload 6, 150), (150, .if_icmp .ge 8, 153), (153, .iload 8, 155), (155, .goto 9, 158), (158, .iload 6, 160)],
    [(160, .goto 4, 163), (163, .iconst (-1), 164), (164, .istore 10, 166), (166, .aload 5, 168), (168, .iconst 0, 169), (169, .invokevirtual 26, 172), (172, .iload 10, 174), (174, .if_icmp .eq 5, 177), (177, .iconst 0, 178), (178, .ireturn, 179), (179, .iload 9, 181), (181, .iconst 2, 182), (182, .if_icmp .lt 11, 185), (185, .iload 8, 187), (187, .iload 6, 189), (189, .isub, 190), (190, .goto 4, 193)],
    [(193, .iconst (-1), 194), (194, .istore 11, 196), (196, .aload 5, 198), (198, .iconst 1, 199), (199, .invokevirtual 26, 202), (202, .iload 11, 204), (204, .if_icmp .eq 5, 207), (207, .iconst 0, 208), (208, .ireturn, 209), (209, .aload 5, 211), (211, .iload_n 3, 212), (212, .iload 4, 214), (214, .invokevirtual 12, 217), (217, .iconst (-1), 218), (218, .if_icmp .eq 5, 221), (221, .iconst 0, 222), (222, .ireturn, 223), (223, .aload 5, 225)],
    [(225, .iconst 0, 226), (226, .invokevirtual 30, 229), (229, .iload 8, 231), (231, .if_icmp .eq 5, 234), (234, .iconst 0, 235), (235, .ireturn, 236), (236, .aload 5, 238), (238, .invokevirtual 16, 241), (241, .iconst (-1), 242), (242, .if_icmp .eq 5, 245), (245, .iconst 0, 246), (246, .ireturn, 247), (247, .aload 5, 249), (249, .invokevirtual 20, 252), (252, .iconst 1, 253), (253, .if_icmp .eq 5, 256)],
    [(256, .iconst 0, 257), (257, .ireturn, 258), (258, .iconst 1, 259), (259, .ireturn, 260)]]),
  (prog_1_method_1_code, [
    [(0, .aload_n 0, 1), (1, .invokespecial 1, 4), (4, .aload_n 0, 5), (5, .sipush 256, 8), (8, .newarray .int, 10), (10, .putfield 7, 13), (13, .aload_n 0, 14), (14, .sipush 256, 17), (17, .newarray .int, 19), (19, .putfield 13, 22), (22, .aload_n 0, 23), (23, .sipush 256, 26), (26, .newarray .int, 28), (28, .putfield 16, 31), (31, .aload_n 0, 32)],
    [(32, .sipush 256, 35), (35, .newarray .int, 37), (37, .putfield 19, 40), (40, .aload_n 0, 41), (41, .sipush 128, 44), (44, .newarray .int, 46), (46, .putfield 22, 49), (49, .aload_n 0, 50), (50, .sipush 128, 53), (53, .newarray .int, 55), (55, .putfield 25, 58), (58, .aload_n 0, 59), (59, .sipush 128, 62), (62, .newarray .long, 64)],
    [(64, .putfield 28, 67), (67, .aload_n 0, 68), (68, .sipush 256, 71), (71, .newarray .int, 73), (73, .putfield 32, 76), (76, .aload_n 0, 77), (77, .sipush 128, 80), (80, .newarray .int, 82), (82, .putfield 35, 85), (85, .aload_n 0, 86), (86, .sipush 256, 89), (89, .newarray .int, 91), (91, .putfield 38, 94), (94, .aload_n 0, 95), (95, .sipush 256, 98)],
    [(98, .newarray .int, 100), (100, .putfield 41, 103), (103, .iload_n 1, 104), (104, .istore_n 2, 105), (105, .iload_n 2, 106), (106, .iconst 2, 107), (107, .if_icmp .ge 5, 110), (110, .iconst 2, 111), (111, .istore_n 2, 112), (112, .iload_n 2, 113), (113, .bipush 32, 115), (115, .if_icmp .le 6, 118), (118, .bipush 32, 120), (120, .istore_n 2, 121), (121, .aload_n 0, 122), (122, .iload_n 2, 123), (123, .putfield 44, 126), (126, .aload_n 0, 127), (127, .invokevirtual 48, 130)],
    [(130, .return_, 131)]]),
  (prog_1_method_2_code, [
    [(0, .aload_n 0, 1), (1, .iconst 0, 2), (2, .putfield 51, 5), (5, .aload_n 0, 6), (6, .iconst 0, 7), (7, .putfield 54, 10), (10, .aload_n 0, 11), (11, .iconst 0, 12), (12, .putfield 57, 15), (15, .aload_n 0, 16), (16, .iconst 0, 17), (17, .putfield 60, 20), (20, .aload_n 0, 21), (21, .iconst 0, 22), (22, .putfield 63, 25), (25, .aload_n 0, 26), (26, .iconst 0, 27), (27, .putfield 66, 30), (30, .aload_n 0, 31), (31, .iconst (-1), 32)],
    [(32, .putfield 69, 35), (35, .aload_n 0, 36), (36, .iconst (-1), 37), (37, .putfield 72, 40), (40, .aload_n 0, 41), (41, .iconst 0, 42), (42, .putfield 75, 45), (45, .aload_n 0, 46), (46, .iconst 0, 47), (47, .putfield 78, 50), (50, .aload_n 0, 51), (51, .iconst 0, 52), (52, .putfield 81, 55), (55, .return_, 56)]]),
  (prog_1_method_3_code, [
    [(0, .aload_n 0, 1), (1, .getfield 81, 4), (4, .ifCond .eq 5, 7), (7, .iconst (-1), 8), (8, .ireturn, 9), (9, .iload_n 2, 10), (10, .iconst 1, 11), (11, .if_icmp .lt 8, 14), (14, .iload_n 2, 15), (15, .iconst 4, 16), (16, .if_icmp .le 5, 19), (19, .iconst (-1), 20), (20, .ireturn, 21), (21, .aload_n 0, 22), (22, .getfield 51, 25), (25, .iload_n 2, 26), (26, .iadd, 27), (27, .sipush 256, 30), (30, .if_icmp .le 5, 33)],
    [(33, .iconst (-1), 34), (34, .ireturn, 35), (35, .iconst 0, 36), (36, .istore_n 3, 37), (37, .iload_n 3, 38), (38, .iload_n 2, 39), (39, .if_icmp .ge 38, 42), (42, .aload_n 0, 43), (43, .getfield 7, 46), (46, .aload_n 0, 47), (47, .getfield 51, 50), (50, .iload_n 1, 51), (51, .bipush 8, 53), (53, .iload_n 3, 54), (54, .imul, 55), (55, .iushr, 56), (56, .sipush 255, 59), (59, .iand, 60), (60, .iastore, 61), (61, .aload_n 0, 62), (62, .dup, 63), (63, .getfield 51, 66)],
    [(66, .iconst 1, 67), (67, .iadd, 68), (68, .putfield 51, 71), (71, .iinc 3 1, 74), (74, .goto (-37), 77), (77, .aload_n 0, 78), (78, .getfield 51, 81), (81, .ireturn, 82)]]),
  (prog_1_method_5_code, [
    [(0, .aload_n 0, 1), (1, .getfield 81, 4), (4, .ifCond .eq 5, 7), (7, .iconst (-1), 8), (8, .ireturn, 9), (9, .aload_n 0, 10), (10, .getfield 44, 13), (13, .istore_n 1, 14), (14, .aload_n 0, 15), (15, .aload_n 0, 16), (16, .getfield 51, 19), (19, .ifCond .ne 7, 22), (22, .iconst 0, 23), (23, .goto 13, 26), (26, .aload_n 0, 27), (27, .getfield 51, 30), (30, .iload_n 1, 31), (31, .iadd, 32)],
    [(32, .iconst 1, 33), (33, .isub, 34), (34, .iload_n 1, 35), (35, .idiv, 36), (36, .putfield 63, 39), (39, .aload_n 0, 40), (40, .getfield 63, 43), (43, .sipush 128, 46), (46, .if_icmp .le 10, 49), (49, .aload_n 0, 50), (50, .sipush 128, 53), (53, .putfield 63, 56), (56, .iconst 0, 57), (57, .istore_n 2, 58), (58, .iload_n 2, 59), (59, .aload_n 0, 60), (60, .getfield 63, 63), (63, .if_icmp .ge 75, 66)],
    [(66, .iload_n 2, 67), (67, .iload_n 1, 68), (68, .imul, 69), (69, .istore_n 3, 70), (70, .iload_n 1, 71), (71, .istore 4, 73), (73, .iload_n 2, 74), (74, .aload_n 0, 75), (75, .getfield 63, 78), (78, .iconst 1, 79), (79, .isub, 80), (80, .if_icmp .ne 18, 83), (83, .aload_n 0, 84), (84, .getfield 51, 87), (87, .aload_n 0, 88), (88, .getfield 63, 91), (91, .iconst 1, 92), (92, .isub, 93), (93, .iload_n 1, 94), (94, .imul, 95), (95, .isub, 96)],
    [(96, .istore 4, 98), (98, .aload_n 0, 99), (99, .getfield 22, 102), (102, .iload_n 2, 103), (103, .iload 4, 105), (105, .iastore, 106), (106, .aload_n 0, 107), (107, .getfield 25, 110), (110, .iload_n 2, 111), (111, .aload_n 0, 112), (112, .iload_n 3, 113), (113, .iload 4, 115), (115, .invokevirtual 84, 118), (118, .iastore, 119), (119, .aload_n 0, 120), (120, .getfield 28, 123), (123, .iload_n 2, 124), (124, .aload_n 0, 125), (125, .iload_n 3, 126), (126, .iload 4, 128)],
    [(128, .invokevirtual 88, 131), (131, .lastore, 132), (132, .iinc 2 1, 135), (135, .goto (-77), 138), (138, .aload_n 0, 139), (139, .invokevirtual 92, 142), (142, .aload_n 0, 143), (143, .iconst 1, 144), (144, .putfield 81, 147), (147, .aload_n 0, 148), (148, .getfield 63, 151), (151, .ireturn, 152)]]),
  (prog_1_method_19_code, [
    [(0, .iconst 0, 1), (1, .istore_n 3, 2), (2, .iconst 0, 3), (3, .istore 4, 5), (5, .iconst 0, 6), (6, .istore 5, 8), (8, .iload 5, 10), (10, .iload_n 2, 11), (11, .if_icmp .ge 57, 14), (14, .iload_n 1, 15), (15, .iload 5, 17), (17, .iadd, 18), (18, .istore 6, 20), (20, .iload 6, 22), (22, .ifCond .lt 46, 25), (25, .iload 6, 27), (27, .sipush 256, 30), (30, .if_icmp .lt 6, 33)],
    [(33, .goto 35, 36), (36, .aload_n 0, 37), (37, .getfield 7, 40), (40, .iload 6, 42), (42, .iaload, 43), (43, .istore 7, 45), (45, .iload_n 3, 46), (46, .iload 7, 48), (48, .iadd, 49), (49, .istore_n 3, 50), (50, .iload 4, 52), (52, .iload_n 2, 53), (53, .iload 5, 55), (55, .isub, 56), (56, .iload 7, 58), (58, .imul, 59), (59, .iadd, 60), (60, .istore 4, 62), (62, .iinc 5 1, 65)],
    [(65, .goto (-57), 68), (68, .aload_n 0, 69), (69, .iload_n 3, 70), (70, .iload 4, 72), (72, .invokevirtual 117, 75), (75, .ireturn, 76)]]),
  (prog_1_method_18_code, [
    [(0, .iload_n 2, 1), (1, .ldc 116, 3), (3, .iand, 4), (4, .bipush 16, 6), (6, .ishl, 7), (7, .iload_n 1, 8), (8, .ldc 116, 10), (10, .iand, 11), (11, .ior, 12), (12, .ireturn, 13)]]),
  (prog_1_method_20_code, [
    [(0, .ldc2_w 120, 3), (3, .lstore_n 3, 4), (4, .iconst 0, 5), (5, .istore 5, 7), (7, .iload 5, 9), (9, .iload_n 2, 10), (10, .if_icmp .ge 48, 13), (13, .iload_n 1, 14), (14, .iload 5, 16), (16, .iadd, 17), (17, .istore 6, 19), (19, .iload 6, 21), (21, .ifCond .lt 37, 24), (24, .iload 6, 26), (26, .sipush 256, 29), (29, .if_icmp .lt 6, 32)],
    [(32, .goto 26, 35), (35, .lload_n 3, 36), (36, .aload_n 0, 37), (37, .getfield 7, 40), (40, .iload 6, 42), (42, .iaload, 43), (43, .i2l, 44), (44, .lxor, 45), (45, .lstore_n 3, 46), (46, .lload_n 3, 47), (47, .ldc2_w 122, 50), (50, .lmul, 51), (51, .lstore_n 3, 52), (52, .iinc 5 1, 55), (55, .goto (-48), 58), (58, .lload_n 3, 59), (59, .lreturn, 60)]]),
  (prog_1_method_23_code, [
    [(0, .iconst 0, 1), (1, .istore_n 1, 2), (2, .iload_n 1, 3), (3, .sipush 256, 6), (6, .if_icmp .ge 16, 9), (9, .aload_n 0, 10), (10, .getfield 32, 13), (13, .iload_n 1, 14), (14, .iconst (-1), 15), (15, .iastore, 16), (16, .iinc 1 1, 19), (19, .goto (-17), 22), (22, .aload_n 0, 23), (23, .iconst (-1), 24), (24, .putfield 69, 27), (27, .aload_n 0, 28), (28, .getfield 63, 31), (31, .iconst 1, 32)],
    [(32, .isub, 33), (33, .istore_n 1, 34), (34, .iload_n 1, 35), (35, .ifCond .lt 67, 38), (38, .aload_n 0, 39), (39, .getfield 22, 42), (42, .iload_n 1, 43), (43, .iaload, 44), (44, .aload_n 0, 45), (45, .getfield 44, 48), (48, .if_icmp .ne 36, 51), (51, .aload_n 0, 52), (52, .aload_n 0, 53), (53, .getfield 25, 56), (56, .iload_n 1, 57), (57, .iaload, 58), (58, .invokevirtual 124, 61), (61, .istore_n 2, 62), (62, .aload_n 0, 63), (63, .getfield 35, 66)],
    [(66, .iload_n 1, 67), (67, .aload_n 0, 68), (68, .getfield 32, 71), (71, .iload_n 2, 72), (72, .iaload, 73), (73, .iastore, 74), (74, .aload_n 0, 75), (75, .getfield 32, 78), (78, .iload_n 2, 79), (79, .iload_n 1, 80), (80, .iastore, 81), (81, .goto 15, 84), (84, .aload_n 0, 85), (85, .getfield 35, 88), (88, .iload_n 1, 89), (89, .iconst (-1), 90), (90, .iastore, 91), (91, .aload_n 0, 92), (92, .iload_n 1, 93), (93, .putfield 69, 96)],
    [(96, .iinc 1 (-1), 99), (99, .goto (-65), 102), (102, .return_, 103)]]),
  (prog_1_method_22_code, [
    [(0, .iload_n 1, 1), (1, .iload_n 1, 2), (2, .bipush 8, 4), (4, .iushr, 5), (5, .ixor, 6), (6, .iload_n 1, 7), (7, .bipush 16, 9), (9, .iushr, 10), (10, .ixor, 11), (11, .iload_n 1, 12), (12, .bipush 24, 14), (14, .iushr, 15), (15, .ixor, 16), (16, .istore_n 2, 17), (17, .iload_n 2, 18), (18, .sipush 255, 21), (21, .iand, 22), (22, .ireturn, 23)]]),
  (prog_1_method_8_code, [
    [(0, .aload_n 0, 1), (1, .getfield 81, 4), (4, .ireturn, 5)]]),
  (prog_1_method_9_code, [
    [(0, .aload_n 0, 1), (1, .getfield 63, 4), (4, .ireturn, 5)]]),
  (prog_1_method_10_code, [
    [(0, .iload_n 1, 1), (1, .ifCond .lt 11, 4), (4, .iload_n 1, 5), (5, .aload_n 0, 6), (6, .getfield 63, 9), (9, .if_icmp .lt 5, 12), (12, .iconst (-1), 13), (13, .ireturn, 14), (14, .aload_n 0, 15), (15, .getfield 22, 18), (18, .iload_n 1, 19), (19, .iaload, 20), (20, .ireturn, 21)]]),
  (prog_1_method_13_code, [
    [(0, .iload_n 1, 1), (1, .ifCond .ne 8, 4), (4, .aload_n 0, 5), (5, .getfield 51, 8), (8, .ireturn, 9), (9, .iload_n 1, 10), (10, .iconst 1, 11), (11, .if_icmp .ne 8, 14), (14, .aload_n 0, 15), (15, .getfield 54, 18), (18, .ireturn, 19), (19, .iload_n 1, 20), (20, .iconst 2, 21), (21, .if_icmp .ne 8, 24), (24, .aload_n 0, 25), (25, .getfield 57, 28), (28, .ireturn, 29), (29, .iload_n 1, 30), (30, .iconst 3, 31), (31, .if_icmp .ne 8, 34)],
    [(34, .aload_n 0, 35), (35, .getfield 60, 38), (38, .ireturn, 39), (39, .iconst (-1), 40), (40, .ireturn, 41)]])]
def own_mis : List MI := [(0, 12, 5, some .boolean, false, 6, 144), (1, 3, 2, none, true, 1, 12), (1, 1, 1, none, false, 0, 0), (1, 4, 3, some .int, false, 0, 0), (1, 5, 1, some .int, false, 2, 35), (1, 8, 3, some .int, false, 1, 14), (1, 3, 3, some .int, false, 0, 0), (1, 7, 3, some .long, false, 0, 0), (1, 3, 1, none, false, 1, 14), (1, 3, 2, some .int, false, 0, 0), (1, 1, 1, some .int, false, 0, 0), (1, 1, 1, some .int, false, 0, 0), (1, 2, 2, some .int, false, 0, 0), (1, 2, 2, some .int, false, 0, 0)]
def own_links : List (Nat × Nat × Nat × Nat) := [(0, 9, 1, 1), (1, 1, 4, 0), (1, 48, 2, 2), (0, 12, 2, 3), (0, 16, 2, 4), (1, 84, 3, 5), (1, 117, 3, 6), (1, 88, 3, 7), (1, 92, 3, 8), (1, 124, 3, 9), (0, 20, 2, 10), (0, 23, 2, 11), (0, 26, 2, 12), (0, 30, 2, 13), (0, 7, 5, 0)]
def own_flds : List (Nat × Nat × Nat) := [(1, 7, 0), (1, 13, 1), (1, 16, 2), (1, 19, 3), (1, 22, 4), (1, 25, 5), (1, 28, 6), (1, 32, 7), (1, 35, 8), (1, 38, 9), (1, 41, 10), (1, 44, 11), (1, 51, 12), (1, 54, 13), (1, 57, 14), (1, 60, 15), (1, 63, 16), (1, 66, 17), (1, 69, 18), (1, 72, 19), (1, 75, 20), (1, 78, 21), (1, 81, 22)]
def own_kons : List (Nat × Nat × Value) := [(1, 116, .int (65535)), (1, 120, .long (-3750763034362895579)), (1, 122, .long (1099511628211))]
def own_fields : List (String × String × Nat × Bool) := [("basis", "[I", 3, true), ("target", "[I", 3, true), ("literal", "[I", 3, true), ("out", "[I", 3, true), ("blkLen", "[I", 3, true), ("blkWeak", "[I", 3, true), ("blkStrong", "[J", 3, true), ("head", "[I", 3, true), ("next", "[I", 3, true), ("kinds", "[I", 3, true), ("values", "[I", 3, true), ("blockSize", "I", 0, false), ("basisLen", "I", 0, false), ("targetLen", "I", 0, false), ("literalLen", "I", 0, false), ("outLen", "I", 0, false), ("blocks", "I", 0, false), ("ops", "I", 0, false), ("shortBlock", "I", 0, false), ("winPos", "I", 0, false), ("winA", "I", 0, false), ("winB", "I", 0, false), ("phaseNow", "I", 0, false)]
def own_P : Prog := (codeAt own_cs, fun k => own_mis.getD k (0, 0, 0, none, false, 0, 0), lookT own_links, lookT own_flds, lookT own_kons, own_fields, 23, 0, 32, 4736)
def own_nms : List MethodName := [⟨"RemoteDeltaL2", "law", "(IIIII)Z"⟩, ⟨"RemoteDelta", "<init>", "(I)V"⟩, ⟨"RemoteDelta", "reset", "()V"⟩, ⟨"RemoteDelta", "appendBasis", "(II)I"⟩, ⟨"RemoteDelta", "sign", "()I"⟩, ⟨"RemoteDelta", "weakOfBasis", "(II)I"⟩, ⟨"RemoteDelta", "packWeak", "(II)I"⟩, ⟨"RemoteDelta", "strongOfBasis", "(II)J"⟩, ⟨"RemoteDelta", "buildIndex", "()V"⟩, ⟨"RemoteDelta", "bucketOf", "(I)I"⟩, ⟨"RemoteDelta", "phase", "()I"⟩, ⟨"RemoteDelta", "blockCount", "()I"⟩, ⟨"RemoteDelta", "blockLength", "(I)I"⟩, ⟨"RemoteDelta", "length", "(I)I"⟩]
def own_nm (k : Nat) : MethodName := own_nms.getD k ⟨"", "", ""⟩
def own_cn (c : Nat) : String := match c with | 0 => "RemoteDeltaL2" | _ => "RemoteDelta"
theorem own_pn0 : plainName "RemoteDeltaL2" = true := by first | (simp [plainName, overriddenIn]; done) | decide +kernel
theorem own_pn1 : plainName "RemoteDelta" = true := by first | (simp [plainName, overriddenIn]; done) | decide +kernel
theorem own_ne0 : "RemoteDeltaL2" ≠ "java/lang/invoke/MethodHandle" ∧ "RemoteDeltaL2" ≠ "java/lang/invoke/VarHandle" := by decide
theorem own_ne1 : "RemoteDelta" ≠ "java/lang/invoke/MethodHandle" ∧ "RemoteDelta" ≠ "java/lang/invoke/VarHandle" := by decide
theorem own_pd0 : parseMethodDescriptor "(I)V" = some ⟨[.int], none⟩ := by decide +kernel
theorem own_pd1 : parseMethodDescriptor "()V" = some ⟨[], none⟩ := by decide +kernel
theorem own_pd2 : parseMethodDescriptor "(II)I" = some ⟨[.int, .int], some .int⟩ := by decide +kernel
theorem own_pd3 : parseMethodDescriptor "()I" = some ⟨[], some .int⟩ := by decide +kernel
theorem own_pd4 : parseMethodDescriptor "(II)J" = some ⟨[.int, .int], some .long⟩ := by decide +kernel
theorem own_pd5 : parseMethodDescriptor "(I)I" = some ⟨[.int], some .int⟩ := by decide +kernel
set_option maxRecDepth 100000 in
theorem own_okcs : okCs own_cs = true := by decide +kernel
def own_ty (t : ArrayType) : Bool := decide (t = .int) || decide (t = .long)
theorem own_tyok : tyCs own_ty own_cs = true := by decide +kernel
theorem own_nodup : (own_fields.map (·.1)).Nodup := by decide +kernel
set_option maxRecDepth 100000 in
set_option maxHeartbeats 4000000 in
theorem own_good {Z : State} {a0 : Array Value} (hw : ∀ d ∈ tables_1, d.before a0 Z = true) : Good own_P own_nm (bcOf own_cs) own_cn "RemoteDelta" Z a0 := by
  refine good_of (ty := own_ty) rfl own_okcs ?_ ?_ own_nodup ?_ (hw _ (List.mem_of_getElem? (i := 1) rfl)) (hw _ (List.mem_of_getElem? (i := 2) rfl)) own_tyok ?_ ?_
  · exact ⟨⟨_, _, _, _, rfl, (hw _ (List.mem_of_getElem? (i := 10) rfl))⟩,
      ⟨_, _, _, _, rfl, (hw _ (List.mem_of_getElem? (i := 12) rfl))⟩,
      ⟨_, _, _, _, rfl, (hw _ (List.mem_of_getElem? (i := 14) rfl))⟩,
      ⟨_, _, _, _, rfl, (hw _ (List.mem_of_getElem? (i := 16) rfl))⟩,
      ⟨_, _, _, _, rfl, (hw _ (List.mem_of_getElem? (i := 18) rfl))⟩,
      ⟨_, _, _, _, rfl, (hw _ (List.mem_of_getElem? (i := 20) rfl))⟩,
      ⟨_, _, _, _, rfl, (hw _ (List.mem_of_getElem? (i := 23) rfl))⟩,
      ⟨_, _, _, _, rfl, (hw _ (List.mem_of_getElem? (i := 25) rfl))⟩,
      ⟨_, _, _, _, rfl, (hw _ (List.mem_of_getElem? (i := 27) rfl))⟩,
      ⟨_, _, _, _, rfl, (hw _ (List.mem_of_getElem? (i := 29) rfl))⟩,
      ⟨_, _, _, _, rfl, (hw _ (List.mem_of_getElem? (i := 31) rfl))⟩,
      ⟨_, _, _, _, rfl, (hw _ (List.mem_of_getElem? (i := 33) rfl))⟩,
      ⟨_, _, _, _, rfl, (hw _ (List.mem_of_getElem? (i := 40) rfl))⟩,
      ⟨_, _, _, _, rfl, (hw _ (List.mem_of_getElem? (i := 42) rfl))⟩,
      ⟨_, _, _, _, rfl, (hw _ (List.mem_of_getElem? (i := 44) rfl))⟩,
      ⟨_, _, _, _, rfl, (hw _ (List.mem_of_getElem? (i := 46) rfl))⟩,
      ⟨_, _, _, _, rfl, (hw _ (List.mem_of_getElem? (i := 48) rfl))⟩,
      ⟨_, _, _, _, rfl, (hw _ (List.mem_of_getElem? (i := 50) rfl))⟩,
      ⟨_, _, _, _, rfl, (hw _ (List.mem_of_getElem? (i := 52) rfl))⟩,
      ⟨_, _, _, _, rfl, (hw _ (List.mem_of_getElem? (i := 54) rfl))⟩,
      ⟨_, _, _, _, rfl, (hw _ (List.mem_of_getElem? (i := 56) rfl))⟩,
      ⟨_, _, _, _, rfl, (hw _ (List.mem_of_getElem? (i := 58) rfl))⟩,
      ⟨_, _, _, _, rfl, (hw _ (List.mem_of_getElem? (i := 60) rfl))⟩,
      trivial⟩
  · exact ⟨⟨(hw _ (List.mem_of_getElem? (i := 11) rfl)), .array .int, by decide, rfl, rfl⟩,
      ⟨(hw _ (List.mem_of_getElem? (i := 13) rfl)), .array .int, by decide, rfl, rfl⟩,
      ⟨(hw _ (List.mem_of_getElem? (i := 15) rfl)), .array .int, by decide, rfl, rfl⟩,
      ⟨(hw _ (List.mem_of_getElem? (i := 17) rfl)), .array .int, by decide, rfl, rfl⟩,
      ⟨(hw _ (List.mem_of_getElem? (i := 19) rfl)), .array .int, by decide, rfl, rfl⟩,
      ⟨(hw _ (List.mem_of_getElem? (i := 21) rfl)), .array .int, by decide, rfl, rfl⟩,
      ⟨(hw _ (List.mem_of_getElem? (i := 24) rfl)), .array .long, by decide, rfl, rfl⟩,
      ⟨(hw _ (List.mem_of_getElem? (i := 26) rfl)), .array .int, by decide, rfl, rfl⟩,
      ⟨(hw _ (List.mem_of_getElem? (i := 28) rfl)), .array .int, by decide, rfl, rfl⟩,
      ⟨(hw _ (List.mem_of_getElem? (i := 30) rfl)), .array .int, by decide, rfl, rfl⟩,
      ⟨(hw _ (List.mem_of_getElem? (i := 32) rfl)), .array .int, by decide, rfl, rfl⟩,
      ⟨(hw _ (List.mem_of_getElem? (i := 34) rfl)), .int, by decide, rfl, rfl⟩,
      ⟨(hw _ (List.mem_of_getElem? (i := 41) rfl)), .int, by decide, rfl, rfl⟩,
      ⟨(hw _ (List.mem_of_getElem? (i := 43) rfl)), .int, by decide, rfl, rfl⟩,
      ⟨(hw _ (List.mem_of_getElem? (i := 45) rfl)), .int, by decide, rfl, rfl⟩,
      ⟨(hw _ (List.mem_of_getElem? (i := 47) rfl)), .int, by decide, rfl, rfl⟩,
      ⟨(hw _ (List.mem_of_getElem? (i := 49) rfl)), .int, by decide, rfl, rfl⟩,
      ⟨(hw _ (List.mem_of_getElem? (i := 51) rfl)), .int, by decide, rfl, rfl⟩,
      ⟨(hw _ (List.mem_of_getElem? (i := 53) rfl)), .int, by decide, rfl, rfl⟩,
      ⟨(hw _ (List.mem_of_getElem? (i := 55) rfl)), .int, by decide, rfl, rfl⟩,
      ⟨(hw _ (List.mem_of_getElem? (i := 57) rfl)), .int, by decide, rfl, rfl⟩,
      ⟨(hw _ (List.mem_of_getElem? (i := 59) rfl)), .int, by decide, rfl, rfl⟩,
      ⟨(hw _ (List.mem_of_getElem? (i := 61) rfl)), .int, by decide, rfl, rfl⟩,
      trivial⟩
  · exact ⟨(hw _ (List.mem_of_getElem? (i := 80) rfl)),
      (hw _ (List.mem_of_getElem? (i := 85) rfl)),
      (hw _ (List.mem_of_getElem? (i := 86) rfl)),
      trivial⟩
  · intro t ht
    simp only [own_ty, Bool.or_eq_true, decide_eq_true_eq] at ht
    rcases ht with rfl | rfl
    · exact (hw _ (List.mem_of_getElem? (i := 9) rfl))
    · exact (hw _ (List.mem_of_getElem? (i := 22) rfl))
  · exact ⟨⟨(hw _ (List.mem_of_getElem? (i := 3) rfl)), (hw _ (List.mem_of_getElem? (i := 5) rfl)), (hw _ (List.mem_of_getElem? (i := 2) rfl)), ⟨_, _, own_pd0, rfl⟩, own_pn1, own_ne1, rfl, (fun _ => ⟨rfl, rfl⟩), ⟨rfl, (hw _ (List.mem_of_getElem? (i := 4) rfl)), rfl⟩⟩,
      ⟨(hw _ (List.mem_of_getElem? (i := 6) rfl)), (hw _ (List.mem_of_getElem? (i := 7) rfl)), (hw _ (List.mem_of_getElem? (i := 8) rfl))⟩,
      ⟨(hw _ (List.mem_of_getElem? (i := 35) rfl)), (hw _ (List.mem_of_getElem? (i := 39) rfl)), (hw _ (List.mem_of_getElem? (i := 2) rfl)), ⟨_, _, own_pd1, rfl⟩, own_pn1, own_ne1, rfl, (fun h => nomatch h), ⟨(hw _ (List.mem_of_getElem? (i := 36) rfl)), (hw _ (List.mem_of_getElem? (i := 37) rfl)), (hw _ (List.mem_of_getElem? (i := 38) rfl))⟩⟩,
      ⟨(hw _ (List.mem_of_getElem? (i := 62) rfl)), (hw _ (List.mem_of_getElem? (i := 66) rfl)), (hw _ (List.mem_of_getElem? (i := 2) rfl)), ⟨_, _, own_pd2, rfl⟩, own_pn1, own_ne1, rfl, (fun h => nomatch h), ⟨(hw _ (List.mem_of_getElem? (i := 63) rfl)), (hw _ (List.mem_of_getElem? (i := 64) rfl)), (hw _ (List.mem_of_getElem? (i := 65) rfl))⟩⟩,
      ⟨(hw _ (List.mem_of_getElem? (i := 67) rfl)), (hw _ (List.mem_of_getElem? (i := 71) rfl)), (hw _ (List.mem_of_getElem? (i := 2) rfl)), ⟨_, _, own_pd3, rfl⟩, own_pn1, own_ne1, rfl, (fun h => nomatch h), ⟨(hw _ (List.mem_of_getElem? (i := 68) rfl)), (hw _ (List.mem_of_getElem? (i := 69) rfl)), (hw _ (List.mem_of_getElem? (i := 70) rfl))⟩⟩,
      ⟨(hw _ (List.mem_of_getElem? (i := 72) rfl)), (hw _ (List.mem_of_getElem? (i := 75) rfl)), (hw _ (List.mem_of_getElem? (i := 2) rfl)), ⟨_, _, own_pd2, rfl⟩, own_pn1, own_ne1, rfl, (fun h => nomatch h), ⟨rfl, (hw _ (List.mem_of_getElem? (i := 73) rfl)), (hw _ (List.mem_of_getElem? (i := 74) rfl))⟩⟩,
      ⟨(hw _ (List.mem_of_getElem? (i := 76) rfl)), (hw _ (List.mem_of_getElem? (i := 79) rfl)), (hw _ (List.mem_of_getElem? (i := 2) rfl)), ⟨_, _, own_pd2, rfl⟩, own_pn1, own_ne1, rfl, (fun h => nomatch h), ⟨rfl, (hw _ (List.mem_of_getElem? (i := 77) rfl)), (hw _ (List.mem_of_getElem? (i := 78) rfl))⟩⟩,
      ⟨(hw _ (List.mem_of_getElem? (i := 81) rfl)), (hw _ (List.mem_of_getElem? (i := 84) rfl)), (hw _ (List.mem_of_getElem? (i := 2) rfl)), ⟨_, _, own_pd4, rfl⟩, own_pn1, own_ne1, rfl, (fun h => nomatch h), ⟨rfl, (hw _ (List.mem_of_getElem? (i := 82) rfl)), (hw _ (List.mem_of_getElem? (i := 83) rfl))⟩⟩,
      ⟨(hw _ (List.mem_of_getElem? (i := 87) rfl)), (hw _ (List.mem_of_getElem? (i := 90) rfl)), (hw _ (List.mem_of_getElem? (i := 2) rfl)), ⟨_, _, own_pd1, rfl⟩, own_pn1, own_ne1, rfl, (fun h => nomatch h), ⟨rfl, (hw _ (List.mem_of_getElem? (i := 88) rfl)), (hw _ (List.mem_of_getElem? (i := 89) rfl))⟩⟩,
      ⟨(hw _ (List.mem_of_getElem? (i := 91) rfl)), (hw _ (List.mem_of_getElem? (i := 94) rfl)), (hw _ (List.mem_of_getElem? (i := 2) rfl)), ⟨_, _, own_pd5, rfl⟩, own_pn1, own_ne1, rfl, (fun h => nomatch h), ⟨rfl, (hw _ (List.mem_of_getElem? (i := 92) rfl)), (hw _ (List.mem_of_getElem? (i := 93) rfl))⟩⟩,
      ⟨(hw _ (List.mem_of_getElem? (i := 95) rfl)), (hw _ (List.mem_of_getElem? (i := 99) rfl)), (hw _ (List.mem_of_getElem? (i := 2) rfl)), ⟨_, _, own_pd3, rfl⟩, own_pn1, own_ne1, rfl, (fun h => nomatch h), ⟨(hw _ (List.mem_of_getElem? (i := 96) rfl)), (hw _ (List.mem_of_getElem? (i := 97) rfl)), (hw _ (List.mem_of_getElem? (i := 98) rfl))⟩⟩,
      ⟨(hw _ (List.mem_of_getElem? (i := 100) rfl)), (hw _ (List.mem_of_getElem? (i := 104) rfl)), (hw _ (List.mem_of_getElem? (i := 2) rfl)), ⟨_, _, own_pd3, rfl⟩, own_pn1, own_ne1, rfl, (fun h => nomatch h), ⟨(hw _ (List.mem_of_getElem? (i := 101) rfl)), (hw _ (List.mem_of_getElem? (i := 102) rfl)), (hw _ (List.mem_of_getElem? (i := 103) rfl))⟩⟩,
      ⟨(hw _ (List.mem_of_getElem? (i := 105) rfl)), (hw _ (List.mem_of_getElem? (i := 109) rfl)), (hw _ (List.mem_of_getElem? (i := 2) rfl)), ⟨_, _, own_pd5, rfl⟩, own_pn1, own_ne1, rfl, (fun h => nomatch h), ⟨(hw _ (List.mem_of_getElem? (i := 106) rfl)), (hw _ (List.mem_of_getElem? (i := 107) rfl)), (hw _ (List.mem_of_getElem? (i := 108) rfl))⟩⟩,
      ⟨(hw _ (List.mem_of_getElem? (i := 110) rfl)), (hw _ (List.mem_of_getElem? (i := 114) rfl)), (hw _ (List.mem_of_getElem? (i := 2) rfl)), ⟨_, _, own_pd5, rfl⟩, own_pn1, own_ne1, rfl, (fun h => nomatch h), ⟨(hw _ (List.mem_of_getElem? (i := 111) rfl)), (hw _ (List.mem_of_getElem? (i := 112) rfl)), (hw _ (List.mem_of_getElem? (i := 113) rfl))⟩⟩,
      (hw _ (List.mem_of_getElem? (i := 0) rfl)),
      trivial⟩
/-! # the object's state -/
def Q : Type := List Int32 × List Int32 × List Int32 × List Int32 × List Int32 × List Int32 × List Int64 × List Int32 × List Int32 × List Int32 × List Int32 × Int32 × Int32 × Int32 × Int32 × Int32 × Int32 × Int32 × Int32 × Int32 × Int32 × Int32 × Int32
def Q.f_basis (s : Q) : List Int32 := s.1
def Q.f_target (s : Q) : List Int32 := s.2.1
def Q.f_literal (s : Q) : List Int32 := s.2.2.1
def Q.f_out (s : Q) : List Int32 := s.2.2.2.1
def Q.f_blkLen (s : Q) : List Int32 := s.2.2.2.2.1
def Q.f_blkWeak (s : Q) : List Int32 := s.2.2.2.2.2.1
def Q.f_blkStrong (s : Q) : List Int64 := s.2.2.2.2.2.2.1
def Q.f_head (s : Q) : List Int32 := s.2.2.2.2.2.2.2.1
def Q.f_next (s : Q) : List Int32 := s.2.2.2.2.2.2.2.2.1
def Q.f_kinds (s : Q) : List Int32 := s.2.2.2.2.2.2.2.2.2.1
def Q.f_values (s : Q) : List Int32 := s.2.2.2.2.2.2.2.2.2.2.1
def Q.f_blockSize (s : Q) : Int32 := s.2.2.2.2.2.2.2.2.2.2.2.1
def Q.f_basisLen (s : Q) : Int32 := s.2.2.2.2.2.2.2.2.2.2.2.2.1
def Q.f_targetLen (s : Q) : Int32 := s.2.2.2.2.2.2.2.2.2.2.2.2.2.1
def Q.f_literalLen (s : Q) : Int32 := s.2.2.2.2.2.2.2.2.2.2.2.2.2.2.1
def Q.f_outLen (s : Q) : Int32 := s.2.2.2.2.2.2.2.2.2.2.2.2.2.2.2.1
def Q.f_blocks (s : Q) : Int32 := s.2.2.2.2.2.2.2.2.2.2.2.2.2.2.2.2.1
def Q.f_ops (s : Q) : Int32 := s.2.2.2.2.2.2.2.2.2.2.2.2.2.2.2.2.2.1
def Q.f_shortBlock (s : Q) : Int32 := s.2.2.2.2.2.2.2.2.2.2.2.2.2.2.2.2.2.2.1
def Q.f_winPos (s : Q) : Int32 := s.2.2.2.2.2.2.2.2.2.2.2.2.2.2.2.2.2.2.2.1
def Q.f_winA (s : Q) : Int32 := s.2.2.2.2.2.2.2.2.2.2.2.2.2.2.2.2.2.2.2.2.1
def Q.f_winB (s : Q) : Int32 := s.2.2.2.2.2.2.2.2.2.2.2.2.2.2.2.2.2.2.2.2.2.1
def Q.f_phaseNow (s : Q) : Int32 := s.2.2.2.2.2.2.2.2.2.2.2.2.2.2.2.2.2.2.2.2.2.2
def Q.s_basis (s : Q) (x : List Int32) : Q := (x, s.2.1, s.2.2.1, s.2.2.2.1, s.2.2.2.2.1, s.2.2.2.2.2.1, s.2.2.2.2.2.2.1, s.2.2.2.2.2.2.2.1, s.2.2.2.2.2.2.2.2.1, s.2.2.2.2.2.2.2.2.2.1, s.2.2.2.2.2.2.2.2.2.2.1, s.2.2.2.2.2.2.2.2.2.2.2.1, s.2.2.2.2.2.2.2.2.2.2.2.2.1, s.2.2.2.2.2.2.2.2.2.2.2.2.2.1, s.2.2.2.2.2.2.2.2.2.2.2.2.2.2.1, s.2.2.2.2.2.2.2.2.2.2.2.2.2.2.2.1, s.2.2.2.2.2.2.2.2.2.2.2.2.2.2.2.2.1, s.2.2.2.2.2.2.2.2.2.2.2.2.2.2.2.2.2.1, s.2.2.2.2.2.2.2.2.2.2.2.2.2.2.2.2.2.2.1, s.2.2.2.2.2.2.2.2.2.2.2.2.2.2.2.2.2.2.2.1, s.2.2.2.2.2.2.2.2.2.2.2.2.2.2.2.2.2.2.2.2.1, s.2.2.2.2.2.2.2.2.2.2.2.2.2.2.2.2.2.2.2.2.2.1, s.2.2.2.2.2.2.2.2.2.2.2.2.2.2.2.2.2.2.2.2.2.2)
def Q.s_target (s : Q) (x : List Int32) : Q := (s.1, x, s.2.2.1, s.2.2.2.1, s.2.2.2.2.1, s.2.2.2.2.2.1, s.2.2.2.2.2.2.1, s.2.2.2.2.2.2.2.1, s.2.2.2.2.2.2.2.2.1, s.2.2.2.2.2.2.2.2.2.1, s.2.2.2.2.2.2.2.2.2.2.1, s.2.2.2.2.2.2.2.2.2.2.2.1, s.2.2.2.2.2.2.2.2.2.2.2.2.1, s.2.2.2.2.2.2.2.2.2.2.2.2.2.1, s.2.2.2.2.2.2.2.2.2.2.2.2.2.2.1, s.2.2.2.2.2.2.2.2.2.2.2.2.2.2.2.1, s.2.2.2.2.2.2.2.2.2.2.2.2.2.2.2.2.1, s.2.2.2.2.2.2.2.2.2.2.2.2.2.2.2.2.2.1, s.2.2.2.2.2.2.2.2.2.2.2.2.2.2.2.2.2.2.1, s.2.2.2.2.2.2.2.2.2.2.2.2.2.2.2.2.2.2.2.1, s.2.2.2.2.2.2.2.2.2.2.2.2.2.2.2.2.2.2.2.2.1, s.2.2.2.2.2.2.2.2.2.2.2.2.2.2.2.2.2.2.2.2.2.1, s.2.2.2.2.2.2.2.2.2.2.2.2.2.2.2.2.2.2.2.2.2.2)
def Q.s_literal (s : Q) (x : List Int32) : Q := (s.1, s.2.1, x, s.2.2.2.1, s.2.2.2.2.1, s.2.2.2.2.2.1, s.2.2.2.2.2.2.1, s.2.2.2.2.2.2.2.1, s.2.2.2.2.2.2.2.2.1, s.2.2.2.2.2.2.2.2.2.1, s.2.2.2.2.2.2.2.2.2.2.1, s.2.2.2.2.2.2.2.2.2.2.2.1, s.2.2.2.2.2.2.2.2.2.2.2.2.1, s.2.2.2.2.2.2.2.2.2.2.2.2.2.1, s.2.2.2.2.2.2.2.2.2.2.2.2.2.2.1, s.2.2.2.2.2.2.2.2.2.2.2.2.2.2.2.1, s.2.2.2.2.2.2.2.2.2.2.2.2.2.2.2.2.1, s.2.2.2.2.2.2.2.2.2.2.2.2.2.2.2.2.2.1, s.2.2.2.2.2.2.2.2.2.2.2.2.2.2.2.2.2.2.1, s.2.2.2.2.2.2.2.2.2.2.2.2.2.2.2.2.2.2.2.1, s.2.2.2.2.2.2.2.2.2.2.2.2.2.2.2.2.2.2.2.2.1, s.2.2.2.2.2.2.2.2.2.2.2.2.2.2.2.2.2.2.2.2.2.1, s.2.2.2.2.2.2.2.2.2.2.2.2.2.2.2.2.2.2.2.2.2.2)
def Q.s_out (s : Q) (x : List Int32) : Q := (s.1, s.2.1, s.2.2.1, x, s.2.2.2.2.1, s.2.2.2.2.2.1, s.2.2.2.2.2.2.1, s.2.2.2.2.2.2.2.1, s.2.2.2.2.2.2.2.2.1, s.2.2.2.2.2.2.2.2.2.1, s.2.2.2.2.2.2.2.2.2.2.1, s.2.2.2.2.2.2.2.2.2.2.2.1, s.2.2.2.2.2.2.2.2.2.2.2.2.1, s.2.2.2.2.2.2.2.2.2.2.2.2.2.1, s.2.2.2.2.2.2.2.2.2.2.2.2.2.2.1, s.2.2.2.2.2.2.2.2.2.2.2.2.2.2.2.1, s.2.2.2.2.2.2.2.2.2.2.2.2.2.2.2.2.1, s.2.2.2.2.2.2.2.2.2.2.2.2.2.2.2.2.2.1, s.2.2.2.2.2.2.2.2.2.2.2.2.2.2.2.2.2.2.1, s.2.2.2.2.2.2.2.2.2.2.2.2.2.2.2.2.2.2.2.1, s.2.2.2.2.2.2.2.2.2.2.2.2.2.2.2.2.2.2.2.2.1, s.2.2.2.2.2.2.2.2.2.2.2.2.2.2.2.2.2.2.2.2.2.1, s.2.2.2.2.2.2.2.2.2.2.2.2.2.2.2.2.2.2.2.2.2.2)
def Q.s_blkLen (s : Q) (x : List Int32) : Q := (s.1, s.2.1, s.2.2.1, s.2.2.2.1, x, s.2.2.2.2.2.1, s.2.2.2.2.2.2.1, s.2.2.2.2.2.2.2.1, s.2.2.2.2.2.2.2.2.1, s.2.2.2.2.2.2.2.2.2.1, s.2.2.2.2.2.2.2.2.2.2.1, s.2.2.2.2.2.2.2.2.2.2.2.1, s.2.2.2.2.2.2.2.2.2.2.2.2.1, s.2.2.2.2.2.2.2.2.2.2.2.2.2.1, s.2.2.2.2.2.2.2.2.2.2.2.2.2.2.1, s.2.2.2.2.2.2.2.2.2.2.2.2.2.2.2.1, s.2.2.2.2.2.2.2.2.2.2.2.2.2.2.2.2.1, s.2.2.2.2.2.2.2.2.2.2.2.2.2.2.2.2.2.1, s.2.2.2.2.2.2.2.2.2.2.2.2.2.2.2.2.2.2.1, s.2.2.2.2.2.2.2.2.2.2.2.2.2.2.2.2.2.2.2.1, s.2.2.2.2.2.2.2.2.2.2.2.2.2.2.2.2.2.2.2.2.1, s.2.2.2.2.2.2.2.2.2.2.2.2.2.2.2.2.2.2.2.2.2.1, s.2.2.2.2.2.2.2.2.2.2.2.2.2.2.2.2.2.2.2.2.2.2)
def Q.s_blkWeak (s : Q) (x : List Int32) : Q := (s.1, s.2.1, s.2.2.1, s.2.2.2.1, s.2.2.2.2.1, x, s.2.2.2.2.2.2.1, s.2.2.2.2.2.2.2.1, s.2.2.2.2.2.2.2.2.1, s.2.2.2.2.2.2.2.2.2.1, s.2.2.2.2.2.2.2.2.2.2.1, s.2.2.2.2.2.2.2.2.2.2.2.1, s.2.2.2.2.2.2.2.2.2.2.2.2.1, s.2.2.2.2.2.2.2.2.2.2.2.2.2.1, s.2.2.2.2.2.2.2.2.2.2.2.2.2.2.1, s.2.2.2.2.2.2.2.2.2.2.2.2.2.2.2.1, s.2.2.2.2.2.2.2.2.2.2.2.2.2.2.2.2.1, s.2.2.2.2.2.2.2.2.2.2.2.2.2.2.2.2.2.1, s.2.2.2.2.2.2.2.2.2.2.2.2.2.2.2.2.2.2.1, s.2.2.2.2.2.2.2.2.2.2.2.2.2.2.2.2.2.2.2.1, s.2.2.2.2.2.2.2.2.2.2.2.2.2.2.2.2.2.2.2.2.1, s.2.2.2.2.2.2.2.2.2.2.2.2.2.2.2.2.2.2.2.2.2.1, s.2.2.2.2.2.2.2.2.2.2.2.2.2.2.2.2.2.2.2.2.2.2)
def Q.s_blkStrong (s : Q) (x : List Int64) : Q := (s.1, s.2.1, s.2.2.1, s.2.2.2.1, s.2.2.2.2.1, s.2.2.2.2.2.1, x, s.2.2.2.2.2.2.2.1, s.2.2.2.2.2.2.2.2.1, s.2.2.2.2.2.2.2.2.2.1, s.2.2.2.2.2.2.2.2.2.2.1, s.2.2.2.2.2.2.2.2.2.2.2.1, s.2.2.2.2.2.2.2.2.2.2.2.2.1, s.2.2.2.2.2.2.2.2.2.2.2.2.2.1, s.2.2.2.2.2.2.2.2.2.2.2.2.2.2.1, s.2.2.2.2.2.2.2.2.2.2.2.2.2.2.2.1, s.2.2.2.2.2.2.2.2.2.2.2.2.2.2.2.2.1, s.2.2.2.2.2.2.2.2.2.2.2.2.2.2.2.2.2.1, s.2.2.2.2.2.2.2.2.2.2.2.2.2.2.2.2.2.2.1, s.2.2.2.2.2.2.2.2.2.2.2.2.2.2.2.2.2.2.2.1, s.2.2.2.2.2.2.2.2.2.2.2.2.2.2.2.2.2.2.2.2.1, s.2.2.2.2.2.2.2.2.2.2.2.2.2.2.2.2.2.2.2.2.2.1, s.2.2.2.2.2.2.2.2.2.2.2.2.2.2.2.2.2.2.2.2.2.2)
def Q.s_head (s : Q) (x : List Int32) : Q := (s.1, s.2.1, s.2.2.1, s.2.2.2.1, s.2.2.2.2.1, s.2.2.2.2.2.1, s.2.2.2.2.2.2.1, x, s.2.2.2.2.2.2.2.2.1, s.2.2.2.2.2.2.2.2.2.1, s.2.2.2.2.2.2.2.2.2.2.1, s.2.2.2.2.2.2.2.2.2.2.2.1, s.2.2.2.2.2.2.2.2.2.2.2.2.1, s.2.2.2.2.2.2.2.2.2.2.2.2.2.1, s.2.2.2.2.2.2.2.2.2.2.2.2.2.2.1, s.2.2.2.2.2.2.2.2.2.2.2.2.2.2.2.1, s.2.2.2.2.2.2.2.2.2.2.2.2.2.2.2.2.1, s.2.2.2.2.2.2.2.2.2.2.2.2.2.2.2.2.2.1, s.2.2.2.2.2.2.2.2.2.2.2.2.2.2.2.2.2.2.1, s.2.2.2.2.2.2.2.2.2.2.2.2.2.2.2.2.2.2.2.1, s.2.2.2.2.2.2.2.2.2.2.2.2.2.2.2.2.2.2.2.2.1, s.2.2.2.2.2.2.2.2.2.2.2.2.2.2.2.2.2.2.2.2.2.1, s.2.2.2.2.2.2.2.2.2.2.2.2.2.2.2.2.2.2.2.2.2.2)
def Q.s_next (s : Q) (x : List Int32) : Q := (s.1, s.2.1, s.2.2.1, s.2.2.2.1, s.2.2.2.2.1, s.2.2.2.2.2.1, s.2.2.2.2.2.2.1, s.2.2.2.2.2.2.2.1, x, s.2.2.2.2.2.2.2.2.2.1, s.2.2.2.2.2.2.2.2.2.2.1, s.2.2.2.2.2.2.2.2.2.2.2.1, s.2.2.2.2.2.2.2.2.2.2.2.2.1, s.2.2.2.2.2.2.2.2.2.2.2.2.2.1, s.2.2.2.2.2.2.2.2.2.2.2.2.2.2.1, s.2.2.2.2.2.2.2.2.2.2.2.2.2.2.2.1, s.2.2.2.2.2.2.2.2.2.2.2.2.2.2.2.2.1, s.2.2.2.2.2.2.2.2.2.2.2.2.2.2.2.2.2.1, s.2.2.2.2.2.2.2.2.2.2.2.2.2.2.2.2.2.2.1, s.2.2.2.2.2.2.2.2.2.2.2.2.2.2.2.2.2.2.2.1, s.2.2.2.2.2.2.2.2.2.2.2.2.2.2.2.2.2.2.2.2.1, s.2.2.2.2.2.2.2.2.2.2.2.2.2.2.2.2.2.2.2.2.2.1, s.2.2.2.2.2.2.2.2.2.2.2.2.2.2.2.2.2.2.2.2.2.2)
def Q.s_kinds (s : Q) (x : List Int32) : Q := (s.1, s.2.1, s.2.2.1, s.2.2.2.1, s.2.2.2.2.1, s.2.2.2.2.2.1, s.2.2.2.2.2.2.1, s.2.2.2.2.2.2.2.1, s.2.2.2.2.2.2.2.2.1, x, s.2.2.2.2.2.2.2.2.2.2.1, s.2.2.2.2.2.2.2.2.2.2.2.1, s.2.2.2.2.2.2.2.2.2.2.2.2.1, s.2.2.2.2.2.2.2.2.2.2.2.2.2.1, s.2.2.2.2.2.2.2.2.2.2.2.2.2.2.1, s.2.2.2.2.2.2.2.2.2.2.2.2.2.2.2.1, s.2.2.2.2.2.2.2.2.2.2.2.2.2.2.2.2.1, s.2.2.2.2.2.2.2.2.2.2.2.2.2.2.2.2.2.1, s.2.2.2.2.2.2.2.2.2.2.2.2.2.2.2.2.2.2.1, s.2.2.2.2.2.2.2.2.2.2.2.2.2.2.2.2.2.2.2.1, s.2.2.2.2.2.2.2.2.2.2.2.2.2.2.2.2.2.2.2.2.1, s.2.2.2.2.2.2.2.2.2.2.2.2.2.2.2.2.2.2.2.2.2.1, s.2.2.2.2.2.2.2.2.2.2.2.2.2.2.2.2.2.2.2.2.2.2)
def Q.s_values (s : Q) (x : List Int32) : Q := (s.1, s.2.1, s.2.2.1, s.2.2.2.1, s.2.2.2.2.1, s.2.2.2.2.2.1, s.2.2.2.2.2.2.1, s.2.2.2.2.2.2.2.1, s.2.2.2.2.2.2.2.2.1, s.2.2.2.2.2.2.2.2.2.1, x, s.2.2.2.2.2.2.2.2.2.2.2.1, s.2.2.2.2.2.2.2.2.2.2.2.2.1, s.2.2.2.2.2.2.2.2.2.2.2.2.2.1, s.2.2.2.2.2.2.2.2.2.2.2.2.2.2.1, s.2.2.2.2.2.2.2.2.2.2.2.2.2.2.2.1, s.2.2.2.2.2.2.2.2.2.2.2.2.2.2.2.2.1, s.2.2.2.2.2.2.2.2.2.2.2.2.2.2.2.2.2.1, s.2.2.2.2.2.2.2.2.2.2.2.2.2.2.2.2.2.2.1, s.2.2.2.2.2.2.2.2.2.2.2.2.2.2.2.2.2.2.2.1, s.2.2.2.2.2.2.2.2.2.2.2.2.2.2.2.2.2.2.2.2.1, s.2.2.2.2.2.2.2.2.2.2.2.2.2.2.2.2.2.2.2.2.2.1, s.2.2.2.2.2.2.2.2.2.2.2.2.2.2.2.2.2.2.2.2.2.2)
def Q.s_blockSize (s : Q) (x : Int32) : Q := (s.1, s.2.1, s.2.2.1, s.2.2.2.1, s.2.2.2.2.1, s.2.2.2.2.2.1, s.2.2.2.2.2.2.1, s.2.2.2.2.2.2.2.1, s.2.2.2.2.2.2.2.2.1, s.2.2.2.2.2.2.2.2.2.1, s.2.2.2.2.2.2.2.2.2.2.1, x, s.2.2.2.2.2.2.2.2.2.2.2.2.1, s.2.2.2.2.2.2.2.2.2.2.2.2.2.1, s.2.2.2.2.2.2.2.2.2.2.2.2.2.2.1, s.2.2.2.2.2.2.2.2.2.2.2.2.2.2.2.1, s.2.2.2.2.2.2.2.2.2.2.2.2.2.2.2.2.1, s.2.2.2.2.2.2.2.2.2.2.2.2.2.2.2.2.2.1, s.2.2.2.2.2.2.2.2.2.2.2.2.2.2.2.2.2.2.1, s.2.2.2.2.2.2.2.2.2.2.2.2.2.2.2.2.2.2.2.1, s.2.2.2.2.2.2.2.2.2.2.2.2.2.2.2.2.2.2.2.2.1, s.2.2.2.2.2.2.2.2.2.2.2.2.2.2.2.2.2.2.2.2.2.1, s.2.2.2.2.2.2.2.2.2.2.2.2.2.2.2.2.2.2.2.2.2.2)
def Q.s_basisLen (s : Q) (x : Int32) : Q := (s.1, s.2.1, s.2.2.1, s.2.2.2.1, s.2.2.2.2.1, s.2.2.2.2.2.1, s.2.2.2.2.2.2.1, s.2.2.2.2.2.2.2.1, s.2.2.2.2.2.2.2.2.1, s.2.2.2.2.2.2.2.2.2.1, s.2.2.2.2.2.2.2.2.2.2.1, s.2.2.2.2.2.2.2.2.2.2.2.1, x, s.2.2.2.2.2.2.2.2.2.2.2.2.2.1, s.2.2.2.2.2.2.2.2.2.2.2.2.2.2.1, s.2.2.2.2.2.2.2.2.2.2.2.2.2.2.2.1, s.2.2.2.2.2.2.2.2.2.2.2.2.2.2.2.2.1, s.2.2.2.2.2.2.2.2.2.2.2.2.2.2.2.2.2.1, s.2.2.2.2.2.2.2.2.2.2.2.2.2.2.2.2.2.2.1, s.2.2.2.2.2.2.2.2.2.2.2.2.2.2.2.2.2.2.2.1, s.2.2.2.2.2.2.2.2.2.2.2.2.2.2.2.2.2.2.2.2.1, s.2.2.2.2.2.2.2.2.2.2.2.2.2.2.2.2.2.2.2.2.2.1, s.2.2.2.2.2.2.2.2.2.2.2.2.2.2.2.2.2.2.2.2.2.2)
def Q.s_targetLen (s : Q) (x : Int32) : Q := (s.1, s.2.1, s.2.2.1, s.2.2.2.1, s.2.2.2.2.1, s.2.2.2.2.2.1, s.2.2.2.2.2.2.1, s.2.2.2.2.2.2.2.1, s.2.2.2.2.2.2.2.2.1, s.2.2.2.2.2.2.2.2.2.1, s.2.2.2.2.2.2.2.2.2.2.1, s.2.2.2.2.2.2.2.2.2.2.2.1, s.2.2.2.2.2.2.2.2.2.2.2.2.1, x, s.2.2.2.2.2.2.2.2.2.2.2.2.2.2.1, s.2.2.2.2.2.2.2.2.2.2.2.2.2.2.2.1, s.2.2.2.2.2.2.2.2.2.2.2.2.2.2.2.2.1, s.2.2.2.2.2.2.2.2.2.2.2.2.2.2.2.2.2.1, s.2.2.2.2.2.2.2.2.2.2.2.2.2.2.2.2.2.2.1, s.2.2.2.2.2.2.2.2.2.2.2.2.2.2.2.2.2.2.2.1, s.2.2.2.2.2.2.2.2.2.2.2.2.2.2.2.2.2.2.2.2.1, s.2.2.2.2.2.2.2.2.2.2.2.2.2.2.2.2.2.2.2.2.2.1, s.2.2.2.2.2.2.2.2.2.2.2.2.2.2.2.2.2.2.2.2.2.2)
def Q.s_literalLen (s : Q) (x : Int32) : Q := (s.1, s.2.1, s.2.2.1, s.2.2.2.1, s.2.2.2.2.1, s.2.2.2.2.2.1, s.2.2.2.2.2.2.1, s.2.2.2.2.2.2.2.1, s.2.2.2.2.2.2.2.2.1, s.2.2.2.2.2.2.2.2.2.1, s.2.2.2.2.2.2.2.2.2.2.1, s.2.2.2.2.2.2.2.2.2.2.2.1, s.2.2.2.2.2.2.2.2.2.2.2.2.1, s.2.2.2.2.2.2.2.2.2.2.2.2.2.1, x, s.2.2.2.2.2.2.2.2.2.2.2.2.2.2.2.1, s.2.2.2.2.2.2.2.2.2.2.2.2.2.2.2.2.1, s.2.2.2.2.2.2.2.2.2.2.2.2.2.2.2.2.2.1, s.2.2.2.2.2.2.2.2.2.2.2.2.2.2.2.2.2.2.1, s.2.2.2.2.2.2.2.2.2.2.2.2.2.2.2.2.2.2.2.1, s.2.2.2.2.2.2.2.2.2.2.2.2.2.2.2.2.2.2.2.2.1, s.2.2.2.2.2.2.2.2.2.2.2.2.2.2.2.2.2.2.2.2.2.1, s.2.2.2.2.2.2.2.2.2.2.2.2.2.2.2.2.2.2.2.2.2.2)
def Q.s_outLen (s : Q) (x : Int32) : Q := (s.1, s.2.1, s.2.2.1, s.2.2.2.1, s.2.2.2.2.1, s.2.2.2.2.2.1, s.2.2.2.2.2.2.1, s.2.2.2.2.2.2.2.1, s.2.2.2.2.2.2.2.2.1, s.2.2.2.2.2.2.2.2.2.1, s.2.2.2.2.2.2.2.2.2.2.1, s.2.2.2.2.2.2.2.2.2.2.2.1, s.2.2.2.2.2.2.2.2.2.2.2.2.1, s.2.2.2.2.2.2.2.2.2.2.2.2.2.1, s.2.2.2.2.2.2.2.2.2.2.2.2.2.2.1, x, s.2.2.2.2.2.2.2.2.2.2.2.2.2.2.2.2.1, s.2.2.2.2.2.2.2.2.2.2.2.2.2.2.2.2.2.1, s.2.2.2.2.2.2.2.2.2.2.2.2.2.2.2.2.2.2.1, s.2.2.2.2.2.2.2.2.2.2.2.2.2.2.2.2.2.2.2.1, s.2.2.2.2.2.2.2.2.2.2.2.2.2.2.2.2.2.2.2.2.1, s.2.2.2.2.2.2.2.2.2.2.2.2.2.2.2.2.2.2.2.2.2.1, s.2.2.2.2.2.2.2.2.2.2.2.2.2.2.2.2.2.2.2.2.2.2)
def Q.s_blocks (s : Q) (x : Int32) : Q := (s.1, s.2.1, s.2.2.1, s.2.2.2.1, s.2.2.2.2.1, s.2.2.2.2.2.1, s.2.2.2.2.2.2.1, s.2.2.2.2.2.2.2.1, s.2.2.2.2.2.2.2.2.1, s.2.2.2.2.2.2.2.2.2.1, s.2.2.2.2.2.2.2.2.2.2.1, s.2.2.2.2.2.2.2.2.2.2.2.1, s.2.2.2.2.2.2.2.2.2.2.2.2.1, s.2.2.2.2.2.2.2.2.2.2.2.2.2.1, s.2.2.2.2.2.2.2.2.2.2.2.2.2.2.1, s.2.2.2.2.2.2.2.2.2.2.2.2.2.2.2.1, x, s.2.2.2.2.2.2.2.2.2.2.2.2.2.2.2.2.2.1, s.2.2.2.2.2.2.2.2.2.2.2.2.2.2.2.2.2.2.1, s.2.2.2.2.2.2.2.2.2.2.2.2.2.2.2.2.2.2.2.1, s.2.2.2.2.2.2.2.2.2.2.2.2.2.2.2.2.2.2.2.2.1, s.2.2.2.2.2.2.2.2.2.2.2.2.2.2.2.2.2.2.2.2.2.1, s.2.2.2.2.2.2.2.2.2.2.2.2.2.2.2.2.2.2.2.2.2.2)
def Q.s_ops (s : Q) (x : Int32) : Q := (s.1, s.2.1, s.2.2.1, s.2.2.2.1, s.2.2.2.2.1, s.2.2.2.2.2.1, s.2.2.2.2.2.2.1, s.2.2.2.2.2.2.2.1, s.2.2.2.2.2.2.2.2.1, s.2.2.2.2.2.2.2.2.2.1, s.2.2.2.2.2.2.2.2.2.2.1, s.2.2.2.2.2.2.2.2.2.2.2.1, s.2.2.2.2.2.2.2.2.2.2.2.2.1, s.2.2.2.2.2.2.2.2.2.2.2.2.2.1, s.2.2.2.2.2.2.2.2.2.2.2.2.2.2.1, s.2.2.2.2.2.2.2.2.2.2.2.2.2.2.2.1, s.2.2.2.2.2.2.2.2.2.2.2.2.2.2.2.2.1, x, s.2.2.2.2.2.2.2.2.2.2.2.2.2.2.2.2.2.2.1, s.2.2.2.2.2.2.2.2.2.2.2.2.2.2.2.2.2.2.2.1, s.2.2.2.2.2.2.2.2.2.2.2.2.2.2.2.2.2.2.2.2.1, s.2.2.2.2.2.2.2.2.2.2.2.2.2.2.2.2.2.2.2.2.2.1, s.2.2.2.2.2.2.2.2.2.2.2.2.2.2.2.2.2.2.2.2.2.2)
def Q.s_shortBlock (s : Q) (x : Int32) : Q := (s.1, s.2.1, s.2.2.1, s.2.2.2.1, s.2.2.2.2.1, s.2.2.2.2.2.1, s.2.2.2.2.2.2.1, s.2.2.2.2.2.2.2.1, s.2.2.2.2.2.2.2.2.1, s.2.2.2.2.2.2.2.2.2.1, s.2.2.2.2.2.2.2.2.2.2.1, s.2.2.2.2.2.2.2.2.2.2.2.1, s.2.2.2.2.2.2.2.2.2.2.2.2.1, s.2.2.2.2.2.2.2.2.2.2.2.2.2.1, s.2.2.2.2.2.2.2.2.2.2.2.2.2.2.1, s.2.2.2.2.2.2.2.2.2.2.2.2.2.2.2.1, s.2.2.2.2.2.2.2.2.2.2.2.2.2.2.2.2.1, s.2.2.2.2.2.2.2.2.2.2.2.2.2.2.2.2.2.1, x, s.2.2.2.2.2.2.2.2.2.2.2.2.2.2.2.2.2.2.2.1, s.2.2.2.2.2.2.2.2.2.2.2.2.2.2.2.2.2.2.2.2.1, s.2.2.2.2.2.2.2.2.2.2.2.2.2.2.2.2.2.2.2.2.2.1, s.2.2.2.2.2.2.2.2.2.2.2.2.2.2.2.2.2.2.2.2.2.2)
def Q.s_winPos (s : Q) (x : Int32) : Q := (s.1, s.2.1, s.2.2.1, s.2.2.2.1, s.2.2.2.2.1, s.2.2.2.2.2.1, s.2.2.2.2.2.2.1, s.2.2.2.2.2.2.2.1, s.2.2.2.2.2.2.2.2.1, s.2.2.2.2.2.2.2.2.2.1, s.2.2.2.2.2.2.2.2.2.2.1, s.2.2.2.2.2.2.2.2.2.2.2.1, s.2.2.2.2.2.2.2.2.2.2.2.2.1, s.2.2.2.2.2.2.2.2.2.2.2.2.2.1, s.2.2.2.2.2.2.2.2.2.2.2.2.2.2.1, s.2.2.2.2.2.2.2.2.2.2.2.2.2.2.2.1, s.2.2.2.2.2.2.2.2.2.2.2.2.2.2.2.2.1, s.2.2.2.2.2.2.2.2.2.2.2.2.2.2.2.2.2.1, s.2.2.2.2.2.2.2.2.2.2.2.2.2.2.2.2.2.2.1, x, s.2.2.2.2.2.2.2.2.2.2.2.2.2.2.2.2.2.2.2.2.1, s.2.2.2.2.2.2.2.2.2.2.2.2.2.2.2.2.2.2.2.2.2.1, s.2.2.2.2.2.2.2.2.2.2.2.2.2.2.2.2.2.2.2.2.2.2)
def Q.s_winA (s : Q) (x : Int32) : Q := (s.1, s.2.1, s.2.2.1, s.2.2.2.1, s.2.2.2.2.1, s.2.2.2.2.2.1, s.2.2.2.2.2.2.1, s.2.2.2.2.2.2.2.1, s.2.2.2.2.2.2.2.2.1, s.2.2.2.2.2.2.2.2.2.1, s.2.2.2.2.2.2.2.2.2.2.1, s.2.2.2.2.2.2.2.2.2.2.2.1, s.2.2.2.2.2.2.2.2.2.2.2.2.1, s.2.2.2.2.2.2.2.2.2.2.2.2.2.1, s.2.2.2.2.2.2.2.2.2.2.2.2.2.2.1, s.2.2.2.2.2.2.2.2.2.2.2.2.2.2.2.1, s.2.2.2.2.2.2.2.2.2.2.2.2.2.2.2.2.1, s.2.2.2.2.2.2.2.2.2.2.2.2.2.2.2.2.2.1, s.2.2.2.2.2.2.2.2.2.2.2.2.2.2.2.2.2.2.1, s.2.2.2.2.2.2.2.2.2.2.2.2.2.2.2.2.2.2.2.1, x, s.2.2.2.2.2.2.2.2.2.2.2.2.2.2.2.2.2.2.2.2.2.1, s.2.2.2.2.2.2.2.2.2.2.2.2.2.2.2.2.2.2.2.2.2.2)
def Q.s_winB (s : Q) (x : Int32) : Q := (s.1, s.2.1, s.2.2.1, s.2.2.2.1, s.2.2.2.2.1, s.2.2.2.2.2.1, s.2.2.2.2.2.2.1, s.2.2.2.2.2.2.2.1, s.2.2.2.2.2.2.2.2.1, s.2.2.2.2.2.2.2.2.2.1, s.2.2.2.2.2.2.2.2.2.2.1, s.2.2.2.2.2.2.2.2.2.2.2.1, s.2.2.2.2.2.2.2.2.2.2.2.2.1, s.2.2.2.2.2.2.2.2.2.2.2.2.2.1, s.2.2.2.2.2.2.2.2.2.2.2.2.2.2.1, s.2.2.2.2.2.2.2.2.2.2.2.2.2.2.2.1, s.2.2.2.2.2.2.2.2.2.2.2.2.2.2.2.2.1, s.2.2.2.2.2.2.2.2.2.2.2.2.2.2.2.2.2.1, s.2.2.2.2.2.2.2.2.2.2.2.2.2.2.2.2.2.2.1, s.2.2.2.2.2.2.2.2.2.2.2.2.2.2.2.2.2.2.2.1, s.2.2.2.2.2.2.2.2.2.2.2.2.2.2.2.2.2.2.2.2.1, x, s.2.2.2.2.2.2.2.2.2.2.2.2.2.2.2.2.2.2.2.2.2.2)
def Q.s_phaseNow (s : Q) (x : Int32) : Q := (s.1, s.2.1, s.2.2.1, s.2.2.2.1, s.2.2.2.2.1, s.2.2.2.2.2.1, s.2.2.2.2.2.2.1, s.2.2.2.2.2.2.2.1, s.2.2.2.2.2.2.2.2.1, s.2.2.2.2.2.2.2.2.2.1, s.2.2.2.2.2.2.2.2.2.2.1, s.2.2.2.2.2.2.2.2.2.2.2.1, s.2.2.2.2.2.2.2.2.2.2.2.2.1, s.2.2.2.2.2.2.2.2.2.2.2.2.2.1, s.2.2.2.2.2.2.2.2.2.2.2.2.2.2.1, s.2.2.2.2.2.2.2.2.2.2.2.2.2.2.2.1, s.2.2.2.2.2.2.2.2.2.2.2.2.2.2.2.2.1, s.2.2.2.2.2.2.2.2.2.2.2.2.2.2.2.2.2.1, s.2.2.2.2.2.2.2.2.2.2.2.2.2.2.2.2.2.2.1, s.2.2.2.2.2.2.2.2.2.2.2.2.2.2.2.2.2.2.2.1, s.2.2.2.2.2.2.2.2.2.2.2.2.2.2.2.2.2.2.2.2.1, s.2.2.2.2.2.2.2.2.2.2.2.2.2.2.2.2.2.2.2.2.2.1, x)
def Q0 : Q := (List.replicate 256 0, List.replicate 256 0, List.replicate 256 0, List.replicate 256 0, List.replicate 128 0, List.replicate 128 0, List.replicate 128 0, List.replicate 256 0, List.replicate 128 0, List.replicate 256 0, List.replicate 256 0, (0 : Int32), (0 : Int32), (0 : Int32), (0 : Int32), (0 : Int32), (0 : Int32), (0 : Int32), (0 : Int32), (0 : Int32), (0 : Int32), (0 : Int32), (0 : Int32))
def Q.mk (q0 : List Int32) (q1 : List Int32) (q2 : List Int32) (q3 : List Int32) (q4 : List Int32) (q5 : List Int32) (q6 : List Int64) (q7 : List Int32) (q8 : List Int32) (q9 : List Int32) (q10 : List Int32) (q11 : Int32) (q12 : Int32) (q13 : Int32) (q14 : Int32) (q15 : Int32) (q16 : Int32) (q17 : Int32) (q18 : Int32) (q19 : Int32) (q20 : Int32) (q21 : Int32) (q22 : Int32) : Q := (q0, q1, q2, q3, q4, q5, q6, q7, q8, q9, q10, q11, q12, q13, q14, q15, q16, q17, q18, q19, q20, q21, q22)
theorem own_f_basis {q0 : List Int32} {q1 : List Int32} {q2 : List Int32} {q3 : List Int32} {q4 : List Int32} {q5 : List Int32} {q6 : List Int64} {q7 : List Int32} {q8 : List Int32} {q9 : List Int32} {q10 : List Int32} {q11 : Int32} {q12 : Int32} {q13 : Int32} {q14 : Int32} {q15 : Int32} {q16 : Int32} {q17 : Int32} {q18 : Int32} {q19 : Int32} {q20 : Int32} {q21 : Int32} {q22 : Int32} : (Q.mk q0 q1 q2 q3 q4 q5 q6 q7 q8 q9 q10 q11 q12 q13 q14 q15 q16 q17 q18 q19 q20 q21 q22).f_basis = q0 := by have _h := trivial; exact rfl
theorem own_f_target {q0 : List Int32} {q1 : List Int32} {q2 : List Int32} {q3 : List Int32} {q4 : List Int32} {q5 : List Int32} {q6 : List Int64} {q7 : List Int32} {q8 : List Int32} {q9 : List Int32} {q10 : List Int32} {q11 : Int32} {q12 : Int32} {q13 : Int32} {q14 : Int32} {q15 : Int32} {q16 : Int32} {q17 : Int32} {q18 : Int32} {q19 : Int32} {q20 : Int32} {q21 : Int32} {q22 : Int32} : (Q.mk q0 q1 q2 q3 q4 q5 q6 q7 q8 q9 q10 q11 q12 q13 q14 q15 q16 q17 q18 q19 q20 q21 q22).f_target = q1 := by have _h := trivial; exact rfl
theorem own_f_literal {q0 : List Int32} {q1 : List Int32} {q2 : List Int32} {q3 : List Int32} {q4 : List Int32} {q5 : List Int32} {q6 : List Int64} {q7 : List Int32} {q8 : List Int32} {q9 : List Int32} {q10 : List Int32} {q11 : Int32} {q12 : Int32} {q13 : Int32} {q14 : Int32} {q15 : Int32} {q16 : Int32} {q17 : Int32} {q18 : Int32} {q19 : Int32} {q20 : Int32} {q21 : Int32} {q22 : Int32} : (Q.mk q0 q1 q2 q3 q4 q5 q6 q7 q8 q9 q10 q11 q12 q13 q14 q15 q16 q17 q18 q19 q20 q21 q22).f_literal = q2 := by have _h := trivial; exact rfl
theorem own_f_out {q0 : List Int32} {q1 : List Int32} {q2 : List Int32} {q3 : List Int32} {q4 : List Int32} {q5 : List Int32} {q6 : List Int64} {q7 : List Int32} {q8 : List Int32} {q9 : List Int32} {q10 : List Int32} {q11 : Int32} {q12 : Int32} {q13 : Int32} {q14 : Int32} {q15 : Int32} {q16 : Int32} {q17 : Int32} {q18 : Int32} {q19 : Int32} {q20 : Int32} {q21 : Int32} {q22 : Int32} : (Q.mk q0 q1 q2 q3 q4 q5 q6 q7 q8 q9 q10 q11 q12 q13 q14 q15 q16 q17 q18 q19 q20 q21 q22).f_out = q3 := by have _h := trivial; exact rfl
theorem own_f_blkLen {q0 : List Int32} {q1 : List Int32} {q2 : List Int32} {q3 : List Int32} {q4 : List Int32} {q5 : List Int32} {q6 : List Int64} {q7 : List Int32} {q8 : List Int32} {q9 : List Int32} {q10 : List Int32} {q11 : Int32} {q12 : Int32} {q13 : Int32} {q14 : Int32} {q15 : Int32} {q16 : Int32} {q17 : Int32} {q18 : Int32} {q19 : Int32} {q20 : Int32} {q21 : Int32} {q22 : Int32} : (Q.mk q0 q1 q2 q3 q4 q5 q6 q7 q8 q9 q10 q11 q12 q13 q14 q15 q16 q17 q18 q19 q20 q21 q22).f_blkLen = q4 := by have _h := trivial; exact rfl
theorem own_f_blkWeak {q0 : List Int32} {q1 : List Int32} {q2 : List Int32} {q3 : List Int32} {q4 : List Int32} {q5 : List Int32} {q6 : List Int64} {q7 : List Int32} {q8 : List Int32} {q9 : List Int32} {q10 : List Int32} {q11 : Int32} {q12 : Int32} {q13 : Int32} {q14 : Int32} {q15 : Int32} {q16 : Int32} {q17 : Int32} {q18 : Int32} {q19 : Int32} {q20 : Int32} {q21 : Int32} {q22 : Int32} : (Q.mk q0 q1 q2 q3 q4 q5 q6 q7 q8 q9 q10 q11 q12 q13 q14 q15 q16 q17 q18 q19 q20 q21 q22).f_blkWeak = q5 := by have _h := trivial; exact rfl
theorem own_f_blkStrong {q0 : List Int32} {q1 : List Int32} {q2 : List Int32} {q3 : List Int32} {q4 : List Int32} {q5 : List Int32} {q6 : List Int64} {q7 : List Int32} {q8 : List Int32} {q9 : List Int32} {q10 : List Int32} {q11 : Int32} {q12 : Int32} {q13 : Int32} {q14 : Int32} {q15 : Int32} {q16 : Int32} {q17 : Int32} {q18 : Int32} {q19 : Int32} {q20 : Int32} {q21 : Int32} {q22 : Int32} : (Q.mk q0 q1 q2 q3 q4 q5 q6 q7 q8 q9 q10 q11 q12 q13 q14 q15 q16 q17 q18 q19 q20 q21 q22).f_blkStrong = q6 := by have _h := trivial; exact rfl
theorem own_f_head {q0 : List Int32} {q1 : List Int32} {q2 : List Int32} {q3 : List Int32} {q4 : List Int32} {q5 : List Int32} {q6 : List Int64} {q7 : List Int32} {q8 : List Int32} {q9 : List Int32} {q10 : List Int32} {q11 : Int32} {q12 : Int32} {q13 : Int32} {q14 : Int32} {q15 : Int32} {q16 : Int32} {q17 : Int32} {q18 : Int32} {q19 : Int32} {q20 : Int32} {q21 : Int32} {q22 : Int32} : (Q.mk q0 q1 q2 q3 q4 q5 q6 q7 q8 q9 q10 q11 q12 q13 q14 q15 q16 q17 q18 q19 q20 q21 q22).f_head = q7 := by have _h := trivial; exact rfl
theorem own_f_next {q0 : List Int32} {q1 : List Int32} {q2 : List Int32} {q3 : List Int32} {q4 : List Int32} {q5 : List Int32} {q6 : List Int64} {q7 : List Int32} {q8 : List Int32} {q9 : List Int32} {q10 : List Int32} {q11 : Int32} {q12 : Int32} {q13 : Int32} {q14 : Int32} {q15 : Int32} {q16 : Int32} {q17 : Int32} {q18 : Int32} {q19 : Int32} {q20 : Int32} {q21 : Int32} {q22 : Int32} : (Q.mk q0 q1 q2 q3 q4 q5 q6 q7 q8 q9 q10 q11 q12 q13 q14 q15 q16 q17 q18 q19 q20 q21 q22).f_next = q8 := by have _h := trivial; exact rfl
theorem own_f_kinds {q0 : List Int32} {q1 : List Int32} {q2 : List Int32} {q3 : List Int32} {q4 : List Int32} {q5 : List Int32} {q6 : List Int64} {q7 : List Int32} {q8 : List Int32} {q9 : List Int32} {q10 : List Int32} {q11 : Int32} {q12 : Int32} {q13 : Int32} {q14 : Int32} {q15 : Int32} {q16 : Int32} {q17 : Int32} {q18 : Int32} {q19 : Int32} {q20 : Int32} {q21 : Int32} {q22 : Int32} : (Q.mk q0 q1 q2 q3 q4 q5 q6 q7 q8 q9 q10 q11 q12 q13 q14 q15 q16 q17 q18 q19 q20 q21 q22).f_kinds = q9 := by have _h := trivial; exact rfl
theorem own_f_values {q0 : List Int32} {q1 : List Int32} {q2 : List Int32} {q3 : List Int32} {q4 : List Int32} {q5 : List Int32} {q6 : List Int64} {q7 : List Int32} {q8 : List Int32} {q9 : List Int32} {q10 : List Int32} {q11 : Int32} {q12 : Int32} {q13 : Int32} {q14 : Int32} {q15 : Int32} {q16 : Int32} {q17 : Int32} {q18 : Int32} {q19 : Int32} {q20 : Int32} {q21 : Int32} {q22 : Int32} : (Q.mk q0 q1 q2 q3 q4 q5 q6 q7 q8 q9 q10 q11 q12 q13 q14 q15 q16 q17 q18 q19 q20 q21 q22).f_values = q10 := by have _h := trivial; exact rfl
theorem own_f_blockSize {q0 : List Int32} {q1 : List Int32} {q2 : List Int32} {q3 : List Int32} {q4 : List Int32} {q5 : List Int32} {q6 : List Int64} {q7 : List Int32} {q8 : List Int32} {q9 : List Int32} {q10 : List Int32} {q11 : Int32} {q12 : Int32} {q13 : Int32} {q14 : Int32} {q15 : Int32} {q16 : Int32} {q17 : Int32} {q18 : Int32} {q19 : Int32} {q20 : Int32} {q21 : Int32} {q22 : Int32} : (Q.mk q0 q1 q2 q3 q4 q5 q6 q7 q8 q9 q10 q11 q12 q13 q14 q15 q16 q17 q18 q19 q20 q21 q22).f_blockSize = q11 := by have _h := trivial; exact rfl
theorem own_f_basisLen {q0 : List Int32} {q1 : List Int32} {q2 : List Int32} {q3 : List Int32} {q4 : List Int32} {q5 : List Int32} {q6 : List Int64} {q7 : List Int32} {q8 : List Int32} {q9 : List Int32} {q10 : List Int32} {q11 : Int32} {q12 : Int32} {q13 : Int32} {q14 : Int32} {q15 : Int32} {q16 : Int32} {q17 : Int32} {q18 : Int32} {q19 : Int32} {q20 : Int32} {q21 : Int32} {q22 : Int32} : (Q.mk q0 q1 q2 q3 q4 q5 q6 q7 q8 q9 q10 q11 q12 q13 q14 q15 q16 q17 q18 q19 q20 q21 q22).f_basisLen = q12 := by have _h := trivial; exact rfl
theorem own_f_targetLen {q0 : List Int32} {q1 : List Int32} {q2 : List Int32} {q3 : List Int32} {q4 : List Int32} {q5 : List Int32} {q6 : List Int64} {q7 : List Int32} {q8 : List Int32} {q9 : List Int32} {q10 : List Int32} {q11 : Int32} {q12 : Int32} {q13 : Int32} {q14 : Int32} {q15 : Int32} {q16 : Int32} {q17 : Int32} {q18 : Int32} {q19 : Int32} {q20 : Int32} {q21 : Int32} {q22 : Int32} : (Q.mk q0 q1 q2 q3 q4 q5 q6 q7 q8 q9 q10 q11 q12 q13 q14 q15 q16 q17 q18 q19 q20 q21 q22).f_targetLen = q13 := by have _h := trivial; exact rfl
theorem own_f_literalLen {q0 : List Int32} {q1 : List Int32} {q2 : List Int32} {q3 : List Int32} {q4 : List Int32} {q5 : List Int32} {q6 : List Int64} {q7 : List Int32} {q8 : List Int32} {q9 : List Int32} {q10 : List Int32} {q11 : Int32} {q12 : Int32} {q13 : Int32} {q14 : Int32} {q15 : Int32} {q16 : Int32} {q17 : Int32} {q18 : Int32} {q19 : Int32} {q20 : Int32} {q21 : Int32} {q22 : Int32} : (Q.mk q0 q1 q2 q3 q4 q5 q6 q7 q8 q9 q10 q11 q12 q13 q14 q15 q16 q17 q18 q19 q20 q21 q22).f_literalLen = q14 := by have _h := trivial; exact rfl
theorem own_f_outLen {q0 : List Int32} {q1 : List Int32} {q2 : List Int32} {q3 : List Int32} {q4 : List Int32} {q5 : List Int32} {q6 : List Int64} {q7 : List Int32} {q8 : List Int32} {q9 : List Int32} {q10 : List Int32} {q11 : Int32} {q12 : Int32} {q13 : Int32} {q14 : Int32} {q15 : Int32} {q16 : Int32} {q17 : Int32} {q18 : Int32} {q19 : Int32} {q20 : Int32} {q21 : Int32} {q22 : Int32} : (Q.mk q0 q1 q2 q3 q4 q5 q6 q7 q8 q9 q10 q11 q12 q13 q14 q15 q16 q17 q18 q19 q20 q21 q22).f_outLen = q15 := by have _h := trivial; exact rfl
theorem own_f_blocks {q0 : List Int32} {q1 : List Int32} {q2 : List Int32} {q3 : List Int32} {q4 : List Int32} {q5 : List Int32} {q6 : List Int64} {q7 : List Int32} {q8 : List Int32} {q9 : List Int32} {q10 : List Int32} {q11 : Int32} {q12 : Int32} {q13 : Int32} {q14 : Int32} {q15 : Int32} {q16 : Int32} {q17 : Int32} {q18 : Int32} {q19 : Int32} {q20 : Int32} {q21 : Int32} {q22 : Int32} : (Q.mk q0 q1 q2 q3 q4 q5 q6 q7 q8 q9 q10 q11 q12 q13 q14 q15 q16 q17 q18 q19 q20 q21 q22).f_blocks = q16 := by have _h := trivial; exact rfl
theorem own_f_ops {q0 : List Int32} {q1 : List Int32} {q2 : List Int32} {q3 : List Int32} {q4 : List Int32} {q5 : List Int32} {q6 : List Int64} {q7 : List Int32} {q8 : List Int32} {q9 : List Int32} {q10 : List Int32} {q11 : Int32} {q12 : Int32} {q13 : Int32} {q14 : Int32} {q15 : Int32} {q16 : Int32} {q17 : Int32} {q18 : Int32} {q19 : Int32} {q20 : Int32} {q21 : Int32} {q22 : Int32} : (Q.mk q0 q1 q2 q3 q4 q5 q6 q7 q8 q9 q10 q11 q12 q13 q14 q15 q16 q17 q18 q19 q20 q21 q22).f_ops = q17 := by have _h := trivial; exact rfl
theorem own_f_shortBlock {q0 : List Int32} {q1 : List Int32} {q2 : List Int32} {q3 : List Int32} {q4 : List Int32} {q5 : List Int32} {q6 : List Int64} {q7 : List Int32} {q8 : List Int32} {q9 : List Int32} {q10 : List Int32} {q11 : Int32} {q12 : Int32} {q13 : Int32} {q14 : Int32} {q15 : Int32} {q16 : Int32} {q17 : Int32} {q18 : Int32} {q19 : Int32} {q20 : Int32} {q21 : Int32} {q22 : Int32} : (Q.mk q0 q1 q2 q3 q4 q5 q6 q7 q8 q9 q10 q11 q12 q13 q14 q15 q16 q17 q18 q19 q20 q21 q22).f_shortBlock = q18 := by have _h := trivial; exact rfl
theorem own_f_winPos {q0 : List Int32} {q1 : List Int32} {q2 : List Int32} {q3 : List Int32} {q4 : List Int32} {q5 : List Int32} {q6 : List Int64} {q7 : List Int32} {q8 : List Int32} {q9 : List Int32} {q10 : List Int32} {q11 : Int32} {q12 : Int32} {q13 : Int32} {q14 : Int32} {q15 : Int32} {q16 : Int32} {q17 : Int32} {q18 : Int32} {q19 : Int32} {q20 : Int32} {q21 : Int32} {q22 : Int32} : (Q.mk q0 q1 q2 q3 q4 q5 q6 q7 q8 q9 q10 q11 q12 q13 q14 q15 q16 q17 q18 q19 q20 q21 q22).f_winPos = q19 := by have _h := trivial; exact rfl
theorem own_f_winA {q0 : List Int32} {q1 : List Int32} {q2 : List Int32} {q3 : List Int32} {q4 : List Int32} {q5 : List Int32} {q6 : List Int64} {q7 : List Int32} {q8 : List Int32} {q9 : List Int32} {q10 : List Int32} {q11 : Int32} {q12 : Int32} {q13 : Int32} {q14 : Int32} {q15 : Int32} {q16 : Int32} {q17 : Int32} {q18 : Int32} {q19 : Int32} {q20 : Int32} {q21 : Int32} {q22 : Int32} : (Q.mk q0 q1 q2 q3 q4 q5 q6 q7 q8 q9 q10 q11 q12 q13 q14 q15 q16 q17 q18 q19 q20 q21 q22).f_winA = q20 := by have _h := trivial; exact rfl
theorem own_f_winB {q0 : List Int32} {q1 : List Int32} {q2 : List Int32} {q3 : List Int32} {q4 : List Int32} {q5 : List Int32} {q6 : List Int64} {q7 : List Int32} {q8 : List Int32} {q9 : List Int32} {q10 : List Int32} {q11 : Int32} {q12 : Int32} {q13 : Int32} {q14 : Int32} {q15 : Int32} {q16 : Int32} {q17 : Int32} {q18 : Int32} {q19 : Int32} {q20 : Int32} {q21 : Int32} {q22 : Int32} : (Q.mk q0 q1 q2 q3 q4 q5 q6 q7 q8 q9 q10 q11 q12 q13 q14 q15 q16 q17 q18 q19 q20 q21 q22).f_winB = q21 := by have _h := trivial; exact rfl
theorem own_f_phaseNow {q0 : List Int32} {q1 : List Int32} {q2 : List Int32} {q3 : List Int32} {q4 : List Int32} {q5 : List Int32} {q6 : List Int64} {q7 : List Int32} {q8 : List Int32} {q9 : List Int32} {q10 : List Int32} {q11 : Int32} {q12 : Int32} {q13 : Int32} {q14 : Int32} {q15 : Int32} {q16 : Int32} {q17 : Int32} {q18 : Int32} {q19 : Int32} {q20 : Int32} {q21 : Int32} {q22 : Int32} : (Q.mk q0 q1 q2 q3 q4 q5 q6 q7 q8 q9 q10 q11 q12 q13 q14 q15 q16 q17 q18 q19 q20 q21 q22).f_phaseNow = q22 := by have _h := trivial; exact rfl
theorem own_e_basis (s : Q) (x : List Int32) : s.s_basis x = Q.mk x s.f_target s.f_literal s.f_out s.f_blkLen s.f_blkWeak s.f_blkStrong s.f_head s.f_next s.f_kinds s.f_values s.f_blockSize s.f_basisLen s.f_targetLen s.f_literalLen s.f_outLen s.f_blocks s.f_ops s.f_shortBlock s.f_winPos s.f_winA s.f_winB s.f_phaseNow := by have _h := trivial; exact rfl
theorem own_e_target (s : Q) (x : List Int32) : s.s_target x = Q.mk s.f_basis x s.f_literal s.f_out s.f_blkLen s.f_blkWeak s.f_blkStrong s.f_head s.f_next s.f_kinds s.f_values s.f_blockSize s.f_basisLen s.f_targetLen s.f_literalLen s.f_outLen s.f_blocks s.f_ops s.f_shortBlock s.f_winPos s.f_winA s.f_winB s.f_phaseNow := by have _h := trivial; exact rfl
theorem own_e_literal (s : Q) (x : List Int32) : s.s_literal x = Q.mk s.f_basis s.f_target x s.f_out s.f_blkLen s.f_blkWeak s.f_blkStrong s.f_head s.f_next s.f_kinds s.f_values s.f_blockSize s.f_basisLen s.f_targetLen s.f_literalLen s.f_outLen s.f_blocks s.f_ops s.f_shortBlock s.f_winPos s.f_winA s.f_winB s.f_phaseNow := by have _h := trivial; exact rfl
theorem own_e_out (s : Q) (x : List Int32) : s.s_out x = Q.mk s.f_basis s.f_target s.f_literal x s.f_blkLen s.f_blkWeak s.f_blkStrong s.f_head s.f_next s.f_kinds s.f_values s.f_blockSize s.f_basisLen s.f_targetLen s.f_literalLen s.f_outLen s.f_blocks s.f_ops s.f_shortBlock s.f_winPos s.f_winA s.f_winB s.f_phaseNow := by have _h := trivial; exact rfl
theorem own_e_blkLen (s : Q) (x : List Int32) : s.s_blkLen x = Q.mk s.f_basis s.f_target s.f_literal s.f_out x s.f_blkWeak s.f_blkStrong s.f_head s.f_next s.f_kinds s.f_values s.f_blockSize s.f_basisLen s.f_targetLen s.f_literalLen s.f_outLen s.f_blocks s.f_ops s.f_shortBlock s.f_winPos s.f_winA s.f_winB s.f_phaseNow := by have _h := trivial; exact rfl
theorem own_e_blkWeak (s : Q) (x : List Int32) : s.s_blkWeak x = Q.mk s.f_basis s.f_target s.f_literal s.f_out s.f_blkLen x s.f_blkStrong s.f_head s.f_next s.f_kinds s.f_values s.f_blockSize s.f_basisLen s.f_targetLen s.f_literalLen s.f_outLen s.f_blocks s.f_ops s.f_shortBlock s.f_winPos s.f_winA s.f_winB s.f_phaseNow := by have _h := trivial; exact rfl
theorem own_e_blkStrong (s : Q) (x : List Int64) : s.s_blkStrong x = Q.mk s.f_basis s.f_target s.f_literal s.f_out s.f_blkLen s.f_blkWeak x s.f_head s.f_next s.f_kinds s.f_values s.f_blockSize s.f_basisLen s.f_targetLen s.f_literalLen s.f_outLen s.f_blocks s.f_ops s.f_shortBlock s.f_winPos s.f_winA s.f_winB s.f_phaseNow := by have _h := trivial; exact rfl
theorem own_e_head (s : Q) (x : List Int32) : s.s_head x = Q.mk s.f_basis s.f_target s.f_literal s.f_out s.f_blkLen s.f_blkWeak s.f_blkStrong x s.f_next s.f_kinds s.f_values s.f_blockSize s.f_basisLen s.f_targetLen s.f_literalLen s.f_outLen s.f_blocks s.f_ops s.f_shortBlock s.f_winPos s.f_winA s.f_winB s.f_phaseNow := by have _h := trivial; exact rfl
theorem own_e_next (s : Q) (x : List Int32) : s.s_next x = Q.mk s.f_basis s.f_target s.f_literal s.f_out s.f_blkLen s.f_blkWeak s.f_blkStrong s.f_head x s.f_kinds s.f_values s.f_blockSize s.f_basisLen s.f_targetLen s.f_literalLen s.f_outLen s.f_blocks s.f_ops s.f_shortBlock s.f_winPos s.f_winA s.f_winB s.f_phaseNow := by have _h := trivial; exact rfl
theorem own_e_kinds (s : Q) (x : List Int32) : s.s_kinds x = Q.mk s.f_basis s.f_target s.f_literal s.f_out s.f_blkLen s.f_blkWeak s.f_blkStrong s.f_head s.f_next x s.f_values s.f_blockSize s.f_basisLen s.f_targetLen s.f_literalLen s.f_outLen s.f_blocks s.f_ops s.f_shortBlock s.f_winPos s.f_winA s.f_winB s.f_phaseNow := by have _h := trivial; exact rfl
theorem own_e_values (s : Q) (x : List Int32) : s.s_values x = Q.mk s.f_basis s.f_target s.f_literal s.f_out s.f_blkLen s.f_blkWeak s.f_blkStrong s.f_head s.f_next s.f_kinds x s.f_blockSize s.f_basisLen s.f_targetLen s.f_literalLen s.f_outLen s.f_blocks s.f_ops s.f_shortBlock s.f_winPos s.f_winA s.f_winB s.f_phaseNow := by have _h := trivial; exact rfl
theorem own_e_blockSize (s : Q) (x : Int32) : s.s_blockSize x = Q.mk s.f_basis s.f_target s.f_literal s.f_out s.f_blkLen s.f_blkWeak s.f_blkStrong s.f_head s.f_next s.f_kinds s.f_values x s.f_basisLen s.f_targetLen s.f_literalLen s.f_outLen s.f_blocks s.f_ops s.f_shortBlock s.f_winPos s.f_winA s.f_winB s.f_phaseNow := by have _h := trivial; exact rfl
theorem own_e_basisLen (s : Q) (x : Int32) : s.s_basisLen x = Q.mk s.f_basis s.f_target s.f_literal s.f_out s.f_blkLen s.f_blkWeak s.f_blkStrong s.f_head s.f_next s.f_kinds s.f_values s.f_blockSize x s.f_targetLen s.f_literalLen s.f_outLen s.f_blocks s.f_ops s.f_shortBlock s.f_winPos s.f_winA s.f_winB s.f_phaseNow := by have _h := trivial; exact rfl
theorem own_e_targetLen (s : Q) (x : Int32) : s.s_targetLen x = Q.mk s.f_basis s.f_target s.f_literal s.f_out s.f_blkLen s.f_blkWeak s.f_blkStrong s.f_head s.f_next s.f_kinds s.f_values s.f_blockSize s.f_basisLen x s.f_literalLen s.f_outLen s.f_blocks s.f_ops s.f_shortBlock s.f_winPos s.f_winA s.f_winB s.f_phaseNow := by have _h := trivial; exact rfl
theorem own_e_literalLen (s : Q) (x : Int32) : s.s_literalLen x = Q.mk s.f_basis s.f_target s.f_literal s.f_out s.f_blkLen s.f_blkWeak s.f_blkStrong s.f_head s.f_next s.f_kinds s.f_values s.f_blockSize s.f_basisLen s.f_targetLen x s.f_outLen s.f_blocks s.f_ops s.f_shortBlock s.f_winPos s.f_winA s.f_winB s.f_phaseNow := by have _h := trivial; exact rfl
theorem own_e_outLen (s : Q) (x : Int32) : s.s_outLen x = Q.mk s.f_basis s.f_target s.f_literal s.f_out s.f_blkLen s.f_blkWeak s.f_blkStrong s.f_head s.f_next s.f_kinds s.f_values s.f_blockSize s.f_basisLen s.f_targetLen s.f_literalLen x s.f_blocks s.f_ops s.f_shortBlock s.f_winPos s.f_winA s.f_winB s.f_phaseNow := by have _h := trivial; exact rfl
theorem own_e_blocks (s : Q) (x : Int32) : s.s_blocks x = Q.mk s.f_basis s.f_target s.f_literal s.f_out s.f_blkLen s.f_blkWeak s.f_blkStrong s.f_head s.f_next s.f_kinds s.f_values s.f_blockSize s.f_basisLen s.f_targetLen s.f_literalLen s.f_outLen x s.f_ops s.f_shortBlock s.f_winPos s.f_winA s.f_winB s.f_phaseNow := by have _h := trivial; exact rfl
theorem own_e_ops (s : Q) (x : Int32) : s.s_ops x = Q.mk s.f_basis s.f_target s.f_literal s.f_out s.f_blkLen s.f_blkWeak s.f_blkStrong s.f_head s.f_next s.f_kinds s.f_values s.f_blockSize s.f_basisLen s.f_targetLen s.f_literalLen s.f_outLen s.f_blocks x s.f_shortBlock s.f_winPos s.f_winA s.f_winB s.f_phaseNow := by have _h := trivial; exact rfl
theorem own_e_shortBlock (s : Q) (x : Int32) : s.s_shortBlock x = Q.mk s.f_basis s.f_target s.f_literal s.f_out s.f_blkLen s.f_blkWeak s.f_blkStrong s.f_head s.f_next s.f_kinds s.f_values s.f_blockSize s.f_basisLen s.f_targetLen s.f_literalLen s.f_outLen s.f_blocks s.f_ops x s.f_winPos s.f_winA s.f_winB s.f_phaseNow := by have _h := trivial; exact rfl
theorem own_e_winPos (s : Q) (x : Int32) : s.s_winPos x = Q.mk s.f_basis s.f_target s.f_literal s.f_out s.f_blkLen s.f_blkWeak s.f_blkStrong s.f_head s.f_next s.f_kinds s.f_values s.f_blockSize s.f_basisLen s.f_targetLen s.f_literalLen s.f_outLen s.f_blocks s.f_ops s.f_shortBlock x s.f_winA s.f_winB s.f_phaseNow := by have _h := trivial; exact rfl
theorem own_e_winA (s : Q) (x : Int32) : s.s_winA x = Q.mk s.f_basis s.f_target s.f_literal s.f_out s.f_blkLen s.f_blkWeak s.f_blkStrong s.f_head s.f_next s.f_kinds s.f_values s.f_blockSize s.f_basisLen s.f_targetLen s.f_literalLen s.f_outLen s.f_blocks s.f_ops s.f_shortBlock s.f_winPos x s.f_winB s.f_phaseNow := by have _h := trivial; exact rfl
theorem own_e_winB (s : Q) (x : Int32) : s.s_winB x = Q.mk s.f_basis s.f_target s.f_literal s.f_out s.f_blkLen s.f_blkWeak s.f_blkStrong s.f_head s.f_next s.f_kinds s.f_values s.f_blockSize s.f_basisLen s.f_targetLen s.f_literalLen s.f_outLen s.f_blocks s.f_ops s.f_shortBlock s.f_winPos s.f_winA x s.f_phaseNow := by have _h := trivial; exact rfl
theorem own_e_phaseNow (s : Q) (x : Int32) : s.s_phaseNow x = Q.mk s.f_basis s.f_target s.f_literal s.f_out s.f_blkLen s.f_blkWeak s.f_blkStrong s.f_head s.f_next s.f_kinds s.f_values s.f_blockSize s.f_basisLen s.f_targetLen s.f_literalLen s.f_outLen s.f_blocks s.f_ops s.f_shortBlock s.f_winPos s.f_winA s.f_winB x := by have _h := trivial; exact rfl
theorem own_z_basis : Q0.f_basis = List.replicate 256 0 := by have _h := trivial; exact rfl
theorem own_z_target : Q0.f_target = List.replicate 256 0 := by have _h := trivial; exact rfl
theorem own_z_literal : Q0.f_literal = List.replicate 256 0 := by have _h := trivial; exact rfl
theorem own_z_out : Q0.f_out = List.replicate 256 0 := by have _h := trivial; exact rfl
theorem own_z_blkLen : Q0.f_blkLen = List.replicate 128 0 := by have _h := trivial; exact rfl
theorem own_z_blkWeak : Q0.f_blkWeak = List.replicate 128 0 := by have _h := trivial; exact rfl
theorem own_z_blkStrong : Q0.f_blkStrong = List.replicate 128 0 := by have _h := trivial; exact rfl
theorem own_z_head : Q0.f_head = List.replicate 256 0 := by have _h := trivial; exact rfl
theorem own_z_next : Q0.f_next = List.replicate 128 0 := by have _h := trivial; exact rfl
theorem own_z_kinds : Q0.f_kinds = List.replicate 256 0 := by have _h := trivial; exact rfl
theorem own_z_values : Q0.f_values = List.replicate 256 0 := by have _h := trivial; exact rfl
theorem own_z_blockSize : Q0.f_blockSize = (0 : Int32) := by have _h := trivial; exact rfl
theorem own_z_basisLen : Q0.f_basisLen = (0 : Int32) := by have _h := trivial; exact rfl
theorem own_z_targetLen : Q0.f_targetLen = (0 : Int32) := by have _h := trivial; exact rfl
theorem own_z_literalLen : Q0.f_literalLen = (0 : Int32) := by have _h := trivial; exact rfl
theorem own_z_outLen : Q0.f_outLen = (0 : Int32) := by have _h := trivial; exact rfl
theorem own_z_blocks : Q0.f_blocks = (0 : Int32) := by have _h := trivial; exact rfl
theorem own_z_ops : Q0.f_ops = (0 : Int32) := by have _h := trivial; exact rfl
theorem own_z_shortBlock : Q0.f_shortBlock = (0 : Int32) := by have _h := trivial; exact rfl
theorem own_z_winPos : Q0.f_winPos = (0 : Int32) := by have _h := trivial; exact rfl
theorem own_z_winA : Q0.f_winA = (0 : Int32) := by have _h := trivial; exact rfl
theorem own_z_winB : Q0.f_winB = (0 : Int32) := by have _h := trivial; exact rfl
theorem own_z_phaseNow : Q0.f_phaseNow = (0 : Int32) := by have _h := trivial; exact rfl
abbrev W0 (R : AHeap) : AHeap := R
def own_cells1 (q0 : List Int32) (q1 : List Int32) (q2 : List Int32) (q3 : List Int32) (q4 : List Int32) (q5 : List Int32) (q6 : List Int64) (q7 : List Int32) (q8 : List Int32) (q9 : List Int32) (q10 : List Int32) (q11 : Int32) (q12 : Int32) (q13 : Int32) (q14 : Int32) (q15 : Int32) (q16 : Int32) (q17 : Int32) (q18 : Int32) (q19 : Int32) (q20 : Int32) (q21 : Int32) (q22 : Int32) (R : AHeap) : AHeap := .inl [.ref 1, .ref 2, .ref 3, .ref 4, .ref 5, .ref 6, .ref 7, .ref 8, .ref 9, .ref 10, .ref 11, .int q11, .int q12, .int q13, .int q14, .int q15, .int q16, .int q17, .int q18, .int q19, .int q20, .int q21, .int q22] ::
  .inr (.inl (1, q0)) ::
  .inr (.inl (1, q1)) ::
  .inr (.inl (1, q2)) ::
  .inr (.inl (1, q3)) ::
  .inr (.inl (1, q4)) ::
  .inr (.inl (1, q5)) ::
  .inr (.inr q6) ::
  .inr (.inl (1, q7)) ::
  .inr (.inl (1, q8)) ::
  .inr (.inl (1, q9)) ::
  .inr (.inl (1, q10)) ::
  R
def C1 (q0 : List Int32) (q1 : List Int32) (q2 : List Int32) (q3 : List Int32) (q4 : List Int32) (q5 : List Int32) (q6 : List Int64) (q7 : List Int32) (q8 : List Int32) (q9 : List Int32) (q10 : List Int32) (q11 : Int32) (q12 : Int32) (q13 : Int32) (q14 : Int32) (q15 : Int32) (q16 : Int32) (q17 : Int32) (q18 : Int32) (q19 : Int32) (q20 : Int32) (q21 : Int32) (q22 : Int32) (R : AHeap) : AHeap := own_cells1 q0 q1 q2 q3 q4 q5 q6 q7 q8 q9 q10 q11 q12 q13 q14 q15 q16 q17 q18 q19 q20 q21 q22 R
abbrev W1 (s : Q) (R : AHeap) : AHeap := C1 s.f_basis s.f_target s.f_literal s.f_out s.f_blkLen s.f_blkWeak s.f_blkStrong s.f_head s.f_next s.f_kinds s.f_values s.f_blockSize s.f_basisLen s.f_targetLen s.f_literalLen s.f_outLen s.f_blocks s.f_ops s.f_shortBlock s.f_winPos s.f_winA s.f_winB s.f_phaseNow R
theorem own_g1_basis {q0 : List Int32} {q1 : List Int32} {q2 : List Int32} {q3 : List Int32} {q4 : List Int32} {q5 : List Int32} {q6 : List Int64} {q7 : List Int32} {q8 : List Int32} {q9 : List Int32} {q10 : List Int32} {q11 : Int32} {q12 : Int32} {q13 : Int32} {q14 : Int32} {q15 : Int32} {q16 : Int32} {q17 : Int32} {q18 : Int32} {q19 : Int32} {q20 : Int32} {q21 : Int32} {q22 : Int32} {R : AHeap} : getC (C1 q0 q1 q2 q3 q4 q5 q6 q7 q8 q9 q10 q11 q12 q13 q14 q15 q16 q17 q18 q19 q20 q21 q22 R) 0 0 = some (.ref 1) := rfl
theorem own_a1_basis {q0 : List Int32} {q1 : List Int32} {q2 : List Int32} {q3 : List Int32} {q4 : List Int32} {q5 : List Int32} {q6 : List Int64} {q7 : List Int32} {q8 : List Int32} {q9 : List Int32} {q10 : List Int32} {q11 : Int32} {q12 : Int32} {q13 : Int32} {q14 : Int32} {q15 : Int32} {q16 : Int32} {q17 : Int32} {q18 : Int32} {q19 : Int32} {q20 : Int32} {q21 : Int32} {q22 : Int32} {R : AHeap} : (C1 q0 q1 q2 q3 q4 q5 q6 q7 q8 q9 q10 q11 q12 q13 q14 q15 q16 q17 q18 q19 q20 q21 q22 R)[1]? = some (.inr (.inl (1, q0))) := rfl
theorem own_s1_basis {q0 : List Int32} {q1 : List Int32} {q2 : List Int32} {q3 : List Int32} {q4 : List Int32} {q5 : List Int32} {q6 : List Int64} {q7 : List Int32} {q8 : List Int32} {q9 : List Int32} {q10 : List Int32} {q11 : Int32} {q12 : Int32} {q13 : Int32} {q14 : Int32} {q15 : Int32} {q16 : Int32} {q17 : Int32} {q18 : Int32} {q19 : Int32} {q20 : Int32} {q21 : Int32} {q22 : Int32} {R : AHeap} {x : List Int32} : (C1 q0 q1 q2 q3 q4 q5 q6 q7 q8 q9 q10 q11 q12 q13 q14 q15 q16 q17 q18 q19 q20 q21 q22 R).set 1 (.inr (.inl (1, x))) = (C1 x q1 q2 q3 q4 q5 q6 q7 q8 q9 q10 q11 q12 q13 q14 q15 q16 q17 q18 q19 q20 q21 q22 R) := rfl
theorem own_g1_target {q0 : List Int32} {q1 : List Int32} {q2 : List Int32} {q3 : List Int32} {q4 : List Int32} {q5 : List Int32} {q6 : List Int64} {q7 : List Int32} {q8 : List Int32} {q9 : List Int32} {q10 : List Int32} {q11 : Int32} {q12 : Int32} {q13 : Int32} {q14 : Int32} {q15 : Int32} {q16 : Int32} {q17 : Int32} {q18 : Int32} {q19 : Int32} {q20 : Int32} {q21 : Int32} {q22 : Int32} {R : AHeap} : getC (C1 q0 q1 q2 q3 q4 q5 q6 q7 q8 q9 q10 q11 q12 q13 q14 q15 q16 q17 q18 q19 q20 q21 q22 R) 0 1 = some (.ref 2) := rfl
theorem own_a1_target {q0 : List Int32} {q1 : List Int32} {q2 : List Int32} {q3 : List Int32} {q4 : List Int32} {q5 : List Int32} {q6 : List Int64} {q7 : List Int32} {q8 : List Int32} {q9 : List Int32} {q10 : List Int32} {q11 : Int32} {q12 : Int32} {q13 : Int32} {q14 : Int32} {q15 : Int32} {q16 : Int32} {q17 : Int32} {q18 : Int32} {q19 : Int32} {q20 : Int32} {q21 : Int32} {q22 : Int32} {R : AHeap} : (C1 q0 q1 q2 q3 q4 q5 q6 q7 q8 q9 q10 q11 q12 q13 q14 q15 q16 q17 q18 q19 q20 q21 q22 R)[2]? = some (.inr (.inl (1, q1))) := rfl
theorem own_s1_target {q0 : List Int32} {q1 : List Int32} {q2 : List Int32} {q3 : List Int32} {q4 : List Int32} {q5 : List Int32} {q6 : List Int64} {q7 : List Int32} {q8 : List Int32} {q9 : List Int32} {q10 : List Int32} {q11 : Int32} {q12 : Int32} {q13 : Int32} {q14 : Int32} {q15 : Int32} {q16 : Int32} {q17 : Int32} {q18 : Int32} {q19 : Int32} {q20 : Int32} {q21 : Int32} {q22 : Int32} {R : AHeap} {x : List Int32} : (C1 q0 q1 q2 q3 q4 q5 q6 q7 q8 q9 q10 q11 q12 q13 q14 q15 q16 q17 q18 q19 q20 q21 q22 R).set 2 (.inr (.inl (1, x))) = (C1 q0 x q2 q3 q4 q5 q6 q7 q8 q9 q10 q11 q12 q13 q14 q15 q16 q17 q18 q19 q20 q21 q22 R) := rfl
theorem own_g1_literal {q0 : List Int32} {q1 : List Int32} {q2 : List Int32} {q3 : List Int32} {q4 : List Int32} {q5 : List Int32} {q6 : List Int64} {q7 : List Int32} {q8 : List Int32} {q9 : List Int32} {q10 : List Int32} {q11 : Int32} {q12 : Int32} {q13 : Int32} {q14 : Int32} {q15 : Int32} {q16 : Int32} {q17 : Int32} {q18 : Int32} {q19 : Int32} {q20 : Int32} {q21 : Int32} {q22 : Int32} {R : AHeap} : getC (C1 q0 q1 q2 q3 q4 q5 q6 q7 q8 q9 q10 q11 q12 q13 q14 q15 q16 q17 q18 q19 q20 q21 q22 R) 0 2 = some (.ref 3) := rfl
theorem own_a1_literal {q0 : List Int32} {q1 : List Int32} {q2 : List Int32} {q3 : List Int32} {q4 : List Int32} {q5 : List Int32} {q6 : List Int64} {q7 : List Int32} {q8 : List Int32} {q9 : List Int32} {q10 : List Int32} {q11 : Int32} {q12 : Int32} {q13 : Int32} {q14 : Int32} {q15 : Int32} {q16 : Int32} {q17 : Int32} {q18 : Int32} {q19 : Int32} {q20 : Int32} {q21 : Int32} {q22 : Int32} {R : AHeap} : (C1 q0 q1 q2 q3 q4 q5 q6 q7 q8 q9 q10 q11 q12 q13 q14 q15 q16 q17 q18 q19 q20 q21 q22 R)[3]? = some (.inr (.inl (1, q2))) := rfl
theorem own_s1_literal {q0 : List Int32} {q1 : List Int32} {q2 : List Int32} {q3 : List Int32} {q4 : List Int32} {q5 : List Int32} {q6 : List Int64} {q7 : List Int32} {q8 : List Int32} {q9 : List Int32} {q10 : List Int32} {q11 : Int32} {q12 : Int32} {q13 : Int32} {q14 : Int32} {q15 : Int32} {q16 : Int32} {q17 : Int32} {q18 : Int32} {q19 : Int32} {q20 : Int32} {q21 : Int32} {q22 : Int32} {R : AHeap} {x : List Int32} : (C1 q0 q1 q2 q3 q4 q5 q6 q7 q8 q9 q10 q11 q12 q13 q14 q15 q16 q17 q18 q19 q20 q21 q22 R).set 3 (.inr (.inl (1, x))) = (C1 q0 q1 x q3 q4 q5 q6 q7 q8 q9 q10 q11 q12 q13 q14 q15 q16 q17 q18 q19 q20 q21 q22 R) := rfl
theorem own_g1_out {q0 : List Int32} {q1 : List Int32} {q2 : List Int32} {q3 : List Int32} {q4 : List Int32} {q5 : List Int32} {q6 : List Int64} {q7 : List Int32} {q8 : List Int32} {q9 : List Int32} {q10 : List Int32} {q11 : Int32} {q12 : Int32} {q13 : Int32} {q14 : Int32} {q15 : Int32} {q16 : Int32} {q17 : Int32} {q18 : Int32} {q19 : Int32} {q20 : Int32} {q21 : Int32} {q22 : Int32} {R : AHeap} : getC (C1 q0 q1 q2 q3 q4 q5 q6 q7 q8 q9 q10 q11 q12 q13 q14 q15 q16 q17 q18 q19 q20 q21 q22 R) 0 3 = some (.ref 4) := rfl
theorem own_a1_out {q0 : List Int32} {q1 : List Int32} {q2 : List Int32} {q3 : List Int32} {q4 : List Int32} {q5 : List Int32} {q6 : List Int64} {q7 : List Int32} {q8 : List Int32} {q9 : List Int32} {q10 : List Int32} {q11 : Int32} {q12 : Int32} {q13 : Int32} {q14 : Int32} {q15 : Int32} {q16 : Int32} {q17 : Int32} {q18 : Int32} {q19 : Int32} {q20 : Int32} {q21 : Int32} {q22 : Int32} {R : AHeap} : (C1 q0 q1 q2 q3 q4 q5 q6 q7 q8 q9 q10 q11 q12 q13 q14 q15 q16 q17 q18 q19 q20 q21 q22 R)[4]? = some (.inr (.inl (1, q3))) := rfl
theorem own_s1_out {q0 : List Int32} {q1 : List Int32} {q2 : List Int32} {q3 : List Int32} {q4 : List Int32} {q5 : List Int32} {q6 : List Int64} {q7 : List Int32} {q8 : List Int32} {q9 : List Int32} {q10 : List Int32} {q11 : Int32} {q12 : Int32} {q13 : Int32} {q14 : Int32} {q15 : Int32} {q16 : Int32} {q17 : Int32} {q18 : Int32} {q19 : Int32} {q20 : Int32} {q21 : Int32} {q22 : Int32} {R : AHeap} {x : List Int32} : (C1 q0 q1 q2 q3 q4 q5 q6 q7 q8 q9 q10 q11 q12 q13 q14 q15 q16 q17 q18 q19 q20 q21 q22 R).set 4 (.inr (.inl (1, x))) = (C1 q0 q1 q2 x q4 q5 q6 q7 q8 q9 q10 q11 q12 q13 q14 q15 q16 q17 q18 q19 q20 q21 q22 R) := rfl
theorem own_g1_blkLen {q0 : List Int32} {q1 : List Int32} {q2 : List Int32} {q3 : List Int32} {q4 : List Int32} {q5 : List Int32} {q6 : List Int64} {q7 : List Int32} {q8 : List Int32} {q9 : List Int32} {q10 : List Int32} {q11 : Int32} {q12 : Int32} {q13 : Int32} {q14 : Int32} {q15 : Int32} {q16 : Int32} {q17 : Int32} {q18 : Int32} {q19 : Int32} {q20 : Int32} {q21 : Int32} {q22 : Int32} {R : AHeap} : getC (C1 q0 q1 q2 q3 q4 q5 q6 q7 q8 q9 q10 q11 q12 q13 q14 q15 q16 q17 q18 q19 q20 q21 q22 R) 0 4 = some (.ref 5) := rfl
theorem own_a1_blkLen {q0 : List Int32} {q1 : List Int32} {q2 : List Int32} {q3 : List Int32} {q4 : List Int32} {q5 : List Int32} {q6 : List Int64} {q7 : List Int32} {q8 : List Int32} {q9 : List Int32} {q10 : List Int32} {q11 : Int32} {q12 : Int32} {q13 : Int32} {q14 : Int32} {q15 : Int32} {q16 : Int32} {q17 : Int32} {q18 : Int32} {q19 : Int32} {q20 : Int32} {q21 : Int32} {q22 : Int32} {R : AHeap} : (C1 q0 q1 q2 q3 q4 q5 q6 q7 q8 q9 q10 q11 q12 q13 q14 q15 q16 q17 q18 q19 q20 q21 q22 R)[5]? = some (.inr (.inl (1, q4))) := rfl
theorem own_s1_blkLen {q0 : List Int32} {q1 : List Int32} {q2 : List Int32} {q3 : List Int32} {q4 : List Int32} {q5 : List Int32} {q6 : List Int64} {q7 : List Int32} {q8 : List Int32} {q9 : List Int32} {q10 : List Int32} {q11 : Int32} {q12 : Int32} {q13 : Int32} {q14 : Int32} {q15 : Int32} {q16 : Int32} {q17 : Int32} {q18 : Int32} {q19 : Int32} {q20 : Int32} {q21 : Int32} {q22 : Int32} {R : AHeap} {x : List Int32} : (C1 q0 q1 q2 q3 q4 q5 q6 q7 q8 q9 q10 q11 q12 q13 q14 q15 q16 q17 q18 q19 q20 q21 q22 R).set 5 (.inr (.inl (1, x))) = (C1 q0 q1 q2 q3 x q5 q6 q7 q8 q9 q10 q11 q12 q13 q14 q15 q16 q17 q18 q19 q20 q21 q22 R) := rfl
theorem own_g1_blkWeak {q0 : List Int32} {q1 : List Int32} {q2 : List Int32} {q3 : List Int32} {q4 : List Int32} {q5 : List Int32} {q6 : List Int64} {q7 : List Int32} {q8 : List Int32} {q9 : List Int32} {q10 : List Int32} {q11 : Int32} {q12 : Int32} {q13 : Int32} {q14 : Int32} {q15 : Int32} {q16 : Int32} {q17 : Int32} {q18 : Int32} {q19 : Int32} {q20 : Int32} {q21 : Int32} {q22 : Int32} {R : AHeap} : getC (C1 q0 q1 q2 q3 q4 q5 q6 q7 q8 q9 q10 q11 q12 q13 q14 q15 q16 q17 q18 q19 q20 q21 q22 R) 0 5 = some (.ref 6) := rfl
theorem own_a1_blkWeak {q0 : List Int32} {q1 : List Int32} {q2 : List Int32} {q3 : List Int32} {q4 : List Int32} {q5 : List Int32} {q6 : List Int64} {q7 : List Int32} {q8 : List Int32} {q9 : List Int32} {q10 : List Int32} {q11 : Int32} {q12 : Int32} {q13 : Int32} {q14 : Int32} {q15 : Int32} {q16 : Int32} {q17 : Int32} {q18 : Int32} {q19 : Int32} {q20 : Int32} {q21 : Int32} {q22 : Int32} {R : AHeap} : (C1 q0 q1 q2 q3 q4 q5 q6 q7 q8 q9 q10 q11 q12 q13 q14 q15 q16 q17 q18 q19 q20 q21 q22 R)[6]? = some (.inr (.inl (1, q5))) := rfl
theorem own_s1_blkWeak {q0 : List Int32} {q1 : List Int32} {q2 : List Int32} {q3 : List Int32} {q4 : List Int32} {q5 : List Int32} {q6 : List Int64} {q7 : List Int32} {q8 : List Int32} {q9 : List Int32} {q10 : List Int32} {q11 : Int32} {q12 : Int32} {q13 : Int32} {q14 : Int32} {q15 : Int32} {q16 : Int32} {q17 : Int32} {q18 : Int32} {q19 : Int32} {q20 : Int32} {q21 : Int32} {q22 : Int32} {R : AHeap} {x : List Int32} : (C1 q0 q1 q2 q3 q4 q5 q6 q7 q8 q9 q10 q11 q12 q13 q14 q15 q16 q17 q18 q19 q20 q21 q22 R).set 6 (.inr (.inl (1, x))) = (C1 q0 q1 q2 q3 q4 x q6 q7 q8 q9 q10 q11 q12 q13 q14 q15 q16 q17 q18 q19 q20 q21 q22 R) := rfl
theorem own_g1_blkStrong {q0 : List Int32} {q1 : List Int32} {q2 : List Int32} {q3 : List Int32} {q4 : List Int32} {q5 : List Int32} {q6 : List Int64} {q7 : List Int32} {q8 : List Int32} {q9 : List Int32} {q10 : List Int32} {q11 : Int32} {q12 : Int32} {q13 : Int32} {q14 : Int32} {q15 : Int32} {q16 : Int32} {q17 : Int32} {q18 : Int32} {q19 : Int32} {q20 : Int32} {q21 : Int32} {q22 : Int32} {R : AHeap} : getC (C1 q0 q1 q2 q3 q4 q5 q6 q7 q8 q9 q10 q11 q12 q13 q14 q15 q16 q17 q18 q19 q20 q21 q22 R) 0 6 = some (.ref 7) := rfl
theorem own_a1_blkStrong {q0 : List Int32} {q1 : List Int32} {q2 : List Int32} {q3 : List Int32} {q4 : List Int32} {q5 : List Int32} {q6 : List Int64} {q7 : List Int32} {q8 : List Int32} {q9 : List Int32} {q10 : List Int32} {q11 : Int32} {q12 : Int32} {q13 : Int32} {q14 : Int32} {q15 : Int32} {q16 : Int32} {q17 : Int32} {q18 : Int32} {q19 : Int32} {q20 : Int32} {q21 : Int32} {q22 : Int32} {R : AHeap} : (C1 q0 q1 q2 q3 q4 q5 q6 q7 q8 q9 q10 q11 q12 q13 q14 q15 q16 q17 q18 q19 q20 q21 q22 R)[7]? = some (.inr (.inr q6)) := rfl
theorem own_s1_blkStrong {q0 : List Int32} {q1 : List Int32} {q2 : List Int32} {q3 : List Int32} {q4 : List Int32} {q5 : List Int32} {q6 : List Int64} {q7 : List Int32} {q8 : List Int32} {q9 : List Int32} {q10 : List Int32} {q11 : Int32} {q12 : Int32} {q13 : Int32} {q14 : Int32} {q15 : Int32} {q16 : Int32} {q17 : Int32} {q18 : Int32} {q19 : Int32} {q20 : Int32} {q21 : Int32} {q22 : Int32} {R : AHeap} {x : List Int64} : (C1 q0 q1 q2 q3 q4 q5 q6 q7 q8 q9 q10 q11 q12 q13 q14 q15 q16 q17 q18 q19 q20 q21 q22 R).set 7 (.inr (.inr x)) = (C1 q0 q1 q2 q3 q4 q5 x q7 q8 q9 q10 q11 q12 q13 q14 q15 q16 q17 q18 q19 q20 q21 q22 R) := rfl
theorem own_g1_head {q0 : List Int32} {q1 : List Int32} {q2 : List Int32} {q3 : List Int32} {q4 : List Int32} {q5 : List Int32} {q6 : List Int64} {q7 : List Int32} {q8 : List Int32} {q9 : List Int32} {q10 : List Int32} {q11 : Int32} {q12 : Int32} {q13 : Int32} {q14 : Int32} {q15 : Int32} {q16 : Int32} {q17 : Int32} {q18 : Int32} {q19 : Int32} {q20 : Int32} {q21 : Int32} {q22 : Int32} {R : AHeap} : getC (C1 q0 q1 q2 q3 q4 q5 q6 q7 q8 q9 q10 q11 q12 q13 q14 q15 q16 q17 q18 q19 q20 q21 q22 R) 0 7 = some (.ref 8) := rfl
theorem own_a1_head {q0 : List Int32} {q1 : List Int32} {q2 : List Int32} {q3 : List Int32} {q4 : List Int32} {q5 : List Int32} {q6 : List Int64} {q7 : List Int32} {q8 : List Int32} {q9 : List Int32} {q10 : List Int32} {q11 : Int32} {q12 : Int32} {q13 : Int32} {q14 : Int32} {q15 : Int32} {q16 : Int32} {q17 : Int32} {q18 : Int32} {q19 : Int32} {q20 : Int32} {q21 : Int32} {q22 : Int32} {R : AHeap} : (C1 q0 q1 q2 q3 q4 q5 q6 q7 q8 q9 q10 q11 q12 q13 q14 q15 q16 q17 q18 q19 q20 q21 q22 R)[8]? = some (.inr (.inl (1, q7))) := rfl
theorem own_s1_head {q0 : List Int32} {q1 : List Int32} {q2 : List Int32} {q3 : List Int32} {q4 : List Int32} {q5 : List Int32} {q6 : List Int64} {q7 : List Int32} {q8 : List Int32} {q9 : List Int32} {q10 : List Int32} {q11 : Int32} {q12 : Int32} {q13 : Int32} {q14 : Int32} {q15 : Int32} {q16 : Int32} {q17 : Int32} {q18 : Int32} {q19 : Int32} {q20 : Int32} {q21 : Int32} {q22 : Int32} {R : AHeap} {x : List Int32} : (C1 q0 q1 q2 q3 q4 q5 q6 q7 q8 q9 q10 q11 q12 q13 q14 q15 q16 q17 q18 q19 q20 q21 q22 R).set 8 (.inr (.inl (1, x))) = (C1 q0 q1 q2 q3 q4 q5 q6 x q8 q9 q10 q11 q12 q13 q14 q15 q16 q17 q18 q19 q20 q21 q22 R) := rfl
theorem own_g1_next {q0 : List Int32} {q1 : List Int32} {q2 : List Int32} {q3 : List Int32} {q4 : List Int32} {q5 : List Int32} {q6 : List Int64} {q7 : List Int32} {q8 : List Int32} {q9 : List Int32} {q10 : List Int32} {q11 : Int32} {q12 : Int32} {q13 : Int32} {q14 : Int32} {q15 : Int32} {q16 : Int32} {q17 : Int32} {q18 : Int32} {q19 : Int32} {q20 : Int32} {q21 : Int32} {q22 : Int32} {R : AHeap} : getC (C1 q0 q1 q2 q3 q4 q5 q6 q7 q8 q9 q10 q11 q12 q13 q14 q15 q16 q17 q18 q19 q20 q21 q22 R) 0 8 = some (.ref 9) := rfl
theorem own_a1_next {q0 : List Int32} {q1 : List Int32} {q2 : List Int32} {q3 : List Int32} {q4 : List Int32} {q5 : List Int32} {q6 : List Int64} {q7 : List Int32} {q8 : List Int32} {q9 : List Int32} {q10 : List Int32} {q11 : Int32} {q12 : Int32} {q13 : Int32} {q14 : Int32} {q15 : Int32} {q16 : Int32} {q17 : Int32} {q18 : Int32} {q19 : Int32} {q20 : Int32} {q21 : Int32} {q22 : Int32} {R : AHeap} : (C1 q0 q1 q2 q3 q4 q5 q6 q7 q8 q9 q10 q11 q12 q13 q14 q15 q16 q17 q18 q19 q20 q21 q22 R)[9]? = some (.inr (.inl (1, q8))) := rfl
theorem own_s1_next {q0 : List Int32} {q1 : List Int32} {q2 : List Int32} {q3 : List Int32} {q4 : List Int32} {q5 : List Int32} {q6 : List Int64} {q7 : List Int32} {q8 : List Int32} {q9 : List Int32} {q10 : List Int32} {q11 : Int32} {q12 : Int32} {q13 : Int32} {q14 : Int32} {q15 : Int32} {q16 : Int32} {q17 : Int32} {q18 : Int32} {q19 : Int32} {q20 : Int32} {q21 : Int32} {q22 : Int32} {R : AHeap} {x : List Int32} : (C1 q0 q1 q2 q3 q4 q5 q6 q7 q8 q9 q10 q11 q12 q13 q14 q15 q16 q17 q18 q19 q20 q21 q22 R).set 9 (.inr (.inl (1, x))) = (C1 q0 q1 q2 q3 q4 q5 q6 q7 x q9 q10 q11 q12 q13 q14 q15 q16 q17 q18 q19 q20 q21 q22 R) := rfl
theorem own_g1_kinds {q0 : List Int32} {q1 : List Int32} {q2 : List Int32} {q3 : List Int32} {q4 : List Int32} {q5 : List Int32} {q6 : List Int64} {q7 : List Int32} {q8 : List Int32} {q9 : List Int32} {q10 : List Int32} {q11 : Int32} {q12 : Int32} {q13 : Int32} {q14 : Int32} {q15 : Int32} {q16 : Int32} {q17 : Int32} {q18 : Int32} {q19 : Int32} {q20 : Int32} {q21 : Int32} {q22 : Int32} {R : AHeap} : getC (C1 q0 q1 q2 q3 q4 q5 q6 q7 q8 q9 q10 q11 q12 q13 q14 q15 q16 q17 q18 q19 q20 q21 q22 R) 0 9 = some (.ref 10) := rfl
theorem own_a1_kinds {q0 : List Int32} {q1 : List Int32} {q2 : List Int32} {q3 : List Int32} {q4 : List Int32} {q5 : List Int32} {q6 : List Int64} {q7 : List Int32} {q8 : List Int32} {q9 : List Int32} {q10 : List Int32} {q11 : Int32} {q12 : Int32} {q13 : Int32} {q14 : Int32} {q15 : Int32} {q16 : Int32} {q17 : Int32} {q18 : Int32} {q19 : Int32} {q20 : Int32} {q21 : Int32} {q22 : Int32} {R : AHeap} : (C1 q0 q1 q2 q3 q4 q5 q6 q7 q8 q9 q10 q11 q12 q13 q14 q15 q16 q17 q18 q19 q20 q21 q22 R)[10]? = some (.inr (.inl (1, q9))) := rfl
theorem own_s1_kinds {q0 : List Int32} {q1 : List Int32} {q2 : List Int32} {q3 : List Int32} {q4 : List Int32} {q5 : List Int32} {q6 : List Int64} {q7 : List Int32} {q8 : List Int32} {q9 : List Int32} {q10 : List Int32} {q11 : Int32} {q12 : Int32} {q13 : Int32} {q14 : Int32} {q15 : Int32} {q16 : Int32} {q17 : Int32} {q18 : Int32} {q19 : Int32} {q20 : Int32} {q21 : Int32} {q22 : Int32} {R : AHeap} {x : List Int32} : (C1 q0 q1 q2 q3 q4 q5 q6 q7 q8 q9 q10 q11 q12 q13 q14 q15 q16 q17 q18 q19 q20 q21 q22 R).set 10 (.inr (.inl (1, x))) = (C1 q0 q1 q2 q3 q4 q5 q6 q7 q8 x q10 q11 q12 q13 q14 q15 q16 q17 q18 q19 q20 q21 q22 R) := rfl
theorem own_g1_values {q0 : List Int32} {q1 : List Int32} {q2 : List Int32} {q3 : List Int32} {q4 : List Int32} {q5 : List Int32} {q6 : List Int64} {q7 : List Int32} {q8 : List Int32} {q9 : List Int32} {q10 : List Int32} {q11 : Int32} {q12 : Int32} {q13 : Int32} {q14 : Int32} {q15 : Int32} {q16 : Int32} {q17 : Int32} {q18 : Int32} {q19 : Int32} {q20 : Int32} {q21 : Int32} {q22 : Int32} {R : AHeap} : getC (C1 q0 q1 q2 q3 q4 q5 q6 q7 q8 q9 q10 q11 q12 q13 q14 q15 q16 q17 q18 q19 q20 q21 q22 R) 0 10 = some (.ref 11) := rfl
theorem own_a1_values {q0 : List Int32} {q1 : List Int32} {q2 : List Int32} {q3 : List Int32} {q4 : List Int32} {q5 : List Int32} {q6 : List Int64} {q7 : List Int32} {q8 : List Int32} {q9 : List Int32} {q10 : List Int32} {q11 : Int32} {q12 : Int32} {q13 : Int32} {q14 : Int32} {q15 : Int32} {q16 : Int32} {q17 : Int32} {q18 : Int32} {q19 : Int32} {q20 : Int32} {q21 : Int32} {q22 : Int32} {R : AHeap} : (C1 q0 q1 q2 q3 q4 q5 q6 q7 q8 q9 q10 q11 q12 q13 q14 q15 q16 q17 q18 q19 q20 q21 q22 R)[11]? = some (.inr (.inl (1, q10))) := rfl
theorem own_s1_values {q0 : List Int32} {q1 : List Int32} {q2 : List Int32} {q3 : List Int32} {q4 : List Int32} {q5 : List Int32} {q6 : List Int64} {q7 : List Int32} {q8 : List Int32} {q9 : List Int32} {q10 : List Int32} {q11 : Int32} {q12 : Int32} {q13 : Int32} {q14 : Int32} {q15 : Int32} {q16 : Int32} {q17 : Int32} {q18 : Int32} {q19 : Int32} {q20 : Int32} {q21 : Int32} {q22 : Int32} {R : AHeap} {x : List Int32} : (C1 q0 q1 q2 q3 q4 q5 q6 q7 q8 q9 q10 q11 q12 q13 q14 q15 q16 q17 q18 q19 q20 q21 q22 R).set 11 (.inr (.inl (1, x))) = (C1 q0 q1 q2 q3 q4 q5 q6 q7 q8 q9 x q11 q12 q13 q14 q15 q16 q17 q18 q19 q20 q21 q22 R) := rfl
theorem own_g1_blockSize {q0 : List Int32} {q1 : List Int32} {q2 : List Int32} {q3 : List Int32} {q4 : List Int32} {q5 : List Int32} {q6 : List Int64} {q7 : List Int32} {q8 : List Int32} {q9 : List Int32} {q10 : List Int32} {q11 : Int32} {q12 : Int32} {q13 : Int32} {q14 : Int32} {q15 : Int32} {q16 : Int32} {q17 : Int32} {q18 : Int32} {q19 : Int32} {q20 : Int32} {q21 : Int32} {q22 : Int32} {R : AHeap} : getC (C1 q0 q1 q2 q3 q4 q5 q6 q7 q8 q9 q10 q11 q12 q13 q14 q15 q16 q17 q18 q19 q20 q21 q22 R) 0 11 = some (.int q11) := rfl
theorem own_p1_blockSize {q0 : List Int32} {q1 : List Int32} {q2 : List Int32} {q3 : List Int32} {q4 : List Int32} {q5 : List Int32} {q6 : List Int64} {q7 : List Int32} {q8 : List Int32} {q9 : List Int32} {q10 : List Int32} {q11 : Int32} {q12 : Int32} {q13 : Int32} {q14 : Int32} {q15 : Int32} {q16 : Int32} {q17 : Int32} {q18 : Int32} {q19 : Int32} {q20 : Int32} {q21 : Int32} {q22 : Int32} {R : AHeap} {k : Nat} {x : Int32} : putC own_P k (C1 q0 q1 q2 q3 q4 q5 q6 q7 q8 q9 q10 q11 q12 q13 q14 q15 q16 q17 q18 q19 q20 q21 q22 R) 0 11 (.int x) = some (C1 q0 q1 q2 q3 q4 q5 q6 q7 q8 q9 q10 x q12 q13 q14 q15 q16 q17 q18 q19 q20 q21 q22 R) := rfl
theorem own_g1_basisLen {q0 : List Int32} {q1 : List Int32} {q2 : List Int32} {q3 : List Int32} {q4 : List Int32} {q5 : List Int32} {q6 : List Int64} {q7 : List Int32} {q8 : List Int32} {q9 : List Int32} {q10 : List Int32} {q11 : Int32} {q12 : Int32} {q13 : Int32} {q14 : Int32} {q15 : Int32} {q16 : Int32} {q17 : Int32} {q18 : Int32} {q19 : Int32} {q20 : Int32} {q21 : Int32} {q22 : Int32} {R : AHeap} : getC (C1 q0 q1 q2 q3 q4 q5 q6 q7 q8 q9 q10 q11 q12 q13 q14 q15 q16 q17 q18 q19 q20 q21 q22 R) 0 12 = some (.int q12) := rfl
theorem own_p1_basisLen {q0 : List Int32} {q1 : List Int32} {q2 : List Int32} {q3 : List Int32} {q4 : List Int32} {q5 : List Int32} {q6 : List Int64} {q7 : List Int32} {q8 : List Int32} {q9 : List Int32} {q10 : List Int32} {q11 : Int32} {q12 : Int32} {q13 : Int32} {q14 : Int32} {q15 : Int32} {q16 : Int32} {q17 : Int32} {q18 : Int32} {q19 : Int32} {q20 : Int32} {q21 : Int32} {q22 : Int32} {R : AHeap} {k : Nat} {x : Int32} : putC own_P k (C1 q0 q1 q2 q3 q4 q5 q6 q7 q8 q9 q10 q11 q12 q13 q14 q15 q16 q17 q18 q19 q20 q21 q22 R) 0 12 (.int x) = some (C1 q0 q1 q2 q3 q4 q5 q6 q7 q8 q9 q10 q11 x q13 q14 q15 q16 q17 q18 q19 q20 q21 q22 R) := rfl
theorem own_g1_targetLen {q0 : List Int32} {q1 : List Int32} {q2 : List Int32} {q3 : List Int32} {q4 : List Int32} {q5 : List Int32} {q6 : List Int64} {q7 : List Int32} {q8 : List Int32} {q9 : List Int32} {q10 : List Int32} {q11 : Int32} {q12 : Int32} {q13 : Int32} {q14 : Int32} {q15 : Int32} {q16 : Int32} {q17 : Int32} {q18 : Int32} {q19 : Int32} {q20 : Int32} {q21 : Int32} {q22 : Int32} {R : AHeap} : getC (C1 q0 q1 q2 q3 q4 q5 q6 q7 q8 q9 q10 q11 q12 q13 q14 q15 q16 q17 q18 q19 q20 q21 q22 R) 0 13 = some (.int q13) := rfl
theorem own_p1_targetLen {q0 : List Int32} {q1 : List Int32} {q2 : List Int32} {q3 : List Int32} {q4 : List Int32} {q5 : List Int32} {q6 : List Int64} {q7 : List Int32} {q8 : List Int32} {q9 : List Int32} {q10 : List Int32} {q11 : Int32} {q12 : Int32} {q13 : Int32} {q14 : Int32} {q15 : Int32} {q16 : Int32} {q17 : Int32} {q18 : Int32} {q19 : Int32} {q20 : Int32} {q21 : Int32} {q22 : Int32} {R : AHeap} {k : Nat} {x : Int32} : putC own_P k (C1 q0 q1 q2 q3 q4 q5 q6 q7 q8 q9 q10 q11 q12 q13 q14 q15 q16 q17 q18 q19 q20 q21 q22 R) 0 13 (.int x) = some (C1 q0 q1 q2 q3 q4 q5 q6 q7 q8 q9 q10 q11 q12 x q14 q15 q16 q17 q18 q19 q20 q21 q22 R) := rfl
theorem own_g1_literalLen {q0 : List Int32} {q1 : List Int32} {q2 : List Int32} {q3 : List Int32} {q4 : List Int32} {q5 : List Int32} {q6 : List Int64} {q7 : List Int32} {q8 : List Int32} {q9 : List Int32} {q10 : List Int32} {q11 : Int32} {q12 : Int32} {q13 : Int32} {q14 : Int32} {q15 : Int32} {q16 : Int32} {q17 : Int32} {q18 : Int32} {q19 : Int32} {q20 : Int32} {q21 : Int32} {q22 : Int32} {R : AHeap} : getC (C1 q0 q1 q2 q3 q4 q5 q6 q7 q8 q9 q10 q11 q12 q13 q14 q15 q16 q17 q18 q19 q20 q21 q22 R) 0 14 = some (.int q14) := rfl
theorem own_p1_literalLen {q0 : List Int32} {q1 : List Int32} {q2 : List Int32} {q3 : List Int32} {q4 : List Int32} {q5 : List Int32} {q6 : List Int64} {q7 : List Int32} {q8 : List Int32} {q9 : List Int32} {q10 : List Int32} {q11 : Int32} {q12 : Int32} {q13 : Int32} {q14 : Int32} {q15 : Int32} {q16 : Int32} {q17 : Int32} {q18 : Int32} {q19 : Int32} {q20 : Int32} {q21 : Int32} {q22 : Int32} {R : AHeap} {k : Nat} {x : Int32} : putC own_P k (C1 q0 q1 q2 q3 q4 q5 q6 q7 q8 q9 q10 q11 q12 q13 q14 q15 q16 q17 q18 q19 q20 q21 q22 R) 0 14 (.int x) = some (C1 q0 q1 q2 q3 q4 q5 q6 q7 q8 q9 q10 q11 q12 q13 x q15 q16 q17 q18 q19 q20 q21 q22 R) := rfl
theorem own_g1_outLen {q0 : List Int32} {q1 : List Int32} {q2 : List Int32} {q3 : List Int32} {q4 : List Int32} {q5 : List Int32} {q6 : List Int64} {q7 : List Int32} {q8 : List Int32} {q9 : List Int32} {q10 : List Int32} {q11 : Int32} {q12 : Int32} {q13 : Int32} {q14 : Int32} {q15 : Int32} {q16 : Int32} {q17 : Int32} {q18 : Int32} {q19 : Int32} {q20 : Int32} {q21 : Int32} {q22 : Int32} {R : AHeap} : getC (C1 q0 q1 q2 q3 q4 q5 q6 q7 q8 q9 q10 q11 q12 q13 q14 q15 q16 q17 q18 q19 q20 q21 q22 R) 0 15 = some (.int q15) := rfl
theorem own_p1_outLen {q0 : List Int32} {q1 : List Int32} {q2 : List Int32} {q3 : List Int32} {q4 : List Int32} {q5 : List Int32} {q6 : List Int64} {q7 : List Int32} {q8 : List Int32} {q9 : List Int32} {q10 : List Int32} {q11 : Int32} {q12 : Int32} {q13 : Int32} {q14 : Int32} {q15 : Int32} {q16 : Int32} {q17 : Int32} {q18 : Int32} {q19 : Int32} {q20 : Int32} {q21 : Int32} {q22 : Int32} {R : AHeap} {k : Nat} {x : Int32} : putC own_P k (C1 q0 q1 q2 q3 q4 q5 q6 q7 q8 q9 q10 q11 q12 q13 q14 q15 q16 q17 q18 q19 q20 q21 q22 R) 0 15 (.int x) = some (C1 q0 q1 q2 q3 q4 q5 q6 q7 q8 q9 q10 q11 q12 q13 q14 x q16 q17 q18 q19 q20 q21 q22 R) := rfl
theorem own_g1_blocks {q0 : List Int32} {q1 : List Int32} {q2 : List Int32} {q3 : List Int32} {q4 : List Int32} {q5 : List Int32} {q6 : List Int64} {q7 : List Int32} {q8 : List Int32} {q9 : List Int32} {q10 : List Int32} {q11 : Int32} {q12 : Int32} {q13 : Int32} {q14 : Int32} {q15 : Int32} {q16 : Int32} {q17 : Int32} {q18 : Int32} {q19 : Int32} {q20 : Int32} {q21 : Int32} {q22 : Int32} {R : AHeap} : getC (C1 q0 q1 q2 q3 q4 q5 q6 q7 q8 q9 q10 q11 q12 q13 q14 q15 q16 q17 q18 q19 q20 q21 q22 R) 0 16 = some (.int q16) := rfl
theorem own_p1_blocks {q0 : List Int32} {q1 : List Int32} {q2 : List Int32} {q3 : List Int32} {q4 : List Int32} {q5 : List Int32} {q6 : List Int64} {q7 : List Int32} {q8 : List Int32} {q9 : List Int32} {q10 : List Int32} {q11 : Int32} {q12 : Int32} {q13 : Int32} {q14 : Int32} {q15 : Int32} {q16 : Int32} {q17 : Int32} {q18 : Int32} {q19 : Int32} {q20 : Int32} {q21 : Int32} {q22 : Int32} {R : AHeap} {k : Nat} {x : Int32} : putC own_P k (C1 q0 q1 q2 q3 q4 q5 q6 q7 q8 q9 q10 q11 q12 q13 q14 q15 q16 q17 q18 q19 q20 q21 q22 R) 0 16 (.int x) = some (C1 q0 q1 q2 q3 q4 q5 q6 q7 q8 q9 q10 q11 q12 q13 q14 q15 x q17 q18 q19 q20 q21 q22 R) := rfl
theorem own_g1_ops {q0 : List Int32} {q1 : List Int32} {q2 : List Int32} {q3 : List Int32} {q4 : List Int32} {q5 : List Int32} {q6 : List Int64} {q7 : List Int32} {q8 : List Int32} {q9 : List Int32} {q10 : List Int32} {q11 : Int32} {q12 : Int32} {q13 : Int32} {q14 : Int32} {q15 : Int32} {q16 : Int32} {q17 : Int32} {q18 : Int32} {q19 : Int32} {q20 : Int32} {q21 : Int32} {q22 : Int32} {R : AHeap} : getC (C1 q0 q1 q2 q3 q4 q5 q6 q7 q8 q9 q10 q11 q12 q13 q14 q15 q16 q17 q18 q19 q20 q21 q22 R) 0 17 = some (.int q17) := rfl
theorem own_p1_ops {q0 : List Int32} {q1 : List Int32} {q2 : List Int32} {q3 : List Int32} {q4 : List Int32} {q5 : List Int32} {q6 : List Int64} {q7 : List Int32} {q8 : List Int32} {q9 : List Int32} {q10 : List Int32} {q11 : Int32} {q12 : Int32} {q13 : Int32} {q14 : Int32} {q15 : Int32} {q16 : Int32} {q17 : Int32} {q18 : Int32} {q19 : Int32} {q20 : Int32} {q21 : Int32} {q22 : Int32} {R : AHeap} {k : Nat} {x : Int32} : putC own_P k (C1 q0 q1 q2 q3 q4 q5 q6 q7 q8 q9 q10 q11 q12 q13 q14 q15 q16 q17 q18 q19 q20 q21 q22 R) 0 17 (.int x) = some (C1 q0 q1 q2 q3 q4 q5 q6 q7 q8 q9 q10 q11 q12 q13 q14 q15 q16 x q18 q19 q20 q21 q22 R) := rfl
theorem own_g1_shortBlock {q0 : List Int32} {q1 : List Int32} {q2 : List Int32} {q3 : List Int32} {q4 : List Int32} {q5 : List Int32} {q6 : List Int64} {q7 : List Int32} {q8 : List Int32} {q9 : List Int32} {q10 : List Int32} {q11 : Int32} {q12 : Int32} {q13 : Int32} {q14 : Int32} {q15 : Int32} {q16 : Int32} {q17 : Int32} {q18 : Int32} {q19 : Int32} {q20 : Int32} {q21 : Int32} {q22 : Int32} {R : AHeap} : getC (C1 q0 q1 q2 q3 q4 q5 q6 q7 q8 q9 q10 q11 q12 q13 q14 q15 q16 q17 q18 q19 q20 q21 q22 R) 0 18 = some (.int q18) := rfl
theorem own_p1_shortBlock {q0 : List Int32} {q1 : List Int32} {q2 : List Int32} {q3 : List Int32} {q4 : List Int32} {q5 : List Int32} {q6 : List Int64} {q7 : List Int32} {q8 : List Int32} {q9 : List Int32} {q10 : List Int32} {q11 : Int32} {q12 : Int32} {q13 : Int32} {q14 : Int32} {q15 : Int32} {q16 : Int32} {q17 : Int32} {q18 : Int32} {q19 : Int32} {q20 : Int32} {q21 : Int32} {q22 : Int32} {R : AHeap} {k : Nat} {x : Int32} : putC own_P k (C1 q0 q1 q2 q3 q4 q5 q6 q7 q8 q9 q10 q11 q12 q13 q14 q15 q16 q17 q18 q19 q20 q21 q22 R) 0 18 (.int x) = some (C1 q0 q1 q2 q3 q4 q5 q6 q7 q8 q9 q10 q11 q12 q13 q14 q15 q16 q17 x q19 q20 q21 q22 R) := rfl
theorem own_g1_winPos {q0 : List Int32} {q1 : List Int32} {q2 : List Int32} {q3 : List Int32} {q4 : List Int32} {q5 : List Int32} {q6 : List Int64} {q7 : List Int32} {q8 : List Int32} {q9 : List Int32} {q10 : List Int32} {q11 : Int32} {q12 : Int32} {q13 : Int32} {q14 : Int32} {q15 : Int32} {q16 : Int32} {q17 : Int32} {q18 : Int32} {q19 : Int32} {q20 : Int32} {q21 : Int32} {q22 : Int32} {R : AHeap} : getC (C1 q0 q1 q2 q3 q4 q5 q6 q7 q8 q9 q10 q11 q12 q13 q14 q15 q16 q17 q18 q19 q20 q21 q22 R) 0 19 = some (.int q19) := rfl
theorem own_p1_winPos {q0 : List Int32} {q1 : List Int32} {q2 : List Int32} {q3 : List Int32} {q4 : List Int32} {q5 : List Int32} {q6 : List Int64} {q7 : List Int32} {q8 : List Int32} {q9 : List Int32} {q10 : List Int32} {q11 : Int32} {q12 : Int32} {q13 : Int32} {q14 : Int32} {q15 : Int32} {q16 : Int32} {q17 : Int32} {q18 : Int32} {q19 : Int32} {q20 : Int32} {q21 : Int32} {q22 : Int32} {R : AHeap} {k : Nat} {x : Int32} : putC own_P k (C1 q0 q1 q2 q3 q4 q5 q6 q7 q8 q9 q10 q11 q12 q13 q14 q15 q16 q17 q18 q19 q20 q21 q22 R) 0 19 (.int x) = some (C1 q0 q1 q2 q3 q4 q5 q6 q7 q8 q9 q10 q11 q12 q13 q14 q15 q16 q17 q18 x q20 q21 q22 R) := rfl
theorem own_g1_winA {q0 : List Int32} {q1 : List Int32} {q2 : List Int32} {q3 : List Int32} {q4 : List Int32} {q5 : List Int32} {q6 : List Int64} {q7 : List Int32} {q8 : List Int32} {q9 : List Int32} {q10 : List Int32} {q11 : Int32} {q12 : Int32} {q13 : Int32} {q14 : Int32} {q15 : Int32} {q16 : Int32} {q17 : Int32} {q18 : Int32} {q19 : Int32} {q20 : Int32} {q21 : Int32} {q22 : Int32} {R : AHeap} : getC (C1 q0 q1 q2 q3 q4 q5 q6 q7 q8 q9 q10 q11 q12 q13 q14 q15 q16 q17 q18 q19 q20 q21 q22 R) 0 20 = some (.int q20) := rfl
theorem own_p1_winA {q0 : List Int32} {q1 : List Int32} {q2 : List Int32} {q3 : List Int32} {q4 : List Int32} {q5 : List Int32} {q6 : List Int64} {q7 : List Int32} {q8 : List Int32} {q9 : List Int32} {q10 : List Int32} {q11 : Int32} {q12 : Int32} {q13 : Int32} {q14 : Int32} {q15 : Int32} {q16 : Int32} {q17 : Int32} {q18 : Int32} {q19 : Int32} {q20 : Int32} {q21 : Int32} {q22 : Int32} {R : AHeap} {k : Nat} {x : Int32} : putC own_P k (C1 q0 q1 q2 q3 q4 q5 q6 q7 q8 q9 q10 q11 q12 q13 q14 q15 q16 q17 q18 q19 q20 q21 q22 R) 0 20 (.int x) = some (C1 q0 q1 q2 q3 q4 q5 q6 q7 q8 q9 q10 q11 q12 q13 q14 q15 q16 q17 q18 q19 x q21 q22 R) := rfl
theorem own_g1_winB {q0 : List Int32} {q1 : List Int32} {q2 : List Int32} {q3 : List Int32} {q4 : List Int32} {q5 : List Int32} {q6 : List Int64} {q7 : List Int32} {q8 : List Int32} {q9 : List Int32} {q10 : List Int32} {q11 : Int32} {q12 : Int32} {q13 : Int32} {q14 : Int32} {q15 : Int32} {q16 : Int32} {q17 : Int32} {q18 : Int32} {q19 : Int32} {q20 : Int32} {q21 : Int32} {q22 : Int32} {R : AHeap} : getC (C1 q0 q1 q2 q3 q4 q5 q6 q7 q8 q9 q10 q11 q12 q13 q14 q15 q16 q17 q18 q19 q20 q21 q22 R) 0 21 = some (.int q21) := rfl
theorem own_p1_winB {q0 : List Int32} {q1 : List Int32} {q2 : List Int32} {q3 : List Int32} {q4 : List Int32} {q5 : List Int32} {q6 : List Int64} {q7 : List Int32} {q8 : List Int32} {q9 : List Int32} {q10 : List Int32} {q11 : Int32} {q12 : Int32} {q13 : Int32} {q14 : Int32} {q15 : Int32} {q16 : Int32} {q17 : Int32} {q18 : Int32} {q19 : Int32} {q20 : Int32} {q21 : Int32} {q22 : Int32} {R : AHeap} {k : Nat} {x : Int32} : putC own_P k (C1 q0 q1 q2 q3 q4 q5 q6 q7 q8 q9 q10 q11 q12 q13 q14 q15 q16 q17 q18 q19 q20 q21 q22 R) 0 21 (.int x) = some (C1 q0 q1 q2 q3 q4 q5 q6 q7 q8 q9 q10 q11 q12 q13 q14 q15 q16 q17 q18 q19 q20 x q22 R) := rfl
theorem own_g1_phaseNow {q0 : List Int32} {q1 : List Int32} {q2 : List Int32} {q3 : List Int32} {q4 : List Int32} {q5 : List Int32} {q6 : List Int64} {q7 : List Int32} {q8 : List Int32} {q9 : List Int32} {q10 : List Int32} {q11 : Int32} {q12 : Int32} {q13 : Int32} {q14 : Int32} {q15 : Int32} {q16 : Int32} {q17 : Int32} {q18 : Int32} {q19 : Int32} {q20 : Int32} {q21 : Int32} {q22 : Int32} {R : AHeap} : getC (C1 q0 q1 q2 q3 q4 q5 q6 q7 q8 q9 q10 q11 q12 q13 q14 q15 q16 q17 q18 q19 q20 q21 q22 R) 0 22 = some (.int q22) := rfl
theorem own_p1_phaseNow {q0 : List Int32} {q1 : List Int32} {q2 : List Int32} {q3 : List Int32} {q4 : List Int32} {q5 : List Int32} {q6 : List Int64} {q7 : List Int32} {q8 : List Int32} {q9 : List Int32} {q10 : List Int32} {q11 : Int32} {q12 : Int32} {q13 : Int32} {q14 : Int32} {q15 : Int32} {q16 : Int32} {q17 : Int32} {q18 : Int32} {q19 : Int32} {q20 : Int32} {q21 : Int32} {q22 : Int32} {R : AHeap} {k : Nat} {x : Int32} : putC own_P k (C1 q0 q1 q2 q3 q4 q5 q6 q7 q8 q9 q10 q11 q12 q13 q14 q15 q16 q17 q18 q19 q20 q21 q22 R) 0 22 (.int x) = some (C1 q0 q1 q2 q3 q4 q5 q6 q7 q8 q9 q10 q11 q12 q13 q14 q15 q16 q17 q18 q19 q20 q21 x R) := rfl
def Q.len (s : Q) : List Nat := [s.f_basis.length, s.f_target.length, s.f_literal.length, s.f_out.length, s.f_blkLen.length, s.f_blkWeak.length, s.f_blkStrong.length, s.f_head.length, s.f_next.length, s.f_kinds.length, s.f_values.length]
theorem own_lenmk {q0 : List Int32} {q1 : List Int32} {q2 : List Int32} {q3 : List Int32} {q4 : List Int32} {q5 : List Int32} {q6 : List Int64} {q7 : List Int32} {q8 : List Int32} {q9 : List Int32} {q10 : List Int32} {q11 : Int32} {q12 : Int32} {q13 : Int32} {q14 : Int32} {q15 : Int32} {q16 : Int32} {q17 : Int32} {q18 : Int32} {q19 : Int32} {q20 : Int32} {q21 : Int32} {q22 : Int32} : (Q.mk q0 q1 q2 q3 q4 q5 q6 q7 q8 q9 q10 q11 q12 q13 q14 q15 q16 q17 q18 q19 q20 q21 q22).len = [q0.length, q1.length, q2.length, q3.length, q4.length, q5.length, q6.length, q7.length, q8.length, q9.length, q10.length] := by have _h := trivial; exact rfl
theorem own_objN : own_P.objN = 23 := rfl
theorem own_mk1 {q0 : List Int32} {q1 : List Int32} {q2 : List Int32} {q3 : List Int32} {q4 : List Int32} {q5 : List Int32} {q6 : List Int64} {q7 : List Int32} {q8 : List Int32} {q9 : List Int32} {q10 : List Int32} {q11 : Int32} {q12 : Int32} {q13 : Int32} {q14 : Int32} {q15 : Int32} {q16 : Int32} {q17 : Int32} {q18 : Int32} {q19 : Int32} {q20 : Int32} {q21 : Int32} {q22 : Int32} {R : AHeap} : W1 (Q.mk q0 q1 q2 q3 q4 q5 q6 q7 q8 q9 q10 q11 q12 q13 q14 q15 q16 q17 q18 q19 q20 q21 q22) R = C1 q0 q1 q2 q3 q4 q5 q6 q7 q8 q9 q10 q11 q12 q13 q14 q15 q16 q17 q18 q19 q20 q21 q22 R := rfl
def j_reset (s : Q) : Option (Q) := some ((Q.mk s.f_basis s.f_target s.f_literal s.f_out s.f_blkLen s.f_blkWeak s.f_blkStrong s.f_head s.f_next s.f_kinds s.f_values s.f_blockSize (0 : Int32) (0 : Int32) (0 : Int32) (0 : Int32) (0 : Int32) (0 : Int32) (-1 : Int32) (-1 : Int32) (0 : Int32) (0 : Int32) (0 : Int32)))
theorem ln_j_reset {s : Q} {res : Q} (h : j_reset s = some res) : Q.len res = Q.len s := by
  rw [j_reset] at h
  have hr0 := Option.some.inj h
  subst hr0
  show Q.len (Q.mk s.f_basis s.f_target s.f_literal s.f_out s.f_blkLen s.f_blkWeak s.f_blkStrong s.f_head s.f_next s.f_kinds s.f_values s.f_blockSize (0 : Int32) (0 : Int32) (0 : Int32) (0 : Int32) (0 : Int32) (0 : Int32) (-1 : Int32) (-1 : Int32) (0 : Int32) (0 : Int32) (0 : Int32)) = _
  exact (Eq.trans (show Q.len (Q.mk s.f_basis s.f_target s.f_literal s.f_out s.f_blkLen s.f_blkWeak s.f_blkStrong s.f_head s.f_next s.f_kinds s.f_values s.f_blockSize (0 : Int32) (0 : Int32) (0 : Int32) (0 : Int32) (0 : Int32) (0 : Int32) (-1 : Int32) (-1 : Int32) (0 : Int32) (0 : Int32) (0 : Int32)) = Q.len s from own_lenmk.trans (by first | (simp only [len_wr, len_wrL] <;> rfl) | rfl)) rfl)
set_option maxRecDepth 100000 in
theorem ev_j_reset (R : AHeap) (s : Q) {res : Q} {out : Option Value × AHeap} (h : j_reset s = some res) (hk : out = (none, (W1 res R))) : Eval own_P 2 0 [some (.ref 0)] [] (W1 s R) out := by
  rw [j_reset] at h
  refine Eval.aload_n rfl rfl ?_
  refine Eval.iconst (x := (0 : Int32)) rfl rfl ?_
  refine Eval.putfield rfl rfl own_p1_basisLen ?_
  refine Eval.aload_n rfl rfl ?_
  refine Eval.iconst (x := (0 : Int32)) rfl rfl ?_
  refine Eval.putfield rfl rfl own_p1_targetLen ?_
  refine Eval.aload_n rfl rfl ?_
  refine Eval.iconst (x := (0 : Int32)) rfl rfl ?_
  refine Eval.putfield rfl rfl own_p1_literalLen ?_
  refine Eval.aload_n rfl rfl ?_
  refine Eval.iconst (x := (0 : Int32)) rfl rfl ?_
  refine Eval.putfield rfl rfl own_p1_outLen ?_
  refine Eval.aload_n rfl rfl ?_
  refine Eval.iconst (x := (0 : Int32)) rfl rfl ?_
  refine Eval.putfield rfl rfl own_p1_blocks ?_
  refine Eval.aload_n rfl rfl ?_
  refine Eval.iconst (x := (0 : Int32)) rfl rfl ?_
  refine Eval.putfield rfl rfl own_p1_ops ?_
  refine Eval.aload_n rfl rfl ?_
  refine Eval.iconst (x := (-1 : Int32)) rfl rfl ?_
  refine Eval.putfield rfl rfl own_p1_shortBlock ?_
  refine Eval.aload_n rfl rfl ?_
  refine Eval.iconst (x := (-1 : Int32)) rfl rfl ?_
  refine Eval.putfield rfl rfl own_p1_winPos ?_
  refine Eval.aload_n rfl rfl ?_
  refine Eval.iconst (x := (0 : Int32)) rfl rfl ?_
  refine Eval.putfield rfl rfl own_p1_winA ?_
  refine Eval.aload_n rfl rfl ?_
  refine Eval.iconst (x := (0 : Int32)) rfl rfl ?_
  refine Eval.putfield rfl rfl own_p1_winB ?_
  refine Eval.aload_n rfl rfl ?_
  refine Eval.iconst (x := (0 : Int32)) rfl rfl ?_
  refine Eval.putfield rfl rfl own_p1_phaseNow ?_
  cases h
  subst hk
  exact Eval.retH own_mk1 rfl rfl
def j_init_b121 (s : Q) (v2 : Int32) : Option (Q) := ((j_reset (Q.mk s.f_basis s.f_target s.f_literal s.f_out s.f_blkLen s.f_blkWeak s.f_blkStrong s.f_head s.f_next s.f_kinds s.f_values v2 s.f_basisLen s.f_targetLen s.f_literalLen s.f_outLen s.f_blocks s.f_ops s.f_shortBlock s.f_winPos s.f_winA s.f_winB s.f_phaseNow)).bind fun p5 => some (p5))
theorem ln_j_init_b121 {s : Q} {v2 : Int32} {res : Q} (h : j_init_b121 s v2 = some res) : Q.len res = Q.len s := by
  rw [j_init_b121] at h
  obtain ⟨p5, hq6, h⟩ := bind_some h
  have hl7 := (ln_j_reset hq6).trans (Eq.trans (show Q.len (Q.mk s.f_basis s.f_target s.f_literal s.f_out s.f_blkLen s.f_blkWeak s.f_blkStrong s.f_head s.f_next s.f_kinds s.f_values v2 s.f_basisLen s.f_targetLen s.f_literalLen s.f_outLen s.f_blocks s.f_ops s.f_shortBlock s.f_winPos s.f_winA s.f_winB s.f_phaseNow) = Q.len s from own_lenmk.trans (by first | (simp only [len_wr, len_wrL] <;> rfl) | rfl)) rfl)
  have hr0 := Option.some.inj h
  subst hr0
  show Q.len p5 = _
  exact hl7
set_option maxRecDepth 100000 in
theorem ev_j_init_b121 (s : Q) (v2 : Int32) {res : Q} {out : Option Value × AHeap} (h : j_init_b121 s v2 = some res) (hk : out = (none, (W1 res []))) : Eval own_P 1 121 [some (.ref 0), none, some (.int v2)] [] (W1 s []) out := by
  rw [j_init_b121] at h
  refine Eval.aload_n rfl rfl ?_
  refine Eval.iload_n rfl rfl ?_
  refine Eval.putfield rfl rfl own_p1_blockSize ?_
  refine Eval.aload_n rfl rfl ?_
  obtain ⟨p5, hq6, h⟩ := bind_some h
  refine Eval.callN (rest := []) (H1 := (W1 p5 [])) rfl rfl (Eval.heap own_mk1 (ev_j_reset [] (Q.mk s.f_basis s.f_target s.f_literal s.f_out s.f_blkLen s.f_blkWeak s.f_blkStrong s.f_head s.f_next s.f_kinds s.f_values v2 s.f_basisLen s.f_targetLen s.f_literalLen s.f_outLen s.f_blocks s.f_ops s.f_shortBlock s.f_winPos s.f_winA s.f_winB s.f_phaseNow) hq6 rfl)) ?_
  cases h
  subst hk
  exact Eval.ret rfl rfl
def j_init_b112 (s : Q) (v2 : Int32) : Option (Q) := (j_init_b121 s (if (32 : Int32) < v2 then (32 : Int32) else v2))
theorem ln_j_init_b112 {s : Q} {v2 : Int32} {res : Q} (h : j_init_b112 s v2 = some res) : Q.len res = Q.len s := by
  rw [j_init_b112] at h
  exact Eq.trans (ln_j_init_b121 h) rfl
set_option maxRecDepth 100000 in
theorem ev_j_init_b112 (s : Q) (v2 : Int32) {res : Q} {out : Option Value × AHeap} (h : j_init_b112 s v2 = some res) (hk : out = (none, (W1 res []))) : Eval own_P 1 112 [some (.ref 0), none, some (.int v2)] [] (W1 s []) out := by
  rw [j_init_b112] at h
  refine Eval.iload_n rfl rfl ?_
  refine Eval.bipush (x := (32 : Int32)) rfl rfl ?_
  suffices hJ4 : Eval own_P 1 121 [some (.ref 0), none, some (.int (if (32 : Int32) < v2 then (32 : Int32) else v2))] [] (W1 s []) out by
    by_cases hc3 : (32 : Int32) < v2
    · refine Eval.icmpF rfl (tlt hc3).2.2.2 ?_
      refine Eval.bipush (x := (32 : Int32)) rfl rfl ?_
      refine Eval.istore_n (L' := [some (.ref 0), none, some (.int (32 : Int32))]) rfl rfl ?_
      exact (Eval.conv hJ4 (by simp only [if_pos hc3]) rfl)
    · refine Eval.icmpT (t := 121) rfl rfl (flt hc3).2.2.2 ?_
      exact (Eval.conv hJ4 (by simp only [if_neg hc3]) rfl)
  exact ev_j_init_b121 s (if (32 : Int32) < v2 then (32 : Int32) else v2) h hk
def j_init_b103 (s : Q) (v1 : Int32) : Option (Q) := (j_init_b112 s (if v1 < (2 : Int32) then (2 : Int32) else v1))
theorem ln_j_init_b103 {s : Q} {v1 : Int32} {res : Q} (h : j_init_b103 s v1 = some res) : Q.len res = Q.len s := by
  rw [j_init_b103] at h
  exact Eq.trans (ln_j_init_b112 h) rfl
set_option maxRecDepth 100000 in
theorem ev_j_init_b103 (s : Q) (v1 : Int32) {res : Q} {out : Option Value × AHeap} (h : j_init_b103 s v1 = some res) (hk : out = (none, (W1 res []))) : Eval own_P 1 103 [some (.ref 0), some (.int v1), none] [] (W1 s []) out := by
  rw [j_init_b103] at h
  refine Eval.iload_n rfl rfl ?_
  refine Eval.istore_n (L' := [some (.ref 0), some (.int v1), some (.int v1)]) rfl rfl ?_
  refine Eval.iload_n rfl rfl ?_
  refine Eval.iconst (x := (2 : Int32)) rfl rfl ?_
  suffices hJ2 : Eval own_P 1 112 [some (.ref 0), none, some (.int (if v1 < (2 : Int32) then (2 : Int32) else v1))] [] (W1 s []) out by
    by_cases hc1 : v1 < (2 : Int32)
    · refine Eval.icmpF rfl (tlt hc1).2.1 ?_
      refine Eval.iconst (x := (2 : Int32)) rfl rfl ?_
      refine Eval.istore_n (L' := [some (.ref 0), some (.int v1), some (.int (2 : Int32))]) rfl rfl ?_
      refine Eval.weak (L' := [some (.ref 0), none, some (.int (2 : Int32))]) ⟨_, _, rfl, Or.inr rfl, _, _, rfl, Or.inl rfl, _, _, rfl, Or.inr rfl, rfl⟩ ?_
      exact (Eval.conv hJ2 (by simp only [if_pos hc1]) rfl)
    · refine Eval.icmpT (t := 112) rfl rfl (flt hc1).2.1 ?_
      refine Eval.weak (L' := [some (.ref 0), none, some (.int v1)]) ⟨_, _, rfl, Or.inr rfl, _, _, rfl, Or.inl rfl, _, _, rfl, Or.inr rfl, rfl⟩ ?_
      exact (Eval.conv hJ2 (by simp only [if_neg hc1]) rfl)
  exact ev_j_init_b112 s (if v1 < (2 : Int32) then (2 : Int32) else v1) h hk
def j_init (v1 : Int32) : Option (Q) := (j_init_b103 Q0 v1)
theorem ln_j_init {v1 : Int32} {res : Q} (h : j_init v1 = some res) : Q.len res = Q.len Q0 := by
  rw [j_init] at h
  exact Eq.trans (ln_j_init_b103 h) rfl
set_option maxRecDepth 100000 in
theorem ev_j_init (v1 : Int32) {res : Q} {out : Option Value × AHeap} (h : j_init v1 = some res) (hk : out = (none, (W1 res []))) : Eval own_P 1 0 [some (.ref 0), some (.int v1), none] [] (W0 [.inl [.null, .null, .null, .null, .null, .null, .null, .null, .null, .null, .null, .int (0 : Int32), .int (0 : Int32), .int (0 : Int32), .int (0 : Int32), .int (0 : Int32), .int (0 : Int32), .int (0 : Int32), .int (0 : Int32), .int (0 : Int32), .int (0 : Int32), .int (0 : Int32), .int (0 : Int32)]]) out := by
  rw [j_init] at h
  refine Eval.aload_n rfl rfl ?_
  refine Eval.objInit rfl rfl ?_
  refine Eval.aload_n rfl rfl ?_
  refine Eval.sipush (x := (256 : Int32)) rfl rfl ?_
  refine Eval.newarray (z := 23) (N := 256) (a := 1) (H1 := (W0 [.inl [.null, .null, .null, .null, .null, .null, .null, .null, .null, .null, .null, .int (0 : Int32), .int (0 : Int32), .int (0 : Int32), .int (0 : Int32), .int (0 : Int32), .int (0 : Int32), .int (0 : Int32), .int (0 : Int32), .int (0 : Int32), .int (0 : Int32), .int (0 : Int32), .int (0 : Int32)], .inr (.inl (1, List.replicate 256 0))])) rfl rfl rfl rfl rfl (by decide) (by decide) (by unfold W0; simp only [hsz, csz, own_objN, List.length_replicate]) (by decide) rfl ?_
  refine Eval.putfield (H1 := (W0 [.inl [.ref 1, .null, .null, .null, .null, .null, .null, .null, .null, .null, .null, .int (0 : Int32), .int (0 : Int32), .int (0 : Int32), .int (0 : Int32), .int (0 : Int32), .int (0 : Int32), .int (0 : Int32), .int (0 : Int32), .int (0 : Int32), .int (0 : Int32), .int (0 : Int32), .int (0 : Int32)], .inr (.inl (1, List.replicate 256 0))])) rfl rfl rfl ?_
  refine Eval.aload_n rfl rfl ?_
  refine Eval.sipush (x := (256 : Int32)) rfl rfl ?_
  refine Eval.newarray (z := 279) (N := 256) (a := 2) (H1 := (W0 [.inl [.ref 1, .null, .null, .null, .null, .null, .null, .null, .null, .null, .null, .int (0 : Int32), .int (0 : Int32), .int (0 : Int32), .int (0 : Int32), .int (0 : Int32), .int (0 : Int32), .int (0 : Int32), .int (0 : Int32), .int (0 : Int32), .int (0 : Int32), .int (0 : Int32), .int (0 : Int32)], .inr (.inl (1, List.replicate 256 0)), .inr (.inl (1, List.replicate 256 0))])) rfl rfl rfl rfl rfl (by decide) (by decide) (by unfold W0; simp only [hsz, csz, own_objN, List.length_replicate]) (by decide) rfl ?_
  refine Eval.putfield (H1 := (W0 [.inl [.ref 1, .ref 2, .null, .null, .null, .null, .null, .null, .null, .null, .null, .int (0 : Int32), .int (0 : Int32), .int (0 : Int32), .int (0 : Int32), .int (0 : Int32), .int (0 : Int32), .int (0 : Int32), .int (0 : Int32), .int (0 : Int32), .int (0 : Int32), .int (0 : Int32), .int (0 : Int32)], .inr (.inl (1, List.replicate 256 0)), .inr (.inl (1, List.replicate 256 0))])) rfl rfl rfl ?_
  refine Eval.aload_n rfl rfl ?_
  refine Eval.sipush (x := (256 : Int32)) rfl rfl ?_
  refine Eval.newarray (z := 535) (N := 256) (a := 3) (H1 := (W0 [.inl [.ref 1, .ref 2, .null, .null, .null, .null, .null, .null, .null, .null, .null, .int (0 : Int32), .int (0 : Int32), .int (0 : Int32), .int (0 : Int32), .int (0 : Int32), .int (0 : Int32), .int (0 : Int32), .int (0 : Int32), .int (0 : Int32), .int (0 : Int32), .int (0 : Int32), .int (0 : Int32)], .inr (.inl (1, List.replicate 256 0)), .inr (.inl (1, List.replicate 256 0)), .inr (.inl (1, List.replicate 256 0))])) rfl rfl rfl rfl rfl (by decide) (by decide) (by unfold W0; simp only [hsz, csz, own_objN, List.length_replicate]) (by decide) rfl ?_
  refine Eval.putfield (H1 := (W0 [.inl [.ref 1, .ref 2, .ref 3, .null, .null, .null, .null, .null, .null, .null, .null, .int (0 : Int32), .int (0 : Int32), .int (0 : Int32), .int (0 : Int32), .int (0 : Int32), .int (0 : Int32), .int (0 : Int32), .int (0 : Int32), .int (0 : Int32), .int (0 : Int32), .int (0 : Int32), .int (0 : Int32)], .inr (.inl (1, List.replicate 256 0)), .inr (.inl (1, List.replicate 256 0)), .inr (.inl (1, List.replicate 256 0))])) rfl rfl rfl ?_
  refine Eval.aload_n rfl rfl ?_
  refine Eval.sipush (x := (256 : Int32)) rfl rfl ?_
  refine Eval.newarray (z := 791) (N := 256) (a := 4) (H1 := (W0 [.inl [.ref 1, .ref 2, .ref 3, .null, .null, .null, .null, .null, .null, .null, .null, .int (0 : Int32), .int (0 : Int32), .int (0 : Int32), .int (0 : Int32), .int (0 : Int32), .int (0 : Int32), .int (0 : Int32), .int (0 : Int32), .int (0 : Int32), .int (0 : Int32), .int (0 : Int32), .int (0 : Int32)], .inr (.inl (1, List.replicate 256 0)), .inr (.inl (1, List.replicate 256 0)), .inr (.inl (1, List.replicate 256 0)), .inr (.inl (1, List.replicate 256 0))])) rfl rfl rfl rfl rfl (by decide) (by decide) (by unfold W0; simp only [hsz, csz, own_objN, List.length_replicate]) (by decide) rfl ?_
  refine Eval.putfield (H1 := (W0 [.inl [.ref 1, .ref 2, .ref 3, .ref 4, .null, .null, .null, .null, .null, .null, .null, .int (0 : Int32), .int (0 : Int32), .int (0 : Int32), .int (0 : Int32), .int (0 : Int32), .int (0 : Int32), .int (0 : Int32), .int (0 : Int32), .int (0 : Int32), .int (0 : Int32), .int (0 : Int32), .int (0 : Int32)], .inr (.inl (1, List.replicate 256 0)), .inr (.inl (1, List.replicate 256 0)), .inr (.inl (1, List.replicate 256 0)), .inr (.inl (1, List.replicate 256 0))])) rfl rfl rfl ?_
  refine Eval.aload_n rfl rfl ?_
  refine Eval.sipush (x := (128 : Int32)) rfl rfl ?_
  refine Eval.newarray (z := 1047) (N := 128) (a := 5) (H1 := (W0 [.inl [.ref 1, .ref 2, .ref 3, .ref 4, .null, .null, .null, .null, .null, .null, .null, .int (0 : Int32), .int (0 : Int32), .int (0 : Int32), .int (0 : Int32), .int (0 : Int32), .int (0 : Int32), .int (0 : Int32), .int (0 : Int32), .int (0 : Int32), .int (0 : Int32), .int (0 : Int32), .int (0 : Int32)], .inr (.inl (1, List.replicate 256 0)), .inr (.inl (1, List.replicate 256 0)), .inr (.inl (1, List.replicate 256 0)), .inr (.inl (1, List.replicate 256 0)), .inr (.inl (1, List.replicate 128 0))])) rfl rfl rfl rfl rfl (by decide) (by decide) (by unfold W0; simp only [hsz, csz, own_objN, List.length_replicate]) (by decide) rfl ?_
  refine Eval.putfield (H1 := (W0 [.inl [.ref 1, .ref 2, .ref 3, .ref 4, .ref 5, .null, .null, .null, .null, .null, .null, .int (0 : Int32), .int (0 : Int32), .int (0 : Int32), .int (0 : Int32), .int (0 : Int32), .int (0 : Int32), .int (0 : Int32), .int (0 : Int32), .int (0 : Int32), .int (0 : Int32), .int (0 : Int32), .int (0 : Int32)], .inr (.inl (1, List.replicate 256 0)), .inr (.inl (1, List.replicate 256 0)), .inr (.inl (1, List.replicate 256 0)), .inr (.inl (1, List.replicate 256 0)), .inr (.inl (1, List.replicate 128 0))])) rfl rfl rfl ?_
  refine Eval.aload_n rfl rfl ?_
  refine Eval.sipush (x := (128 : Int32)) rfl rfl ?_
  refine Eval.newarray (z := 1175) (N := 128) (a := 6) (H1 := (W0 [.inl [.ref 1, .ref 2, .ref 3, .ref 4, .ref 5, .null, .null, .null, .null, .null, .null, .int (0 : Int32), .int (0 : Int32), .int (0 : Int32), .int (0 : Int32), .int (0 : Int32), .int (0 : Int32), .int (0 : Int32), .int (0 : Int32), .int (0 : Int32), .int (0 : Int32), .int (0 : Int32), .int (0 : Int32)], .inr (.inl (1, List.replicate 256 0)), .inr (.inl (1, List.replicate 256 0)), .inr (.inl (1, List.replicate 256 0)), .inr (.inl (1, List.replicate 256 0)), .inr (.inl (1, List.replicate 128 0)), .inr (.inl (1, List.replicate 128 0))])) rfl rfl rfl rfl rfl (by decide) (by decide) (by unfold W0; simp only [hsz, csz, own_objN, List.length_replicate]) (by decide) rfl ?_
  refine Eval.putfield (H1 := (W0 [.inl [.ref 1, .ref 2, .ref 3, .ref 4, .ref 5, .ref 6, .null, .null, .null, .null, .null, .int (0 : Int32), .int (0 : Int32), .int (0 : Int32), .int (0 : Int32), .int (0 : Int32), .int (0 : Int32), .int (0 : Int32), .int (0 : Int32), .int (0 : Int32), .int (0 : Int32), .int (0 : Int32), .int (0 : Int32)], .inr (.inl (1, List.replicate 256 0)), .inr (.inl (1, List.replicate 256 0)), .inr (.inl (1, List.replicate 256 0)), .inr (.inl (1, List.replicate 256 0)), .inr (.inl (1, List.replicate 128 0)), .inr (.inl (1, List.replicate 128 0))])) rfl rfl rfl ?_
  refine Eval.aload_n rfl rfl ?_
  refine Eval.sipush (x := (128 : Int32)) rfl rfl ?_
  refine Eval.newarray (z := 1303) (N := 128) (a := 7) (H1 := (W0 [.inl [.ref 1, .ref 2, .ref 3, .ref 4, .ref 5, .ref 6, .null, .null, .null, .null, .null, .int (0 : Int32), .int (0 : Int32), .int (0 : Int32), .int (0 : Int32), .int (0 : Int32), .int (0 : Int32), .int (0 : Int32), .int (0 : Int32), .int (0 : Int32), .int (0 : Int32), .int (0 : Int32), .int (0 : Int32)], .inr (.inl (1, List.replicate 256 0)), .inr (.inl (1, List.replicate 256 0)), .inr (.inl (1, List.replicate 256 0)), .inr (.inl (1, List.replicate 256 0)), .inr (.inl (1, List.replicate 128 0)), .inr (.inl (1, List.replicate 128 0)), .inr (.inr (List.replicate 128 0))])) rfl rfl rfl rfl rfl (by decide) (by decide) (by unfold W0; simp only [hsz, csz, own_objN, List.length_replicate]) (by decide) rfl ?_
  refine Eval.putfield (H1 := (W0 [.inl [.ref 1, .ref 2, .ref 3, .ref 4, .ref 5, .ref 6, .ref 7, .null, .null, .null, .null, .int (0 : Int32), .int (0 : Int32), .int (0 : Int32), .int (0 : Int32), .int (0 : Int32), .int (0 : Int32), .int (0 : Int32), .int (0 : Int32), .int (0 : Int32), .int (0 : Int32), .int (0 : Int32), .int (0 : Int32)], .inr (.inl (1, List.replicate 256 0)), .inr (.inl (1, List.replicate 256 0)), .inr (.inl (1, List.replicate 256 0)), .inr (.inl (1, List.replicate 256 0)), .inr (.inl (1, List.replicate 128 0)), .inr (.inl (1, List.replicate 128 0)), .inr (.inr (List.replicate 128 0))])) rfl rfl rfl ?_
  refine Eval.aload_n rfl rfl ?_
  refine Eval.sipush (x := (256 : Int32)) rfl rfl ?_
  refine Eval.newarray (z := 1431) (N := 256) (a := 8) (H1 := (W0 [.inl [.ref 1, .ref 2, .ref 3, .ref 4, .ref 5, .ref 6, .ref 7, .null, .null, .null, .null, .int (0 : Int32), .int (0 : Int32), .int (0 : Int32), .int (0 : Int32), .int (0 : Int32), .int (0 : Int32), .int (0 : Int32), .int (0 : Int32), .int (0 : Int32), .int (0 : Int32), .int (0 : Int32), .int (0 : Int32)], .inr (.inl (1, List.replicate 256 0)), .inr (.inl (1, List.replicate 256 0)), .inr (.inl (1, List.replicate 256 0)), .inr (.inl (1, List.replicate 256 0)), .inr (.inl (1, List.replicate 128 0)), .inr (.inl (1, List.replicate 128 0)), .inr (.inr (List.replicate 128 0)), .inr (.inl (1, List.replicate 256 0))])) rfl rfl rfl rfl rfl (by decide) (by decide) (by unfold W0; simp only [hsz, csz, own_objN, List.length_replicate]) (by decide) rfl ?_
  refine Eval.putfield (H1 := (W0 [.inl [.ref 1, .ref 2, .ref 3, .ref 4, .ref 5, .ref 6, .ref 7, .ref 8, .null, .null, .null, .int (0 : Int32), .int (0 : Int32), .int (0 : Int32), .int (0 : Int32), .int (0 : Int32), .int (0 : Int32), .int (0 : Int32), .int (0 : Int32), .int (0 : Int32), .int (0 : Int32), .int (0 : Int32), .int (0 : Int32)], .inr (.inl (1, List.replicate 256 0)), .inr (.inl (1, List.replicate 256 0)), .inr (.inl (1, List.replicate 256 0)), .inr (.inl (1, List.replicate 256 0)), .inr (.inl (1, List.replicate 128 0)), .inr (.inl (1, List.replicate 128 0)), .inr (.inr (List.replicate 128 0)), .inr (.inl (1, List.replicate 256 0))])) rfl rfl rfl ?_
  refine Eval.aload_n rfl rfl ?_
  refine Eval.sipush (x := (128 : Int32)) rfl rfl ?_
  refine Eval.newarray (z := 1687) (N := 128) (a := 9) (H1 := (W0 [.inl [.ref 1, .ref 2, .ref 3, .ref 4, .ref 5, .ref 6, .ref 7, .ref 8, .null, .null, .null, .int (0 : Int32), .int (0 : Int32), .int (0 : Int32), .int (0 : Int32), .int (0 : Int32), .int (0 : Int32), .int (0 : Int32), .int (0 : Int32), .int (0 : Int32), .int (0 : Int32), .int (0 : Int32), .int (0 : Int32)], .inr (.inl (1, List.replicate 256 0)), .inr (.inl (1, List.replicate 256 0)), .inr (.inl (1, List.replicate 256 0)), .inr (.inl (1, List.replicate 256 0)), .inr (.inl (1, List.replicate 128 0)), .inr (.inl (1, List.replicate 128 0)), .inr (.inr (List.replicate 128 0)), .inr (.inl (1, List.replicate 256 0)), .inr (.inl (1, List.replicate 128 0))])) rfl rfl rfl rfl rfl (by decide) (by decide) (by unfold W0; simp only [hsz, csz, own_objN, List.length_replicate]) (by decide) rfl ?_
  refine Eval.putfield (H1 := (W0 [.inl [.ref 1, .ref 2, .ref 3, .ref 4, .ref 5, .ref 6, .ref 7, .ref 8, .ref 9, .null, .null, .int (0 : Int32), .int (0 : Int32), .int (0 : Int32), .int (0 : Int32), .int (0 : Int32), .int (0 : Int32), .int (0 : Int32), .int (0 : Int32), .int (0 : Int32), .int (0 : Int32), .int (0 : Int32), .int (0 : Int32)], .inr (.inl (1, List.replicate 256 0)), .inr (.inl (1, List.replicate 256 0)), .inr (.inl (1, List.replicate 256 0)), .inr (.inl (1, List.replicate 256 0)), .inr (.inl (1, List.replicate 128 0)), .inr (.inl (1, List.replicate 128 0)), .inr (.inr (List.replicate 128 0)), .inr (.inl (1, List.replicate 256 0)), .inr (.inl (1, List.replicate 128 0))])) rfl rfl rfl ?_
  refine Eval.aload_n rfl rfl ?_
  refine Eval.sipush (x := (256 : Int32)) rfl rfl ?_
  refine Eval.newarray (z := 1815) (N := 256) (a := 10) (H1 := (W0 [.inl [.ref 1, .ref 2, .ref 3, .ref 4, .ref 5, .ref 6, .ref 7, .ref 8, .ref 9, .null, .null, .int (0 : Int32), .int (0 : Int32), .int (0 : Int32), .int (0 : Int32), .int (0 : Int32), .int (0 : Int32), .int (0 : Int32), .int (0 : Int32), .int (0 : Int32), .int (0 : Int32), .int (0 : Int32), .int (0 : Int32)], .inr (.inl (1, List.replicate 256 0)), .inr (.inl (1, List.replicate 256 0)), .inr (.inl (1, List.replicate 256 0)), .inr (.inl (1, List.replicate 256 0)), .inr (.inl (1, List.replicate 128 0)), .inr (.inl (1, List.replicate 128 0)), .inr (.inr (List.replicate 128 0)), .inr (.inl (1, List.replicate 256 0)), .inr (.inl (1, List.replicate 128 0)), .inr (.inl (1, List.replicate 256 0))])) rfl rfl rfl rfl rfl (by decide) (by decide) (by unfold W0; simp only [hsz, csz, own_objN, List.length_replicate]) (by decide) rfl ?_
  refine Eval.putfield (H1 := (W0 [.inl [.ref 1, .ref 2, .ref 3, .ref 4, .ref 5, .ref 6, .ref 7, .ref 8, .ref 9, .ref 10, .null, .int (0 : Int32), .int (0 : Int32), .int (0 : Int32), .int (0 : Int32), .int (0 : Int32), .int (0 : Int32), .int (0 : Int32), .int (0 : Int32), .int (0 : Int32), .int (0 : Int32), .int (0 : Int32), .int (0 : Int32)], .inr (.inl (1, List.replicate 256 0)), .inr (.inl (1, List.replicate 256 0)), .inr (.inl (1, List.replicate 256 0)), .inr (.inl (1, List.replicate 256 0)), .inr (.inl (1, List.replicate 128 0)), .inr (.inl (1, List.replicate 128 0)), .inr (.inr (List.replicate 128 0)), .inr (.inl (1, List.replicate 256 0)), .inr (.inl (1, List.replicate 128 0)), .inr (.inl (1, List.replicate 256 0))])) rfl rfl rfl ?_
  refine Eval.aload_n rfl rfl ?_
  refine Eval.sipush (x := (256 : Int32)) rfl rfl ?_
  refine Eval.newarray (z := 2071) (N := 256) (a := 11) (H1 := (W0 [.inl [.ref 1, .ref 2, .ref 3, .ref 4, .ref 5, .ref 6, .ref 7, .ref 8, .ref 9, .ref 10, .null, .int (0 : Int32), .int (0 : Int32), .int (0 : Int32), .int (0 : Int32), .int (0 : Int32), .int (0 : Int32), .int (0 : Int32), .int (0 : Int32), .int (0 : Int32), .int (0 : Int32), .int (0 : Int32), .int (0 : Int32)], .inr (.inl (1, List.replicate 256 0)), .inr (.inl (1, List.replicate 256 0)), .inr (.inl (1, List.replicate 256 0)), .inr (.inl (1, List.replicate 256 0)), .inr (.inl (1, List.replicate 128 0)), .inr (.inl (1, List.replicate 128 0)), .inr (.inr (List.replicate 128 0)), .inr (.inl (1, List.replicate 256 0)), .inr (.inl (1, List.replicate 128 0)), .inr (.inl (1, List.replicate 256 0)), .inr (.inl (1, List.replicate 256 0))])) rfl rfl rfl rfl rfl (by decide) (by decide) (by unfold W0; simp only [hsz, csz, own_objN, List.length_replicate]) (by decide) rfl ?_
  refine Eval.putfield (H1 := (W0 [.inl [.ref 1, .ref 2, .ref 3, .ref 4, .ref 5, .ref 6, .ref 7, .ref 8, .ref 9, .ref 10, .ref 11, .int (0 : Int32), .int (0 : Int32), .int (0 : Int32), .int (0 : Int32), .int (0 : Int32), .int (0 : Int32), .int (0 : Int32), .int (0 : Int32), .int (0 : Int32), .int (0 : Int32), .int (0 : Int32), .int (0 : Int32)], .inr (.inl (1, List.replicate 256 0)), .inr (.inl (1, List.replicate 256 0)), .inr (.inl (1, List.replicate 256 0)), .inr (.inl (1, List.replicate 256 0)), .inr (.inl (1, List.replicate 128 0)), .inr (.inl (1, List.replicate 128 0)), .inr (.inr (List.replicate 128 0)), .inr (.inl (1, List.replicate 256 0)), .inr (.inl (1, List.replicate 128 0)), .inr (.inl (1, List.replicate 256 0)), .inr (.inl (1, List.replicate 256 0))])) rfl rfl rfl ?_
  show Eval own_P 1 103 [some (.ref 0), some (.int v1), none] [] (W1 Q0 []) out
  exact ev_j_init_b103 Q0 v1 h hk
abbrev j_appendBasis_l37_K (R : AHeap) (res : Q) (out : Option Value × AHeap) : Prop := Eval own_P 3 77 [some (.ref 0), none, none, none] [] (W1 res R) out

abbrev j_appendBasis_l37_N (s : Q) (res : Q) : Prop := Q.len res = Q.len s
def j_appendBasis_l37 : Nat → Q → Int32 → Int32 → Int32 → Option (Q)
  | 0, _, _, _, _ => none
  | n + 1, s, v1, v2, v3 => (if v3 < v2 then (if inb s.f_basis.length s.f_basisLen = true then (j_appendBasis_l37 n (Q.mk (wr s.f_basis s.f_basisLen ((ush v1 ((8 : Int32) * v3)) &&& (255 : Int32))) s.f_target s.f_literal s.f_out s.f_blkLen s.f_blkWeak s.f_blkStrong s.f_head s.f_next s.f_kinds s.f_values s.f_blockSize (s.f_basisLen + (1 : Int32)) s.f_targetLen s.f_literalLen s.f_outLen s.f_blocks s.f_ops s.f_shortBlock s.f_winPos s.f_winA s.f_winB s.f_phaseNow) v1 v2 (v3 + (1 : Int32))) else none) else some (s))
theorem ln_j_appendBasis_l37 : ∀ {n : Nat} {s : Q} {v1 : Int32} {v2 : Int32} {v3 : Int32} {res : Q}, j_appendBasis_l37 n s v1 v2 v3 = some res → j_appendBasis_l37_N s res := by
  intro n
  induction n with
  | zero => intro _ _ _ _ res h; cases h
  | succ n hrec0 =>
    have hrec : ∀ (s : Q) (v1 : Int32) (v2 : Int32) (v3 : Int32) {res : Q}, j_appendBasis_l37 n s v1 v2 v3 = some res → j_appendBasis_l37_N s res := by intros; apply hrec0; assumption
    intro s v1 v2 v3 res h
    rw [j_appendBasis_l37] at h
    by_cases hc22 : v3 < v2
    · rw [if_pos hc22] at h
      obtain ⟨hb23, h⟩ := ite_some h
      exact (hrec _ _ _ _ h).trans (Eq.trans (show Q.len (Q.mk (wr s.f_basis s.f_basisLen ((ush v1 ((8 : Int32) * v3)) &&& (255 : Int32))) s.f_target s.f_literal s.f_out s.f_blkLen s.f_blkWeak s.f_blkStrong s.f_head s.f_next s.f_kinds s.f_values s.f_blockSize (s.f_basisLen + (1 : Int32)) s.f_targetLen s.f_literalLen s.f_outLen s.f_blocks s.f_ops s.f_shortBlock s.f_winPos s.f_winA s.f_winB s.f_phaseNow) = Q.len s from own_lenmk.trans (by first | (simp only [len_wr, len_wrL] <;> rfl) | rfl)) rfl)
    · rw [if_neg hc22] at h
      have hr0 := Option.some.inj h
      subst hr0
      show Q.len s = _
      exact rfl
set_option maxRecDepth 100000 in
theorem ev_j_appendBasis_l37 (R : AHeap) : ∀ (n : Nat) (s : Q) (v1 : Int32) (v2 : Int32) (v3 : Int32) {res : Q} {out : Option Value × AHeap}, j_appendBasis_l37 n s v1 v2 v3 = some res → j_appendBasis_l37_K R res out → Eval own_P 3 37 [some (.ref 0), some (.int v1), some (.int v2), some (.int v3)] [] (W1 s R) out := by
  intro n
  induction n with
  | zero => intro _ _ _ _ res out h hk; cases h
  | succ n hrec =>
    intro s v1 v2 v3 res out h hk
    rw [j_appendBasis_l37] at h
    refine Eval.iload_n rfl rfl ?_
    refine Eval.iload_n rfl rfl ?_
    by_cases hc22 : v3 < v2
    · rw [if_pos hc22] at h
      refine Eval.icmpF rfl (tlt hc22).2.1 ?_
      refine Eval.aload_n rfl rfl ?_
      refine Eval.getfield rfl rfl own_g1_basis ?_
      refine Eval.aload_n rfl rfl ?_
      refine Eval.getfield rfl rfl own_g1_basisLen ?_
      refine Eval.iload_n rfl rfl ?_
      refine Eval.bipush (x := (8 : Int32)) rfl rfl ?_
      refine Eval.iload_n rfl rfl ?_
      refine Eval.imul rfl ?_
      refine Eval.iushr rfl ?_
      refine Eval.sipush (x := (255 : Int32)) rfl rfl ?_
      refine Eval.iand rfl ?_
      obtain ⟨hb23, h⟩ := ite_some h
      refine Eval.iastore rfl rfl own_a1_basis hb23 own_s1_basis ?_
      refine Eval.aload_n rfl rfl ?_
      refine Eval.dupR rfl ?_
      refine Eval.getfield rfl rfl own_g1_basisLen ?_
      refine Eval.iconst (x := (1 : Int32)) rfl rfl ?_
      refine Eval.iadd rfl ?_
      refine Eval.putfield rfl rfl own_p1_basisLen ?_
      refine Eval.iinc (L' := [some (.ref 0), some (.int v1), some (.int v2), some (.int (v3 + (1 : Int32)))]) rfl rfl rfl ?_
      refine Eval.goto (t := 37) rfl rfl ?_
      refine Eval.heap own_mk1 ?_
      exact hrec _ _ _ _ h hk
    · rw [if_neg hc22] at h
      refine Eval.icmpT (t := 77) rfl rfl (flt hc22).2.1 ?_
      cases h
      refine Eval.weak (L' := [some (.ref 0), none, none, none]) ⟨_, _, rfl, Or.inr rfl, _, _, rfl, Or.inl rfl, _, _, rfl, Or.inl rfl, _, _, rfl, Or.inl rfl, rfl⟩ ?_
      exact hk
def j_appendBasis (s : Q) (v1 : Int32) (v2 : Int32) : Option (Int32 × Q) := (if s.f_phaseNow = (0 : Int32) then (if v2 < (1 : Int32) then some ((-1 : Int32), s) else (if (4 : Int32) < v2 then some ((-1 : Int32), s) else (if (256 : Int32) < (s.f_basisLen + v2) then some ((-1 : Int32), s) else ((j_appendBasis_l37 3000 s v1 v2 (0 : Int32)).bind fun p24 => some (p24.f_basisLen, p24))))) else some ((-1 : Int32), s))
theorem ln_j_appendBasis {s : Q} {v1 : Int32} {v2 : Int32} {res : Int32 × Q} (h : j_appendBasis s v1 v2 = some res) : Q.len res.2 = Q.len s := by
  rw [j_appendBasis] at h
  by_cases hc18 : s.f_phaseNow = (0 : Int32)
  · rw [if_pos hc18] at h
    by_cases hc19 : v2 < (1 : Int32)
    · rw [if_pos hc19] at h
      have hr0 := Option.some.inj h
      subst hr0
      show Q.len s = _
      exact rfl
    · rw [if_neg hc19] at h
      by_cases hc20 : (4 : Int32) < v2
      · rw [if_pos hc20] at h
        have hr0 := Option.some.inj h
        subst hr0
        show Q.len s = _
        exact rfl
      · rw [if_neg hc20] at h
        by_cases hc21 : (256 : Int32) < (s.f_basisLen + v2)
        · rw [if_pos hc21] at h
          have hr0 := Option.some.inj h
          subst hr0
          show Q.len s = _
          exact rfl
        · rw [if_neg hc21] at h
          obtain ⟨p24, hq25, h⟩ := bind_some h
          have hl26 : Q.len p24 = _ := Eq.trans (ln_j_appendBasis_l37 hq25) rfl
          have hr0 := Option.some.inj h
          subst hr0
          show Q.len p24 = _
          exact hl26
  · rw [if_neg hc18] at h
    have hr0 := Option.some.inj h
    subst hr0
    show Q.len s = _
    exact rfl
set_option maxRecDepth 100000 in
theorem ev_j_appendBasis (R : AHeap) (s : Q) (v1 : Int32) (v2 : Int32) {res : Int32 × Q} {out : Option Value × AHeap} (h : j_appendBasis s v1 v2 = some res) (hk : out = (some (.int res.1), (W1 res.2 R))) : Eval own_P 3 0 [some (.ref 0), some (.int v1), some (.int v2), none] [] (W1 s R) out := by
  rw [j_appendBasis] at h
  refine Eval.aload_n rfl rfl ?_
  refine Eval.getfield rfl rfl own_g1_phaseNow ?_
  by_cases hc18 : s.f_phaseNow = (0 : Int32)
  · rw [if_pos hc18] at h
    refine Eval.ifT (t := 9) rfl rfl (teq hc18).1 ?_
    refine Eval.iload_n rfl rfl ?_
    refine Eval.iconst (x := (1 : Int32)) rfl rfl ?_
    by_cases hc19 : v2 < (1 : Int32)
    · rw [if_pos hc19] at h
      refine Eval.icmpT (t := 19) rfl rfl (tlt hc19).1 ?_
      refine Eval.iconst (x := (-1 : Int32)) rfl rfl ?_
      cases h
      subst hk
      exact Eval.ret rfl rfl
    · rw [if_neg hc19] at h
      refine Eval.icmpF rfl (flt hc19).1 ?_
      refine Eval.iload_n rfl rfl ?_
      refine Eval.iconst (x := (4 : Int32)) rfl rfl ?_
      by_cases hc20 : (4 : Int32) < v2
      · rw [if_pos hc20] at h
        refine Eval.icmpF rfl (tlt hc20).2.2.2 ?_
        refine Eval.iconst (x := (-1 : Int32)) rfl rfl ?_
        cases h
        subst hk
        exact Eval.ret rfl rfl
      · rw [if_neg hc20] at h
        refine Eval.icmpT (t := 21) rfl rfl (flt hc20).2.2.2 ?_
        refine Eval.aload_n rfl rfl ?_
        refine Eval.getfield rfl rfl own_g1_basisLen ?_
        refine Eval.iload_n rfl rfl ?_
        refine Eval.iadd rfl ?_
        refine Eval.sipush (x := (256 : Int32)) rfl rfl ?_
        by_cases hc21 : (256 : Int32) < (s.f_basisLen + v2)
        · rw [if_pos hc21] at h
          refine Eval.icmpF rfl (tlt hc21).2.2.2 ?_
          refine Eval.iconst (x := (-1 : Int32)) rfl rfl ?_
          cases h
          subst hk
          exact Eval.ret rfl rfl
        · rw [if_neg hc21] at h
          refine Eval.icmpT (t := 35) rfl rfl (flt hc21).2.2.2 ?_
          refine Eval.iconst (x := (0 : Int32)) rfl rfl ?_
          refine Eval.istore_n (L' := [some (.ref 0), some (.int v1), some (.int v2), some (.int (0 : Int32))]) rfl rfl ?_
          obtain ⟨p24, hq25, h⟩ := bind_some h
          refine ev_j_appendBasis_l37 R _ s v1 v2 (0 : Int32) hq25 ?_
          show Eval own_P 3 77 [some (.ref 0), none, none, none] [] (W1 p24 R) out
          refine Eval.aload_n rfl rfl ?_
          refine Eval.getfield rfl rfl own_g1_basisLen ?_
          cases h
          subst hk
          exact Eval.ret rfl rfl
  · rw [if_neg hc18] at h
    refine Eval.ifF rfl (feq hc18).1 ?_
    refine Eval.iconst (x := (-1 : Int32)) rfl rfl ?_
    cases h
    subst hk
    exact Eval.ret rfl rfl
abbrev j_sign_l58_K (R : AHeap) (res : Q) (out : Option Value × AHeap) : Prop := Eval own_P 4 138 [some (.ref 0), none, none, none, none] [] (W1 res R) out

abbrev j_sign_l58_N (s : Q) (res : Q) : Prop := Q.len res = Q.len s
abbrev j_weakOfBasis_l8_K (R : AHeap) (s : Q) (res : (Int32 × Int32) ⊕ (Int32 × Int32)) (out : Option Value × AHeap) : Prop := Sum.elim (fun res => Eval own_P 5 33 [some (.ref 0), none, none, some (.int res.1), some (.int res.2), none, none, none] [] (W1 s R) out) (fun res => Eval own_P 5 68 [some (.ref 0), none, none, some (.int res.1), some (.int res.2), none, none, none] [] (W1 s R) out) res

def j_weakOfBasis_l8 : Nat → Q → Int32 → Int32 → Int32 → Int32 → Int32 → Option ((Int32 × Int32) ⊕ (Int32 × Int32))
  | 0, _, _, _, _, _, _ => none
  | n + 1, s, v1, v2, v3, v4, v5 => (if v5 < v2 then (if (v1 + v5) < (0 : Int32) then some (.inr (v3, v4)) else (if (v1 + v5) < (256 : Int32) then (if inb s.f_basis.length (v1 + v5) = true then (j_weakOfBasis_l8 n s v1 v2 (v3 + (rd s.f_basis (v1 + v5))) (v4 + ((v2 - v5) * (rd s.f_basis (v1 + v5)))) (v5 + (1 : Int32))) else none) else some (.inl (v3, v4)))) else some (.inr (v3, v4)))
set_option maxRecDepth 100000 in
theorem ev_j_weakOfBasis_l8 (R : AHeap) : ∀ (n : Nat) (s : Q) (v1 : Int32) (v2 : Int32) (v3 : Int32) (v4 : Int32) (v5 : Int32) {res : (Int32 × Int32) ⊕ (Int32 × Int32)} {out : Option Value × AHeap}, j_weakOfBasis_l8 n s v1 v2 v3 v4 v5 = some res → j_weakOfBasis_l8_K R s res out → Eval own_P 5 8 [some (.ref 0), some (.int v1), some (.int v2), some (.int v3), some (.int v4), some (.int v5), none, none] [] (W1 s R) out := by
  intro n
  induction n with
  | zero => intro _ _ _ _ _ _ res out h hk; cases h
  | succ n hrec =>
    intro s v1 v2 v3 v4 v5 res out h hk
    rw [j_weakOfBasis_l8] at h
    refine Eval.iload rfl rfl ?_
    refine Eval.iload_n rfl rfl ?_
    by_cases hc43 : v5 < v2
    · rw [if_pos hc43] at h
      refine Eval.icmpF rfl (tlt hc43).2.1 ?_
      refine Eval.iload_n rfl rfl ?_
      refine Eval.iload rfl rfl ?_
      refine Eval.iadd rfl ?_
      refine Eval.istore (L' := [some (.ref 0), some (.int v1), some (.int v2), some (.int v3), some (.int v4), some (.int v5), some (.int (v1 + v5)), none]) rfl rfl ?_
      refine Eval.iload rfl rfl ?_
      by_cases hc44 : (v1 + v5) < (0 : Int32)
      · rw [if_pos hc44] at h
        refine Eval.ifT (t := 68) rfl rfl (tlt hc44).1 ?_
        cases h
        refine Eval.weak (L' := [some (.ref 0), none, none, some (.int v3), some (.int v4), none, none, none]) ⟨_, _, rfl, Or.inr rfl, _, _, rfl, Or.inl rfl, _, _, rfl, Or.inl rfl, _, _, rfl, Or.inr rfl, _, _, rfl, Or.inr rfl, _, _, rfl, Or.inl rfl, _, _, rfl, Or.inl rfl, _, _, rfl, Or.inl rfl, rfl⟩ ?_
        exact hk
      · rw [if_neg hc44] at h
        refine Eval.ifF rfl (flt hc44).1 ?_
        refine Eval.iload rfl rfl ?_
        refine Eval.sipush (x := (256 : Int32)) rfl rfl ?_
        by_cases hc45 : (v1 + v5) < (256 : Int32)
        · rw [if_pos hc45] at h
          refine Eval.icmpT (t := 36) rfl rfl (tlt hc45).1 ?_
          refine Eval.aload_n rfl rfl ?_
          refine Eval.getfield rfl rfl own_g1_basis ?_
          refine Eval.iload rfl rfl ?_
          obtain ⟨hb46, h⟩ := ite_some h
          refine Eval.iaload rfl own_a1_basis hb46 ?_
          refine Eval.istore (L' := [some (.ref 0), some (.int v1), some (.int v2), some (.int v3), some (.int v4), some (.int v5), some (.int (v1 + v5)), some (.int (rd s.f_basis (v1 + v5)))]) rfl rfl ?_
          refine Eval.iload_n rfl rfl ?_
          refine Eval.iload rfl rfl ?_
          refine Eval.iadd rfl ?_
          refine Eval.istore_n (L' := [some (.ref 0), some (.int v1), some (.int v2), some (.int (v3 + (rd s.f_basis (v1 + v5)))), some (.int v4), some (.int v5), some (.int (v1 + v5)), some (.int (rd s.f_basis (v1 + v5)))]) rfl rfl ?_
          refine Eval.iload rfl rfl ?_
          refine Eval.iload_n rfl rfl ?_
          refine Eval.iload rfl rfl ?_
          refine Eval.isub rfl ?_
          refine Eval.iload rfl rfl ?_
          refine Eval.imul rfl ?_
          refine Eval.iadd rfl ?_
          refine Eval.istore (L' := [some (.ref 0), some (.int v1), some (.int v2), some (.int (v3 + (rd s.f_basis (v1 + v5)))), some (.int (v4 + ((v2 - v5) * (rd s.f_basis (v1 + v5))))), some (.int v5), some (.int (v1 + v5)), some (.int (rd s.f_basis (v1 + v5)))]) rfl rfl ?_
          refine Eval.iinc (L' := [some (.ref 0), some (.int v1), some (.int v2), some (.int (v3 + (rd s.f_basis (v1 + v5)))), some (.int (v4 + ((v2 - v5) * (rd s.f_basis (v1 + v5))))), some (.int (v5 + (1 : Int32))), some (.int (v1 + v5)), some (.int (rd s.f_basis (v1 + v5)))]) rfl rfl rfl ?_
          refine Eval.goto (t := 8) rfl rfl ?_
          refine Eval.weak (L' := [some (.ref 0), some (.int v1), some (.int v2), some (.int (v3 + (rd s.f_basis (v1 + v5)))), some (.int (v4 + ((v2 - v5) * (rd s.f_basis (v1 + v5))))), some (.int (v5 + (1 : Int32))), none, none]) ⟨_, _, rfl, Or.inr rfl, _, _, rfl, Or.inr rfl, _, _, rfl, Or.inr rfl, _, _, rfl, Or.inr rfl, _, _, rfl, Or.inr rfl, _, _, rfl, Or.inr rfl, _, _, rfl, Or.inl rfl, _, _, rfl, Or.inl rfl, rfl⟩ ?_
          exact hrec _ _ _ _ _ _ h hk
        · rw [if_neg hc45] at h
          refine Eval.icmpF rfl (flt hc45).1 ?_
          cases h
          refine Eval.weak (L' := [some (.ref 0), none, none, some (.int v3), some (.int v4), none, none, none]) ⟨_, _, rfl, Or.inr rfl, _, _, rfl, Or.inl rfl, _, _, rfl, Or.inl rfl, _, _, rfl, Or.inr rfl, _, _, rfl, Or.inr rfl, _, _, rfl, Or.inl rfl, _, _, rfl, Or.inl rfl, _, _, rfl, Or.inl rfl, rfl⟩ ?_
          exact hk
    · rw [if_neg hc43] at h
      refine Eval.icmpT (t := 68) rfl rfl (flt hc43).2.1 ?_
      cases h
      refine Eval.weak (L' := [some (.ref 0), none, none, some (.int v3), some (.int v4), none, none, none]) ⟨_, _, rfl, Or.inr rfl, _, _, rfl, Or.inl rfl, _, _, rfl, Or.inl rfl, _, _, rfl, Or.inr rfl, _, _, rfl, Or.inr rfl, _, _, rfl, Or.inl rfl, _, _, rfl, Or.inl rfl, _, _, rfl, Or.inl rfl, rfl⟩ ?_
      exact hk
def j_packWeak (v1 : Int32) (v2 : Int32) : Int32 := (((ish (v2 &&& (65535 : Int32)) (16 : Int32)) ||| (v1 &&& (65535 : Int32))))
set_option maxRecDepth 100000 in
theorem ev_j_packWeak (H : AHeap) (a : Nat) (v1 : Int32) (v2 : Int32) {res : Int32} {out : Option Value × AHeap} (h : j_packWeak v1 v2 = res) (hk : out = (some (.int res), H)) : Eval own_P 6 0 [some (.ref a), some (.int v1), some (.int v2)] [] H out := by
  rw [j_packWeak] at h
  refine Eval.iload_n rfl rfl ?_
  refine Eval.ldc (x := (65535 : Int32)) rfl rfl ?_
  refine Eval.iand rfl ?_
  refine Eval.bipush (x := (16 : Int32)) rfl rfl ?_
  refine Eval.ishl rfl ?_
  refine Eval.iload_n rfl rfl ?_
  refine Eval.ldc (x := (65535 : Int32)) rfl rfl ?_
  refine Eval.iand rfl ?_
  refine Eval.ior rfl ?_
  subst h
  subst hk
  exact Eval.ret rfl rfl
def j_weakOfBasis_b68 (s : Q) (v3 : Int32) (v4 : Int32) : Option (Int32) := some ((j_packWeak v3 v4))
set_option maxRecDepth 100000 in
theorem ev_j_weakOfBasis_b68 (R : AHeap) (s : Q) (v3 : Int32) (v4 : Int32) {res : Int32} {out : Option Value × AHeap} (h : j_weakOfBasis_b68 s v3 v4 = some res) (hk : out = (some (.int res), (W1 s R))) : Eval own_P 5 68 [some (.ref 0), none, none, some (.int v3), some (.int v4), none, none, none] [] (W1 s R) out := by
  rw [j_weakOfBasis_b68] at h
  refine Eval.aload_n rfl rfl ?_
  refine Eval.iload_n rfl rfl ?_
  refine Eval.iload rfl rfl ?_
  refine Eval.callI (rest := []) (x := (j_packWeak v3 v4)) (H1 := (W1 s R)) rfl rfl (ev_j_packWeak (W1 s R) 0 v3 v4 rfl rfl) ?_
  cases h
  subst hk
  exact Eval.ret rfl rfl
def j_weakOfBasis (s : Q) (v1 : Int32) (v2 : Int32) : Option (Int32) := ((j_weakOfBasis_l8 3000 s v1 v2 (0 : Int32) (0 : Int32) (0 : Int32)).bind fun p47 => Sum.elim (fun p49 => (j_weakOfBasis_b68 s p49.1 p49.2)) (fun p50 => (j_weakOfBasis_b68 s p50.1 p50.2)) p47)
set_option maxRecDepth 100000 in
theorem ev_j_weakOfBasis (R : AHeap) (s : Q) (v1 : Int32) (v2 : Int32) {res : Int32} {out : Option Value × AHeap} (h : j_weakOfBasis s v1 v2 = some res) (hk : out = (some (.int res), (W1 s R))) : Eval own_P 5 0 [some (.ref 0), some (.int v1), some (.int v2), none, none, none, none, none] [] (W1 s R) out := by
  rw [j_weakOfBasis] at h
  refine Eval.iconst (x := (0 : Int32)) rfl rfl ?_
  refine Eval.istore_n (L' := [some (.ref 0), some (.int v1), some (.int v2), some (.int (0 : Int32)), none, none, none, none]) rfl rfl ?_
  refine Eval.iconst (x := (0 : Int32)) rfl rfl ?_
  refine Eval.istore (L' := [some (.ref 0), some (.int v1), some (.int v2), some (.int (0 : Int32)), some (.int (0 : Int32)), none, none, none]) rfl rfl ?_
  refine Eval.iconst (x := (0 : Int32)) rfl rfl ?_
  refine Eval.istore (L' := [some (.ref 0), some (.int v1), some (.int v2), some (.int (0 : Int32)), some (.int (0 : Int32)), some (.int (0 : Int32)), none, none]) rfl rfl ?_
  obtain ⟨p47, hq48, h⟩ := bind_some h
  rcases p47 with p49 | p50
  · dsimp only [Sum.elim] at h
    refine ev_j_weakOfBasis_l8 R _ s v1 v2 (0 : Int32) (0 : Int32) (0 : Int32) hq48 ?_
    show Eval own_P 5 33 [some (.ref 0), none, none, some (.int p49.1), some (.int p49.2), none, none, none] [] (W1 s R) out
    refine Eval.goto (t := 68) rfl rfl ?_
    exact ev_j_weakOfBasis_b68 R s p49.1 p49.2 h hk
  · dsimp only [Sum.elim] at h
    refine ev_j_weakOfBasis_l8 R _ s v1 v2 (0 : Int32) (0 : Int32) (0 : Int32) hq48 ?_
    show Eval own_P 5 68 [some (.ref 0), none, none, some (.int p50.1), some (.int p50.2), none, none, none] [] (W1 s R) out
    exact ev_j_weakOfBasis_b68 R s p50.1 p50.2 h hk
abbrev j_strongOfBasis_l7_K (R : AHeap) (s : Q) (res : (Int64) ⊕ (Int64)) (out : Option Value × AHeap) : Prop := Sum.elim (fun res => Eval own_P 7 32 [none, none, none, some (.long res), none, none, none] [] (W1 s R) out) (fun res => Eval own_P 7 58 [none, none, none, some (.long res), none, none, none] [] (W1 s R) out) res

def j_strongOfBasis_l7 : Nat → Q → Int32 → Int32 → Int64 → Int32 → Option ((Int64) ⊕ (Int64))
  | 0, _, _, _, _, _ => none
  | n + 1, s, v1, v2, v3, v5 => (if v5 < v2 then (if (v1 + v5) < (0 : Int32) then some (.inr (v3)) else (if (v1 + v5) < (256 : Int32) then (if inb s.f_basis.length (v1 + v5) = true then (j_strongOfBasis_l7 n s v1 v2 ((v3 ^^^ (Int32.toInt64 (rd s.f_basis (v1 + v5)))) * (1099511628211 : Int64)) (v5 + (1 : Int32))) else none) else some (.inl (v3)))) else some (.inr (v3)))
set_option maxRecDepth 100000 in
theorem ev_j_strongOfBasis_l7 (R : AHeap) : ∀ (n : Nat) (s : Q) (v1 : Int32) (v2 : Int32) (v3 : Int64) (v5 : Int32) {res : (Int64) ⊕ (Int64)} {out : Option Value × AHeap}, j_strongOfBasis_l7 n s v1 v2 v3 v5 = some res → j_strongOfBasis_l7_K R s res out → Eval own_P 7 7 [some (.ref 0), some (.int v1), some (.int v2), some (.long v3), none, some (.int v5), none] [] (W1 s R) out := by
  intro n
  induction n with
  | zero => intro _ _ _ _ _ res out h hk; cases h
  | succ n hrec =>
    intro s v1 v2 v3 v5 res out h hk
    rw [j_strongOfBasis_l7] at h
    refine Eval.iload rfl rfl ?_
    refine Eval.iload_n rfl rfl ?_
    by_cases hc54 : v5 < v2
    · rw [if_pos hc54] at h
      refine Eval.icmpF rfl (tlt hc54).2.1 ?_
      refine Eval.iload_n rfl rfl ?_
      refine Eval.iload rfl rfl ?_
      refine Eval.iadd rfl ?_
      refine Eval.istore (L' := [some (.ref 0), some (.int v1), some (.int v2), some (.long v3), none, some (.int v5), some (.int (v1 + v5))]) rfl rfl ?_
      refine Eval.iload rfl rfl ?_
      by_cases hc55 : (v1 + v5) < (0 : Int32)
      · rw [if_pos hc55] at h
        refine Eval.ifT (t := 58) rfl rfl (tlt hc55).1 ?_
        cases h
        refine Eval.weak (L' := [none, none, none, some (.long v3), none, none, none]) ⟨_, _, rfl, Or.inl rfl, _, _, rfl, Or.inl rfl, _, _, rfl, Or.inl rfl, _, _, rfl, Or.inr rfl, _, _, rfl, Or.inl rfl, _, _, rfl, Or.inl rfl, _, _, rfl, Or.inl rfl, rfl⟩ ?_
        exact hk
      · rw [if_neg hc55] at h
        refine Eval.ifF rfl (flt hc55).1 ?_
        refine Eval.iload rfl rfl ?_
        refine Eval.sipush (x := (256 : Int32)) rfl rfl ?_
        by_cases hc56 : (v1 + v5) < (256 : Int32)
        · rw [if_pos hc56] at h
          refine Eval.icmpT (t := 35) rfl rfl (tlt hc56).1 ?_
          refine Eval.lload_n rfl rfl ?_
          refine Eval.aload_n rfl rfl ?_
          refine Eval.getfield rfl rfl own_g1_basis ?_
          refine Eval.iload rfl rfl ?_
          obtain ⟨hb57, h⟩ := ite_some h
          refine Eval.iaload rfl own_a1_basis hb57 ?_
          refine Eval.i2l rfl ?_
          refine Eval.lxor rfl ?_
          refine Eval.lstore_n (L' := [some (.ref 0), some (.int v1), some (.int v2), some (.long (v3 ^^^ (Int32.toInt64 (rd s.f_basis (v1 + v5))))), none, some (.int v5), some (.int (v1 + v5))]) rfl rfl ?_
          refine Eval.lload_n rfl rfl ?_
          refine Eval.ldc2_w (x := (1099511628211 : Int64)) rfl rfl ?_
          refine Eval.lmul rfl ?_
          refine Eval.lstore_n (L' := [some (.ref 0), some (.int v1), some (.int v2), some (.long ((v3 ^^^ (Int32.toInt64 (rd s.f_basis (v1 + v5)))) * (1099511628211 : Int64))), none, some (.int v5), some (.int (v1 + v5))]) rfl rfl ?_
          refine Eval.iinc (L' := [some (.ref 0), some (.int v1), some (.int v2), some (.long ((v3 ^^^ (Int32.toInt64 (rd s.f_basis (v1 + v5)))) * (1099511628211 : Int64))), none, some (.int (v5 + (1 : Int32))), some (.int (v1 + v5))]) rfl rfl rfl ?_
          refine Eval.goto (t := 7) rfl rfl ?_
          refine Eval.weak (L' := [some (.ref 0), some (.int v1), some (.int v2), some (.long ((v3 ^^^ (Int32.toInt64 (rd s.f_basis (v1 + v5)))) * (1099511628211 : Int64))), none, some (.int (v5 + (1 : Int32))), none]) ⟨_, _, rfl, Or.inr rfl, _, _, rfl, Or.inr rfl, _, _, rfl, Or.inr rfl, _, _, rfl, Or.inr rfl, _, _, rfl, Or.inl rfl, _, _, rfl, Or.inr rfl, _, _, rfl, Or.inl rfl, rfl⟩ ?_
          exact hrec _ _ _ _ _ h hk
        · rw [if_neg hc56] at h
          refine Eval.icmpF rfl (flt hc56).1 ?_
          cases h
          refine Eval.weak (L' := [none, none, none, some (.long v3), none, none, none]) ⟨_, _, rfl, Or.inl rfl, _, _, rfl, Or.inl rfl, _, _, rfl, Or.inl rfl, _, _, rfl, Or.inr rfl, _, _, rfl, Or.inl rfl, _, _, rfl, Or.inl rfl, _, _, rfl, Or.inl rfl, rfl⟩ ?_
          exact hk
    · rw [if_neg hc54] at h
      refine Eval.icmpT (t := 58) rfl rfl (flt hc54).2.1 ?_
      cases h
      refine Eval.weak (L' := [none, none, none, some (.long v3), none, none, none]) ⟨_, _, rfl, Or.inl rfl, _, _, rfl, Or.inl rfl, _, _, rfl, Or.inl rfl, _, _, rfl, Or.inr rfl, _, _, rfl, Or.inl rfl, _, _, rfl, Or.inl rfl, _, _, rfl, Or.inl rfl, rfl⟩ ?_
      exact hk
def j_strongOfBasis_b58 (s : Q) (v3 : Int64) : Option (Int64) := some (v3)
set_option maxRecDepth 100000 in
theorem ev_j_strongOfBasis_b58 (R : AHeap) (s : Q) (v3 : Int64) {res : Int64} {out : Option Value × AHeap} (h : j_strongOfBasis_b58 s v3 = some res) (hk : out = (some (.long res), (W1 s R))) : Eval own_P 7 58 [none, none, none, some (.long v3), none, none, none] [] (W1 s R) out := by
  rw [j_strongOfBasis_b58] at h
  refine Eval.lload_n rfl rfl ?_
  cases h
  subst hk
  exact Eval.ret rfl rfl
def j_strongOfBasis (s : Q) (v1 : Int32) (v2 : Int32) : Option (Int64) := ((j_strongOfBasis_l7 3000 s v1 v2 (-3750763034362895579 : Int64) (0 : Int32)).bind fun p58 => Sum.elim (fun p60 => (j_strongOfBasis_b58 s p60)) (fun p61 => (j_strongOfBasis_b58 s p61)) p58)
set_option maxRecDepth 100000 in
theorem ev_j_strongOfBasis (R : AHeap) (s : Q) (v1 : Int32) (v2 : Int32) {res : Int64} {out : Option Value × AHeap} (h : j_strongOfBasis s v1 v2 = some res) (hk : out = (some (.long res), (W1 s R))) : Eval own_P 7 0 [some (.ref 0), some (.int v1), some (.int v2), none, none, none, none] [] (W1 s R) out := by
  rw [j_strongOfBasis] at h
  refine Eval.ldc2_w (x := (-3750763034362895579 : Int64)) rfl rfl ?_
  refine Eval.lstore_n (L' := [some (.ref 0), some (.int v1), some (.int v2), some (.long (-3750763034362895579 : Int64)), none, none, none]) rfl rfl ?_
  refine Eval.iconst (x := (0 : Int32)) rfl rfl ?_
  refine Eval.istore (L' := [some (.ref 0), some (.int v1), some (.int v2), some (.long (-3750763034362895579 : Int64)), none, some (.int (0 : Int32)), none]) rfl rfl ?_
  obtain ⟨p58, hq59, h⟩ := bind_some h
  rcases p58 with p60 | p61
  · dsimp only [Sum.elim] at h
    refine ev_j_strongOfBasis_l7 R _ s v1 v2 (-3750763034362895579 : Int64) (0 : Int32) hq59 ?_
    show Eval own_P 7 32 [none, none, none, some (.long p60), none, none, none] [] (W1 s R) out
    refine Eval.goto (t := 58) rfl rfl ?_
    exact ev_j_strongOfBasis_b58 R s p60 h hk
  · dsimp only [Sum.elim] at h
    refine ev_j_strongOfBasis_l7 R _ s v1 v2 (-3750763034362895579 : Int64) (0 : Int32) hq59 ?_
    show Eval own_P 7 58 [none, none, none, some (.long p61), none, none, none] [] (W1 s R) out
    exact ev_j_strongOfBasis_b58 R s p61 h hk
def j_sign_b98 (go_ : Q → Int32 → Int32 → Option (Q)) (s : Q) (v1 : Int32) (v2 : Int32) (v3 : Int32) (v4 : Int32) : Option (Q) := (if inb s.f_blkLen.length v2 = true then ((j_weakOfBasis (Q.mk s.f_basis s.f_target s.f_literal s.f_out (wr s.f_blkLen v2 v4) s.f_blkWeak s.f_blkStrong s.f_head s.f_next s.f_kinds s.f_values s.f_blockSize s.f_basisLen s.f_targetLen s.f_literalLen s.f_outLen s.f_blocks s.f_ops s.f_shortBlock s.f_winPos s.f_winA s.f_winB s.f_phaseNow) v3 v4).bind fun p51 => (if inb s.f_blkWeak.length v2 = true then ((j_strongOfBasis (Q.mk s.f_basis s.f_target s.f_literal s.f_out (wr s.f_blkLen v2 v4) (wr s.f_blkWeak v2 p51) s.f_blkStrong s.f_head s.f_next s.f_kinds s.f_values s.f_blockSize s.f_basisLen s.f_targetLen s.f_literalLen s.f_outLen s.f_blocks s.f_ops s.f_shortBlock s.f_winPos s.f_winA s.f_winB s.f_phaseNow) v3 v4).bind fun p62 => (if inb s.f_blkStrong.length v2 = true then (go_ (Q.mk s.f_basis s.f_target s.f_literal s.f_out (wr s.f_blkLen v2 v4) (wr s.f_blkWeak v2 p51) (wrL s.f_blkStrong v2 p62) s.f_head s.f_next s.f_kinds s.f_values s.f_blockSize s.f_basisLen s.f_targetLen s.f_literalLen s.f_outLen s.f_blocks s.f_ops s.f_shortBlock s.f_winPos s.f_winA s.f_winB s.f_phaseNow) v1 (v2 + (1 : Int32))) else none)) else none)) else none)
theorem ln_j_sign_b98 {go_ : Q → Int32 → Int32 → Option (Q)} (hrec : ∀ (s : Q) (v1 : Int32) (v2 : Int32) {res : Q}, go_ s v1 v2 = some res → j_sign_l58_N s res) {s : Q} {v1 : Int32} {v2 : Int32} {v3 : Int32} {v4 : Int32} {res : Q} (h : j_sign_b98 go_ s v1 v2 v3 v4 = some res) : j_sign_l58_N s res := by
  rw [j_sign_b98] at h
  obtain ⟨hb42, h⟩ := ite_some h
  obtain ⟨p51, hq52, h⟩ := bind_some h
  obtain ⟨hb53, h⟩ := ite_some h
  obtain ⟨p62, hq63, h⟩ := bind_some h
  obtain ⟨hb64, h⟩ := ite_some h
  exact (hrec _ _ _ h).trans (Eq.trans (show Q.len (Q.mk s.f_basis s.f_target s.f_literal s.f_out (wr s.f_blkLen v2 v4) (wr s.f_blkWeak v2 p51) (wrL s.f_blkStrong v2 p62) s.f_head s.f_next s.f_kinds s.f_values s.f_blockSize s.f_basisLen s.f_targetLen s.f_literalLen s.f_outLen s.f_blocks s.f_ops s.f_shortBlock s.f_winPos s.f_winA s.f_winB s.f_phaseNow) = Q.len s from own_lenmk.trans (by first | (simp only [len_wr, len_wrL] <;> rfl) | rfl)) rfl)
set_option maxRecDepth 100000 in
theorem ev_j_sign_b98 (R : AHeap) (go_ : Q → Int32 → Int32 → Option (Q)) (hrec : ∀ (s : Q) (v1 : Int32) (v2 : Int32) {res : Q} {out : Option Value × AHeap}, go_ s v1 v2 = some res → j_sign_l58_K R res out → Eval own_P 4 58 [some (.ref 0), some (.int v1), some (.int v2), none, none] [] (W1 s R) out) (s : Q) (v1 : Int32) (v2 : Int32) (v3 : Int32) (v4 : Int32) {res : Q} {out : Option Value × AHeap} (h : j_sign_b98 go_ s v1 v2 v3 v4 = some res) (hk : j_sign_l58_K R res out) : Eval own_P 4 98 [some (.ref 0), some (.int v1), some (.int v2), some (.int v3), some (.int v4)] [] (W1 s R) out := by
  rw [j_sign_b98] at h
  refine Eval.aload_n rfl rfl ?_
  refine Eval.getfield rfl rfl own_g1_blkLen ?_
  refine Eval.iload_n rfl rfl ?_
  refine Eval.iload rfl rfl ?_
  obtain ⟨hb42, h⟩ := ite_some h
  refine Eval.iastore rfl rfl own_a1_blkLen hb42 own_s1_blkLen ?_
  refine Eval.aload_n rfl rfl ?_
  refine Eval.getfield rfl rfl own_g1_blkWeak ?_
  refine Eval.iload_n rfl rfl ?_
  refine Eval.aload_n rfl rfl ?_
  refine Eval.iload_n rfl rfl ?_
  refine Eval.iload rfl rfl ?_
  obtain ⟨p51, hq52, h⟩ := bind_some h
  refine Eval.callI (rest := [.int v2, .ref 6]) (x := p51) (H1 := (C1 s.f_basis s.f_target s.f_literal s.f_out (wr s.f_blkLen v2 v4) s.f_blkWeak s.f_blkStrong s.f_head s.f_next s.f_kinds s.f_values s.f_blockSize s.f_basisLen s.f_targetLen s.f_literalLen s.f_outLen s.f_blocks s.f_ops s.f_shortBlock s.f_winPos s.f_winA s.f_winB s.f_phaseNow R)) rfl rfl (Eval.heap own_mk1 (ev_j_weakOfBasis R (Q.mk s.f_basis s.f_target s.f_literal s.f_out (wr s.f_blkLen v2 v4) s.f_blkWeak s.f_blkStrong s.f_head s.f_next s.f_kinds s.f_values s.f_blockSize s.f_basisLen s.f_targetLen s.f_literalLen s.f_outLen s.f_blocks s.f_ops s.f_shortBlock s.f_winPos s.f_winA s.f_winB s.f_phaseNow) v3 v4 hq52 (congrArg (Prod.mk _) own_mk1.symm))) ?_
  obtain ⟨hb53, h⟩ := ite_some h
  refine Eval.iastore rfl rfl own_a1_blkWeak hb53 own_s1_blkWeak ?_
  refine Eval.aload_n rfl rfl ?_
  refine Eval.getfield rfl rfl own_g1_blkStrong ?_
  refine Eval.iload_n rfl rfl ?_
  refine Eval.aload_n rfl rfl ?_
  refine Eval.iload_n rfl rfl ?_
  refine Eval.iload rfl rfl ?_
  obtain ⟨p62, hq63, h⟩ := bind_some h
  refine Eval.callJ (rest := [.int v2, .ref 7]) (x := p62) (H1 := (C1 s.f_basis s.f_target s.f_literal s.f_out (wr s.f_blkLen v2 v4) (wr s.f_blkWeak v2 p51) s.f_blkStrong s.f_head s.f_next s.f_kinds s.f_values s.f_blockSize s.f_basisLen s.f_targetLen s.f_literalLen s.f_outLen s.f_blocks s.f_ops s.f_shortBlock s.f_winPos s.f_winA s.f_winB s.f_phaseNow R)) rfl rfl (Eval.heap own_mk1 (ev_j_strongOfBasis R (Q.mk s.f_basis s.f_target s.f_literal s.f_out (wr s.f_blkLen v2 v4) (wr s.f_blkWeak v2 p51) s.f_blkStrong s.f_head s.f_next s.f_kinds s.f_values s.f_blockSize s.f_basisLen s.f_targetLen s.f_literalLen s.f_outLen s.f_blocks s.f_ops s.f_shortBlock s.f_winPos s.f_winA s.f_winB s.f_phaseNow) v3 v4 hq63 (congrArg (Prod.mk _) own_mk1.symm))) ?_
  obtain ⟨hb64, h⟩ := ite_some h
  refine Eval.lastore rfl rfl own_a1_blkStrong hb64 own_s1_blkStrong ?_
  refine Eval.iinc (L' := [some (.ref 0), some (.int v1), some (.int (v2 + (1 : Int32))), some (.int v3), some (.int v4)]) rfl rfl rfl ?_
  refine Eval.goto (t := 58) rfl rfl ?_
  refine Eval.heap own_mk1 ?_
  refine Eval.weak (L' := [some (.ref 0), some (.int v1), some (.int (v2 + (1 : Int32))), none, none]) ⟨_, _, rfl, Or.inr rfl, _, _, rfl, Or.inr rfl, _, _, rfl, Or.inr rfl, _, _, rfl, Or.inl rfl, _, _, rfl, Or.inl rfl, rfl⟩ ?_
  exact hrec _ _ _ h hk
def j_sign_l58 : Nat → Q → Int32 → Int32 → Option (Q)
  | 0, _, _, _ => none
  | n + 1, s, v1, v2 => (if v2 < s.f_blocks then (j_sign_b98 (j_sign_l58 n) s v1 v2 (v2 * v1) (if v2 = (s.f_blocks - (1 : Int32)) then (s.f_basisLen - ((s.f_blocks - (1 : Int32)) * v1)) else v1)) else some (s))
theorem ln_j_sign_l58 : ∀ {n : Nat} {s : Q} {v1 : Int32} {v2 : Int32} {res : Q}, j_sign_l58 n s v1 v2 = some res → j_sign_l58_N s res := by
  intro n
  induction n with
  | zero => intro _ _ _ res h; cases h
  | succ n hrec0 =>
    have hrec : ∀ (s : Q) (v1 : Int32) (v2 : Int32) {res : Q}, j_sign_l58 n s v1 v2 = some res → j_sign_l58_N s res := by intros; apply hrec0; assumption
    intro s v1 v2 res h
    rw [j_sign_l58] at h
    by_cases hc39 : v2 < s.f_blocks
    · rw [if_pos hc39] at h
      exact Eq.trans (ln_j_sign_b98 hrec h) rfl
    · rw [if_neg hc39] at h
      have hr0 := Option.some.inj h
      subst hr0
      show Q.len s = _
      exact rfl
set_option maxRecDepth 100000 in
theorem ev_j_sign_l58 (R : AHeap) : ∀ (n : Nat) (s : Q) (v1 : Int32) (v2 : Int32) {res : Q} {out : Option Value × AHeap}, j_sign_l58 n s v1 v2 = some res → j_sign_l58_K R res out → Eval own_P 4 58 [some (.ref 0), some (.int v1), some (.int v2), none, none] [] (W1 s R) out := by
  intro n
  induction n with
  | zero => intro _ _ _ res out h hk; cases h
  | succ n hrec =>
    intro s v1 v2 res out h hk
    rw [j_sign_l58] at h
    refine Eval.iload_n rfl rfl ?_
    refine Eval.aload_n rfl rfl ?_
    refine Eval.getfield rfl rfl own_g1_blocks ?_
    by_cases hc39 : v2 < s.f_blocks
    · rw [if_pos hc39] at h
      refine Eval.icmpF rfl (tlt hc39).2.1 ?_
      refine Eval.iload_n rfl rfl ?_
      refine Eval.iload_n rfl rfl ?_
      refine Eval.imul rfl ?_
      refine Eval.istore_n (L' := [some (.ref 0), some (.int v1), some (.int v2), some (.int (v2 * v1)), none]) rfl rfl ?_
      refine Eval.iload_n rfl rfl ?_
      refine Eval.istore (L' := [some (.ref 0), some (.int v1), some (.int v2), some (.int (v2 * v1)), some (.int v1)]) rfl rfl ?_
      refine Eval.iload_n rfl rfl ?_
      refine Eval.aload_n rfl rfl ?_
      refine Eval.getfield rfl rfl own_g1_blocks ?_
      refine Eval.iconst (x := (1 : Int32)) rfl rfl ?_
      refine Eval.isub rfl ?_
      suffices hJ41 : Eval own_P 4 98 [some (.ref 0), some (.int v1), some (.int v2), some (.int (v2 * v1)), some (.int (if v2 = (s.f_blocks - (1 : Int32)) then (s.f_basisLen - ((s.f_blocks - (1 : Int32)) * v1)) else v1))] [] (W1 s R) out by
        by_cases hc40 : v2 = (s.f_blocks - (1 : Int32))
        · refine Eval.icmpF rfl (teq hc40).2 ?_
          refine Eval.aload_n rfl rfl ?_
          refine Eval.getfield rfl rfl own_g1_basisLen ?_
          refine Eval.aload_n rfl rfl ?_
          refine Eval.getfield rfl rfl own_g1_blocks ?_
          refine Eval.iconst (x := (1 : Int32)) rfl rfl ?_
          refine Eval.isub rfl ?_
          refine Eval.iload_n rfl rfl ?_
          refine Eval.imul rfl ?_
          refine Eval.isub rfl ?_
          refine Eval.istore (L' := [some (.ref 0), some (.int v1), some (.int v2), some (.int (v2 * v1)), some (.int (s.f_basisLen - ((s.f_blocks - (1 : Int32)) * v1)))]) rfl rfl ?_
          exact (Eval.conv hJ41 (by simp only [if_pos hc40]) rfl)
        · refine Eval.icmpT (t := 98) rfl rfl (feq hc40).2 ?_
          exact (Eval.conv hJ41 (by simp only [if_neg hc40]) rfl)
      exact ev_j_sign_b98 R _ hrec s v1 v2 (v2 * v1) (if v2 = (s.f_blocks - (1 : Int32)) then (s.f_basisLen - ((s.f_blocks - (1 : Int32)) * v1)) else v1) h hk
    · rw [if_neg hc39] at h
      refine Eval.icmpT (t := 138) rfl rfl (flt hc39).2.1 ?_
      cases h
      refine Eval.weak (L' := [some (.ref 0), none, none, none, none]) ⟨_, _, rfl, Or.inr rfl, _, _, rfl, Or.inl rfl, _, _, rfl, Or.inl rfl, _, _, rfl, Or.inl rfl, _, _, rfl, Or.inl rfl, rfl⟩ ?_
      exact hk
abbrev j_buildIndex_l2_K (R : AHeap) (res : Q) (out : Option Value × AHeap) : Prop := Eval own_P 8 22 [some (.ref 0), none, none] [] (W1 res R) out

abbrev j_buildIndex_l2_N (s : Q) (res : Q) : Prop := Q.len res = Q.len s
def j_buildIndex_l2 : Nat → Q → Int32 → Option (Q)
  | 0, _, _ => none
  | n + 1, s, v1 => (if v1 < (256 : Int32) then (if inb s.f_head.length v1 = true then (j_buildIndex_l2 n (Q.mk s.f_basis s.f_target s.f_literal s.f_out s.f_blkLen s.f_blkWeak s.f_blkStrong (wr s.f_head v1 (-1 : Int32)) s.f_next s.f_kinds s.f_values s.f_blockSize s.f_basisLen s.f_targetLen s.f_literalLen s.f_outLen s.f_blocks s.f_ops s.f_shortBlock s.f_winPos s.f_winA s.f_winB s.f_phaseNow) (v1 + (1 : Int32))) else none) else some (s))
theorem ln_j_buildIndex_l2 : ∀ {n : Nat} {s : Q} {v1 : Int32} {res : Q}, j_buildIndex_l2 n s v1 = some res → j_buildIndex_l2_N s res := by
  intro n
  induction n with
  | zero => intro _ _ res h; cases h
  | succ n hrec0 =>
    have hrec : ∀ (s : Q) (v1 : Int32) {res : Q}, j_buildIndex_l2 n s v1 = some res → j_buildIndex_l2_N s res := by intros; apply hrec0; assumption
    intro s v1 res h
    rw [j_buildIndex_l2] at h
    by_cases hc68 : v1 < (256 : Int32)
    · rw [if_pos hc68] at h
      obtain ⟨hb69, h⟩ := ite_some h
      exact (hrec _ _ h).trans (Eq.trans (show Q.len (Q.mk s.f_basis s.f_target s.f_literal s.f_out s.f_blkLen s.f_blkWeak s.f_blkStrong (wr s.f_head v1 (-1 : Int32)) s.f_next s.f_kinds s.f_values s.f_blockSize s.f_basisLen s.f_targetLen s.f_literalLen s.f_outLen s.f_blocks s.f_ops s.f_shortBlock s.f_winPos s.f_winA s.f_winB s.f_phaseNow) = Q.len s from own_lenmk.trans (by first | (simp only [len_wr, len_wrL] <;> rfl) | rfl)) rfl)
    · rw [if_neg hc68] at h
      have hr0 := Option.some.inj h
      subst hr0
      show Q.len s = _
      exact rfl
set_option maxRecDepth 100000 in
theorem ev_j_buildIndex_l2 (R : AHeap) : ∀ (n : Nat) (s : Q) (v1 : Int32) {res : Q} {out : Option Value × AHeap}, j_buildIndex_l2 n s v1 = some res → j_buildIndex_l2_K R res out → Eval own_P 8 2 [some (.ref 0), some (.int v1), none] [] (W1 s R) out := by
  intro n
  induction n with
  | zero => intro _ _ res out h hk; cases h
  | succ n hrec =>
    intro s v1 res out h hk
    rw [j_buildIndex_l2] at h
    refine Eval.iload_n rfl rfl ?_
    refine Eval.sipush (x := (256 : Int32)) rfl rfl ?_
    by_cases hc68 : v1 < (256 : Int32)
    · rw [if_pos hc68] at h
      refine Eval.icmpF rfl (tlt hc68).2.1 ?_
      refine Eval.aload_n rfl rfl ?_
      refine Eval.getfield rfl rfl own_g1_head ?_
      refine Eval.iload_n rfl rfl ?_
      refine Eval.iconst (x := (-1 : Int32)) rfl rfl ?_
      obtain ⟨hb69, h⟩ := ite_some h
      refine Eval.iastore rfl rfl own_a1_head hb69 own_s1_head ?_
      refine Eval.iinc (L' := [some (.ref 0), some (.int (v1 + (1 : Int32))), none]) rfl rfl rfl ?_
      refine Eval.goto (t := 2) rfl rfl ?_
      refine Eval.heap own_mk1 ?_
      exact hrec _ _ h hk
    · rw [if_neg hc68] at h
      refine Eval.icmpT (t := 22) rfl rfl (flt hc68).2.1 ?_
      cases h
      refine Eval.weak (L' := [some (.ref 0), none, none]) ⟨_, _, rfl, Or.inr rfl, _, _, rfl, Or.inl rfl, _, _, rfl, Or.inl rfl, rfl⟩ ?_
      exact hk
abbrev j_buildIndex_l34_K (R : AHeap) (res : Q) (out : Option Value × AHeap) : Prop := Eval own_P 8 102 [none, none, none] [] (W1 res R) out

abbrev j_buildIndex_l34_N (s : Q) (res : Q) : Prop := Q.len res = Q.len s
def j_bucketOf (v1 : Int32) : Int32 := (((((v1 ^^^ (ush v1 (8 : Int32))) ^^^ (ush v1 (16 : Int32))) ^^^ (ush v1 (24 : Int32))) &&& (255 : Int32)))
set_option maxRecDepth 100000 in
theorem ev_j_bucketOf (H : AHeap) (a : Nat) (v1 : Int32) {res : Int32} {out : Option Value × AHeap} (h : j_bucketOf v1 = res) (hk : out = (some (.int res), H)) : Eval own_P 9 0 [some (.ref a), some (.int v1), none] [] H out := by
  rw [j_bucketOf] at h
  refine Eval.iload_n rfl rfl ?_
  refine Eval.iload_n rfl rfl ?_
  refine Eval.bipush (x := (8 : Int32)) rfl rfl ?_
  refine Eval.iushr rfl ?_
  refine Eval.ixor rfl ?_
  refine Eval.iload_n rfl rfl ?_
  refine Eval.bipush (x := (16 : Int32)) rfl rfl ?_
  refine Eval.iushr rfl ?_
  refine Eval.ixor rfl ?_
  refine Eval.iload_n rfl rfl ?_
  refine Eval.bipush (x := (24 : Int32)) rfl rfl ?_
  refine Eval.iushr rfl ?_
  refine Eval.ixor rfl ?_
  refine Eval.istore_n (L' := [some (.ref a), some (.int v1), some (.int (((v1 ^^^ (ush v1 (8 : Int32))) ^^^ (ush v1 (16 : Int32))) ^^^ (ush v1 (24 : Int32))))]) rfl rfl ?_
  refine Eval.iload_n rfl rfl ?_
  refine Eval.sipush (x := (255 : Int32)) rfl rfl ?_
  refine Eval.iand rfl ?_
  subst h
  subst hk
  exact Eval.ret rfl rfl
def j_buildIndex_b96 (go_ : Q → Int32 → Option (Q)) (s : Q) (v1 : Int32) : Option (Q) := (go_ s (v1 + (-1 : Int32)))
theorem ln_j_buildIndex_b96 {go_ : Q → Int32 → Option (Q)} (hrec : ∀ (s : Q) (v1 : Int32) {res : Q}, go_ s v1 = some res → j_buildIndex_l34_N s res) {s : Q} {v1 : Int32} {res : Q} (h : j_buildIndex_b96 go_ s v1 = some res) : j_buildIndex_l34_N s res := by
  rw [j_buildIndex_b96] at h
  exact (hrec _ _ h).trans rfl
set_option maxRecDepth 100000 in
theorem ev_j_buildIndex_b96 (R : AHeap) (go_ : Q → Int32 → Option (Q)) (hrec : ∀ (s : Q) (v1 : Int32) {res : Q} {out : Option Value × AHeap}, go_ s v1 = some res → j_buildIndex_l34_K R res out → Eval own_P 8 34 [some (.ref 0), some (.int v1), none] [] (W1 s R) out) (s : Q) (v1 : Int32) {res : Q} {out : Option Value × AHeap} (h : j_buildIndex_b96 go_ s v1 = some res) (hk : j_buildIndex_l34_K R res out) : Eval own_P 8 96 [some (.ref 0), some (.int v1), none] [] (W1 s R) out := by
  rw [j_buildIndex_b96] at h
  refine Eval.iinc (L' := [some (.ref 0), some (.int (v1 + (-1 : Int32))), none]) rfl rfl rfl ?_
  refine Eval.goto (t := 34) rfl rfl ?_
  exact hrec _ _ h hk
def j_buildIndex_l34 : Nat → Q → Int32 → Option (Q)
  | 0, _, _ => none
  | n + 1, s, v1 => (if v1 < (0 : Int32) then some (s) else (if inb s.f_blkLen.length v1 = true then (if (rd s.f_blkLen v1) = s.f_blockSize then (if inb s.f_blkWeak.length v1 = true then (if inb s.f_head.length (j_bucketOf (rd s.f_blkWeak v1)) = true then (if inb s.f_next.length v1 = true then (if inb s.f_head.length (j_bucketOf (rd s.f_blkWeak v1)) = true then (j_buildIndex_b96 (j_buildIndex_l34 n) (Q.mk s.f_basis s.f_target s.f_literal s.f_out s.f_blkLen s.f_blkWeak s.f_blkStrong (wr s.f_head (j_bucketOf (rd s.f_blkWeak v1)) v1) (wr s.f_next v1 (rd s.f_head (j_bucketOf (rd s.f_blkWeak v1)))) s.f_kinds s.f_values s.f_blockSize s.f_basisLen s.f_targetLen s.f_literalLen s.f_outLen s.f_blocks s.f_ops s.f_shortBlock s.f_winPos s.f_winA s.f_winB s.f_phaseNow) v1) else none) else none) else none) else none) else (if inb s.f_next.length v1 = true then (j_buildIndex_b96 (j_buildIndex_l34 n) (Q.mk s.f_basis s.f_target s.f_literal s.f_out s.f_blkLen s.f_blkWeak s.f_blkStrong s.f_head (wr s.f_next v1 (-1 : Int32)) s.f_kinds s.f_values s.f_blockSize s.f_basisLen s.f_targetLen s.f_literalLen s.f_outLen s.f_blocks s.f_ops v1 s.f_winPos s.f_winA s.f_winB s.f_phaseNow) v1) else none)) else none))
theorem ln_j_buildIndex_l34 : ∀ {n : Nat} {s : Q} {v1 : Int32} {res : Q}, j_buildIndex_l34 n s v1 = some res → j_buildIndex_l34_N s res := by
  intro n
  induction n with
  | zero => intro _ _ res h; cases h
  | succ n hrec0 =>
    have hrec : ∀ (s : Q) (v1 : Int32) {res : Q}, j_buildIndex_l34 n s v1 = some res → j_buildIndex_l34_N s res := by intros; apply hrec0; assumption
    intro s v1 res h
    rw [j_buildIndex_l34] at h
    by_cases hc73 : v1 < (0 : Int32)
    · rw [if_pos hc73] at h
      have hr0 := Option.some.inj h
      subst hr0
      show Q.len s = _
      exact rfl
    · rw [if_neg hc73] at h
      obtain ⟨hb74, h⟩ := ite_some h
      by_cases hc76 : (rd s.f_blkLen v1) = s.f_blockSize
      · rw [if_pos hc76] at h
        obtain ⟨hb77, h⟩ := ite_some h
        obtain ⟨hb78, h⟩ := ite_some h
        obtain ⟨hb79, h⟩ := ite_some h
        obtain ⟨hb80, h⟩ := ite_some h
        exact Eq.trans (ln_j_buildIndex_b96 hrec h) (Eq.trans (show Q.len (Q.mk s.f_basis s.f_target s.f_literal s.f_out s.f_blkLen s.f_blkWeak s.f_blkStrong (wr s.f_head (j_bucketOf (rd s.f_blkWeak v1)) v1) (wr s.f_next v1 (rd s.f_head (j_bucketOf (rd s.f_blkWeak v1)))) s.f_kinds s.f_values s.f_blockSize s.f_basisLen s.f_targetLen s.f_literalLen s.f_outLen s.f_blocks s.f_ops s.f_shortBlock s.f_winPos s.f_winA s.f_winB s.f_phaseNow) = Q.len s from own_lenmk.trans (by first | (simp only [len_wr, len_wrL] <;> rfl) | rfl)) rfl)
      · rw [if_neg hc76] at h
        obtain ⟨hb81, h⟩ := ite_some h
        exact Eq.trans (ln_j_buildIndex_b96 hrec h) (Eq.trans (show Q.len (Q.mk s.f_basis s.f_target s.f_literal s.f_out s.f_blkLen s.f_blkWeak s.f_blkStrong s.f_head (wr s.f_next v1 (-1 : Int32)) s.f_kinds s.f_values s.f_blockSize s.f_basisLen s.f_targetLen s.f_literalLen s.f_outLen s.f_blocks s.f_ops v1 s.f_winPos s.f_winA s.f_winB s.f_phaseNow) = Q.len s from own_lenmk.trans (by first | (simp only [len_wr, len_wrL] <;> rfl) | rfl)) rfl)
set_option maxRecDepth 100000 in
theorem ev_j_buildIndex_l34 (R : AHeap) : ∀ (n : Nat) (s : Q) (v1 : Int32) {res : Q} {out : Option Value × AHeap}, j_buildIndex_l34 n s v1 = some res → j_buildIndex_l34_K R res out → Eval own_P 8 34 [some (.ref 0), some (.int v1), none] [] (W1 s R) out := by
  intro n
  induction n with
  | zero => intro _ _ res out h hk; cases h
  | succ n hrec =>
    intro s v1 res out h hk
    rw [j_buildIndex_l34] at h
    refine Eval.iload_n rfl rfl ?_
    by_cases hc73 : v1 < (0 : Int32)
    · rw [if_pos hc73] at h
      refine Eval.ifT (t := 102) rfl rfl (tlt hc73).1 ?_
      cases h
      refine Eval.weak (L' := [none, none, none]) ⟨_, _, rfl, Or.inl rfl, _, _, rfl, Or.inl rfl, _, _, rfl, Or.inl rfl, rfl⟩ ?_
      exact hk
    · rw [if_neg hc73] at h
      refine Eval.ifF rfl (flt hc73).1 ?_
      refine Eval.aload_n rfl rfl ?_
      refine Eval.getfield rfl rfl own_g1_blkLen ?_
      refine Eval.iload_n rfl rfl ?_
      obtain ⟨hb74, h⟩ := ite_some h
      refine Eval.iaload rfl own_a1_blkLen hb74 ?_
      refine Eval.aload_n rfl rfl ?_
      refine Eval.getfield rfl rfl own_g1_blockSize ?_
      by_cases hc76 : (rd s.f_blkLen v1) = s.f_blockSize
      · rw [if_pos hc76] at h
        refine Eval.icmpF rfl (teq hc76).2 ?_
        refine Eval.aload_n rfl rfl ?_
        refine Eval.aload_n rfl rfl ?_
        refine Eval.getfield rfl rfl own_g1_blkWeak ?_
        refine Eval.iload_n rfl rfl ?_
        obtain ⟨hb77, h⟩ := ite_some h
        refine Eval.iaload rfl own_a1_blkWeak hb77 ?_
        refine Eval.callI (rest := []) (x := (j_bucketOf (rd s.f_blkWeak v1))) (H1 := (W1 s R)) rfl rfl (ev_j_bucketOf (W1 s R) 0 (rd s.f_blkWeak v1) rfl rfl) ?_
        refine Eval.istore_n (L' := [some (.ref 0), some (.int v1), some (.int (j_bucketOf (rd s.f_blkWeak v1)))]) rfl rfl ?_
        refine Eval.aload_n rfl rfl ?_
        refine Eval.getfield rfl rfl own_g1_next ?_
        refine Eval.iload_n rfl rfl ?_
        refine Eval.aload_n rfl rfl ?_
        refine Eval.getfield rfl rfl own_g1_head ?_
        refine Eval.iload_n rfl rfl ?_
        obtain ⟨hb78, h⟩ := ite_some h
        refine Eval.iaload rfl own_a1_head hb78 ?_
        obtain ⟨hb79, h⟩ := ite_some h
        refine Eval.iastore rfl rfl own_a1_next hb79 own_s1_next ?_
        refine Eval.aload_n rfl rfl ?_
        refine Eval.getfield rfl rfl own_g1_head ?_
        refine Eval.iload_n rfl rfl ?_
        refine Eval.iload_n rfl rfl ?_
        obtain ⟨hb80, h⟩ := ite_some h
        refine Eval.iastore rfl rfl own_a1_head hb80 own_s1_head ?_
        refine Eval.goto (t := 96) rfl rfl ?_
        refine Eval.heap own_mk1 ?_
        refine Eval.weak (L' := [some (.ref 0), some (.int v1), none]) ⟨_, _, rfl, Or.inr rfl, _, _, rfl, Or.inr rfl, _, _, rfl, Or.inl rfl, rfl⟩ ?_
        exact ev_j_buildIndex_b96 R _ hrec (Q.mk s.f_basis s.f_target s.f_literal s.f_out s.f_blkLen s.f_blkWeak s.f_blkStrong (wr s.f_head (j_bucketOf (rd s.f_blkWeak v1)) v1) (wr s.f_next v1 (rd s.f_head (j_bucketOf (rd s.f_blkWeak v1)))) s.f_kinds s.f_values s.f_blockSize s.f_basisLen s.f_targetLen s.f_literalLen s.f_outLen s.f_blocks s.f_ops s.f_shortBlock s.f_winPos s.f_winA s.f_winB s.f_phaseNow) v1 h hk
      · rw [if_neg hc76] at h
        refine Eval.icmpT (t := 84) rfl rfl (feq hc76).2 ?_
        refine Eval.aload_n rfl rfl ?_
        refine Eval.getfield rfl rfl own_g1_next ?_
        refine Eval.iload_n rfl rfl ?_
        refine Eval.iconst (x := (-1 : Int32)) rfl rfl ?_
        obtain ⟨hb81, h⟩ := ite_some h
        refine Eval.iastore rfl rfl own_a1_next hb81 own_s1_next ?_
        refine Eval.aload_n rfl rfl ?_
        refine Eval.iload_n rfl rfl ?_
        refine Eval.putfield rfl rfl own_p1_shortBlock ?_
        refine Eval.heap own_mk1 ?_
        exact ev_j_buildIndex_b96 R _ hrec (Q.mk s.f_basis s.f_target s.f_literal s.f_out s.f_blkLen s.f_blkWeak s.f_blkStrong s.f_head (wr s.f_next v1 (-1 : Int32)) s.f_kinds s.f_values s.f_blockSize s.f_basisLen s.f_targetLen s.f_literalLen s.f_outLen s.f_blocks s.f_ops v1 s.f_winPos s.f_winA s.f_winB s.f_phaseNow) v1 h hk
def j_buildIndex (s : Q) : Option (Q) := ((j_buildIndex_l2 3000 s (0 : Int32)).bind fun p70 => ((j_buildIndex_l34 3000 (Q.mk p70.f_basis p70.f_target p70.f_literal p70.f_out p70.f_blkLen p70.f_blkWeak p70.f_blkStrong p70.f_head p70.f_next p70.f_kinds p70.f_values p70.f_blockSize p70.f_basisLen p70.f_targetLen p70.f_literalLen p70.f_outLen p70.f_blocks p70.f_ops (-1 : Int32) p70.f_winPos p70.f_winA p70.f_winB p70.f_phaseNow) (p70.f_blocks - (1 : Int32))).bind fun p82 => some (p82)))
theorem ln_j_buildIndex {s : Q} {res : Q} (h : j_buildIndex s = some res) : Q.len res = Q.len s := by
  rw [j_buildIndex] at h
  obtain ⟨p70, hq71, h⟩ := bind_some h
  have hl72 : Q.len p70 = _ := Eq.trans (ln_j_buildIndex_l2 hq71) rfl
  obtain ⟨p82, hq83, h⟩ := bind_some h
  have hl84 : Q.len p82 = _ := Eq.trans (ln_j_buildIndex_l34 hq83) (Eq.trans (show Q.len (Q.mk p70.f_basis p70.f_target p70.f_literal p70.f_out p70.f_blkLen p70.f_blkWeak p70.f_blkStrong p70.f_head p70.f_next p70.f_kinds p70.f_values p70.f_blockSize p70.f_basisLen p70.f_targetLen p70.f_literalLen p70.f_outLen p70.f_blocks p70.f_ops (-1 : Int32) p70.f_winPos p70.f_winA p70.f_winB p70.f_phaseNow) = Q.len p70 from own_lenmk.trans (by first | (simp only [len_wr, len_wrL] <;> rfl) | rfl)) hl72)
  have hr0 := Option.some.inj h
  subst hr0
  show Q.len p82 = _
  exact hl84
set_option maxRecDepth 100000 in
theorem ev_j_buildIndex (R : AHeap) (s : Q) {res : Q} {out : Option Value × AHeap} (h : j_buildIndex s = some res) (hk : out = (none, (W1 res R))) : Eval own_P 8 0 [some (.ref 0), none, none] [] (W1 s R) out := by
  rw [j_buildIndex] at h
  refine Eval.iconst (x := (0 : Int32)) rfl rfl ?_
  refine Eval.istore_n (L' := [some (.ref 0), some (.int (0 : Int32)), none]) rfl rfl ?_
  obtain ⟨p70, hq71, h⟩ := bind_some h
  refine ev_j_buildIndex_l2 R _ s (0 : Int32) hq71 ?_
  show Eval own_P 8 22 [some (.ref 0), none, none] [] (W1 p70 R) out
  refine Eval.aload_n rfl rfl ?_
  refine Eval.iconst (x := (-1 : Int32)) rfl rfl ?_
  refine Eval.putfield rfl rfl own_p1_shortBlock ?_
  refine Eval.aload_n rfl rfl ?_
  refine Eval.getfield rfl rfl own_g1_blocks ?_
  refine Eval.iconst (x := (1 : Int32)) rfl rfl ?_
  refine Eval.isub rfl ?_
  refine Eval.istore_n (L' := [some (.ref 0), some (.int (p70.f_blocks - (1 : Int32))), none]) rfl rfl ?_
  refine Eval.heap own_mk1 ?_
  obtain ⟨p82, hq83, h⟩ := bind_some h
  refine ev_j_buildIndex_l34 R _ (Q.mk p70.f_basis p70.f_target p70.f_literal p70.f_out p70.f_blkLen p70.f_blkWeak p70.f_blkStrong p70.f_head p70.f_next p70.f_kinds p70.f_values p70.f_blockSize p70.f_basisLen p70.f_targetLen p70.f_literalLen p70.f_outLen p70.f_blocks p70.f_ops (-1 : Int32) p70.f_winPos p70.f_winA p70.f_winB p70.f_phaseNow) (p70.f_blocks - (1 : Int32)) hq83 ?_
  show Eval own_P 8 102 [none, none, none] [] (W1 p82 R) out
  cases h
  subst hk
  exact Eval.ret rfl rfl
def j_sign_b56 (s : Q) (v1 : Int32) : Option (Int32 × Q) := ((j_sign_l58 3000 s v1 (0 : Int32)).bind fun p65 => ((j_buildIndex p65).bind fun p85 => some (p85.f_blocks, (Q.mk p85.f_basis p85.f_target p85.f_literal p85.f_out p85.f_blkLen p85.f_blkWeak p85.f_blkStrong p85.f_head p85.f_next p85.f_kinds p85.f_values p85.f_blockSize p85.f_basisLen p85.f_targetLen p85.f_literalLen p85.f_outLen p85.f_blocks p85.f_ops p85.f_shortBlock p85.f_winPos p85.f_winA p85.f_winB (1 : Int32)))))
theorem ln_j_sign_b56 {s : Q} {v1 : Int32} {res : Int32 × Q} (h : j_sign_b56 s v1 = some res) : Q.len res.2 = Q.len s := by
  rw [j_sign_b56] at h
  obtain ⟨p65, hq66, h⟩ := bind_some h
  have hl67 : Q.len p65 = _ := Eq.trans (ln_j_sign_l58 hq66) rfl
  obtain ⟨p85, hq86, h⟩ := bind_some h
  have hl87 := (ln_j_buildIndex hq86).trans hl67
  have hr0 := Option.some.inj h
  subst hr0
  show Q.len (Q.mk p85.f_basis p85.f_target p85.f_literal p85.f_out p85.f_blkLen p85.f_blkWeak p85.f_blkStrong p85.f_head p85.f_next p85.f_kinds p85.f_values p85.f_blockSize p85.f_basisLen p85.f_targetLen p85.f_literalLen p85.f_outLen p85.f_blocks p85.f_ops p85.f_shortBlock p85.f_winPos p85.f_winA p85.f_winB (1 : Int32)) = _
  exact (Eq.trans (show Q.len (Q.mk p85.f_basis p85.f_target p85.f_literal p85.f_out p85.f_blkLen p85.f_blkWeak p85.f_blkStrong p85.f_head p85.f_next p85.f_kinds p85.f_values p85.f_blockSize p85.f_basisLen p85.f_targetLen p85.f_literalLen p85.f_outLen p85.f_blocks p85.f_ops p85.f_shortBlock p85.f_winPos p85.f_winA p85.f_winB (1 : Int32)) = Q.len p85 from own_lenmk.trans (by first | (simp only [len_wr, len_wrL] <;> rfl) | rfl)) hl87)
set_option maxRecDepth 100000 in
theorem ev_j_sign_b56 (R : AHeap) (s : Q) (v1 : Int32) {res : Int32 × Q} {out : Option Value × AHeap} (h : j_sign_b56 s v1 = some res) (hk : out = (some (.int res.1), (W1 res.2 R))) : Eval own_P 4 56 [some (.ref 0), some (.int v1), none, none, none] [] (W1 s R) out := by
  rw [j_sign_b56] at h
  refine Eval.iconst (x := (0 : Int32)) rfl rfl ?_
  refine Eval.istore_n (L' := [some (.ref 0), some (.int v1), some (.int (0 : Int32)), none, none]) rfl rfl ?_
  obtain ⟨p65, hq66, h⟩ := bind_some h
  refine ev_j_sign_l58 R _ s v1 (0 : Int32) hq66 ?_
  show Eval own_P 4 138 [some (.ref 0), none, none, none, none] [] (W1 p65 R) out
  refine Eval.aload_n rfl rfl ?_
  obtain ⟨p85, hq86, h⟩ := bind_some h
  refine Eval.callN (rest := []) (H1 := (W1 p85 R)) rfl rfl (ev_j_buildIndex R p65 hq86 rfl) ?_
  refine Eval.aload_n rfl rfl ?_
  refine Eval.iconst (x := (1 : Int32)) rfl rfl ?_
  refine Eval.putfield rfl rfl own_p1_phaseNow ?_
  refine Eval.aload_n rfl rfl ?_
  refine Eval.getfield rfl rfl own_g1_blocks ?_
  cases h
  subst hk
  exact Eval.retH own_mk1 rfl rfl
def j_sign_b36 (s : Q) (v1 : Int32) (w1 : Int32) : Option (Int32 × Q) := (if (128 : Int32) < w1 then (j_sign_b56 (Q.mk s.f_basis s.f_target s.f_literal s.f_out s.f_blkLen s.f_blkWeak s.f_blkStrong s.f_head s.f_next s.f_kinds s.f_values s.f_blockSize s.f_basisLen s.f_targetLen s.f_literalLen s.f_outLen (128 : Int32) s.f_ops s.f_shortBlock s.f_winPos s.f_winA s.f_winB s.f_phaseNow) v1) else (j_sign_b56 (Q.mk s.f_basis s.f_target s.f_literal s.f_out s.f_blkLen s.f_blkWeak s.f_blkStrong s.f_head s.f_next s.f_kinds s.f_values s.f_blockSize s.f_basisLen s.f_targetLen s.f_literalLen s.f_outLen w1 s.f_ops s.f_shortBlock s.f_winPos s.f_winA s.f_winB s.f_phaseNow) v1))
theorem ln_j_sign_b36 {s : Q} {v1 : Int32} {w1 : Int32} {res : Int32 × Q} (h : j_sign_b36 s v1 w1 = some res) : Q.len res.2 = Q.len s := by
  rw [j_sign_b36] at h
  by_cases hc38 : (128 : Int32) < w1
  · rw [if_pos hc38] at h
    exact Eq.trans (ln_j_sign_b56 h) (Eq.trans (show Q.len (Q.mk s.f_basis s.f_target s.f_literal s.f_out s.f_blkLen s.f_blkWeak s.f_blkStrong s.f_head s.f_next s.f_kinds s.f_values s.f_blockSize s.f_basisLen s.f_targetLen s.f_literalLen s.f_outLen (128 : Int32) s.f_ops s.f_shortBlock s.f_winPos s.f_winA s.f_winB s.f_phaseNow) = Q.len s from own_lenmk.trans (by first | (simp only [len_wr, len_wrL] <;> rfl) | rfl)) rfl)
  · rw [if_neg hc38] at h
    exact Eq.trans (ln_j_sign_b56 h) (Eq.trans (show Q.len (Q.mk s.f_basis s.f_target s.f_literal s.f_out s.f_blkLen s.f_blkWeak s.f_blkStrong s.f_head s.f_next s.f_kinds s.f_values s.f_blockSize s.f_basisLen s.f_targetLen s.f_literalLen s.f_outLen w1 s.f_ops s.f_shortBlock s.f_winPos s.f_winA s.f_winB s.f_phaseNow) = Q.len s from own_lenmk.trans (by first | (simp only [len_wr, len_wrL] <;> rfl) | rfl)) rfl)
set_option maxRecDepth 100000 in
theorem ev_j_sign_b36 (R : AHeap) (s : Q) (v1 : Int32) (w1 : Int32) {res : Int32 × Q} {out : Option Value × AHeap} (h : j_sign_b36 s v1 w1 = some res) (hk : out = (some (.int res.1), (W1 res.2 R))) : Eval own_P 4 36 [some (.ref 0), some (.int v1), none, none, none] [.int w1, .ref 0] (W1 s R) out := by
  rw [j_sign_b36] at h
  refine Eval.putfield rfl rfl own_p1_blocks ?_
  refine Eval.aload_n rfl rfl ?_
  refine Eval.getfield rfl rfl own_g1_blocks ?_
  refine Eval.sipush (x := (128 : Int32)) rfl rfl ?_
  by_cases hc38 : (128 : Int32) < w1
  · rw [if_pos hc38] at h
    refine Eval.icmpF rfl (tlt hc38).2.2.2 ?_
    refine Eval.aload_n rfl rfl ?_
    refine Eval.sipush (x := (128 : Int32)) rfl rfl ?_
    refine Eval.putfield rfl rfl own_p1_blocks ?_
    refine Eval.heap own_mk1 ?_
    exact ev_j_sign_b56 R (Q.mk s.f_basis s.f_target s.f_literal s.f_out s.f_blkLen s.f_blkWeak s.f_blkStrong s.f_head s.f_next s.f_kinds s.f_values s.f_blockSize s.f_basisLen s.f_targetLen s.f_literalLen s.f_outLen (128 : Int32) s.f_ops s.f_shortBlock s.f_winPos s.f_winA s.f_winB s.f_phaseNow) v1 h hk
  · rw [if_neg hc38] at h
    refine Eval.icmpT (t := 56) rfl rfl (flt hc38).2.2.2 ?_
    refine Eval.heap own_mk1 ?_
    exact ev_j_sign_b56 R (Q.mk s.f_basis s.f_target s.f_literal s.f_out s.f_blkLen s.f_blkWeak s.f_blkStrong s.f_head s.f_next s.f_kinds s.f_values s.f_blockSize s.f_basisLen s.f_targetLen s.f_literalLen s.f_outLen w1 s.f_ops s.f_shortBlock s.f_winPos s.f_winA s.f_winB s.f_phaseNow) v1 h hk
def j_sign (s : Q) : Option (Int32 × Q) := (if s.f_phaseNow = (0 : Int32) then (if s.f_basisLen = (0 : Int32) then (j_sign_b36 s s.f_blockSize (0 : Int32)) else (if s.f_blockSize = (0 : Int32) then none else (j_sign_b36 s s.f_blockSize (((s.f_basisLen + s.f_blockSize) - (1 : Int32)) / s.f_blockSize)))) else some ((-1 : Int32), s))
theorem ln_j_sign {s : Q} {res : Int32 × Q} (h : j_sign s = some res) : Q.len res.2 = Q.len s := by
  rw [j_sign] at h
  by_cases hc34 : s.f_phaseNow = (0 : Int32)
  · rw [if_pos hc34] at h
    by_cases hc36 : s.f_basisLen = (0 : Int32)
    · rw [if_pos hc36] at h
      exact Eq.trans (ln_j_sign_b36 h) rfl
    · rw [if_neg hc36] at h
      obtain ⟨hz88, h⟩ := ite_none h
      exact Eq.trans (ln_j_sign_b36 h) rfl
  · rw [if_neg hc34] at h
    have hr0 := Option.some.inj h
    subst hr0
    show Q.len s = _
    exact rfl
set_option maxRecDepth 100000 in
theorem ev_j_sign (R : AHeap) (s : Q) {res : Int32 × Q} {out : Option Value × AHeap} (h : j_sign s = some res) (hk : out = (some (.int res.1), (W1 res.2 R))) : Eval own_P 4 0 [some (.ref 0), none, none, none, none] [] (W1 s R) out := by
  rw [j_sign] at h
  refine Eval.aload_n rfl rfl ?_
  refine Eval.getfield rfl rfl own_g1_phaseNow ?_
  by_cases hc34 : s.f_phaseNow = (0 : Int32)
  · rw [if_pos hc34] at h
    refine Eval.ifT (t := 9) rfl rfl (teq hc34).1 ?_
    refine Eval.aload_n rfl rfl ?_
    refine Eval.getfield rfl rfl own_g1_blockSize ?_
    refine Eval.istore_n (L' := [some (.ref 0), some (.int s.f_blockSize), none, none, none]) rfl rfl ?_
    refine Eval.aload_n rfl rfl ?_
    refine Eval.aload_n rfl rfl ?_
    refine Eval.getfield rfl rfl own_g1_basisLen ?_
    by_cases hc36 : s.f_basisLen = (0 : Int32)
    · rw [if_pos hc36] at h
      refine Eval.ifF rfl (teq hc36).2 ?_
      refine Eval.iconst (x := (0 : Int32)) rfl rfl ?_
      refine Eval.goto (t := 36) rfl rfl ?_
      exact ev_j_sign_b36 R s s.f_blockSize (0 : Int32) h hk
    · rw [if_neg hc36] at h
      refine Eval.ifT (t := 26) rfl rfl (feq hc36).2 ?_
      refine Eval.aload_n rfl rfl ?_
      refine Eval.getfield rfl rfl own_g1_basisLen ?_
      refine Eval.iload_n rfl rfl ?_
      refine Eval.iadd rfl ?_
      refine Eval.iconst (x := (1 : Int32)) rfl rfl ?_
      refine Eval.isub rfl ?_
      refine Eval.iload_n rfl rfl ?_
      obtain ⟨hz88, h⟩ := ite_none h
      refine Eval.idiv rfl hz88 ?_
      exact ev_j_sign_b36 R s s.f_blockSize (((s.f_basisLen + s.f_blockSize) - (1 : Int32)) / s.f_blockSize) h hk
  · rw [if_neg hc34] at h
    refine Eval.ifF rfl (feq hc34).1 ?_
    refine Eval.iconst (x := (-1 : Int32)) rfl rfl ?_
    cases h
    subst hk
    exact Eval.ret rfl rfl
def j_phase (s : Q) : Int32 := (s.f_phaseNow)
set_option maxRecDepth 100000 in
theorem ev_j_phase (R : AHeap) (s : Q) {res : Int32} {out : Option Value × AHeap} (h : j_phase s = res) (hk : out = (some (.int res), (W1 s R))) : Eval own_P 10 0 [some (.ref 0)] [] (W1 s R) out := by
  rw [j_phase] at h
  refine Eval.aload_n rfl rfl ?_
  refine Eval.getfield rfl rfl own_g1_phaseNow ?_
  subst h
  subst hk
  exact Eval.ret rfl rfl
def j_blockCount (s : Q) : Int32 := (s.f_blocks)
set_option maxRecDepth 100000 in
theorem ev_j_blockCount (R : AHeap) (s : Q) {res : Int32} {out : Option Value × AHeap} (h : j_blockCount s = res) (hk : out = (some (.int res), (W1 s R))) : Eval own_P 11 0 [some (.ref 0)] [] (W1 s R) out := by
  rw [j_blockCount] at h
  refine Eval.aload_n rfl rfl ?_
  refine Eval.getfield rfl rfl own_g1_blocks ?_
  subst h
  subst hk
  exact Eval.ret rfl rfl
def j_blockLength (s : Q) (v1 : Int32) : Option (Int32) := (if v1 < (0 : Int32) then some ((-1 : Int32)) else (if v1 < s.f_blocks then (if inb s.f_blkLen.length v1 = true then some ((rd s.f_blkLen v1)) else none) else some ((-1 : Int32))))
set_option maxRecDepth 100000 in
theorem ev_j_blockLength (R : AHeap) (s : Q) (v1 : Int32) {res : Int32} {out : Option Value × AHeap} (h : j_blockLength s v1 = some res) (hk : out = (some (.int res), (W1 s R))) : Eval own_P 12 0 [some (.ref 0), some (.int v1)] [] (W1 s R) out := by
  rw [j_blockLength] at h
  refine Eval.iload_n rfl rfl ?_
  by_cases hc97 : v1 < (0 : Int32)
  · rw [if_pos hc97] at h
    refine Eval.ifT (t := 12) rfl rfl (tlt hc97).1 ?_
    refine Eval.iconst (x := (-1 : Int32)) rfl rfl ?_
    cases h
    subst hk
    exact Eval.ret rfl rfl
  · rw [if_neg hc97] at h
    refine Eval.ifF rfl (flt hc97).1 ?_
    refine Eval.iload_n rfl rfl ?_
    refine Eval.aload_n rfl rfl ?_
    refine Eval.getfield rfl rfl own_g1_blocks ?_
    by_cases hc98 : v1 < s.f_blocks
    · rw [if_pos hc98] at h
      refine Eval.icmpT (t := 14) rfl rfl (tlt hc98).1 ?_
      refine Eval.aload_n rfl rfl ?_
      refine Eval.getfield rfl rfl own_g1_blkLen ?_
      refine Eval.iload_n rfl rfl ?_
      obtain ⟨hb99, h⟩ := ite_some h
      refine Eval.iaload rfl own_a1_blkLen hb99 ?_
      cases h
      subst hk
      exact Eval.ret rfl rfl
    · rw [if_neg hc98] at h
      refine Eval.icmpF rfl (flt hc98).1 ?_
      refine Eval.iconst (x := (-1 : Int32)) rfl rfl ?_
      cases h
      subst hk
      exact Eval.ret rfl rfl
def j_length (s : Q) (v1 : Int32) : Int32 := (if v1 = (0 : Int32) then (s.f_basisLen) else (if v1 = (1 : Int32) then (s.f_targetLen) else (if v1 = (2 : Int32) then (s.f_literalLen) else (if v1 = (3 : Int32) then (s.f_outLen) else ((-1 : Int32))))))
set_option maxRecDepth 100000 in
theorem ev_j_length (R : AHeap) (s : Q) (v1 : Int32) {res : Int32} {out : Option Value × AHeap} (h : j_length s v1 = res) (hk : out = (some (.int res), (W1 s R))) : Eval own_P 13 0 [some (.ref 0), some (.int v1)] [] (W1 s R) out := by
  rw [j_length] at h
  refine Eval.iload_n rfl rfl ?_
  by_cases hc111 : v1 = (0 : Int32)
  · rw [if_pos hc111] at h
    refine Eval.ifF rfl (teq hc111).2 ?_
    refine Eval.aload_n rfl rfl ?_
    refine Eval.getfield rfl rfl own_g1_basisLen ?_
    subst h
    subst hk
    exact Eval.ret rfl rfl
  · rw [if_neg hc111] at h
    refine Eval.ifT (t := 9) rfl rfl (feq hc111).2 ?_
    refine Eval.iload_n rfl rfl ?_
    refine Eval.iconst (x := (1 : Int32)) rfl rfl ?_
    by_cases hc112 : v1 = (1 : Int32)
    · rw [if_pos hc112] at h
      refine Eval.icmpF rfl (teq hc112).2 ?_
      refine Eval.aload_n rfl rfl ?_
      refine Eval.getfield rfl rfl own_g1_targetLen ?_
      subst h
      subst hk
      exact Eval.ret rfl rfl
    · rw [if_neg hc112] at h
      refine Eval.icmpT (t := 19) rfl rfl (feq hc112).2 ?_
      refine Eval.iload_n rfl rfl ?_
      refine Eval.iconst (x := (2 : Int32)) rfl rfl ?_
      by_cases hc113 : v1 = (2 : Int32)
      · rw [if_pos hc113] at h
        refine Eval.icmpF rfl (teq hc113).2 ?_
        refine Eval.aload_n rfl rfl ?_
        refine Eval.getfield rfl rfl own_g1_literalLen ?_
        subst h
        subst hk
        exact Eval.ret rfl rfl
      · rw [if_neg hc113] at h
        refine Eval.icmpT (t := 29) rfl rfl (feq hc113).2 ?_
        refine Eval.iload_n rfl rfl ?_
        refine Eval.iconst (x := (3 : Int32)) rfl rfl ?_
        by_cases hc114 : v1 = (3 : Int32)
        · rw [if_pos hc114] at h
          refine Eval.icmpF rfl (teq hc114).2 ?_
          refine Eval.aload_n rfl rfl ?_
          refine Eval.getfield rfl rfl own_g1_outLen ?_
          subst h
          subst hk
          exact Eval.ret rfl rfl
        · rw [if_neg hc114] at h
          refine Eval.icmpT (t := 39) rfl rfl (feq hc114).2 ?_
          refine Eval.iconst (x := (-1 : Int32)) rfl rfl ?_
          subst h
          subst hk
          exact Eval.ret rfl rfl
def law_b194 (s : Q) (v3 : Int32) (v4 : Int32) (v8 : Int32) (w0 : Int32) : Option (Int32 × Q) := ((j_blockLength s (1 : Int32)).bind fun p105 => (if p105 = w0 then ((j_appendBasis s v3 v4).bind fun p108 => (if p108.1 = (-1 : Int32) then (if (j_length p108.2 (0 : Int32)) = v8 then ((j_sign p108.2).bind fun p116 => (if p116.1 = (-1 : Int32) then (if (j_phase p116.2) = (1 : Int32) then some ((1 : Int32), p116.2) else some ((0 : Int32), p116.2)) else some ((0 : Int32), p116.2))) else some ((0 : Int32), p108.2)) else some ((0 : Int32), p108.2))) else some ((0 : Int32), s)))
set_option maxRecDepth 100000 in
theorem ev_law_b194 (s : Q) (v3 : Int32) (v4 : Int32) (v8 : Int32) (w0 : Int32) {res : Int32 × Q} {out : Option Value × AHeap} (h : law_b194 s v3 v4 v8 w0 = some res) (hk : out = (some (.int res.1), (W1 res.2 []))) : Eval own_P 0 194 [none, none, none, some (.int v3), some (.int v4), some (.ref 0), none, none, some (.int v8), none, none, none] [.int w0] (W1 s []) out := by
  rw [law_b194] at h
  refine Eval.istore (L' := [none, none, none, some (.int v3), some (.int v4), some (.ref 0), none, none, some (.int v8), none, none, some (.int w0)]) rfl rfl ?_
  refine Eval.aload rfl rfl ?_
  refine Eval.iconst (x := (1 : Int32)) rfl rfl ?_
  obtain ⟨p105, hq106, h⟩ := bind_some h
  refine Eval.callI (rest := []) (x := p105) (H1 := (W1 s [])) rfl rfl (ev_j_blockLength [] s (1 : Int32) hq106 rfl) ?_
  refine Eval.iload rfl rfl ?_
  by_cases hc107 : p105 = w0
  · rw [if_pos hc107] at h
    refine Eval.icmpT (t := 209) rfl rfl (teq hc107).1 ?_
    refine Eval.aload rfl rfl ?_
    refine Eval.iload_n rfl rfl ?_
    refine Eval.iload rfl rfl ?_
    obtain ⟨p108, hq109, h⟩ := bind_some h
    refine Eval.callI (rest := []) (x := p108.1) (H1 := (W1 p108.2 [])) rfl rfl (ev_j_appendBasis [] s v3 v4 hq109 rfl) ?_
    refine Eval.iconst (x := (-1 : Int32)) rfl rfl ?_
    by_cases hc110 : p108.1 = (-1 : Int32)
    · rw [if_pos hc110] at h
      refine Eval.icmpT (t := 223) rfl rfl (teq hc110).1 ?_
      refine Eval.aload rfl rfl ?_
      refine Eval.iconst (x := (0 : Int32)) rfl rfl ?_
      refine Eval.callI (rest := []) (x := (j_length p108.2 (0 : Int32))) (H1 := (W1 p108.2 [])) rfl rfl (ev_j_length [] p108.2 (0 : Int32) rfl rfl) ?_
      refine Eval.iload rfl rfl ?_
      by_cases hc115 : (j_length p108.2 (0 : Int32)) = v8
      · rw [if_pos hc115] at h
        refine Eval.icmpT (t := 236) rfl rfl (teq hc115).1 ?_
        refine Eval.aload rfl rfl ?_
        obtain ⟨p116, hq117, h⟩ := bind_some h
        refine Eval.callI (rest := []) (x := p116.1) (H1 := (W1 p116.2 [])) rfl rfl (ev_j_sign [] p108.2 hq117 rfl) ?_
        refine Eval.iconst (x := (-1 : Int32)) rfl rfl ?_
        by_cases hc118 : p116.1 = (-1 : Int32)
        · rw [if_pos hc118] at h
          refine Eval.icmpT (t := 247) rfl rfl (teq hc118).1 ?_
          refine Eval.aload rfl rfl ?_
          refine Eval.callI (rest := []) (x := (j_phase p116.2)) (H1 := (W1 p116.2 [])) rfl rfl (ev_j_phase [] p116.2 rfl rfl) ?_
          refine Eval.iconst (x := (1 : Int32)) rfl rfl ?_
          by_cases hc119 : (j_phase p116.2) = (1 : Int32)
          · rw [if_pos hc119] at h
            refine Eval.icmpT (t := 258) rfl rfl (teq hc119).1 ?_
            refine Eval.iconst (x := (1 : Int32)) rfl rfl ?_
            cases h
            subst hk
            exact Eval.ret rfl rfl
          · rw [if_neg hc119] at h
            refine Eval.icmpF rfl (feq hc119).1 ?_
            refine Eval.iconst (x := (0 : Int32)) rfl rfl ?_
            cases h
            subst hk
            exact Eval.ret rfl rfl
        · rw [if_neg hc118] at h
          refine Eval.icmpF rfl (feq hc118).1 ?_
          refine Eval.iconst (x := (0 : Int32)) rfl rfl ?_
          cases h
          subst hk
          exact Eval.ret rfl rfl
      · rw [if_neg hc115] at h
        refine Eval.icmpF rfl (feq hc115).1 ?_
        refine Eval.iconst (x := (0 : Int32)) rfl rfl ?_
        cases h
        subst hk
        exact Eval.ret rfl rfl
    · rw [if_neg hc110] at h
      refine Eval.icmpF rfl (feq hc110).1 ?_
      refine Eval.iconst (x := (0 : Int32)) rfl rfl ?_
      cases h
      subst hk
      exact Eval.ret rfl rfl
  · rw [if_neg hc107] at h
    refine Eval.icmpF rfl (feq hc107).1 ?_
    refine Eval.iconst (x := (0 : Int32)) rfl rfl ?_
    cases h
    subst hk
    exact Eval.ret rfl rfl
def law_b164 (s : Q) (v3 : Int32) (v4 : Int32) (v6 : Int32) (v8 : Int32) (v9 : Int32) (w0 : Int32) : Option (Int32 × Q) := ((j_blockLength s (0 : Int32)).bind fun p100 => (if p100 = w0 then (law_b194 s v3 v4 v8 (if v9 < (2 : Int32) then (-1 : Int32) else (v8 - v6))) else some ((0 : Int32), s)))
set_option maxRecDepth 100000 in
theorem ev_law_b164 (s : Q) (v3 : Int32) (v4 : Int32) (v6 : Int32) (v8 : Int32) (v9 : Int32) (w0 : Int32) {res : Int32 × Q} {out : Option Value × AHeap} (h : law_b164 s v3 v4 v6 v8 v9 w0 = some res) (hk : out = (some (.int res.1), (W1 res.2 []))) : Eval own_P 0 164 [none, none, none, some (.int v3), some (.int v4), some (.ref 0), some (.int v6), none, some (.int v8), some (.int v9), none, none] [.int w0] (W1 s []) out := by
  rw [law_b164] at h
  refine Eval.istore (L' := [none, none, none, some (.int v3), some (.int v4), some (.ref 0), some (.int v6), none, some (.int v8), some (.int v9), some (.int w0), none]) rfl rfl ?_
  refine Eval.aload rfl rfl ?_
  refine Eval.iconst (x := (0 : Int32)) rfl rfl ?_
  obtain ⟨p100, hq101, h⟩ := bind_some h
  refine Eval.callI (rest := []) (x := p100) (H1 := (W1 s [])) rfl rfl (ev_j_blockLength [] s (0 : Int32) hq101 rfl) ?_
  refine Eval.iload rfl rfl ?_
  by_cases hc102 : p100 = w0
  · rw [if_pos hc102] at h
    refine Eval.icmpT (t := 179) rfl rfl (teq hc102).1 ?_
    refine Eval.iload rfl rfl ?_
    refine Eval.iconst (x := (2 : Int32)) rfl rfl ?_
    suffices hJ104 : Eval own_P 0 194 [none, none, none, some (.int v3), some (.int v4), some (.ref 0), none, none, some (.int v8), none, none, none] [.int (if v9 < (2 : Int32) then (-1 : Int32) else (v8 - v6))] (W1 s []) out by
      by_cases hc103 : v9 < (2 : Int32)
      · refine Eval.icmpT (t := 193) rfl rfl (tlt hc103).1 ?_
        refine Eval.iconst (x := (-1 : Int32)) rfl rfl ?_
        refine Eval.weak (L' := [none, none, none, some (.int v3), some (.int v4), some (.ref 0), none, none, some (.int v8), none, none, none]) ⟨_, _, rfl, Or.inl rfl, _, _, rfl, Or.inl rfl, _, _, rfl, Or.inl rfl, _, _, rfl, Or.inr rfl, _, _, rfl, Or.inr rfl, _, _, rfl, Or.inr rfl, _, _, rfl, Or.inl rfl, _, _, rfl, Or.inl rfl, _, _, rfl, Or.inr rfl, _, _, rfl, Or.inl rfl, _, _, rfl, Or.inl rfl, _, _, rfl, Or.inl rfl, rfl⟩ ?_
        exact (Eval.conv hJ104 rfl (by simp only [if_pos hc103]))
      · refine Eval.icmpF rfl (flt hc103).1 ?_
        refine Eval.iload rfl rfl ?_
        refine Eval.iload rfl rfl ?_
        refine Eval.isub rfl ?_
        refine Eval.goto (t := 194) rfl rfl ?_
        refine Eval.weak (L' := [none, none, none, some (.int v3), some (.int v4), some (.ref 0), none, none, some (.int v8), none, none, none]) ⟨_, _, rfl, Or.inl rfl, _, _, rfl, Or.inl rfl, _, _, rfl, Or.inl rfl, _, _, rfl, Or.inr rfl, _, _, rfl, Or.inr rfl, _, _, rfl, Or.inr rfl, _, _, rfl, Or.inl rfl, _, _, rfl, Or.inl rfl, _, _, rfl, Or.inr rfl, _, _, rfl, Or.inl rfl, _, _, rfl, Or.inl rfl, _, _, rfl, Or.inl rfl, rfl⟩ ?_
        exact (Eval.conv hJ104 rfl (by simp only [if_neg hc103]))
    exact ev_law_b194 s v3 v4 v8 (if v9 < (2 : Int32) then (-1 : Int32) else (v8 - v6)) h hk
  · rw [if_neg hc102] at h
    refine Eval.icmpF rfl (feq hc102).1 ?_
    refine Eval.iconst (x := (0 : Int32)) rfl rfl ?_
    cases h
    subst hk
    exact Eval.ret rfl rfl
def law_b103 (s : Q) (v3 : Int32) (v4 : Int32) (v6 : Int32) (v8 : Int32) (w0 : Int32) : Option (Int32 × Q) := ((j_sign s).bind fun p89 => (if p89.1 = w0 then (if (j_phase p89.2) = (1 : Int32) then (if (j_blockCount p89.2) = w0 then (law_b164 p89.2 v3 v4 v6 v8 w0 (if w0 < (1 : Int32) then (-1 : Int32) else (if v8 < v6 then v8 else v6))) else some ((0 : Int32), p89.2)) else some ((0 : Int32), p89.2)) else some ((0 : Int32), p89.2)))
set_option maxRecDepth 100000 in
theorem ev_law_b103 (s : Q) (v3 : Int32) (v4 : Int32) (v6 : Int32) (v8 : Int32) (w0 : Int32) {res : Int32 × Q} {out : Option Value × AHeap} (h : law_b103 s v3 v4 v6 v8 w0 = some res) (hk : out = (some (.int res.1), (W1 res.2 []))) : Eval own_P 0 103 [none, none, none, some (.int v3), some (.int v4), some (.ref 0), some (.int v6), none, some (.int v8), none, none, none] [.int w0] (W1 s []) out := by
  rw [law_b103] at h
  refine Eval.istore (L' := [none, none, none, some (.int v3), some (.int v4), some (.ref 0), some (.int v6), none, some (.int v8), some (.int w0), none, none]) rfl rfl ?_
  refine Eval.aload rfl rfl ?_
  obtain ⟨p89, hq90, h⟩ := bind_some h
  refine Eval.callI (rest := []) (x := p89.1) (H1 := (W1 p89.2 [])) rfl rfl (ev_j_sign [] s hq90 rfl) ?_
  refine Eval.iload rfl rfl ?_
  by_cases hc91 : p89.1 = w0
  · rw [if_pos hc91] at h
    refine Eval.icmpT (t := 117) rfl rfl (teq hc91).1 ?_
    refine Eval.aload rfl rfl ?_
    refine Eval.callI (rest := []) (x := (j_phase p89.2)) (H1 := (W1 p89.2 [])) rfl rfl (ev_j_phase [] p89.2 rfl rfl) ?_
    refine Eval.iconst (x := (1 : Int32)) rfl rfl ?_
    by_cases hc92 : (j_phase p89.2) = (1 : Int32)
    · rw [if_pos hc92] at h
      refine Eval.icmpT (t := 128) rfl rfl (teq hc92).1 ?_
      refine Eval.aload rfl rfl ?_
      refine Eval.callI (rest := []) (x := (j_blockCount p89.2)) (H1 := (W1 p89.2 [])) rfl rfl (ev_j_blockCount [] p89.2 rfl rfl) ?_
      refine Eval.iload rfl rfl ?_
      by_cases hc93 : (j_blockCount p89.2) = w0
      · rw [if_pos hc93] at h
        refine Eval.icmpT (t := 140) rfl rfl (teq hc93).1 ?_
        refine Eval.iload rfl rfl ?_
        refine Eval.iconst (x := (1 : Int32)) rfl rfl ?_
        suffices hJ96 : Eval own_P 0 164 [none, none, none, some (.int v3), some (.int v4), some (.ref 0), some (.int v6), none, some (.int v8), some (.int w0), none, none] [.int (if w0 < (1 : Int32) then (-1 : Int32) else (if v8 < v6 then v8 else v6))] (W1 p89.2 []) out by
          by_cases hc94 : w0 < (1 : Int32)
          · refine Eval.icmpT (t := 163) rfl rfl (tlt hc94).1 ?_
            refine Eval.iconst (x := (-1 : Int32)) rfl rfl ?_
            exact (Eval.conv hJ96 rfl (by simp only [if_pos hc94]))
          · refine Eval.icmpF rfl (flt hc94).1 ?_
            refine Eval.iload rfl rfl ?_
            refine Eval.iload rfl rfl ?_
            by_cases hc95 : v8 < v6
            · refine Eval.icmpF rfl (tlt hc95).2.1 ?_
              refine Eval.iload rfl rfl ?_
              refine Eval.goto (t := 164) rfl rfl ?_
              exact (Eval.conv hJ96 rfl (by simp only [if_neg hc94, if_pos hc95]))
            · refine Eval.icmpT (t := 158) rfl rfl (flt hc95).2.1 ?_
              refine Eval.iload rfl rfl ?_
              refine Eval.goto (t := 164) rfl rfl ?_
              exact (Eval.conv hJ96 rfl (by simp only [if_neg hc94, if_neg hc95]))
        exact ev_law_b164 p89.2 v3 v4 v6 v8 w0 (if w0 < (1 : Int32) then (-1 : Int32) else (if v8 < v6 then v8 else v6)) h hk
      · rw [if_neg hc93] at h
        refine Eval.icmpF rfl (feq hc93).1 ?_
        refine Eval.iconst (x := (0 : Int32)) rfl rfl ?_
        cases h
        subst hk
        exact Eval.ret rfl rfl
    · rw [if_neg hc92] at h
      refine Eval.icmpF rfl (feq hc92).1 ?_
      refine Eval.iconst (x := (0 : Int32)) rfl rfl ?_
      cases h
      subst hk
      exact Eval.ret rfl rfl
  · rw [if_neg hc91] at h
    refine Eval.icmpF rfl (feq hc91).1 ?_
    refine Eval.iconst (x := (0 : Int32)) rfl rfl ?_
    cases h
    subst hk
    exact Eval.ret rfl rfl
def law_b79 (s : Q) (v3 : Int32) (v4 : Int32) (v6 : Int32) (v8 : Int32) (w0 : Int32) (w1 : Int32) : Option (Int32 × Q) := (if w0 = w1 then (if v8 = (0 : Int32) then (law_b103 s v3 v4 v6 v8 (0 : Int32)) else (if v6 = (0 : Int32) then none else (law_b103 s v3 v4 v6 v8 (((v8 + v6) - (1 : Int32)) / v6)))) else some ((0 : Int32), s))
set_option maxRecDepth 100000 in
theorem ev_law_b79 (s : Q) (v3 : Int32) (v4 : Int32) (v6 : Int32) (v8 : Int32) (w0 : Int32) (w1 : Int32) {res : Int32 × Q} {out : Option Value × AHeap} (h : law_b79 s v3 v4 v6 v8 w0 w1 = some res) (hk : out = (some (.int res.1), (W1 res.2 []))) : Eval own_P 0 79 [none, none, none, some (.int v3), some (.int v4), some (.ref 0), some (.int v6), none, some (.int v8), none, none, none] [.int w1, .int w0] (W1 s []) out := by
  rw [law_b79] at h
  by_cases hc31 : w0 = w1
  · rw [if_pos hc31] at h
    refine Eval.icmpT (t := 84) rfl rfl (teq hc31).1 ?_
    refine Eval.iload rfl rfl ?_
    by_cases hc33 : v8 = (0 : Int32)
    · rw [if_pos hc33] at h
      refine Eval.ifF rfl (teq hc33).2 ?_
      refine Eval.iconst (x := (0 : Int32)) rfl rfl ?_
      refine Eval.goto (t := 103) rfl rfl ?_
      exact ev_law_b103 s v3 v4 v6 v8 (0 : Int32) h hk
    · rw [if_neg hc33] at h
      refine Eval.ifT (t := 93) rfl rfl (feq hc33).2 ?_
      refine Eval.iload rfl rfl ?_
      refine Eval.iload rfl rfl ?_
      refine Eval.iadd rfl ?_
      refine Eval.iconst (x := (1 : Int32)) rfl rfl ?_
      refine Eval.isub rfl ?_
      refine Eval.iload rfl rfl ?_
      obtain ⟨hz120, h⟩ := ite_none h
      refine Eval.idiv rfl hz120 ?_
      exact ev_law_b103 s v3 v4 v6 v8 (((v8 + v6) - (1 : Int32)) / v6) h hk
  · rw [if_neg hc31] at h
    refine Eval.icmpF rfl (feq hc31).1 ?_
    refine Eval.iconst (x := (0 : Int32)) rfl rfl ?_
    cases h
    subst hk
    exact Eval.ret rfl rfl
def law_b60 (s : Q) (v1 : Int32) (v2 : Int32) (v3 : Int32) (v4 : Int32) (v6 : Int32) (v7 : Int32) (w0 : Int32) : Option (Int32 × Q) := ((j_appendBasis s v1 v2).bind fun p27 => (law_b79 p27.2 v3 v4 v6 w0 p27.1 (if v7 = (0 : Int32) then (-1 : Int32) else v2)))
set_option maxRecDepth 100000 in
theorem ev_law_b60 (s : Q) (v1 : Int32) (v2 : Int32) (v3 : Int32) (v4 : Int32) (v6 : Int32) (v7 : Int32) (w0 : Int32) {res : Int32 × Q} {out : Option Value × AHeap} (h : law_b60 s v1 v2 v3 v4 v6 v7 w0 = some res) (hk : out = (some (.int res.1), (W1 res.2 []))) : Eval own_P 0 60 [none, some (.int v1), some (.int v2), some (.int v3), some (.int v4), some (.ref 0), some (.int v6), some (.int v7), none, none, none, none] [.int w0] (W1 s []) out := by
  rw [law_b60] at h
  refine Eval.istore (L' := [none, some (.int v1), some (.int v2), some (.int v3), some (.int v4), some (.ref 0), some (.int v6), some (.int v7), some (.int w0), none, none, none]) rfl rfl ?_
  refine Eval.aload rfl rfl ?_
  refine Eval.iload_n rfl rfl ?_
  refine Eval.iload_n rfl rfl ?_
  obtain ⟨p27, hq28, h⟩ := bind_some h
  refine Eval.callI (rest := []) (x := p27.1) (H1 := (W1 p27.2 [])) rfl rfl (ev_j_appendBasis [] s v1 v2 hq28 rfl) ?_
  refine Eval.iload rfl rfl ?_
  suffices hJ30 : Eval own_P 0 79 [none, none, none, some (.int v3), some (.int v4), some (.ref 0), some (.int v6), none, some (.int w0), none, none, none] [.int (if v7 = (0 : Int32) then (-1 : Int32) else v2), .int p27.1] (W1 p27.2 []) out by
    by_cases hc29 : v7 = (0 : Int32)
    · refine Eval.ifT (t := 78) rfl rfl (teq hc29).1 ?_
      refine Eval.iconst (x := (-1 : Int32)) rfl rfl ?_
      refine Eval.weak (L' := [none, none, none, some (.int v3), some (.int v4), some (.ref 0), some (.int v6), none, some (.int w0), none, none, none]) ⟨_, _, rfl, Or.inl rfl, _, _, rfl, Or.inl rfl, _, _, rfl, Or.inl rfl, _, _, rfl, Or.inr rfl, _, _, rfl, Or.inr rfl, _, _, rfl, Or.inr rfl, _, _, rfl, Or.inr rfl, _, _, rfl, Or.inl rfl, _, _, rfl, Or.inr rfl, _, _, rfl, Or.inl rfl, _, _, rfl, Or.inl rfl, _, _, rfl, Or.inl rfl, rfl⟩ ?_
      exact (Eval.conv hJ30 rfl (by simp only [if_pos hc29]))
    · refine Eval.ifF rfl (feq hc29).1 ?_
      refine Eval.iload_n rfl rfl ?_
      refine Eval.goto (t := 79) rfl rfl ?_
      refine Eval.weak (L' := [none, none, none, some (.int v3), some (.int v4), some (.ref 0), some (.int v6), none, some (.int w0), none, none, none]) ⟨_, _, rfl, Or.inl rfl, _, _, rfl, Or.inl rfl, _, _, rfl, Or.inl rfl, _, _, rfl, Or.inr rfl, _, _, rfl, Or.inr rfl, _, _, rfl, Or.inr rfl, _, _, rfl, Or.inr rfl, _, _, rfl, Or.inl rfl, _, _, rfl, Or.inr rfl, _, _, rfl, Or.inl rfl, _, _, rfl, Or.inl rfl, _, _, rfl, Or.inl rfl, rfl⟩ ?_
      exact (Eval.conv hJ30 rfl (by simp only [if_neg hc29]))
  exact ev_law_b79 p27.2 v3 v4 v6 w0 p27.1 (if v7 = (0 : Int32) then (-1 : Int32) else v2) h hk
def law_b48 (s : Q) (v1 : Int32) (v2 : Int32) (v3 : Int32) (v4 : Int32) (v6 : Int32) (w0 : Int32) : Option (Int32 × Q) := (law_b60 s v1 v2 v3 v4 v6 w0 (if w0 = (0 : Int32) then (0 : Int32) else v2))
set_option maxRecDepth 100000 in
theorem ev_law_b48 (s : Q) (v1 : Int32) (v2 : Int32) (v3 : Int32) (v4 : Int32) (v6 : Int32) (w0 : Int32) {res : Int32 × Q} {out : Option Value × AHeap} (h : law_b48 s v1 v2 v3 v4 v6 w0 = some res) (hk : out = (some (.int res.1), (W1 res.2 []))) : Eval own_P 0 48 [none, some (.int v1), some (.int v2), some (.int v3), some (.int v4), some (.ref 0), some (.int v6), none, none, none, none, none] [.int w0] (W1 s []) out := by
  rw [law_b48] at h
  refine Eval.istore (L' := [none, some (.int v1), some (.int v2), some (.int v3), some (.int v4), some (.ref 0), some (.int v6), some (.int w0), none, none, none, none]) rfl rfl ?_
  refine Eval.iload rfl rfl ?_
  suffices hJ17 : Eval own_P 0 60 [none, some (.int v1), some (.int v2), some (.int v3), some (.int v4), some (.ref 0), some (.int v6), some (.int w0), none, none, none, none] [.int (if w0 = (0 : Int32) then (0 : Int32) else v2)] (W1 s []) out by
    by_cases hc16 : w0 = (0 : Int32)
    · refine Eval.ifT (t := 59) rfl rfl (teq hc16).1 ?_
      refine Eval.iconst (x := (0 : Int32)) rfl rfl ?_
      exact (Eval.conv hJ17 rfl (by simp only [if_pos hc16]))
    · refine Eval.ifF rfl (feq hc16).1 ?_
      refine Eval.iload_n rfl rfl ?_
      refine Eval.goto (t := 60) rfl rfl ?_
      exact (Eval.conv hJ17 rfl (by simp only [if_neg hc16]))
  exact ev_law_b60 s v1 v2 v3 v4 v6 w0 (if w0 = (0 : Int32) then (0 : Int32) else v2) h hk
def law_b31 (s : Q) (v1 : Int32) (v2 : Int32) (v3 : Int32) (v4 : Int32) (w0 : Int32) : Option (Int32 × Q) := (law_b48 s v1 v2 v3 v4 w0 (if v2 < (1 : Int32) then (0 : Int32) else (if (4 : Int32) < v2 then (0 : Int32) else (1 : Int32))))
set_option maxRecDepth 100000 in
theorem ev_law_b31 (s : Q) (v1 : Int32) (v2 : Int32) (v3 : Int32) (v4 : Int32) (w0 : Int32) {res : Int32 × Q} {out : Option Value × AHeap} (h : law_b31 s v1 v2 v3 v4 w0 = some res) (hk : out = (some (.int res.1), (W1 res.2 []))) : Eval own_P 0 31 [none, some (.int v1), some (.int v2), some (.int v3), some (.int v4), some (.ref 0), none, none, none, none, none, none] [.int w0] (W1 s []) out := by
  rw [law_b31] at h
  refine Eval.istore (L' := [none, some (.int v1), some (.int v2), some (.int v3), some (.int v4), some (.ref 0), some (.int w0), none, none, none, none, none]) rfl rfl ?_
  refine Eval.iload_n rfl rfl ?_
  refine Eval.iconst (x := (1 : Int32)) rfl rfl ?_
  suffices hJ15 : Eval own_P 0 48 [none, some (.int v1), some (.int v2), some (.int v3), some (.int v4), some (.ref 0), some (.int w0), none, none, none, none, none] [.int (if v2 < (1 : Int32) then (0 : Int32) else (if (4 : Int32) < v2 then (0 : Int32) else (1 : Int32)))] (W1 s []) out by
    by_cases hc13 : v2 < (1 : Int32)
    · refine Eval.icmpT (t := 47) rfl rfl (tlt hc13).1 ?_
      refine Eval.iconst (x := (0 : Int32)) rfl rfl ?_
      exact (Eval.conv hJ15 rfl (by simp only [if_pos hc13]))
    · refine Eval.icmpF rfl (flt hc13).1 ?_
      refine Eval.iload_n rfl rfl ?_
      refine Eval.iconst (x := (4 : Int32)) rfl rfl ?_
      by_cases hc14 : (4 : Int32) < v2
      · refine Eval.icmpT (t := 47) rfl rfl (tlt hc14).2.2.1 ?_
        refine Eval.iconst (x := (0 : Int32)) rfl rfl ?_
        exact (Eval.conv hJ15 rfl (by simp only [if_neg hc13, if_pos hc14]))
      · refine Eval.icmpF rfl (flt hc14).2.2.1 ?_
        refine Eval.iconst (x := (1 : Int32)) rfl rfl ?_
        refine Eval.goto (t := 48) rfl rfl ?_
        exact (Eval.conv hJ15 rfl (by simp only [if_neg hc13, if_neg hc14]))
  exact ev_law_b48 s v1 v2 v3 v4 w0 (if v2 < (1 : Int32) then (0 : Int32) else (if (4 : Int32) < v2 then (0 : Int32) else (1 : Int32))) h hk
def law (v0 : Int32) (v1 : Int32) (v2 : Int32) (v3 : Int32) (v4 : Int32) : Option (Int32 × Q) := ((j_init v0).bind fun p8 => (law_b31 p8 v1 v2 v3 v4 (if v0 < (2 : Int32) then (2 : Int32) else (if (32 : Int32) < v0 then (32 : Int32) else v0))))
set_option maxRecDepth 100000 in
theorem ev_law (v0 : Int32) (v1 : Int32) (v2 : Int32) (v3 : Int32) (v4 : Int32) {res : Int32 × Q} {out : Option Value × AHeap} (h : law v0 v1 v2 v3 v4 = some res) (hk : out = (some (.int res.1), (W1 res.2 []))) : Eval own_P 0 0 [some (.int v0), some (.int v1), some (.int v2), some (.int v3), some (.int v4), none, none, none, none, none, none, none] [] (W0 []) out := by
  rw [law] at h
  refine Eval.new (z := 0) (a := 0) (H1 := (W0 [.inl (Prog.fresh own_P)])) rfl rfl rfl (by decide) rfl (by decide) rfl ?_
  refine Eval.dupR rfl ?_
  refine Eval.iload_n rfl rfl ?_
  obtain ⟨p8, hq9, h⟩ := bind_some h
  refine Eval.callN (rest := [.ref 0]) (H1 := (W1 p8 [])) rfl rfl (ev_j_init v0 hq9 rfl) ?_
  refine Eval.astore (L' := [some (.int v0), some (.int v1), some (.int v2), some (.int v3), some (.int v4), some (.ref 0), none, none, none, none, none, none]) rfl rfl ?_
  refine Eval.iload_n rfl rfl ?_
  refine Eval.iconst (x := (2 : Int32)) rfl rfl ?_
  suffices hJ12 : Eval own_P 0 31 [none, some (.int v1), some (.int v2), some (.int v3), some (.int v4), some (.ref 0), none, none, none, none, none, none] [.int (if v0 < (2 : Int32) then (2 : Int32) else (if (32 : Int32) < v0 then (32 : Int32) else v0))] (W1 p8 []) out by
    by_cases hc10 : v0 < (2 : Int32)
    · refine Eval.icmpF rfl (tlt hc10).2.1 ?_
      refine Eval.iconst (x := (2 : Int32)) rfl rfl ?_
      refine Eval.goto (t := 31) rfl rfl ?_
      refine Eval.weak (L' := [none, some (.int v1), some (.int v2), some (.int v3), some (.int v4), some (.ref 0), none, none, none, none, none, none]) ⟨_, _, rfl, Or.inl rfl, _, _, rfl, Or.inr rfl, _, _, rfl, Or.inr rfl, _, _, rfl, Or.inr rfl, _, _, rfl, Or.inr rfl, _, _, rfl, Or.inr rfl, _, _, rfl, Or.inl rfl, _, _, rfl, Or.inl rfl, _, _, rfl, Or.inl rfl, _, _, rfl, Or.inl rfl, _, _, rfl, Or.inl rfl, _, _, rfl, Or.inl rfl, rfl⟩ ?_
      exact (Eval.conv hJ12 rfl (by simp only [if_pos hc10]))
    · refine Eval.icmpT (t := 19) rfl rfl (flt hc10).2.1 ?_
      refine Eval.iload_n rfl rfl ?_
      refine Eval.bipush (x := (32 : Int32)) rfl rfl ?_
      by_cases hc11 : (32 : Int32) < v0
      · refine Eval.icmpF rfl (tlt hc11).2.2.2 ?_
        refine Eval.bipush (x := (32 : Int32)) rfl rfl ?_
        refine Eval.goto (t := 31) rfl rfl ?_
        refine Eval.weak (L' := [none, some (.int v1), some (.int v2), some (.int v3), some (.int v4), some (.ref 0), none, none, none, none, none, none]) ⟨_, _, rfl, Or.inl rfl, _, _, rfl, Or.inr rfl, _, _, rfl, Or.inr rfl, _, _, rfl, Or.inr rfl, _, _, rfl, Or.inr rfl, _, _, rfl, Or.inr rfl, _, _, rfl, Or.inl rfl, _, _, rfl, Or.inl rfl, _, _, rfl, Or.inl rfl, _, _, rfl, Or.inl rfl, _, _, rfl, Or.inl rfl, _, _, rfl, Or.inl rfl, rfl⟩ ?_
        exact (Eval.conv hJ12 rfl (by simp only [if_neg hc10, if_pos hc11]))
      · refine Eval.icmpT (t := 30) rfl rfl (flt hc11).2.2.2 ?_
        refine Eval.iload_n rfl rfl ?_
        refine Eval.weak (L' := [none, some (.int v1), some (.int v2), some (.int v3), some (.int v4), some (.ref 0), none, none, none, none, none, none]) ⟨_, _, rfl, Or.inl rfl, _, _, rfl, Or.inr rfl, _, _, rfl, Or.inr rfl, _, _, rfl, Or.inr rfl, _, _, rfl, Or.inr rfl, _, _, rfl, Or.inr rfl, _, _, rfl, Or.inl rfl, _, _, rfl, Or.inl rfl, _, _, rfl, Or.inl rfl, _, _, rfl, Or.inl rfl, _, _, rfl, Or.inl rfl, _, _, rfl, Or.inl rfl, rfl⟩ ?_
        exact (Eval.conv hJ12 rfl (by simp only [if_neg hc10, if_neg hc11]))
  exact ev_law_b31 p8 v1 v2 v3 v4 (if v0 < (2 : Int32) then (2 : Int32) else (if (32 : Int32) < v0 then (32 : Int32) else v0)) h hk
theorem own_rdc {n : Nat} {c j : Int32} (h : inb n j = true) : rd (List.replicate n c) j = c := by
  have q := rd_at (xs := List.replicate n c) (j := j) (by simpa using h)
  rw [List.getElem?_replicate] at q
  split at q
  · exact (Option.some.inj q).symm
  · cases q
theorem own_n2i {i : Nat} (h : i < 2147483648) : (Int32.ofNat i).toInt = i := by
  rw [Int32.toInt_ofNat']
  simp only [Int32.size, Int.bmod_def]
  omega
theorem own_n2n {i : Nat} (h : i < 2147483648) : (Int32.ofNat i).toNatClampNeg = i := by
  simp only [Int32.toNatClampNeg, own_n2i h]; omega
theorem own_succ (i : Nat) : Int32.ofNat i + 1 = Int32.ofNat (i + 1) := (Int32.ofNat_add i 1).symm
theorem own_inbN {n i : Nat} (h : i < n) (hn : n < 2147483648) : inb n (Int32.ofNat i) = true := inb_iff.mpr (by rw [own_n2i (by omega)]; omega)
theorem own_ltN {i k : Nat} (hi : i < 2147483648) (hk : k < 2147483648) : Int32.ofNat i < Int32.ofNat k ↔ i < k := by
  rw [lt32, own_n2i hi, own_n2i hk]; omega
theorem own_wrA {A r : List Int32} {d x : Int32} {i : Nat} (hi : A.length = i) (h : i < 2147483648) : wr (A ++ d :: r) (Int32.ofNat i) x = A ++ x :: r := by
  unfold wr
  rw [own_n2n h, ← hi]
  simp
theorem own_repS (i : Nat) (c : Int32) (r : List Int32) : List.replicate i c ++ c :: r = List.replicate (i + 1) c ++ r := by
  rw [List.replicate_succ']; simp
theorem own_add {x y : Int32} (h1 : -2147483648 ≤ x.toInt + y.toInt) (h2 : x.toInt + y.toInt < 2147483648) : (x + y).toInt = x.toInt + y.toInt := by
  rw [Int32.toInt_add, Int.bmod_def]
  omega
theorem own_sub {x y : Int32} (h1 : -2147483648 ≤ x.toInt - y.toInt) (h2 : x.toInt - y.toInt < 2147483648) : (x - y).toInt = x.toInt - y.toInt := by
  rw [Int32.toInt_sub, Int.bmod_def]
  omega
theorem own_mul {x y : Int32} (h1 : -2147483648 ≤ x.toInt * y.toInt) (h2 : x.toInt * y.toInt < 2147483648) : (x * y).toInt = x.toInt * y.toInt := by
  rw [Int32.toInt_mul, Int.bmod_def]
  omega
theorem own_eta (s : Q) : Q.mk s.f_basis s.f_target s.f_literal s.f_out s.f_blkLen s.f_blkWeak s.f_blkStrong s.f_head s.f_next s.f_kinds s.f_values s.f_blockSize s.f_basisLen s.f_targetLen s.f_literalLen s.f_outLen s.f_blocks s.f_ops s.f_shortBlock s.f_winPos s.f_winA s.f_winB s.f_phaseNow = s := rfl
theorem own_wrc (n : Nat) (c j : Int32) : wr (List.replicate n c) j c = List.replicate n c := by simp [wr, List.set_replicate_self]

def own_S (b : Int32) : Q := Q.mk Q0.f_basis Q0.f_target Q0.f_literal Q0.f_out Q0.f_blkLen Q0.f_blkWeak Q0.f_blkStrong Q0.f_head Q0.f_next Q0.f_kinds Q0.f_values b 0 0 0 0 0 0 (-1) (-1) 0 0 0
def own_bc (v : Int32) : Int32 := if v < 2 then 2 else if 32 < v then 32 else v
theorem own_bc_b (v : Int32) : 2 ≤ (own_bc v).toInt ∧ (own_bc v).toInt ≤ 32 := by
  unfold own_bc
  split
  · decide
  · split
    · decide
    · rename_i h1 h2; simp only [lt32, Int32.reduceToInt] at h1 h2; omega
theorem own_init (v : Int32) : j_init v = some (own_S (own_bc v)) := by
  have e : (if (32 : Int32) < (if v < (2 : Int32) then (2 : Int32) else v) then (32 : Int32) else (if v < (2 : Int32) then (2 : Int32) else v)) = own_bc v := by
    unfold own_bc
    split
    · rfl
    · rfl
  simp only [j_init, j_init_b103, j_init_b112, j_init_b121, e, j_reset, Option.bind_some, own_S, own_f_basis, own_e_basis, own_z_basis, own_f_target, own_e_target, own_z_target, own_f_literal, own_e_literal, own_z_literal, own_f_out, own_e_out, own_z_out, own_f_blkLen, own_e_blkLen, own_z_blkLen, own_f_blkWeak, own_e_blkWeak, own_z_blkWeak, own_f_blkStrong, own_e_blkStrong, own_z_blkStrong, own_f_head, own_e_head, own_z_head, own_f_next, own_e_next, own_z_next, own_f_kinds, own_e_kinds, own_z_kinds, own_f_values, own_e_values, own_z_values, own_f_blockSize, own_e_blockSize, own_z_blockSize, own_f_basisLen, own_e_basisLen, own_z_basisLen, own_f_targetLen, own_e_targetLen, own_z_targetLen, own_f_literalLen, own_e_literalLen, own_z_literalLen, own_f_outLen, own_e_outLen, own_z_outLen, own_f_blocks, own_e_blocks, own_z_blocks, own_f_ops, own_e_ops, own_z_ops, own_f_shortBlock, own_e_shortBlock, own_z_shortBlock, own_f_winPos, own_e_winPos, own_z_winPos, own_f_winA, own_e_winA, own_z_winA, own_f_winB, own_e_winB, own_z_winB, own_f_phaseNow, own_e_phaseNow, own_z_phaseNow]
theorem own_ush0 (x : Int32) : ush x 0 = x := by
  unfold ush
  rw [show ((0 : Int32) &&& 31).toUInt32 = 0 from rfl]
  simp

theorem own_weak_l (s : Q) (hb : s.f_basis.length = 256) (a v2 : Int32) : ∀ (k n : Nat) (x y v5 : Int32), v2.toInt ≤ v5.toInt + k → 0 ≤ v5.toInt → v2.toInt ≤ 2000 → k < n → ∃ r, j_weakOfBasis_l8 n s a v2 x y v5 = some r := by
  intro k
  induction k with
  | zero =>
    intro n x y v5 h0 h1 h2 hn
    cases n with
    | zero => omega
    | succ n =>
      have : ¬ v5 < v2 := by rw [lt32]; omega
      exact ⟨_, by rw [j_weakOfBasis_l8, if_neg this]⟩
  | succ k ih =>
    intro n x y v5 h0 h1 h2 hn
    cases n with
    | zero => omega
    | succ n =>
      rw [j_weakOfBasis_l8]
      by_cases c1 : v5 < v2
      · rw [if_pos c1]
        by_cases c2 : a + v5 < 0
        · exact ⟨_, by rw [if_pos c2]⟩
        · rw [if_neg c2]
          by_cases c3 : a + v5 < 256
          · rw [if_pos c3, if_pos (by rw [hb, inb_iff]; simp only [lt32, Int32.reduceToInt] at c2 c3; omega)]
            rw [lt32] at c1
            have e : (v5 + 1).toInt = v5.toInt + 1 := own_add (by simp only [Int32.reduceToInt]; omega) (by simp only [Int32.reduceToInt]; omega)
            exact ih _ _ _ _ (by omega) (by omega) h2 (by omega)
          · exact ⟨_, by rw [if_neg c3]⟩
      · exact ⟨_, by rw [if_neg c1]⟩
theorem own_weak (s : Q) (hb : s.f_basis.length = 256) (a v2 : Int32) (h : v2.toInt ≤ 2000) : ∃ r, j_weakOfBasis s a v2 = some r := by
  obtain ⟨r, hr⟩ := own_weak_l s hb a v2 2000 3000 0 0 0 (by simp only [Int32.reduceToInt]; omega) (by decide) h (by omega)
  rw [j_weakOfBasis, hr]
  cases r <;> exact ⟨_, rfl⟩
theorem own_strong_l (s : Q) (hb : s.f_basis.length = 256) (a v2 : Int32) : ∀ (k n : Nat) (x : Int64) (v5 : Int32), v2.toInt ≤ v5.toInt + k → 0 ≤ v5.toInt → v2.toInt ≤ 2000 → k < n → ∃ r, j_strongOfBasis_l7 n s a v2 x v5 = some r := by
  intro k
  induction k with
  | zero =>
    intro n x v5 h0 h1 h2 hn
    cases n with
    | zero => omega
    | succ n =>
      have : ¬ v5 < v2 := by rw [lt32]; omega
      exact ⟨_, by rw [j_strongOfBasis_l7, if_neg this]⟩
  | succ k ih =>
    intro n x v5 h0 h1 h2 hn
    cases n with
    | zero => omega
    | succ n =>
      rw [j_strongOfBasis_l7]
      by_cases c1 : v5 < v2
      · rw [if_pos c1]
        by_cases c2 : a + v5 < 0
        · exact ⟨_, by rw [if_pos c2]⟩
        · rw [if_neg c2]
          by_cases c3 : a + v5 < 256
          · rw [if_pos c3, if_pos (by rw [hb, inb_iff]; simp only [lt32, Int32.reduceToInt] at c2 c3; omega)]
            rw [lt32] at c1
            have e : (v5 + 1).toInt = v5.toInt + 1 := own_add (by simp only [Int32.reduceToInt]; omega) (by simp only [Int32.reduceToInt]; omega)
            exact ih _ _ _ (by omega) (by omega) h2 (by omega)
          · exact ⟨_, by rw [if_neg c3]⟩
      · exact ⟨_, by rw [if_neg c1]⟩
theorem own_strong (s : Q) (hb : s.f_basis.length = 256) (a v2 : Int32) (h : v2.toInt ≤ 2000) : ∃ r, j_strongOfBasis s a v2 = some r := by
  obtain ⟨r, hr⟩ := own_strong_l s hb a v2 2000 3000 _ 0 (by simp only [Int32.reduceToInt]; omega) (by decide) h (by omega)
  rw [j_strongOfBasis, hr]
  cases r <;> exact ⟨_, rfl⟩
/-- what stays in a step of sign -/
def own_K (s t : Q) : Prop := t = Q.mk s.f_basis s.f_target s.f_literal s.f_out t.f_blkLen t.f_blkWeak t.f_blkStrong t.f_head t.f_next s.f_kinds s.f_values s.f_blockSize s.f_basisLen s.f_targetLen s.f_literalLen s.f_outLen s.f_blocks s.f_ops t.f_shortBlock s.f_winPos s.f_winA s.f_winB s.f_phaseNow ∧ t.f_blkLen.length = s.f_blkLen.length ∧ t.f_blkWeak.length = s.f_blkWeak.length ∧ t.f_blkStrong.length = s.f_blkStrong.length ∧ t.f_head.length = s.f_head.length ∧ t.f_next.length = s.f_next.length
theorem own_K_refl (s : Q) : own_K s s := ⟨(own_eta s).symm, rfl, rfl, rfl, rfl, rfl⟩
theorem own_K_f {s t : Q} (h : own_K s t) : t.f_basis = s.f_basis ∧ t.f_target = s.f_target ∧ t.f_literal = s.f_literal ∧ t.f_out = s.f_out ∧ t.f_kinds = s.f_kinds ∧ t.f_values = s.f_values ∧ t.f_blockSize = s.f_blockSize ∧ t.f_basisLen = s.f_basisLen ∧ t.f_targetLen = s.f_targetLen ∧ t.f_literalLen = s.f_literalLen ∧ t.f_outLen = s.f_outLen ∧ t.f_blocks = s.f_blocks ∧ t.f_ops = s.f_ops ∧ t.f_winPos = s.f_winPos ∧ t.f_winA = s.f_winA ∧ t.f_winB = s.f_winB ∧ t.f_phaseNow = s.f_phaseNow := by
  refine ⟨?_, ?_, ?_, ?_, ?_, ?_, ?_, ?_, ?_, ?_, ?_, ?_, ?_, ?_, ?_, ?_, ?_⟩ <;> (rw [h.1]; simp only [own_f_basis, own_e_basis, own_z_basis, own_f_target, own_e_target, own_z_target, own_f_literal, own_e_literal, own_z_literal, own_f_out, own_e_out, own_z_out, own_f_blkLen, own_e_blkLen, own_z_blkLen, own_f_blkWeak, own_e_blkWeak, own_z_blkWeak, own_f_blkStrong, own_e_blkStrong, own_z_blkStrong, own_f_head, own_e_head, own_z_head, own_f_next, own_e_next, own_z_next, own_f_kinds, own_e_kinds, own_z_kinds, own_f_values, own_e_values, own_z_values, own_f_blockSize, own_e_blockSize, own_z_blockSize, own_f_basisLen, own_e_basisLen, own_z_basisLen, own_f_targetLen, own_e_targetLen, own_z_targetLen, own_f_literalLen, own_e_literalLen, own_z_literalLen, own_f_outLen, own_e_outLen, own_z_outLen, own_f_blocks, own_e_blocks, own_z_blocks, own_f_ops, own_e_ops, own_z_ops, own_f_shortBlock, own_e_shortBlock, own_z_shortBlock, own_f_winPos, own_e_winPos, own_z_winPos, own_f_winA, own_e_winA, own_z_winA, own_f_winB, own_e_winB, own_z_winB, own_f_phaseNow, own_e_phaseNow, own_z_phaseNow])
theorem own_K_trans {s t u : Q} (h : own_K s t) (g : own_K t u) : own_K s u := by
  obtain ⟨f1, f2, f3, f4, f5, f6, f7, f8, f9, f10, f11, f12, f13, f14, f15, f16, f17⟩ := own_K_f h
  obtain ⟨g0, g1, g2, g3, g4, g5⟩ := g
  obtain ⟨h0, h1, h2, h3, h4, h5⟩ := h
  refine ⟨?_, g1.trans h1, g2.trans h2, g3.trans h3, g4.trans h4, g5.trans h5⟩
  rw [f1, f2, f3, f4, f5, f6, f7, f8, f9, f10, f11, f12, f13, f14, f15, f16, f17] at g0
  exact g0
/-- the block's length at i -/
def own_bl (s : Q) (i : Int32) : Int32 := if i = (s.f_blocks - (1 : Int32)) then (s.f_basisLen - ((s.f_blocks - (1 : Int32)) * s.f_blockSize)) else s.f_blockSize
def own_G (s : Q) : Prop := s.f_basis.length = 256 ∧ s.f_blkLen.length = 128 ∧ s.f_blkWeak.length = 128 ∧ s.f_blkStrong.length = 128 ∧ s.f_head.length = 256 ∧ s.f_next.length = 128 ∧ 0 ≤ s.f_blocks.toInt ∧ s.f_blocks.toInt ≤ 128 ∧ 2 ≤ s.f_blockSize.toInt ∧ s.f_blockSize.toInt ≤ 32 ∧ (∀ i : Int32, (own_bl s i).toInt ≤ 2000)
theorem own_G.b {s : Q} (G : own_G s) : s.f_basis.length = 256 := G.1
theorem own_G.l {s : Q} (G : own_G s) : s.f_blkLen.length = 128 := G.2.1
theorem own_G.w {s : Q} (G : own_G s) : s.f_blkWeak.length = 128 := G.2.2.1
theorem own_G.g {s : Q} (G : own_G s) : s.f_blkStrong.length = 128 := G.2.2.2.1
theorem own_G.h {s : Q} (G : own_G s) : s.f_head.length = 256 := G.2.2.2.2.1
theorem own_G.n {s : Q} (G : own_G s) : s.f_next.length = 128 := G.2.2.2.2.2.1
theorem own_G.z0 {s : Q} (G : own_G s) : 0 ≤ s.f_blocks.toInt := G.2.2.2.2.2.2.1
theorem own_G.z1 {s : Q} (G : own_G s) : s.f_blocks.toInt ≤ 128 := G.2.2.2.2.2.2.2.1
theorem own_G.bs0 {s : Q} (G : own_G s) : 2 ≤ s.f_blockSize.toInt := G.2.2.2.2.2.2.2.2.1
theorem own_G.bs1 {s : Q} (G : own_G s) : s.f_blockSize.toInt ≤ 32 := G.2.2.2.2.2.2.2.2.2.1
theorem own_G.m0 {s : Q} (G : own_G s) : ∀ i : Int32, (own_bl s i).toInt ≤ 2000 := G.2.2.2.2.2.2.2.2.2.2
theorem own_G_K {s t : Q} (h : own_G s) (k : own_K s t) : own_G t := by
  obtain ⟨f1, f2, f3, f4, f5, f6, f7, f8, f9, f10, f11, f12, f13, f14, f15, f16, f17⟩ := own_K_f k
  obtain ⟨k0, k1, k2, k3, k4, k5⟩ := k
  unfold own_G
  exact ⟨by rw [f1]; exact h.b, by rw [k1]; exact h.l, by rw [k2]; exact h.w, by rw [k3]; exact h.g, by rw [k4]; exact h.h, by rw [k5]; exact h.n, by rw [f12]; exact h.z0, by rw [f12]; exact h.z1, by rw [f7]; exact h.bs0, by rw [f7]; exact h.bs1, by intro i; have := h.m0 i; unfold own_bl at *; rw [f12, f7, f8]; exact this⟩
theorem own_bl_K {s t : Q} (k : own_K s t) (i : Int32) : own_bl t i = own_bl s i := by
  obtain ⟨f1, f2, f3, f4, f5, f6, f7, f8, f9, f10, f11, f12, f13, f14, f15, f16, f17⟩ := own_K_f k
  unfold own_bl; rw [f12, f7, f8]
theorem own_sign_l : ∀ (k n : Nat) (s : Q) (i : Int32), own_G s → 0 ≤ i.toInt → s.f_blocks.toInt ≤ i.toInt + k → i.toInt ≤ s.f_blocks.toInt → k < n → ∃ t, j_sign_l58 n s s.f_blockSize i = some t ∧ own_K s t ∧ (∀ j : Int32, 0 ≤ j.toInt → j.toInt < i.toInt → rd t.f_blkLen j = rd s.f_blkLen j) ∧ (∀ j : Int32, i.toInt ≤ j.toInt → j.toInt < s.f_blocks.toInt → rd t.f_blkLen j = own_bl s j) := by
  intro k
  induction k with
  | zero =>
    intro n s i G h0 h1 h2 hn
    cases n with
    | zero => omega
    | succ n =>
      have : ¬ i < s.f_blocks := by rw [lt32]; omega
      exact ⟨s, by rw [j_sign_l58, if_neg this], own_K_refl s, fun _ _ _ => rfl, fun j a b => by omega⟩
  | succ k ih =>
    intro n s i G h0 h1 h2 hn
    cases n with
    | zero => omega
    | succ n =>
      by_cases c : i < s.f_blocks
      · have ci := c
        rw [lt32] at ci
        have z1 := G.z1
        have ib : inb 128 i = true := by rw [inb_iff]; omega
        rw [j_sign_l58, if_pos c]
        change ∃ t, j_sign_b98 (j_sign_l58 n) s s.f_blockSize i (i * s.f_blockSize) (own_bl s i) = some t ∧ _
        rw [j_sign_b98, if_pos (by rw [G.l]; exact ib)]
        have hm := G.m0 i
        obtain ⟨w, hw⟩ := own_weak (Q.mk s.f_basis s.f_target s.f_literal s.f_out (wr s.f_blkLen i (own_bl s i)) s.f_blkWeak s.f_blkStrong s.f_head s.f_next s.f_kinds s.f_values s.f_blockSize s.f_basisLen s.f_targetLen s.f_literalLen s.f_outLen s.f_blocks s.f_ops s.f_shortBlock s.f_winPos s.f_winA s.f_winB s.f_phaseNow) (by rw [own_f_basis]; exact G.b) (i * s.f_blockSize) (own_bl s i) hm
        obtain ⟨x, hx⟩ := own_strong (Q.mk s.f_basis s.f_target s.f_literal s.f_out (wr s.f_blkLen i (own_bl s i)) (wr s.f_blkWeak i w) s.f_blkStrong s.f_head s.f_next s.f_kinds s.f_values s.f_blockSize s.f_basisLen s.f_targetLen s.f_literalLen s.f_outLen s.f_blocks s.f_ops s.f_shortBlock s.f_winPos s.f_winA s.f_winB s.f_phaseNow) (by rw [own_f_basis]; exact G.b) (i * s.f_blockSize) (own_bl s i) hm
        simp only [own_f_basis, own_e_basis, own_z_basis, own_f_target, own_e_target, own_z_target, own_f_literal, own_e_literal, own_z_literal, own_f_out, own_e_out, own_z_out, own_f_blkLen, own_e_blkLen, own_z_blkLen, own_f_blkWeak, own_e_blkWeak, own_z_blkWeak, own_f_blkStrong, own_e_blkStrong, own_z_blkStrong, own_f_head, own_e_head, own_z_head, own_f_next, own_e_next, own_z_next, own_f_kinds, own_e_kinds, own_z_kinds, own_f_values, own_e_values, own_z_values, own_f_blockSize, own_e_blockSize, own_z_blockSize, own_f_basisLen, own_e_basisLen, own_z_basisLen, own_f_targetLen, own_e_targetLen, own_z_targetLen, own_f_literalLen, own_e_literalLen, own_z_literalLen, own_f_outLen, own_e_outLen, own_z_outLen, own_f_blocks, own_e_blocks, own_z_blocks, own_f_ops, own_e_ops, own_z_ops, own_f_shortBlock, own_e_shortBlock, own_z_shortBlock, own_f_winPos, own_e_winPos, own_z_winPos, own_f_winA, own_e_winA, own_z_winA, own_f_winB, own_e_winB, own_z_winB, own_f_phaseNow, own_e_phaseNow, own_z_phaseNow, hw, Option.bind_some, G.w, ib, hx, G.g, if_true]
        generalize hu : Q.mk s.f_basis s.f_target s.f_literal s.f_out (wr s.f_blkLen i (own_bl s i)) (wr s.f_blkWeak i w) (wrL s.f_blkStrong i x) s.f_head s.f_next s.f_kinds s.f_values s.f_blockSize s.f_basisLen s.f_targetLen s.f_literalLen s.f_outLen s.f_blocks s.f_ops s.f_shortBlock s.f_winPos s.f_winA s.f_winB s.f_phaseNow = u
        have K : own_K s u := by
          subst hu
          simp only [own_K, own_f_basis, own_e_basis, own_z_basis, own_f_target, own_e_target, own_z_target, own_f_literal, own_e_literal, own_z_literal, own_f_out, own_e_out, own_z_out, own_f_blkLen, own_e_blkLen, own_z_blkLen, own_f_blkWeak, own_e_blkWeak, own_z_blkWeak, own_f_blkStrong, own_e_blkStrong, own_z_blkStrong, own_f_head, own_e_head, own_z_head, own_f_next, own_e_next, own_z_next, own_f_kinds, own_e_kinds, own_z_kinds, own_f_values, own_e_values, own_z_values, own_f_blockSize, own_e_blockSize, own_z_blockSize, own_f_basisLen, own_e_basisLen, own_z_basisLen, own_f_targetLen, own_e_targetLen, own_z_targetLen, own_f_literalLen, own_e_literalLen, own_z_literalLen, own_f_outLen, own_e_outLen, own_z_outLen, own_f_blocks, own_e_blocks, own_z_blocks, own_f_ops, own_e_ops, own_z_ops, own_f_shortBlock, own_e_shortBlock, own_z_shortBlock, own_f_winPos, own_e_winPos, own_z_winPos, own_f_winA, own_e_winA, own_z_winA, own_f_winB, own_e_winB, own_z_winB, own_f_phaseNow, own_e_phaseNow, own_z_phaseNow, len_wr, len_wrL, and_self]
        have F := own_K_f K
        have ub : u.f_blocks = s.f_blocks := F.2.2.2.2.2.2.2.2.2.2.2.1
        have us : u.f_blockSize = s.f_blockSize := F.2.2.2.2.2.2.1
        have ul : u.f_blkLen = wr s.f_blkLen i (own_bl s i) := by subst hu; simp only [own_f_basis, own_e_basis, own_z_basis, own_f_target, own_e_target, own_z_target, own_f_literal, own_e_literal, own_z_literal, own_f_out, own_e_out, own_z_out, own_f_blkLen, own_e_blkLen, own_z_blkLen, own_f_blkWeak, own_e_blkWeak, own_z_blkWeak, own_f_blkStrong, own_e_blkStrong, own_z_blkStrong, own_f_head, own_e_head, own_z_head, own_f_next, own_e_next, own_z_next, own_f_kinds, own_e_kinds, own_z_kinds, own_f_values, own_e_values, own_z_values, own_f_blockSize, own_e_blockSize, own_z_blockSize, own_f_basisLen, own_e_basisLen, own_z_basisLen, own_f_targetLen, own_e_targetLen, own_z_targetLen, own_f_literalLen, own_e_literalLen, own_z_literalLen, own_f_outLen, own_e_outLen, own_z_outLen, own_f_blocks, own_e_blocks, own_z_blocks, own_f_ops, own_e_ops, own_z_ops, own_f_shortBlock, own_e_shortBlock, own_z_shortBlock, own_f_winPos, own_e_winPos, own_z_winPos, own_f_winA, own_e_winA, own_z_winA, own_f_winB, own_e_winB, own_z_winB, own_f_phaseNow, own_e_phaseNow, own_z_phaseNow]
        have e : (i + 1).toInt = i.toInt + 1 := own_add (by simp only [Int32.reduceToInt]; omega) (by simp only [Int32.reduceToInt]; omega)
        obtain ⟨t, t1, t2, t3, t4⟩ := ih n u (i + 1) (own_G_K G K) (by omega) (by rw [ub]; omega) (by rw [ub]; omega) (by omega)
        rw [us] at t1
        refine ⟨t, t1, own_K_trans K t2, ?_, ?_⟩
        · intro j j0 j1
          rw [t3 j j0 (by omega), ul, rd_wr_ne (by simp only [lt32, Int32.reduceToInt]; omega) (by simp only [lt32, Int32.reduceToInt]; omega) (by rw [ne_eq, eq32]; omega)]
        · intro j j0 j1
          by_cases q : j.toInt = i.toInt
          · have : j = i := eq32.mpr q
            subst this
            rw [t3 j h0 (by omega), ul, rd_wr_same (by rw [G.l]; exact ib)]
          · rw [t4 j (by omega) (by rw [ub]; omega), own_bl_K K]
      · exact ⟨s, by rw [j_sign_l58, if_neg c], own_K_refl s, fun _ _ _ => rfl, fun j a b => by rw [lt32] at c; omega⟩
theorem own_bi_l2 : ∀ (k n : Nat) (s : Q) (i : Int32), s.f_head.length = 256 → 0 ≤ i.toInt → i.toInt + k = 256 → k < n → ∃ t, j_buildIndex_l2 n s i = some t ∧ own_K s t ∧ t.f_blkLen = s.f_blkLen := by
  intro k
  induction k with
  | zero =>
    intro n s i G h0 h1 hn
    cases n with
    | zero => omega
    | succ n =>
      have : ¬ i < 256 := by simp only [lt32, Int32.reduceToInt]; omega
      exact ⟨s, by rw [j_buildIndex_l2, if_neg this], own_K_refl s, rfl⟩
  | succ k ih =>
    intro n s i G h0 h1 hn
    cases n with
    | zero => omega
    | succ n =>
      have c : i < 256 := by simp only [lt32, Int32.reduceToInt]; omega
      have ib : inb 256 i = true := by rw [inb_iff]; omega
      rw [j_buildIndex_l2, if_pos c, if_pos (by rw [G]; exact ib)]
      try simp only [own_f_basis, own_e_basis, own_z_basis, own_f_target, own_e_target, own_z_target, own_f_literal, own_e_literal, own_z_literal, own_f_out, own_e_out, own_z_out, own_f_blkLen, own_e_blkLen, own_z_blkLen, own_f_blkWeak, own_e_blkWeak, own_z_blkWeak, own_f_blkStrong, own_e_blkStrong, own_z_blkStrong, own_f_head, own_e_head, own_z_head, own_f_next, own_e_next, own_z_next, own_f_kinds, own_e_kinds, own_z_kinds, own_f_values, own_e_values, own_z_values, own_f_blockSize, own_e_blockSize, own_z_blockSize, own_f_basisLen, own_e_basisLen, own_z_basisLen, own_f_targetLen, own_e_targetLen, own_z_targetLen, own_f_literalLen, own_e_literalLen, own_z_literalLen, own_f_outLen, own_e_outLen, own_z_outLen, own_f_blocks, own_e_blocks, own_z_blocks, own_f_ops, own_e_ops, own_z_ops, own_f_shortBlock, own_e_shortBlock, own_z_shortBlock, own_f_winPos, own_e_winPos, own_z_winPos, own_f_winA, own_e_winA, own_z_winA, own_f_winB, own_e_winB, own_z_winB, own_f_phaseNow, own_e_phaseNow, own_z_phaseNow]
      generalize hu : Q.mk s.f_basis s.f_target s.f_literal s.f_out s.f_blkLen s.f_blkWeak s.f_blkStrong (wr s.f_head i (-1)) s.f_next s.f_kinds s.f_values s.f_blockSize s.f_basisLen s.f_targetLen s.f_literalLen s.f_outLen s.f_blocks s.f_ops s.f_shortBlock s.f_winPos s.f_winA s.f_winB s.f_phaseNow = u
      have K : own_K s u := by
        subst hu
        simp only [own_K, own_f_basis, own_e_basis, own_z_basis, own_f_target, own_e_target, own_z_target, own_f_literal, own_e_literal, own_z_literal, own_f_out, own_e_out, own_z_out, own_f_blkLen, own_e_blkLen, own_z_blkLen, own_f_blkWeak, own_e_blkWeak, own_z_blkWeak, own_f_blkStrong, own_e_blkStrong, own_z_blkStrong, own_f_head, own_e_head, own_z_head, own_f_next, own_e_next, own_z_next, own_f_kinds, own_e_kinds, own_z_kinds, own_f_values, own_e_values, own_z_values, own_f_blockSize, own_e_blockSize, own_z_blockSize, own_f_basisLen, own_e_basisLen, own_z_basisLen, own_f_targetLen, own_e_targetLen, own_z_targetLen, own_f_literalLen, own_e_literalLen, own_z_literalLen, own_f_outLen, own_e_outLen, own_z_outLen, own_f_blocks, own_e_blocks, own_z_blocks, own_f_ops, own_e_ops, own_z_ops, own_f_shortBlock, own_e_shortBlock, own_z_shortBlock, own_f_winPos, own_e_winPos, own_z_winPos, own_f_winA, own_e_winA, own_z_winA, own_f_winB, own_e_winB, own_z_winB, own_f_phaseNow, own_e_phaseNow, own_z_phaseNow, len_wr, len_wrL, and_self]
      have e : (i + 1).toInt = i.toInt + 1 := own_add (by simp only [Int32.reduceToInt]; omega) (by simp only [Int32.reduceToInt]; omega)
      obtain ⟨t, t1, t2, t3⟩ := ih n u (i + 1) (by rw [K.2.2.2.2.1]; exact G) (by omega) (by omega) (by omega)
      exact ⟨t, t1, own_K_trans K t2, by rw [t3]; subst hu; simp only [own_f_basis, own_e_basis, own_z_basis, own_f_target, own_e_target, own_z_target, own_f_literal, own_e_literal, own_z_literal, own_f_out, own_e_out, own_z_out, own_f_blkLen, own_e_blkLen, own_z_blkLen, own_f_blkWeak, own_e_blkWeak, own_z_blkWeak, own_f_blkStrong, own_e_blkStrong, own_z_blkStrong, own_f_head, own_e_head, own_z_head, own_f_next, own_e_next, own_z_next, own_f_kinds, own_e_kinds, own_z_kinds, own_f_values, own_e_values, own_z_values, own_f_blockSize, own_e_blockSize, own_z_blockSize, own_f_basisLen, own_e_basisLen, own_z_basisLen, own_f_targetLen, own_e_targetLen, own_z_targetLen, own_f_literalLen, own_e_literalLen, own_z_literalLen, own_f_outLen, own_e_outLen, own_z_outLen, own_f_blocks, own_e_blocks, own_z_blocks, own_f_ops, own_e_ops, own_z_ops, own_f_shortBlock, own_e_shortBlock, own_z_shortBlock, own_f_winPos, own_e_winPos, own_z_winPos, own_f_winA, own_e_winA, own_z_winA, own_f_winB, own_e_winB, own_z_winB, own_f_phaseNow, own_e_phaseNow, own_z_phaseNow]⟩
theorem own_bk (x : Int32) : inb 256 (j_bucketOf x) = true := by
  unfold j_bucketOf
  rw [inb_iff]
  generalize ((x ^^^ ush x 8) ^^^ ush x 16) ^^^ ush x 24 = y
  have := (c_and y 255 (by decide))
  constructor
  · exact this.1
  · have := this.2; simp only [Int32.reduceToInt] at this; omega
theorem own_bi_l34 : ∀ (k n : Nat) (s : Q) (i : Int32), own_G s → -1 ≤ i.toInt → i.toInt < 128 → i.toInt + 1 ≤ k → k < n → ∃ t, j_buildIndex_l34 n s i = some t ∧ own_K s t ∧ t.f_blkLen = s.f_blkLen := by
  intro k
  induction k with
  | zero =>
    intro n s i G h0 h1 h2 hn
    cases n with
    | zero => omega
    | succ n =>
      have : i < 0 := by simp only [lt32, Int32.reduceToInt]; omega
      exact ⟨s, by rw [j_buildIndex_l34, if_pos this], own_K_refl s, rfl⟩
  | succ k ih =>
    intro n s i G h0 h1 h2 hn
    cases n with
    | zero => omega
    | succ n =>
      by_cases c : i < 0
      · exact ⟨s, by rw [j_buildIndex_l34, if_pos c], own_K_refl s, rfl⟩
      · have ci := c
        simp only [lt32, Int32.reduceToInt] at ci
        have ib : inb 128 i = true := by rw [inb_iff]; omega
        rw [j_buildIndex_l34, if_neg c]
        simp only [G.l, G.w, G.h, G.n, ib, own_bk, if_true, j_buildIndex_b96]
        have e : (i + (-1)).toInt = i.toInt - 1 := by have m : (-1 : Int32).toInt = -1 := by decide
                                                      rw [own_add] <;> rw [m] <;> omega
        split
        · try simp only [own_f_basis, own_e_basis, own_z_basis, own_f_target, own_e_target, own_z_target, own_f_literal, own_e_literal, own_z_literal, own_f_out, own_e_out, own_z_out, own_f_blkLen, own_e_blkLen, own_z_blkLen, own_f_blkWeak, own_e_blkWeak, own_z_blkWeak, own_f_blkStrong, own_e_blkStrong, own_z_blkStrong, own_f_head, own_e_head, own_z_head, own_f_next, own_e_next, own_z_next, own_f_kinds, own_e_kinds, own_z_kinds, own_f_values, own_e_values, own_z_values, own_f_blockSize, own_e_blockSize, own_z_blockSize, own_f_basisLen, own_e_basisLen, own_z_basisLen, own_f_targetLen, own_e_targetLen, own_z_targetLen, own_f_literalLen, own_e_literalLen, own_z_literalLen, own_f_outLen, own_e_outLen, own_z_outLen, own_f_blocks, own_e_blocks, own_z_blocks, own_f_ops, own_e_ops, own_z_ops, own_f_shortBlock, own_e_shortBlock, own_z_shortBlock, own_f_winPos, own_e_winPos, own_z_winPos, own_f_winA, own_e_winA, own_z_winA, own_f_winB, own_e_winB, own_z_winB, own_f_phaseNow, own_e_phaseNow, own_z_phaseNow]
          generalize hu : Q.mk s.f_basis s.f_target s.f_literal s.f_out s.f_blkLen s.f_blkWeak s.f_blkStrong _ _ s.f_kinds s.f_values s.f_blockSize s.f_basisLen s.f_targetLen s.f_literalLen s.f_outLen s.f_blocks s.f_ops _ s.f_winPos s.f_winA s.f_winB s.f_phaseNow = u
          have K : own_K s u := by
            subst hu
            simp only [own_K, own_f_basis, own_e_basis, own_z_basis, own_f_target, own_e_target, own_z_target, own_f_literal, own_e_literal, own_z_literal, own_f_out, own_e_out, own_z_out, own_f_blkLen, own_e_blkLen, own_z_blkLen, own_f_blkWeak, own_e_blkWeak, own_z_blkWeak, own_f_blkStrong, own_e_blkStrong, own_z_blkStrong, own_f_head, own_e_head, own_z_head, own_f_next, own_e_next, own_z_next, own_f_kinds, own_e_kinds, own_z_kinds, own_f_values, own_e_values, own_z_values, own_f_blockSize, own_e_blockSize, own_z_blockSize, own_f_basisLen, own_e_basisLen, own_z_basisLen, own_f_targetLen, own_e_targetLen, own_z_targetLen, own_f_literalLen, own_e_literalLen, own_z_literalLen, own_f_outLen, own_e_outLen, own_z_outLen, own_f_blocks, own_e_blocks, own_z_blocks, own_f_ops, own_e_ops, own_z_ops, own_f_shortBlock, own_e_shortBlock, own_z_shortBlock, own_f_winPos, own_e_winPos, own_z_winPos, own_f_winA, own_e_winA, own_z_winA, own_f_winB, own_e_winB, own_z_winB, own_f_phaseNow, own_e_phaseNow, own_z_phaseNow, len_wr, len_wrL, and_self]
          obtain ⟨t, t1, t2, t3⟩ := ih n u (i + (-1)) (own_G_K G K) (by omega) (by omega) (by omega) (by omega)
          exact ⟨t, t1, own_K_trans K t2, by rw [t3]; subst hu; simp only [own_f_basis, own_e_basis, own_z_basis, own_f_target, own_e_target, own_z_target, own_f_literal, own_e_literal, own_z_literal, own_f_out, own_e_out, own_z_out, own_f_blkLen, own_e_blkLen, own_z_blkLen, own_f_blkWeak, own_e_blkWeak, own_z_blkWeak, own_f_blkStrong, own_e_blkStrong, own_z_blkStrong, own_f_head, own_e_head, own_z_head, own_f_next, own_e_next, own_z_next, own_f_kinds, own_e_kinds, own_z_kinds, own_f_values, own_e_values, own_z_values, own_f_blockSize, own_e_blockSize, own_z_blockSize, own_f_basisLen, own_e_basisLen, own_z_basisLen, own_f_targetLen, own_e_targetLen, own_z_targetLen, own_f_literalLen, own_e_literalLen, own_z_literalLen, own_f_outLen, own_e_outLen, own_z_outLen, own_f_blocks, own_e_blocks, own_z_blocks, own_f_ops, own_e_ops, own_z_ops, own_f_shortBlock, own_e_shortBlock, own_z_shortBlock, own_f_winPos, own_e_winPos, own_z_winPos, own_f_winA, own_e_winA, own_z_winA, own_f_winB, own_e_winB, own_z_winB, own_f_phaseNow, own_e_phaseNow, own_z_phaseNow]⟩
        · try simp only [own_f_basis, own_e_basis, own_z_basis, own_f_target, own_e_target, own_z_target, own_f_literal, own_e_literal, own_z_literal, own_f_out, own_e_out, own_z_out, own_f_blkLen, own_e_blkLen, own_z_blkLen, own_f_blkWeak, own_e_blkWeak, own_z_blkWeak, own_f_blkStrong, own_e_blkStrong, own_z_blkStrong, own_f_head, own_e_head, own_z_head, own_f_next, own_e_next, own_z_next, own_f_kinds, own_e_kinds, own_z_kinds, own_f_values, own_e_values, own_z_values, own_f_blockSize, own_e_blockSize, own_z_blockSize, own_f_basisLen, own_e_basisLen, own_z_basisLen, own_f_targetLen, own_e_targetLen, own_z_targetLen, own_f_literalLen, own_e_literalLen, own_z_literalLen, own_f_outLen, own_e_outLen, own_z_outLen, own_f_blocks, own_e_blocks, own_z_blocks, own_f_ops, own_e_ops, own_z_ops, own_f_shortBlock, own_e_shortBlock, own_z_shortBlock, own_f_winPos, own_e_winPos, own_z_winPos, own_f_winA, own_e_winA, own_z_winA, own_f_winB, own_e_winB, own_z_winB, own_f_phaseNow, own_e_phaseNow, own_z_phaseNow]
          generalize hu : Q.mk s.f_basis s.f_target s.f_literal s.f_out s.f_blkLen s.f_blkWeak s.f_blkStrong _ _ s.f_kinds s.f_values s.f_blockSize s.f_basisLen s.f_targetLen s.f_literalLen s.f_outLen s.f_blocks s.f_ops _ s.f_winPos s.f_winA s.f_winB s.f_phaseNow = u
          have K : own_K s u := by
            subst hu
            simp only [own_K, own_f_basis, own_e_basis, own_z_basis, own_f_target, own_e_target, own_z_target, own_f_literal, own_e_literal, own_z_literal, own_f_out, own_e_out, own_z_out, own_f_blkLen, own_e_blkLen, own_z_blkLen, own_f_blkWeak, own_e_blkWeak, own_z_blkWeak, own_f_blkStrong, own_e_blkStrong, own_z_blkStrong, own_f_head, own_e_head, own_z_head, own_f_next, own_e_next, own_z_next, own_f_kinds, own_e_kinds, own_z_kinds, own_f_values, own_e_values, own_z_values, own_f_blockSize, own_e_blockSize, own_z_blockSize, own_f_basisLen, own_e_basisLen, own_z_basisLen, own_f_targetLen, own_e_targetLen, own_z_targetLen, own_f_literalLen, own_e_literalLen, own_z_literalLen, own_f_outLen, own_e_outLen, own_z_outLen, own_f_blocks, own_e_blocks, own_z_blocks, own_f_ops, own_e_ops, own_z_ops, own_f_shortBlock, own_e_shortBlock, own_z_shortBlock, own_f_winPos, own_e_winPos, own_z_winPos, own_f_winA, own_e_winA, own_z_winA, own_f_winB, own_e_winB, own_z_winB, own_f_phaseNow, own_e_phaseNow, own_z_phaseNow, len_wr, len_wrL, and_self]
          obtain ⟨t, t1, t2, t3⟩ := ih n u (i + (-1)) (own_G_K G K) (by omega) (by omega) (by omega) (by omega)
          exact ⟨t, t1, own_K_trans K t2, by rw [t3]; subst hu; simp only [own_f_basis, own_e_basis, own_z_basis, own_f_target, own_e_target, own_z_target, own_f_literal, own_e_literal, own_z_literal, own_f_out, own_e_out, own_z_out, own_f_blkLen, own_e_blkLen, own_z_blkLen, own_f_blkWeak, own_e_blkWeak, own_z_blkWeak, own_f_blkStrong, own_e_blkStrong, own_z_blkStrong, own_f_head, own_e_head, own_z_head, own_f_next, own_e_next, own_z_next, own_f_kinds, own_e_kinds, own_z_kinds, own_f_values, own_e_values, own_z_values, own_f_blockSize, own_e_blockSize, own_z_blockSize, own_f_basisLen, own_e_basisLen, own_z_basisLen, own_f_targetLen, own_e_targetLen, own_z_targetLen, own_f_literalLen, own_e_literalLen, own_z_literalLen, own_f_outLen, own_e_outLen, own_z_outLen, own_f_blocks, own_e_blocks, own_z_blocks, own_f_ops, own_e_ops, own_z_ops, own_f_shortBlock, own_e_shortBlock, own_z_shortBlock, own_f_winPos, own_e_winPos, own_z_winPos, own_f_winA, own_e_winA, own_z_winA, own_f_winB, own_e_winB, own_z_winB, own_f_phaseNow, own_e_phaseNow, own_z_phaseNow]⟩
theorem own_bi (s : Q) (G : own_G s) : ∃ t, j_buildIndex s = some t ∧ own_K s t ∧ t.f_blkLen = s.f_blkLen := by
  obtain ⟨t, t1, t2, t3⟩ := own_bi_l2 256 3000 s 0 G.h (by decide) (by decide) (by omega)
  have ub : t.f_blocks = s.f_blocks := (own_K_f t2).2.2.2.2.2.2.2.2.2.2.2.1
  rw [j_buildIndex, t1, Option.bind_some]
  try simp only [own_f_basis, own_e_basis, own_z_basis, own_f_target, own_e_target, own_z_target, own_f_literal, own_e_literal, own_z_literal, own_f_out, own_e_out, own_z_out, own_f_blkLen, own_e_blkLen, own_z_blkLen, own_f_blkWeak, own_e_blkWeak, own_z_blkWeak, own_f_blkStrong, own_e_blkStrong, own_z_blkStrong, own_f_head, own_e_head, own_z_head, own_f_next, own_e_next, own_z_next, own_f_kinds, own_e_kinds, own_z_kinds, own_f_values, own_e_values, own_z_values, own_f_blockSize, own_e_blockSize, own_z_blockSize, own_f_basisLen, own_e_basisLen, own_z_basisLen, own_f_targetLen, own_e_targetLen, own_z_targetLen, own_f_literalLen, own_e_literalLen, own_z_literalLen, own_f_outLen, own_e_outLen, own_z_outLen, own_f_blocks, own_e_blocks, own_z_blocks, own_f_ops, own_e_ops, own_z_ops, own_f_shortBlock, own_e_shortBlock, own_z_shortBlock, own_f_winPos, own_e_winPos, own_z_winPos, own_f_winA, own_e_winA, own_z_winA, own_f_winB, own_e_winB, own_z_winB, own_f_phaseNow, own_e_phaseNow, own_z_phaseNow]
  generalize hu : Q.mk t.f_basis t.f_target t.f_literal t.f_out t.f_blkLen t.f_blkWeak t.f_blkStrong t.f_head t.f_next t.f_kinds t.f_values t.f_blockSize t.f_basisLen t.f_targetLen t.f_literalLen t.f_outLen t.f_blocks t.f_ops _ t.f_winPos t.f_winA t.f_winB t.f_phaseNow = u
  have K : own_K t u := by
    subst hu
    simp only [own_K, own_f_basis, own_e_basis, own_z_basis, own_f_target, own_e_target, own_z_target, own_f_literal, own_e_literal, own_z_literal, own_f_out, own_e_out, own_z_out, own_f_blkLen, own_e_blkLen, own_z_blkLen, own_f_blkWeak, own_e_blkWeak, own_z_blkWeak, own_f_blkStrong, own_e_blkStrong, own_z_blkStrong, own_f_head, own_e_head, own_z_head, own_f_next, own_e_next, own_z_next, own_f_kinds, own_e_kinds, own_z_kinds, own_f_values, own_e_values, own_z_values, own_f_blockSize, own_e_blockSize, own_z_blockSize, own_f_basisLen, own_e_basisLen, own_z_basisLen, own_f_targetLen, own_e_targetLen, own_z_targetLen, own_f_literalLen, own_e_literalLen, own_z_literalLen, own_f_outLen, own_e_outLen, own_z_outLen, own_f_blocks, own_e_blocks, own_z_blocks, own_f_ops, own_e_ops, own_z_ops, own_f_shortBlock, own_e_shortBlock, own_z_shortBlock, own_f_winPos, own_e_winPos, own_z_winPos, own_f_winA, own_e_winA, own_z_winA, own_f_winB, own_e_winB, own_z_winB, own_f_phaseNow, own_e_phaseNow, own_z_phaseNow, len_wr, len_wrL, and_self]
  have e : (t.f_blocks - 1).toInt = s.f_blocks.toInt - 1 := by
    have := G.z0; have := G.z1
    rw [ub, own_sub] <;> simp only [Int32.reduceToInt] <;> omega
  have := G.z0; have := G.z1
  obtain ⟨w, w1, w2, w3⟩ := own_bi_l34 128 3000 u (t.f_blocks - 1) (own_G_K (own_G_K G t2) K) (by omega) (by omega) (by omega) (by omega)
  exact ⟨w, by rw [w1]; rfl, own_K_trans (own_K_trans t2 K) w2, by rw [w3, ← t3]; subst hu; simp only [own_f_basis, own_e_basis, own_z_basis, own_f_target, own_e_target, own_z_target, own_f_literal, own_e_literal, own_z_literal, own_f_out, own_e_out, own_z_out, own_f_blkLen, own_e_blkLen, own_z_blkLen, own_f_blkWeak, own_e_blkWeak, own_z_blkWeak, own_f_blkStrong, own_e_blkStrong, own_z_blkStrong, own_f_head, own_e_head, own_z_head, own_f_next, own_e_next, own_z_next, own_f_kinds, own_e_kinds, own_z_kinds, own_f_values, own_e_values, own_z_values, own_f_blockSize, own_e_blockSize, own_z_blockSize, own_f_basisLen, own_e_basisLen, own_z_basisLen, own_f_targetLen, own_e_targetLen, own_z_targetLen, own_f_literalLen, own_e_literalLen, own_z_literalLen, own_f_outLen, own_e_outLen, own_z_outLen, own_f_blocks, own_e_blocks, own_z_blocks, own_f_ops, own_e_ops, own_z_ops, own_f_shortBlock, own_e_shortBlock, own_z_shortBlock, own_f_winPos, own_e_winPos, own_z_winPos, own_f_winA, own_e_winA, own_z_winA, own_f_winB, own_e_winB, own_z_winB, own_f_phaseNow, own_e_phaseNow, own_z_phaseNow]⟩
/-- sign from block count on -/
theorem own_sign56 (s : Q) (G : own_G s) : ∃ t, own_K s t ∧ (∀ j : Int32, 0 ≤ j.toInt → j.toInt < s.f_blocks.toInt → rd t.f_blkLen j = own_bl s j) ∧ j_sign_b56 s s.f_blockSize = some (s.f_blocks, t.s_phaseNow 1) := by
  obtain ⟨t, t1, t2, t3, t4⟩ := own_sign_l 128 3000 s 0 G (by decide) (by have := G.z1; simp only [Int32.reduceToInt]; omega) (by have := G.z0; simp only [Int32.reduceToInt]; omega) (by omega)
  obtain ⟨w, w1, w2, w3⟩ := own_bi t (own_G_K G t2)
  have K := own_K_trans t2 w2
  have ub : w.f_blocks = s.f_blocks := (own_K_f K).2.2.2.2.2.2.2.2.2.2.2.1
  refine ⟨w, K, fun j a b => ?_, ?_⟩
  · rw [w3]; exact t4 j (by simpa using a) b
  · simp only [j_sign_b56, t1, Option.bind_some, w1, ub, own_f_basis, own_e_basis, own_z_basis, own_f_target, own_e_target, own_z_target, own_f_literal, own_e_literal, own_z_literal, own_f_out, own_e_out, own_z_out, own_f_blkLen, own_e_blkLen, own_z_blkLen, own_f_blkWeak, own_e_blkWeak, own_z_blkWeak, own_f_blkStrong, own_e_blkStrong, own_z_blkStrong, own_f_head, own_e_head, own_z_head, own_f_next, own_e_next, own_z_next, own_f_kinds, own_e_kinds, own_z_kinds, own_f_values, own_e_values, own_z_values, own_f_blockSize, own_e_blockSize, own_z_blockSize, own_f_basisLen, own_e_basisLen, own_z_basisLen, own_f_targetLen, own_e_targetLen, own_z_targetLen, own_f_literalLen, own_e_literalLen, own_z_literalLen, own_f_outLen, own_e_outLen, own_z_outLen, own_f_blocks, own_e_blocks, own_z_blocks, own_f_ops, own_e_ops, own_z_ops, own_f_shortBlock, own_e_shortBlock, own_z_shortBlock, own_f_winPos, own_e_winPos, own_z_winPos, own_f_winA, own_e_winA, own_z_winA, own_f_winB, own_e_winB, own_z_winB, own_f_phaseNow, own_e_phaseNow, own_z_phaseNow]

theorem own_div {x y : Int32} (h0 : 0 ≤ x.toInt) (h1 : 0 < y.toInt) : (x / y).toInt = x.toInt / y.toInt := by
  have q : x.toInt < 2147483648 := by have := Int32.toInt_lt x; simpa using this
  rw [Int32.toInt_div, Int.tdiv_eq_ediv_of_nonneg h0]
  have a := Int.ediv_le_self y.toInt h0
  have b : 0 ≤ x.toInt / y.toInt := Int.ediv_nonneg h0 (by omega)
  rw [Int.bmod_def]
  omega
theorem own_ceil {L B : Int32} (l0 : 0 < L.toInt) (l1 : L.toInt ≤ 256) (b0 : 2 ≤ B.toInt) (b1 : B.toInt ≤ 32) : 1 ≤ (((L + B) - 1) / B).toInt ∧ (((L + B) - 1) / B).toInt ≤ 128 ∧ ((((L + B) - 1) / B).toInt - 1) * B.toInt < L.toInt ∧ L.toInt ≤ (((L + B) - 1) / B).toInt * B.toInt := by
  have e1 : (L + B).toInt = L.toInt + B.toInt := own_add (by omega) (by omega)
  have e2 : (L + B - 1).toInt = L.toInt + B.toInt - 1 := by rw [own_sub] <;> simp only [Int32.reduceToInt, e1] <;> omega
  rw [own_div (by omega) (by omega), e2]
  have d1 := Int.mul_ediv_add_emod (L.toInt + B.toInt - 1) B.toInt
  have d2 := Int.emod_nonneg (L.toInt + B.toInt - 1) (b := B.toInt) (by omega)
  have d3 := Int.emod_lt_of_pos (L.toInt + B.toInt - 1) (b := B.toInt) (by omega)
  generalize (L.toInt + B.toInt - 1) / B.toInt = w at *
  generalize (L.toInt + B.toInt - 1) % B.toInt = r at *
  generalize L.toInt = l at *
  generalize B.toInt = b at *
  rw [Int.mul_comm b w] at d1
  have hw : 0 < w := by
    by_cases h : w ≤ 0
    · have := Int.mul_nonpos_of_nonpos_of_nonneg h (by omega : (0:Int) ≤ b); omega
    · omega
  refine ⟨by omega, ?_, ?_, ?_⟩
  · have a1 := Int.mul_le_mul_of_nonneg_left b0 (by omega : 0 ≤ w - 1)
    rw [Int.sub_mul w 1 b] at a1; omega
  · rw [Int.sub_mul]; omega
  · omega

theorem own_tail (s : Q) (v3 v4 r : Int32) (p : s.f_phaseNow = 0) (b : s.f_basis.length = 256) (l : s.f_blkLen.length = 128) (w : s.f_blkWeak.length = 128) (g : s.f_blkStrong.length = 128) (h : s.f_head.length = 256) (n : s.f_next.length = 128) (b0 : 2 ≤ s.f_blockSize.toInt) (b1 : s.f_blockSize.toInt ≤ 32) (l0 : 0 ≤ s.f_basisLen.toInt) (l1 : s.f_basisLen.toInt ≤ 4) : (law_b79 s v3 v4 s.f_blockSize s.f_basisLen r r).map (·.1) = some 1 := by
  have key : ∀ z : Int32, (0 ≤ z.toInt ∧ z.toInt ≤ 2 ∧ (z.toInt - 1) * s.f_blockSize.toInt ≤ s.f_basisLen.toInt ∧ s.f_basisLen.toInt ≤ z.toInt * s.f_blockSize.toInt ∧ (z.toInt = 2 → s.f_blockSize.toInt < s.f_basisLen.toInt) ∧ (z.toInt = 0 → s.f_basisLen.toInt = 0)) → j_sign s = j_sign_b56 (s.s_blocks z) s.f_blockSize → (law_b103 s v3 v4 s.f_blockSize s.f_basisLen z).map (·.1) = some 1 := by
    intro z ⟨z0, z1, z2, z3, z4, z5⟩ hs
    have e1 : (z - 1).toInt = z.toInt - 1 := by rw [own_sub] <;> simp only [Int32.reduceToInt] <;> omega
    have zc : z.toInt = 0 ∨ z.toInt = 1 ∨ z.toInt = 2 := by omega
    have e2 : ((z - 1) * s.f_blockSize).toInt = (z.toInt - 1) * s.f_blockSize.toInt := by
      rw [own_mul] <;> rw [e1] <;> rcases zc with q | q | q <;> rw [q] <;> omega
    have e3 : (s.f_basisLen - (z - 1) * s.f_blockSize).toInt = s.f_basisLen.toInt - (z.toInt - 1) * s.f_blockSize.toInt := by
      rw [own_sub] <;> rw [e2] <;> rcases zc with q | q | q <;> rw [q] <;> omega
    have G : own_G (s.s_blocks z) := by
      unfold own_G
      refine ⟨?_, ?_, ?_, ?_, ?_, ?_, ?_, ?_, ?_, ?_, ?_⟩ <;> (try simp only [own_f_basis, own_e_basis, own_z_basis, own_f_target, own_e_target, own_z_target, own_f_literal, own_e_literal, own_z_literal, own_f_out, own_e_out, own_z_out, own_f_blkLen, own_e_blkLen, own_z_blkLen, own_f_blkWeak, own_e_blkWeak, own_z_blkWeak, own_f_blkStrong, own_e_blkStrong, own_z_blkStrong, own_f_head, own_e_head, own_z_head, own_f_next, own_e_next, own_z_next, own_f_kinds, own_e_kinds, own_z_kinds, own_f_values, own_e_values, own_z_values, own_f_blockSize, own_e_blockSize, own_z_blockSize, own_f_basisLen, own_e_basisLen, own_z_basisLen, own_f_targetLen, own_e_targetLen, own_z_targetLen, own_f_literalLen, own_e_literalLen, own_z_literalLen, own_f_outLen, own_e_outLen, own_z_outLen, own_f_blocks, own_e_blocks, own_z_blocks, own_f_ops, own_e_ops, own_z_ops, own_f_shortBlock, own_e_shortBlock, own_z_shortBlock, own_f_winPos, own_e_winPos, own_z_winPos, own_f_winA, own_e_winA, own_z_winA, own_f_winB, own_e_winB, own_z_winB, own_f_phaseNow, own_e_phaseNow, own_z_phaseNow]) <;> (try assumption)
      · omega
      · intro i
        simp only [own_bl, own_f_basis, own_e_basis, own_z_basis, own_f_target, own_e_target, own_z_target, own_f_literal, own_e_literal, own_z_literal, own_f_out, own_e_out, own_z_out, own_f_blkLen, own_e_blkLen, own_z_blkLen, own_f_blkWeak, own_e_blkWeak, own_z_blkWeak, own_f_blkStrong, own_e_blkStrong, own_z_blkStrong, own_f_head, own_e_head, own_z_head, own_f_next, own_e_next, own_z_next, own_f_kinds, own_e_kinds, own_z_kinds, own_f_values, own_e_values, own_z_values, own_f_blockSize, own_e_blockSize, own_z_blockSize, own_f_basisLen, own_e_basisLen, own_z_basisLen, own_f_targetLen, own_e_targetLen, own_z_targetLen, own_f_literalLen, own_e_literalLen, own_z_literalLen, own_f_outLen, own_e_outLen, own_z_outLen, own_f_blocks, own_e_blocks, own_z_blocks, own_f_ops, own_e_ops, own_z_ops, own_f_shortBlock, own_e_shortBlock, own_z_shortBlock, own_f_winPos, own_e_winPos, own_z_winPos, own_f_winA, own_e_winA, own_z_winA, own_f_winB, own_e_winB, own_z_winB, own_f_phaseNow, own_e_phaseNow, own_z_phaseNow]
        split
        · rw [e3]; rcases zc with q | q | q <;> rw [q] <;> omega
        · omega
    obtain ⟨t, K, T, ht⟩ := own_sign56 _ G
    have F := own_K_f K
    obtain ⟨f1, f2, f3, f4, f5, f6, f7, f8, f9, f10, f11, f12, f13, f14, f15, f16, f17⟩ := F
    have tl : t.f_blkLen.length = 128 := by rw [K.2.1]; simp only [own_f_basis, own_e_basis, own_z_basis, own_f_target, own_e_target, own_z_target, own_f_literal, own_e_literal, own_z_literal, own_f_out, own_e_out, own_z_out, own_f_blkLen, own_e_blkLen, own_z_blkLen, own_f_blkWeak, own_e_blkWeak, own_z_blkWeak, own_f_blkStrong, own_e_blkStrong, own_z_blkStrong, own_f_head, own_e_head, own_z_head, own_f_next, own_e_next, own_z_next, own_f_kinds, own_e_kinds, own_z_kinds, own_f_values, own_e_values, own_z_values, own_f_blockSize, own_e_blockSize, own_z_blockSize, own_f_basisLen, own_e_basisLen, own_z_basisLen, own_f_targetLen, own_e_targetLen, own_z_targetLen, own_f_literalLen, own_e_literalLen, own_z_literalLen, own_f_outLen, own_e_outLen, own_z_outLen, own_f_blocks, own_e_blocks, own_z_blocks, own_f_ops, own_e_ops, own_z_ops, own_f_shortBlock, own_e_shortBlock, own_z_shortBlock, own_f_winPos, own_e_winPos, own_z_winPos, own_f_winA, own_e_winA, own_z_winA, own_f_winB, own_e_winB, own_z_winB, own_f_phaseNow, own_e_phaseNow, own_z_phaseNow]; exact l
    simp only [own_f_basis, own_e_basis, own_z_basis, own_f_target, own_e_target, own_z_target, own_f_literal, own_e_literal, own_z_literal, own_f_out, own_e_out, own_z_out, own_f_blkLen, own_e_blkLen, own_z_blkLen, own_f_blkWeak, own_e_blkWeak, own_z_blkWeak, own_f_blkStrong, own_e_blkStrong, own_z_blkStrong, own_f_head, own_e_head, own_z_head, own_f_next, own_e_next, own_z_next, own_f_kinds, own_e_kinds, own_z_kinds, own_f_values, own_e_values, own_z_values, own_f_blockSize, own_e_blockSize, own_z_blockSize, own_f_basisLen, own_e_basisLen, own_z_basisLen, own_f_targetLen, own_e_targetLen, own_z_targetLen, own_f_literalLen, own_e_literalLen, own_z_literalLen, own_f_outLen, own_e_outLen, own_z_outLen, own_f_blocks, own_e_blocks, own_z_blocks, own_f_ops, own_e_ops, own_z_ops, own_f_shortBlock, own_e_shortBlock, own_z_shortBlock, own_f_winPos, own_e_winPos, own_z_winPos, own_f_winA, own_e_winA, own_z_winA, own_f_winB, own_e_winB, own_z_winB, own_f_phaseNow, own_e_phaseNow, own_z_phaseNow] at ht f12 f8 T
    have c0 : rd t.f_blkLen 0 = (if s.f_basisLen < s.f_blockSize then s.f_basisLen else s.f_blockSize) ∨ z.toInt = 0 := by
      rcases zc with q | q | q
      · exact Or.inr q
      · left
        rw [T 0 (by decide) (by simp only [Int32.reduceToInt]; omega)]
        simp only [own_bl, own_f_basis, own_e_basis, own_z_basis, own_f_target, own_e_target, own_z_target, own_f_literal, own_e_literal, own_z_literal, own_f_out, own_e_out, own_z_out, own_f_blkLen, own_e_blkLen, own_z_blkLen, own_f_blkWeak, own_e_blkWeak, own_z_blkWeak, own_f_blkStrong, own_e_blkStrong, own_z_blkStrong, own_f_head, own_e_head, own_z_head, own_f_next, own_e_next, own_z_next, own_f_kinds, own_e_kinds, own_z_kinds, own_f_values, own_e_values, own_z_values, own_f_blockSize, own_e_blockSize, own_z_blockSize, own_f_basisLen, own_e_basisLen, own_z_basisLen, own_f_targetLen, own_e_targetLen, own_z_targetLen, own_f_literalLen, own_e_literalLen, own_z_literalLen, own_f_outLen, own_e_outLen, own_z_outLen, own_f_blocks, own_e_blocks, own_z_blocks, own_f_ops, own_e_ops, own_z_ops, own_f_shortBlock, own_e_shortBlock, own_z_shortBlock, own_f_winPos, own_e_winPos, own_z_winPos, own_f_winA, own_e_winA, own_z_winA, own_f_winB, own_e_winB, own_z_winB, own_f_phaseNow, own_e_phaseNow, own_z_phaseNow]
        rw [if_pos (by rw [eq32, e1, q]; rfl)]
        apply eq32.mpr
        rw [e3]
        split
        · rw [q]; omega
        · rename_i hh; rw [lt32] at hh; rw [q] at z3 ⊢; omega
      · left
        rw [T 0 (by decide) (by simp only [Int32.reduceToInt]; omega)]
        simp only [own_bl, own_f_basis, own_e_basis, own_z_basis, own_f_target, own_e_target, own_z_target, own_f_literal, own_e_literal, own_z_literal, own_f_out, own_e_out, own_z_out, own_f_blkLen, own_e_blkLen, own_z_blkLen, own_f_blkWeak, own_e_blkWeak, own_z_blkWeak, own_f_blkStrong, own_e_blkStrong, own_z_blkStrong, own_f_head, own_e_head, own_z_head, own_f_next, own_e_next, own_z_next, own_f_kinds, own_e_kinds, own_z_kinds, own_f_values, own_e_values, own_z_values, own_f_blockSize, own_e_blockSize, own_z_blockSize, own_f_basisLen, own_e_basisLen, own_z_basisLen, own_f_targetLen, own_e_targetLen, own_z_targetLen, own_f_literalLen, own_e_literalLen, own_z_literalLen, own_f_outLen, own_e_outLen, own_z_outLen, own_f_blocks, own_e_blocks, own_z_blocks, own_f_ops, own_e_ops, own_z_ops, own_f_shortBlock, own_e_shortBlock, own_z_shortBlock, own_f_winPos, own_e_winPos, own_z_winPos, own_f_winA, own_e_winA, own_z_winA, own_f_winB, own_e_winB, own_z_winB, own_f_phaseNow, own_e_phaseNow, own_z_phaseNow]
        rw [if_neg (by rw [eq32, e1, q]; decide), if_neg (by rw [lt32]; have := z4 q; omega)]
    have c1 : z.toInt = 2 → rd t.f_blkLen 1 = s.f_basisLen - s.f_blockSize := by
      intro q
      rw [T 1 (by decide) (by simp only [Int32.reduceToInt]; omega)]
      simp only [own_bl, own_f_basis, own_e_basis, own_z_basis, own_f_target, own_e_target, own_z_target, own_f_literal, own_e_literal, own_z_literal, own_f_out, own_e_out, own_z_out, own_f_blkLen, own_e_blkLen, own_z_blkLen, own_f_blkWeak, own_e_blkWeak, own_z_blkWeak, own_f_blkStrong, own_e_blkStrong, own_z_blkStrong, own_f_head, own_e_head, own_z_head, own_f_next, own_e_next, own_z_next, own_f_kinds, own_e_kinds, own_z_kinds, own_f_values, own_e_values, own_z_values, own_f_blockSize, own_e_blockSize, own_z_blockSize, own_f_basisLen, own_e_basisLen, own_z_basisLen, own_f_targetLen, own_e_targetLen, own_z_targetLen, own_f_literalLen, own_e_literalLen, own_z_literalLen, own_f_outLen, own_e_outLen, own_z_outLen, own_f_blocks, own_e_blocks, own_z_blocks, own_f_ops, own_e_ops, own_z_ops, own_f_shortBlock, own_e_shortBlock, own_z_shortBlock, own_f_winPos, own_e_winPos, own_z_winPos, own_f_winA, own_e_winA, own_z_winA, own_f_winB, own_e_winB, own_z_winB, own_f_phaseNow, own_e_phaseNow, own_z_phaseNow]
      rw [if_pos (by rw [eq32, e1, q]; rfl)]
      rw [show z - 1 = 1 from by rw [eq32, e1, q]; rfl]
      simp
    have i0 : inb 128 0 = true := by decide
    have i1 : inb 128 1 = true := by decide
    simp only [own_f_basis, own_e_basis, own_z_basis, own_f_target, own_e_target, own_z_target, own_f_literal, own_e_literal, own_z_literal, own_f_out, own_e_out, own_z_out, own_f_blkLen, own_e_blkLen, own_z_blkLen, own_f_blkWeak, own_e_blkWeak, own_z_blkWeak, own_f_blkStrong, own_e_blkStrong, own_z_blkStrong, own_f_head, own_e_head, own_z_head, own_f_next, own_e_next, own_z_next, own_f_kinds, own_e_kinds, own_z_kinds, own_f_values, own_e_values, own_z_values, own_f_blockSize, own_e_blockSize, own_z_blockSize, own_f_basisLen, own_e_basisLen, own_z_basisLen, own_f_targetLen, own_e_targetLen, own_z_targetLen, own_f_literalLen, own_e_literalLen, own_z_literalLen, own_f_outLen, own_e_outLen, own_z_outLen, own_f_blocks, own_e_blocks, own_z_blocks, own_f_ops, own_e_ops, own_z_ops, own_f_shortBlock, own_e_shortBlock, own_z_shortBlock, own_f_winPos, own_e_winPos, own_z_winPos, own_f_winA, own_e_winA, own_z_winA, own_f_winB, own_e_winB, own_z_winB, own_f_phaseNow, own_e_phaseNow, own_z_phaseNow] at hs
    rw [law_b103, hs, ht]
    rcases zc with q | q | q
    · have := z5 q
      have zz : z = 0 := eq32.mpr q
      subst zz
      simp [law_b164, law_b194, j_phase, j_blockCount, j_blockLength, j_appendBasis, j_length, j_sign, f12, f8, own_f_basis, own_e_basis, own_z_basis, own_f_target, own_e_target, own_z_target, own_f_literal, own_e_literal, own_z_literal, own_f_out, own_e_out, own_z_out, own_f_blkLen, own_e_blkLen, own_z_blkLen, own_f_blkWeak, own_e_blkWeak, own_z_blkWeak, own_f_blkStrong, own_e_blkStrong, own_z_blkStrong, own_f_head, own_e_head, own_z_head, own_f_next, own_e_next, own_z_next, own_f_kinds, own_e_kinds, own_z_kinds, own_f_values, own_e_values, own_z_values, own_f_blockSize, own_e_blockSize, own_z_blockSize, own_f_basisLen, own_e_basisLen, own_z_basisLen, own_f_targetLen, own_e_targetLen, own_z_targetLen, own_f_literalLen, own_e_literalLen, own_z_literalLen, own_f_outLen, own_e_outLen, own_z_outLen, own_f_blocks, own_e_blocks, own_z_blocks, own_f_ops, own_e_ops, own_z_ops, own_f_shortBlock, own_e_shortBlock, own_z_shortBlock, own_f_winPos, own_e_winPos, own_z_winPos, own_f_winA, own_e_winA, own_z_winA, own_f_winB, own_e_winB, own_z_winB, own_f_phaseNow, own_e_phaseNow, own_z_phaseNow]
    · have zz : z = 1 := eq32.mpr q
      subst zz
      rcases c0 with c0 | c0
      · simp [law_b164, law_b194, j_phase, j_blockCount, j_blockLength, j_appendBasis, j_length, j_sign, f12, f8, own_f_basis, own_e_basis, own_z_basis, own_f_target, own_e_target, own_z_target, own_f_literal, own_e_literal, own_z_literal, own_f_out, own_e_out, own_z_out, own_f_blkLen, own_e_blkLen, own_z_blkLen, own_f_blkWeak, own_e_blkWeak, own_z_blkWeak, own_f_blkStrong, own_e_blkStrong, own_z_blkStrong, own_f_head, own_e_head, own_z_head, own_f_next, own_e_next, own_z_next, own_f_kinds, own_e_kinds, own_z_kinds, own_f_values, own_e_values, own_z_values, own_f_blockSize, own_e_blockSize, own_z_blockSize, own_f_basisLen, own_e_basisLen, own_z_basisLen, own_f_targetLen, own_e_targetLen, own_z_targetLen, own_f_literalLen, own_e_literalLen, own_z_literalLen, own_f_outLen, own_e_outLen, own_z_outLen, own_f_blocks, own_e_blocks, own_z_blocks, own_f_ops, own_e_ops, own_z_ops, own_f_shortBlock, own_e_shortBlock, own_z_shortBlock, own_f_winPos, own_e_winPos, own_z_winPos, own_f_winA, own_e_winA, own_z_winA, own_f_winB, own_e_winB, own_z_winB, own_f_phaseNow, own_e_phaseNow, own_z_phaseNow, tl, i0, c0]
      · omega
    · have zz : z = 2 := eq32.mpr q
      subst zz
      rcases c0 with c0 | c0
      · simp [law_b164, law_b194, j_phase, j_blockCount, j_blockLength, j_appendBasis, j_length, j_sign, f12, f8, own_f_basis, own_e_basis, own_z_basis, own_f_target, own_e_target, own_z_target, own_f_literal, own_e_literal, own_z_literal, own_f_out, own_e_out, own_z_out, own_f_blkLen, own_e_blkLen, own_z_blkLen, own_f_blkWeak, own_e_blkWeak, own_z_blkWeak, own_f_blkStrong, own_e_blkStrong, own_z_blkStrong, own_f_head, own_e_head, own_z_head, own_f_next, own_e_next, own_z_next, own_f_kinds, own_e_kinds, own_z_kinds, own_f_values, own_e_values, own_z_values, own_f_blockSize, own_e_blockSize, own_z_blockSize, own_f_basisLen, own_e_basisLen, own_z_basisLen, own_f_targetLen, own_e_targetLen, own_z_targetLen, own_f_literalLen, own_e_literalLen, own_z_literalLen, own_f_outLen, own_e_outLen, own_z_outLen, own_f_blocks, own_e_blocks, own_z_blocks, own_f_ops, own_e_ops, own_z_ops, own_f_shortBlock, own_e_shortBlock, own_z_shortBlock, own_f_winPos, own_e_winPos, own_z_winPos, own_f_winA, own_e_winA, own_z_winA, own_f_winB, own_e_winB, own_z_winB, own_f_phaseNow, own_e_phaseNow, own_z_phaseNow, tl, i0, i1, c0, c1]
      · omega
  rw [law_b79, if_pos rfl]
  by_cases c : s.f_basisLen = 0
  · rw [if_pos c]
    apply key
    · rw [c]; simp only [Int32.reduceToInt]; refine ⟨?_, ?_, ?_, ?_, ?_, ?_⟩ <;> (try intro _) <;> omega
    · rw [j_sign, if_pos p, if_pos c, j_sign_b36, if_neg (by decide)]
      try simp only [own_f_basis, own_e_basis, own_z_basis, own_f_target, own_e_target, own_z_target, own_f_literal, own_e_literal, own_z_literal, own_f_out, own_e_out, own_z_out, own_f_blkLen, own_e_blkLen, own_z_blkLen, own_f_blkWeak, own_e_blkWeak, own_z_blkWeak, own_f_blkStrong, own_e_blkStrong, own_z_blkStrong, own_f_head, own_e_head, own_z_head, own_f_next, own_e_next, own_z_next, own_f_kinds, own_e_kinds, own_z_kinds, own_f_values, own_e_values, own_z_values, own_f_blockSize, own_e_blockSize, own_z_blockSize, own_f_basisLen, own_e_basisLen, own_z_basisLen, own_f_targetLen, own_e_targetLen, own_z_targetLen, own_f_literalLen, own_e_literalLen, own_z_literalLen, own_f_outLen, own_e_outLen, own_z_outLen, own_f_blocks, own_e_blocks, own_z_blocks, own_f_ops, own_e_ops, own_z_ops, own_f_shortBlock, own_e_shortBlock, own_z_shortBlock, own_f_winPos, own_e_winPos, own_z_winPos, own_f_winA, own_e_winA, own_z_winA, own_f_winB, own_e_winB, own_z_winB, own_f_phaseNow, own_e_phaseNow, own_z_phaseNow]
  · rw [if_neg c]
    have bz : s.f_blockSize ≠ 0 := by simp only [ne_eq, eq32, Int32.reduceToInt]; omega
    rw [if_neg bz]
    have lp : 0 < s.f_basisLen.toInt := by rw [eq32] at c; simp only [Int32.reduceToInt] at c; omega
    obtain ⟨d1, d2, d3, d4⟩ := own_ceil (L := s.f_basisLen) (B := s.f_blockSize) lp (by omega) b0 b1
    apply key
    · generalize ((s.f_basisLen + s.f_blockSize - 1) / s.f_blockSize).toInt = z at *
      have : z ≤ 2 := by
        by_cases q : z ≤ 2
        · exact q
        · have := Int.mul_le_mul_of_nonneg_left b0 (by omega : 0 ≤ z - 1); omega
      refine ⟨by omega, this, by omega, d4, ?_, by omega⟩
      intro q; rw [q] at d3; omega
    · rw [j_sign, if_pos p, if_neg c, if_neg bz, j_sign_b36, if_neg (by rw [lt32]; simp only [Int32.reduceToInt]; omega)]
      try simp only [own_f_basis, own_e_basis, own_z_basis, own_f_target, own_e_target, own_z_target, own_f_literal, own_e_literal, own_z_literal, own_f_out, own_e_out, own_z_out, own_f_blkLen, own_e_blkLen, own_z_blkLen, own_f_blkWeak, own_e_blkWeak, own_z_blkWeak, own_f_blkStrong, own_e_blkStrong, own_z_blkStrong, own_f_head, own_e_head, own_z_head, own_f_next, own_e_next, own_z_next, own_f_kinds, own_e_kinds, own_z_kinds, own_f_values, own_e_values, own_z_values, own_f_blockSize, own_e_blockSize, own_z_blockSize, own_f_basisLen, own_e_basisLen, own_z_basisLen, own_f_targetLen, own_e_targetLen, own_z_targetLen, own_f_literalLen, own_e_literalLen, own_z_literalLen, own_f_outLen, own_e_outLen, own_z_outLen, own_f_blocks, own_e_blocks, own_z_blocks, own_f_ops, own_e_ops, own_z_ops, own_f_shortBlock, own_e_shortBlock, own_z_shortBlock, own_f_winPos, own_e_winPos, own_z_winPos, own_f_winA, own_e_winA, own_z_winA, own_f_winB, own_e_winB, own_z_winB, own_f_phaseNow, own_e_phaseNow, own_z_phaseNow]
theorem own_law (v0 v1 v2 v3 v4 : Int32) : (law v0 v1 v2 v3 v4).map (·.1) = some 1 := by
  simp only [law, own_init, Option.bind_some]
  rw [show (if v0 < (2 : Int32) then (2 : Int32) else if (32 : Int32) < v0 then (32 : Int32) else v0) = own_bc v0 from rfl]
  obtain ⟨b0, b1⟩ := own_bc_b v0
  generalize own_bc v0 = b at *
  have i0 : inb 256 0 = true := by decide
  have i1 : inb 256 1 = true := by decide
  have i2 : inb 256 2 = true := by decide
  have i3 : inb 256 3 = true := by decide
  by_cases h1 : v2 < 1
  · have := own_tail (own_S b) v3 v4 (-1) (by simp only [own_S, own_f_basis, own_e_basis, own_z_basis, own_f_target, own_e_target, own_z_target, own_f_literal, own_e_literal, own_z_literal, own_f_out, own_e_out, own_z_out, own_f_blkLen, own_e_blkLen, own_z_blkLen, own_f_blkWeak, own_e_blkWeak, own_z_blkWeak, own_f_blkStrong, own_e_blkStrong, own_z_blkStrong, own_f_head, own_e_head, own_z_head, own_f_next, own_e_next, own_z_next, own_f_kinds, own_e_kinds, own_z_kinds, own_f_values, own_e_values, own_z_values, own_f_blockSize, own_e_blockSize, own_z_blockSize, own_f_basisLen, own_e_basisLen, own_z_basisLen, own_f_targetLen, own_e_targetLen, own_z_targetLen, own_f_literalLen, own_e_literalLen, own_z_literalLen, own_f_outLen, own_e_outLen, own_z_outLen, own_f_blocks, own_e_blocks, own_z_blocks, own_f_ops, own_e_ops, own_z_ops, own_f_shortBlock, own_e_shortBlock, own_z_shortBlock, own_f_winPos, own_e_winPos, own_z_winPos, own_f_winA, own_e_winA, own_z_winA, own_f_winB, own_e_winB, own_z_winB, own_f_phaseNow, own_e_phaseNow, own_z_phaseNow]) (by simp only [own_S, own_f_basis, own_e_basis, own_z_basis, own_f_target, own_e_target, own_z_target, own_f_literal, own_e_literal, own_z_literal, own_f_out, own_e_out, own_z_out, own_f_blkLen, own_e_blkLen, own_z_blkLen, own_f_blkWeak, own_e_blkWeak, own_z_blkWeak, own_f_blkStrong, own_e_blkStrong, own_z_blkStrong, own_f_head, own_e_head, own_z_head, own_f_next, own_e_next, own_z_next, own_f_kinds, own_e_kinds, own_z_kinds, own_f_values, own_e_values, own_z_values, own_f_blockSize, own_e_blockSize, own_z_blockSize, own_f_basisLen, own_e_basisLen, own_z_basisLen, own_f_targetLen, own_e_targetLen, own_z_targetLen, own_f_literalLen, own_e_literalLen, own_z_literalLen, own_f_outLen, own_e_outLen, own_z_outLen, own_f_blocks, own_e_blocks, own_z_blocks, own_f_ops, own_e_ops, own_z_ops, own_f_shortBlock, own_e_shortBlock, own_z_shortBlock, own_f_winPos, own_e_winPos, own_z_winPos, own_f_winA, own_e_winA, own_z_winA, own_f_winB, own_e_winB, own_z_winB, own_f_phaseNow, own_e_phaseNow, own_z_phaseNow, List.length_replicate]) (by simp only [own_S, own_f_basis, own_e_basis, own_z_basis, own_f_target, own_e_target, own_z_target, own_f_literal, own_e_literal, own_z_literal, own_f_out, own_e_out, own_z_out, own_f_blkLen, own_e_blkLen, own_z_blkLen, own_f_blkWeak, own_e_blkWeak, own_z_blkWeak, own_f_blkStrong, own_e_blkStrong, own_z_blkStrong, own_f_head, own_e_head, own_z_head, own_f_next, own_e_next, own_z_next, own_f_kinds, own_e_kinds, own_z_kinds, own_f_values, own_e_values, own_z_values, own_f_blockSize, own_e_blockSize, own_z_blockSize, own_f_basisLen, own_e_basisLen, own_z_basisLen, own_f_targetLen, own_e_targetLen, own_z_targetLen, own_f_literalLen, own_e_literalLen, own_z_literalLen, own_f_outLen, own_e_outLen, own_z_outLen, own_f_blocks, own_e_blocks, own_z_blocks, own_f_ops, own_e_ops, own_z_ops, own_f_shortBlock, own_e_shortBlock, own_z_shortBlock, own_f_winPos, own_e_winPos, own_z_winPos, own_f_winA, own_e_winA, own_z_winA, own_f_winB, own_e_winB, own_z_winB, own_f_phaseNow, own_e_phaseNow, own_z_phaseNow, List.length_replicate]) (by simp only [own_S, own_f_basis, own_e_basis, own_z_basis, own_f_target, own_e_target, own_z_target, own_f_literal, own_e_literal, own_z_literal, own_f_out, own_e_out, own_z_out, own_f_blkLen, own_e_blkLen, own_z_blkLen, own_f_blkWeak, own_e_blkWeak, own_z_blkWeak, own_f_blkStrong, own_e_blkStrong, own_z_blkStrong, own_f_head, own_e_head, own_z_head, own_f_next, own_e_next, own_z_next, own_f_kinds, own_e_kinds, own_z_kinds, own_f_values, own_e_values, own_z_values, own_f_blockSize, own_e_blockSize, own_z_blockSize, own_f_basisLen, own_e_basisLen, own_z_basisLen, own_f_targetLen, own_e_targetLen, own_z_targetLen, own_f_literalLen, own_e_literalLen, own_z_literalLen, own_f_outLen, own_e_outLen, own_z_outLen, own_f_blocks, own_e_blocks, own_z_blocks, own_f_ops, own_e_ops, own_z_ops, own_f_shortBlock, own_e_shortBlock, own_z_shortBlock, own_f_winPos, own_e_winPos, own_z_winPos, own_f_winA, own_e_winA, own_z_winA, own_f_winB, own_e_winB, own_z_winB, own_f_phaseNow, own_e_phaseNow, own_z_phaseNow, List.length_replicate]) (by simp only [own_S, own_f_basis, own_e_basis, own_z_basis, own_f_target, own_e_target, own_z_target, own_f_literal, own_e_literal, own_z_literal, own_f_out, own_e_out, own_z_out, own_f_blkLen, own_e_blkLen, own_z_blkLen, own_f_blkWeak, own_e_blkWeak, own_z_blkWeak, own_f_blkStrong, own_e_blkStrong, own_z_blkStrong, own_f_head, own_e_head, own_z_head, own_f_next, own_e_next, own_z_next, own_f_kinds, own_e_kinds, own_z_kinds, own_f_values, own_e_values, own_z_values, own_f_blockSize, own_e_blockSize, own_z_blockSize, own_f_basisLen, own_e_basisLen, own_z_basisLen, own_f_targetLen, own_e_targetLen, own_z_targetLen, own_f_literalLen, own_e_literalLen, own_z_literalLen, own_f_outLen, own_e_outLen, own_z_outLen, own_f_blocks, own_e_blocks, own_z_blocks, own_f_ops, own_e_ops, own_z_ops, own_f_shortBlock, own_e_shortBlock, own_z_shortBlock, own_f_winPos, own_e_winPos, own_z_winPos, own_f_winA, own_e_winA, own_z_winA, own_f_winB, own_e_winB, own_z_winB, own_f_phaseNow, own_e_phaseNow, own_z_phaseNow, List.length_replicate]) (by simp only [own_S, own_f_basis, own_e_basis, own_z_basis, own_f_target, own_e_target, own_z_target, own_f_literal, own_e_literal, own_z_literal, own_f_out, own_e_out, own_z_out, own_f_blkLen, own_e_blkLen, own_z_blkLen, own_f_blkWeak, own_e_blkWeak, own_z_blkWeak, own_f_blkStrong, own_e_blkStrong, own_z_blkStrong, own_f_head, own_e_head, own_z_head, own_f_next, own_e_next, own_z_next, own_f_kinds, own_e_kinds, own_z_kinds, own_f_values, own_e_values, own_z_values, own_f_blockSize, own_e_blockSize, own_z_blockSize, own_f_basisLen, own_e_basisLen, own_z_basisLen, own_f_targetLen, own_e_targetLen, own_z_targetLen, own_f_literalLen, own_e_literalLen, own_z_literalLen, own_f_outLen, own_e_outLen, own_z_outLen, own_f_blocks, own_e_blocks, own_z_blocks, own_f_ops, own_e_ops, own_z_ops, own_f_shortBlock, own_e_shortBlock, own_z_shortBlock, own_f_winPos, own_e_winPos, own_z_winPos, own_f_winA, own_e_winA, own_z_winA, own_f_winB, own_e_winB, own_z_winB, own_f_phaseNow, own_e_phaseNow, own_z_phaseNow, List.length_replicate]) (by simp only [own_S, own_f_basis, own_e_basis, own_z_basis, own_f_target, own_e_target, own_z_target, own_f_literal, own_e_literal, own_z_literal, own_f_out, own_e_out, own_z_out, own_f_blkLen, own_e_blkLen, own_z_blkLen, own_f_blkWeak, own_e_blkWeak, own_z_blkWeak, own_f_blkStrong, own_e_blkStrong, own_z_blkStrong, own_f_head, own_e_head, own_z_head, own_f_next, own_e_next, own_z_next, own_f_kinds, own_e_kinds, own_z_kinds, own_f_values, own_e_values, own_z_values, own_f_blockSize, own_e_blockSize, own_z_blockSize, own_f_basisLen, own_e_basisLen, own_z_basisLen, own_f_targetLen, own_e_targetLen, own_z_targetLen, own_f_literalLen, own_e_literalLen, own_z_literalLen, own_f_outLen, own_e_outLen, own_z_outLen, own_f_blocks, own_e_blocks, own_z_blocks, own_f_ops, own_e_ops, own_z_ops, own_f_shortBlock, own_e_shortBlock, own_z_shortBlock, own_f_winPos, own_e_winPos, own_z_winPos, own_f_winA, own_e_winA, own_z_winA, own_f_winB, own_e_winB, own_z_winB, own_f_phaseNow, own_e_phaseNow, own_z_phaseNow, List.length_replicate]) (by simp only [own_S, own_f_basis, own_e_basis, own_z_basis, own_f_target, own_e_target, own_z_target, own_f_literal, own_e_literal, own_z_literal, own_f_out, own_e_out, own_z_out, own_f_blkLen, own_e_blkLen, own_z_blkLen, own_f_blkWeak, own_e_blkWeak, own_z_blkWeak, own_f_blkStrong, own_e_blkStrong, own_z_blkStrong, own_f_head, own_e_head, own_z_head, own_f_next, own_e_next, own_z_next, own_f_kinds, own_e_kinds, own_z_kinds, own_f_values, own_e_values, own_z_values, own_f_blockSize, own_e_blockSize, own_z_blockSize, own_f_basisLen, own_e_basisLen, own_z_basisLen, own_f_targetLen, own_e_targetLen, own_z_targetLen, own_f_literalLen, own_e_literalLen, own_z_literalLen, own_f_outLen, own_e_outLen, own_z_outLen, own_f_blocks, own_e_blocks, own_z_blocks, own_f_ops, own_e_ops, own_z_ops, own_f_shortBlock, own_e_shortBlock, own_z_shortBlock, own_f_winPos, own_e_winPos, own_z_winPos, own_f_winA, own_e_winA, own_z_winA, own_f_winB, own_e_winB, own_z_winB, own_f_phaseNow, own_e_phaseNow, own_z_phaseNow]; exact b0) (by simp only [own_S, own_f_basis, own_e_basis, own_z_basis, own_f_target, own_e_target, own_z_target, own_f_literal, own_e_literal, own_z_literal, own_f_out, own_e_out, own_z_out, own_f_blkLen, own_e_blkLen, own_z_blkLen, own_f_blkWeak, own_e_blkWeak, own_z_blkWeak, own_f_blkStrong, own_e_blkStrong, own_z_blkStrong, own_f_head, own_e_head, own_z_head, own_f_next, own_e_next, own_z_next, own_f_kinds, own_e_kinds, own_z_kinds, own_f_values, own_e_values, own_z_values, own_f_blockSize, own_e_blockSize, own_z_blockSize, own_f_basisLen, own_e_basisLen, own_z_basisLen, own_f_targetLen, own_e_targetLen, own_z_targetLen, own_f_literalLen, own_e_literalLen, own_z_literalLen, own_f_outLen, own_e_outLen, own_z_outLen, own_f_blocks, own_e_blocks, own_z_blocks, own_f_ops, own_e_ops, own_z_ops, own_f_shortBlock, own_e_shortBlock, own_z_shortBlock, own_f_winPos, own_e_winPos, own_z_winPos, own_f_winA, own_e_winA, own_z_winA, own_f_winB, own_e_winB, own_z_winB, own_f_phaseNow, own_e_phaseNow, own_z_phaseNow]; exact b1) (by simp only [own_S, own_f_basis, own_e_basis, own_z_basis, own_f_target, own_e_target, own_z_target, own_f_literal, own_e_literal, own_z_literal, own_f_out, own_e_out, own_z_out, own_f_blkLen, own_e_blkLen, own_z_blkLen, own_f_blkWeak, own_e_blkWeak, own_z_blkWeak, own_f_blkStrong, own_e_blkStrong, own_z_blkStrong, own_f_head, own_e_head, own_z_head, own_f_next, own_e_next, own_z_next, own_f_kinds, own_e_kinds, own_z_kinds, own_f_values, own_e_values, own_z_values, own_f_blockSize, own_e_blockSize, own_z_blockSize, own_f_basisLen, own_e_basisLen, own_z_basisLen, own_f_targetLen, own_e_targetLen, own_z_targetLen, own_f_literalLen, own_e_literalLen, own_z_literalLen, own_f_outLen, own_e_outLen, own_z_outLen, own_f_blocks, own_e_blocks, own_z_blocks, own_f_ops, own_e_ops, own_z_ops, own_f_shortBlock, own_e_shortBlock, own_z_shortBlock, own_f_winPos, own_e_winPos, own_z_winPos, own_f_winA, own_e_winA, own_z_winA, own_f_winB, own_e_winB, own_z_winB, own_f_phaseNow, own_e_phaseNow, own_z_phaseNow]; decide) (by simp only [own_S, own_f_basis, own_e_basis, own_z_basis, own_f_target, own_e_target, own_z_target, own_f_literal, own_e_literal, own_z_literal, own_f_out, own_e_out, own_z_out, own_f_blkLen, own_e_blkLen, own_z_blkLen, own_f_blkWeak, own_e_blkWeak, own_z_blkWeak, own_f_blkStrong, own_e_blkStrong, own_z_blkStrong, own_f_head, own_e_head, own_z_head, own_f_next, own_e_next, own_z_next, own_f_kinds, own_e_kinds, own_z_kinds, own_f_values, own_e_values, own_z_values, own_f_blockSize, own_e_blockSize, own_z_blockSize, own_f_basisLen, own_e_basisLen, own_z_basisLen, own_f_targetLen, own_e_targetLen, own_z_targetLen, own_f_literalLen, own_e_literalLen, own_z_literalLen, own_f_outLen, own_e_outLen, own_z_outLen, own_f_blocks, own_e_blocks, own_z_blocks, own_f_ops, own_e_ops, own_z_ops, own_f_shortBlock, own_e_shortBlock, own_z_shortBlock, own_f_winPos, own_e_winPos, own_z_winPos, own_f_winA, own_e_winA, own_z_winA, own_f_winB, own_e_winB, own_z_winB, own_f_phaseNow, own_e_phaseNow, own_z_phaseNow]; decide)
    have p0 : (own_S b).f_phaseNow = 0 := by simp only [own_S, own_f_basis, own_e_basis, own_z_basis, own_f_target, own_e_target, own_z_target, own_f_literal, own_e_literal, own_z_literal, own_f_out, own_e_out, own_z_out, own_f_blkLen, own_e_blkLen, own_z_blkLen, own_f_blkWeak, own_e_blkWeak, own_z_blkWeak, own_f_blkStrong, own_e_blkStrong, own_z_blkStrong, own_f_head, own_e_head, own_z_head, own_f_next, own_e_next, own_z_next, own_f_kinds, own_e_kinds, own_z_kinds, own_f_values, own_e_values, own_z_values, own_f_blockSize, own_e_blockSize, own_z_blockSize, own_f_basisLen, own_e_basisLen, own_z_basisLen, own_f_targetLen, own_e_targetLen, own_z_targetLen, own_f_literalLen, own_e_literalLen, own_z_literalLen, own_f_outLen, own_e_outLen, own_z_outLen, own_f_blocks, own_e_blocks, own_z_blocks, own_f_ops, own_e_ops, own_z_ops, own_f_shortBlock, own_e_shortBlock, own_z_shortBlock, own_f_winPos, own_e_winPos, own_z_winPos, own_f_winA, own_e_winA, own_z_winA, own_f_winB, own_e_winB, own_z_winB, own_f_phaseNow, own_e_phaseNow, own_z_phaseNow]
    have p1 : (own_S b).f_blockSize = b := by simp only [own_S, own_f_basis, own_e_basis, own_z_basis, own_f_target, own_e_target, own_z_target, own_f_literal, own_e_literal, own_z_literal, own_f_out, own_e_out, own_z_out, own_f_blkLen, own_e_blkLen, own_z_blkLen, own_f_blkWeak, own_e_blkWeak, own_z_blkWeak, own_f_blkStrong, own_e_blkStrong, own_z_blkStrong, own_f_head, own_e_head, own_z_head, own_f_next, own_e_next, own_z_next, own_f_kinds, own_e_kinds, own_z_kinds, own_f_values, own_e_values, own_z_values, own_f_blockSize, own_e_blockSize, own_z_blockSize, own_f_basisLen, own_e_basisLen, own_z_basisLen, own_f_targetLen, own_e_targetLen, own_z_targetLen, own_f_literalLen, own_e_literalLen, own_z_literalLen, own_f_outLen, own_e_outLen, own_z_outLen, own_f_blocks, own_e_blocks, own_z_blocks, own_f_ops, own_e_ops, own_z_ops, own_f_shortBlock, own_e_shortBlock, own_z_shortBlock, own_f_winPos, own_e_winPos, own_z_winPos, own_f_winA, own_e_winA, own_z_winA, own_f_winB, own_e_winB, own_z_winB, own_f_phaseNow, own_e_phaseNow, own_z_phaseNow]
    have p2 : (own_S b).f_basisLen = 0 := by simp only [own_S, own_f_basis, own_e_basis, own_z_basis, own_f_target, own_e_target, own_z_target, own_f_literal, own_e_literal, own_z_literal, own_f_out, own_e_out, own_z_out, own_f_blkLen, own_e_blkLen, own_z_blkLen, own_f_blkWeak, own_e_blkWeak, own_z_blkWeak, own_f_blkStrong, own_e_blkStrong, own_z_blkStrong, own_f_head, own_e_head, own_z_head, own_f_next, own_e_next, own_z_next, own_f_kinds, own_e_kinds, own_z_kinds, own_f_values, own_e_values, own_z_values, own_f_blockSize, own_e_blockSize, own_z_blockSize, own_f_basisLen, own_e_basisLen, own_z_basisLen, own_f_targetLen, own_e_targetLen, own_z_targetLen, own_f_literalLen, own_e_literalLen, own_z_literalLen, own_f_outLen, own_e_outLen, own_z_outLen, own_f_blocks, own_e_blocks, own_z_blocks, own_f_ops, own_e_ops, own_z_ops, own_f_shortBlock, own_e_shortBlock, own_z_shortBlock, own_f_winPos, own_e_winPos, own_z_winPos, own_f_winA, own_e_winA, own_z_winA, own_f_winB, own_e_winB, own_z_winB, own_f_phaseNow, own_e_phaseNow, own_z_phaseNow]
    rw [p1, p2] at this
    simp only [law_b31, law_b48, law_b60, j_appendBasis, p0, if_pos h1, if_true, Option.bind_some]
    exact this
  · by_cases h2 : 4 < v2
    · have := own_tail (own_S b) v3 v4 (-1) (by simp only [own_S, own_f_basis, own_e_basis, own_z_basis, own_f_target, own_e_target, own_z_target, own_f_literal, own_e_literal, own_z_literal, own_f_out, own_e_out, own_z_out, own_f_blkLen, own_e_blkLen, own_z_blkLen, own_f_blkWeak, own_e_blkWeak, own_z_blkWeak, own_f_blkStrong, own_e_blkStrong, own_z_blkStrong, own_f_head, own_e_head, own_z_head, own_f_next, own_e_next, own_z_next, own_f_kinds, own_e_kinds, own_z_kinds, own_f_values, own_e_values, own_z_values, own_f_blockSize, own_e_blockSize, own_z_blockSize, own_f_basisLen, own_e_basisLen, own_z_basisLen, own_f_targetLen, own_e_targetLen, own_z_targetLen, own_f_literalLen, own_e_literalLen, own_z_literalLen, own_f_outLen, own_e_outLen, own_z_outLen, own_f_blocks, own_e_blocks, own_z_blocks, own_f_ops, own_e_ops, own_z_ops, own_f_shortBlock, own_e_shortBlock, own_z_shortBlock, own_f_winPos, own_e_winPos, own_z_winPos, own_f_winA, own_e_winA, own_z_winA, own_f_winB, own_e_winB, own_z_winB, own_f_phaseNow, own_e_phaseNow, own_z_phaseNow]) (by simp only [own_S, own_f_basis, own_e_basis, own_z_basis, own_f_target, own_e_target, own_z_target, own_f_literal, own_e_literal, own_z_literal, own_f_out, own_e_out, own_z_out, own_f_blkLen, own_e_blkLen, own_z_blkLen, own_f_blkWeak, own_e_blkWeak, own_z_blkWeak, own_f_blkStrong, own_e_blkStrong, own_z_blkStrong, own_f_head, own_e_head, own_z_head, own_f_next, own_e_next, own_z_next, own_f_kinds, own_e_kinds, own_z_kinds, own_f_values, own_e_values, own_z_values, own_f_blockSize, own_e_blockSize, own_z_blockSize, own_f_basisLen, own_e_basisLen, own_z_basisLen, own_f_targetLen, own_e_targetLen, own_z_targetLen, own_f_literalLen, own_e_literalLen, own_z_literalLen, own_f_outLen, own_e_outLen, own_z_outLen, own_f_blocks, own_e_blocks, own_z_blocks, own_f_ops, own_e_ops, own_z_ops, own_f_shortBlock, own_e_shortBlock, own_z_shortBlock, own_f_winPos, own_e_winPos, own_z_winPos, own_f_winA, own_e_winA, own_z_winA, own_f_winB, own_e_winB, own_z_winB, own_f_phaseNow, own_e_phaseNow, own_z_phaseNow, List.length_replicate]) (by simp only [own_S, own_f_basis, own_e_basis, own_z_basis, own_f_target, own_e_target, own_z_target, own_f_literal, own_e_literal, own_z_literal, own_f_out, own_e_out, own_z_out, own_f_blkLen, own_e_blkLen, own_z_blkLen, own_f_blkWeak, own_e_blkWeak, own_z_blkWeak, own_f_blkStrong, own_e_blkStrong, own_z_blkStrong, own_f_head, own_e_head, own_z_head, own_f_next, own_e_next, own_z_next, own_f_kinds, own_e_kinds, own_z_kinds, own_f_values, own_e_values, own_z_values, own_f_blockSize, own_e_blockSize, own_z_blockSize, own_f_basisLen, own_e_basisLen, own_z_basisLen, own_f_targetLen, own_e_targetLen, own_z_targetLen, own_f_literalLen, own_e_literalLen, own_z_literalLen, own_f_outLen, own_e_outLen, own_z_outLen, own_f_blocks, own_e_blocks, own_z_blocks, own_f_ops, own_e_ops, own_z_ops, own_f_shortBlock, own_e_shortBlock, own_z_shortBlock, own_f_winPos, own_e_winPos, own_z_winPos, own_f_winA, own_e_winA, own_z_winA, own_f_winB, own_e_winB, own_z_winB, own_f_phaseNow, own_e_phaseNow, own_z_phaseNow, List.length_replicate]) (by simp only [own_S, own_f_basis, own_e_basis, own_z_basis, own_f_target, own_e_target, own_z_target, own_f_literal, own_e_literal, own_z_literal, own_f_out, own_e_out, own_z_out, own_f_blkLen, own_e_blkLen, own_z_blkLen, own_f_blkWeak, own_e_blkWeak, own_z_blkWeak, own_f_blkStrong, own_e_blkStrong, own_z_blkStrong, own_f_head, own_e_head, own_z_head, own_f_next, own_e_next, own_z_next, own_f_kinds, own_e_kinds, own_z_kinds, own_f_values, own_e_values, own_z_values, own_f_blockSize, own_e_blockSize, own_z_blockSize, own_f_basisLen, own_e_basisLen, own_z_basisLen, own_f_targetLen, own_e_targetLen, own_z_targetLen, own_f_literalLen, own_e_literalLen, own_z_literalLen, own_f_outLen, own_e_outLen, own_z_outLen, own_f_blocks, own_e_blocks, own_z_blocks, own_f_ops, own_e_ops, own_z_ops, own_f_shortBlock, own_e_shortBlock, own_z_shortBlock, own_f_winPos, own_e_winPos, own_z_winPos, own_f_winA, own_e_winA, own_z_winA, own_f_winB, own_e_winB, own_z_winB, own_f_phaseNow, own_e_phaseNow, own_z_phaseNow, List.length_replicate]) (by simp only [own_S, own_f_basis, own_e_basis, own_z_basis, own_f_target, own_e_target, own_z_target, own_f_literal, own_e_literal, own_z_literal, own_f_out, own_e_out, own_z_out, own_f_blkLen, own_e_blkLen, own_z_blkLen, own_f_blkWeak, own_e_blkWeak, own_z_blkWeak, own_f_blkStrong, own_e_blkStrong, own_z_blkStrong, own_f_head, own_e_head, own_z_head, own_f_next, own_e_next, own_z_next, own_f_kinds, own_e_kinds, own_z_kinds, own_f_values, own_e_values, own_z_values, own_f_blockSize, own_e_blockSize, own_z_blockSize, own_f_basisLen, own_e_basisLen, own_z_basisLen, own_f_targetLen, own_e_targetLen, own_z_targetLen, own_f_literalLen, own_e_literalLen, own_z_literalLen, own_f_outLen, own_e_outLen, own_z_outLen, own_f_blocks, own_e_blocks, own_z_blocks, own_f_ops, own_e_ops, own_z_ops, own_f_shortBlock, own_e_shortBlock, own_z_shortBlock, own_f_winPos, own_e_winPos, own_z_winPos, own_f_winA, own_e_winA, own_z_winA, own_f_winB, own_e_winB, own_z_winB, own_f_phaseNow, own_e_phaseNow, own_z_phaseNow, List.length_replicate]) (by simp only [own_S, own_f_basis, own_e_basis, own_z_basis, own_f_target, own_e_target, own_z_target, own_f_literal, own_e_literal, own_z_literal, own_f_out, own_e_out, own_z_out, own_f_blkLen, own_e_blkLen, own_z_blkLen, own_f_blkWeak, own_e_blkWeak, own_z_blkWeak, own_f_blkStrong, own_e_blkStrong, own_z_blkStrong, own_f_head, own_e_head, own_z_head, own_f_next, own_e_next, own_z_next, own_f_kinds, own_e_kinds, own_z_kinds, own_f_values, own_e_values, own_z_values, own_f_blockSize, own_e_blockSize, own_z_blockSize, own_f_basisLen, own_e_basisLen, own_z_basisLen, own_f_targetLen, own_e_targetLen, own_z_targetLen, own_f_literalLen, own_e_literalLen, own_z_literalLen, own_f_outLen, own_e_outLen, own_z_outLen, own_f_blocks, own_e_blocks, own_z_blocks, own_f_ops, own_e_ops, own_z_ops, own_f_shortBlock, own_e_shortBlock, own_z_shortBlock, own_f_winPos, own_e_winPos, own_z_winPos, own_f_winA, own_e_winA, own_z_winA, own_f_winB, own_e_winB, own_z_winB, own_f_phaseNow, own_e_phaseNow, own_z_phaseNow, List.length_replicate]) (by simp only [own_S, own_f_basis, own_e_basis, own_z_basis, own_f_target, own_e_target, own_z_target, own_f_literal, own_e_literal, own_z_literal, own_f_out, own_e_out, own_z_out, own_f_blkLen, own_e_blkLen, own_z_blkLen, own_f_blkWeak, own_e_blkWeak, own_z_blkWeak, own_f_blkStrong, own_e_blkStrong, own_z_blkStrong, own_f_head, own_e_head, own_z_head, own_f_next, own_e_next, own_z_next, own_f_kinds, own_e_kinds, own_z_kinds, own_f_values, own_e_values, own_z_values, own_f_blockSize, own_e_blockSize, own_z_blockSize, own_f_basisLen, own_e_basisLen, own_z_basisLen, own_f_targetLen, own_e_targetLen, own_z_targetLen, own_f_literalLen, own_e_literalLen, own_z_literalLen, own_f_outLen, own_e_outLen, own_z_outLen, own_f_blocks, own_e_blocks, own_z_blocks, own_f_ops, own_e_ops, own_z_ops, own_f_shortBlock, own_e_shortBlock, own_z_shortBlock, own_f_winPos, own_e_winPos, own_z_winPos, own_f_winA, own_e_winA, own_z_winA, own_f_winB, own_e_winB, own_z_winB, own_f_phaseNow, own_e_phaseNow, own_z_phaseNow, List.length_replicate]) (by simp only [own_S, own_f_basis, own_e_basis, own_z_basis, own_f_target, own_e_target, own_z_target, own_f_literal, own_e_literal, own_z_literal, own_f_out, own_e_out, own_z_out, own_f_blkLen, own_e_blkLen, own_z_blkLen, own_f_blkWeak, own_e_blkWeak, own_z_blkWeak, own_f_blkStrong, own_e_blkStrong, own_z_blkStrong, own_f_head, own_e_head, own_z_head, own_f_next, own_e_next, own_z_next, own_f_kinds, own_e_kinds, own_z_kinds, own_f_values, own_e_values, own_z_values, own_f_blockSize, own_e_blockSize, own_z_blockSize, own_f_basisLen, own_e_basisLen, own_z_basisLen, own_f_targetLen, own_e_targetLen, own_z_targetLen, own_f_literalLen, own_e_literalLen, own_z_literalLen, own_f_outLen, own_e_outLen, own_z_outLen, own_f_blocks, own_e_blocks, own_z_blocks, own_f_ops, own_e_ops, own_z_ops, own_f_shortBlock, own_e_shortBlock, own_z_shortBlock, own_f_winPos, own_e_winPos, own_z_winPos, own_f_winA, own_e_winA, own_z_winA, own_f_winB, own_e_winB, own_z_winB, own_f_phaseNow, own_e_phaseNow, own_z_phaseNow]; exact b0) (by simp only [own_S, own_f_basis, own_e_basis, own_z_basis, own_f_target, own_e_target, own_z_target, own_f_literal, own_e_literal, own_z_literal, own_f_out, own_e_out, own_z_out, own_f_blkLen, own_e_blkLen, own_z_blkLen, own_f_blkWeak, own_e_blkWeak, own_z_blkWeak, own_f_blkStrong, own_e_blkStrong, own_z_blkStrong, own_f_head, own_e_head, own_z_head, own_f_next, own_e_next, own_z_next, own_f_kinds, own_e_kinds, own_z_kinds, own_f_values, own_e_values, own_z_values, own_f_blockSize, own_e_blockSize, own_z_blockSize, own_f_basisLen, own_e_basisLen, own_z_basisLen, own_f_targetLen, own_e_targetLen, own_z_targetLen, own_f_literalLen, own_e_literalLen, own_z_literalLen, own_f_outLen, own_e_outLen, own_z_outLen, own_f_blocks, own_e_blocks, own_z_blocks, own_f_ops, own_e_ops, own_z_ops, own_f_shortBlock, own_e_shortBlock, own_z_shortBlock, own_f_winPos, own_e_winPos, own_z_winPos, own_f_winA, own_e_winA, own_z_winA, own_f_winB, own_e_winB, own_z_winB, own_f_phaseNow, own_e_phaseNow, own_z_phaseNow]; exact b1) (by simp only [own_S, own_f_basis, own_e_basis, own_z_basis, own_f_target, own_e_target, own_z_target, own_f_literal, own_e_literal, own_z_literal, own_f_out, own_e_out, own_z_out, own_f_blkLen, own_e_blkLen, own_z_blkLen, own_f_blkWeak, own_e_blkWeak, own_z_blkWeak, own_f_blkStrong, own_e_blkStrong, own_z_blkStrong, own_f_head, own_e_head, own_z_head, own_f_next, own_e_next, own_z_next, own_f_kinds, own_e_kinds, own_z_kinds, own_f_values, own_e_values, own_z_values, own_f_blockSize, own_e_blockSize, own_z_blockSize, own_f_basisLen, own_e_basisLen, own_z_basisLen, own_f_targetLen, own_e_targetLen, own_z_targetLen, own_f_literalLen, own_e_literalLen, own_z_literalLen, own_f_outLen, own_e_outLen, own_z_outLen, own_f_blocks, own_e_blocks, own_z_blocks, own_f_ops, own_e_ops, own_z_ops, own_f_shortBlock, own_e_shortBlock, own_z_shortBlock, own_f_winPos, own_e_winPos, own_z_winPos, own_f_winA, own_e_winA, own_z_winA, own_f_winB, own_e_winB, own_z_winB, own_f_phaseNow, own_e_phaseNow, own_z_phaseNow]; decide) (by simp only [own_S, own_f_basis, own_e_basis, own_z_basis, own_f_target, own_e_target, own_z_target, own_f_literal, own_e_literal, own_z_literal, own_f_out, own_e_out, own_z_out, own_f_blkLen, own_e_blkLen, own_z_blkLen, own_f_blkWeak, own_e_blkWeak, own_z_blkWeak, own_f_blkStrong, own_e_blkStrong, own_z_blkStrong, own_f_head, own_e_head, own_z_head, own_f_next, own_e_next, own_z_next, own_f_kinds, own_e_kinds, own_z_kinds, own_f_values, own_e_values, own_z_values, own_f_blockSize, own_e_blockSize, own_z_blockSize, own_f_basisLen, own_e_basisLen, own_z_basisLen, own_f_targetLen, own_e_targetLen, own_z_targetLen, own_f_literalLen, own_e_literalLen, own_z_literalLen, own_f_outLen, own_e_outLen, own_z_outLen, own_f_blocks, own_e_blocks, own_z_blocks, own_f_ops, own_e_ops, own_z_ops, own_f_shortBlock, own_e_shortBlock, own_z_shortBlock, own_f_winPos, own_e_winPos, own_z_winPos, own_f_winA, own_e_winA, own_z_winA, own_f_winB, own_e_winB, own_z_winB, own_f_phaseNow, own_e_phaseNow, own_z_phaseNow]; decide)
      have p0 : (own_S b).f_phaseNow = 0 := by simp only [own_S, own_f_basis, own_e_basis, own_z_basis, own_f_target, own_e_target, own_z_target, own_f_literal, own_e_literal, own_z_literal, own_f_out, own_e_out, own_z_out, own_f_blkLen, own_e_blkLen, own_z_blkLen, own_f_blkWeak, own_e_blkWeak, own_z_blkWeak, own_f_blkStrong, own_e_blkStrong, own_z_blkStrong, own_f_head, own_e_head, own_z_head, own_f_next, own_e_next, own_z_next, own_f_kinds, own_e_kinds, own_z_kinds, own_f_values, own_e_values, own_z_values, own_f_blockSize, own_e_blockSize, own_z_blockSize, own_f_basisLen, own_e_basisLen, own_z_basisLen, own_f_targetLen, own_e_targetLen, own_z_targetLen, own_f_literalLen, own_e_literalLen, own_z_literalLen, own_f_outLen, own_e_outLen, own_z_outLen, own_f_blocks, own_e_blocks, own_z_blocks, own_f_ops, own_e_ops, own_z_ops, own_f_shortBlock, own_e_shortBlock, own_z_shortBlock, own_f_winPos, own_e_winPos, own_z_winPos, own_f_winA, own_e_winA, own_z_winA, own_f_winB, own_e_winB, own_z_winB, own_f_phaseNow, own_e_phaseNow, own_z_phaseNow]
      have p1 : (own_S b).f_blockSize = b := by simp only [own_S, own_f_basis, own_e_basis, own_z_basis, own_f_target, own_e_target, own_z_target, own_f_literal, own_e_literal, own_z_literal, own_f_out, own_e_out, own_z_out, own_f_blkLen, own_e_blkLen, own_z_blkLen, own_f_blkWeak, own_e_blkWeak, own_z_blkWeak, own_f_blkStrong, own_e_blkStrong, own_z_blkStrong, own_f_head, own_e_head, own_z_head, own_f_next, own_e_next, own_z_next, own_f_kinds, own_e_kinds, own_z_kinds, own_f_values, own_e_values, own_z_values, own_f_blockSize, own_e_blockSize, own_z_blockSize, own_f_basisLen, own_e_basisLen, own_z_basisLen, own_f_targetLen, own_e_targetLen, own_z_targetLen, own_f_literalLen, own_e_literalLen, own_z_literalLen, own_f_outLen, own_e_outLen, own_z_outLen, own_f_blocks, own_e_blocks, own_z_blocks, own_f_ops, own_e_ops, own_z_ops, own_f_shortBlock, own_e_shortBlock, own_z_shortBlock, own_f_winPos, own_e_winPos, own_z_winPos, own_f_winA, own_e_winA, own_z_winA, own_f_winB, own_e_winB, own_z_winB, own_f_phaseNow, own_e_phaseNow, own_z_phaseNow]
      have p2 : (own_S b).f_basisLen = 0 := by simp only [own_S, own_f_basis, own_e_basis, own_z_basis, own_f_target, own_e_target, own_z_target, own_f_literal, own_e_literal, own_z_literal, own_f_out, own_e_out, own_z_out, own_f_blkLen, own_e_blkLen, own_z_blkLen, own_f_blkWeak, own_e_blkWeak, own_z_blkWeak, own_f_blkStrong, own_e_blkStrong, own_z_blkStrong, own_f_head, own_e_head, own_z_head, own_f_next, own_e_next, own_z_next, own_f_kinds, own_e_kinds, own_z_kinds, own_f_values, own_e_values, own_z_values, own_f_blockSize, own_e_blockSize, own_z_blockSize, own_f_basisLen, own_e_basisLen, own_z_basisLen, own_f_targetLen, own_e_targetLen, own_z_targetLen, own_f_literalLen, own_e_literalLen, own_z_literalLen, own_f_outLen, own_e_outLen, own_z_outLen, own_f_blocks, own_e_blocks, own_z_blocks, own_f_ops, own_e_ops, own_z_ops, own_f_shortBlock, own_e_shortBlock, own_z_shortBlock, own_f_winPos, own_e_winPos, own_z_winPos, own_f_winA, own_e_winA, own_z_winA, own_f_winB, own_e_winB, own_z_winB, own_f_phaseNow, own_e_phaseNow, own_z_phaseNow]
      rw [p1, p2] at this
      simp only [law_b31, law_b48, law_b60, j_appendBasis, p0, if_neg h1, if_pos h2, if_true, Option.bind_some]
      exact this
    · have : v2 = 1 ∨ v2 = 2 ∨ v2 = 3 ∨ v2 = 4 := by simp only [lt32, eq32, Int32.reduceToInt] at *; omega
      have step : ∀ (t : Q), t.f_phaseNow = 0 → t.f_basis.length = 256 → t.f_blkLen.length = 128 → t.f_blkWeak.length = 128 → t.f_blkStrong.length = 128 → t.f_head.length = 256 → t.f_next.length = 128 → t.f_blockSize = b → t.f_basisLen = v2 → j_appendBasis (own_S b) v1 v2 = some (v2, t) → (law_b31 (own_S b) v1 v2 v3 v4 b).map (·.1) = some 1 := by
        intro t a1 a2 a3 a4 a5 a6 a7 a8 a9 ha
        have e0 : (1 : Int32) ≠ 0 := by decide
        simp only [law_b31, law_b48, law_b60, ha, Option.bind_some, if_neg h1, if_neg h2, if_neg e0]
        have q := own_tail t v3 v4 v2 a1 a2 a3 a4 a5 a6 a7 (by rw [a8]; exact b0) (by rw [a8]; exact b1)
        rw [a8, a9] at q
        exact q (by simp only [lt32, Int32.reduceToInt] at h1 h2; omega) (by simp only [lt32, Int32.reduceToInt] at h1 h2; omega)
      rcases this with rfl | rfl | rfl | rfl
      · refine step _ ?_ ?_ ?_ ?_ ?_ ?_ ?_ ?_ ?_ (by simp [j_appendBasis, j_appendBasis_l37, own_S, own_f_basis, own_e_basis, own_z_basis, own_f_target, own_e_target, own_z_target, own_f_literal, own_e_literal, own_z_literal, own_f_out, own_e_out, own_z_out, own_f_blkLen, own_e_blkLen, own_z_blkLen, own_f_blkWeak, own_e_blkWeak, own_z_blkWeak, own_f_blkStrong, own_e_blkStrong, own_z_blkStrong, own_f_head, own_e_head, own_z_head, own_f_next, own_e_next, own_z_next, own_f_kinds, own_e_kinds, own_z_kinds, own_f_values, own_e_values, own_z_values, own_f_blockSize, own_e_blockSize, own_z_blockSize, own_f_basisLen, own_e_basisLen, own_z_basisLen, own_f_targetLen, own_e_targetLen, own_z_targetLen, own_f_literalLen, own_e_literalLen, own_z_literalLen, own_f_outLen, own_e_outLen, own_z_outLen, own_f_blocks, own_e_blocks, own_z_blocks, own_f_ops, own_e_ops, own_z_ops, own_f_shortBlock, own_e_shortBlock, own_z_shortBlock, own_f_winPos, own_e_winPos, own_z_winPos, own_f_winA, own_e_winA, own_z_winA, own_f_winB, own_e_winB, own_z_winB, own_f_phaseNow, own_e_phaseNow, own_z_phaseNow, len_wr, List.length_replicate, i0, i1, i2, i3, -List.reduceReplicate]; rfl) <;> simp only [own_f_basis, own_e_basis, own_z_basis, own_f_target, own_e_target, own_z_target, own_f_literal, own_e_literal, own_z_literal, own_f_out, own_e_out, own_z_out, own_f_blkLen, own_e_blkLen, own_z_blkLen, own_f_blkWeak, own_e_blkWeak, own_z_blkWeak, own_f_blkStrong, own_e_blkStrong, own_z_blkStrong, own_f_head, own_e_head, own_z_head, own_f_next, own_e_next, own_z_next, own_f_kinds, own_e_kinds, own_z_kinds, own_f_values, own_e_values, own_z_values, own_f_blockSize, own_e_blockSize, own_z_blockSize, own_f_basisLen, own_e_basisLen, own_z_basisLen, own_f_targetLen, own_e_targetLen, own_z_targetLen, own_f_literalLen, own_e_literalLen, own_z_literalLen, own_f_outLen, own_e_outLen, own_z_outLen, own_f_blocks, own_e_blocks, own_z_blocks, own_f_ops, own_e_ops, own_z_ops, own_f_shortBlock, own_e_shortBlock, own_z_shortBlock, own_f_winPos, own_e_winPos, own_z_winPos, own_f_winA, own_e_winA, own_z_winA, own_f_winB, own_e_winB, own_z_winB, own_f_phaseNow, own_e_phaseNow, own_z_phaseNow, len_wr, List.length_replicate]
      · refine step _ ?_ ?_ ?_ ?_ ?_ ?_ ?_ ?_ ?_ (by simp [j_appendBasis, j_appendBasis_l37, own_S, own_f_basis, own_e_basis, own_z_basis, own_f_target, own_e_target, own_z_target, own_f_literal, own_e_literal, own_z_literal, own_f_out, own_e_out, own_z_out, own_f_blkLen, own_e_blkLen, own_z_blkLen, own_f_blkWeak, own_e_blkWeak, own_z_blkWeak, own_f_blkStrong, own_e_blkStrong, own_z_blkStrong, own_f_head, own_e_head, own_z_head, own_f_next, own_e_next, own_z_next, own_f_kinds, own_e_kinds, own_z_kinds, own_f_values, own_e_values, own_z_values, own_f_blockSize, own_e_blockSize, own_z_blockSize, own_f_basisLen, own_e_basisLen, own_z_basisLen, own_f_targetLen, own_e_targetLen, own_z_targetLen, own_f_literalLen, own_e_literalLen, own_z_literalLen, own_f_outLen, own_e_outLen, own_z_outLen, own_f_blocks, own_e_blocks, own_z_blocks, own_f_ops, own_e_ops, own_z_ops, own_f_shortBlock, own_e_shortBlock, own_z_shortBlock, own_f_winPos, own_e_winPos, own_z_winPos, own_f_winA, own_e_winA, own_z_winA, own_f_winB, own_e_winB, own_z_winB, own_f_phaseNow, own_e_phaseNow, own_z_phaseNow, len_wr, List.length_replicate, i0, i1, i2, i3, -List.reduceReplicate]; rfl) <;> simp only [own_f_basis, own_e_basis, own_z_basis, own_f_target, own_e_target, own_z_target, own_f_literal, own_e_literal, own_z_literal, own_f_out, own_e_out, own_z_out, own_f_blkLen, own_e_blkLen, own_z_blkLen, own_f_blkWeak, own_e_blkWeak, own_z_blkWeak, own_f_blkStrong, own_e_blkStrong, own_z_blkStrong, own_f_head, own_e_head, own_z_head, own_f_next, own_e_next, own_z_next, own_f_kinds, own_e_kinds, own_z_kinds, own_f_values, own_e_values, own_z_values, own_f_blockSize, own_e_blockSize, own_z_blockSize, own_f_basisLen, own_e_basisLen, own_z_basisLen, own_f_targetLen, own_e_targetLen, own_z_targetLen, own_f_literalLen, own_e_literalLen, own_z_literalLen, own_f_outLen, own_e_outLen, own_z_outLen, own_f_blocks, own_e_blocks, own_z_blocks, own_f_ops, own_e_ops, own_z_ops, own_f_shortBlock, own_e_shortBlock, own_z_shortBlock, own_f_winPos, own_e_winPos, own_z_winPos, own_f_winA, own_e_winA, own_z_winA, own_f_winB, own_e_winB, own_z_winB, own_f_phaseNow, own_e_phaseNow, own_z_phaseNow, len_wr, List.length_replicate]
      · refine step _ ?_ ?_ ?_ ?_ ?_ ?_ ?_ ?_ ?_ (by simp [j_appendBasis, j_appendBasis_l37, own_S, own_f_basis, own_e_basis, own_z_basis, own_f_target, own_e_target, own_z_target, own_f_literal, own_e_literal, own_z_literal, own_f_out, own_e_out, own_z_out, own_f_blkLen, own_e_blkLen, own_z_blkLen, own_f_blkWeak, own_e_blkWeak, own_z_blkWeak, own_f_blkStrong, own_e_blkStrong, own_z_blkStrong, own_f_head, own_e_head, own_z_head, own_f_next, own_e_next, own_z_next, own_f_kinds, own_e_kinds, own_z_kinds, own_f_values, own_e_values, own_z_values, own_f_blockSize, own_e_blockSize, own_z_blockSize, own_f_basisLen, own_e_basisLen, own_z_basisLen, own_f_targetLen, own_e_targetLen, own_z_targetLen, own_f_literalLen, own_e_literalLen, own_z_literalLen, own_f_outLen, own_e_outLen, own_z_outLen, own_f_blocks, own_e_blocks, own_z_blocks, own_f_ops, own_e_ops, own_z_ops, own_f_shortBlock, own_e_shortBlock, own_z_shortBlock, own_f_winPos, own_e_winPos, own_z_winPos, own_f_winA, own_e_winA, own_z_winA, own_f_winB, own_e_winB, own_z_winB, own_f_phaseNow, own_e_phaseNow, own_z_phaseNow, len_wr, List.length_replicate, i0, i1, i2, i3, -List.reduceReplicate]; rfl) <;> simp only [own_f_basis, own_e_basis, own_z_basis, own_f_target, own_e_target, own_z_target, own_f_literal, own_e_literal, own_z_literal, own_f_out, own_e_out, own_z_out, own_f_blkLen, own_e_blkLen, own_z_blkLen, own_f_blkWeak, own_e_blkWeak, own_z_blkWeak, own_f_blkStrong, own_e_blkStrong, own_z_blkStrong, own_f_head, own_e_head, own_z_head, own_f_next, own_e_next, own_z_next, own_f_kinds, own_e_kinds, own_z_kinds, own_f_values, own_e_values, own_z_values, own_f_blockSize, own_e_blockSize, own_z_blockSize, own_f_basisLen, own_e_basisLen, own_z_basisLen, own_f_targetLen, own_e_targetLen, own_z_targetLen, own_f_literalLen, own_e_literalLen, own_z_literalLen, own_f_outLen, own_e_outLen, own_z_outLen, own_f_blocks, own_e_blocks, own_z_blocks, own_f_ops, own_e_ops, own_z_ops, own_f_shortBlock, own_e_shortBlock, own_z_shortBlock, own_f_winPos, own_e_winPos, own_z_winPos, own_f_winA, own_e_winA, own_z_winA, own_f_winB, own_e_winB, own_z_winB, own_f_phaseNow, own_e_phaseNow, own_z_phaseNow, len_wr, List.length_replicate]
      · refine step _ ?_ ?_ ?_ ?_ ?_ ?_ ?_ ?_ ?_ (by simp [j_appendBasis, j_appendBasis_l37, own_S, own_f_basis, own_e_basis, own_z_basis, own_f_target, own_e_target, own_z_target, own_f_literal, own_e_literal, own_z_literal, own_f_out, own_e_out, own_z_out, own_f_blkLen, own_e_blkLen, own_z_blkLen, own_f_blkWeak, own_e_blkWeak, own_z_blkWeak, own_f_blkStrong, own_e_blkStrong, own_z_blkStrong, own_f_head, own_e_head, own_z_head, own_f_next, own_e_next, own_z_next, own_f_kinds, own_e_kinds, own_z_kinds, own_f_values, own_e_values, own_z_values, own_f_blockSize, own_e_blockSize, own_z_blockSize, own_f_basisLen, own_e_basisLen, own_z_basisLen, own_f_targetLen, own_e_targetLen, own_z_targetLen, own_f_literalLen, own_e_literalLen, own_z_literalLen, own_f_outLen, own_e_outLen, own_z_outLen, own_f_blocks, own_e_blocks, own_z_blocks, own_f_ops, own_e_ops, own_z_ops, own_f_shortBlock, own_e_shortBlock, own_z_shortBlock, own_f_winPos, own_e_winPos, own_z_winPos, own_f_winA, own_e_winA, own_z_winA, own_f_winB, own_e_winB, own_z_winB, own_f_phaseNow, own_e_phaseNow, own_z_phaseNow, len_wr, List.length_replicate, i0, i1, i2, i3, -List.reduceReplicate]; rfl) <;> simp only [own_f_basis, own_e_basis, own_z_basis, own_f_target, own_e_target, own_z_target, own_f_literal, own_e_literal, own_z_literal, own_f_out, own_e_out, own_z_out, own_f_blkLen, own_e_blkLen, own_z_blkLen, own_f_blkWeak, own_e_blkWeak, own_z_blkWeak, own_f_blkStrong, own_e_blkStrong, own_z_blkStrong, own_f_head, own_e_head, own_z_head, own_f_next, own_e_next, own_z_next, own_f_kinds, own_e_kinds, own_z_kinds, own_f_values, own_e_values, own_z_values, own_f_blockSize, own_e_blockSize, own_z_blockSize, own_f_basisLen, own_e_basisLen, own_z_basisLen, own_f_targetLen, own_e_targetLen, own_z_targetLen, own_f_literalLen, own_e_literalLen, own_z_literalLen, own_f_outLen, own_e_outLen, own_z_outLen, own_f_blocks, own_e_blocks, own_z_blocks, own_f_ops, own_e_ops, own_z_ops, own_f_shortBlock, own_e_shortBlock, own_z_shortBlock, own_f_winPos, own_e_winPos, own_z_winPos, own_f_winA, own_e_winA, own_z_winA, own_f_winB, own_e_winB, own_z_winB, own_f_phaseNow, own_e_phaseNow, own_z_phaseNow, len_wr, List.length_replicate]

set_option maxRecDepth 65536 in
set_option maxHeartbeats 4000000 in
theorem comes_1 {Post : Tables → Env → Array Value → State → Outcome → State → Prop} (hpost : ∀ tb e args s v u, (limb_1_1.after args s (.returned v) u = true ∧ limb_1_2.after args s (.returned v) u = true ∧ True) → FrameEnd s (.returned v) u (Jvm.fieldLocs frame_1_writes args s ++ Jvm.arrayLocs frame_1_arrays args s ++ Jvm.staticLocs frame_1_statics s) 32 4736 → Post tb e args s (.returned v) u) :
    ArmFor flags0 classFile x code maxLocals ret World_1 tables_1 room_1 Calls_1 rest_1 Pre_1 Post := by
  intro l hfl _ _ p e ha hc hk s m args below hf hA hF happ hP
  obtain ⟨hcalls, hrest, hpre⟩ := hP
  obtain ⟨-, -, -, hnamed, -, -, -, hat⟩ := (Spec.applies_iff hf).mp happ
  obtain ⟨hg, hn⟩ := and_e (Cond.before_iff.mp (show (Jvm.Cond.and given_1 narrow_1).before args s = true from hpre))
  obtain ⟨hcnt, h0⟩ := and_e hg
  obtain ⟨w0, w1, w2, w3, w4, rfl⟩ : ∃ w0 w1 w2 w3 w4 : Value, args = #[w0, w1, w2, w3, w4] := by
    have hs : args.size = 5 := by simpa [Cond.value, given_1] using hcnt
    obtain ⟨L⟩ := args
    match L, hs with
    | [w0, w1, w2, w3, w4], _ => exact ⟨w0, w1, w2, w3, w4, rfl⟩
  have hw := fun d (hd : d ∈ tables_1) => atoms_spec (ws := Jvm.Cond.code x code maxLocals ret :: tables_1) hat d (List.mem_cons_of_mem _ hd)
  obtain ⟨q0, h1⟩ := and_e h0
  obtain ⟨i0, e0⟩ := is_v q0
  obtain rfl : w0 = .int i0 := Option.some.inj e0
  obtain ⟨q1, h2⟩ := and_e h1
  obtain ⟨i1, e1⟩ := is_v q1
  obtain rfl : w1 = .int i1 := Option.some.inj e1
  obtain ⟨q2, h3⟩ := and_e h2
  obtain ⟨i2, e2⟩ := is_v q2
  obtain rfl : w2 = .int i2 := Option.some.inj e2
  obtain ⟨q3, h4⟩ := and_e h3
  obtain ⟨i3, e3⟩ := is_v q3
  obtain rfl : w3 = .int i3 := Option.some.inj e3
  obtain ⟨i4, e4⟩ := is_v h4
  obtain rfl : w4 = .int i4 := Option.some.inj e4
  have hL := own_law i0 i1 i2 i3 i4
  obtain ⟨res, hres, hr1⟩ := Option.map_eq_some_iff.mp hL
  obtain ⟨n, hrun⟩ := ev_law i0 i1 i2 i3 i4 hres rfl
  have hr1' : res.1 = 1 := hr1
  rw [hr1'] at hrun
  have hcap := run_cap hrun
  have hcC : own_P.capC = 32 := rfl
  have hcS : own_P.capS = 4736 := rfl
  rw [hcC, hcS] at hcap
  have hc1 : (W0 []).length = 0 := rfl
  have hc2 : hsz own_P (W0 []) = 0 := rfl
  have hM := metOf (sound (own_good hw) n) (k := 0) (as := [.int i0, .int i1, .int i2, .int i3, .int i4]) (H := (W0 [])) hrun (l := l) (wsC := tables_1) (rm := room_1) own_pn0 rfl (fun h => nomatch h) (by decide) (by decide) (by show _ ≤ 32; omega) (by show _ ≤ 4736; omega) (am := []) (ws := [.int i0, .int i1, .int i2, .int i3, .int i4]) (h := s.heap) (n0 := s.heap.size) ⟨_, _, rfl, rfl, _, _, rfl, rfl, _, _, rfl, rfl, _, _, rfl, rfl, _, _, rfl, rfl, rfl⟩ (Nat.le_of_ble_eq_true rfl) (HR.none _ _ _ _ _) (Nat.le_refl _)
  obtain ⟨n, o, h1, h2, h3, w, L, rfl, ⟨N, -, am', -, -, hv⟩, hq⟩ := hM p e ha hc hk s m _ below hf ((Spec.applies_iff_loose hf).mp happ).1 ⟨rfl, State.Warmed39.refl s, rfl⟩ trivial
  obtain ⟨y, rfl, rfl⟩ := hv
  exact ⟨n, _, h1, h2, h3, hpost _ _ _ _ _ _ ⟨Cond.after_iff.mpr rfl, Cond.after_iff.mpr (eq_i res_at (Term.int_eval (1)) rfl), trivial⟩ ⟨hq.1, hq.2.1, (hq.2.2.sift fun y hy => Or.inr (N y hy)).mono (by omega) (by omega)⟩⟩
theorem main_1_1 : Claimed_1_1 := comes_1 fun _ _ _ _ _ _ h hF => ⟨h.1, hF⟩
theorem main_1_2 : Claimed_1_2 := comes_1 fun _ _ _ _ _ _ h hF => ⟨h.2.1, hF⟩
end Jvm.Pilot.@@N@@
namespace Jvm.Pilot.@@N@@
open Jvm Jvm.ClassFile Sem Op Lib Jvm.Free Jvm.Stand Jvm.Pilot.@@N@@.Jvm.D
/-! MADE BY PROGRAM (witnessworld.py) out of the Statement's table words and the real class files: 11 classes; the members and pool entries that the words name. The judged class is class 1, her method 1. -/
namespace start1
open Jvm.ClassFile
def u (s : String) : CpInfo := .utf8 (stringToUtf16 s)
/-- a pool by its gaps: so many unusable entries, then the entry; so many at the end -/
def gap : Nat → List CpInfo → List CpInfo
  | 0, r => r
  | n + 1, r => .unusable :: gap n r
def poolList (es : List (Nat × CpInfo)) (last : Nat) : List CpInfo := es.foldr (fun e r => gap e.1 (e.2 :: r)) (gap last [])
def pool (es : List (Nat × CpInfo)) (last : Nat) : Array CpInfo := ⟨poolList es last⟩
def fileOf (pool : Array CpInfo) (this : Nat) (attrs : Array Attribute := #[]) (ms : Array MethodInfo := #[]) (fl : Nat := 33) (sup : Nat := 0) (ifs : Array Nat := #[]) (fds : Array FieldInfo := #[]) : ClassFile where
  minorVersion := 0
  majorVersion := 65
  constantPool := pool
  accessFlags := fl
  thisClass := this
  superClass := sup
  interfaces := ifs
  fields := fds
  methods := ms
  attributes := attrs
def plain (name : String) (sup : Option ClassId) : Class where
  name := name
  kind := .ordinary
  loader := none
  accessFlags := 33
  super := sup
  interfaces := #[]
  cf := none
  fields := #[]
  methods := #[]
  instanceTypes := #[]
  staticTypes := #[]
  resolved := #[]
  callSites := []
  init := .initialized
  statics := none
  mirror := none

def pool0 : Array CpInfo := pool [(5, u "<init>"), (0, u "()V"), (1, .class_ 10), (1, u "java/lang/Object")] 113

def k0c0 : Code := { maxStack := 0, maxLocals := 1, code := object_method_1_code, exceptionTable := #[], attributes := #[] }
def k0m0 : Method := { name := "<init>", desc := "()V", sig := { parameters := [], returnType := none }, accessFlags := 1, code := some k0c0 }
/-- java/lang/Object -/
def k0 : Class := { plain "java/lang/Object" none with
  accessFlags := 33
  interfaces := #[]
  cf := some (fileOf pool0 8 #[] #[{ accessFlags := 1, nameIndex := 5, descriptorIndex := 6, attributes := #[] }] 33 0 #[] #[])
  fields := #[]
  methods := #[k0m0]
  instanceTypes := #[]
  staticTypes := #[]
  resolved := Array.replicate 124 none
  statics := none }

def pool1 : Array CpInfo := pool [(2, .class_ 4), (1, u "java/lang/Object"), (0, u "<init>"), (0, u "()V"), (0, .class_ 8), (0, u "RemoteDelta"), (0, .methodref 7 10), (0, .nameAndType 5 11), (0, u "(I)V"), (0, .methodref 7 13), (0, .nameAndType 14 15), (0, u "appendBasis"), (0, u "(II)I"), (0, .methodref 7 17), (0, .nameAndType 18 19), (0, u "sign"), (0, u "()I"), (0, .methodref 7 21), (0, .nameAndType 22 19), (0, u "phase"), (0, .methodref 7 24), (0, .nameAndType 25 19), (0, u "blockCount"), (0, .methodref 7 27), (0, .nameAndType 28 29), (0, u "blockLength"), (0, u "(I)I"), (0, .methodref 7 31), (0, .nameAndType 32 29), (0, u "length"), (0, .class_ 34), (0, u "RemoteDeltaL2"), (2, u "law"), (0, u "(IIIII)Z")] 3

def k1m0 : Method := { name := "<init>", desc := "()V", sig := { parameters := [], returnType := none }, accessFlags := 1, code := none }
def k1c1 : Code := { maxStack := 3, maxLocals := 12, code := code, exceptionTable := #[], attributes := #[] }
def k1m1 : Method := { name := "law", desc := "(IIIII)Z", sig := { parameters := [.int, .int, .int, .int, .int], returnType := some .boolean }, accessFlags := 9, code := some k1c1 }
/-- RemoteDeltaL2 -/
def k1 : Class := { plain "RemoteDeltaL2" (some 0) with
  accessFlags := 49
  interfaces := #[]
  cf := some (fileOf pool1 33 #[] #[{ accessFlags := 1, nameIndex := 5, descriptorIndex := 6, attributes := #[] }, { accessFlags := 9, nameIndex := 37, descriptorIndex := 38, attributes := #[] }] 49 2 #[] #[])
  fields := #[]
  methods := #[k1m0, k1m1]
  instanceTypes := #[]
  staticTypes := #[]
  resolved := Array.replicate 42 none
  statics := none }

def pool2 : Array CpInfo := pool [(1, .methodref 2 3), (0, .class_ 4), (0, .nameAndType 5 6), (0, u "java/lang/Object"), (0, u "<init>"), (0, u "()V"), (0, .fieldref 8 9), (0, .class_ 10), (0, .nameAndType 11 12), (0, u "RemoteDelta"), (0, u "basis"), (0, u "[I"), (0, .fieldref 8 14), (0, .nameAndType 15 12), (0, u "target"), (0, .fieldref 8 17), (0, .nameAndType 18 12), (0, u "literal"), (0, .fieldref 8 20), (0, .nameAndType 21 12), (0, u "out"), (0, .fieldref 8 23), (0, .nameAndType 24 12), (0, u "blkLen"), (0, .fieldref 8 26), (0, .nameAndType 27 12), (0, u "blkWeak"), (0, .fieldref 8 29), (0, .nameAndType 30 31), (0, u "blkStrong"), (0, u "[J"), (0, .fieldref 8 33), (0, .nameAndType 34 12), (0, u "head"), (0, .fieldref 8 36), (0, .nameAndType 37 12), (0, u "next"), (0, .fieldref 8 39), (0, .nameAndType 40 12), (0, u "kinds"), (0, .fieldref 8 42), (0, .nameAndType 43 12), (0, u "values"), (0, .fieldref 8 45), (0, .nameAndType 46 47), (0, u "blockSize"), (0, u "I"), (0, .methodref 8 49), (0, .nameAndType 50 6), (0, u "reset"), (0, .fieldref 8 52), (0, .nameAndType 53 47), (0, u "basisLen"), (0, .fieldref 8 55), (0, .nameAndType 56 47), (0, u "targetLen"), (0, .fieldref 8 58), (0, .nameAndType 59 47), (0, u "literalLen"), (0, .fieldref 8 61), (0, .nameAndType 62 47), (0, u "outLen"), (0, .fieldref 8 64), (0, .nameAndType 65 47), (0, u "blocks"), (0, .fieldref 8 67), (0, .nameAndType 68 47), (0, u "ops"), (0, .fieldref 8 70), (0, .nameAndType 71 47), (0, u "shortBlock"), (0, .fieldref 8 73), (0, .nameAndType 74 47), (0, u "winPos"), (0, .fieldref 8 76), (0, .nameAndType 77 47), (0, u "winA"), (0, .fieldref 8 79), (0, .nameAndType 80 47), (0, u "winB"), (0, .fieldref 8 82), (0, .nameAndType 83 47), (0, u "phaseNow"), (0, .methodref 8 85), (0, .nameAndType 86 87), (0, u "weakOfBasis"), (0, u "(II)I"), (0, .methodref 8 89), (0, .nameAndType 90 91), (0, u "strongOfBasis"), (0, u "(II)J"), (0, .methodref 8 93), (0, .nameAndType 94 6), (0, u "buildIndex"), (3, u "(I)I"), (7, u "(I)V"), (8, u "length"), (0, .integer 65535), (0, .methodref 8 118), (0, .nameAndType 119 87), (0, u "packWeak"), (0, .long 14695981039346656037), (1, .long 1099511628211), (1, .methodref 8 125), (0, .nameAndType 126 98), (0, u "bucketOf"), (16, u "REFUSED"), (2, u "PHASE_LOADING"), (1, u "PHASE_SIGNED"), (1, u "PHASE_ENCODED"), (1, u "PHASE_APPLIED"), (1, u "OP_NONE"), (0, u "OP_COPY"), (0, u "OP_LITERAL"), (0, u "BUF_BASIS"), (0, u "BUF_TARGET"), (0, u "BUF_LITERAL"), (0, u "BUF_OUT"), (0, u "MAX_FILE"), (4, u "appendBasis"), (1, u "sign"), (0, u "()I"), (2, u "phase"), (0, u "blockCount"), (0, u "blockLength")] 9

def k2c0 : Code := { maxStack := 2, maxLocals := 3, code := prog_1_method_1_code, exceptionTable := #[], attributes := #[] }
def k2m0 : Method := { name := "<init>", desc := "(I)V", sig := { parameters := [.int], returnType := none }, accessFlags := 1, code := some k2c0 }
def k2c1 : Code := { maxStack := 2, maxLocals := 1, code := prog_1_method_2_code, exceptionTable := #[], attributes := #[] }
def k2m1 : Method := { name := "reset", desc := "()V", sig := { parameters := [], returnType := none }, accessFlags := 1, code := some k2c1 }
def k2c2 : Code := { maxStack := 5, maxLocals := 4, code := prog_1_method_3_code, exceptionTable := #[], attributes := #[] }
def k2m2 : Method := { name := "appendBasis", desc := "(II)I", sig := { parameters := [.int, .int], returnType := some .int }, accessFlags := 1, code := some k2c2 }
def k2c3 : Code := { maxStack := 5, maxLocals := 5, code := prog_1_method_5_code, exceptionTable := #[], attributes := #[] }
def k2m3 : Method := { name := "sign", desc := "()I", sig := { parameters := [], returnType := some .int }, accessFlags := 1, code := some k2c3 }
def k2c4 : Code := { maxStack := 1, maxLocals := 1, code := prog_1_method_8_code, exceptionTable := #[], attributes := #[] }
def k2m4 : Method := { name := "phase", desc := "()I", sig := { parameters := [], returnType := some .int }, accessFlags := 1, code := some k2c4 }
def k2c5 : Code := { maxStack := 1, maxLocals := 1, code := prog_1_method_9_code, exceptionTable := #[], attributes := #[] }
def k2m5 : Method := { name := "blockCount", desc := "()I", sig := { parameters := [], returnType := some .int }, accessFlags := 1, code := some k2c5 }
def k2c6 : Code := { maxStack := 2, maxLocals := 2, code := prog_1_method_10_code, exceptionTable := #[], attributes := #[] }
def k2m6 : Method := { name := "blockLength", desc := "(I)I", sig := { parameters := [.int], returnType := some .int }, accessFlags := 1, code := some k2c6 }
def k2c7 : Code := { maxStack := 2, maxLocals := 2, code := prog_1_method_13_code, exceptionTable := #[], attributes := #[] }
def k2m7 : Method := { name := "length", desc := "(I)I", sig := { parameters := [.int], returnType := some .int }, accessFlags := 1, code := some k2c7 }
def k2c8 : Code := { maxStack := 3, maxLocals := 3, code := prog_1_method_18_code, exceptionTable := #[], attributes := #[] }
def k2m8 : Method := { name := "packWeak", desc := "(II)I", sig := { parameters := [.int, .int], returnType := some .int }, accessFlags := 2, code := some k2c8 }
def k2c9 : Code := { maxStack := 3, maxLocals := 8, code := prog_1_method_19_code, exceptionTable := #[], attributes := #[] }
def k2m9 : Method := { name := "weakOfBasis", desc := "(II)I", sig := { parameters := [.int, .int], returnType := some .int }, accessFlags := 2, code := some k2c9 }
def k2c10 : Code := { maxStack := 4, maxLocals := 7, code := prog_1_method_20_code, exceptionTable := #[], attributes := #[] }
def k2m10 : Method := { name := "strongOfBasis", desc := "(II)J", sig := { parameters := [.int, .int], returnType := some .long }, accessFlags := 2, code := some k2c10 }
def k2c11 : Code := { maxStack := 3, maxLocals := 3, code := prog_1_method_22_code, exceptionTable := #[], attributes := #[] }
def k2m11 : Method := { name := "bucketOf", desc := "(I)I", sig := { parameters := [.int], returnType := some .int }, accessFlags := 2, code := some k2c11 }
def k2c12 : Code := { maxStack := 4, maxLocals := 3, code := prog_1_method_23_code, exceptionTable := #[], attributes := #[] }
def k2m12 : Method := { name := "buildIndex", desc := "()V", sig := { parameters := [], returnType := none }, accessFlags := 2, code := some k2c12 }
/-- RemoteDelta -/
def k2 : Class := { plain "RemoteDelta" (some 0) with
  accessFlags := 49
  interfaces := #[]
  cf := some (fileOf pool2 8 #[] #[{ accessFlags := 1, nameIndex := 5, descriptorIndex := 106, attributes := #[] }, { accessFlags := 1, nameIndex := 50, descriptorIndex := 6, attributes := #[] }, { accessFlags := 1, nameIndex := 166, descriptorIndex := 87, attributes := #[] }, { accessFlags := 1, nameIndex := 168, descriptorIndex := 169, attributes := #[] }, { accessFlags := 1, nameIndex := 172, descriptorIndex := 169, attributes := #[] }, { accessFlags := 1, nameIndex := 173, descriptorIndex := 169, attributes := #[] }, { accessFlags := 1, nameIndex := 174, descriptorIndex := 98, attributes := #[] }, { accessFlags := 1, nameIndex := 115, descriptorIndex := 98, attributes := #[] }, { accessFlags := 2, nameIndex := 119, descriptorIndex := 87, attributes := #[] }, { accessFlags := 2, nameIndex := 86, descriptorIndex := 87, attributes := #[] }, { accessFlags := 2, nameIndex := 90, descriptorIndex := 91, attributes := #[] }, { accessFlags := 2, nameIndex := 126, descriptorIndex := 98, attributes := #[] }, { accessFlags := 2, nameIndex := 94, descriptorIndex := 6, attributes := #[] }] 49 2 #[] #[{ accessFlags := 25, nameIndex := 143, descriptorIndex := 47, attributes := #[] }, { accessFlags := 25, nameIndex := 146, descriptorIndex := 47, attributes := #[] }, { accessFlags := 25, nameIndex := 148, descriptorIndex := 47, attributes := #[] }, { accessFlags := 25, nameIndex := 150, descriptorIndex := 47, attributes := #[] }, { accessFlags := 25, nameIndex := 152, descriptorIndex := 47, attributes := #[] }, { accessFlags := 25, nameIndex := 154, descriptorIndex := 47, attributes := #[] }, { accessFlags := 25, nameIndex := 155, descriptorIndex := 47, attributes := #[] }, { accessFlags := 25, nameIndex := 156, descriptorIndex := 47, attributes := #[] }, { accessFlags := 25, nameIndex := 157, descriptorIndex := 47, attributes := #[] }, { accessFlags := 25, nameIndex := 158, descriptorIndex := 47, attributes := #[] }, { accessFlags := 25, nameIndex := 159, descriptorIndex := 47, attributes := #[] }, { accessFlags := 25, nameIndex := 160, descriptorIndex := 47, attributes := #[] }, { accessFlags := 25, nameIndex := 161, descriptorIndex := 47, attributes := #[] }, { accessFlags := 2, nameIndex := 46, descriptorIndex := 47, attributes := #[] }, { accessFlags := 2, nameIndex := 83, descriptorIndex := 47, attributes := #[] }, { accessFlags := 18, nameIndex := 11, descriptorIndex := 12, attributes := #[] }, { accessFlags := 2, nameIndex := 53, descriptorIndex := 47, attributes := #[] }, { accessFlags := 18, nameIndex := 15, descriptorIndex := 12, attributes := #[] }, { accessFlags := 2, nameIndex := 56, descriptorIndex := 47, attributes := #[] }, { accessFlags := 18, nameIndex := 18, descriptorIndex := 12, attributes := #[] }, { accessFlags := 2, nameIndex := 59, descriptorIndex := 47, attributes := #[] }, { accessFlags := 18, nameIndex := 21, descriptorIndex := 12, attributes := #[] }, { accessFlags := 2, nameIndex := 62, descriptorIndex := 47, attributes := #[] }, { accessFlags := 18, nameIndex := 24, descriptorIndex := 12, attributes := #[] }, { accessFlags := 18, nameIndex := 27, descriptorIndex := 12, attributes := #[] }, { accessFlags := 18, nameIndex := 30, descriptorIndex := 31, attributes := #[] }, { accessFlags := 2, nameIndex := 65, descriptorIndex := 47, attributes := #[] }, { accessFlags := 2, nameIndex := 71, descriptorIndex := 47, attributes := #[] }, { accessFlags := 18, nameIndex := 34, descriptorIndex := 12, attributes := #[] }, { accessFlags := 18, nameIndex := 37, descriptorIndex := 12, attributes := #[] }, { accessFlags := 18, nameIndex := 40, descriptorIndex := 12, attributes := #[] }, { accessFlags := 18, nameIndex := 43, descriptorIndex := 12, attributes := #[] }, { accessFlags := 2, nameIndex := 68, descriptorIndex := 47, attributes := #[] }, { accessFlags := 2, nameIndex := 77, descriptorIndex := 47, attributes := #[] }, { accessFlags := 2, nameIndex := 80, descriptorIndex := 47, attributes := #[] }, { accessFlags := 2, nameIndex := 74, descriptorIndex := 47, attributes := #[] }])
  fields := #[{ name := "REFUSED", type := .int, accessFlags := 25, slot := 0, constantValue := 0 }, { name := "PHASE_LOADING", type := .int, accessFlags := 25, slot := 1, constantValue := 0 }, { name := "PHASE_SIGNED", type := .int, accessFlags := 25, slot := 2, constantValue := 0 }, { name := "PHASE_ENCODED", type := .int, accessFlags := 25, slot := 3, constantValue := 0 }, { name := "PHASE_APPLIED", type := .int, accessFlags := 25, slot := 4, constantValue := 0 }, { name := "OP_NONE", type := .int, accessFlags := 25, slot := 5, constantValue := 0 }, { name := "OP_COPY", type := .int, accessFlags := 25, slot := 6, constantValue := 0 }, { name := "OP_LITERAL", type := .int, accessFlags := 25, slot := 7, constantValue := 0 }, { name := "BUF_BASIS", type := .int, accessFlags := 25, slot := 8, constantValue := 0 }, { name := "BUF_TARGET", type := .int, accessFlags := 25, slot := 9, constantValue := 0 }, { name := "BUF_LITERAL", type := .int, accessFlags := 25, slot := 10, constantValue := 0 }, { name := "BUF_OUT", type := .int, accessFlags := 25, slot := 11, constantValue := 0 }, { name := "MAX_FILE", type := .int, accessFlags := 25, slot := 12, constantValue := 0 }, { name := "blockSize", type := .int, accessFlags := 2, slot := 0, constantValue := 0 }, { name := "phaseNow", type := .int, accessFlags := 2, slot := 1, constantValue := 0 }, { name := "basis", type := (.array .int), accessFlags := 18, slot := 2, constantValue := 0 }, { name := "basisLen", type := .int, accessFlags := 2, slot := 3, constantValue := 0 }, { name := "target", type := (.array .int), accessFlags := 18, slot := 4, constantValue := 0 }, { name := "targetLen", type := .int, accessFlags := 2, slot := 5, constantValue := 0 }, { name := "literal", type := (.array .int), accessFlags := 18, slot := 6, constantValue := 0 }, { name := "literalLen", type := .int, accessFlags := 2, slot := 7, constantValue := 0 }, { name := "out", type := (.array .int), accessFlags := 18, slot := 8, constantValue := 0 }, { name := "outLen", type := .int, accessFlags := 2, slot := 9, constantValue := 0 }, { name := "blkLen", type := (.array .int), accessFlags := 18, slot := 10, constantValue := 0 }, { name := "blkWeak", type := (.array .int), accessFlags := 18, slot := 11, constantValue := 0 }, { name := "blkStrong", type := (.array .long), accessFlags := 18, slot := 12, constantValue := 0 }, { name := "blocks", type := .int, accessFlags := 2, slot := 13, constantValue := 0 }, { name := "shortBlock", type := .int, accessFlags := 2, slot := 14, constantValue := 0 }, { name := "head", type := (.array .int), accessFlags := 18, slot := 15, constantValue := 0 }, { name := "next", type := (.array .int), accessFlags := 18, slot := 16, constantValue := 0 }, { name := "kinds", type := (.array .int), accessFlags := 18, slot := 17, constantValue := 0 }, { name := "values", type := (.array .int), accessFlags := 18, slot := 18, constantValue := 0 }, { name := "ops", type := .int, accessFlags := 2, slot := 19, constantValue := 0 }, { name := "winA", type := .int, accessFlags := 2, slot := 20, constantValue := 0 }, { name := "winB", type := .int, accessFlags := 2, slot := 21, constantValue := 0 }, { name := "winPos", type := .int, accessFlags := 2, slot := 22, constantValue := 0 }]
  methods := #[k2m0, k2m1, k2m2, k2m3, k2m4, k2m5, k2m6, k2m7, k2m8, k2m9, k2m10, k2m11, k2m12]
  instanceTypes := #[.int, .int, (.array .int), .int, (.array .int), .int, (.array .int), .int, (.array .int), .int, (.array .int), (.array .int), (.array .long), .int, .int, (.array .int), (.array .int), (.array .int), (.array .int), .int, .int, .int, .int]
  staticTypes := #[.int, .int, .int, .int, .int, .int, .int, .int, .int, .int, .int, .int, .int]
  resolved := Array.replicate 184 none
  statics := none }

def pool3 : Array CpInfo := pool [(1, u "java/lang/Cloneable"), (0, .class_ 1), (0, u "java/lang/Object"), (0, .class_ 3)] 3

/-- java/lang/Cloneable -/
def k3 : Class := { plain "java/lang/Cloneable" (some 0) with
  accessFlags := 1537
  interfaces := #[]
  cf := some (fileOf pool3 2 #[] #[] 1537 4 #[] #[])
  fields := #[]
  methods := #[]
  instanceTypes := #[]
  staticTypes := #[]
  resolved := Array.replicate 8 none
  statics := none }

def pool4 : Array CpInfo := pool [(1, u "java/io/Serializable"), (0, .class_ 1), (0, u "java/lang/Object"), (0, .class_ 3)] 3

/-- java/io/Serializable -/
def k4 : Class := { plain "java/io/Serializable" (some 0) with
  accessFlags := 1537
  interfaces := #[]
  cf := some (fileOf pool4 2 #[] #[] 1537 4 #[] #[])
  fields := #[]
  methods := #[]
  instanceTypes := #[]
  staticTypes := #[]
  resolved := Array.replicate 8 none
  statics := none }

/-- the primitive byte -/
def k5 : Class := { plain "byte" none with kind := .primitive 'B', accessFlags := 0x411 }
/-- [B -/
def k6 : Class := { plain "[B" (some 0) with kind := .array 5 .byte, interfaces := #[3, 4], accessFlags := 1041 }

/-- the primitive int -/
def k7 : Class := { plain "int" none with kind := .primitive 'I', accessFlags := 0x411 }
/-- [I -/
def k8 : Class := { plain "[I" (some 0) with kind := .array 7 .int, interfaces := #[3, 4], accessFlags := 1041 }

/-- the primitive long -/
def k9 : Class := { plain "long" none with kind := .primitive 'J', accessFlags := 0x411 }
/-- [J -/
def k10 : Class := { plain "[J" (some 0) with kind := .array 9 .long, interfaces := #[3, 4], accessFlags := 1041 }

def heap : Heap := #[]
def classes : Array Class := #[k0, k1, k2, k3, k4, k5, k6, k7, k8, k9, k10]
def interned : List (Array UInt16 × Addr) := []
def slotsUsed : Nat := 0
def theMethod : MethodId := ⟨1, 1⟩
def args0 : Array Value := #[.int 1, .int 1, .int 1, .int 1, .int 1]
def aboutOver (below : List Frame) : State where
  vm := { classes := classes, interned := interned.toArray }
  heap := heap
  slotsUsed := slotsUsed
  threads := #[{ frames := .invoking theMethod args0 :: below }]
def below0 : List Frame := [.native { method := ⟨0, 0⟩, args := #[] }]
def about1 : State := aboutOver below0
def p0 : Program := .bare "" "" ""
def e0 : Env := launch0.env 0 0 0
theorem w_frames : about1.frames = Frame.invoking theMethod args0 :: below0 := rfl
set_option maxRecDepth 65536 in
theorem w_args : argsFit about1.vm theMethod args0 = true := by decide +kernel
set_option maxRecDepth 65536 in
theorem w_heap : heapFits about1 = true := by decide +kernel
set_option maxRecDepth 65536 in
theorem w_runnable : about1.curStatus? = some .runnable := by decide +kernel
set_option maxRecDepth 65536 in
theorem w_alone : about1.alone = true := by decide +kernel
set_option maxRecDepth 65536 in
theorem w_named : about1.methodNamed? x = some theMethod := by decide +kernel
set_option maxRecDepth 65536 in
theorem w_hears : about1.hears theMethod below0 = true := by decide +kernel
set_option maxRecDepth 65536 in
theorem w_ripe : about1.ripe theMethod args0 below0 = true := by decide +kernel
theorem w_running : about1.status = .running := rfl
set_option maxRecDepth 65536 in
theorem w_room : about1.hasRoom e0.platform room_1 = true :=
  launch0.hasRoom_least _ room_1 (by decide +kernel) (by decide +kernel) (by decide +kernel) (by decide +kernel) (by decide +kernel) (by decide +kernel)
theorem allAtoms_all (ts : List Jvm.Cond) (a : Array Jvm.Value) (st : Jvm.State) : (allAtoms ts).before a st = ts.all (fun c => c.before a st) := by
  induction ts with
  | nil => rfl
  | cons c t ih =>
    show (Jvm.Cond.and c (allAtoms t)).before a st = _
    rw [Jvm.Cond.before_and, ih, List.all_cons]
def words1 : List Jvm.Cond := Jvm.Cond.code x code maxLocals ret :: tables_1
/-- a 'code' word, met by the world's own term for the bytes: nothing is compared byte by byte -/
theorem code_word {y : MethodName} {bytes : ByteArray} {mx : Nat} {rt : Option FieldType} {a : Array Value} {s : State} {m : MethodId} {meth : Method} {c : Code} (h1 : s.methodNamed? y = some m) (h2 : s.vm.method? m = some meth) (h3 : meth.code = some c) (h4 : c.code = bytes)
    (h5 : (c.maxLocals == mx && c.exceptionTable.isEmpty && decide (c.maxStack ≤ mostOperands) && decide (meth.sig.returnType = rt) && !meth.locks && decide (parseMethodDescriptor y.desc = some meth.sig)) = true) : (Jvm.Cond.code y bytes mx rt).before a s = true := by
  simp only [Bool.and_eq_true, beq_iff_eq, Bool.not_eq_true', decide_eq_true_eq] at h5
  obtain ⟨⟨⟨⟨⟨g1, g2⟩, g3⟩, g4⟩, g5⟩, g6⟩ := h5
  simp [Cond.before, Cond.holds, Cond.value, h1, h2, h3, h4, g1, g2, g3, g4, g5, g6]
def isCode : Jvm.Cond → Bool
  | .code _ _ _ _ => true
  | _ => false
theorem all_split {L : List Jvm.Cond} {P : Jvm.Cond → Bool} (h1 : L.all (fun c => isCode c || P c) = true) (h2 : ∀ c ∈ L.filter isCode, P c = true) : L.all P = true := by
  refine List.all_eq_true.mpr fun c hc => ?_
  have h := List.all_eq_true.mp h1 c hc
  rcases Bool.eq_false_or_eq_true (isCode c) with hi | hi
  · exact h2 c (List.mem_filter.mpr ⟨hc, hi⟩)
  · simpa [hi] using h
set_option maxRecDepth 65536 in
theorem w_c0 : (Jvm.Cond.code x code maxLocals ret).before args0 about1 = true := code_word (m := ⟨1, 1⟩) (meth := k1m1) (c := k1c1) (by decide +kernel) rfl rfl rfl (by decide +kernel)
set_option maxRecDepth 65536 in
theorem w_c1 : (Jvm.Cond.code ({ cls := "RemoteDelta", name := "<init>", desc := "(I)V" } : Jvm.MethodName) prog_1_method_1_code (3 : Nat) (Option.none : Option Jvm.ClassFile.FieldType)).before args0 about1 = true := code_word (m := ⟨2, 0⟩) (meth := k2m0) (c := k2c0) (by decide +kernel) rfl rfl rfl (by decide +kernel)
set_option maxRecDepth 65536 in
theorem w_c2 : (Jvm.Cond.code ({ cls := "java/lang/Object", name := "<init>", desc := "()V" } : Jvm.MethodName) object_method_1_code (1 : Nat) (Option.none : Option Jvm.ClassFile.FieldType)).before args0 about1 = true := code_word (m := ⟨0, 0⟩) (meth := k0m0) (c := k0c0) (by decide +kernel) rfl rfl rfl (by decide +kernel)
set_option maxRecDepth 65536 in
theorem w_c3 : (Jvm.Cond.code ({ cls := "RemoteDelta", name := "reset", desc := "()V" } : Jvm.MethodName) prog_1_method_2_code (1 : Nat) (Option.none : Option Jvm.ClassFile.FieldType)).before args0 about1 = true := code_word (m := ⟨2, 1⟩) (meth := k2m1) (c := k2c1) (by decide +kernel) rfl rfl rfl (by decide +kernel)
set_option maxRecDepth 65536 in
theorem w_c4 : (Jvm.Cond.code ({ cls := "RemoteDelta", name := "appendBasis", desc := "(II)I" } : Jvm.MethodName) prog_1_method_3_code (4 : Nat) (Option.some Jvm.ClassFile.FieldType.int)).before args0 about1 = true := code_word (m := ⟨2, 2⟩) (meth := k2m2) (c := k2c2) (by decide +kernel) rfl rfl rfl (by decide +kernel)
set_option maxRecDepth 65536 in
theorem w_c5 : (Jvm.Cond.code ({ cls := "RemoteDelta", name := "sign", desc := "()I" } : Jvm.MethodName) prog_1_method_5_code (5 : Nat) (Option.some Jvm.ClassFile.FieldType.int)).before args0 about1 = true := code_word (m := ⟨2, 3⟩) (meth := k2m3) (c := k2c3) (by decide +kernel) rfl rfl rfl (by decide +kernel)
set_option maxRecDepth 65536 in
theorem w_c6 : (Jvm.Cond.code ({ cls := "RemoteDelta", name := "weakOfBasis", desc := "(II)I" } : Jvm.MethodName) prog_1_method_19_code (8 : Nat) (Option.some Jvm.ClassFile.FieldType.int)).before args0 about1 = true := code_word (m := ⟨2, 9⟩) (meth := k2m9) (c := k2c9) (by decide +kernel) rfl rfl rfl (by decide +kernel)
set_option maxRecDepth 65536 in
theorem w_c7 : (Jvm.Cond.code ({ cls := "RemoteDelta", name := "packWeak", desc := "(II)I" } : Jvm.MethodName) prog_1_method_18_code (3 : Nat) (Option.some Jvm.ClassFile.FieldType.int)).before args0 about1 = true := code_word (m := ⟨2, 8⟩) (meth := k2m8) (c := k2c8) (by decide +kernel) rfl rfl rfl (by decide +kernel)
set_option maxRecDepth 65536 in
theorem w_c8 : (Jvm.Cond.code ({ cls := "RemoteDelta", name := "strongOfBasis", desc := "(II)J" } : Jvm.MethodName) prog_1_method_20_code (7 : Nat) (Option.some Jvm.ClassFile.FieldType.long)).before args0 about1 = true := code_word (m := ⟨2, 10⟩) (meth := k2m10) (c := k2c10) (by decide +kernel) rfl rfl rfl (by decide +kernel)
set_option maxRecDepth 65536 in
theorem w_c9 : (Jvm.Cond.code ({ cls := "RemoteDelta", name := "buildIndex", desc := "()V" } : Jvm.MethodName) prog_1_method_23_code (3 : Nat) (Option.none : Option Jvm.ClassFile.FieldType)).before args0 about1 = true := code_word (m := ⟨2, 12⟩) (meth := k2m12) (c := k2c12) (by decide +kernel) rfl rfl rfl (by decide +kernel)
set_option maxRecDepth 65536 in
theorem w_c10 : (Jvm.Cond.code ({ cls := "RemoteDelta", name := "bucketOf", desc := "(I)I" } : Jvm.MethodName) prog_1_method_22_code (3 : Nat) (Option.some Jvm.ClassFile.FieldType.int)).before args0 about1 = true := code_word (m := ⟨2, 11⟩) (meth := k2m11) (c := k2c11) (by decide +kernel) rfl rfl rfl (by decide +kernel)
set_option maxRecDepth 65536 in
theorem w_c11 : (Jvm.Cond.code ({ cls := "RemoteDelta", name := "phase", desc := "()I" } : Jvm.MethodName) prog_1_method_8_code (1 : Nat) (Option.some Jvm.ClassFile.FieldType.int)).before args0 about1 = true := code_word (m := ⟨2, 4⟩) (meth := k2m4) (c := k2c4) (by decide +kernel) rfl rfl rfl (by decide +kernel)
set_option maxRecDepth 65536 in
theorem w_c12 : (Jvm.Cond.code ({ cls := "RemoteDelta", name := "blockCount", desc := "()I" } : Jvm.MethodName) prog_1_method_9_code (1 : Nat) (Option.some Jvm.ClassFile.FieldType.int)).before args0 about1 = true := code_word (m := ⟨2, 5⟩) (meth := k2m5) (c := k2c5) (by decide +kernel) rfl rfl rfl (by decide +kernel)
set_option maxRecDepth 65536 in
theorem w_c13 : (Jvm.Cond.code ({ cls := "RemoteDelta", name := "blockLength", desc := "(I)I" } : Jvm.MethodName) prog_1_method_10_code (2 : Nat) (Option.some Jvm.ClassFile.FieldType.int)).before args0 about1 = true := code_word (m := ⟨2, 6⟩) (meth := k2m6) (c := k2c6) (by decide +kernel) rfl rfl rfl (by decide +kernel)
set_option maxRecDepth 65536 in
theorem w_c14 : (Jvm.Cond.code ({ cls := "RemoteDelta", name := "length", desc := "(I)I" } : Jvm.MethodName) prog_1_method_13_code (2 : Nat) (Option.some Jvm.ClassFile.FieldType.int)).before args0 about1 = true := code_word (m := ⟨2, 7⟩) (meth := k2m7) (c := k2c7) (by decide +kernel) rfl rfl rfl (by decide +kernel)
def codes1 : List Jvm.Cond := [Jvm.Cond.code x code maxLocals ret, Jvm.Cond.code ({ cls := "RemoteDelta", name := "<init>", desc := "(I)V" } : Jvm.MethodName) prog_1_method_1_code (3 : Nat) (Option.none : Option Jvm.ClassFile.FieldType), Jvm.Cond.code ({ cls := "java/lang/Object", name := "<init>", desc := "()V" } : Jvm.MethodName) object_method_1_code (1 : Nat) (Option.none : Option Jvm.ClassFile.FieldType), Jvm.Cond.code ({ cls := "RemoteDelta", name := "reset", desc := "()V" } : Jvm.MethodName) prog_1_method_2_code (1 : Nat) (Option.none : Option Jvm.ClassFile.FieldType), Jvm.Cond.code ({ cls := "RemoteDelta", name := "appendBasis", desc := "(II)I" } : Jvm.MethodName) prog_1_method_3_code (4 : Nat) (Option.some Jvm.ClassFile.FieldType.int), Jvm.Cond.code ({ cls := "RemoteDelta", name := "sign", desc := "()I" } : Jvm.MethodName) prog_1_method_5_code (5 : Nat) (Option.some Jvm.ClassFile.FieldType.int), Jvm.Cond.code ({ cls := "RemoteDelta", name := "weakOfBasis", desc := "(II)I" } : Jvm.MethodName) prog_1_method_19_code (8 : Nat) (Option.some Jvm.ClassFile.FieldType.int), Jvm.Cond.code ({ cls := "RemoteDelta", name := "packWeak", desc := "(II)I" } : Jvm.MethodName) prog_1_method_18_code (3 : Nat) (Option.some Jvm.ClassFile.FieldType.int), Jvm.Cond.code ({ cls := "RemoteDelta", name := "strongOfBasis", desc := "(II)J" } : Jvm.MethodName) prog_1_method_20_code (7 : Nat) (Option.some Jvm.ClassFile.FieldType.long), Jvm.Cond.code ({ cls := "RemoteDelta", name := "buildIndex", desc := "()V" } : Jvm.MethodName) prog_1_method_23_code (3 : Nat) (Option.none : Option Jvm.ClassFile.FieldType), Jvm.Cond.code ({ cls := "RemoteDelta", name := "bucketOf", desc := "(I)I" } : Jvm.MethodName) prog_1_method_22_code (3 : Nat) (Option.some Jvm.ClassFile.FieldType.int), Jvm.Cond.code ({ cls := "RemoteDelta", name := "phase", desc := "()I" } : Jvm.MethodName) prog_1_method_8_code (1 : Nat) (Option.some Jvm.ClassFile.FieldType.int), Jvm.Cond.code ({ cls := "RemoteDelta", name := "blockCount", desc := "()I" } : Jvm.MethodName) prog_1_method_9_code (1 : Nat) (Option.some Jvm.ClassFile.FieldType.int), Jvm.Cond.code ({ cls := "RemoteDelta", name := "blockLength", desc := "(I)I" } : Jvm.MethodName) prog_1_method_10_code (2 : Nat) (Option.some Jvm.ClassFile.FieldType.int), Jvm.Cond.code ({ cls := "RemoteDelta", name := "length", desc := "(I)I" } : Jvm.MethodName) prog_1_method_13_code (2 : Nat) (Option.some Jvm.ClassFile.FieldType.int)]
set_option maxRecDepth 65536 in
theorem codes_eq : words1.filter isCode = codes1 := rfl
theorem w_codes : ∀ c ∈ words1.filter isCode, c.before args0 about1 = true := by
  rw [codes_eq]
  intro c hc
  simp only [codes1, List.mem_cons, List.not_mem_nil, or_false] at hc
  rcases hc with rfl | rfl | rfl | rfl | rfl | rfl | rfl | rfl | rfl | rfl | rfl | rfl | rfl | rfl | rfl
  · exact w_c0
  · exact w_c1
  · exact w_c2
  · exact w_c3
  · exact w_c4
  · exact w_c5
  · exact w_c6
  · exact w_c7
  · exact w_c8
  · exact w_c9
  · exact w_c10
  · exact w_c11
  · exact w_c12
  · exact w_c13
  · exact w_c14
set_option maxRecDepth 65536 in
theorem w_t1 : (words1.take 24).all (fun c => isCode c || c.before args0 about1) = true := by decide +kernel
set_option maxRecDepth 65536 in
theorem w_t2 : ((words1.drop 24).take 24).all (fun c => isCode c || c.before args0 about1) = true := by decide +kernel
set_option maxRecDepth 65536 in
theorem w_t3 : (((words1.drop 24).drop 24).take 24).all (fun c => isCode c || c.before args0 about1) = true := by decide +kernel
set_option maxRecDepth 65536 in
theorem w_t4 : ((((words1.drop 24).drop 24).drop 24).take 24).all (fun c => isCode c || c.before args0 about1) = true := by decide +kernel
set_option maxRecDepth 65536 in
theorem w_t5 : ((((words1.drop 24).drop 24).drop 24).drop 24).all (fun c => isCode c || c.before args0 about1) = true := by decide +kernel
theorem w_tables : (allAtoms (Jvm.Cond.code x code maxLocals ret :: tables_1)).before args0 about1 = true := by
  rw [allAtoms_all]
  show words1.all (fun c => c.before args0 about1) = true
  refine all_split ?_ w_codes
  rw [← List.take_append_drop 24 words1, List.all_append, w_t1, ← List.take_append_drop 24 (words1.drop 24), List.all_append, w_t2, ← List.take_append_drop 24 ((words1.drop 24).drop 24), List.all_append, w_t3, ← List.take_append_drop 24 (((words1.drop 24).drop 24).drop 24), List.all_append, w_t4, w_t5]
  rfl
set_option maxRecDepth 65536 in
theorem w_case : (Jvm.Cond.and given_1 narrow_1).before args0 about1 = true := by decide +kernel
theorem w_applies : (headSpec (Jvm.Cond.code x code maxLocals ret :: tables_1) room_1).applies x e0.platform about1 = true :=
  (Spec.applies_iff w_frames).mpr ⟨w_running, w_runnable, w_alone, w_named, w_hears, w_ripe, w_room, w_tables⟩
theorem atStart : AtStart classFile x code maxLocals ret World_1 tables_1 room_1 Calls_1 rest_1 Pre_1 launch0 p0 e0 about1 theMethod args0 below0 :=
  ⟨lists_1, trivial, launch0.admits_env _ _ _, launch0.least_env, fairChoices_fair.cas, fairChoices_fair.clock, w_frames, w_args, w_heap, w_applies, trivial, trivial, w_case⟩
end start1
theorem witness_1 : WitnessClaimed_1 := ⟨start1.p0, start1.e0, start1.about1, start1.theMethod, start1.args0, start1.below0, start1.atStart⟩
end Jvm.Pilot.@@N@@
