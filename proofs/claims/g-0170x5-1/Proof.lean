import JvmDerived
import JvmDerived.Pilot.@@N@@Statement
import JvmDerived.Pilot.@@N@@Code
set_option linter.unusedVariables false
set_option linter.unusedSimpArgs false
/-! # A small executor over an abstract heap, and that it is sound for the model (Stand's family). Same text in every claim. -/
namespace Jvm.OwnX
open Sem ClassFile Op Lib Jvm.Stand Jvm.Free Jvm.LawKit Jvm.RoadKit
/-- a cell: an object's fields; an array of ints (0: handed in; 1), booleans (2), bytes (3); an array of longs -/
abbrev ACell := Sum (List Value) (Sum (Nat × List Int32) (List Int64))
abbrev AHeap := List ACell
abbrev ALoc := List (Option Value)
/-- a method: class, maxLocals, how many it pops, what it returns, is it a constructor, frames, locals -/
abbrev MI := Nat × Nat × Nat × Option FieldType × Bool × Nat × Nat
/-- code | methods | method links (kind, callee) | field links | constants | fields (name, descriptor, kind, final) | slots of an object | read-only cells | cells at most | slots at most -/
def Prog : Type := (Nat → Nat → Option (Instr × Nat)) × (Nat → MI) × (Nat → Nat → Option (Nat × Nat)) × (Nat → Nat → Option Nat) × (Nat → Nat → Option Value) × List (String × String × Nat × Bool) × Nat × Nat × Nat × Nat
def Prog.code (P : Prog) : Nat → Nat → Option (Instr × Nat) := P.1
def Prog.mi (P : Prog) : Nat → MI := P.2.1
def Prog.link (P : Prog) : Nat → Nat → Option (Nat × Nat) := P.2.2.1
def Prog.fld (P : Prog) : Nat → Nat → Option Nat := P.2.2.2.1
def Prog.kon (P : Prog) : Nat → Nat → Option Value := P.2.2.2.2.1
def Prog.fields (P : Prog) : List (String × String × Nat × Bool) := P.2.2.2.2.2.1
def Prog.objN (P : Prog) : Nat := P.2.2.2.2.2.2.1
def Prog.ro (P : Prog) : Nat := P.2.2.2.2.2.2.2.1
def Prog.capC (P : Prog) : Nat := P.2.2.2.2.2.2.2.2.1
def Prog.capS (P : Prog) : Nat := P.2.2.2.2.2.2.2.2.2
def Prog.cls (P : Prog) (k : Nat) : Nat := (P.mi k).1
def Prog.maxL (P : Prog) (k : Nat) : Nat := (P.mi k).2.1
def Prog.pops (P : Prog) (k : Nat) : Nat := (P.mi k).2.2.1
def Prog.ret (P : Prog) (k : Nat) : Option FieldType := (P.mi k).2.2.2.1
def Prog.ini (P : Prog) (k : Nat) : Bool := (P.mi k).2.2.2.2.1
def Prog.rf (P : Prog) (k : Nat) : Nat := (P.mi k).2.2.2.2.2.1
def Prog.rl (P : Prog) (k : Nat) : Nat := (P.mi k).2.2.2.2.2.2
def dflt : Nat → Value
  | 0 => .int 0
  | 1 => .int 0
  | 2 => .long 0
  | _ => .null
def Prog.fresh (P : Prog) : List Value := P.fields.map fun f => dflt f.2.2.1
/-- is j a place of an array of n -/
def inb (n : Nat) (j : Int32) : Bool := !(decide (j < 0)) && Nat.ble (j.toNatClampNeg + 1) n
def rd (xs : List Int32) (j : Int32) : Int32 := xs.getD j.toNatClampNeg 0
def wr (xs : List Int32) (j : Int32) (v : Int32) : List Int32 := xs.set j.toNatClampNeg v
def rdL (xs : List Int64) (j : Int32) : Int64 := xs.getD j.toNatClampNeg 0
def wrL (xs : List Int64) (j : Int32) (v : Int64) : List Int64 := xs.set j.toNatClampNeg v
def kill1 (L : ALoc) (i : Nat) : ALoc :=
  match i with
  | 0 => L
  | i + 1 => match L[i]? with
    | some (some (.long _)) => L.set i none
    | _ => L
def lput (L : ALoc) (i : Nat) (v : Value) : Option ALoc := bif Nat.ble (i + 1) L.length then some ((kill1 L i).set i (some v)) else none
def lputL (L : ALoc) (i : Nat) (v : Int64) : Option ALoc := bif Nat.ble (i + 2) L.length then some (((kill1 L i).set i (some (.long v))).set (i + 1) none) else none
def entL : List Value → ALoc
  | [] => []
  | .long v :: r => some (.long v) :: none :: entL r
  | v :: r => some v :: entL r
def pad (n : Nat) (L : ALoc) : ALoc := L ++ List.replicate (n - L.length) none
def entry (P : Prog) (k : Nat) (as : List Value) : ALoc := pad (P.maxL k) (entL as)
def cat (v : Value) : Nat := match v with | .long _ => 2 | _ => 1
def cats : List Value → Nat
  | [] => 0
  | v :: r => cat v + cats r
def okV : Value → Bool
  | .int _ => true | .long _ => true | .ref _ => true | .null => true | _ => false
def csz : Nat → ACell → Nat
  | n, .inl _ => n
  | _, .inr (.inl (0, _)) => 0
  | _, .inr (.inl (_, x)) => x.length
  | _, .inr (.inr x) => x.length
def hsz (P : Prog) : AHeap → Nat
  | [] => 0
  | c :: r => csz P.objN c + hsz P r
/-- how long an instruction is (0: as decode says) -/
def ilen : Instr → Nat
  | .iload _ => 2 | .lload _ => 2 | .aload _ => 2 | .istore _ => 2 | .lstore _ => 2 | .astore _ => 2 | .bipush _ => 2 | .ldc _ => 2 | .newarray _ => 2
  | .iinc _ _ => 3 | .sipush _ => 3 | .goto _ => 3 | .ifCond _ _ => 3 | .if_icmp _ _ => 3 | .getfield _ => 3 | .putfield _ => 3 | .new _ => 3 | .invokespecial _ => 3 | .invokestatic _ => 3 | .invokevirtual _ => 3 | .ldc2_w _ => 3
  | .tableswitch _ _ _ _ => 0
  | _ => 1
def tgt (pc : Nat) (o : Int) : Option Nat := match (pc : Int) + o with | .ofNat n => some n | .negSucc _ => none
def ish (x y : Int32) : Int32 := x <<< (y &&& 31)
def isr (x y : Int32) : Int32 := x >>> (y &&& 31)
def ush (x y : Int32) : Int32 := (x.toUInt32 >>> (y &&& 31).toUInt32).toInt32
def lsh (x : Int64) (y : Int32) : Int64 := x <<< (y &&& 0x3f).toInt64
def lus (x : Int64) (y : Int32) : Int64 := (x.toUInt64 >>> (y &&& 0x3f).toInt64.toUInt64).toInt64
def lcm (x y : Int64) : Int32 := if x > y then 1 else if x = y then 0 else -1
def i8 (x : Int32) : Int32 := x.toInt8.toInt32
def aop : Instr → Option (Int32 → Int32 → Int32)
  | .iadd => some fun x y => x + y
  | .isub => some fun x y => x - y
  | .imul => some fun x y => x * y
  | .iand => some fun x y => x &&& y
  | .ior => some fun x y => x ||| y
  | .ixor => some fun x y => x ^^^ y
  | .ishl => some fun x y => x <<< (y &&& 31)
  | .ishr => some fun x y => x >>> (y &&& 31)
  | .iushr => some fun x y => (x.toUInt32 >>> (y &&& 31).toUInt32).toInt32
  | _ => none
def lop : Instr → Option (Int64 → Int64 → Int64)
  | .ladd => some fun x y => x + y
  | .lsub => some fun x y => x - y
  | .lmul => some fun x y => x * y
  | .land => some fun x y => x &&& y
  | .lor => some fun x y => x ||| y
  | .lxor => some fun x y => x ^^^ y
  | _ => none
def loadI (L : ALoc) (n : Nat) : Option Int32 := match L[n]? with | some (some (.int x)) => some x | _ => none
def loadJ (L : ALoc) (n : Nat) : Option Int64 := match L[n]? with | some (some (.long x)) => some x | _ => none
def loadA (L : ALoc) (n : Nat) : Option Nat := match L[n]? with | some (some (.ref a)) => some a | _ => none
def getC (H : AHeap) (a j : Nat) : Option Value := match H[a]? with | some (.inl fs) => fs[j]? | _ => none
def conv (t : Nat) (v : Value) : Option Value :=
  match t, v with
  | 0, .int x => some (.int x)
  | 1, .int x => some (.int (x &&& 1))
  | 2, .long x => some (.long x)
  | 3, .ref a => some (.ref a)
  | _, _ => none
/-- a step within one frame -/
abbrev St := Nat × ALoc × List Value × AHeap
def atyOf : ArrayType → Option Nat
  | .int => some 1 | .boolean => some 2 | .byte => some 3 | .long => some 4 | _ => none
def newC (t n : Nat) : ACell := match t with | 4 => .inr (.inr (List.replicate n 0)) | t => .inr (.inl (t, List.replicate n 0))
def isObjInit (P : Prog) (k j : Nat) : Bool := match P.link (P.cls k) j with | some (4, _) => true | _ => false
/-- what is stored into an array of that kind -/
def narA (t : Nat) (x : Int32) : Int32 := match t with | 2 => x &&& 1 | 3 => x.toInt8.toInt32 | _ => x
def step (P : Prog) (k : Nat) (i : Instr) (np pc : Nat) (L : ALoc) (S : List Value) (H : AHeap) : Option St :=
  match i with
  | .iload_n n => match loadI L n.val with | some x => some (np, L, .int x :: S, H) | none => none
  | .iload n => match loadI L n with | some x => some (np, L, .int x :: S, H) | none => none
  | .lload_n n => match loadJ L n.val with | some x => some (np, L, .long x :: S, H) | none => none
  | .lload n => match loadJ L n with | some x => some (np, L, .long x :: S, H) | none => none
  | .aload_n n => match loadA L n.val with | some x => some (np, L, .ref x :: S, H) | none => none
  | .aload n => match loadA L n with | some x => some (np, L, .ref x :: S, H) | none => none
  | .istore_n n => match S with | .int x :: r => (match lput L n.val (.int x) with | some L' => some (np, L', r, H) | none => none) | _ => none
  | .istore n => match S with | .int x :: r => (match lput L n (.int x) with | some L' => some (np, L', r, H) | none => none) | _ => none
  | .astore_n n => match S with | .ref x :: r => (match lput L n.val (.ref x) with | some L' => some (np, L', r, H) | none => none) | _ => none
  | .astore n => match S with | .ref x :: r => (match lput L n (.ref x) with | some L' => some (np, L', r, H) | none => none) | _ => none
  | .lstore_n n => match S with | .long x :: r => (match lputL L n.val x with | some L' => some (np, L', r, H) | none => none) | _ => none
  | .lstore n => match S with | .long x :: r => (match lputL L n x with | some L' => some (np, L', r, H) | none => none) | _ => none
  | .iinc n c => match loadI L n with | some x => (match lput L n (.int (x + Int32.ofInt c)) with | some L' => some (np, L', S, H) | none => none) | none => none
  | .iconst c => some (np, L, .int (Int32.ofInt c) :: S, H)
  | .bipush c => some (np, L, .int (Int8.ofInt c).toInt32 :: S, H)
  | .sipush c => some (np, L, .int (Int16.ofInt c).toInt32 :: S, H)
  | .lconst c => some (np, L, .long (Int64.ofNat c) :: S, H)
  | .ldc j => match P.kon (P.cls k) j with | some (.int x) => some (np, L, .int x :: S, H) | _ => none
  | .ldc2_w j => match P.kon (P.cls k) j with | some (.long x) => some (np, L, .long x :: S, H) | _ => none
  | .idiv => match S with | .int y :: .int x :: r => (bif decide (y = 0) then none else some (np, L, .int (x / y) :: r, H)) | _ => none
  | .irem => match S with | .int y :: .int x :: r => (bif decide (y = 0) then none else some (np, L, .int (x % y) :: r, H)) | _ => none
  | .lshl => match S with | .int y :: .long x :: r => some (np, L, .long (x <<< (y &&& 0x3f).toInt64) :: r, H) | _ => none
  | .lushr => match S with | .int y :: .long x :: r => some (np, L, .long ((x.toUInt64 >>> (y &&& 0x3f).toInt64.toUInt64).toInt64) :: r, H) | _ => none
  | .lcmp => match S with | .long y :: .long x :: r => some (np, L, .int (if x > y then 1 else if x = y then 0 else -1) :: r, H) | _ => none
  | .lneg => match S with | .long x :: r => some (np, L, .long (-x) :: r, H) | _ => none
  | .i2l => match S with | .int x :: r => some (np, L, .long x.toInt64 :: r, H) | _ => none
  | .l2i => match S with | .long x :: r => some (np, L, .int x.toInt32 :: r, H) | _ => none
  | .i2b => match S with | .int x :: r => some (np, L, .int x.toInt8.toInt32 :: r, H) | _ => none
  | .dup => match S with | .ref x :: r => some (np, L, .ref x :: .ref x :: r, H) | .int x :: r => some (np, L, .int x :: .int x :: r, H) | _ => none
  | .dup2 => match S with | .int x :: .ref y :: r => some (np, L, .int x :: .ref y :: .int x :: .ref y :: r, H) | _ => none
  | .pop => match S with | .int _ :: r => some (np, L, r, H) | .ref _ :: r => some (np, L, r, H) | _ => none
  | .goto o => match tgt pc o with | some t => some (t, L, S, H) | none => none
  | .ifCond cd o => match S with
    | .int x :: r => (bif if_icmp.holds cd x 0 then (match tgt pc o with | some t => some (t, L, r, H) | none => none) else some (np, L, r, H))
    | _ => none
  | .if_icmp cd o => match S with
    | .int y :: .int x :: r => (bif if_icmp.holds cd x y then (match tgt pc o with | some t => some (t, L, r, H) | none => none) else some (np, L, r, H))
    | _ => none
  | .tableswitch d lo hi offs => match S with
    | .int x :: r => (bif decide (x.toInt < lo) || decide (x.toInt > hi) then (match tgt pc d with | some t => some (t, L, r, H) | none => none)
        else (match offs.toList[(x.toInt - lo).toNat]? with | some o => (match tgt pc o with | some t => some (t, L, r, H) | none => none) | none => none))
    | _ => none
  | .getfield j => match S with
    | .ref a :: r => (match P.fld (P.cls k) j with | some f => (match getC H a f with | some v => some (np, L, v :: r, H) | none => none) | none => none)
    | _ => none
  | .putfield j => match S with
    | v :: .ref a :: r => (match P.fld (P.cls k) j with
      | some f => (match P.fields[f]? with
        | some (_, _, t, fin) => (bif (!fin || P.ini k) && Nat.ble P.ro a then (match conv t v with
          | some v' => (match H[a]? with
            | some (.inl fs) => (bif Nat.ble (f + 1) fs.length then some (np, L, r, H.set a (.inl (fs.set f v'))) else none)
            | _ => none)
          | none => none) else none)
        | none => none)
      | none => none)
    | _ => none
  | .iaload => match S with
    | .int j :: .ref a :: r => (match H[a]? with
      | some (.inr (.inl (1, xs))) => (bif inb xs.length j then some (np, L, .int (rd xs j) :: r, H) else none)
      | some (.inr (.inl (0, xs))) => (bif inb xs.length j then some (np, L, .int (rd xs j) :: r, H) else none)
      | _ => none)
    | _ => none
  | .baload => match S with
    | .int j :: .ref a :: r => (match H[a]? with
      | some (.inr (.inl (2, xs))) => (bif inb xs.length j then some (np, L, .int (rd xs j) :: r, H) else none)
      | some (.inr (.inl (3, xs))) => (bif inb xs.length j then some (np, L, .int (rd xs j) :: r, H) else none)
      | _ => none)
    | _ => none
  | .laload => match S with
    | .int j :: .ref a :: r => (match H[a]? with | some (.inr (.inr xs)) => (bif inb xs.length j then some (np, L, .long (rdL xs j) :: r, H) else none) | _ => none)
    | _ => none
  | .iastore => match S with
    | .int x :: .int j :: .ref a :: r => (bif Nat.ble P.ro a then (match H[a]? with | some (.inr (.inl (1, xs))) => (bif inb xs.length j then some (np, L, r, H.set a (.inr (.inl (1, wr xs j x)))) else none) | _ => none) else none)
    | _ => none
  | .bastore => match S with
    | .int x :: .int j :: .ref a :: r => (bif Nat.ble P.ro a then (match H[a]? with
      | some (.inr (.inl (2, xs))) => (bif inb xs.length j then some (np, L, r, H.set a (.inr (.inl (2, wr xs j (x &&& 1))))) else none)
      | some (.inr (.inl (3, xs))) => (bif inb xs.length j then some (np, L, r, H.set a (.inr (.inl (3, wr xs j x.toInt8.toInt32)))) else none)
      | _ => none) else none)
    | _ => none
  | .lastore => match S with
    | .long x :: .int j :: .ref a :: r => (bif Nat.ble P.ro a then (match H[a]? with | some (.inr (.inr xs)) => (bif inb xs.length j then some (np, L, r, H.set a (.inr (.inr (wrL xs j x)))) else none) | _ => none) else none)
    | _ => none
  | .arraylength => match S with
    | .ref a :: r => (match H[a]? with
      | some (.inr (.inl (_, xs))) => some (np, L, .int xs.length.toInt32 :: r, H)
      | some (.inr (.inr xs)) => some (np, L, .int xs.length.toInt32 :: r, H)
      | _ => none)
    | _ => none
  | .newarray t => match S with
    | .int n :: r => (match atyOf t with | some q => (bif !(decide (n < 0)) && Nat.ble n.toNatClampNeg 60000 && Nat.ble (H.length + 1) P.capC && Nat.ble (hsz P H + n.toNatClampNeg) P.capS then some (np, L, .ref H.length :: r, H ++ [newC q n.toNatClampNeg]) else none) | none => none)
    | _ => none
  | .new j => match P.link (P.cls k) j with | some (5, _) => (bif Nat.ble (H.length + 1) P.capC && Nat.ble (hsz P H + P.objN) P.capS then some (np, L, .ref H.length :: S, H ++ [.inl P.fresh]) else none) | _ => none
  | .invokespecial j => match S with
    | .ref _ :: r => (bif isObjInit P k j && Nat.ble 1 (P.rf k) && Nat.ble (cats r + 12) (P.rl k) then some (np, L, r, H) else none)
    | _ => none
  | i => match S with
    | .int y :: .int x :: r => (match aop i with | some f => some (np, L, .int (f x y) :: r, H) | none => none)
    | .long y :: .long x :: r => (match lop i with | some f => some (np, L, .long (f x y) :: r, H) | none => none)
    | _ => none
/-- what a return hands back -/
def retV (P : Prog) (k : Nat) (i : Instr) (S : List Value) : Option (Option Value) :=
  match i with
  | .return_ => match S, P.ret k with | [], none => some none | _, _ => none
  | .ireturn => match S with
    | .int x :: _ => (match P.ret k with | some .int => some (some (.int x)) | some .boolean => some (some (.int (x &&& 1))) | _ => none)
    | _ => none
  | .lreturn => match S with | .long x :: _ => (match P.ret k with | some .long => some (some (.long x)) | _ => none) | _ => none
  | _ => none
def kindOk : Instr → Nat → Bool
  | .invokestatic _, 0 => true
  | .invokespecial _, 1 => true
  | .invokevirtual _, 2 => true
  | .invokevirtual _, 3 => true
  | _, _ => false
def poolOf : Instr → Option Nat
  | .invokestatic j => some j
  | .invokespecial j => some j
  | .invokevirtual j => some j
  | _ => none
/-- the receiver is there -/
def recvOk (P : Prog) (H : AHeap) (q : Nat) (as : List Value) : Bool :=
  match q with
  | 0 => true
  | _ => match as with
    | .ref a :: _ => (match H[a]? with | some (.inl _) => true | _ => false)
    | _ => false
def callV (P : Prog) (k : Nat) (i : Instr) (S : List Value) (H : AHeap) : Option (Nat × List Value × List Value) :=
  match poolOf i with
  | none => none
  | some j => match P.link (P.cls k) j with
    | none => none
    | some (q, k') =>
      bif kindOk i q && Nat.ble (P.pops k') S.length && Nat.ble (P.rf k' + 1) (P.rf k) && Nat.ble (cats (S.drop (P.pops k')) + (P.maxL k' + 11) + P.rl k') (P.rl k) && recvOk P H q (S.take (P.pops k')).reverse && Nat.ble (entL (S.take (P.pops k')).reverse).length (P.maxL k') then
        some (k', (S.take (P.pops k')).reverse, S.drop (P.pops k'))
      else none
def run (P : Prog) : Nat → Nat → Nat → ALoc → List Value → AHeap → Option (Option Value × AHeap)
  | 0, _, _, _, _, _ => none
  | n + 1, k, pc, L, S, H =>
    match P.code k pc with
    | none => none
    | some (i, np) =>
      match retV P k i S with
      | some v => some (v, H)
      | none =>
        match callV P k i S H with
        | some (k', as, rest) =>
          (match run P n k' 0 (entry P k' as) [] H with
          | some (v, H1) => run P n k np L (v.toList ++ rest) H1
          | none => none)
        | none =>
          (match step P k i np pc L S H with
          | some (pc', L', S', H') => run P n k pc' L' S' H'
          | none => none)
def Eval (P : Prog) (k pc : Nat) (L : ALoc) (S : List Value) (H : AHeap) (out : Option Value × AHeap) : Prop := ∃ n, run P n k pc L S H = some out
end Jvm.OwnX
namespace Jvm.OwnX
open Sem ClassFile Op Lib Jvm.Stand Jvm.Free Jvm.LawKit Jvm.RoadKit
/-! ## values, stacks, local variables -/
def VR (am : List Addr) (v w : Value) : Prop := match v with
  | .ref i => ∃ a, am[i]? = some a ∧ w = .ref a
  | .int x => w = .int x
  | .long x => w = .long x
  | .null => w = .null
  | _ => False
def SR (am : List Addr) : List Value → List Value → Prop
  | [], ws => ws = []
  | v :: vs, ws => ∃ w ws', ws = w :: ws' ∧ VR am v w ∧ SR am vs ws'
def Pre (am am' : List Addr) : Prop := ∀ (i : Nat) (a : Addr), am[i]? = some a → am'[i]? = some a
theorem Pre.refl (am : List Addr) : Pre am am := fun _ _ h => h
theorem Pre.trans {a b c : List Addr} (h : Pre a b) (h' : Pre b c) : Pre a c := fun i x q => h' i x (h i x q)
theorem Pre.app (am : List Addr) (x : Addr) : Pre am (am ++ [x]) := fun i a h => by
  rw [List.getElem?_append_left (List.getElem?_eq_some_iff.mp h).1]; exact h
theorem VR.mono {am am' : List Addr} (h : Pre am am') {v w : Value} (r : VR am v w) : VR am' v w := by
  cases v <;> simp only [VR] at r ⊢ <;> try exact r
  obtain ⟨a, h1, h2⟩ := r; exact ⟨a, h _ _ h1, h2⟩
theorem SR.mono {am am' : List Addr} (h : Pre am am') : ∀ {S ws : List Value}, SR am S ws → SR am' S ws
  | [], _, r => r
  | _ :: _, _, ⟨w, ws', e, r1, r2⟩ => ⟨w, ws', e, r1.mono h, SR.mono h r2⟩
theorem VR.cat {am : List Addr} {v w : Value} (r : VR am v w) : w.category = OwnX.cat v := by
  cases v <;> simp only [VR] at r
  · subst r; rfl
  · subst r; rfl
  · subst r; rfl
  · obtain ⟨a, -, rfl⟩ := r; rfl
theorem SR.cats {am : List Addr} : ∀ {S ws : List Value}, SR am S ws → (ws.map fun v => v.category).sum = OwnX.cats S
  | [], _, r => by cases r; rfl
  | v :: vs, _, ⟨w, ws', e, r1, r2⟩ => by subst e; simp [OwnX.cats, r1.cat, SR.cats r2]
theorem SR.app {am : List Addr} : ∀ {S ws : List Value} (A B : List Value), SR am S ws → S = A ++ B → ∃ x y, ws = x ++ y ∧ SR am A x ∧ SR am B y
  | S, ws, [], B, r, e => ⟨[], ws, rfl, rfl, by rw [show B = S from by simpa using e.symm]; exact r⟩
  | S, ws, v :: A, B, r, e => by
    subst e
    obtain ⟨w, ws', rfl, r1, r2⟩ := r
    obtain ⟨x, y, rfl, h1, h2⟩ := SR.app A B r2 rfl
    exact ⟨w :: x, y, rfl, ⟨w, x, rfl, r1, h1⟩, h2⟩
theorem SR.join {am : List Addr} : ∀ {A x B y : List Value}, SR am A x → SR am B y → SR am (A ++ B) (x ++ y)
  | [], _, _, _, h, h' => by cases h; exact h'
  | _ :: _, _, _, _, ⟨w, ws', e, r1, r2⟩, h' => by subst e; exact ⟨w, _, rfl, r1, SR.join r2 h'⟩
theorem SR.rev {am : List Addr} : ∀ {A x : List Value}, SR am A x → SR am A.reverse x.reverse
  | [], _, h => by cases h; rfl
  | _ :: _, _, ⟨w, ws', e, r1, r2⟩ => by
    subst e
    rw [List.reverse_cons, List.reverse_cons]
    exact SR.join (SR.rev r2) ⟨w, [], rfl, r1, rfl⟩
theorem SR.len {am : List Addr} : ∀ {A x : List Value}, SR am A x → x.length = A.length
  | [], _, h => by cases h; rfl
  | _ :: _, _, ⟨w, ws', e, r1, r2⟩ => by subst e; simp [SR.len r2]
def WFL (l : Array Slot) : Prop := (∀ (i : Nat) w, l[i]? = some (.val w) → w.category = 2 → l[i + 1]? = some .second) ∧ (∀ (i : Nat), l[i]? = some .second → ∃ (j : Nat) (w : Value), i = j + 1 ∧ l[j]? = some (.val w) ∧ w.category = 2)
/-- the places of the variables behind a store of one word -/
def After1 (l l' : Array Slot) (i : Nat) (v : Value) : Prop := ∀ j : Nat, l'[j]? = if j = i then some (.val v) else if j + 1 = i ∧ l[i]? = some .second then some .unset else if j = i + 1 ∧ l[j]? = some .second then some .unset else l[j]?
theorem sib (l : Array Slot) (i j : Nat) (x : Slot) (hi : i < l.size) : (l.setIfInBounds i x)[j]? = if j = i then some x else l[j]? := by
  by_cases h : j = i
  · subst h; simp [hi]
  · simp [Array.getElem?_setIfInBounds_ne (Ne.symm h), h]
theorem store1w {l : Array Slot} {i : Nat} {v : Value} (hw : WFL l) (hi : i < l.size) (hv : v.category = 1) : ∃ l', storeLocals l i v = some l' ∧ l'.size = l.size ∧ After1 l l' i v := by
  have hv2 : ¬ v.category = 2 := by omega
  have hg : l[i]? = some l[i] := Array.getElem?_eq_getElem hi
  cases hq : l[i] with
  | unset =>
    rw [hq] at hg
    refine ⟨l.setIfInBounds i (.val v), by simp [storeLocals, storeSelf, setAt, hg, hq, hi, hv2], by simp, fun j => ?_⟩
    rw [sib _ _ _ _ hi, hg]
    by_cases h : j = i
    · simp [h]
    · simp only [h, if_false, reduceCtorEq, and_false, Option.some.injEq]
      by_cases h2 : j = i + 1 ∧ l[j]? = some .second
      · obtain ⟨j', w, e1, e2, e3⟩ := hw.2 _ h2.2
        have : j' = i := by omega
        subst this; rw [hg] at e2; cases e2
      · simp [h2]
  | second =>
    rw [hq] at hg
    obtain ⟨j0, w, e1, e2, e3⟩ := hw.2 _ hg
    subst e1
    have hj0 : j0 < l.size := by omega
    refine ⟨(l.setIfInBounds j0 .unset).setIfInBounds (j0 + 1) (.val v), by simp [storeLocals, storeSelf, setAt, hg, hq, hi, hv2, hj0], by simp, fun j => ?_⟩
    rw [sib _ _ _ _ (by simpa using hi), sib _ _ _ _ hj0, hg]
    by_cases h : j = j0 + 1
    · simp [h]
    · by_cases h3 : j = j0
      · subst h3; simp
      · have h4 : ¬ (j + 1 = j0 + 1) := by omega
        by_cases h2 : j = j0 + 1 + 1 ∧ l[j]? = some .second
        · obtain ⟨j', w', f1, f2, f3⟩ := hw.2 _ h2.2
          have : j' = j0 + 1 := by omega
          subst this; rw [hg] at f2; cases f2
        · simp [h, h3, h2]
  | val old =>
    rw [hq] at hg
    by_cases hc : old.category = 2
    · have h1 := hw.1 _ _ hg hc
      have h1' := (Array.getElem?_eq_some_iff.mp h1).1
      refine ⟨(l.setIfInBounds (i + 1) .unset).setIfInBounds i (.val v), by simp [storeLocals, storeSelf, setAt, hg, hq, hi, hv2, hc, h1'], by simp, fun j => ?_⟩
      rw [sib _ _ _ _ (by simpa using hi), sib _ _ _ _ h1', hg]
      by_cases h : j = i
      · simp [h]
      · by_cases h3 : j = i + 1
        · subst h3; simp [h1]
        · simp [h, h3]
    · refine ⟨l.setIfInBounds i (.val v), by simp [storeLocals, storeSelf, setAt, hg, hq, hi, hv2, hc], by simp, fun j => ?_⟩
      rw [sib _ _ _ _ hi, hg]
      by_cases h : j = i
      · simp [h]
      · simp only [h, if_false, reduceCtorEq, and_false, Option.some.injEq]
        by_cases h2 : j = i + 1 ∧ l[j]? = some .second
        · obtain ⟨j', w, e1, e2, e3⟩ := hw.2 _ h2.2
          have : j' = i := by omega
          subst this; rw [hg] at e2; cases e2; exact absurd e3 hc
        · simp [h2]
theorem After1.wf {l l' : Array Slot} {i : Nat} {v : Value} (hw : WFL l) (hv : v.category = 1) (A : After1 l l' i v) : WFL l' := by
  refine ⟨fun j w h1 h2 => ?_, fun j h1 => ?_⟩
  · rw [A j] at h1
    by_cases c1 : j = i
    · simp only [c1, if_true, Option.some.injEq, Slot.val.injEq] at h1; subst h1; omega
    · rw [if_neg c1] at h1
      by_cases c2 : j + 1 = i ∧ l[i]? = some .second
      · rw [if_pos c2] at h1; cases h1
      · rw [if_neg c2] at h1
        by_cases c3 : j = i + 1 ∧ l[j]? = some .second
        · rw [if_pos c3] at h1; cases h1
        · rw [if_neg c3] at h1
          have h3 := hw.1 _ _ h1 h2
          rw [A (j + 1)]
          have n1 : ¬ (j + 1 = i) := fun q => c2 ⟨q, q ▸ h3⟩
          have n2 : ¬ (j + 1 + 1 = i ∧ l[i]? = some .second) := fun ⟨q1, q2⟩ => by
            obtain ⟨j', w', f1, f2, f3⟩ := hw.2 _ q2
            have : j' = j + 1 := by omega
            subst this; rw [h3] at f2; cases f2
          have n3 : ¬ (j + 1 = i + 1 ∧ l[j + 1]? = some .second) := fun ⟨q1, _⟩ => c1 (by omega)
          rw [if_neg n1, if_neg n2, if_neg n3]; exact h3
  · rw [A j] at h1
    by_cases c1 : j = i
    · rw [if_pos c1] at h1; cases h1
    · rw [if_neg c1] at h1
      by_cases c2 : j + 1 = i ∧ l[i]? = some .second
      · rw [if_pos c2] at h1; cases h1
      · rw [if_neg c2] at h1
        by_cases c3 : j = i + 1 ∧ l[j]? = some .second
        · rw [if_pos c3] at h1; cases h1
        · rw [if_neg c3] at h1
          obtain ⟨j', w, e1, e2, e3⟩ := hw.2 _ h1
          refine ⟨j', w, e1, ?_, e3⟩
          rw [A j']
          have n1 : ¬ (j' = i) := fun q => c3 ⟨by omega, h1⟩
          have n2 : ¬ (j' + 1 = i ∧ l[i]? = some .second) := fun ⟨q, _⟩ => c1 (by omega)
          have n3 : ¬ (j' = i + 1 ∧ l[j']? = some .second) := fun ⟨_, q⟩ => by rw [e2] at q; cases q
          rw [if_neg n1, if_neg n2, if_neg n3]; exact e2
def lng (o : Option Slot) : Bool := match o with | some (.val w) => decide (w.category = 2) | _ => false
theorem lng_iff (o : Option Slot) : lng o = true ↔ ∃ w, o = some (.val w) ∧ w.category = 2 := by
  unfold lng
  split
  · rename_i w; simp
  · rename_i h; simp; intro w hw; exact absurd hw (h w)
/-- behind a store of a long -/
def After2 (l l' : Array Slot) (i : Nat) (v : Value) : Prop := ∀ j : Nat, l'[j]? = if j = i then some (.val v) else if j = i + 1 then some .second else if j + 1 = i ∧ l[i]? = some .second then some .unset else if j = i + 2 ∧ l[j]? = some .second then some .unset else l[j]?
theorem self2 {l : Array Slot} {i : Nat} {v : Value} (hi : i + 1 < l.size) (hv : v.category = 2) (hz : ∀ w, l[i + 1]? = some (.val w) → w.category = 2 → i + 2 < l.size) :
    ∃ l', storeSelf l i v = some l' ∧ l'.size = l.size ∧ ∀ j : Nat, l'[j]? = if j = i then some (.val v) else if j = i + 1 then some .second else if j = i + 2 ∧ lng l[i + 1]? = true then some .unset else l[j]? := by
  have hi0 : i < l.size := by omega
  have hg : l[i + 1]? = some l[i + 1] := Array.getElem?_eq_getElem hi
  have hne : (l.setIfInBounds i (.val v))[i + 1]? = l[i + 1]? := Array.getElem?_setIfInBounds_ne (by omega)
  have hplain : (∀ w, l[i + 1] = .val w → ¬ w.category = 2) → storeSelf l i v = some ((l.setIfInBounds i (.val v)).setIfInBounds (i + 1) .second) := fun hn => by
    cases hq : l[i + 1] with
    | val w => simp [storeSelf, setAt, hi0, hv, hne, hg, hq, hn _ hq, hi]
    | unset => simp [storeSelf, setAt, hi0, hv, hne, hg, hq, hi]
    | second => simp [storeSelf, setAt, hi0, hv, hne, hg, hq, hi]
  by_cases hx : ∃ w, l[i + 1] = .val w ∧ w.category = 2
  · obtain ⟨w, hw1, hw2⟩ := hx
    have h2 := hz w (by rw [hg, hw1]) hw2
    refine ⟨((l.setIfInBounds i (.val v)).setIfInBounds (i + 2) .unset).setIfInBounds (i + 1) .second, by simp [storeSelf, setAt, hi0, hv, hne, hg, hw1, hw2, hi, h2], by simp, fun j => ?_⟩
    rw [sib _ _ _ _ (by simpa using hi), sib _ _ _ _ (by simpa using h2), sib _ _ _ _ hi0]
    have hE : lng l[i + 1]? = true := (lng_iff _).mpr ⟨w, by rw [hg, hw1], hw2⟩
    by_cases c1 : j = i
    · subst c1; simp
    · by_cases c2 : j = i + 1
      · subst c2; simp
      · by_cases c3 : j = i + 2
        · subst c3; simp [hE]
        · simp [c1, c2, c3]
  · refine ⟨_, hplain fun w h1 h2 => hx ⟨w, h1, h2⟩, by simp, fun j => ?_⟩
    rw [sib _ _ _ _ (by simpa using hi), sib _ _ _ _ hi0]
    have hE : ¬ lng l[i + 1]? = true := fun q => by
      obtain ⟨w, q1, q2⟩ := (lng_iff _).mp q
      exact hx ⟨w, by rw [hg] at q1; exact Option.some.inj q1, q2⟩
    by_cases c1 : j = i
    · subst c1; simp
    · by_cases c2 : j = i + 1
      · subst c2; simp
      · simp [c1, c2, hE]
theorem store2w {l : Array Slot} {i : Nat} {v : Value} (hw : WFL l) (hi : i + 1 < l.size) (hv : v.category = 2) : ∃ l', storeLocals l i v = some l' ∧ l'.size = l.size ∧ After2 l l' i v := by
  have hi0 : i < l.size := by omega
  have hg : l[i]? = some l[i] := Array.getElem?_eq_getElem hi0
  have hz : ∀ w, l[i + 1]? = some (.val w) → w.category = 2 → i + 2 < l.size := fun w q1 q2 => (Array.getElem?_eq_some_iff.mp (hw.1 _ _ q1 q2)).1
  have hsec : ∀ j : Nat, (j = i + 2 ∧ lng l[i + 1]? = true) ↔ (j = i + 2 ∧ l[j]? = some .second) := fun j => by
    constructor
    · rintro ⟨rfl, q⟩
      obtain ⟨w, q1, q2⟩ := (lng_iff _).mp q
      exact ⟨rfl, hw.1 _ _ q1 q2⟩
    · rintro ⟨rfl, q⟩
      obtain ⟨j', w, e1, e2, e3⟩ := hw.2 _ q
      have : j' = i + 1 := by omega
      subst this; exact ⟨rfl, (lng_iff _).mpr ⟨w, e2, e3⟩⟩
  cases hq : l[i] with
  | unset =>
    rw [hq] at hg
    obtain ⟨l', h1, h2, h3⟩ := self2 hi hv hz
    refine ⟨l', by simp [storeLocals, hg, hq, hi0, h1], h2, fun j => ?_⟩
    rw [h3 j, hg]; simp only [hsec, reduceCtorEq, and_false, if_false, Option.some.injEq]
  | second =>
    rw [hq] at hg
    obtain ⟨j0, w, e1, e2, e3⟩ := hw.2 _ hg
    subst e1
    have hj0 : j0 < l.size := by omega
    have hi' : j0 + 1 + 1 < (l.setIfInBounds j0 .unset).size := by simpa using hi
    have hk : ∀ j : Nat, j ≠ j0 → (l.setIfInBounds j0 .unset)[j]? = l[j]? := fun j h => Array.getElem?_setIfInBounds_ne (Ne.symm h)
    obtain ⟨l', h1, h2, h3⟩ := self2 (l := l.setIfInBounds j0 .unset) hi' hv (fun w q1 q2 => by rw [hk _ (by omega)] at q1; simpa using hz w q1 q2)
    refine ⟨l', by simp [storeLocals, setAt, hg, hq, hi0, hj0, h1], by simpa using h2, fun j => ?_⟩
    rw [h3 j, hg, hk (j0 + 1 + 1) (by omega)]; simp only [hsec]
    by_cases c1 : j = j0 + 1
    · simp [c1]
    · by_cases c2 : j = j0 + 1 + 1
      · simp [c2]
      · by_cases c3 : j = j0
        · subst c3; simp [hj0]
        · rw [hk _ c3]
          have : ¬ (j + 1 = j0 + 1) := by omega
          simp [c1, c2, c3]
  | val old =>
    rw [hq] at hg
    by_cases hc : old.category = 2
    · have g1 := hw.1 _ _ hg hc
      have hi' : i + 1 < (l.setIfInBounds (i + 1) .unset).size := by simpa using hi
      have hk : ∀ j : Nat, j ≠ i + 1 → (l.setIfInBounds (i + 1) .unset)[j]? = l[j]? := fun j h => Array.getElem?_setIfInBounds_ne (Ne.symm h)
      have hk1 : (l.setIfInBounds (i + 1) .unset)[i + 1]? = some .unset := by simp [hi]
      obtain ⟨l', h1, h2, h3⟩ := self2 (l := l.setIfInBounds (i + 1) .unset) hi' hv (fun w q1 q2 => by rw [hk1] at q1; cases q1)
      refine ⟨l', by simp [storeLocals, setAt, hg, hq, hi0, hc, hi, h1], by simpa using h2, fun j => ?_⟩
      rw [h3 j, hg, hk1]
      by_cases c1 : j = i
      · simp [c1]
      · by_cases c2 : j = i + 1
        · simp [c2]
        · rw [hk _ c2]
          have c3 : ¬ (j = i + 2 ∧ l[j]? = some .second) := fun ⟨q1, q2⟩ => by
            subst q1
            obtain ⟨j', w, e1, e2, e3⟩ := hw.2 _ q2
            have : j' = i + 1 := by omega
            subst this; rw [g1] at e2; cases e2
          simp [c1, c2, c3, lng]
    · obtain ⟨l', h1, h2, h3⟩ := self2 hi hv hz
      refine ⟨l', by simp [storeLocals, hg, hq, hi0, hc, h1], h2, fun j => ?_⟩
      rw [h3 j, hg]; simp only [hsec, reduceCtorEq, and_false, if_false, Option.some.injEq]
theorem After2.wf {l l' : Array Slot} {i : Nat} {v : Value} (hw : WFL l) (hv : v.category = 2) (A : After2 l l' i v) : WFL l' := by
  refine ⟨fun j w h1 h2 => ?_, fun j h1 => ?_⟩
  · rw [A j] at h1
    by_cases c1 : j = i
    · subst c1; rw [A (j + 1)]; simp
    · rw [if_neg c1] at h1
      by_cases c0 : j = i + 1
      · rw [if_pos c0] at h1; cases h1
      · rw [if_neg c0] at h1
        by_cases c2 : j + 1 = i ∧ l[i]? = some .second
        · rw [if_pos c2] at h1; cases h1
        · rw [if_neg c2] at h1
          by_cases c3 : j = i + 2 ∧ l[j]? = some .second
          · rw [if_pos c3] at h1; cases h1
          · rw [if_neg c3] at h1
            have h3 := hw.1 _ _ h1 h2
            rw [A (j + 1)]
            have n1 : ¬ (j + 1 = i) := fun q => c2 ⟨q, q ▸ h3⟩
            have n0 : ¬ (j + 1 = i + 1) := by omega
            have n2 : ¬ (j + 1 + 1 = i ∧ l[i]? = some .second) := fun ⟨q1, q2⟩ => by
              obtain ⟨j', w', f1, f2, f3⟩ := hw.2 _ q2
              have : j' = j + 1 := by omega
              subst this; rw [h3] at f2; cases f2
            have n3 : ¬ (j + 1 = i + 2 ∧ l[j + 1]? = some .second) := fun ⟨q1, _⟩ => c0 (by omega)
            rw [if_neg n1, if_neg n0, if_neg n2, if_neg n3]; exact h3
  · rw [A j] at h1
    by_cases c1 : j = i
    · rw [if_pos c1] at h1; cases h1
    · rw [if_neg c1] at h1
      by_cases c0 : j = i + 1
      · subst c0; exact ⟨i, v, rfl, by rw [A i]; simp, hv⟩
      · rw [if_neg c0] at h1
        by_cases c2 : j + 1 = i ∧ l[i]? = some .second
        · rw [if_pos c2] at h1; cases h1
        · rw [if_neg c2] at h1
          by_cases c3 : j = i + 2 ∧ l[j]? = some .second
          · rw [if_pos c3] at h1; cases h1
          · rw [if_neg c3] at h1
            obtain ⟨j', w, e1, e2, e3⟩ := hw.2 _ h1
            refine ⟨j', w, e1, ?_, e3⟩
            rw [A j']
            have n1 : ¬ (j' = i) := fun q => c0 (by omega)
            have n0 : ¬ (j' = i + 1) := fun q => c3 ⟨by omega, h1⟩
            have n2 : ¬ (j' + 1 = i ∧ l[i]? = some .second) := fun ⟨q, _⟩ => c1 (by omega)
            have n3 : ¬ (j' = i + 2 ∧ l[j']? = some .second) := fun ⟨_, q⟩ => by rw [e2] at q; cases q
            rw [if_neg n1, if_neg n0, if_neg n2, if_neg n3]; exact e2
def LR (am : List Addr) (L : ALoc) (l : Array Slot) : Prop := L.length = l.size ∧ WFL l ∧ ∀ (i : Nat) v, L[i]? = some (some v) → ∃ w, l[i]? = some (.val w) ∧ VR am v w
theorem LR.mono {am am' : List Addr} (h : Pre am am') {L : ALoc} {l : Array Slot} (r : LR am L l) : LR am' L l :=
  ⟨r.1, r.2.1, fun i v q => by obtain ⟨w, h1, h2⟩ := r.2.2 i v q; exact ⟨w, h1, h2.mono h⟩⟩
theorem kill1_len (L : ALoc) (i : Nat) : (kill1 L i).length = L.length := by
  unfold kill1; split
  · rfl
  · split <;> simp
theorem kill1_get {L : ALoc} {i j : Nat} {v : Value} (h : (kill1 L i)[j]? = some (some v)) : L[j]? = some (some v) ∧ (j + 1 = i → ∀ x, v ≠ .long x) := by
  unfold kill1 at h
  split at h
  · exact ⟨h, fun q => by omega⟩
  · rename_i i
    split at h
    · rename_i x hx
      by_cases e : j = i
      · subst e
        rw [List.getElem?_set] at h
        split at h
        · split at h <;> simp at h
        · omega
      · rw [List.getElem?_set_ne (Ne.symm e)] at h
        exact ⟨h, fun q => absurd (by omega) e⟩
    · rename_i hn
      refine ⟨h, fun q x e => ?_⟩
      have : j = i := by omega
      subst this; subst e; exact hn x h
theorem LR.put {am : List Addr} {L L' : ALoc} {l : Array Slot} {i : Nat} {v w : Value} (r : LR am L l) (h : lput L i v = some L') (hv : VR am v w) (hc : w.category = 1) : ∃ l', storeLocals l i w = some l' ∧ l'.size = l.size ∧ LR am L' l' := by
  unfold lput at h
  cases hb : Nat.ble (i + 1) L.length
  · rw [hb] at h; cases h
  · rw [hb] at h
    have hi : i < L.length := Nat.le_of_ble_eq_true hb
    simp only [cond_true, Option.some.injEq] at h
    obtain ⟨l', h1, h2, h3⟩ := store1w (v := w) r.2.1 (by rw [← r.1]; exact hi) hc
    refine ⟨l', h1, h2, ?_, h3.wf r.2.1 hc, fun j u hu => ?_⟩
    · rw [← h]; simp [kill1_len, r.1, h2]
    · rw [← h, List.getElem?_set] at hu
      rw [h3 j]
      by_cases c : i = j
      · subst c
        simp only [if_true] at hu
        split at hu
        · cases hu; exact ⟨w, by simp, hv⟩
        · cases hu
      · rw [if_neg c] at hu
        obtain ⟨q1, q2⟩ := kill1_get hu
        obtain ⟨w', q3, q4⟩ := r.2.2 j u q1
        have n1 : ¬ (j = i) := fun q => c q.symm
        have n2 : ¬ (j + 1 = i ∧ l[i]? = some .second) := fun ⟨a1, a2⟩ => by
          obtain ⟨j', w2, e1, e2, e3⟩ := r.2.1.2 _ a2
          have : j' = j := by omega
          subst this; rw [q3] at e2; cases e2
          have q5 := q4.cat
          rw [e3] at q5
          cases u <;> simp [OwnX.cat] at q5
          exact q2 a1 _ rfl
        have n3 : ¬ (j = i + 1 ∧ l[j]? = some .second) := fun ⟨_, q⟩ => by rw [q3] at q; cases q
        exact ⟨w', by rw [if_neg n1, if_neg n2, if_neg n3]; exact q3, q4⟩
theorem LR.putL {am : List Addr} {L L' : ALoc} {l : Array Slot} {i : Nat} {x : Int64} (r : LR am L l) (h : lputL L i x = some L') : ∃ l', storeLocals l i (.long x) = some l' ∧ l'.size = l.size ∧ LR am L' l' := by
  unfold lputL at h
  cases hb : Nat.ble (i + 2) L.length
  · rw [hb] at h; cases h
  · rw [hb] at h
    have hi : i + 1 < L.length := Nat.le_of_ble_eq_true hb
    simp only [cond_true, Option.some.injEq] at h
    obtain ⟨l', h1, h2, h3⟩ := store2w (v := .long x) r.2.1 (by rw [← r.1]; exact hi) rfl
    refine ⟨l', h1, h2, ?_, h3.wf r.2.1 rfl, fun j u hu => ?_⟩
    · rw [← h]; simp [kill1_len, r.1, h2]
    · rw [← h, List.getElem?_set] at hu
      rw [h3 j]
      by_cases c0 : i + 1 = j
      · subst c0
        simp only [if_true] at hu
        split at hu <;> cases hu
      · rw [if_neg c0, List.getElem?_set] at hu
        by_cases c : i = j
        · subst c
          simp only [if_true] at hu
          split at hu
          · cases hu; exact ⟨.long x, by simp, rfl⟩
          · cases hu
        · rw [if_neg c] at hu
          obtain ⟨q1, q2⟩ := kill1_get hu
          obtain ⟨w', q3, q4⟩ := r.2.2 j u q1
          have n1 : ¬ (j = i) := fun q => c q.symm
          have n0 : ¬ (j = i + 1) := fun q => c0 q.symm
          have n2 : ¬ (j + 1 = i ∧ l[i]? = some .second) := fun ⟨a1, a2⟩ => by
            obtain ⟨j', w2, e1, e2, e3⟩ := r.2.1.2 _ a2
            have : j' = j := by omega
            subst this; rw [q3] at e2; cases e2
            have q5 := q4.cat
            rw [e3] at q5
            cases u <;> simp [OwnX.cat] at q5
            exact q2 a1 _ rfl
          have n3 : ¬ (j = i + 2 ∧ l[j]? = some .second) := fun ⟨_, q⟩ => by rw [q3] at q; cases q
          exact ⟨w', by rw [if_neg n1, if_neg n0, if_neg n2, if_neg n3]; exact q3, q4⟩
theorem LR.int {am : List Addr} {L : ALoc} {l : Array Slot} {i : Nat} {x : Int32} (r : LR am L l) (h : loadI L i = some x) : l[i]? = some (.val (.int x)) := by
  unfold loadI at h
  split at h
  · rename_i y hy
    cases h
    obtain ⟨w, h1, h2⟩ := r.2.2 _ _ hy
    cases h2; exact h1
  · cases h
theorem LR.long {am : List Addr} {L : ALoc} {l : Array Slot} {i : Nat} {x : Int64} (r : LR am L l) (h : loadJ L i = some x) : l[i]? = some (.val (.long x)) := by
  unfold loadJ at h
  split at h
  · rename_i y hy
    cases h
    obtain ⟨w, h1, h2⟩ := r.2.2 _ _ hy
    cases h2; exact h1
  · cases h
theorem LR.ref {am : List Addr} {L : ALoc} {l : Array Slot} {i x : Nat} (r : LR am L l) (h : loadA L i = some x) : ∃ a, am[x]? = some a ∧ l[i]? = some (.val (.ref a)) := by
  unfold loadA at h
  split at h
  · rename_i y hy
    cases h
    obtain ⟨w, h1, a, h2, rfl⟩ := r.2.2 _ _ hy
    exact ⟨a, h2, h1⟩
  · cases h
end Jvm.OwnX
namespace Jvm.OwnX
open Sem ClassFile Op Lib Jvm.Stand Jvm.Free Jvm.LawKit Jvm.RoadKit
/-! ## the entry's variables -/
def slotsL : List Value → List Slot
  | [] => []
  | v :: r => if v.category = 2 then .val v :: .second :: slotsL r else .val v :: slotsL r
theorem fold_slots : ∀ (ws : List Value) (acc : Array Slot), ws.foldl (fun acc v => if v.category = 2 then (acc.push (.val v)).push .second else acc.push (.val v)) acc = acc ++ (slotsL ws).toArray
  | [], acc => by simp [slotsL]
  | v :: r, acc => by
    rw [List.foldl_cons, fold_slots r]
    by_cases h : v.category = 2
    · simp only [h, if_true, slotsL]; apply Array.ext'; simp
    · simp only [h, if_false, slotsL]; apply Array.ext'; simp
theorem argsToLocals_eq (ws : List Value) (n : Nat) : argsToLocals ws.toArray n = (slotsL ws ++ List.replicate (n - (slotsL ws).length) Slot.unset).toArray := by
  unfold argsToLocals
  have h : Array.foldl (fun acc v => if v.category = 2 then (acc.push (.val v)).push .second else acc.push (.val v)) #[] ws.toArray = (slotsL ws).toArray := by
    rw [List.foldl_toArray, fold_slots]; simp
  simp only [h]
  apply Array.ext'; simp
def WFl (s : List Slot) : Prop := (∀ (i : Nat) (w : Value), s[i]? = some (Slot.val w) → w.category = 2 → s[i + 1]? = some Slot.second) ∧ (∀ (i : Nat), s[i]? = some Slot.second → ∃ (j : Nat) (w : Value), i = j + 1 ∧ s[j]? = some (Slot.val w) ∧ w.category = 2)
theorem WFl.nil : WFl [] := ⟨fun i w h => by simp at h, fun i h => by simp at h⟩
theorem WFl.one {s : List Slot} (h : WFl s) {v : Value} (hv : ¬ v.category = 2) : WFl (.val v :: s) := by
  refine ⟨fun i w h1 h2 => ?_, fun i h1 => ?_⟩
  · cases i with
    | zero => simp at h1; subst h1; exact absurd h2 hv
    | succ i => rw [List.getElem?_cons_succ] at h1 ⊢; exact h.1 _ _ h1 h2
  · cases i with
    | zero => simp at h1
    | succ i =>
      rw [List.getElem?_cons_succ] at h1
      obtain ⟨j, w, rfl, e2, e3⟩ := h.2 _ h1
      exact ⟨j + 1, w, rfl, by rw [List.getElem?_cons_succ]; exact e2, e3⟩
theorem WFl.two {s : List Slot} (h : WFl s) {v : Value} (hv : v.category = 2) : WFl (.val v :: .second :: s) := by
  refine ⟨fun i w h1 h2 => ?_, fun i h1 => ?_⟩
  · match i with
    | 0 => simp
    | 1 => simp at h1
    | i + 2 => simp only [List.getElem?_cons_succ] at h1 ⊢; exact h.1 _ _ h1 h2
  · match i with
    | 0 => simp at h1
    | 1 => exact ⟨0, v, rfl, by simp, hv⟩
    | i + 2 =>
      simp only [List.getElem?_cons_succ] at h1
      obtain ⟨j, w, rfl, e2, e3⟩ := h.2 _ h1
      exact ⟨j + 2, w, rfl, by simp only [List.getElem?_cons_succ]; exact e2, e3⟩
theorem WFl.pad {s : List Slot} (h : WFl s) (n : Nat) : WFl (s ++ List.replicate n Slot.unset) := by
  have hk : ∀ (i : Nat) (x : Slot), (s ++ List.replicate n Slot.unset)[i]? = some x → x ≠ Slot.unset → s[i]? = some x := fun i x q hx => by
    by_cases c : i < s.length
    · rw [List.getElem?_append_left c] at q; exact q
    · rw [List.getElem?_append_right (by omega), List.getElem?_replicate] at q
      split at q
      · cases q; exact absurd rfl hx
      · cases q
  have hl : ∀ (i : Nat) (x : Slot), s[i]? = some x → (s ++ List.replicate n Slot.unset)[i]? = some x := fun i x q => by
    rw [List.getElem?_append_left (List.getElem?_eq_some_iff.mp q).1]; exact q
  refine ⟨fun i w h1 h2 => hl _ _ (h.1 _ _ (hk _ _ h1 (by simp)) h2), fun i h1 => ?_⟩
  obtain ⟨j, w, e1, e2, e3⟩ := h.2 _ (hk _ _ h1 (by simp))
  exact ⟨j, w, e1, hl _ _ e2, e3⟩
theorem slotsL_ok {am : List Addr} : ∀ {as ws : List Value}, SR am as ws → (entL as).length = (slotsL ws).length ∧ WFl (slotsL ws) ∧ ∀ (i : Nat) (v : Value), (entL as)[i]? = some (some v) → ∃ w, (slotsL ws)[i]? = some (Slot.val w) ∧ VR am v w
  | [], _, h => by cases h; exact ⟨rfl, WFl.nil, fun i v q => by simp [entL] at q⟩
  | v :: r, _, ⟨w, ws', e, r1, r2⟩ => by
    subst e
    obtain ⟨i1, i2, i3⟩ := slotsL_ok r2
    have hc := r1.cat
    by_cases h2 : ∃ x, v = .long x
    · obtain ⟨x, rfl⟩ := h2
      have hc2 : w.category = 2 := hc
      refine ⟨by simp [entL, slotsL, hc2, i1], by simp only [slotsL, hc2, if_true]; exact i2.two hc2, fun i u q => ?_⟩
      simp only [slotsL, hc2, if_true, entL] at q ⊢
      match i with
      | 0 => simp at q; subst q; exact ⟨w, by simp, r1⟩
      | 1 => simp at q
      | i + 2 => simp only [List.getElem?_cons_succ] at q ⊢; exact i3 i u q
    · have hv1 : OwnX.cat v = 1 := by cases v <;> first | rfl | (exact absurd ⟨_, rfl⟩ h2)
      have hc2 : ¬ w.category = 2 := by rw [hc, hv1]; decide
      have he : entL (v :: r) = some v :: entL r := by cases v <;> first | rfl | (exact absurd ⟨_, rfl⟩ h2)
      refine ⟨by simp [he, slotsL, hc2, i1], by simp only [slotsL, hc2, if_false]; exact i2.one hc2, fun i u q => ?_⟩
      rw [he] at q
      simp only [slotsL, hc2, if_false]
      match i with
      | 0 => simp at q; subst q; exact ⟨w, by simp, r1⟩
      | i + 1 => simp only [List.getElem?_cons_succ] at q ⊢; exact i3 i u q
theorem LR.entry {am : List Addr} {as ws : List Value} {n : Nat} (h : SR am as ws) (hn : (entL as).length ≤ n) : LR am (pad n (entL as)) (argsToLocals ws.toArray n) := by
  obtain ⟨h1, h2, h3⟩ := slotsL_ok h
  rw [argsToLocals_eq]
  have hw := h2.pad (n - (slotsL ws).length)
  refine ⟨by simp [pad, h1], ⟨fun i w q1 q2 => ?_, fun i q1 => ?_⟩, fun i v q => ?_⟩
  · rw [List.getElem?_toArray] at q1 ⊢; exact hw.1 _ _ q1 q2
  · rw [List.getElem?_toArray] at q1
    obtain ⟨j, w, e1, e2, e3⟩ := hw.2 _ q1
    exact ⟨j, w, e1, by rw [List.getElem?_toArray]; exact e2, e3⟩
  · have hi : i < (entL as).length := by
      by_cases c : i < (entL as).length
      · exact c
      · unfold pad at q
        rw [List.getElem?_append_right (by omega), List.getElem?_replicate] at q
        split at q
        · cases q
        · cases q
    unfold pad at q
    rw [List.getElem?_append_left hi] at q
    obtain ⟨w, e1, e2⟩ := h3 i v q
    exact ⟨w, by rw [List.getElem?_toArray, List.getElem?_append_left (by omega)]; exact e1, e2⟩
theorem entry_size {ws : List Value} {n : Nat} (h : (slotsL ws).length ≤ n) : (argsToLocals ws.toArray n).size = n := by
  rw [argsToLocals_eq]; simp; omega
/-! ## the heap -/
def aty : Nat → FieldType
  | 0 => .int
  | 1 => .int
  | 2 => .boolean
  | 3 => .byte
  | _ => .long
def CR (P : Prog) (C : String) (Z : State) (am : List Addr) (c : ACell) (h : Heap) (a : Addr) : Prop := match c with
  | .inl fs => Exa Z h a C ∧ fs.length = P.fields.length ∧ ∀ (j : Nat) (v : Value) (n d : String) (t : Nat) (f : Bool), fs[j]? = some v → P.fields[j]? = some (n, d, t, f) → ∃ w, VR am v w ∧ Fld Z h a C n d w
  | .inr (.inl (t, xs)) => ∃ cl, Arr Z h a cl (aty t) ∧ cl.slots.size = xs.length ∧ ∀ (j : Nat) (x : Int32), xs[j]? = some x → cl.slots[j]? = some (.int x)
  | .inr (.inr xs) => ∃ cl, Arr Z h a cl .long ∧ cl.slots.size = xs.length ∧ ∀ (j : Nat) (x : Int64), xs[j]? = some x → cl.slots[j]? = some (.long x)
def HR (P : Prog) (C : String) (Z : State) (n0 : Nat) (am : List Addr) (H : AHeap) (h : Heap) : Prop :=
  am.length = H.length ∧ (∀ (i j : Nat) (a : Addr), am[i]? = some a → am[j]? = some a → i = j) ∧ (∀ (i : Nat) (a : Addr), am[i]? = some a → a < h.size ∧ (P.ro ≤ i → n0 ≤ a)) ∧ ∀ (i : Nat) (c : ACell), H[i]? = some c → ∃ a, am[i]? = some a ∧ CR P C Z am c h a
section Heap
variable {P : Prog} {C : String} {Z : State} {n0 : Nat} {am am' : List Addr} {H : AHeap} {h h' : Heap} {a b : Addr} {c : ACell}
theorem CR.ext (E : Ext h h') (hp : Pre am am') (r : CR P C Z am c h a) : CR P C Z am' c h' a := by
  match c, r with
  | .inl fs, ⟨r1, r2, r3⟩ => exact ⟨r1.ext E, r2, fun j v n d t f q1 q2 => by obtain ⟨w, e1, e2⟩ := r3 j v n d t f q1 q2; exact ⟨w, e1.mono hp, e2.ext E⟩⟩
  | .inr (.inl (t, xs)), ⟨cl, r1, r2⟩ => exact ⟨cl, r1.ext E, r2⟩
  | .inr (.inr xs), ⟨cl, r1, r2⟩ => exact ⟨cl, r1.ext E, r2⟩
theorem CR.other {sl : Nat} {v : Value} (W : Wr h h' b sl v) (hne : a ≠ b) (r : CR P C Z am c h a) : CR P C Z am c h' a := by
  match c, r with
  | .inl fs, ⟨r1, r2, r3⟩ => exact ⟨r1.wr W, r2, fun j v n d t f q1 q2 => by obtain ⟨w, e1, e2⟩ := r3 j v n d t f q1 q2; exact ⟨w, e1, e2.other W (Or.inl hne)⟩⟩
  | .inr (.inl (t, xs)), ⟨cl, r1, r2⟩ => exact ⟨cl, r1.other W hne, r2⟩
  | .inr (.inr xs), ⟨cl, r1, r2⟩ => exact ⟨cl, r1.other W hne, r2⟩
/-- a new cell -/
theorem HR.push (E : Ext h h') (r : HR P C Z n0 am H h) (hlt : h.size < h'.size) (hn : n0 ≤ h.size) (hc : CR P C Z (am ++ [h.size]) c h' h.size) : HR P C Z n0 (am ++ [h.size]) (H ++ [c]) h' := by
  obtain ⟨r1, r2, r3, r4⟩ := r
  have hin : ∀ (i : Nat) (x : Addr), (am ++ [h.size])[i]? = some x → (am[i]? = some x ∧ i < am.length) ∨ (i = am.length ∧ x = h.size) := fun i x q => by
    by_cases ci : i < am.length
    · rw [List.getElem?_append_left ci] at q; exact Or.inl ⟨q, ci⟩
    · rw [List.getElem?_append_right (by omega)] at q
      have : i - am.length = 0 := by
        by_cases z : i - am.length = 0
        · exact z
        · rw [List.getElem?_eq_none (by simp; omega)] at q; cases q
      rw [this] at q
      simp at q
      exact Or.inr ⟨by omega, q.symm⟩
  refine ⟨by simp [r1], fun i j x q1 q2 => ?_, fun i x q => ?_, fun i d q => ?_⟩
  · rcases hin i x q1 with ⟨u1, u2⟩ | ⟨u1, u2⟩ <;> rcases hin j x q2 with ⟨v1, v2⟩ | ⟨v1, v2⟩
    · exact r2 _ _ _ u1 v1
    · subst v2; exact absurd (r3 _ _ u1).1 (Nat.lt_irrefl _)
    · subst u2; exact absurd (r3 _ _ v1).1 (Nat.lt_irrefl _)
    · omega
  · rcases hin i x q with ⟨u1, u2⟩ | ⟨u1, u2⟩
    · have := r3 _ _ u1; exact ⟨Nat.lt_of_lt_of_le this.1 E.1, this.2⟩
    · subst u2; exact ⟨hlt, fun _ => hn⟩
  · by_cases ci : i < H.length
    · rw [List.getElem?_append_left ci] at q
      obtain ⟨x, e1, e2⟩ := r4 i d q
      exact ⟨x, Pre.app am _ _ _ e1, e2.ext E (Pre.app am _)⟩
    · rw [List.getElem?_append_right (by omega)] at q
      have : i - H.length = 0 := by
        by_cases z : i - H.length = 0
        · exact z
        · rw [List.getElem?_eq_none (by simp; omega)] at q; cases q
      rw [this] at q
      simp at q; subst q
      have e : i = am.length := by omega
      exact ⟨h.size, by rw [e]; simp, hc⟩
/-- a cell changed in place -/
theorem HR.upd {i sl : Nat} {v : Value} (W : Wr h h' a sl v) (r : HR P C Z n0 am H h) (hi : am[i]? = some a) (hc : CR P C Z am c h' a) : HR P C Z n0 am (H.set i c) h' := by
  obtain ⟨r1, r2, r3, r4⟩ := r
  refine ⟨by simp [r1], r2, fun j x q => by rw [W.size]; exact r3 _ _ q, fun j d q => ?_⟩
  rw [List.getElem?_set] at q
  by_cases e : i = j
  · subst e
    simp only [if_true] at q
    split at q
    · cases q; exact ⟨a, hi, hc⟩
    · cases q
  · rw [if_neg e] at q
    obtain ⟨x, e1, e2⟩ := r4 j d q
    exact ⟨x, e1, e2.other W fun q => e (r2 _ _ _ hi (q ▸ e1))⟩
theorem inb_spec {n : Nat} {j : Int32} (h : inb n j = true) : ¬ (j < 0 ∨ n ≤ j.toNatClampNeg) := by
  simp only [inb, Bool.and_eq_true, Bool.not_eq_true', decide_eq_false_iff_not] at h
  have h2 : j.toNatClampNeg < n := Nat.le_of_ble_eq_true h.2
  rintro (q | q)
  · exact h.1 q
  · omega
theorem inb_lt {n : Nat} {j : Int32} (h : inb n j = true) : j.toNatClampNeg < n := by
  have := inb_spec h; exact Nat.lt_of_not_le fun q => this (Or.inr q)
theorem rd_at {xs : List Int32} {j : Int32} (h : inb xs.length j = true) : xs[j.toNatClampNeg]? = some (rd xs j) := by
  rw [rd, List.getD_eq_getElem?_getD, List.getElem?_eq_getElem (inb_lt h)]; rfl
theorem rdL_at {xs : List Int64} {j : Int32} (h : inb xs.length j = true) : xs[j.toNatClampNeg]? = some (rdL xs j) := by
  rw [rdL, List.getD_eq_getElem?_getD, List.getElem?_eq_getElem (inb_lt h)]; rfl
theorem CR.wrI {t : Nat} {xs : List Int32} {j x : Int32} (W : Wr h h' a j.toNatClampNeg (.int x)) (r : CR P C Z am (.inr (.inl (t, xs))) h a) : CR P C Z am (.inr (.inl (t, wr xs j x))) h' a := by
  obtain ⟨cl, r1, r2, r3⟩ := r
  refine ⟨_, r1.same W, by rw [sz_set, r2]; simp [wr], fun i y q => ?_⟩
  unfold wr at q
  rw [List.getElem?_set] at q
  by_cases e : j.toNatClampNeg = i
  · rw [if_pos e] at q
    split at q
    · cases q; subst e
      have hs : j.toNatClampNeg < cl.slots.size := by omega
      simp [Cell.setSlot, hs]
    · cases q
  · rw [if_neg e] at q
    simp only [Cell.setSlot]
    rw [Array.getElem?_setIfInBounds_ne e]; exact r3 _ _ q
theorem CR.wrJ {xs : List Int64} {j : Int32} {x : Int64} (W : Wr h h' a j.toNatClampNeg (.long x)) (r : CR P C Z am (.inr (.inr xs)) h a) : CR P C Z am (.inr (.inr (wrL xs j x))) h' a := by
  obtain ⟨cl, r1, r2, r3⟩ := r
  refine ⟨_, r1.same W, by rw [sz_set, r2]; simp [wrL], fun i y q => ?_⟩
  unfold wrL at q
  rw [List.getElem?_set] at q
  by_cases e : j.toNatClampNeg = i
  · rw [if_pos e] at q
    split at q
    · cases q; subst e
      have hs : j.toNatClampNeg < cl.slots.size := by omega
      simp [Cell.setSlot, hs]
    · cases q
  · rw [if_neg e] at q
    simp only [Cell.setSlot]
    rw [Array.getElem?_setIfInBounds_ne e]; exact r3 _ _ q
end Heap
/-! ## what the sheet's words must say -/
def tyOk : Nat → FieldType → Bool
  | 0, .int => true
  | 1, .boolean => true
  | 2, .long => true
  | 3, .array _ => true
  | _, _ => false
def rcv (q : Nat) : Nat := match q with | 0 => 0 | _ => 1
def KindOk (P : Prog) (nm : Nat → MethodName) (C : String) (Z : State) (a0 : Array Value) (q k : Nat) : Prop := match q with
  | 0 => (Cond.static (nm k)).before a0 Z = true
  | 1 => (nm k).name = "<init>" ∧ (Cond.instanceMethod (nm k)).before a0 Z = true ∧ P.ret k = none
  | 2 => (Cond.declares (nm k)).before a0 Z = true ∧ (Cond.instanceMethod (nm k)).before a0 Z = true ∧ (Cond.selects C (nm k) (nm k)).before a0 Z = true
  | _ => (nm k).cls = C ∧ (Cond.instanceMethod (nm k)).before a0 Z = true ∧ (Cond.privateMethod (nm k)).before a0 Z = true
def CallOk (P : Prog) (nm : Nat → MethodName) (bc : Nat → ByteArray) (cn : Nat → String) (C : String) (Z : State) (a0 : Array Value) (c j q k : Nat) : Prop :=
  (Cond.methodLink (cn c) j (nm k)).before a0 Z = true ∧ (Cond.code (nm k) (bc k) (P.maxL k) (P.ret k)).before a0 Z = true ∧ (Cond.initialized (nm k).cls).before a0 Z = true ∧
      (∃ ps r, parseMethodDescriptor (nm k).desc = some ⟨ps, r⟩ ∧ P.pops k = ps.length + rcv q) ∧ plainName (nm k).cls = true ∧ ((nm k).cls ≠ "java/lang/invoke/MethodHandle" ∧ (nm k).cls ≠ "java/lang/invoke/VarHandle") ∧ (nm k).cls = cn (P.cls k) ∧ (P.ini k = true → (nm k).name = "<init>" ∧ (nm k).cls = C) ∧ KindOk P nm C Z a0 q k
def LinkOk (P : Prog) (nm : Nat → MethodName) (bc : Nat → ByteArray) (cn : Nat → String) (C : String) (Z : State) (a0 : Array Value) (c j q k : Nat) : Prop := match q with
  | 4 => (Cond.methodLink (cn c) j Lib.objectInit).before a0 Z = true ∧ (Cond.instanceMethod Lib.objectInit).before a0 Z = true ∧ (Cond.code Lib.objectInit ⟨#[0xb1]⟩ 1 none).before a0 Z = true
  | 5 => (Cond.classLink (cn c) j C).before a0 Z = true
  | q => CallOk P nm bc cn C Z a0 c j q k
def KonOk (cn : Nat → String) (Z : State) (a0 : Array Value) (c j : Nat) (v : Value) : Prop := match v with
  | .int x => (Cond.constant (cn c) j x).before a0 Z = true
  | .long x => (Cond.constantLong (cn c) j x).before a0 Z = true
  | _ => False
def Good (P : Prog) (nm : Nat → MethodName) (bc : Nat → ByteArray) (cn : Nat → String) (C : String) (Z : State) (a0 : Array Value) : Prop :=
  (∀ k pc i np, P.code k pc = some (i, np) → ∃ len, decode (bc k) pc = .ok (i, len) ∧ np = pc + len ∧ (ilen i = 0 ∨ len = ilen i)) ∧
  (∀ c j f, P.fld c j = some f → ∃ n d t fin, P.fields[f]? = some (n, d, t, fin) ∧ (Cond.fieldLink (cn c) j C n d).before a0 Z = true) ∧
  (∀ (f : Nat) n d t (fin : Bool), P.fields[f]? = some (n, d, t, fin) → (bif fin then (Cond.laysFinal C C n d).before a0 Z else (Cond.lays C C n d).before a0 Z) = true ∧ ∃ ty, parseFieldDescriptor d = some ty ∧ tyOk t ty = true ∧ defaultValue ty = dflt t) ∧
  (∀ (f g : Nat) n d t (fin : Bool) n' d' t' (fin' : Bool), P.fields[f]? = some (n, d, t, fin) → P.fields[g]? = some (n', d', t', fin') → f ≠ g → n ≠ n') ∧
  (∀ c j v, P.kon c j = some v → KonOk cn Z a0 c j v) ∧
  (Cond.instantiable C P.objN).before a0 Z = true ∧ (Cond.initialized C).before a0 Z = true ∧
  (∀ k pc t np, P.code k pc = some (.newarray t, np) → (Cond.arrayClass (newarray.typeOf t)).before a0 Z = true) ∧
  (∀ c j q k, P.link c j = some (q, k) → LinkOk P nm bc cn C Z a0 c j q k)
end Jvm.OwnX
namespace Jvm.OwnX
open Sem ClassFile Op Lib Jvm.Stand Jvm.Free Jvm.LawKit Jvm.RoadKit
section Sound
variable {p : Program} {l : Launch} {e : Env} {R : Room} {s : State} {m : MethodId} {args : Array Value} {below : List Frame} {meth : Method} {c : Code} {T : State} {locs : List Loc} {cells slots : Nat}
variable {P : Prog} {nm : Nat → MethodName} {bc : Nat → ByteArray} {cn : Nat → String} {C : String} {Z : State} {a0 : Array Value} {n0 : Nat}
/-- where the walk stands behind a step -/
def Behind (p : Program) (l : Launch) (e : Env) (R : Room) (s : State) (m : MethodId) (args : Array Value) (below : List Frame) (meth : Method) (c : Code) (P : Prog) (C : String) (Z : State) (n0 : Nat) (am : List Addr) (cells slots : Nat)
    (T : State) (pc : Nat) (ls : Array Slot) (st : List Value) (pc' : Nat) (L' : ALoc) (S' : List Value) (H' : AHeap) (dc ds : Nat) : Prop :=
  ∃ T' am' ls' st' locs', Stand p l e R s m args below meth c T' locs' (cells + dc) (slots + ds) ∧ LR am' L' ls' ∧ ls'.size = ls.size ∧ SR am' S' st' ∧ HR P C Z n0 am' H' T'.heap ∧ Pre am am' ∧ Fr n0 locs' ∧ n0 ≤ T'.heap.size ∧
    ∀ target, Steps p.tables e below (T'.setTop (mkF m pc' ls' st')) target → Steps p.tables e below (T.setTop (mkF m pc ls st)) target
theorem Behind.plain {am : List Addr} {H : AHeap} {pc pc' : Nat} {L' : ALoc} {S' : List Value} {ls ls' : Array Slot} {st st' : List Value} (X : Stand p l e R s m args below meth c T locs cells slots) (hL : LR am L' ls') (hz : ls'.size = ls.size) (hS : SR am S' st') (hH : HR P C Z n0 am H T.heap) (hF : Fr n0 locs) (hn : n0 ≤ T.heap.size)
    (hs : ∀ target, Steps p.tables e below (T.setTop (mkF m pc' ls' st')) target → Steps p.tables e below (T.setTop (mkF m pc ls st)) target) : Behind p l e R s m args below meth c P C Z n0 am cells slots T pc ls st pc' L' S' H (H.length - H.length) (hsz P H - hsz P H) :=
  ⟨T, am, ls', st', locs, by simpa using X, hL, hz, hS, hH, Pre.refl _, hF, hn, hs⟩
theorem Behind.plain' {T' : State} {am : List Addr} {H : AHeap} {pc pc' : Nat} {L' : ALoc} {S' : List Value} {ls ls' : Array Slot} {st st' : List Value} (X : Stand p l e R s m args below meth c T' locs cells slots) (eT : T'.heap = T.heap) (hL : LR am L' ls') (hz : ls'.size = ls.size) (hS : SR am S' st') (hH : HR P C Z n0 am H T.heap) (hF : Fr n0 locs) (hn : n0 ≤ T.heap.size)
    (hs : ∀ target, Steps p.tables e below (T'.setTop (mkF m pc' ls' st')) target → Steps p.tables e below (T.setTop (mkF m pc ls st)) target) : Behind p l e R s m args below meth c P C Z n0 am cells slots T pc ls st pc' L' S' H (H.length - H.length) (hsz P H - hsz P H) :=
  ⟨T', am, ls', st', locs, by simpa using X, hL, hz, hS, by rw [eT]; exact hH, Pre.refl _, hF, by rw [eT]; exact hn, hs⟩
theorem tgt_spec {pc t : Nat} {o : Int} (h : tgt pc o = some t) : 0 ≤ (pc : Int) + o ∧ ((pc : Int) + o).toNat = t := by
  unfold tgt at h
  split at h
  · rename_i n hn; cases h; rw [hn]; exact ⟨Int.natCast_nonneg _, rfl⟩
  · cases h
theorem hsz_app (P : Prog) : ∀ (H : AHeap) (c : ACell), hsz P (H ++ [c]) = hsz P H + csz P.objN c
  | [], c => by simp [hsz]
  | x :: r, c => by simp only [List.cons_append, hsz, hsz_app P r c]; omega
theorem hsz_append (P : Prog) : ∀ (H T : AHeap), hsz P (H ++ T) = hsz P H + hsz P T
  | [], T => by simp [hsz]
  | x :: r, T => by simp only [List.cons_append, hsz, hsz_append P r T]; omega
theorem hsz_set (P : Prog) : ∀ (H : AHeap) (i : Nat) (c c' : ACell), H[i]? = some c' → csz P.objN c = csz P.objN c' → hsz P (H.set i c) = hsz P H
  | [], i, c, c', h, _ => by simp at h
  | x :: r, 0, c, c', h, e => by simp at h; subst h; simp [hsz, e]
  | x :: r, i + 1, c, c', h, e => by simp only [List.set_cons_succ, hsz]; rw [List.getElem?_cons_succ] at h; rw [hsz_set P r i c c' h e]
/-- a write -/
theorem Behind.write {T' : State} {am : List Addr} {H : AHeap} {i sl : Nat} {cc cc' : ACell} {a : Addr} {w : Value} {h' : Heap} {pc pc' : Nat} {L' : ALoc} {S' : List Value} {ls : Array Slot} {st st' : List Value} (X : Stand p l e R s m args below meth c T' (locs ++ [⟨a, sl⟩]) cells slots) (eT : T'.heap = h') (W : Wr T.heap h' a sl w)
    (hL : LR am L' ls) (hS : SR am S' st') (hH : HR P C Z n0 am H T.heap) (hi : am[i]? = some a) (hro : P.ro ≤ i) (hc' : H[i]? = some cc') (hcs : csz P.objN cc = csz P.objN cc') (hC : CR P C Z am cc h' a) (hF : Fr n0 locs) (hn : n0 ≤ T.heap.size)
    (hs : ∀ target, Steps p.tables e below (T'.setTop (mkF m pc' ls st')) target → Steps p.tables e below (T.setTop (mkF m pc ls st)) target) :
    Behind p l e R s m args below meth c P C Z n0 am cells slots T pc ls st pc' L' S' (H.set i cc) ((H.set i cc).length - H.length) (hsz P (H.set i cc) - hsz P H) := by
  rw [hsz_set P H i cc cc' hc' hcs]
  refine ⟨T', am, ls, st', _, by simpa using X, hL, rfl, hS, by rw [eT]; exact hH.upd W hi hC, Pre.refl _, Fr.snoc X hF ((hH.2.2.1 _ _ hi).2 hro), by rw [eT, W.size]; exact hn, hs⟩
theorem arr_new {am : List Addr} {h h' : Heap} {cA : ClassId} {q : Nat} {n : Int32} {t : ArrayType} (ht : atyOf t = some q) (hn : ¬ n < 0) (A : Arr Z h' h.size (newA cA (newarray.typeOf t) n) (newarray.typeOf t)) : CR P C Z am (newC q n.toNatClampNeg) h' h.size := by
  have key : ∀ {d : Value}, ∀ j, (Array.replicate n.toNatClampNeg d)[j]? = if j < n.toNatClampNeg then some d else none := fun j => by rw [Array.getElem?_replicate]
  cases t <;> simp only [atyOf, Option.some.injEq, reduceCtorEq] at ht <;> subst ht
  · refine ⟨_, A, by simp [newA], fun j x q => ?_⟩
    rw [List.getElem?_replicate] at q
    split at q
    · cases q; simp only [newA]; rw [key, if_pos (by assumption)]; rfl
    · cases q
  · refine ⟨_, A, by simp [newA], fun j x q => ?_⟩
    rw [List.getElem?_replicate] at q
    split at q
    · cases q; simp only [newA]; rw [key, if_pos (by assumption)]; rfl
    · cases q
  · refine ⟨_, A, by simp [newA], fun j x q => ?_⟩
    rw [List.getElem?_replicate] at q
    split at q
    · cases q; simp only [newA]; rw [key, if_pos (by assumption)]; rfl
    · cases q
  · refine ⟨_, A, by simp [newA], fun j x q => ?_⟩
    rw [List.getElem?_replicate] at q
    split at q
    · cases q; simp only [newA]; rw [key, if_pos (by assumption)]; rfl
    · cases q
theorem csz_new {t : ArrayType} {q : Nat} (N n : Nat) (ht : atyOf t = some q) : csz N (newC q n) = n := by
  cases t <;> simp only [atyOf, Option.some.injEq, reduceCtorEq] at ht <;> subst ht <;> simp [newC, csz]
set_option maxHeartbeats 4000000 in
theorem step_sound (G : Good P nm bc cn C Z a0) {k pc np pc' : Nat} {i : Instr} {L L' : ALoc} {S S' : List Value} {H H' : AHeap} (hcode : P.code k pc = some (i, np)) (h : step P k i np pc L S H = some (pc', L', S', H'))
    (X : Stand p l e R s m args below meth c T locs cells slots) (hx : p.tables.exec = Jvm.exec) (hZ : Z.Warmed39 s.vm) (hby : c.code = bc k) (hml : c.maxLocals = P.maxL k) (hown : s.vm.findClass (cn (P.cls k)) = some m.cls) (hini : P.ini k = true → meth.name = "<init>" ∧ cn (P.cls k) = C)
    (hrf : P.rf k ≤ R.frames) (hrl : P.rl k ≤ R.locals) (hcells : cells + (H'.length - H.length) ≤ R.cells) (hslots : slots + (hsz P H' - hsz P H) ≤ R.slots) {am : List Addr} {ls : Array Slot} {st : List Value} (hlz : ls.size = P.maxL k) (hL : LR am L ls) (hS : SR am S st) (hH : HR P C Z n0 am H T.heap) (hF : Fr n0 locs) (hn : n0 ≤ T.heap.size) :
    Behind p l e R s m args below meth c P C Z n0 am cells slots T pc ls st pc' L' S' H' (H'.length - H.length) (hsz P H' - hsz P H) := by
  obtain ⟨G1, G2, G3, G4, G5, G6, G7, G8, G9⟩ := G
  obtain ⟨len, hdec, rfl, hlen⟩ := G1 _ _ _ _ hcode
  have hd : decode c.code pc = .ok (i, len) := by rw [hby]; exact hdec
  cases i
  case iload_n n =>
    simp only [step] at h
    obtain rfl := hlen.resolve_left (by simp [ilen])
    cases hl : loadI L n.val with
    | none => simp [hl] at h
    | some x =>
      simp only [hl, Option.some.injEq, Prod.mk.injEq] at h; obtain ⟨rfl, rfl, rfl, rfl⟩ := h
      exact Behind.plain X hL rfl ⟨_, _, rfl, rfl, hS⟩ hH hF hn fun target hr => XS.iloadN X.here hx rfl (g := mkF m pc ls st) hd (hL.int hl) hr
  case iload n =>
    simp only [step] at h
    obtain rfl := hlen.resolve_left (by simp [ilen])
    cases hl : loadI L n with
    | none => simp [hl] at h
    | some x =>
      simp only [hl, Option.some.injEq, Prod.mk.injEq] at h; obtain ⟨rfl, rfl, rfl, rfl⟩ := h
      exact Behind.plain X hL rfl ⟨_, _, rfl, rfl, hS⟩ hH hF hn fun target hr => XS.iload X.here hx rfl (g := mkF m pc ls st) hd (hL.int hl) hr
  case lload_n n =>
    simp only [step] at h
    obtain rfl := hlen.resolve_left (by simp [ilen])
    cases hl : loadJ L n.val with
    | none => simp [hl] at h
    | some x =>
      simp only [hl, Option.some.injEq, Prod.mk.injEq] at h; obtain ⟨rfl, rfl, rfl, rfl⟩ := h
      exact Behind.plain X hL rfl ⟨_, _, rfl, rfl, hS⟩ hH hF hn fun target hr => XS.lloadN X.here hx rfl (g := mkF m pc ls st) hd (hL.long hl) hr
  case lload n =>
    simp only [step] at h
    obtain rfl := hlen.resolve_left (by simp [ilen])
    cases hl : loadJ L n with
    | none => simp [hl] at h
    | some x =>
      simp only [hl, Option.some.injEq, Prod.mk.injEq] at h; obtain ⟨rfl, rfl, rfl, rfl⟩ := h
      exact Behind.plain X hL rfl ⟨_, _, rfl, rfl, hS⟩ hH hF hn fun target hr => XS.lload X.here hx rfl (g := mkF m pc ls st) hd (hL.long hl) hr
  case aload_n n =>
    simp only [step] at h
    obtain rfl := hlen.resolve_left (by simp [ilen])
    cases hl : loadA L n.val with
    | none => simp [hl] at h
    | some x =>
      simp only [hl, Option.some.injEq, Prod.mk.injEq] at h; obtain ⟨rfl, rfl, rfl, rfl⟩ := h
      obtain ⟨a, ha, hl'⟩ := hL.ref hl
      exact Behind.plain X hL rfl ⟨_, _, rfl, ⟨a, ha, rfl⟩, hS⟩ hH hF hn fun target hr => XS.aloadN X.here hx rfl (g := mkF m pc ls st) hd hl' rfl hr
  case aload n =>
    simp only [step] at h
    obtain rfl := hlen.resolve_left (by simp [ilen])
    cases hl : loadA L n with
    | none => simp [hl] at h
    | some x =>
      simp only [hl, Option.some.injEq, Prod.mk.injEq] at h; obtain ⟨rfl, rfl, rfl, rfl⟩ := h
      obtain ⟨a, ha, hl'⟩ := hL.ref hl
      exact Behind.plain X hL rfl ⟨_, _, rfl, ⟨a, ha, rfl⟩, hS⟩ hH hF hn fun target hr => XS.aload X.here hx rfl (g := mkF m pc ls st) hd hl' rfl hr
  case istore_n n =>
    simp only [step] at h
    obtain rfl := hlen.resolve_left (by simp [ilen])
    split at h
    · rename_i x r
      cases hl : lput L n.val (.int x) with
      | none => simp [hl] at h
      | some L2 =>
        simp only [hl, Option.some.injEq, Prod.mk.injEq] at h; obtain ⟨rfl, rfl, rfl, rfl⟩ := h
        obtain ⟨_, _, rfl, rfl, hr'⟩ := hS
        obtain ⟨l', h1, h2, h3⟩ := hL.put (w := .int x) hl rfl rfl
        exact Behind.plain X h3 h2 hr' hH hF hn fun target hr => XS.istoreN X.here hx rfl (g := mkF m pc ls _) hd rfl h1 hr
    · cases h
  case istore n =>
    simp only [step] at h
    obtain rfl := hlen.resolve_left (by simp [ilen])
    split at h
    · rename_i x r
      cases hl : lput L n (.int x) with
      | none => simp [hl] at h
      | some L2 =>
        simp only [hl, Option.some.injEq, Prod.mk.injEq] at h; obtain ⟨rfl, rfl, rfl, rfl⟩ := h
        obtain ⟨_, _, rfl, rfl, hr'⟩ := hS
        obtain ⟨l', h1, h2, h3⟩ := hL.put (w := .int x) hl rfl rfl
        exact Behind.plain X h3 h2 hr' hH hF hn fun target hr => XS.istore X.here hx rfl (g := mkF m pc ls _) hd rfl h1 hr
    · cases h
  case lstore_n n =>
    simp only [step] at h
    obtain rfl := hlen.resolve_left (by simp [ilen])
    split at h
    · rename_i x r
      cases hl : lputL L n.val x with
      | none => simp [hl] at h
      | some L2 =>
        simp only [hl, Option.some.injEq, Prod.mk.injEq] at h; obtain ⟨rfl, rfl, rfl, rfl⟩ := h
        obtain ⟨_, _, rfl, rfl, hr'⟩ := hS
        obtain ⟨l', h1, h2, h3⟩ := hL.putL hl
        exact Behind.plain X h3 h2 hr' hH hF hn fun target hr => XS.lstoreN X.here hx rfl (g := mkF m pc ls _) hd rfl h1 hr
    · cases h
  case lstore n =>
    simp only [step] at h
    obtain rfl := hlen.resolve_left (by simp [ilen])
    split at h
    · rename_i x r
      cases hl : lputL L n x with
      | none => simp [hl] at h
      | some L2 =>
        simp only [hl, Option.some.injEq, Prod.mk.injEq] at h; obtain ⟨rfl, rfl, rfl, rfl⟩ := h
        obtain ⟨_, _, rfl, rfl, hr'⟩ := hS
        obtain ⟨l', h1, h2, h3⟩ := hL.putL hl
        exact Behind.plain X h3 h2 hr' hH hF hn fun target hr => XS.lstore X.here hx rfl (g := mkF m pc ls _) hd rfl h1 hr
    · cases h
  case astore_n n =>
    simp only [step] at h
    obtain rfl := hlen.resolve_left (by simp [ilen])
    split at h
    · rename_i x r
      cases hl : lput L n.val (.ref x) with
      | none => simp [hl] at h
      | some L2 =>
        simp only [hl, Option.some.injEq, Prod.mk.injEq] at h; obtain ⟨rfl, rfl, rfl, rfl⟩ := h
        obtain ⟨_, _, rfl, ⟨a, ha, rfl⟩, hr'⟩ := hS
        obtain ⟨l', h1, h2, h3⟩ := hL.put (w := .ref a) hl ⟨a, ha, rfl⟩ rfl
        exact Behind.plain X h3 h2 hr' hH hF hn fun target hr => XS.astoreN X.here hx rfl (g := mkF m pc ls _) hd rfl rfl h1 hr
    · cases h
  case astore n =>
    simp only [step] at h
    obtain rfl := hlen.resolve_left (by simp [ilen])
    split at h
    · rename_i x r
      cases hl : lput L n (.ref x) with
      | none => simp [hl] at h
      | some L2 =>
        simp only [hl, Option.some.injEq, Prod.mk.injEq] at h; obtain ⟨rfl, rfl, rfl, rfl⟩ := h
        obtain ⟨_, _, rfl, ⟨a, ha, rfl⟩, hr'⟩ := hS
        obtain ⟨l', h1, h2, h3⟩ := hL.put (w := .ref a) hl ⟨a, ha, rfl⟩ rfl
        exact Behind.plain X h3 h2 hr' hH hF hn fun target hr => XS.astore X.here hx rfl (g := mkF m pc ls _) hd rfl rfl h1 hr
    · cases h
  case iinc n cst =>
    simp only [step] at h
    obtain rfl := hlen.resolve_left (by simp [ilen])
    cases hl : loadI L n with
    | none => simp [hl] at h
    | some x =>
      cases hp : lput L n (.int (x + Int32.ofInt cst)) with
      | none => simp [hl, hp] at h
      | some L2 =>
        simp only [hl, hp, Option.some.injEq, Prod.mk.injEq] at h; obtain ⟨rfl, rfl, rfl, rfl⟩ := h
        obtain ⟨l', h1, h2, h3⟩ := hL.put (w := .int (x + Int32.ofInt cst)) hp rfl rfl
        exact Behind.plain X h3 h2 hS hH hF hn fun target hr => XS.iinc X.here hx rfl (g := mkF m pc ls st) hd (hL.int hl) h1 hr
  case iconst q =>
    simp only [step] at h
    obtain rfl := hlen.resolve_left (by simp [ilen])
    simp only [Option.some.injEq, Prod.mk.injEq] at h; obtain ⟨rfl, rfl, rfl, rfl⟩ := h
    exact Behind.plain X hL rfl ⟨_, _, rfl, rfl, hS⟩ hH hF hn fun target hr => XS.iconst X.here hx rfl (g := mkF m pc ls st) hd hr
  case bipush q =>
    simp only [step] at h
    obtain rfl := hlen.resolve_left (by simp [ilen])
    simp only [Option.some.injEq, Prod.mk.injEq] at h; obtain ⟨rfl, rfl, rfl, rfl⟩ := h
    exact Behind.plain X hL rfl ⟨_, _, rfl, rfl, hS⟩ hH hF hn fun target hr => XS.bipush X.here hx rfl (g := mkF m pc ls st) hd hr
  case sipush q =>
    simp only [step] at h
    obtain rfl := hlen.resolve_left (by simp [ilen])
    simp only [Option.some.injEq, Prod.mk.injEq] at h; obtain ⟨rfl, rfl, rfl, rfl⟩ := h
    exact Behind.plain X hL rfl ⟨_, _, rfl, rfl, hS⟩ hH hF hn fun target hr => XS.sipush X.here hx rfl (g := mkF m pc ls st) hd hr
  case lconst q =>
    simp only [step] at h
    obtain rfl := hlen.resolve_left (by simp [ilen])
    simp only [Option.some.injEq, Prod.mk.injEq] at h; obtain ⟨rfl, rfl, rfl, rfl⟩ := h
    exact Behind.plain X hL rfl ⟨_, _, rfl, rfl, hS⟩ hH hF hn fun target hr => XS.lconst X.here hx rfl (g := mkF m pc ls st) hd hr
  case ldc j =>
    simp only [step] at h
    obtain rfl := hlen.resolve_left (by simp [ilen])
    split at h
    · rename_i x hk
      simp only [Option.some.injEq, Prod.mk.injEq] at h; obtain ⟨rfl, rfl, rfl, rfl⟩ := h
      have w := G5 _ _ _ hk
      exact Behind.plain X hL rfl ⟨_, _, rfl, rfl, hS⟩ hH hF hn fun target hr => X.ldcInt hx hown (mvT hZ w) (g := mkF m pc ls st) rfl hd _ hr
    · cases h
  case ldc2_w j =>
    simp only [step] at h
    obtain rfl := hlen.resolve_left (by simp [ilen])
    split at h
    · rename_i x hk
      simp only [Option.some.injEq, Prod.mk.injEq] at h; obtain ⟨rfl, rfl, rfl, rfl⟩ := h
      have w := G5 _ _ _ hk
      exact Behind.plain X hL rfl ⟨_, _, rfl, rfl, hS⟩ hH hF hn fun target hr => X.ldc2Long hx hown (mvT hZ w) (g := mkF m pc ls st) rfl hd _ hr
    · cases h
  case idiv =>
    simp only [step] at h
    obtain rfl := hlen.resolve_left (by simp [ilen])
    split at h
    · rename_i y x r
      by_cases hy : y = 0
      · simp [hy] at h
      · simp only [hy, decide_false, cond_false, Option.some.injEq, Prod.mk.injEq] at h; obtain ⟨rfl, rfl, rfl, rfl⟩ := h
        obtain ⟨_, _, rfl, rfl, _, _, rfl, rfl, hr'⟩ := hS
        exact Behind.plain X hL rfl ⟨_, _, rfl, rfl, hr'⟩ hH hF hn fun target hr => XS.idiv X.here hx rfl (g := mkF m pc ls _) hd rfl hy hr
    · cases h
  case irem =>
    simp only [step] at h
    obtain rfl := hlen.resolve_left (by simp [ilen])
    split at h
    · rename_i y x r
      by_cases hy : y = 0
      · simp [hy] at h
      · simp only [hy, decide_false, cond_false, Option.some.injEq, Prod.mk.injEq] at h; obtain ⟨rfl, rfl, rfl, rfl⟩ := h
        obtain ⟨_, _, rfl, rfl, _, _, rfl, rfl, hr'⟩ := hS
        exact Behind.plain X hL rfl ⟨_, _, rfl, rfl, hr'⟩ hH hF hn fun target hr => iremM X hx rfl (g := mkF m pc ls _) hd rfl hy hr
    · cases h
  case lshl =>
    simp only [step] at h
    obtain rfl := hlen.resolve_left (by simp [ilen])
    split at h
    · rename_i y x r
      simp only [Option.some.injEq, Prod.mk.injEq] at h; obtain ⟨rfl, rfl, rfl, rfl⟩ := h
      obtain ⟨_, _, rfl, rfl, _, _, rfl, rfl, hr'⟩ := hS
      exact Behind.plain X hL rfl ⟨_, _, rfl, rfl, hr'⟩ hH hF hn fun target hr => XS.lshl X.here hx rfl (g := mkF m pc ls _) hd rfl hr
    · cases h
  case lushr =>
    simp only [step] at h
    obtain rfl := hlen.resolve_left (by simp [ilen])
    split at h
    · rename_i y x r
      simp only [Option.some.injEq, Prod.mk.injEq] at h; obtain ⟨rfl, rfl, rfl, rfl⟩ := h
      obtain ⟨_, _, rfl, rfl, _, _, rfl, rfl, hr'⟩ := hS
      exact Behind.plain X hL rfl ⟨_, _, rfl, rfl, hr'⟩ hH hF hn fun target hr => XS.lushr X.here hx rfl (g := mkF m pc ls _) hd rfl hr
    · cases h
  case lcmp =>
    simp only [step] at h
    obtain rfl := hlen.resolve_left (by simp [ilen])
    split at h
    · rename_i y x r
      simp only [Option.some.injEq, Prod.mk.injEq] at h; obtain ⟨rfl, rfl, rfl, rfl⟩ := h
      obtain ⟨_, _, rfl, rfl, _, _, rfl, rfl, hr'⟩ := hS
      exact Behind.plain X hL rfl ⟨_, _, rfl, rfl, hr'⟩ hH hF hn fun target hr => XS.lcmp X.here hx rfl (g := mkF m pc ls _) hd rfl hr
    · cases h
  case lneg =>
    simp only [step] at h
    obtain rfl := hlen.resolve_left (by simp [ilen])
    split at h
    · rename_i x r
      simp only [Option.some.injEq, Prod.mk.injEq] at h; obtain ⟨rfl, rfl, rfl, rfl⟩ := h
      obtain ⟨_, _, rfl, rfl, hr'⟩ := hS
      exact Behind.plain X hL rfl ⟨_, _, rfl, rfl, hr'⟩ hH hF hn fun target hr => XS.lneg X.here hx rfl (g := mkF m pc ls _) hd rfl hr
    · cases h
  case i2l =>
    simp only [step] at h
    obtain rfl := hlen.resolve_left (by simp [ilen])
    split at h
    · rename_i x r
      simp only [Option.some.injEq, Prod.mk.injEq] at h; obtain ⟨rfl, rfl, rfl, rfl⟩ := h
      obtain ⟨_, _, rfl, rfl, hr'⟩ := hS
      exact Behind.plain X hL rfl ⟨_, _, rfl, rfl, hr'⟩ hH hF hn fun target hr => XS.i2l X.here hx rfl (g := mkF m pc ls _) hd rfl hr
    · cases h
  case l2i =>
    simp only [step] at h
    obtain rfl := hlen.resolve_left (by simp [ilen])
    split at h
    · rename_i x r
      simp only [Option.some.injEq, Prod.mk.injEq] at h; obtain ⟨rfl, rfl, rfl, rfl⟩ := h
      obtain ⟨_, _, rfl, rfl, hr'⟩ := hS
      exact Behind.plain X hL rfl ⟨_, _, rfl, rfl, hr'⟩ hH hF hn fun target hr => XS.l2i X.here hx rfl (g := mkF m pc ls _) hd rfl hr
    · cases h
  case i2b =>
    simp only [step] at h
    obtain rfl := hlen.resolve_left (by simp [ilen])
    split at h
    · rename_i x r
      simp only [Option.some.injEq, Prod.mk.injEq] at h; obtain ⟨rfl, rfl, rfl, rfl⟩ := h
      obtain ⟨_, _, rfl, rfl, hr'⟩ := hS
      exact Behind.plain X hL rfl ⟨_, _, rfl, rfl, hr'⟩ hH hF hn fun target hr => XS.i2b X.here hx rfl (g := mkF m pc ls _) hd rfl hr
    · cases h
  case dup =>
    simp only [step] at h
    obtain rfl := hlen.resolve_left (by simp [ilen])
    split at h
    · rename_i x r
      simp only [Option.some.injEq, Prod.mk.injEq] at h; obtain ⟨rfl, rfl, rfl, rfl⟩ := h
      obtain ⟨_, _, rfl, ⟨a, ha, rfl⟩, hr'⟩ := hS
      exact Behind.plain X hL rfl ⟨_, _, rfl, ⟨a, ha, rfl⟩, _, _, rfl, ⟨a, ha, rfl⟩, hr'⟩ hH hF hn fun target hr => XS.dup X.here hx rfl (g := mkF m pc ls _) hd rfl rfl hr
    · rename_i x r
      simp only [Option.some.injEq, Prod.mk.injEq] at h; obtain ⟨rfl, rfl, rfl, rfl⟩ := h
      obtain ⟨_, _, rfl, rfl, hr'⟩ := hS
      exact Behind.plain X hL rfl ⟨_, _, rfl, rfl, _, _, rfl, rfl, hr'⟩ hH hF hn fun target hr => XS.dup X.here hx rfl (g := mkF m pc ls _) hd rfl rfl hr
    · cases h
  case dup2 =>
    simp only [step] at h
    obtain rfl := hlen.resolve_left (by simp [ilen])
    split at h
    · rename_i x y r
      simp only [Option.some.injEq, Prod.mk.injEq] at h; obtain ⟨rfl, rfl, rfl, rfl⟩ := h
      obtain ⟨_, _, rfl, rfl, _, _, rfl, ⟨a, ha, rfl⟩, hr'⟩ := hS
      exact Behind.plain X hL rfl ⟨_, _, rfl, rfl, _, _, rfl, ⟨a, ha, rfl⟩, _, _, rfl, rfl, _, _, rfl, ⟨a, ha, rfl⟩, hr'⟩ hH hF hn fun target hr => XT.dup2 X.here hx rfl (g := mkF m pc ls _) hd rfl rfl rfl hr
    · cases h
  case pop =>
    simp only [step] at h
    obtain rfl := hlen.resolve_left (by simp [ilen])
    split at h
    · rename_i x r
      simp only [Option.some.injEq, Prod.mk.injEq] at h; obtain ⟨rfl, rfl, rfl, rfl⟩ := h
      obtain ⟨_, _, rfl, rfl, hr'⟩ := hS
      exact Behind.plain X hL rfl hr' hH hF hn fun target hr => XS.pop X.here hx rfl (g := mkF m pc ls _) hd rfl rfl hr
    · rename_i x r
      simp only [Option.some.injEq, Prod.mk.injEq] at h; obtain ⟨rfl, rfl, rfl, rfl⟩ := h
      obtain ⟨_, _, rfl, ⟨a, ha, rfl⟩, hr'⟩ := hS
      exact Behind.plain X hL rfl hr' hH hF hn fun target hr => XS.pop X.here hx rfl (g := mkF m pc ls _) hd rfl rfl hr
    · cases h
  case goto o =>
    simp only [step] at h
    obtain rfl := hlen.resolve_left (by simp [ilen])
    cases ht : tgt pc o with
    | none => simp [ht] at h
    | some t =>
      simp only [ht, Option.some.injEq, Prod.mk.injEq] at h; obtain ⟨rfl, rfl, rfl, rfl⟩ := h
      exact Behind.plain X hL rfl hS hH hF hn fun target hr => XS.goto X.here hx rfl (g := mkF m pc ls st) (pc0 := pc) rfl hd (tgt_spec ht).1 (tgt_spec ht).2 hr
  case ifCond cd o =>
    simp only [step] at h
    obtain rfl := hlen.resolve_left (by simp [ilen])
    split at h
    · rename_i x r
      obtain ⟨_, _, rfl, rfl, hr'⟩ := hS
      cases hc : if_icmp.holds cd x 0
      · simp only [hc, cond_false, Option.some.injEq, Prod.mk.injEq] at h; obtain ⟨rfl, rfl, rfl, rfl⟩ := h
        exact Behind.plain X hL rfl hr' hH hF hn fun target hr => XS.ifNo X.here hx rfl (g := mkF m pc ls _) hd rfl ((if0 _ _).trans hc) hr
      · cases ht : tgt pc o with
        | none => simp [hc, ht] at h
        | some t =>
          simp only [hc, ht, cond_true, Option.some.injEq, Prod.mk.injEq] at h; obtain ⟨rfl, rfl, rfl, rfl⟩ := h
          exact Behind.plain X hL rfl hr' hH hF hn fun target hr => XS.ifYes X.here hx rfl (g := mkF m pc ls _) (pc0 := pc) rfl hd rfl ((if0 _ _).trans hc) (tgt_spec ht).1 (tgt_spec ht).2 hr
    · cases h
  case if_icmp cd o =>
    simp only [step] at h
    obtain rfl := hlen.resolve_left (by simp [ilen])
    split at h
    · rename_i y x r
      obtain ⟨_, _, rfl, rfl, _, _, rfl, rfl, hr'⟩ := hS
      cases hc : if_icmp.holds cd x y
      · simp only [hc, cond_false, Option.some.injEq, Prod.mk.injEq] at h; obtain ⟨rfl, rfl, rfl, rfl⟩ := h
        exact Behind.plain X hL rfl hr' hH hF hn fun target hr => XS.icmpNo X.here hx rfl (g := mkF m pc ls _) hd rfl hc hr
      · cases ht : tgt pc o with
        | none => simp [hc, ht] at h
        | some t =>
          simp only [hc, ht, cond_true, Option.some.injEq, Prod.mk.injEq] at h; obtain ⟨rfl, rfl, rfl, rfl⟩ := h
          exact Behind.plain X hL rfl hr' hH hF hn fun target hr => XS.icmpYes X.here hx rfl (g := mkF m pc ls _) (pc0 := pc) rfl hd rfl hc (tgt_spec ht).1 (tgt_spec ht).2 hr
    · cases h
  case tableswitch d lo hi offs =>
    simp only [step] at h
    split at h
    · rename_i x r
      obtain ⟨_, _, rfl, rfl, hr'⟩ := hS
      by_cases ho : x.toInt < lo ∨ x.toInt > hi
      · have ho' : (decide (x.toInt < lo) || decide (x.toInt > hi)) = true := by simpa using ho
        cases ht : tgt pc d with
        | none => simp [ho', ht] at h
        | some t =>
          simp only [ho', ht, cond_true, Option.some.injEq, Prod.mk.injEq] at h; obtain ⟨rfl, rfl, rfl, rfl⟩ := h
          exact Behind.plain X hL rfl hr' hH hF hn fun target hr => XS.tswOut X.here hx rfl (g := mkF m pc ls _) (pc0 := pc) rfl hd rfl ho (tgt_spec ht).1 (tgt_spec ht).2 hr
      · have ho' : (decide (x.toInt < lo) || decide (x.toInt > hi)) = false := by simpa using ho
        cases hq : offs.toList[(x.toInt - lo).toNat]? with
        | none => simp [ho', hq] at h
        | some o =>
          cases ht : tgt pc o with
          | none => simp [ho', hq, ht] at h
          | some t =>
            simp only [ho', hq, ht, cond_false, Option.some.injEq, Prod.mk.injEq] at h; obtain ⟨rfl, rfl, rfl, rfl⟩ := h
            exact Behind.plain X hL rfl hr' hH hF hn fun target hr => XS.tswIn X.here hx rfl (g := mkF m pc ls _) (pc0 := pc) rfl hd rfl ho (by rw [← Array.getElem?_toList]; exact hq) (tgt_spec ht).1 (tgt_spec ht).2 hr
    · cases h
  case getfield j =>
    simp only [step] at h
    obtain rfl := hlen.resolve_left (by simp [ilen])
    split at h
    · rename_i a r
      obtain ⟨_, _, rfl, ⟨b, hb, rfl⟩, hr'⟩ := hS
      cases hf : P.fld (P.cls k) j with
      | none => simp [hf] at h
      | some f =>
        cases hg : getC H a f with
        | none => simp [hf, hg] at h
        | some v =>
          simp only [hf, hg, Option.some.injEq, Prod.mk.injEq] at h; obtain ⟨rfl, rfl, rfl, rfl⟩ := h
          obtain ⟨n, d, t, fin, g1, g2⟩ := G2 _ _ _ hf
          unfold getC at hg
          split at hg
          · rename_i fs hfs
            obtain ⟨b', e1, e2, e3, e4⟩ := hH.2.2.2 _ _ hfs
            cases hb.symm.trans e1
            obtain ⟨w, e5, e6⟩ := e4 _ _ _ _ _ _ hg g1
            obtain ⟨T2, X2, e7, s2⟩ := getF X hx hZ hown (host := "") (Or.inl g2) Via.refl rfl e6 (g := mkF m pc ls _) rfl rfl hd
            exact Behind.plain' X2 e7 hL rfl ⟨w, _, rfl, e5, hr'⟩ hH hF hn s2
          · cases hg
    · cases h
  case putfield j =>
    simp only [step] at h
    obtain rfl := hlen.resolve_left (by simp [ilen])
    split at h
    · rename_i v a r
      obtain ⟨w0, _, rfl, hv0, _, _, rfl, ⟨b, hb, rfl⟩, hr'⟩ := hS
      cases hf : P.fld (P.cls k) j with
      | none => simp [hf] at h
      | some f =>
        obtain ⟨n, d, t, fin, g1, g2⟩ := G2 _ _ _ hf
        simp only [hf, g1] at h
        cases hq : (!fin || P.ini k) && Nat.ble P.ro a
        · simp [hq] at h
        · simp only [hq, cond_true] at h
          cases hv : conv t v with
          | none => simp [hv] at h
          | some v' =>
            simp only [hv] at h
            split at h
            · rename_i fs hfs
              cases hz : Nat.ble (f + 1) fs.length
              · simp [hz] at h
              · simp only [hz, cond_true, Option.some.injEq, Prod.mk.injEq] at h; obtain ⟨rfl, rfl, rfl, rfl⟩ := h
                obtain ⟨b', e1, e2, e3, e4⟩ := hH.2.2.2 _ _ hfs
                cases hb.symm.trans e1
                simp only [Bool.and_eq_true, Bool.or_eq_true, Bool.not_eq_true'] at hq
                have hro : P.ro ≤ a := Nat.le_of_ble_eq_true hq.2
                have hfl : f < fs.length := Nat.le_of_ble_eq_true hz
                obtain ⟨l1, ty, l2, l3, l4⟩ := G3 _ _ _ _ _ g1
                obtain ⟨w, hw, hnw, hfw⟩ : ∃ w, VR am v' w ∧ narrow ty w0 = w ∧ fits ty w = true := by
                  unfold conv at hv
                  split at hv
                  · cases hv; cases hv0; cases ty <;> simp only [tyOk, Bool.false_eq_true] at l3; exact ⟨_, rfl, rfl, rfl⟩
                  · cases hv; cases hv0; cases ty <;> simp only [tyOk, Bool.false_eq_true] at l3; exact ⟨_, rfl, rfl, fits_nar_bool _⟩
                  · cases hv; cases hv0; cases ty <;> simp only [tyOk, Bool.false_eq_true] at l3; exact ⟨_, rfl, rfl, rfl⟩
                  · cases hv; obtain ⟨z, hz1, rfl⟩ := hv0; cases ty <;> simp only [tyOk, Bool.false_eq_true] at l3; exact ⟨_, ⟨z, hz1, rfl⟩, rfl, rfl⟩
                  · cases hv
                obtain ⟨old, o1, o2⟩ := e4 f _ _ _ _ _ (List.getElem?_eq_getElem hfl) g1
                have hfin : (Cond.lays C C n d).before a0 Z = true ∨ ((Cond.laysFinal C C n d).before a0 Z = true ∧ cn (P.cls k) = C ∧ meth.name = "<init>") := by
                  cases fin
                  · exact Or.inl l1
                  · obtain ⟨q1, q2⟩ := hini (by simpa using hq.1); exact Or.inr ⟨l1, q2, q1⟩
                obtain ⟨T2, h2, X2, e7, W2, s2⟩ := putFN X hx hZ hown g2 Via.refl rfl o2 e2 hfin G6 l2 hnw hfw (g := mkF m pc ls _) rfl rfl hd
                refine Behind.write (T' := T2) X2 e7 W2 hL hr' hH hb hro hfs rfl ?_ hF hn s2
                refine ⟨e2.wr W2, by rw [List.length_set]; exact e3, fun j' u n' d' t' f' q1 q2 => ?_⟩
                rw [List.getElem?_set] at q1
                by_cases ej : f = j'
                · subst ej
                  rw [if_pos rfl, if_pos hfl] at q1
                  cases q1
                  rw [g1] at q2; cases q2
                  exact ⟨w, hw, o2.same W2⟩
                · rw [if_neg ej] at q1
                  obtain ⟨w', y1, y2⟩ := e4 _ _ _ _ _ _ q1 q2
                  obtain ⟨l1', ty', l2', -, -⟩ := G3 _ _ _ _ _ q2
                  have hl1 : Laid Z a0 C C n d := by cases fin; exact Or.inl l1; exact Or.inr l1
                  have hl2 : Laid Z a0 C C n' d' := by cases f'; exact Or.inl l1'; exact Or.inr l1'
                  exact ⟨w', y1, y2.other W2 (Or.inr (slot_ne hl2 hl1 (G4 _ _ _ _ _ _ _ _ _ _ q2 g1 (Ne.symm ej)) l2' l2))⟩
            · cases h
    · cases h
  case iaload =>
    simp only [step] at h
    obtain rfl := hlen.resolve_left (by simp [ilen])
    split at h
    · rename_i j a r
      obtain ⟨_, _, rfl, rfl, _, _, rfl, ⟨b, hb, rfl⟩, hr'⟩ := hS
      split at h
      · rename_i xs hxs
        cases hj : inb xs.length j
        · simp [hj] at h
        · simp only [hj, cond_true, Option.some.injEq, Prod.mk.injEq] at h; obtain ⟨rfl, rfl, rfl, rfl⟩ := h
          obtain ⟨b', e1, cl, A1, A2, A3⟩ := hH.2.2.2 _ _ hxs
          cases hb.symm.trans e1
          have hin := inb_spec hj
          rw [← A2] at hin
          exact Behind.plain X hL rfl ⟨_, _, rfl, rfl, hr'⟩ hH hF hn fun target hr => X.iaload hx A1.1 (State.isArrayOf_alike hZ.alike A1.2.1) A1.2.2 hin (A3 _ _ (rd_at hj)) (g := mkF m pc ls _) rfl rfl hd _ hr
      · rename_i xs hxs
        cases hj : inb xs.length j
        · simp [hj] at h
        · simp only [hj, cond_true, Option.some.injEq, Prod.mk.injEq] at h; obtain ⟨rfl, rfl, rfl, rfl⟩ := h
          obtain ⟨b', e1, cl, A1, A2, A3⟩ := hH.2.2.2 _ _ hxs
          cases hb.symm.trans e1
          have hin := inb_spec hj
          rw [← A2] at hin
          exact Behind.plain X hL rfl ⟨_, _, rfl, rfl, hr'⟩ hH hF hn fun target hr => X.iaload hx A1.1 (State.isArrayOf_alike hZ.alike A1.2.1) A1.2.2 hin (A3 _ _ (rd_at hj)) (g := mkF m pc ls _) rfl rfl hd _ hr
      · cases h
    · cases h
  case baload =>
    simp only [step] at h
    obtain rfl := hlen.resolve_left (by simp [ilen])
    split at h
    · rename_i j a r
      obtain ⟨_, _, rfl, rfl, _, _, rfl, ⟨b, hb, rfl⟩, hr'⟩ := hS
      split at h
      · rename_i xs hxs
        cases hj : inb xs.length j
        · simp [hj] at h
        · simp only [hj, cond_true, Option.some.injEq, Prod.mk.injEq] at h; obtain ⟨rfl, rfl, rfl, rfl⟩ := h
          obtain ⟨b', e1, cl, A1, A2, A3⟩ := hH.2.2.2 _ _ hxs
          cases hb.symm.trans e1
          have hin := inb_spec hj
          rw [← A2] at hin
          exact Behind.plain X hL rfl ⟨_, _, rfl, rfl, hr'⟩ hH hF hn fun target hr => X.baloadBooleans hx A1.1 (State.isArrayOf_alike hZ.alike A1.2.1) A1.2.2 hin (A3 _ _ (rd_at hj)) (g := mkF m pc ls _) rfl rfl hd _ hr
      · rename_i xs hxs
        cases hj : inb xs.length j
        · simp [hj] at h
        · simp only [hj, cond_true, Option.some.injEq, Prod.mk.injEq] at h; obtain ⟨rfl, rfl, rfl, rfl⟩ := h
          obtain ⟨b', e1, cl, A1, A2, A3⟩ := hH.2.2.2 _ _ hxs
          cases hb.symm.trans e1
          have hin := inb_spec hj
          rw [← A2] at hin
          exact Behind.plain X hL rfl ⟨_, _, rfl, rfl, hr'⟩ hH hF hn fun target hr => X.baloadBytes hx A1.1 (State.isArrayOf_alike hZ.alike A1.2.1) A1.2.2 hin (A3 _ _ (rd_at hj)) (g := mkF m pc ls _) rfl rfl hd _ hr
      · cases h
    · cases h
  case laload =>
    simp only [step] at h
    obtain rfl := hlen.resolve_left (by simp [ilen])
    split at h
    · rename_i j a r
      obtain ⟨_, _, rfl, rfl, _, _, rfl, ⟨b, hb, rfl⟩, hr'⟩ := hS
      split at h
      · rename_i xs hxs
        cases hj : inb xs.length j
        · simp [hj] at h
        · simp only [hj, cond_true, Option.some.injEq, Prod.mk.injEq] at h; obtain ⟨rfl, rfl, rfl, rfl⟩ := h
          obtain ⟨b', e1, cl, A1, A2, A3⟩ := hH.2.2.2 _ _ hxs
          cases hb.symm.trans e1
          have hin := inb_spec hj
          rw [← A2] at hin
          exact Behind.plain X hL rfl ⟨_, _, rfl, rfl, hr'⟩ hH hF hn fun target hr => X.laload hx A1.1 (State.isArrayOf_alike hZ.alike A1.2.1) A1.2.2 hin (A3 _ _ (rdL_at hj)) (g := mkF m pc ls _) rfl rfl hd _ hr
      · cases h
    · cases h
  case iastore =>
    simp only [step] at h
    obtain rfl := hlen.resolve_left (by simp [ilen])
    split at h
    · rename_i x j a r
      obtain ⟨_, _, rfl, rfl, _, _, rfl, rfl, _, _, rfl, ⟨b, hb, rfl⟩, hr'⟩ := hS
      cases hq : Nat.ble P.ro a
      · simp [hq] at h
      · simp only [hq, cond_true] at h
        have hro : P.ro ≤ a := Nat.le_of_ble_eq_true hq
        split at h
        · rename_i xs hxs
          cases hj : inb xs.length j
          · simp [hj] at h
          · simp only [hj, cond_true, Option.some.injEq, Prod.mk.injEq] at h; obtain ⟨rfl, rfl, rfl, rfl⟩ := h
            obtain ⟨b', e1, hcr⟩ := hH.2.2.2 _ _ hxs
            cases hb.symm.trans e1
            have hcr0 := hcr
            obtain ⟨cl, A1, A2, A3⟩ := hcr0
            have hin := inb_spec hj
            rw [← A2] at hin
            obtain ⟨T2, h2, X2, e7, W2, s2⟩ := stI X hx hZ rfl A1 hin (g := mkF m pc ls _) rfl rfl hd
            exact Behind.write (T' := T2) X2 e7 W2 hL hr' hH hb hro hxs (by simp [csz, wr, wrL]) (CR.wrI W2 hcr) hF hn s2
        · cases h
    · cases h
  case bastore =>
    simp only [step] at h
    obtain rfl := hlen.resolve_left (by simp [ilen])
    split at h
    · rename_i x j a r
      obtain ⟨_, _, rfl, rfl, _, _, rfl, rfl, _, _, rfl, ⟨b, hb, rfl⟩, hr'⟩ := hS
      cases hq : Nat.ble P.ro a
      · simp [hq] at h
      · simp only [hq, cond_true] at h
        have hro : P.ro ≤ a := Nat.le_of_ble_eq_true hq
        split at h
        · rename_i xs hxs
          cases hj : inb xs.length j
          · simp [hj] at h
          · simp only [hj, cond_true, Option.some.injEq, Prod.mk.injEq] at h; obtain ⟨rfl, rfl, rfl, rfl⟩ := h
            obtain ⟨b', e1, hcr⟩ := hH.2.2.2 _ _ hxs
            cases hb.symm.trans e1
            have hcr0 := hcr
            obtain ⟨cl, A1, A2, A3⟩ := hcr0
            have hin := inb_spec hj
            rw [← A2] at hin
            obtain ⟨T2, h2, X2, e7, W2, s2⟩ := stZ X hx hZ rfl A1 hin (g := mkF m pc ls _) rfl rfl hd
            exact Behind.write (T' := T2) X2 e7 W2 hL hr' hH hb hro hxs (by simp [csz, wr, wrL]) (CR.wrI W2 hcr) hF hn s2
        · rename_i xs hxs
          cases hj : inb xs.length j
          · simp [hj] at h
          · simp only [hj, cond_true, Option.some.injEq, Prod.mk.injEq] at h; obtain ⟨rfl, rfl, rfl, rfl⟩ := h
            obtain ⟨b', e1, hcr⟩ := hH.2.2.2 _ _ hxs
            cases hb.symm.trans e1
            have hcr0 := hcr
            obtain ⟨cl, A1, A2, A3⟩ := hcr0
            have hin := inb_spec hj
            rw [← A2] at hin
            obtain ⟨T2, h2, X2, e7, W2, s2⟩ := stB X hx hZ rfl A1 hin (g := mkF m pc ls _) rfl rfl hd
            exact Behind.write (T' := T2) X2 e7 W2 hL hr' hH hb hro hxs (by simp [csz, wr, wrL]) (CR.wrI W2 hcr) hF hn s2
        · cases h
    · cases h
  case lastore =>
    simp only [step] at h
    obtain rfl := hlen.resolve_left (by simp [ilen])
    split at h
    · rename_i x j a r
      obtain ⟨_, _, rfl, rfl, _, _, rfl, rfl, _, _, rfl, ⟨b, hb, rfl⟩, hr'⟩ := hS
      cases hq : Nat.ble P.ro a
      · simp [hq] at h
      · simp only [hq, cond_true] at h
        have hro : P.ro ≤ a := Nat.le_of_ble_eq_true hq
        split at h
        · rename_i xs hxs
          cases hj : inb xs.length j
          · simp [hj] at h
          · simp only [hj, cond_true, Option.some.injEq, Prod.mk.injEq] at h; obtain ⟨rfl, rfl, rfl, rfl⟩ := h
            obtain ⟨b', e1, hcr⟩ := hH.2.2.2 _ _ hxs
            cases hb.symm.trans e1
            have hcr0 := hcr
            obtain ⟨cl, A1, A2, A3⟩ := hcr0
            have hin := inb_spec hj
            rw [← A2] at hin
            obtain ⟨T2, h2, X2, e7, W2, s2⟩ := stJ X hx hZ rfl A1 hin (g := mkF m pc ls _) rfl rfl hd
            exact Behind.write (T' := T2) X2 e7 W2 hL hr' hH hb hro hxs (by simp [csz, wr, wrL]) (CR.wrJ W2 hcr) hF hn s2
        · cases h
    · cases h
  case arraylength =>
    simp only [step] at h
    obtain rfl := hlen.resolve_left (by simp [ilen])
    split at h
    · rename_i a r
      obtain ⟨_, _, rfl, ⟨b, hb, rfl⟩, hr'⟩ := hS
      split at h
      · rename_i t xs hxs
        simp only [Option.some.injEq, Prod.mk.injEq] at h; obtain ⟨rfl, rfl, rfl, rfl⟩ := h
        obtain ⟨b', e1, cl, A1, A2, A3⟩ := hH.2.2.2 _ _ hxs
        cases hb.symm.trans e1
        exact Behind.plain X hL rfl ⟨_, _, rfl, rfl, hr'⟩ hH hF hn fun target hr => X.arraylength hx A1.1 (State.isArrayOf_alike hZ.alike A1.2.1) (g := mkF m pc ls _) rfl rfl hd _ (by rw [A2]; exact hr)
      · rename_i xs hxs
        simp only [Option.some.injEq, Prod.mk.injEq] at h; obtain ⟨rfl, rfl, rfl, rfl⟩ := h
        obtain ⟨b', e1, cl, A1, A2, A3⟩ := hH.2.2.2 _ _ hxs
        cases hb.symm.trans e1
        exact Behind.plain X hL rfl ⟨_, _, rfl, rfl, hr'⟩ hH hF hn fun target hr => X.arraylength hx A1.1 (State.isArrayOf_alike hZ.alike A1.2.1) (g := mkF m pc ls _) rfl rfl hd _ (by rw [A2]; exact hr)
      · cases h
    · cases h
  case newarray t =>
    simp only [step] at h
    obtain rfl := hlen.resolve_left (by simp [ilen])
    split at h
    · rename_i n r
      obtain ⟨_, _, rfl, rfl, hr'⟩ := hS
      cases ht : atyOf t with
      | none => simp [ht] at h
      | some q =>
        simp only [ht] at h
        cases hq : (!(decide (n < 0)) && Nat.ble n.toNatClampNeg 60000 && Nat.ble (H.length + 1) P.capC && Nat.ble (hsz P H + n.toNatClampNeg) P.capS)
        · simp [hq] at h
        · simp only [hq, cond_true, Option.some.injEq, Prod.mk.injEq] at h; obtain ⟨rfl, rfl, rfl, rfl⟩ := h
          simp only [Bool.and_eq_true, Bool.not_eq_true', decide_eq_false_iff_not] at hq
          have hcap : n.toNatClampNeg ≤ 60000 := Nat.le_of_ble_eq_true hq.1.1.2
          have hq1 := hq.1.1.1
          have d1 : (H ++ [newC q n.toNatClampNeg]).length - H.length = 1 := by simp
          have d2 : hsz P (H ++ [newC q n.toNatClampNeg]) - hsz P H = n.toNatClampNeg := by rw [hsz_app, csz_new _ _ ht]; omega
          rw [d1] at hcells ⊢; rw [d2] at hslots ⊢
          obtain ⟨T2, h2, cA, X2, e7, E2, A2, s2⟩ := newP X hx hZ (G8 _ _ _ _ hcode) rfl (g := mkF m pc ls _) rfl hd rfl hq1 (cap := n.toNatClampNeg) (Nat.le_refl _) (by omega) hcells hslots
          have hlt : T.heap.size < h2.size := A2.lt
          have hm' := hH.1
          refine ⟨T2, am ++ [T.heap.size], ls, _, locs, X2, hL.mono (Pre.app _ _), rfl, ⟨_, _, rfl, ⟨T.heap.size, by rw [← hm']; simp, rfl⟩, hr'.mono (Pre.app _ _)⟩, by rw [e7]; exact hH.push E2 hlt hn (arr_new ht hq1 A2), Pre.app _ _, hF, by rw [e7]; omega, s2⟩
    · cases h
  case new j =>
    simp only [step] at h
    obtain rfl := hlen.resolve_left (by simp [ilen])
    split at h
    · rename_i q hk
      rw [Bool.cond_eq_ite] at h
      split at h
      case isFalse => cases h
      simp only [Option.some.injEq, Prod.mk.injEq] at h; obtain ⟨rfl, rfl, rfl, rfl⟩ := h
      have w := G9 _ _ _ _ hk
      have d1 : (H ++ [Sum.inl P.fresh]).length - H.length = 1 := by simp
      have d2 : hsz P (H ++ [Sum.inl P.fresh]) - hsz P H = P.objN := by rw [hsz_app]; simp [csz]
      rw [d1] at hcells ⊢; rw [d2] at hslots ⊢
      obtain ⟨T2, h2, X2, e7, E2, A2, D2, -, s2⟩ := newO X hx hZ hown w G6 G7 rfl (g := mkF m pc ls st) rfl hd hcells hslots
      have hlt : T.heap.size < h2.size := A2.lt
      have hm' := hH.1
      refine ⟨T2, am ++ [T.heap.size], ls, _, locs, X2, hL.mono (Pre.app _ _), rfl, ⟨_, _, rfl, ⟨T.heap.size, by rw [← hm']; simp, rfl⟩, hS.mono (Pre.app _ _)⟩, ?_, Pre.app _ _, hF, by rw [e7]; omega, s2⟩
      rw [e7]
      refine hH.push E2 hlt hn ⟨A2, by simp [Prog.fresh], fun j' v n d t f q1 q2 => ?_⟩
      obtain ⟨l1, ty, l2, l3, l4⟩ := G3 _ _ _ _ _ q2
      have hl1 : Laid Z a0 C C n d := by cases f; exact Or.inl l1; exact Or.inr l1
      have hv : v = dflt t := by rw [Prog.fresh, List.getElem?_map, q2] at q1; simpa using q1.symm
      subst hv
      refine ⟨defaultValue ty, ?_, D2 hl1 l2⟩
      rw [l4]; unfold dflt; split <;> rfl
    · cases h
  case invokespecial j =>
    simp only [step] at h
    obtain rfl := hlen.resolve_left (by simp [ilen])
    split at h
    · rename_i a r
      obtain ⟨_, _, rfl, ⟨b, hb, rfl⟩, hr'⟩ := hS
      cases hq : isObjInit P k j && Nat.ble 1 (P.rf k) && Nat.ble (cats r + 12) (P.rl k)
      · simp [hq] at h
      · simp only [hq, cond_true, Option.some.injEq, Prod.mk.injEq] at h; obtain ⟨rfl, rfl, rfl, rfl⟩ := h
        simp only [Bool.and_eq_true] at hq
        have h1 : 1 ≤ P.rf k := Nat.le_of_ble_eq_true hq.1.2
        have h2 : cats r + 12 ≤ P.rl k := Nat.le_of_ble_eq_true hq.2
        have h3 := hq.1.1
        unfold isObjInit at h3
        split at h3
        · rename_i kk hk
          obtain ⟨w1, w2, w3⟩ := G9 _ _ _ _ hk
          obtain ⟨T2, X2, e7, s2⟩ := initO X hx hZ hown w1 w2 w3 rfl (g := mkF m pc ls _) rfl (by rw [hml]; exact hlz) rfl hd (by omega) (W := cats r) (by rw [hr'.cats]; show 2 * 0 + _ ≤ _; omega) (by omega)
          exact Behind.plain' X2 e7 hL rfl hr' hH hF hn s2
        · cases h3
    · cases h
  case iadd =>
    simp only [step] at h
    obtain rfl := hlen.resolve_left (by simp [ilen])
    split at h
    · rename_i y x r
      simp only [aop, Option.some.injEq, Prod.mk.injEq] at h; obtain ⟨rfl, rfl, rfl, rfl⟩ := h
      obtain ⟨_, _, rfl, rfl, _, _, rfl, rfl, hr'⟩ := hS
      exact Behind.plain X hL rfl ⟨_, _, rfl, rfl, hr'⟩ hH hF hn fun target hr => XS.iadd X.here hx rfl (g := mkF m pc ls _) hd rfl hr
    · simp [lop] at h
    · cases h
  case isub =>
    simp only [step] at h
    obtain rfl := hlen.resolve_left (by simp [ilen])
    split at h
    · rename_i y x r
      simp only [aop, Option.some.injEq, Prod.mk.injEq] at h; obtain ⟨rfl, rfl, rfl, rfl⟩ := h
      obtain ⟨_, _, rfl, rfl, _, _, rfl, rfl, hr'⟩ := hS
      exact Behind.plain X hL rfl ⟨_, _, rfl, rfl, hr'⟩ hH hF hn fun target hr => XS.isub X.here hx rfl (g := mkF m pc ls _) hd rfl hr
    · simp [lop] at h
    · cases h
  case imul =>
    simp only [step] at h
    obtain rfl := hlen.resolve_left (by simp [ilen])
    split at h
    · rename_i y x r
      simp only [aop, Option.some.injEq, Prod.mk.injEq] at h; obtain ⟨rfl, rfl, rfl, rfl⟩ := h
      obtain ⟨_, _, rfl, rfl, _, _, rfl, rfl, hr'⟩ := hS
      exact Behind.plain X hL rfl ⟨_, _, rfl, rfl, hr'⟩ hH hF hn fun target hr => XS.imul X.here hx rfl (g := mkF m pc ls _) hd rfl hr
    · simp [lop] at h
    · cases h
  case iand =>
    simp only [step] at h
    obtain rfl := hlen.resolve_left (by simp [ilen])
    split at h
    · rename_i y x r
      simp only [aop, Option.some.injEq, Prod.mk.injEq] at h; obtain ⟨rfl, rfl, rfl, rfl⟩ := h
      obtain ⟨_, _, rfl, rfl, _, _, rfl, rfl, hr'⟩ := hS
      exact Behind.plain X hL rfl ⟨_, _, rfl, rfl, hr'⟩ hH hF hn fun target hr => XS.iand X.here hx rfl (g := mkF m pc ls _) hd rfl hr
    · simp [lop] at h
    · cases h
  case ior =>
    simp only [step] at h
    obtain rfl := hlen.resolve_left (by simp [ilen])
    split at h
    · rename_i y x r
      simp only [aop, Option.some.injEq, Prod.mk.injEq] at h; obtain ⟨rfl, rfl, rfl, rfl⟩ := h
      obtain ⟨_, _, rfl, rfl, _, _, rfl, rfl, hr'⟩ := hS
      exact Behind.plain X hL rfl ⟨_, _, rfl, rfl, hr'⟩ hH hF hn fun target hr => XS.ior X.here hx rfl (g := mkF m pc ls _) hd rfl hr
    · simp [lop] at h
    · cases h
  case ixor =>
    simp only [step] at h
    obtain rfl := hlen.resolve_left (by simp [ilen])
    split at h
    · rename_i y x r
      simp only [aop, Option.some.injEq, Prod.mk.injEq] at h; obtain ⟨rfl, rfl, rfl, rfl⟩ := h
      obtain ⟨_, _, rfl, rfl, _, _, rfl, rfl, hr'⟩ := hS
      exact Behind.plain X hL rfl ⟨_, _, rfl, rfl, hr'⟩ hH hF hn fun target hr => XS.ixor X.here hx rfl (g := mkF m pc ls _) hd rfl hr
    · simp [lop] at h
    · cases h
  case ishl =>
    simp only [step] at h
    obtain rfl := hlen.resolve_left (by simp [ilen])
    split at h
    · rename_i y x r
      simp only [aop, Option.some.injEq, Prod.mk.injEq] at h; obtain ⟨rfl, rfl, rfl, rfl⟩ := h
      obtain ⟨_, _, rfl, rfl, _, _, rfl, rfl, hr'⟩ := hS
      exact Behind.plain X hL rfl ⟨_, _, rfl, rfl, hr'⟩ hH hF hn fun target hr => XS.ishl X.here hx rfl (g := mkF m pc ls _) hd rfl hr
    · simp [lop] at h
    · cases h
  case ishr =>
    simp only [step] at h
    obtain rfl := hlen.resolve_left (by simp [ilen])
    split at h
    · rename_i y x r
      simp only [aop, Option.some.injEq, Prod.mk.injEq] at h; obtain ⟨rfl, rfl, rfl, rfl⟩ := h
      obtain ⟨_, _, rfl, rfl, _, _, rfl, rfl, hr'⟩ := hS
      exact Behind.plain X hL rfl ⟨_, _, rfl, rfl, hr'⟩ hH hF hn fun target hr => XS.ishr X.here hx rfl (g := mkF m pc ls _) hd rfl hr
    · simp [lop] at h
    · cases h
  case iushr =>
    simp only [step] at h
    obtain rfl := hlen.resolve_left (by simp [ilen])
    split at h
    · rename_i y x r
      simp only [aop, Option.some.injEq, Prod.mk.injEq] at h; obtain ⟨rfl, rfl, rfl, rfl⟩ := h
      obtain ⟨_, _, rfl, rfl, _, _, rfl, rfl, hr'⟩ := hS
      exact Behind.plain X hL rfl ⟨_, _, rfl, rfl, hr'⟩ hH hF hn fun target hr => XS.iushr X.here hx rfl (g := mkF m pc ls _) hd rfl hr
    · simp [lop] at h
    · cases h
  case ladd =>
    simp only [step] at h
    obtain rfl := hlen.resolve_left (by simp [ilen])
    split at h
    · simp [aop] at h
    · rename_i y x r
      simp only [lop, Option.some.injEq, Prod.mk.injEq] at h; obtain ⟨rfl, rfl, rfl, rfl⟩ := h
      obtain ⟨_, _, rfl, rfl, _, _, rfl, rfl, hr'⟩ := hS
      exact Behind.plain X hL rfl ⟨_, _, rfl, rfl, hr'⟩ hH hF hn fun target hr => XS.ladd X.here hx rfl (g := mkF m pc ls _) hd rfl hr
    · cases h
  case lsub =>
    simp only [step] at h
    obtain rfl := hlen.resolve_left (by simp [ilen])
    split at h
    · simp [aop] at h
    · rename_i y x r
      simp only [lop, Option.some.injEq, Prod.mk.injEq] at h; obtain ⟨rfl, rfl, rfl, rfl⟩ := h
      obtain ⟨_, _, rfl, rfl, _, _, rfl, rfl, hr'⟩ := hS
      exact Behind.plain X hL rfl ⟨_, _, rfl, rfl, hr'⟩ hH hF hn fun target hr => XS.lsub X.here hx rfl (g := mkF m pc ls _) hd rfl hr
    · cases h
  case lmul =>
    simp only [step] at h
    obtain rfl := hlen.resolve_left (by simp [ilen])
    split at h
    · simp [aop] at h
    · rename_i y x r
      simp only [lop, Option.some.injEq, Prod.mk.injEq] at h; obtain ⟨rfl, rfl, rfl, rfl⟩ := h
      obtain ⟨_, _, rfl, rfl, _, _, rfl, rfl, hr'⟩ := hS
      exact Behind.plain X hL rfl ⟨_, _, rfl, rfl, hr'⟩ hH hF hn fun target hr => XS.lmul X.here hx rfl (g := mkF m pc ls _) hd rfl hr
    · cases h
  case land =>
    simp only [step] at h
    obtain rfl := hlen.resolve_left (by simp [ilen])
    split at h
    · simp [aop] at h
    · rename_i y x r
      simp only [lop, Option.some.injEq, Prod.mk.injEq] at h; obtain ⟨rfl, rfl, rfl, rfl⟩ := h
      obtain ⟨_, _, rfl, rfl, _, _, rfl, rfl, hr'⟩ := hS
      exact Behind.plain X hL rfl ⟨_, _, rfl, rfl, hr'⟩ hH hF hn fun target hr => XS.land X.here hx rfl (g := mkF m pc ls _) hd rfl hr
    · cases h
  case lor =>
    simp only [step] at h
    obtain rfl := hlen.resolve_left (by simp [ilen])
    split at h
    · simp [aop] at h
    · rename_i y x r
      simp only [lop, Option.some.injEq, Prod.mk.injEq] at h; obtain ⟨rfl, rfl, rfl, rfl⟩ := h
      obtain ⟨_, _, rfl, rfl, _, _, rfl, rfl, hr'⟩ := hS
      exact Behind.plain X hL rfl ⟨_, _, rfl, rfl, hr'⟩ hH hF hn fun target hr => XS.lor X.here hx rfl (g := mkF m pc ls _) hd rfl hr
    · cases h
  case lxor =>
    simp only [step] at h
    obtain rfl := hlen.resolve_left (by simp [ilen])
    split at h
    · simp [aop] at h
    · rename_i y x r
      simp only [lop, Option.some.injEq, Prod.mk.injEq] at h; obtain ⟨rfl, rfl, rfl, rfl⟩ := h
      obtain ⟨_, _, rfl, rfl, _, _, rfl, rfl, hr'⟩ := hS
      exact Behind.plain X hL rfl ⟨_, _, rfl, rfl, hr'⟩ hH hF hn fun target hr => XS.lxor X.here hx rfl (g := mkF m pc ls _) hd rfl hr
    · cases h
  all_goals (exfalso; simp only [step] at h; split at h <;> simp [aop, lop] at h)
end Sound
end Jvm.OwnX
namespace Jvm.OwnX
open Sem ClassFile Op Lib Jvm.Stand Jvm.Free Jvm.LawKit Jvm.RoadKit
set_option maxHeartbeats 4000000 in
theorem step_grow {P : Prog} {k pc np pc' : Nat} {i : Instr} {L L' : ALoc} {S S' : List Value} {H H' : AHeap} (h : step P k i np pc L S H = some (pc', L', S', H')) : H.length ≤ H'.length ∧ hsz P H ≤ hsz P H' := by
  cases i <;> simp only [step, Bool.cond_eq_ite] at h
  all_goals (repeat' (split at h))
  all_goals first
    | (cases h; done)
    | (simp only [Option.some.injEq, Prod.mk.injEq] at h; obtain ⟨-, -, -, rfl⟩ := h; exact ⟨Nat.le_refl _, Nat.le_refl _⟩)
    | (simp only [Option.some.injEq, Prod.mk.injEq] at h; obtain ⟨-, -, -, rfl⟩ := h; exact ⟨by simp, by rw [hsz_app]; omega⟩)
    | (simp only [Option.some.injEq, Prod.mk.injEq] at h; obtain ⟨-, -, -, rfl⟩ := h; exact ⟨by simp, Nat.le_of_eq (hsz_set P _ _ _ _ (by assumption) (by simp [csz, wr, wrL])).symm⟩)
set_option maxHeartbeats 4000000 in
theorem step_cap {P : Prog} {k pc np pc' : Nat} {i : Instr} {L L' : ALoc} {S S' : List Value} {H H' : AHeap} (h : step P k i np pc L S H = some (pc', L', S', H')) : (H'.length ≤ H.length ∨ H'.length ≤ P.capC) ∧ (hsz P H' ≤ hsz P H ∨ hsz P H' ≤ P.capS) := by
  cases i <;> simp only [step, Bool.cond_eq_ite] at h
  case newarray t =>
    split at h
    · split at h
      · rename_i q ht
        split at h
        · rename_i hq
          simp only [Option.some.injEq, Prod.mk.injEq] at h; obtain ⟨-, -, -, rfl⟩ := h
          simp only [Bool.and_eq_true] at hq
          have h1 := Nat.le_of_ble_eq_true hq.1.2
          have h2 := Nat.le_of_ble_eq_true hq.2
          exact ⟨Or.inr (by simpa using h1), Or.inr (by rw [hsz_app, csz_new _ _ ht]; exact h2)⟩
        · cases h
      · cases h
    · cases h
  case new j =>
    split at h
    · split at h
      · rename_i hq
        simp only [Option.some.injEq, Prod.mk.injEq] at h; obtain ⟨-, -, -, rfl⟩ := h
        simp only [Bool.and_eq_true] at hq
        have h1 := Nat.le_of_ble_eq_true hq.1
        have h2 := Nat.le_of_ble_eq_true hq.2
        exact ⟨Or.inr (by simpa using h1), Or.inr (by rw [hsz_app]; exact h2)⟩
      · cases h
    · cases h
  all_goals (repeat' (split at h))
  all_goals first
    | (cases h; done)
    | (simp only [Option.some.injEq, Prod.mk.injEq] at h; obtain ⟨-, -, -, rfl⟩ := h; exact ⟨Or.inl (Nat.le_refl _), Or.inl (Nat.le_refl _)⟩)
    | (simp only [Option.some.injEq, Prod.mk.injEq] at h; obtain ⟨-, -, -, rfl⟩ := h; exact ⟨Or.inl (by simp), Or.inl (Nat.le_of_eq (hsz_set P _ _ _ _ (by assumption) (by simp [csz, wr, wrL])))⟩)
theorem run_cap {P : Prog} : ∀ {n k pc : Nat} {L : ALoc} {S : List Value} {H : AHeap} {v : Option Value} {H' : AHeap}, run P n k pc L S H = some (v, H') → (H'.length ≤ H.length ∨ H'.length ≤ P.capC) ∧ (hsz P H' ≤ hsz P H ∨ hsz P H' ≤ P.capS)
  | 0, k, pc, L, S, H, v, H', h => by simp [run] at h
  | n + 1, k, pc, L, S, H, v, H', h => by
    rw [run] at h
    split at h
    · cases h
    · split at h
      · cases h; exact ⟨Or.inl (Nat.le_refl _), Or.inl (Nat.le_refl _)⟩
      · split at h
        · split at h
          · rename_i h1
            have g1 := run_cap h1
            have g2 := run_cap h
            omega
          · cases h
        · split at h
          · rename_i h1
            have g1 := step_cap h1
            have g2 := run_cap h
            omega
          · cases h
theorem run_grow {P : Prog} : ∀ {n k pc : Nat} {L : ALoc} {S : List Value} {H : AHeap} {v : Option Value} {H' : AHeap}, run P n k pc L S H = some (v, H') → H.length ≤ H'.length ∧ hsz P H ≤ hsz P H'
  | 0, k, pc, L, S, H, v, H', h => by simp [run] at h
  | n + 1, k, pc, L, S, H, v, H', h => by
    rw [run] at h
    split at h
    · cases h
    · split at h
      · cases h; exact ⟨Nat.le_refl _, Nat.le_refl _⟩
      · split at h
        · split at h
          · rename_i h1
            have g1 := run_grow h1
            have g2 := run_grow h
            omega
          · cases h
        · split at h
          · rename_i h1
            have g1 := step_grow h1
            have g2 := run_grow h
            omega
          · cases h
def OVR (am : List Addr) (v w : Option Value) : Prop := match v with
  | none => w = none
  | some x => ∃ y, w = some y ∧ VR am x y
theorem callV_spec {P : Prog} {k k' : Nat} {i : Instr} {S as rest : List Value} {H : AHeap} (h : callV P k i S H = some (k', as, rest)) :
    ∃ j q, poolOf i = some j ∧ P.link (P.cls k) j = some (q, k') ∧ kindOk i q = true ∧ S = as.reverse ++ rest ∧ as.length = P.pops k' ∧ P.rf k' + 1 ≤ P.rf k ∧ cats rest + (P.maxL k' + 11) + P.rl k' ≤ P.rl k ∧ recvOk P H q as = true ∧ (entL as).length ≤ P.maxL k' := by
  unfold callV at h
  split at h
  · cases h
  · rename_i j hj
    split at h
    · cases h
    · rename_i q k'' hk
      rw [Bool.cond_eq_ite] at h
      split at h
      · rename_i hc
        simp only [Option.some.injEq, Prod.mk.injEq] at h
        obtain ⟨rfl, rfl, rfl⟩ := h
        simp only [Bool.and_eq_true] at hc
        obtain ⟨⟨⟨⟨⟨c1, c2⟩, c3⟩, c4⟩, c5⟩, c6⟩ := hc
        have c2' := Nat.le_of_ble_eq_true c2
        exact ⟨j, q, hj, hk, c1, by rw [List.reverse_reverse, List.take_append_drop], by simp [c2'], Nat.le_of_ble_eq_true c3, Nat.le_of_ble_eq_true c4, c5, Nat.le_of_ble_eq_true c6⟩
      · cases h
theorem linkOk_call {P : Prog} {nm : Nat → MethodName} {bc : Nat → ByteArray} {cn : Nat → String} {C : String} {Z : State} {a0 : Array Value} {c j q k : Nat} (h4 : q ≠ 4) (h5 : q ≠ 5) (h : LinkOk P nm bc cn C Z a0 c j q k) : CallOk P nm bc cn C Z a0 c j q k := by
  unfold LinkOk at h
  split at h
  · exact absurd rfl h4
  · exact absurd rfl h5
  · exact h
theorem recv_spec {P : Prog} {H : AHeap} {q : Nat} {as : List Value} (h0 : q ≠ 0) (h : recvOk P H q as = true) : ∃ a r fs, as = .ref a :: r ∧ H[a]? = some (.inl fs) := by
  unfold recvOk at h
  split at h
  · exact absurd rfl h0
  · split at h
    · split at h
      · rename_i fs hfs
        exact ⟨_, _, fs, rfl, hfs⟩
      · cases h
    · cases h
theorem retV_spec {P : Prog} {k : Nat} {i : Instr} {S : List Value} {v : Option Value} (h : retV P k i S = some v) :
    (i = .return_ ∧ S = [] ∧ P.ret k = none ∧ v = none) ∨ (∃ x r, i = .ireturn ∧ S = .int x :: r ∧ P.ret k = some .int ∧ v = some (.int x)) ∨ (∃ x r, i = .ireturn ∧ S = .int x :: r ∧ P.ret k = some .boolean ∧ v = some (.int (x &&& 1))) ∨ (∃ x r, i = .lreturn ∧ S = .long x :: r ∧ P.ret k = some .long ∧ v = some (.long x)) := by
  unfold retV at h
  split at h
  · split at h
    · rename_i hr; cases h; exact Or.inl ⟨rfl, rfl, hr, rfl⟩
    · cases h
  · split at h
    · split at h
      · rename_i hr; cases h; exact Or.inr (Or.inl ⟨_, _, rfl, rfl, hr, rfl⟩)
      · rename_i hr; cases h; exact Or.inr (Or.inr (Or.inl ⟨_, _, rfl, rfl, hr, rfl⟩))
      · cases h
    · cases h
  · split at h
    · split at h
      · rename_i hr; cases h; exact Or.inr (Or.inr (Or.inr ⟨_, _, rfl, rfl, hr, rfl⟩))
      · cases h
    · cases h
  · cases h
/-- what a callee's contract says behind it -/
def QC (P : Prog) (C : String) (Z : State) (n0 : Nat) (am : List Addr) (v : Option Value) (H1 : AHeap) (w : Option Value) (h' : Heap) (Lc : List Loc) : Prop := Fr n0 Lc ∧ n0 ≤ h'.size ∧ ∃ am', Pre am am' ∧ HR P C Z n0 am' H1 h' ∧ OVR am' v w
/-- the frame's theorem, for one amount of fuel -/
def SoundAt (P : Prog) (nm : Nat → MethodName) (bc : Nat → ByteArray) (cn : Nat → String) (C : String) (Z : State) (n : Nat) : Prop :=
  ∀ (k pc : Nat) (L : ALoc) (S : List Value) (H : AHeap) (v : Option Value) (H' : AHeap), run P n k pc L S H = some (v, H') →
  ∀ {p : Program} {l : Launch} {e : Env} {R : Room} {s : State} {m : MethodId} {args : Array Value} {below : List Frame} {meth : Method} {c : Code} {T : State} {locs : List Loc} {cells slots n0 : Nat} {am : List Addr} {ls : Array Slot} {st : List Value},
    Stand p l e R s m args below meth c T locs cells slots → p.tables.exec = Jvm.exec → Z.Warmed39 s.vm → c.code = bc k → c.maxLocals = P.maxL k → meth.sig.returnType = P.ret k → s.vm.findClass (cn (P.cls k)) = some m.cls → (P.ini k = true → meth.name = "<init>" ∧ cn (P.cls k) = C) →
    P.rf k ≤ R.frames → P.rl k ≤ R.locals → cells + (H'.length - H.length) ≤ R.cells → slots + (hsz P H' - hsz P H) ≤ R.slots → ls.size = P.maxL k → LR am L ls → SR am S st → HR P C Z n0 am H T.heap → Fr n0 locs → n0 ≤ T.heap.size →
    ∃ T' am' locs' w, Stand p l e R s m args below meth c T' locs' (cells + (H'.length - H.length)) (slots + (hsz P H' - hsz P H)) ∧ HR P C Z n0 am' H' T'.heap ∧ Pre am am' ∧ Fr n0 locs' ∧ OVR am' v w ∧ n0 ≤ T'.heap.size ∧ (P.ret k = none → w = none) ∧
      ∀ fs, (∀ (f : JFrame) (acts : List Action), f.method = m → f.locked = none → f.entered = [] → (doReturn e (T'.setTop f) acts w).1 = T'.setFrames fs) → Steps p.tables e below (T.setTop (mkF m pc ls st)) (T'.setFrames fs)
section Met
variable {P : Prog} {nm : Nat → MethodName} {bc : Nat → ByteArray} {cn : Nat → String} {C : String} {Z : State} {a0 : Array Value}
theorem metOf {n k : Nat} {as : List Value} {H H1 : AHeap} {v : Option Value} (IH : SoundAt P nm bc cn C Z n) (hrun : run P n k 0 (entry P k as) [] H = some (v, H1)) {l : Launch} {wsC : List Cond} {rm : Room} (hpl : plainName (nm k).cls = true) (hcls : (nm k).cls = cn (P.cls k)) (hini : P.ini k = true → (nm k).name = "<init>" ∧ (nm k).cls = C)
    (hrf : P.rf k ≤ rm.frames) (hrl : P.rl k ≤ rm.locals) (hrc : H1.length - H.length ≤ rm.cells) (hrs : hsz P H1 - hsz P H ≤ rm.slots) {am : List Addr} {ws : List Value} {h : Heap} {n0 : Nat} (hS : SR am as ws) (hE : (entL as).length ≤ P.maxL k) (hH : HR P C Z n0 am H h) (hn : n0 ≤ h.size) :
    MetFree l (nm k) (head1 (Cond.code (nm k) (bc k) (P.maxL k) (P.ret k) :: wsC) rm) (fun a U => a = ws.toArray ∧ Z.Warmed39 U.vm ∧ U.heap = h) (fun _ _ _ _ _ => True)
      (fun _ U o U' => ∃ w Lc, o = .returned w ∧ QC P C Z n0 am v H1 w U'.heap Lc ∧ FrameEnd U o U' Lc (H1.length - H.length) (hsz P H1 - hsz P H)) := by
  refine MetFree.of_bodySF (plainFor_of_name hpl) hisR ?_
  intro p e s m args below meth c s₁ Bd hml0 hP hK
  obtain ⟨rfl, hZ, hh⟩ := hP
  have hown : s.vm.findClass (nm k).cls = some m.cls := findClass_of_methodNamed Bd.named
  have hnm := (name_of_methodNamed Bd.named Bd.method).1
  have X0 : Stand p l e rm s m ws.toArray below meth c s₁ [] 0 0 := Stand.of_body Bd
  have e0 : s₁.heap = h := by rw [← hh, Bd.state]; rfl
  have hsl := (slotsL_ok hS).1
  obtain ⟨T', am', locs', w, X', h1, h2, h3, h4, h5, h6, h7⟩ := IH k 0 _ _ _ _ _ hrun X0 Bd.exec hZ Bd.bytes hml0 Bd.returns (by rw [← hcls]; exact hown) (fun q => ⟨by rw [hnm]; exact (hini q).1, by rw [← hcls]; exact (hini q).2⟩) hrf hrl (by omega) (by omega) (entry_size (ws := ws) (n := P.maxL k) (by omega)) (LR.entry hS hE) (st := []) rfl (by rw [e0]; exact hH) (Fr.nil n0) (by rw [e0]; exact hn)
  obtain ⟨fs, hr, hrun', hended, hW, hsame⟩ := X'.leave (v := w) (fun q => h6 (by rw [← Bd.returns]; exact q))
  exact ⟨_, _, h7 fs hr, hrun', hended, w, locs', rfl, ⟨h3, h5, am', h2, h1, h4⟩, ⟨_, rfl⟩, hW, hsame.mono (by omega) (by omega)⟩
variable {p : Program} {l : Launch} {e : Env} {R : Room} {s : State} {m : MethodId} {args : Array Value} {below : List Frame} {meth : Method} {c : Code} {T : State} {locs : List Loc} {cells slots : Nat} {n0 : Nat}
theorem call_sound (G : Good P nm bc cn C Z a0) {n k k' pc np : Nat} {i : Instr} {S as rest : List Value} {H H1 : AHeap} {v : Option Value} (IH : SoundAt P nm bc cn C Z n) (hcode : P.code k pc = some (i, np)) (hcall : callV P k i S H = some (k', as, rest)) (hrun : run P n k' 0 (entry P k' as) [] H = some (v, H1))
    (X : Stand p l e R s m args below meth c T locs cells slots) (hx : p.tables.exec = Jvm.exec) (hZ : Z.Warmed39 s.vm) (hby : c.code = bc k) (hml : c.maxLocals = P.maxL k) (hown : s.vm.findClass (cn (P.cls k)) = some m.cls)
    (hrf : P.rf k ≤ R.frames) (hrl : P.rl k ≤ R.locals) (hcells : cells + (H1.length - H.length) ≤ R.cells) (hslots : slots + (hsz P H1 - hsz P H) ≤ R.slots) {am : List Addr} {ls : Array Slot} {st : List Value} (hlz : ls.size = P.maxL k) (hS : SR am S st) (hH : HR P C Z n0 am H T.heap) (hn : n0 ≤ T.heap.size) :
    ∃ T2 w Lc z, np = pc + 3 ∧ Stand p l e R s m args below meth c T2 (locs ++ Lc) (cells + (H1.length - H.length)) (slots + (hsz P H1 - hsz P H)) ∧ QC P C Z n0 am v H1 w T2.heap Lc ∧ SR am rest z ∧
      ∀ target, Steps p.tables e below (T2.setTop (mkF m (pc + 3) ls (w.toList ++ z))) target → Steps p.tables e below (T.setTop (mkF m pc ls st)) target := by
  obtain ⟨j, q, hj, hk, hkind, rfl, hlen, c3, c4, c5, c6⟩ := callV_spec hcall
  obtain ⟨G1, -, -, -, -, G6, -, -, G9⟩ := G
  obtain ⟨len, hdec, rfl, hlen'⟩ := G1 _ _ _ _ hcode
  have hd : decode c.code pc = .ok (i, len) := by rw [hby]; exact hdec
  obtain ⟨y, z, rfl, hy, hz⟩ := SR.app _ _ hS rfl
  have hws : SR am as y.reverse := by have := hy.rev; rwa [List.reverse_reverse] at this
  have hcz := hz.cats
  have lk := G9 _ _ _ _ hk
  have hq4 : q ≠ 4 := fun q4 => by subst q4; cases i <;> simp [kindOk] at hkind
  have hq5 : q ≠ 5 := fun q5 => by subst q5; cases i <;> simp [kindOk] at hkind
  have lk' : CallOk P nm bc cn C Z a0 (P.cls k) j q k' := linkOk_call hq4 hq5 lk
  obtain ⟨w1, w2, w3, ⟨ps, r, w4, w5⟩, w6, w7, w8, w9, w10⟩ := lk'
  have hM := metOf IH hrun (l := l) (wsC := []) (rm := ({ frames := P.rf k', cells := H1.length - H.length, slots := hsz P H1 - hsz P H, locals := P.rl k' } : Room)) w6 w8 w9 (Nat.le_refl _) (Nat.le_refl _) (Nat.le_refl _) (Nat.le_refl _) hws c6 hH hn
  have hB := backOf (R := R) (p := p) (e := e) (below := below) (args := args) (s := s) (len := 3) (W := cats rest) hM hZ w2 w3 (by show P.rf k' + 1 ≤ _; omega) (by show cats rest + (P.maxL k' + 11) + P.rl k' ≤ _; omega)
  have hyl : y.reverse.length = as.length := hws.len
  have recv : q ≠ 0 → ∃ a r' b ws', as = .ref a :: r' ∧ y.reverse = .ref b :: ws' ∧ Exa Z T.heap b C := fun h0 => by
    obtain ⟨a, r', fs, rfl, hfs⟩ := recv_spec h0 c5
    obtain ⟨_, ws', e1, ⟨b, hb, rfl⟩, -⟩ := hws
    obtain ⟨b', f1, f2, -⟩ := hH.2.2.2 _ _ hfs
    cases hb.symm.trans f1
    exact ⟨a, r', b, ws', rfl, e1, f2⟩
  cases i <;> simp only [poolOf, Option.some.injEq, reduceCtorEq] at hj
  case invokestatic j' =>
    subst hj
    obtain rfl : len = 3 := hlen'.resolve_left (by simp [ilen])
    obtain rfl : q = 0 := by
      match q, hkind with
      | 0, _ => rfl
    obtain ⟨w, _, ⟨T2, L2, k2, n2⟩, -, X2, ⟨Lc, hQ, l1, l2, l3⟩, st2⟩ := Jvm.LawKit.callS X hx (y := nm k') hown (mvT hZ w1) (mvT hZ w10) (mvT hZ w3) (mvT hZ w2) w7 hB (g := mkF m pc ls (y ++ z)) rfl (by rw [hml]; exact hlz) (argsL := y.reverse) (rest := z) (lenOf w4 (by rw [hyl, hlen, w5]; rfl)) (by simp) (by rw [hcz]; show 2 * 0 + _ ≤ _; omega) hd (fun _ _ => ⟨rfl, rfl, hcells, hslots⟩)
    dsimp only [Pt.U, Pt.locs, Pt.cells, Pt.slots] at X2 l1 l2 l3 st2 hQ
    subst l1 l2 l3
    exact ⟨T2, w, Lc, z, rfl, X2, hQ, hz, st2⟩
  case invokespecial j' =>
    subst hj
    obtain rfl : len = 3 := hlen'.resolve_left (by simp [ilen])
    obtain rfl : q = 1 := by
      match q, hkind with
      | 1, _ => rfl
    obtain ⟨a, r', b, ws', ea, ey, hEx⟩ := recv (by decide)
    obtain ⟨w11, w12, w13⟩ := w10
    have ey' : y = ws'.reverse ++ [.ref b] := by rw [← List.reverse_reverse y, ey]; simp
    rw [ey] at hB
    have hl : ws'.length = ps.length := by rw [ey, hlen, w5] at hyl; simpa [rcv] using hyl
    obtain ⟨w, _, ⟨T2, L2, k2, n2⟩, -, X2, ⟨Lc, hQ, l1, l2, l3⟩, st2⟩ := X.specialBack hx (y := nm k') w11 hown (mvT hZ w1) (mvT hZ w12) (bytes := bc k') (maxL := P.maxL k') (mvT hZ (by rw [w13] at w2; exact w2)) w7 hB (g := mkF m pc ls (y ++ z)) rfl (by rw [hml]; exact hlz) (Steps.refl _) (a := b) (argsL := ws') (rest := z) (lenOf w4 hl) (by rw [ey']; simp) (by rw [hcz]; show 2 * 0 + _ ≤ _; omega) hd (fun _ _ => ⟨rfl, rfl, hcells, hslots⟩)
    dsimp only [Pt.U, Pt.locs, Pt.cells, Pt.slots] at X2 l1 l2 l3 st2 hQ
    subst l1 l2 l3
    exact ⟨T2, w, Lc, z, rfl, X2, hQ, hz, fun target hr => st2.trans hr⟩
  case invokevirtual j' =>
    subst hj
    obtain rfl : len = 3 := hlen'.resolve_left (by simp [ilen])
    have hq : q = 2 ∨ q = 3 := by
      match q, hkind with
      | 2, _ => exact Or.inl rfl
      | 3, _ => exact Or.inr rfl
    obtain ⟨a, r', b, ws', ea, ey, hEx⟩ := recv (by omega)
    have ey' : y = ws'.reverse ++ [.ref b] := by rw [← List.reverse_reverse y, ey]; simp
    rw [ey] at hB
    rcases hq with rfl | rfl
    · obtain ⟨w11, w12, w13⟩ := w10
      have hl : ws'.length = ps.length := by rw [ey, hlen, w5] at hyl; simpa [rcv] using hyl
      obtain ⟨cq, kq, qa, qb, qc⟩ := isOf hZ rfl hEx
      obtain ⟨w, _, ⟨T2, L2, k2, n2⟩, -, X2, ⟨Lc, hQ, l1, l2, l3⟩, st2⟩ := X.virtualBack hx (y := nm k') (z := nm k') hown (mvT hZ w1) (mvT hZ w11) (notFace_of_selects (args := #[]) (mvT hZ w13)) (mvT hZ w13) (mvT hZ w12) w7 hB qa qc (g := mkF m pc ls (y ++ z)) rfl (by rw [hml]; exact hlz) (Steps.refl _) (argsL := ws') (rest := z) (lenOf w4 hl) (by rw [ey']; simp) (by rw [hcz]; show 2 * 0 + _ ≤ _; omega) hd (fun _ _ => ⟨rfl, rfl, hcells, hslots⟩)
      dsimp only [Pt.U, Pt.locs, Pt.cells, Pt.slots] at X2 l1 l2 l3 st2 hQ
      subst l1 l2 l3
      exact ⟨T2, w, Lc, z, rfl, X2, hQ, hz, fun target hr => st2.trans hr⟩
    · obtain ⟨w11, w12, w13⟩ := w10
      have hl : ws'.length = ps.length := by rw [ey, hlen, w5] at hyl; simpa [rcv] using hyl
      obtain ⟨cq, q1, q2⟩ := hEx.cell
      obtain ⟨cC, kC, i1, i2, i3, i4, -⟩ := Cond.instantiable_spec (mvT hZ G6 : (Cond.instantiable C P.objN).before #[] s = true)
      have hpriv : s.PrivateAt (nm k') := Cond.privateMethod_at (mvP hZ w13 (args := #[]))
      have hsel : (Cond.selects (nm k').cls (nm k') (nm k')).before args s = true := selects_self_of_private (by rw [w11]; exact i1) i2 (by simpa using (Bool.or_eq_false_iff.mp i4).1) hpriv (mvT hZ w12) w7
      obtain ⟨w, _, ⟨T2, L2, k2, n2⟩, -, X2, ⟨Lc, hQ, l1, l2, l3⟩, st2⟩ := X.privateBack hx (y := nm k') hown (mvT hZ w1) (mvT hZ w12) hsel hpriv (mvT hZ w2) w7 hB (g := mkF m pc ls (y ++ z)) rfl (by rw [hml]; exact hlz) (Steps.refl _) (a := b) q1 q2 (argsL := ws') (rest := z) (lenOf w4 hl) (by rw [ey']; simp) (by rw [hcz]; show 2 * 0 + _ ≤ _; omega) hd (fun _ _ => ⟨rfl, rfl, hcells, hslots⟩)
      dsimp only [Pt.U, Pt.locs, Pt.cells, Pt.slots] at X2 l1 l2 l3 st2 hQ
      subst l1 l2 l3
      exact ⟨T2, w, Lc, z, rfl, X2, hQ, hz, fun target hr => st2.trans hr⟩
theorem ret_sound (G : Good P nm bc cn C Z a0) {k pc np : Nat} {i : Instr} {S : List Value} {v : Option Value} (hcode : P.code k pc = some (i, np)) (h : retV P k i S = some v)
    (X : Stand p l e R s m args below meth c T locs cells slots) (hx : p.tables.exec = Jvm.exec) (hby : c.code = bc k) (hret : meth.sig.returnType = P.ret k) {am : List Addr} {ls : Array Slot} {st : List Value} (hS : SR am S st) :
    ∃ w, OVR am v w ∧ (P.ret k = none → w = none) ∧ ∀ fs, (∀ (f : JFrame) (acts : List Action), f.method = m → f.locked = none → f.entered = [] → (doReturn e (T.setTop f) acts w).1 = T.setFrames fs) → Steps p.tables e below (T.setTop (mkF m pc ls st)) (T.setFrames fs) := by
  obtain ⟨G1, -⟩ := G
  obtain ⟨len, hdec, rfl, hlen⟩ := G1 _ _ _ _ hcode
  have hd : decode c.code pc = .ok (i, len) := by rw [hby]; exact hdec
  rcases retV_spec h with ⟨rfl, rfl, hr, rfl⟩ | ⟨x, r, rfl, rfl, hr, rfl⟩ | ⟨x, r, rfl, rfl, hr, rfl⟩ | ⟨x, r, rfl, rfl, hr, rfl⟩
  · obtain rfl : len = 1 := hlen.resolve_left (by simp [ilen])
    cases hS
    exact ⟨none, rfl, fun _ => rfl, fun fs hl => X.returnOut hx (hret.trans hr) hd hl⟩
  · obtain rfl : len = 1 := hlen.resolve_left (by simp [ilen])
    obtain ⟨_, _, rfl, rfl, hr'⟩ := hS
    exact ⟨some (.int x), ⟨_, rfl, rfl⟩, (fun q => by rw [hr] at q; cases q), fun fs hl => retOut X hx (hret.trans hr) rfl (Or.inl ⟨rfl, Or.inl rfl, x, rfl⟩) hd hl⟩
  · obtain rfl : len = 1 := hlen.resolve_left (by simp [ilen])
    obtain ⟨_, _, rfl, rfl, hr'⟩ := hS
    exact ⟨some (.int (x &&& 1)), ⟨_, rfl, rfl⟩, (fun q => by rw [hr] at q; cases q), fun fs hl => retN X hx (hret.trans hr) (Or.inl rfl) hd hl⟩
  · obtain rfl : len = 1 := hlen.resolve_left (by simp [ilen])
    obtain ⟨_, _, rfl, rfl, hr'⟩ := hS
    exact ⟨some (.long x), ⟨_, rfl, rfl⟩, (fun q => by rw [hr] at q; cases q), fun fs hl => retOut X hx (hret.trans hr) rfl (Or.inr (Or.inl ⟨rfl, rfl, x, rfl⟩)) hd hl⟩
theorem SR.opt {am : List Addr} {v w : Option Value} {S st : List Value} (h : OVR am v w) (hS : SR am S st) : SR am (v.toList ++ S) (w.toList ++ st) := by
  cases v with
  | none => cases h; exact hS
  | some x => obtain ⟨y, rfl, h1⟩ := h; exact ⟨y, st, rfl, h1, hS⟩
theorem sound (G : Good P nm bc cn C Z a0) : ∀ n, SoundAt P nm bc cn C Z n
  | 0 => fun k pc L S H v H' h => by simp [run] at h
  | n + 1 => fun k pc L S H v H' h => by
    have IH := sound G n
    intro p l e R s m args below meth c T locs cells slots n0 am ls st X hx hZ hby hml hret hown hini hrf hrl hcells hslots hlz hL hS hH hF hn
    rw [run] at h
    split at h
    · cases h
    · rename_i i np hcode
      split at h
      · rename_i v' hv
        cases h
        obtain ⟨w, h1, h2, h3⟩ := ret_sound G hcode hv X hx hby hret (ls := ls) hS
        exact ⟨T, am, locs, w, by simpa using X, hH, Pre.refl _, hF, h1, hn, h2, h3⟩
      · split at h
        · rename_i k' as rest hcall
          split at h
          · rename_i v1 H1 hr1
            have g1 := run_grow hr1
            have g2 := run_grow h
            obtain ⟨T2, w, Lc, z, rfl, X2, ⟨q1, q2, am2, q3, q4, q5⟩, hz, st2⟩ := call_sound G IH hcode hcall hr1 X hx hZ hby hml hown hrf hrl (by omega) (by omega) (ls := ls) hlz hS hH hn
            obtain ⟨T', am', locs', w', X', f1, f2, f3, f4, f5, f6, f7⟩ := IH k _ _ _ _ _ _ h X2 hx hZ hby hml hret hown hini hrf hrl (by omega) (by omega) hlz (hL.mono q3) (SR.opt q5 (hz.mono q3)) q4 (Fr.app hF q1) q2
            refine ⟨T', am', locs', w', ?_, f1, q3.trans f2, f3, f4, f5, f6, fun fs hl => st2 _ (f7 fs hl)⟩
            have a1 : cells + (H1.length - H.length) + (H'.length - H1.length) = cells + (H'.length - H.length) := by omega
            have a2 : slots + (hsz P H1 - hsz P H) + (hsz P H' - hsz P H1) = slots + (hsz P H' - hsz P H) := by omega
            rw [a1, a2] at X'; exact X'
          · cases h
        · split at h
          · rename_i pc1 L1 S1 H1 hs1
            have g1 := step_grow hs1
            have g2 := run_grow h
            obtain ⟨T2, am2, ls2, st2, locs2, X2, b1, b2, b3, b4, b5, b6, b7, b8⟩ := step_sound G hcode hs1 X hx hZ hby hml hown hini hrf hrl (by omega) (by omega) hlz hL hS hH hF hn
            obtain ⟨T', am', locs', w', X', f1, f2, f3, f4, f5, f6, f7⟩ := IH k _ _ _ _ _ _ h X2 hx hZ hby hml hret hown hini hrf hrl (by omega) (by omega) (b2.trans hlz) b1 b3 b4 b6 b7
            refine ⟨T', am', locs', w', ?_, f1, b5.trans f2, f3, f4, f5, f6, fun fs hl => b8 _ (f7 fs hl)⟩
            have a1 : cells + (H1.length - H.length) + (H'.length - H1.length) = cells + (H'.length - H.length) := by omega
            have a2 : slots + (hsz P H1 - hsz P H) + (hsz P H' - hsz P H1) = slots + (hsz P H' - hsz P H) := by omega
            rw [a1, a2] at X'; exact X'
          · cases h
end Met
end Jvm.OwnX
namespace Jvm.OwnX
open Sem ClassFile Op Lib Jvm.Stand Jvm.Free Jvm.LawKit Jvm.RoadKit
theorem run_succ {P : Prog} : ∀ (n : Nat) {k pc : Nat} {L : ALoc} {S : List Value} {H : AHeap} {out : Option Value × AHeap}, run P n k pc L S H = some out → run P (n + 1) k pc L S H = some out
  | 0, k, pc, L, S, H, out, h => by simp [run] at h
  | n + 1, k, pc, L, S, H, out, h => by
    rw [run] at h
    rw [run]
    split at h
    · cases h
    · rename_i i np hc
      try simp only [hc]
      split at h
      · rename_i v hv
        try simp only [hv]
        exact h
      · rename_i hv
        try simp only [hv]
        split at h
        · rename_i k' as rest hcall
          try simp only [hcall]
          split at h
          · rename_i v1 H1 h1
            rw [run_succ n h1]; exact run_succ n h
          · cases h
        · rename_i hcall
          try simp only [hcall]
          split at h
          · rename_i pc1 L1 S1 H1 h1
            try simp only [h1]
            exact run_succ n h
          · cases h
theorem run_le {P : Prog} {n m k pc : Nat} {L : ALoc} {S : List Value} {H : AHeap} {out : Option Value × AHeap} (hm : n ≤ m) (h : run P n k pc L S H = some out) : run P m k pc L S H = some out := by
  induction hm with
  | refl => exact h
  | step _ ih => exact run_succ _ ih
section Rules
variable {P : Prog} {k pc np : Nat} {L L' : ALoc} {S r : List Value} {H : AHeap} {out : Option Value × AHeap}
theorem Eval.of_step {i : Instr} {pc' : Nat} {S' : List Value} {H' : AHeap} (hc : P.code k pc = some (i, np)) (h1 : retV P k i S = none) (h2 : callV P k i S H = none) (h3 : step P k i np pc L S H = some (pc', L', S', H')) (h : Eval P k pc' L' S' H' out) : Eval P k pc L S H out := by
  obtain ⟨n, h⟩ := h
  exact ⟨n + 1, by rw [run]; simp only [hc, h1, h2, h3]; exact h⟩
theorem Eval.call {i : Instr} {k' : Nat} {as rest : List Value} {v : Option Value} {H1 : AHeap} (hc : P.code k pc = some (i, np)) (h2 : callV P k i S H = some (k', as, rest)) (he : Eval P k' 0 (entry P k' as) [] H (v, H1)) (h : Eval P k np L (v.toList ++ rest) H1 out) : Eval P k pc L S H out := by
  obtain ⟨n, he⟩ := he
  obtain ⟨m, h⟩ := h
  have h1 : retV P k i S = none := by
    unfold callV at h2
    cases i <;> simp only [poolOf, reduceCtorEq] at h2 <;> rfl
  exact ⟨n + m + 1, by rw [run]; simp only [hc, h1, h2]; rw [run_le (Nat.le_add_right n m) he]; exact run_le (Nat.le_add_left m n) h⟩
theorem Eval.ret {i : Instr} {v : Option Value} (hc : P.code k pc = some (i, np)) (h1 : retV P k i S = some v) : Eval P k pc L S H (v, H) := ⟨1, by rw [run]; simp only [hc, h1]⟩
theorem Eval.eq {out' : Option Value × AHeap} (h : Eval P k pc L S H out') (e : out' = out) : Eval P k pc L S H out := e ▸ h
theorem Eval.iload_n {n : Fin 4} {x : Int32} (hc : P.code k pc = some (.iload_n n, np)) (hl : loadI L n.val = some x) (h : Eval P k np L (.int x :: S) H out) : Eval P k pc L S H out := Eval.of_step hc rfl rfl (by simp only [step, hl]) h
theorem Eval.iload {n : Nat} {x : Int32} (hc : P.code k pc = some (.iload n, np)) (hl : loadI L n = some x) (h : Eval P k np L (.int x :: S) H out) : Eval P k pc L S H out := Eval.of_step hc rfl rfl (by simp only [step, hl]) h
theorem Eval.lload_n {n : Fin 4} {x : Int64} (hc : P.code k pc = some (.lload_n n, np)) (hl : loadJ L n.val = some x) (h : Eval P k np L (.long x :: S) H out) : Eval P k pc L S H out := Eval.of_step hc rfl rfl (by simp only [step, hl]) h
theorem Eval.lload {n : Nat} {x : Int64} (hc : P.code k pc = some (.lload n, np)) (hl : loadJ L n = some x) (h : Eval P k np L (.long x :: S) H out) : Eval P k pc L S H out := Eval.of_step hc rfl rfl (by simp only [step, hl]) h
theorem Eval.aload_n {n : Fin 4} {x : Nat} (hc : P.code k pc = some (.aload_n n, np)) (hl : loadA L n.val = some x) (h : Eval P k np L (.ref x :: S) H out) : Eval P k pc L S H out := Eval.of_step hc rfl rfl (by simp only [step, hl]) h
theorem Eval.aload {n : Nat} {x : Nat} (hc : P.code k pc = some (.aload n, np)) (hl : loadA L n = some x) (h : Eval P k np L (.ref x :: S) H out) : Eval P k pc L S H out := Eval.of_step hc rfl rfl (by simp only [step, hl]) h
theorem Eval.istore_n {n : Fin 4} {x : Int32} (hc : P.code k pc = some (.istore_n n, np)) (hl : lput L n.val (.int x) = some L') (h : Eval P k np L' r H out) : Eval P k pc L (.int x :: r) H out := Eval.of_step hc rfl rfl (by simp only [step, hl]) h
theorem Eval.istore {n : Nat} {x : Int32} (hc : P.code k pc = some (.istore n, np)) (hl : lput L n (.int x) = some L') (h : Eval P k np L' r H out) : Eval P k pc L (.int x :: r) H out := Eval.of_step hc rfl rfl (by simp only [step, hl]) h
theorem Eval.astore_n {n : Fin 4} {x : Nat} (hc : P.code k pc = some (.astore_n n, np)) (hl : lput L n.val (.ref x) = some L') (h : Eval P k np L' r H out) : Eval P k pc L (.ref x :: r) H out := Eval.of_step hc rfl rfl (by simp only [step, hl]) h
theorem Eval.astore {n : Nat} {x : Nat} (hc : P.code k pc = some (.astore n, np)) (hl : lput L n (.ref x) = some L') (h : Eval P k np L' r H out) : Eval P k pc L (.ref x :: r) H out := Eval.of_step hc rfl rfl (by simp only [step, hl]) h
theorem Eval.lstore_n {n : Fin 4} {x : Int64} (hc : P.code k pc = some (.lstore_n n, np)) (hl : lputL L n.val x = some L') (h : Eval P k np L' r H out) : Eval P k pc L (.long x :: r) H out := Eval.of_step hc rfl rfl (by simp only [step, hl]) h
theorem Eval.lstore {n : Nat} {x : Int64} (hc : P.code k pc = some (.lstore n, np)) (hl : lputL L n x = some L') (h : Eval P k np L' r H out) : Eval P k pc L (.long x :: r) H out := Eval.of_step hc rfl rfl (by simp only [step, hl]) h
theorem Eval.iinc {n : Nat} {c : Int} {x : Int32} (hc : P.code k pc = some (.iinc n c, np)) (hl : loadI L n = some x) (hp : lput L n (.int (x + Int32.ofInt c)) = some L') (h : Eval P k np L' S H out) : Eval P k pc L S H out := Eval.of_step hc rfl rfl (by simp only [step, hl, hp]) h
theorem Eval.iconst {c : Int} {x : Int32} (hc : P.code k pc = some (.iconst c, np)) (hx : Int32.ofInt c = x) (h : Eval P k np L (.int x :: S) H out) : Eval P k pc L S H out := Eval.of_step hc rfl rfl (by subst hx; rfl) h
theorem Eval.bipush {c : Int} {x : Int32} (hc : P.code k pc = some (.bipush c, np)) (hx : (Int8.ofInt c).toInt32 = x) (h : Eval P k np L (.int x :: S) H out) : Eval P k pc L S H out := Eval.of_step hc rfl rfl (by subst hx; rfl) h
theorem Eval.sipush {c : Int} {x : Int32} (hc : P.code k pc = some (.sipush c, np)) (hx : (Int16.ofInt c).toInt32 = x) (h : Eval P k np L (.int x :: S) H out) : Eval P k pc L S H out := Eval.of_step hc rfl rfl (by subst hx; rfl) h
theorem Eval.lconst {c : Fin 2} {x : Int64} (hc : P.code k pc = some (.lconst c, np)) (hx : Int64.ofNat c = x) (h : Eval P k np L (.long x :: S) H out) : Eval P k pc L S H out := Eval.of_step hc rfl rfl (by subst hx; rfl) h
theorem Eval.ldc {j : Nat} {x : Int32} (hc : P.code k pc = some (.ldc j, np)) (hx : P.kon (P.cls k) j = some (.int x)) (h : Eval P k np L (.int x :: S) H out) : Eval P k pc L S H out := Eval.of_step hc rfl rfl (by simp only [step, hx]) h
theorem Eval.ldc2_w {j : Nat} {x : Int64} (hc : P.code k pc = some (.ldc2_w j, np)) (hx : P.kon (P.cls k) j = some (.long x)) (h : Eval P k np L (.long x :: S) H out) : Eval P k pc L S H out := Eval.of_step hc rfl rfl (by simp only [step, hx]) h
theorem Eval.idiv {x y : Int32} (hc : P.code k pc = some (.idiv, np)) (hy : ¬ y = 0) (h : Eval P k np L (.int (x / y) :: r) H out) : Eval P k pc L (.int y :: .int x :: r) H out := Eval.of_step hc rfl rfl (by simp [step, hy]) h
theorem Eval.irem {x y : Int32} (hc : P.code k pc = some (.irem, np)) (hy : ¬ y = 0) (h : Eval P k np L (.int (x % y) :: r) H out) : Eval P k pc L (.int y :: .int x :: r) H out := Eval.of_step hc rfl rfl (by simp [step, hy]) h
theorem Eval.iadd {x y : Int32} (hc : P.code k pc = some (.iadd, np))  (h : Eval P k np L (.int (x + y) :: r) H out) : Eval P k pc L (.int y :: .int x :: r) H out := Eval.of_step hc rfl rfl (by rfl) h
theorem Eval.isub {x y : Int32} (hc : P.code k pc = some (.isub, np))  (h : Eval P k np L (.int (x - y) :: r) H out) : Eval P k pc L (.int y :: .int x :: r) H out := Eval.of_step hc rfl rfl (by rfl) h
theorem Eval.imul {x y : Int32} (hc : P.code k pc = some (.imul, np))  (h : Eval P k np L (.int (x * y) :: r) H out) : Eval P k pc L (.int y :: .int x :: r) H out := Eval.of_step hc rfl rfl (by rfl) h
theorem Eval.iand {x y : Int32} (hc : P.code k pc = some (.iand, np))  (h : Eval P k np L (.int (x &&& y) :: r) H out) : Eval P k pc L (.int y :: .int x :: r) H out := Eval.of_step hc rfl rfl (by rfl) h
theorem Eval.ior {x y : Int32} (hc : P.code k pc = some (.ior, np))  (h : Eval P k np L (.int (x ||| y) :: r) H out) : Eval P k pc L (.int y :: .int x :: r) H out := Eval.of_step hc rfl rfl (by rfl) h
theorem Eval.ixor {x y : Int32} (hc : P.code k pc = some (.ixor, np))  (h : Eval P k np L (.int (x ^^^ y) :: r) H out) : Eval P k pc L (.int y :: .int x :: r) H out := Eval.of_step hc rfl rfl (by rfl) h
theorem Eval.ishl {x y : Int32} (hc : P.code k pc = some (.ishl, np))  (h : Eval P k np L (.int (ish x y) :: r) H out) : Eval P k pc L (.int y :: .int x :: r) H out := Eval.of_step hc rfl rfl (by rfl) h
theorem Eval.ishr {x y : Int32} (hc : P.code k pc = some (.ishr, np))  (h : Eval P k np L (.int (isr x y) :: r) H out) : Eval P k pc L (.int y :: .int x :: r) H out := Eval.of_step hc rfl rfl (by rfl) h
theorem Eval.iushr {x y : Int32} (hc : P.code k pc = some (.iushr, np))  (h : Eval P k np L (.int (ush x y) :: r) H out) : Eval P k pc L (.int y :: .int x :: r) H out := Eval.of_step hc rfl rfl (by rfl) h
theorem Eval.ladd {x y : Int64} (hc : P.code k pc = some (.ladd, np))  (h : Eval P k np L (.long (x + y) :: r) H out) : Eval P k pc L (.long y :: .long x :: r) H out := Eval.of_step hc rfl rfl (by rfl) h
theorem Eval.lsub {x y : Int64} (hc : P.code k pc = some (.lsub, np))  (h : Eval P k np L (.long (x - y) :: r) H out) : Eval P k pc L (.long y :: .long x :: r) H out := Eval.of_step hc rfl rfl (by rfl) h
theorem Eval.lmul {x y : Int64} (hc : P.code k pc = some (.lmul, np))  (h : Eval P k np L (.long (x * y) :: r) H out) : Eval P k pc L (.long y :: .long x :: r) H out := Eval.of_step hc rfl rfl (by rfl) h
theorem Eval.land {x y : Int64} (hc : P.code k pc = some (.land, np))  (h : Eval P k np L (.long (x &&& y) :: r) H out) : Eval P k pc L (.long y :: .long x :: r) H out := Eval.of_step hc rfl rfl (by rfl) h
theorem Eval.lor {x y : Int64} (hc : P.code k pc = some (.lor, np))  (h : Eval P k np L (.long (x ||| y) :: r) H out) : Eval P k pc L (.long y :: .long x :: r) H out := Eval.of_step hc rfl rfl (by rfl) h
theorem Eval.lxor {x y : Int64} (hc : P.code k pc = some (.lxor, np))  (h : Eval P k np L (.long (x ^^^ y) :: r) H out) : Eval P k pc L (.long y :: .long x :: r) H out := Eval.of_step hc rfl rfl (by rfl) h
theorem Eval.lshl {x : Int64} {y : Int32} (hc : P.code k pc = some (.lshl, np))  (h : Eval P k np L (.long (lsh x y) :: r) H out) : Eval P k pc L (.int y :: .long x :: r) H out := Eval.of_step hc rfl rfl (by rfl) h
theorem Eval.lushr {x : Int64} {y : Int32} (hc : P.code k pc = some (.lushr, np))  (h : Eval P k np L (.long (lus x y) :: r) H out) : Eval P k pc L (.int y :: .long x :: r) H out := Eval.of_step hc rfl rfl (by rfl) h
theorem Eval.lcmp {x y : Int64} (hc : P.code k pc = some (.lcmp, np))  (h : Eval P k np L (.int (lcm x y) :: r) H out) : Eval P k pc L (.long y :: .long x :: r) H out := Eval.of_step hc rfl rfl (by rfl) h
theorem Eval.lneg {x : Int64} (hc : P.code k pc = some (.lneg, np))  (h : Eval P k np L (.long (-x) :: r) H out) : Eval P k pc L (.long x :: r) H out := Eval.of_step hc rfl rfl (by rfl) h
theorem Eval.i2l {x : Int32} (hc : P.code k pc = some (.i2l, np))  (h : Eval P k np L (.long x.toInt64 :: r) H out) : Eval P k pc L (.int x :: r) H out := Eval.of_step hc rfl rfl (by rfl) h
theorem Eval.l2i {x : Int64} (hc : P.code k pc = some (.l2i, np))  (h : Eval P k np L (.int x.toInt32 :: r) H out) : Eval P k pc L (.long x :: r) H out := Eval.of_step hc rfl rfl (by rfl) h
theorem Eval.i2b {x : Int32} (hc : P.code k pc = some (.i2b, np))  (h : Eval P k np L (.int (i8 x) :: r) H out) : Eval P k pc L (.int x :: r) H out := Eval.of_step hc rfl rfl (by rfl) h
theorem Eval.dupR {x : Nat} (hc : P.code k pc = some (.dup, np))  (h : Eval P k np L (.ref x :: .ref x :: r) H out) : Eval P k pc L (.ref x :: r) H out := Eval.of_step hc rfl rfl (by rfl) h
theorem Eval.dupI {x : Int32} (hc : P.code k pc = some (.dup, np))  (h : Eval P k np L (.int x :: .int x :: r) H out) : Eval P k pc L (.int x :: r) H out := Eval.of_step hc rfl rfl (by rfl) h
theorem Eval.dup2 {x : Int32} {y : Nat} (hc : P.code k pc = some (.dup2, np))  (h : Eval P k np L (.int x :: .ref y :: .int x :: .ref y :: r) H out) : Eval P k pc L (.int x :: .ref y :: r) H out := Eval.of_step hc rfl rfl (by rfl) h
theorem Eval.popI {x : Int32} (hc : P.code k pc = some (.pop, np))  (h : Eval P k np L r H out) : Eval P k pc L (.int x :: r) H out := Eval.of_step hc rfl rfl (by rfl) h
theorem Eval.popR {x : Nat} (hc : P.code k pc = some (.pop, np))  (h : Eval P k np L r H out) : Eval P k pc L (.ref x :: r) H out := Eval.of_step hc rfl rfl (by rfl) h
theorem Eval.goto {o : Int} {t : Nat} (hc : P.code k pc = some (.goto o, np)) (ht : tgt pc o = some t) (h : Eval P k t L S H out) : Eval P k pc L S H out := Eval.of_step hc rfl rfl (by simp only [step, ht]) h
theorem Eval.ifT {cd : ClassFile.Cond} {o : Int} {t : Nat} {x : Int32} (hc : P.code k pc = some (.ifCond cd o, np)) (ht : tgt pc o = some t) (hb : if_icmp.holds cd x 0 = true) (h : Eval P k t L r H out) : Eval P k pc L (.int x :: r) H out := Eval.of_step hc rfl rfl (by simp only [step, ht, hb, cond_true]) h
theorem Eval.ifF {cd : ClassFile.Cond} {o : Int} {x : Int32} (hc : P.code k pc = some (.ifCond cd o, np)) (hb : if_icmp.holds cd x 0 = false) (h : Eval P k np L r H out) : Eval P k pc L (.int x :: r) H out := Eval.of_step hc rfl rfl (by simp only [step, hb, cond_false]) h
theorem Eval.icmpT {cd : ClassFile.Cond} {o : Int} {t : Nat} {x y : Int32} (hc : P.code k pc = some (.if_icmp cd o, np)) (ht : tgt pc o = some t) (hb : if_icmp.holds cd x y = true) (h : Eval P k t L r H out) : Eval P k pc L (.int y :: .int x :: r) H out := Eval.of_step hc rfl rfl (by simp only [step, ht, hb, cond_true]) h
theorem Eval.icmpF {cd : ClassFile.Cond} {o : Int} {x y : Int32} (hc : P.code k pc = some (.if_icmp cd o, np)) (hb : if_icmp.holds cd x y = false) (h : Eval P k np L r H out) : Eval P k pc L (.int y :: .int x :: r) H out := Eval.of_step hc rfl rfl (by simp only [step, hb, cond_false]) h
theorem Eval.tswIn {d lo hi o : Int} {offs : Array Int} {t : Nat} {x : Int32} (hc : P.code k pc = some (.tableswitch d lo hi offs, np)) (h1 : (decide (x.toInt < lo) || decide (x.toInt > hi)) = false) (h2 : offs.toList[(x.toInt - lo).toNat]? = some o) (ht : tgt pc o = some t) (h : Eval P k t L r H out) : Eval P k pc L (.int x :: r) H out := Eval.of_step hc rfl rfl (by simp only [step, h1, h2, ht, cond_false]) h
theorem Eval.tswOut {d lo hi : Int} {offs : Array Int} {t : Nat} {x : Int32} (hc : P.code k pc = some (.tableswitch d lo hi offs, np)) (h1 : (decide (x.toInt < lo) || decide (x.toInt > hi)) = true) (ht : tgt pc d = some t) (h : Eval P k t L r H out) : Eval P k pc L (.int x :: r) H out := Eval.of_step hc rfl rfl (by simp only [step, h1, ht, cond_true]) h
theorem Eval.getfield {j f a : Nat} {v : Value} (hc : P.code k pc = some (.getfield j, np)) (hf : P.fld (P.cls k) j = some f) (hg : getC H a f = some v) (h : Eval P k np L (v :: r) H out) : Eval P k pc L (.ref a :: r) H out := Eval.of_step hc rfl rfl (by simp only [step, hf, hg]) h
/-- the heap with a field written -/
def putC (P : Prog) (k : Nat) (H : AHeap) (a f : Nat) (v : Value) : Option AHeap := match P.fields[f]? with
  | some (_, _, t, fin) => (bif (!fin || P.ini k) && Nat.ble P.ro a then (match conv t v with
    | some v' => (match H[a]? with
      | some (.inl fs) => (bif Nat.ble (f + 1) fs.length then some (H.set a (.inl (fs.set f v'))) else none)
      | _ => none)
    | none => none) else none)
  | none => none
theorem putC_spec {P : Prog} {k a f : Nat} {v : Value} {H H1 : AHeap} (hp : putC P k H a f v = some H1) : ∃ n d t fin v' fs, P.fields[f]? = some (n, d, t, fin) ∧ ((!fin || P.ini k) && Nat.ble P.ro a) = true ∧ conv t v = some v' ∧ H[a]? = some (.inl fs) ∧ Nat.ble (f + 1) fs.length = true ∧ H1 = H.set a (.inl (fs.set f v')) := by
  unfold putC at hp
  simp only [Bool.cond_eq_ite] at hp
  split at hp
  · rename_i n d t fin hq
    split at hp
    · rename_i hc
      split at hp
      · rename_i v' hv
        split at hp
        · rename_i fs hfs
          split at hp
          · rename_i hz
            cases hp; exact ⟨n, d, t, fin, v', fs, hq, hc, hv, hfs, hz, rfl⟩
          · cases hp
        · cases hp
      · cases hp
    · cases hp
  · cases hp
theorem step_put {j f a : Nat} {v : Value} {H1 : AHeap} (hf : P.fld (P.cls k) j = some f) (hp : putC P k H a f v = some H1) : step P k (.putfield j) np pc L (v :: .ref a :: r) H = some (np, L, r, H1) := by
  obtain ⟨n, d, t, fin, v', fs, h1, h2, h3, h4, h5, rfl⟩ := putC_spec hp
  simp only [step, hf, h1, h2, h3, h4, h5, cond_true]
theorem Eval.putfield {j f a : Nat} {v : Value} {H1 : AHeap} (hc : P.code k pc = some (.putfield j, np)) (hf : P.fld (P.cls k) j = some f) (hp : putC P k H a f v = some H1) (h : Eval P k np L r H1 out) : Eval P k pc L (v :: .ref a :: r) H out := Eval.of_step hc rfl rfl (step_put hf hp) h
theorem Eval.iaload0 {a : Nat} {j : Int32} {xs : List Int32} (hc : P.code k pc = some (.iaload, np)) (ha : H[a]? = some (.inr (.inl (0, xs)))) (hj : inb xs.length j = true) (h : Eval P k np L (.int (rd xs j) :: r) H out) : Eval P k pc L (.int j :: .ref a :: r) H out := Eval.of_step hc rfl rfl (by simp only [step, ha, hj, cond_true]) h
theorem Eval.iaload {a : Nat} {j : Int32} {xs : List Int32} (hc : P.code k pc = some (.iaload, np)) (ha : H[a]? = some (.inr (.inl (1, xs)))) (hj : inb xs.length j = true) (h : Eval P k np L (.int (rd xs j) :: r) H out) : Eval P k pc L (.int j :: .ref a :: r) H out := Eval.of_step hc rfl rfl (by simp only [step, ha, hj, cond_true]) h
theorem Eval.baloadZ {a : Nat} {j : Int32} {xs : List Int32} (hc : P.code k pc = some (.baload, np)) (ha : H[a]? = some (.inr (.inl (2, xs)))) (hj : inb xs.length j = true) (h : Eval P k np L (.int (rd xs j) :: r) H out) : Eval P k pc L (.int j :: .ref a :: r) H out := Eval.of_step hc rfl rfl (by simp only [step, ha, hj, cond_true]) h
theorem Eval.baloadB {a : Nat} {j : Int32} {xs : List Int32} (hc : P.code k pc = some (.baload, np)) (ha : H[a]? = some (.inr (.inl (3, xs)))) (hj : inb xs.length j = true) (h : Eval P k np L (.int (rd xs j) :: r) H out) : Eval P k pc L (.int j :: .ref a :: r) H out := Eval.of_step hc rfl rfl (by simp only [step, ha, hj, cond_true]) h
theorem Eval.laload {a : Nat} {j : Int32} {xs : List Int64} (hc : P.code k pc = some (.laload, np)) (ha : H[a]? = some (.inr (.inr xs))) (hj : inb xs.length j = true) (h : Eval P k np L (.long (rdL xs j) :: r) H out) : Eval P k pc L (.int j :: .ref a :: r) H out := Eval.of_step hc rfl rfl (by simp only [step, ha, hj, cond_true]) h
theorem Eval.iastore {a : Nat} {j : Int32} {x : Int32} {xs : List Int32} {H1 : AHeap} (hc : P.code k pc = some (.iastore, np)) (hro : Nat.ble P.ro a = true) (ha : H[a]? = some (.inr (.inl (1, xs)))) (hj : inb xs.length j = true) (hH : H.set a (.inr (.inl (1, wr xs j x))) = H1) (h : Eval P k np L r H1 out) : Eval P k pc L (.int x :: .int j :: .ref a :: r) H out := Eval.of_step hc rfl rfl (by subst hH; simp only [step, hro, ha, hj, cond_true]; try rfl) h
theorem Eval.bastoreZ {a : Nat} {j : Int32} {x : Int32} {xs : List Int32} {H1 : AHeap} (hc : P.code k pc = some (.bastore, np)) (hro : Nat.ble P.ro a = true) (ha : H[a]? = some (.inr (.inl (2, xs)))) (hj : inb xs.length j = true) (hH : H.set a (.inr (.inl (2, wr xs j (x &&& 1)))) = H1) (h : Eval P k np L r H1 out) : Eval P k pc L (.int x :: .int j :: .ref a :: r) H out := Eval.of_step hc rfl rfl (by subst hH; simp only [step, hro, ha, hj, cond_true]; try rfl) h
theorem Eval.bastoreB {a : Nat} {j : Int32} {x : Int32} {xs : List Int32} {H1 : AHeap} (hc : P.code k pc = some (.bastore, np)) (hro : Nat.ble P.ro a = true) (ha : H[a]? = some (.inr (.inl (3, xs)))) (hj : inb xs.length j = true) (hH : H.set a (.inr (.inl (3, wr xs j (i8 x)))) = H1) (h : Eval P k np L r H1 out) : Eval P k pc L (.int x :: .int j :: .ref a :: r) H out := Eval.of_step hc rfl rfl (by subst hH; simp only [step, hro, ha, hj, cond_true]; try rfl) h
theorem Eval.lastore {a : Nat} {j : Int32} {x : Int64} {xs : List Int64} {H1 : AHeap} (hc : P.code k pc = some (.lastore, np)) (hro : Nat.ble P.ro a = true) (ha : H[a]? = some (.inr (.inr xs))) (hj : inb xs.length j = true) (hH : H.set a (.inr (.inr (wrL xs j x))) = H1) (h : Eval P k np L r H1 out) : Eval P k pc L (.long x :: .int j :: .ref a :: r) H out := Eval.of_step hc rfl rfl (by subst hH; simp only [step, hro, ha, hj, cond_true]; try rfl) h
theorem Eval.alenI {a t : Nat} {xs : List Int32} (hc : P.code k pc = some (.arraylength, np)) (ha : H[a]? = some (.inr (.inl (t, xs)))) (h : Eval P k np L (.int xs.length.toInt32 :: r) H out) : Eval P k pc L (.ref a :: r) H out := Eval.of_step hc rfl rfl (by simp only [step, ha]) h
theorem Eval.newarray {t : ArrayType} {n : Int32} {q a z N : Nat} {H1 : AHeap} (hc : P.code k pc = some (.newarray t, np)) (hla : H.length = a) (ht : atyOf t = some q) (hn : decide (n < 0) = false) (hN : n.toNatClampNeg = N) (hb : N ≤ 60000) (hC : a + 1 ≤ P.capC) (hz : hsz P H = z) (hS : z + N ≤ P.capS) (hH : H ++ [newC q N] = H1) (h : Eval P k np L (.ref a :: r) H1 out) : Eval P k pc L (.int n :: r) H out := by
  subst hla hN hz
  have hq : (!(decide (n < 0)) && Nat.ble n.toNatClampNeg 60000 && Nat.ble (H.length + 1) P.capC && Nat.ble (hsz P H + n.toNatClampNeg) P.capS) = true := by
    simp only [hn, Bool.not_false, Bool.true_and, Bool.and_eq_true]
    exact ⟨⟨Nat.ble_eq_true_of_le hb, Nat.ble_eq_true_of_le hC⟩, Nat.ble_eq_true_of_le hS⟩
  exact Eval.of_step hc rfl rfl (by simp only [step, ht, hq, cond_true, hH]) h
theorem Eval.new {j q a z : Nat} {H1 : AHeap} (hc : P.code k pc = some (.new j, np)) (hla : H.length = a) (ht : P.link (P.cls k) j = some (5, q)) (hC : a + 1 ≤ P.capC) (hz : hsz P H = z) (hS : z + P.objN ≤ P.capS) (hH : H ++ [.inl P.fresh] = H1) (h : Eval P k np L (.ref a :: S) H1 out) : Eval P k pc L S H out := by
  subst hla hz
  have hq : (Nat.ble (H.length + 1) P.capC && Nat.ble (hsz P H + P.objN) P.capS) = true := by
    simp only [Bool.and_eq_true]
    exact ⟨Nat.ble_eq_true_of_le hC, Nat.ble_eq_true_of_le hS⟩
  exact Eval.of_step hc rfl rfl (by simp only [step, ht, hq, cond_true, hH]) h
theorem Eval.objInit {j a : Nat} (hc : P.code k pc = some (.invokespecial j, np)) (hq : (isObjInit P k j && Nat.ble 1 (P.rf k) && Nat.ble (cats r + 12) (P.rl k)) = true) (h : Eval P k np L r H out) : Eval P k pc L (.ref a :: r) H out := by
  refine Eval.of_step hc rfl ?_ (by simp only [step, hq, cond_true]) h
  simp only [Bool.and_eq_true] at hq
  have h3 := hq.1.1
  unfold isObjInit at h3
  split at h3
  · rename_i kk hk
    simp [callV, poolOf, hk, kindOk]
  · cases h3
/-- the left knows at least what the right knows -/
def lw : ALoc → ALoc → Prop
  | [], b => b = []
  | a :: r, b => ∃ x r', b = x :: r' ∧ (x = none ∨ x = a) ∧ lw r r'
theorem lw.refl : ∀ L : ALoc, lw L L
  | [] => rfl
  | a :: r => ⟨a, r, rfl, Or.inr rfl, lw.refl r⟩
theorem lw.spec : ∀ {L L' : ALoc}, lw L L' → L.length = L'.length ∧ ∀ (i : Nat) v, L'[i]? = some (some v) → L[i]? = some (some v)
  | [], _, h => by cases h; exact ⟨rfl, fun i v q => by simp at q⟩
  | a :: r, _, ⟨x, r', e, h1, h2⟩ => by
    subst e
    obtain ⟨i1, i2⟩ := lw.spec h2
    refine ⟨by simp [i1], fun i v q => ?_⟩
    cases i with
    | zero =>
      simp only [List.getElem?_cons_zero, Option.some.injEq] at q ⊢
      rcases h1 with rfl | rfl
      · cases q
      · exact q
    | succ i => rw [List.getElem?_cons_succ] at q ⊢; exact i2 i v q
theorem lw.of : ∀ {L L' : ALoc}, L.length = L'.length → (∀ (i : Nat) v, L'[i]? = some (some v) → L[i]? = some (some v)) → lw L L'
  | [], L', h, _ => by cases L' with
    | nil => rfl
    | cons _ _ => simp at h
  | a :: r, L', h, q => by
    cases L' with
    | nil => simp at h
    | cons x r' =>
      refine ⟨x, r', rfl, ?_, lw.of (by simpa using h) fun i v e => ?_⟩
      · cases x with
        | none => exact Or.inl rfl
        | some v => have := q 0 v rfl; simp at this; exact Or.inr this.symm
      · have := q (i + 1) v (by rw [List.getElem?_cons_succ]; exact e); rwa [List.getElem?_cons_succ] at this
theorem lw.kill {L L' : ALoc} (h : lw L L') (i : Nat) : lw (kill1 L i) (kill1 L' i) := by
  obtain ⟨h1, h2⟩ := h.spec
  refine lw.of (by rw [kill1_len, kill1_len, h1]) fun j v q => ?_
  obtain ⟨q1, q2⟩ := kill1_get q
  have q3 := h2 _ _ q1
  unfold kill1
  split
  · exact q3
  · rename_i i
    split
    · rename_i x hx
      by_cases e : i = j
      · subst e; rw [hx] at q3; cases q3; exact absurd rfl (q2 rfl x)
      · rw [List.getElem?_set_ne e]; exact q3
    · exact q3
theorem lw.set {L L' : ALoc} (h : lw L L') (i : Nat) (x : Option Value) : lw (L.set i x) (L'.set i x) := by
  obtain ⟨h1, h2⟩ := h.spec
  refine lw.of (by simp [h1]) fun j v q => ?_
  rw [List.getElem?_set] at q ⊢
  split at q
  · rename_i e
    rw [if_pos e, h1]; exact q
  · rename_i e
    rw [if_neg e]; exact h2 _ _ q
theorem lw.put {L L' L1 : ALoc} (h : lw L L') {i : Nat} {v : Value} (hp : lput L' i v = some L1) : ∃ L2, lput L i v = some L2 ∧ lw L2 L1 := by
  unfold lput at hp ⊢
  rw [h.spec.1]
  rw [Bool.cond_eq_ite] at hp ⊢
  split at hp
  · rename_i hc
    cases hp; exact ⟨_, if_pos hc, (h.kill i).set i _⟩
  · cases hp
theorem lw.putL {L L' L1 : ALoc} (h : lw L L') {i : Nat} {v : Int64} (hp : lputL L' i v = some L1) : ∃ L2, lputL L i v = some L2 ∧ lw L2 L1 := by
  unfold lputL at hp ⊢
  rw [h.spec.1]
  rw [Bool.cond_eq_ite] at hp ⊢
  split at hp
  · rename_i hc
    cases hp; exact ⟨_, if_pos hc, ((h.kill i).set i _).set (i + 1) _⟩
  · cases hp
theorem lw.loadI {L L' : ALoc} (h : lw L L') {i : Nat} {x : Int32} (q : OwnX.loadI L' i = some x) : OwnX.loadI L i = some x := by
  unfold OwnX.loadI at q ⊢
  split at q
  · rename_i y hy
    rw [h.spec.2 _ _ hy]; exact q
  · cases q
theorem lw.loadJ {L L' : ALoc} (h : lw L L') {i : Nat} {x : Int64} (q : OwnX.loadJ L' i = some x) : OwnX.loadJ L i = some x := by
  unfold OwnX.loadJ at q ⊢
  split at q
  · rename_i y hy
    rw [h.spec.2 _ _ hy]; exact q
  · cases q
theorem lw.loadA {L L' : ALoc} (h : lw L L') {i x : Nat} (q : OwnX.loadA L' i = some x) : OwnX.loadA L i = some x := by
  unfold OwnX.loadA at q ⊢
  split at q
  · rename_i y hy
    rw [h.spec.2 _ _ hy]; exact q
  · cases q
set_option maxHeartbeats 4000000 in
theorem step_weak {i : Instr} {pc' : Nat} {S' : List Value} {H' : AHeap} {L1 : ALoc} (hw : lw L L') (h : step P k i np pc L' S H = some (pc', L1, S', H')) : ∃ L2, step P k i np pc L S H = some (pc', L2, S', H') ∧ lw L2 L1 := by
  cases i
  case iload_n n =>
    simp only [step] at h ⊢
    split at h
    · rename_i x hx
      rw [hw.loadI hx]; cases h; exact ⟨L, rfl, hw⟩
    · cases h
  case iload n =>
    simp only [step] at h ⊢
    split at h
    · rename_i x hx
      rw [hw.loadI hx]; cases h; exact ⟨L, rfl, hw⟩
    · cases h
  case lload_n n =>
    simp only [step] at h ⊢
    split at h
    · rename_i x hx
      rw [hw.loadJ hx]; cases h; exact ⟨L, rfl, hw⟩
    · cases h
  case lload n =>
    simp only [step] at h ⊢
    split at h
    · rename_i x hx
      rw [hw.loadJ hx]; cases h; exact ⟨L, rfl, hw⟩
    · cases h
  case aload_n n =>
    simp only [step] at h ⊢
    split at h
    · rename_i x hx
      rw [hw.loadA hx]; cases h; exact ⟨L, rfl, hw⟩
    · cases h
  case aload n =>
    simp only [step] at h ⊢
    split at h
    · rename_i x hx
      rw [hw.loadA hx]; cases h; exact ⟨L, rfl, hw⟩
    · cases h
  case istore_n n =>
    simp only [step] at h ⊢
    split at h
    · split at h
      · rename_i L3 hx
        obtain ⟨L2, e1, e2⟩ := hw.put hx
        cases h; exact ⟨L2, by simp only [e1], e2⟩
      · cases h
    · cases h
  case istore n =>
    simp only [step] at h ⊢
    split at h
    · split at h
      · rename_i L3 hx
        obtain ⟨L2, e1, e2⟩ := hw.put hx
        cases h; exact ⟨L2, by simp only [e1], e2⟩
      · cases h
    · cases h
  case astore_n n =>
    simp only [step] at h ⊢
    split at h
    · split at h
      · rename_i L3 hx
        obtain ⟨L2, e1, e2⟩ := hw.put hx
        cases h; exact ⟨L2, by simp only [e1], e2⟩
      · cases h
    · cases h
  case astore n =>
    simp only [step] at h ⊢
    split at h
    · split at h
      · rename_i L3 hx
        obtain ⟨L2, e1, e2⟩ := hw.put hx
        cases h; exact ⟨L2, by simp only [e1], e2⟩
      · cases h
    · cases h
  case lstore_n n =>
    simp only [step] at h ⊢
    split at h
    · split at h
      · rename_i L3 hx
        obtain ⟨L2, e1, e2⟩ := hw.putL hx
        cases h; exact ⟨L2, by simp only [e1], e2⟩
      · cases h
    · cases h
  case lstore n =>
    simp only [step] at h ⊢
    split at h
    · split at h
      · rename_i L3 hx
        obtain ⟨L2, e1, e2⟩ := hw.putL hx
        cases h; exact ⟨L2, by simp only [e1], e2⟩
      · cases h
    · cases h
  case iinc n c =>
    simp only [step] at h ⊢
    split at h
    · rename_i x hx
      rw [hw.loadI hx]
      split at h
      · rename_i L3 hp
        obtain ⟨L2, e1, e2⟩ := hw.put hp
        cases h; exact ⟨L2, by simp only [e1], e2⟩
      · cases h
    · cases h
  all_goals
    simp only [step, Bool.cond_eq_ite] at h ⊢
    repeat' (split at h)
  all_goals first
    | (cases h; done)
    | (simp only [Option.some.injEq, Prod.mk.injEq] at h; obtain ⟨rfl, rfl, rfl, rfl⟩ := h; refine ⟨L, ?_, hw⟩; first | rfl | (simp only [*, if_true, if_false]; done) | (simp [*]; done))
theorem run_weak : ∀ (n : Nat) {pc : Nat} {L L' : ALoc} {S : List Value} {H : AHeap} {out : Option Value × AHeap}, lw L L' → run P n k pc L' S H = some out → run P n k pc L S H = some out
  | 0, _, _, _, _, _, _, _, h => by simp [run] at h
  | n + 1, pc, L, L', S, H, out, hw, h => by
    rw [run] at h
    rw [run]
    split at h
    · cases h
    · rename_i i np hc
      try simp only [hc]
      split at h
      · rename_i v hv
        try simp only [hv]
        exact h
      · rename_i hv
        try simp only [hv]
        split at h
        · rename_i k' as rest hcall
          try simp only [hcall]
          split at h
          · rename_i v1 H1 h1
            try simp only [h1]
            exact run_weak n hw h
          · cases h
        · rename_i hcall
          try simp only [hcall]
          split at h
          · rename_i pc1 L1 S1 H1 h1
            obtain ⟨L2, e1, e2⟩ := step_weak hw h1
            simp only [e1]; exact run_weak n e2 h
          · cases h
theorem Eval.weak (hw : lw L L') (h : Eval P k pc L' S H out) : Eval P k pc L S H out := by
  obtain ⟨n, h⟩ := h
  exact ⟨n, run_weak n hw h⟩
end Rules
end Jvm.OwnX
namespace Jvm.OwnX
open Sem ClassFile Op Lib Jvm.Stand Jvm.Free Jvm.LawKit Jvm.RoadKit
/-! ## tables as lists -/
def findC : List (Nat × Instr × Nat) → Nat → Option (Instr × Nat)
  | [], _ => none
  | (q, x) :: r, pc => bif Nat.beq q pc then some x else findC r pc
abbrev CodeL := List (ByteArray × List (List (Nat × Instr × Nat)))
def codeAt (cs : CodeL) (k pc : Nat) : Option (Instr × Nat) := match cs[k]? with
  | some (_, ch) => (match ch[pc / 32]? with | some c => findC c pc | none => none)
  | none => none
def bcOf (cs : CodeL) (k : Nat) : ByteArray := match cs[k]? with | some (b, _) => b | none => ⟨#[]⟩
def okI (b : ByteArray) (e : Nat × Instr × Nat) : Bool := match decode b e.1 with
  | .ok (i, len) => decide (i = e.2.1) && Nat.beq (e.1 + len) e.2.2 && (Nat.beq (ilen i) 0 || Nat.beq len (ilen i))
  | _ => false
def okCs (cs : CodeL) : Bool := cs.all fun m => m.2.all fun c => c.all (okI m.1)
def tyCs (ty : ArrayType → Bool) (cs : CodeL) : Bool := cs.all fun m => m.2.all fun c => c.all fun e => match e.2.1 with | .newarray t => ty t | _ => true
theorem findC_mem : ∀ {l : List (Nat × Instr × Nat)} {pc : Nat} {x : Instr × Nat}, findC l pc = some x → (pc, x) ∈ l
  | [], pc, x, h => by cases h
  | (q, y) :: r, pc, x, h => by
    unfold findC at h
    cases hb : Nat.beq q pc
    · rw [hb] at h; exact List.mem_cons_of_mem _ (findC_mem h)
    · rw [hb] at h; cases h
      have : q = pc := Nat.eq_of_beq_eq_true hb
      subst this; exact List.mem_cons_self ..
theorem codeAt_mem {cs : CodeL} {k pc : Nat} {x : Instr × Nat} (h : codeAt cs k pc = some x) : ∃ m ∈ cs, bcOf cs k = m.1 ∧ ∃ c ∈ m.2, (pc, x) ∈ c := by
  unfold codeAt at h
  split at h
  · rename_i b ch hk
    split at h
    · rename_i c hc
      exact ⟨(b, ch), List.mem_of_getElem? hk, by simp [bcOf, hk], c, List.mem_of_getElem? hc, findC_mem h⟩
    · cases h
  · cases h
theorem code_ok {cs : CodeL} (h : okCs cs = true) {k pc : Nat} {i : Instr} {np : Nat} (hc : codeAt cs k pc = some (i, np)) : ∃ len, decode (bcOf cs k) pc = .ok (i, len) ∧ np = pc + len ∧ (ilen i = 0 ∨ len = ilen i) := by
  obtain ⟨m, h1, h2, c, h3, h4⟩ := codeAt_mem hc
  have q := List.all_eq_true.mp (List.all_eq_true.mp (List.all_eq_true.mp h m h1) c h3) _ h4
  unfold okI at q
  rw [h2]
  split at q
  · rename_i i' len hd
    simp only [Bool.and_eq_true, Bool.or_eq_true, decide_eq_true_eq] at q
    obtain ⟨⟨rfl, q2⟩, q3⟩ := q
    refine ⟨len, hd, (Nat.eq_of_beq_eq_true q2).symm, q3.elim (fun z => Or.inl (Nat.eq_of_beq_eq_true z)) fun z => Or.inr (Nat.eq_of_beq_eq_true z)⟩
  · cases q
theorem code_ty {ty : ArrayType → Bool} {cs : CodeL} (h : tyCs ty cs = true) {k pc : Nat} {t : ArrayType} {np : Nat} (hc : codeAt cs k pc = some (.newarray t, np)) : ty t = true := by
  obtain ⟨m, h1, h2, c, h3, h4⟩ := codeAt_mem hc
  exact List.all_eq_true.mp (List.all_eq_true.mp (List.all_eq_true.mp h m h1) c h3) _ h4
def lookT {α : Type} : List (Nat × Nat × α) → Nat → Nat → Option α
  | [], _, _ => none
  | (c', j', x) :: r, c, j => bif Nat.beq j' j && Nat.beq c' c then some x else lookT r c j
theorem lookT_mem {α : Type} : ∀ {l : List (Nat × Nat × α)} {c j : Nat} {x : α}, lookT l c j = some x → (c, j, x) ∈ l
  | [], c, j, x, h => by cases h
  | (c', j', y) :: r, c, j, x, h => by
    unfold lookT at h
    cases hb : (Nat.beq j' j && Nat.beq c' c)
    · rw [hb] at h; exact List.mem_cons_of_mem _ (lookT_mem h)
    · rw [hb] at h; cases h
      simp only [Bool.and_eq_true] at hb
      have h1 : j' = j := Nat.eq_of_beq_eq_true hb.1
      have h2 : c' = c := Nat.eq_of_beq_eq_true hb.2
      subst h1 h2; exact List.mem_cons_self ..
def AllP {α : Type} (p : α → Prop) : List α → Prop
  | [] => True
  | a :: r => p a ∧ AllP p r
theorem AllP.mem {α : Type} {p : α → Prop} : ∀ {l : List α}, AllP p l → ∀ a ∈ l, p a
  | [], _, a, h => nomatch h
  | _ :: _, ⟨h1, h2⟩, a, h => (List.mem_cons.mp h).elim (fun e => e ▸ h1) (AllP.mem h2 a)
def FldOk (P : Prog) (cn : Nat → String) (C : String) (Z : State) (a0 : Array Value) (e : Nat × Nat × Nat) : Prop := ∃ n d t fin, P.fields[e.2.2]? = some (n, d, t, fin) ∧ (Cond.fieldLink (cn e.1) e.2.1 C n d).before a0 Z = true
def FieldOk (C : String) (Z : State) (a0 : Array Value) (e : String × String × Nat × Bool) : Prop := (bif e.2.2.2 then (Cond.laysFinal C C e.1 e.2.1).before a0 Z else (Cond.lays C C e.1 e.2.1).before a0 Z) = true ∧ ∃ ty, parseFieldDescriptor e.2.1 = some ty ∧ tyOk e.2.2.1 ty = true ∧ defaultValue ty = dflt e.2.2.1
theorem good_of {cs : CodeL} {mi : Nat → MI} {links : List (Nat × Nat × Nat × Nat)} {flds : List (Nat × Nat × Nat)} {kons : List (Nat × Nat × Value)} {fields : List (String × String × Nat × Bool)} {objN ro cc cS : Nat} {nm : Nat → MethodName} {cn : Nat → String} {C : String} {Z : State} {a0 : Array Value} {ty : ArrayType → Bool} {P : Prog}
    (hP : P = (codeAt cs, mi, lookT links, lookT flds, lookT kons, fields, objN, ro, cc, cS)) (h1 : okCs cs = true) (h2 : AllP (FldOk P cn C Z a0) flds) (h3 : AllP (FieldOk C Z a0) fields) (h4 : (fields.map (·.1)).Nodup) (h5 : AllP (fun e => KonOk cn Z a0 e.1 e.2.1 e.2.2) kons)
    (h6 : (Cond.instantiable C objN).before a0 Z = true) (h7 : (Cond.initialized C).before a0 Z = true) (h8 : tyCs ty cs = true) (h8' : ∀ t, ty t = true → (Cond.arrayClass (newarray.typeOf t)).before a0 Z = true) (h9 : AllP (fun e => LinkOk P nm (bcOf cs) cn C Z a0 e.1 e.2.1 e.2.2.1 e.2.2.2) links) : Good P nm (bcOf cs) cn C Z a0 := by
  subst hP
  refine ⟨fun k pc i np h => code_ok h1 h, fun c j f h => h2.mem _ (lookT_mem h), fun f n d t fin h => h3.mem _ (List.mem_of_getElem? h), fun f g n d t fin n' d' t' fin' q1 q2 ne e => ?_, fun c j v h => h5.mem _ (lookT_mem h), h6, h7, fun k pc t np h => h8' _ (code_ty h8 h), fun c j q k h => h9.mem _ (lookT_mem h)⟩
  subst e
  have e1 : (fields.map (·.1))[f]? = some n := by rw [List.getElem?_map]; exact congrArg (Option.map (·.1)) q1
  have e2 : (fields.map (·.1))[g]? = some n := by rw [List.getElem?_map]; exact congrArg (Option.map (·.1)) q2
  exact ne ((List.getElem?_inj (List.getElem?_eq_some_iff.mp e1).1 h4).mp (e1.trans e2.symm))
/-! ## what the walks of functions use -/
theorem ite_some {α : Type} {c : Prop} [Decidable c] {a : Option α} {r : α} (h : (if c then a else none) = some r) : c ∧ a = some r := by
  by_cases hc : c
  · rw [if_pos hc] at h; exact ⟨hc, h⟩
  · rw [if_neg hc] at h; cases h
theorem ite_none {α : Type} {c : Prop} [Decidable c] {a : Option α} {r : α} (h : (if c then none else a) = some r) : ¬ c ∧ a = some r := by
  by_cases hc : c
  · rw [if_pos hc] at h; cases h
  · rw [if_neg hc] at h; exact ⟨hc, h⟩
theorem bind_some {α β : Type} {o : Option α} {f : α → Option β} {r : β} (h : o.bind f = some r) : ∃ a, o = some a ∧ f a = some r := Option.bind_eq_some_iff.mp h
section Calls
variable {P : Prog} {k pc np : Nat} {L L' : ALoc} {S S' : List Value} {H H1 : AHeap} {out : Option Value × AHeap} {i : Instr} {k' : Nat} {as rest : List Value}
theorem Eval.callI {x : Int32} (hc : P.code k pc = some (i, np)) (h2 : callV P k i S H = some (k', as, rest)) (he : Eval P k' 0 (entry P k' as) [] H (some (.int x), H1)) (h : Eval P k np L (.int x :: rest) H1 out) : Eval P k pc L S H out := Eval.call hc h2 he h
theorem Eval.callJ {x : Int64} (hc : P.code k pc = some (i, np)) (h2 : callV P k i S H = some (k', as, rest)) (he : Eval P k' 0 (entry P k' as) [] H (some (.long x), H1)) (h : Eval P k np L (.long x :: rest) H1 out) : Eval P k pc L S H out := Eval.call hc h2 he h
theorem Eval.callN (hc : P.code k pc = some (i, np)) (h2 : callV P k i S H = some (k', as, rest)) (he : Eval P k' 0 (entry P k' as) [] H (none, H1)) (h : Eval P k np L rest H1 out) : Eval P k pc L S H out := Eval.call hc h2 he h
theorem Eval.conv (h : Eval P k pc L S H out) (e1 : L = L') (e2 : S = S') : Eval P k pc L' S' H out := e1 ▸ e2 ▸ h
theorem Eval.heap {H' : AHeap} (e : H' = H) (h : Eval P k pc L S H' out) : Eval P k pc L S H out := e ▸ h
theorem Eval.retH {H' : AHeap} {v : Option Value} (e : H' = H) (hc : P.code k pc = some (i, np)) (h1 : retV P k i S = some v) : Eval P k pc L S H (v, H') := e ▸ Eval.ret hc h1
end Calls
end Jvm.OwnX
namespace Jvm.OwnX
open Sem ClassFile Op Lib Jvm.Stand Jvm.Free Jvm.LawKit Jvm.RoadKit
theorem HR.none (P : Prog) (C : String) (Z : State) (n0 : Nat) (h : Heap) : HR P C Z n0 [] [] h := ⟨rfl, fun i j a q => by simp at q, fun i a q => by simp at q, fun i c q => by simp at q⟩
def intOf : Value → Int32
  | .int x => x
  | _ => 0
theorem script_start {P : Prog} {C : String} {s : State} {a : Addr} {c : Cell} (hro : P.ro = 1) (hf : Fit s) (A : Arr s s.heap a c .int) : HR P C s s.heap.size [a] [.inr (.inl (0, c.slots.toList.map intOf))] s.heap := by
  have hlt := (Array.getElem?_eq_some_iff.mp A.1).1
  have hint : ∀ i (hi : i < c.slots.size), ∃ x, c.slots[i] = .int x := fun i hi => by
    have q := hf A.1 hi
    obtain ⟨hs, k, hk, comp, hkind⟩ := A.2.1
    have e : s.slotType? c.cls c.vm i = some .int := by
      cases hq : c.vm <;> first | exact absurd hq (hs _) | simp [State.slotType?, hk, hkind]
    have q2 : fits .int c.slots[i] = true := by simpa [State.fitsSlot, e] using q
    exact fit_I q2 (Or.inl rfl)
  refine ⟨rfl, fun i j x q1 q2 => ?_, fun i x q => ?_, fun i d q => ?_⟩
  · cases i with
    | zero => cases j with
      | zero => rfl
      | succ j => simp at q2
    | succ i => simp at q1
  · cases i with
    | zero => simp at q; subst q; exact ⟨hlt, fun h => by rw [hro] at h; omega⟩
    | succ i => simp at q
  · cases i with
    | zero =>
      simp at q; subst q
      refine ⟨a, rfl, c, A, by simp, fun j x hx => ?_⟩
      rw [List.getElem?_map] at hx
      obtain ⟨v, hv, rfl⟩ := Option.map_eq_some_iff.mp hx
      rw [Array.getElem?_toList] at hv
      obtain ⟨hj, rfl⟩ := Array.getElem?_eq_some_iff.mp hv
      obtain ⟨x, e⟩ := hint j hj
      rw [Array.getElem?_eq_getElem hj, e]; rfl
    | succ i => simp at q
end Jvm.OwnX
namespace Jvm.OwnX
/-! ## plain facts on the functions' words -/
theorem len_wr (xs : List Int32) (j v : Int32) : (wr xs j v).length = xs.length := by simp [wr]
theorem len_wrL (xs : List Int64) (j : Int32) (v : Int64) : (wrL xs j v).length = xs.length := by simp [wrL]
theorem rd_wr_same {xs : List Int32} {j : Int32} (h : inb xs.length j = true) (v : Int32) : rd (wr xs j v) j = v := by
  have := inb_lt h
  simp [rd, wr, List.getD_eq_getElem?_getD, this]
theorem rdL_wrL_same {xs : List Int64} {j : Int32} (h : inb xs.length j = true) (v : Int64) : rdL (wrL xs j v) j = v := by
  have := inb_lt h
  simp [rdL, wrL, List.getD_eq_getElem?_getD, this]
theorem nat_inj {i j : Int32} (hi : ¬ i < 0) (hj : ¬ j < 0) (h : i.toNatClampNeg = j.toNatClampNeg) : i = j := by
  apply Int32.toInt_inj.mp
  simp only [Int32.lt_iff_toInt_lt, Int32.toNatClampNeg, Int32.reduceToInt] at hi hj h; omega
theorem inb_nn {n : Nat} {j : Int32} (h : inb n j = true) : ¬ j < 0 := fun q => inb_spec h (Or.inl q)
theorem rd_wr_ne {xs : List Int32} {i j : Int32} (hi : ¬ i < 0) (hj : ¬ j < 0) (h : i ≠ j) (v : Int32) : rd (wr xs i v) j = rd xs j := by
  have : i.toNatClampNeg ≠ j.toNatClampNeg := fun q => h (nat_inj hi hj q)
  simp [rd, wr, List.getD_eq_getElem?_getD, List.getElem?_set_ne this]
theorem rdL_wrL_ne {xs : List Int64} {i j : Int32} (hi : ¬ i < 0) (hj : ¬ j < 0) (h : i ≠ j) (v : Int64) : rdL (wrL xs i v) j = rdL xs j := by
  have : i.toNatClampNeg ≠ j.toNatClampNeg := fun q => h (nat_inj hi hj q)
  simp [rdL, wrL, List.getD_eq_getElem?_getD, List.getElem?_set_ne this]
theorem rd_rep (n : Nat) (j : Int32) : rd (List.replicate n 0) j = 0 := by
  simp only [rd, List.getD_eq_getElem?_getD, List.getElem?_replicate]; split <;> rfl
theorem rdL_rep (n : Nat) (j : Int32) : rdL (List.replicate n 0) j = 0 := by
  simp only [rdL, List.getD_eq_getElem?_getD, List.getElem?_replicate]; split <;> rfl
theorem inb_iff {n : Nat} {j : Int32} : inb n j = true ↔ 0 ≤ j.toInt ∧ j.toInt < n := by
  simp only [inb, Bool.and_eq_true, Bool.not_eq_true', decide_eq_false_iff_not, Int32.lt_iff_toInt_lt, Int32.reduceToInt]
  constructor
  · rintro ⟨h1, h2⟩
    have h3 := Nat.le_of_ble_eq_true h2
    simp only [Int32.toNatClampNeg] at h3
    omega
  · rintro ⟨h1, h2⟩
    refine ⟨by omega, Nat.ble_eq_true_of_le ?_⟩
    simp only [Int32.toNatClampNeg]; omega
theorem lt32 {x y : Int32} : x < y ↔ x.toInt < y.toInt := Int32.lt_iff_toInt_lt
theorem eq32 {x y : Int32} : x = y ↔ x.toInt = y.toInt := Int32.toInt_inj.symm
end Jvm.OwnX
namespace Jvm.Pilot.@@N@@
open Jvm Jvm.ClassFile Sem Op Lib Jvm.Free Jvm.Stand Jvm.LawKit Jvm.RoadKit Bundle Jvm.Pilot.@@N@@.Jvm.D Jvm.OwnX
/-! # tables (printed by gen.py out of the claim's listing and sheet) -/
def own_cs : CodeL := [
  (code, [
    [(0, .iconst 2, 1), (1, .iload_n 0, 2), (2, .bipush 7, 4), (4, .iand, 5), (5, .iadd, 6), (6, .istore_n 3, 7), (7, .iconst 1, 8), (8, .iload_n 1, 9), (9, .bipush 15, 11), (11, .iand, 12), (12, .iload_n 3, 13), (13, .iconst 1, 14), (14, .isub, 15), (15, .irem, 16), (16, .iadd, 17), (17, .istore 4, 19), (19, .iconst 1, 20), (20, .iload_n 2, 21), (21, .bipush 15, 23), (23, .iand, 24), (24, .iload_n 3, 25), (25, .iload 4, 27), (27, .isub, 28), (28, .irem, 29), (29, .iadd, 30), (30, .istore 5, 32)],
    [(32, .new 7, 35), (35, .dup, 36), (36, .iload_n 3, 37), (37, .iconst 0, 38), (38, .iconst 0, 39), (39, .iconst 0, 40), (40, .invokespecial 9, 43), (43, .astore 6, 45), (45, .aload 6, 47), (47, .iload_n 3, 48), (48, .iconst 0, 49), (49, .iconst 0, 50), (50, .iconst 0, 51), (51, .invokevirtual 12, 54), (54, .ifCond .eq 5, 57), (57, .iconst 0, 58), (58, .ireturn, 59), (59, .aload 6, 61), (61, .iload_n 3, 62), (62, .iconst 0, 63), (63, .iconst 0, 64)],
    [(64, .iconst 0, 65), (65, .invokevirtual 12, 68), (68, .iconst 1, 69), (69, .if_icmp .eq 5, 72), (72, .iconst 0, 73), (73, .ireturn, 74), (74, .aload 6, 76), (76, .iconst 0, 77), (77, .iconst 1, 78), (78, .iconst 0, 79), (79, .iload 4, 81), (81, .invokevirtual 16, 84), (84, .ifCond .eq 5, 87), (87, .iconst 0, 88), (88, .ireturn, 89), (89, .aload 6, 91), (91, .iconst 0, 92), (92, .iconst 2, 93), (93, .iconst 0, 94), (94, .iload 4, 96)],
    [(96, .invokevirtual 16, 99), (99, .ifCond .eq 5, 102), (102, .iconst 0, 103), (103, .ireturn, 104), (104, .aload 6, 106), (106, .iconst 0, 107), (107, .iconst 3, 108), (108, .iconst 0, 109), (109, .iconst 0, 110), (110, .invokevirtual 16, 113), (113, .ifCond .eq 5, 116), (116, .iconst 0, 117), (117, .ireturn, 118), (118, .aload 6, 120), (120, .iconst 1, 121), (121, .iconst 1, 122), (122, .iconst 0, 123), (123, .iload 5, 125), (125, .invokevirtual 16, 128)],
    [(128, .ifCond .eq 5, 131), (131, .iconst 0, 132), (132, .ireturn, 133), (133, .aload 6, 135), (135, .iconst 1, 136), (136, .iconst 2, 137), (137, .iconst 0, 138), (138, .iload 5, 140), (140, .invokevirtual 16, 143), (143, .ifCond .eq 5, 146), (146, .iconst 0, 147), (147, .ireturn, 148), (148, .aload 6, 150), (150, .iconst 1, 151), (151, .iconst 3, 152), (152, .iconst 0, 153), (153, .iconst 0, 154), (154, .invokevirtual 16, 157), (157, .ifCond .eq 5, 160)],
    [(160, .iconst 0, 161), (161, .ireturn, 162), (162, .aload 6, 164), (164, .iconst 0, 165), (165, .invokevirtual 19, 168), (168, .iconst 1, 169), (169, .if_icmp .eq 5, 172), (172, .iconst 0, 173), (173, .ireturn, 174), (174, .aload 6, 176), (176, .iconst 1, 177), (177, .invokevirtual 19, 180), (180, .iconst 5, 181), (181, .if_icmp .eq 5, 184), (184, .iconst 0, 185), (185, .ireturn, 186), (186, .aload 6, 188), (188, .iconst 1, 189), (189, .invokevirtual 23, 192)],
    [(192, .iconst 2, 193), (193, .if_icmp .eq 5, 196), (196, .iconst 0, 197), (197, .ireturn, 198), (198, .aload 6, 200), (200, .invokevirtual 26, 203), (203, .iconst 1, 204), (204, .if_icmp .eq 5, 207), (207, .iconst 0, 208), (208, .ireturn, 209), (209, .aload 6, 211), (211, .iconst 0, 212), (212, .invokevirtual 30, 215), (215, .iconst 1, 216), (216, .if_icmp .eq 5, 219), (219, .iconst 0, 220), (220, .ireturn, 221), (221, .aload 6, 223), (223, .iconst 0, 224)],
    [(224, .invokevirtual 33, 227), (227, .iload_n 3, 228), (228, .iload 4, 230), (230, .isub, 231), (231, .if_icmp .eq 5, 234), (234, .iconst 0, 235), (235, .ireturn, 236), (236, .aload 6, 238), (238, .invokevirtual 36, 241), (241, .iconst 2, 242), (242, .if_icmp .eq 5, 245), (245, .iconst 0, 246), (246, .ireturn, 247), (247, .aload 6, 249), (249, .iconst 0, 250), (250, .invokevirtual 39, 253), (253, .ifCond .eq 5, 256)],
    [(256, .iconst 0, 257), (257, .ireturn, 258), (258, .aload 6, 260), (260, .iconst 1, 261), (261, .invokevirtual 39, 264), (264, .iconst 1, 265), (265, .if_icmp .eq 5, 268), (268, .iconst 0, 269), (269, .ireturn, 270), (270, .aload 6, 272), (272, .iconst 0, 273), (273, .invokevirtual 19, 276), (276, .iconst 2, 277), (277, .if_icmp .eq 5, 280), (280, .iconst 0, 281), (281, .ireturn, 282), (282, .aload 6, 284), (284, .iconst 1, 285), (285, .invokevirtual 23, 288)],
    [(288, .iconst 1, 289), (289, .if_icmp .eq 5, 292), (292, .iconst 0, 293), (293, .ireturn, 294), (294, .aload 6, 296), (296, .iconst 1, 297), (297, .invokevirtual 42, 300), (300, .iconst 1, 301), (301, .if_icmp .eq 5, 304), (304, .iconst 0, 305), (305, .ireturn, 306), (306, .aload 6, 308), (308, .iconst 1, 309), (309, .iconst 0, 310), (310, .invokevirtual 45, 313), (313, .iload 5, 315), (315, .if_icmp .eq 5, 318), (318, .iconst 0, 319), (319, .ireturn, 320)],
    [(320, .aload 6, 322), (322, .iconst 0, 323), (323, .invokevirtual 33, 326), (326, .iload_n 3, 327), (327, .iload 5, 329), (329, .isub, 330), (330, .if_icmp .eq 5, 333), (333, .iconst 0, 334), (334, .ireturn, 335), (335, .aload 6, 337), (337, .invokevirtual 26, 340), (340, .ifCond .eq 5, 343), (343, .iconst 0, 344), (344, .ireturn, 345), (345, .aload 6, 347), (347, .iconst 0, 348), (348, .invokevirtual 39, 351), (351, .iconst 1, 352)],
    [(352, .if_icmp .eq 5, 355), (355, .iconst 0, 356), (356, .ireturn, 357), (357, .aload 6, 359), (359, .iconst 1, 360), (360, .invokevirtual 39, 363), (363, .ifCond .eq 5, 366), (366, .iconst 0, 367), (367, .ireturn, 368), (368, .aload 6, 370), (370, .iconst 1, 371), (371, .invokevirtual 19, 374), (374, .iconst 2, 375), (375, .if_icmp .eq 5, 378), (378, .iconst 0, 379), (379, .ireturn, 380), (380, .aload 6, 382), (382, .iconst 0, 383), (383, .invokevirtual 19, 386)],
    [(386, .iconst 3, 387), (387, .if_icmp .eq 5, 390), (390, .iconst 0, 391), (391, .ireturn, 392), (392, .aload 6, 394), (394, .iconst 1, 395), (395, .invokevirtual 19, 398), (398, .iconst 3, 399), (399, .if_icmp .eq 5, 402), (402, .iconst 0, 403), (403, .ireturn, 404), (404, .aload 6, 406), (406, .iconst 0, 407), (407, .invokevirtual 33, 410), (410, .iload_n 3, 411), (411, .if_icmp .eq 5, 414), (414, .iconst 0, 415), (415, .ireturn, 416)],
    [(416, .aload 6, 418), (418, .iconst 0, 419), (419, .invokevirtual 23, 422), (422, .iconst 3, 423), (423, .if_icmp .eq 5, 426), (426, .iconst 0, 427), (427, .ireturn, 428), (428, .aload 6, 430), (430, .iconst 1, 431), (431, .invokevirtual 23, 434), (434, .iconst 3, 435), (435, .if_icmp .eq 5, 438), (438, .iconst 0, 439), (439, .ireturn, 440), (440, .aload 6, 442), (442, .invokevirtual 36, 445), (445, .ifCond .ne 7, 448)],
    [(448, .iconst 1, 449), (449, .goto 4, 452), (452, .iconst 0, 453), (453, .ireturn, 454)]]),
  (prog_1_method_1_code, [
    [(0, .aload_n 0, 1), (1, .invokespecial 1, 4), (4, .aload_n 0, 5), (5, .iconst 4, 6), (6, .newarray .int, 8), (8, .putfield 7, 11), (11, .aload_n 0, 12), (12, .iconst 4, 13), (13, .newarray .int, 15), (15, .putfield 13, 18), (18, .aload_n 0, 19), (19, .bipush 32, 21), (21, .newarray .int, 23), (23, .putfield 16, 26), (26, .aload_n 0, 27), (27, .bipush 32, 29), (29, .newarray .int, 31), (31, .putfield 19, 34)],
    [(34, .aload_n 0, 35), (35, .bipush 64, 37), (37, .newarray .int, 39), (39, .putfield 22, 42), (42, .aload_n 0, 43), (43, .bipush 64, 45), (45, .newarray .int, 47), (47, .putfield 25, 50), (50, .aload_n 0, 51), (51, .bipush 64, 53), (53, .newarray .int, 55), (55, .putfield 28, 58), (58, .aload_n 0, 59), (59, .bipush 8, 61), (61, .newarray .int, 63), (63, .putfield 31, 66)],
    [(66, .aload_n 0, 67), (67, .bipush 8, 69), (69, .newarray .int, 71), (71, .putfield 34, 74), (74, .aload_n 0, 75), (75, .bipush 8, 77), (77, .newarray .int, 79), (79, .putfield 37, 82), (82, .aload_n 0, 83), (83, .bipush 8, 85), (85, .newarray .int, 87), (87, .putfield 40, 90), (90, .aload_n 0, 91), (91, .iconst 4, 92), (92, .newarray .int, 94), (94, .putfield 43, 97)],
    [(97, .aload_n 0, 98), (98, .bipush 8, 100), (100, .newarray .boolean, 102), (102, .putfield 46, 105), (105, .aload_n 0, 106), (106, .bipush 8, 108), (108, .newarray .int, 110), (110, .putfield 50, 113), (113, .aload_n 0, 114), (114, .getfield 7, 117), (117, .iconst 0, 118), (118, .aload_n 0, 119), (119, .iload_n 1, 120), (120, .iconst 0, 121), (121, .bipush 15, 123), (123, .invokevirtual 53, 126), (126, .iastore, 127), (127, .aload_n 0, 128)],
    [(128, .getfield 7, 131), (131, .iconst 1, 132), (132, .aload_n 0, 133), (133, .iload_n 2, 134), (134, .iconst 0, 135), (135, .bipush 15, 137), (137, .invokevirtual 53, 140), (140, .iastore, 141), (141, .aload_n 0, 142), (142, .getfield 7, 145), (145, .iconst 2, 146), (146, .aload_n 0, 147), (147, .iload_n 3, 148), (148, .iconst 0, 149), (149, .bipush 15, 151), (151, .invokevirtual 53, 154), (154, .iastore, 155), (155, .aload_n 0, 156), (156, .getfield 7, 159), (159, .iconst 3, 160)],
    [(160, .aload_n 0, 161), (161, .iload 4, 163), (163, .iconst 0, 164), (164, .bipush 15, 166), (166, .invokevirtual 53, 169), (169, .iastore, 170), (170, .iconst 0, 171), (171, .istore 5, 173), (173, .iload 5, 175), (175, .iconst 4, 176), (176, .if_icmp .ge 23, 179), (179, .aload_n 0, 180), (180, .getfield 13, 183), (183, .iload 5, 185), (185, .aload_n 0, 186), (186, .getfield 7, 189), (189, .iload 5, 191), (191, .iaload, 192)],
    [(192, .iastore, 193), (193, .iinc 5 1, 196), (196, .goto (-23), 199), (199, .aload_n 0, 200), (200, .iconst 0, 201), (201, .putfield 57, 204), (204, .aload_n 0, 205), (205, .iconst 0, 206), (206, .putfield 61, 209), (209, .aload_n 0, 210), (210, .iconst 0, 211), (211, .putfield 64, 214), (214, .aload_n 0, 215), (215, .iconst 0, 216), (216, .putfield 67, 219), (219, .return_, 220)]]),
  (prog_1_method_2_code, [
    [(0, .iload_n 1, 1), (1, .iload_n 2, 2), (2, .if_icmp .ge 5, 5), (5, .iload_n 2, 6), (6, .ireturn, 7), (7, .iload_n 1, 8), (8, .iload_n 3, 9), (9, .if_icmp .le 5, 12), (12, .iload_n 3, 13), (13, .ireturn, 14), (14, .iload_n 1, 15), (15, .ireturn, 16)]]),
  (prog_1_method_7_code, [
    [(0, .aload_n 0, 1), (1, .getfield 61, 4), (4, .bipush 8, 6), (6, .if_icmp .lt 6, 9), (9, .bipush (-8), 11), (11, .ireturn, 12), (12, .aload_n 0, 13), (13, .iload_n 1, 14), (14, .iconst 0, 15), (15, .invokevirtual 70, 18), (18, .ifCond .eq 31, 21), (21, .aload_n 0, 22), (22, .iload_n 2, 23), (23, .iconst 1, 24), (24, .invokevirtual 70, 27), (27, .ifCond .eq 22, 30), (30, .aload_n 0, 31), (31, .iload_n 3, 32)],
    [(32, .iconst 2, 33), (33, .invokevirtual 70, 36), (36, .ifCond .eq 13, 39), (39, .aload_n 0, 40), (40, .iload 4, 42), (42, .iconst 3, 43), (43, .invokevirtual 70, 46), (46, .ifCond .ne 6, 49), (49, .bipush (-9), 51), (51, .ireturn, 52), (52, .aload_n 0, 53), (53, .getfield 61, 56), (56, .istore 5, 58), (58, .iload 5, 60), (60, .iconst 4, 61), (61, .imul, 62), (62, .istore 6, 64)],
    [(64, .aload_n 0, 65), (65, .getfield 16, 68), (68, .iload 6, 70), (70, .iload_n 1, 71), (71, .iastore, 72), (72, .aload_n 0, 73), (73, .getfield 16, 76), (76, .iload 6, 78), (78, .iconst 1, 79), (79, .iadd, 80), (80, .iload_n 2, 81), (81, .iastore, 82), (82, .aload_n 0, 83), (83, .getfield 16, 86), (86, .iload 6, 88), (88, .iconst 2, 89), (89, .iadd, 90), (90, .iload_n 3, 91), (91, .iastore, 92), (92, .aload_n 0, 93), (93, .getfield 16, 96)],
    [(96, .iload 6, 98), (98, .iconst 3, 99), (99, .iadd, 100), (100, .iload 4, 102), (102, .iastore, 103), (103, .iconst 0, 104), (104, .istore 7, 106), (106, .iload 7, 108), (108, .iconst 4, 109), (109, .if_icmp .ge 20, 112), (112, .aload_n 0, 113), (113, .getfield 19, 116), (116, .iload 6, 118), (118, .iload 7, 120), (120, .iadd, 121), (121, .iconst 0, 122), (122, .iastore, 123), (123, .iinc 7 1, 126), (126, .goto (-20), 129)],
    [(129, .aload_n 0, 130), (130, .getfield 31, 133), (133, .iload 5, 135), (135, .iconst 0, 136), (136, .iastore, 137), (137, .aload_n 0, 138), (138, .getfield 34, 141), (141, .iload 5, 143), (143, .iconst 0, 144), (144, .iastore, 145), (145, .aload_n 0, 146), (146, .getfield 37, 149), (149, .iload 5, 151), (151, .iconst 1, 152), (152, .iastore, 153), (153, .aload_n 0, 154), (154, .iload 5, 156), (156, .iconst 1, 157), (157, .iadd, 158), (158, .putfield 61, 161)],
    [(161, .iload 5, 163), (163, .ireturn, 164)]]),
  (prog_1_method_6_code, [
    [(0, .iload_n 1, 1), (1, .ifCond .lt 17, 4), (4, .iload_n 1, 5), (5, .aload_n 0, 6), (6, .getfield 7, 9), (9, .iload_n 2, 10), (10, .iaload, 11), (11, .if_icmp .gt 7, 14), (14, .iconst 1, 15), (15, .goto 4, 18), (18, .iconst 0, 19), (19, .ireturn, 20)]]),
  (prog_1_method_8_code, [
    [(0, .aload_n 0, 1), (1, .iload_n 1, 2), (2, .invokevirtual 74, 5), (5, .ifCond .ne 5, 8), (8, .iconst (-1), 9), (9, .ireturn, 10), (10, .aload_n 0, 11), (11, .getfield 37, 14), (14, .iload_n 1, 15), (15, .iaload, 16), (16, .iconst 3, 17), (17, .if_icmp .ne 6, 20), (20, .bipush (-3), 22), (22, .ireturn, 23), (23, .aload_n 0, 24), (24, .getfield 31, 27), (27, .iload_n 1, 28), (28, .iaload, 29), (29, .istore 5, 31), (31, .iload 5, 33)],
    [(33, .bipush 8, 35), (35, .if_icmp .lt 6, 38), (38, .bipush (-4), 40), (40, .ireturn, 41), (41, .iload_n 2, 42), (42, .iconst 1, 43), (43, .if_icmp .lt 8, 46), (46, .iload_n 2, 47), (47, .iconst 3, 48), (48, .if_icmp .le 6, 51), (51, .bipush (-5), 53), (53, .ireturn, 54), (54, .iconst 0, 55), (55, .istore 6, 57), (57, .iconst 0, 58), (58, .istore 7, 60), (60, .iload_n 2, 61), (61, .iconst 3, 62), (62, .if_icmp .eq 37, 65)],
    [(65, .aload_n 0, 66), (66, .iload_n 3, 67), (67, .invokevirtual 78, 70), (70, .ifCond .ne 6, 73), (73, .bipush (-6), 75), (75, .ireturn, 76), (76, .iload 4, 78), (78, .iconst 1, 79), (79, .if_icmp .lt 10, 82), (82, .iload 4, 84), (84, .bipush 15, 86), (86, .if_icmp .le 6, 89), (89, .bipush (-7), 91), (91, .ireturn, 92), (92, .iload_n 3, 93), (93, .istore 6, 95), (95, .iload 4, 97)],
    [(97, .istore 7, 99), (99, .iload_n 1, 100), (100, .bipush 8, 102), (102, .imul, 103), (103, .iload 5, 105), (105, .iadd, 106), (106, .istore 8, 108), (108, .aload_n 0, 109), (109, .getfield 22, 112), (112, .iload 8, 114), (114, .iload_n 2, 115), (115, .iastore, 116), (116, .aload_n 0, 117), (117, .getfield 25, 120), (120, .iload 8, 122), (122, .iload 6, 124), (124, .iastore, 125), (125, .aload_n 0, 126), (126, .getfield 28, 129)],
    [(129, .iload 8, 131), (131, .iload 7, 133), (133, .iastore, 134), (134, .aload_n 0, 135), (135, .getfield 31, 138), (138, .iload_n 1, 139), (139, .iload 5, 141), (141, .iconst 1, 142), (142, .iadd, 143), (143, .iastore, 144), (144, .iconst 0, 145), (145, .ireturn, 146)]]),
  (prog_1_method_3_code, [
    [(0, .iload_n 1, 1), (1, .ifCond .lt 15, 4), (4, .iload_n 1, 5), (5, .aload_n 0, 6), (6, .getfield 61, 9), (9, .if_icmp .ge 7, 12), (12, .iconst 1, 13), (13, .goto 4, 16), (16, .iconst 0, 17), (17, .ireturn, 18)]]),
  (prog_1_method_4_code, [
    [(0, .iload_n 1, 1), (1, .ifCond .lt 12, 4), (4, .iload_n 1, 5), (5, .iconst 3, 6), (6, .if_icmp .gt 7, 9), (9, .iconst 1, 10), (10, .goto 4, 13), (13, .iconst 0, 14), (14, .ireturn, 15)]]),
  (prog_1_method_9_code, [
    [(0, .aload_n 0, 1), (1, .iload_n 1, 2), (2, .invokevirtual 74, 5), (5, .ifCond .ne 5, 8), (8, .iconst (-1), 9), (9, .ireturn, 10), (10, .aload_n 0, 11), (11, .getfield 37, 14), (14, .iload_n 1, 15), (15, .iaload, 16), (16, .iconst 3, 17), (17, .if_icmp .ne 6, 20), (20, .bipush (-3), 22), (22, .ireturn, 23), (23, .aload_n 0, 24), (24, .getfield 37, 27), (27, .iload_n 1, 28), (28, .iaload, 29), (29, .iconst 2, 30), (30, .if_icmp .ne 6, 33)],
    [(33, .bipush (-2), 35), (35, .ireturn, 36), (36, .aload_n 0, 37), (37, .getfield 34, 40), (40, .iload_n 1, 41), (41, .iaload, 42), (42, .istore_n 2, 43), (43, .iload_n 2, 44), (44, .ifCond .lt 19, 47), (47, .iload_n 2, 48), (48, .aload_n 0, 49), (49, .getfield 31, 52), (52, .iload_n 1, 53), (53, .iaload, 54), (54, .if_icmp .ge 9, 57), (57, .iload_n 2, 58), (58, .bipush 8, 60), (60, .if_icmp .lt 10, 63), (63, .aload_n 0, 64)],
    [(64, .iload_n 1, 65), (65, .invokevirtual 81, 68), (68, .iconst 3, 69), (69, .ireturn, 70), (70, .iload_n 1, 71), (71, .bipush 8, 73), (73, .imul, 74), (74, .iload_n 2, 75), (75, .iadd, 76), (76, .istore_n 3, 77), (77, .aload_n 0, 78), (78, .getfield 22, 81), (81, .iload_n 3, 82), (82, .iaload, 83), (83, .istore 4, 85), (85, .aload_n 0, 86), (86, .getfield 25, 89), (89, .iload_n 3, 90), (90, .iaload, 91), (91, .istore 5, 93), (93, .aload_n 0, 94), (94, .getfield 28, 97)],
    [(97, .iload_n 3, 98), (98, .iaload, 99), (99, .istore 6, 101), (101, .iload 4, 103), (103, .iconst 1, 104), (104, .if_icmp .ne 22, 107), (107, .aload_n 0, 108), (108, .iload 5, 110), (110, .invokevirtual 78, 113), (113, .ifCond .eq 13, 116), (116, .aload_n 0, 117), (117, .iload_n 1, 118), (118, .iload 5, 120), (120, .iload 6, 122), (122, .invokevirtual 85, 125), (125, .ireturn, 126), (126, .iload 4, 128)],
    [(128, .iconst 2, 129), (129, .if_icmp .ne 22, 132), (132, .aload_n 0, 133), (133, .iload 5, 135), (135, .invokevirtual 78, 138), (138, .ifCond .eq 13, 141), (141, .aload_n 0, 142), (142, .iload_n 1, 143), (143, .iload 5, 145), (145, .iload 6, 147), (147, .invokevirtual 88, 150), (150, .ireturn, 151), (151, .aload_n 0, 152), (152, .iload_n 1, 153), (153, .invokevirtual 81, 156), (156, .iconst 3, 157), (157, .ireturn, 158)]]),
  (prog_1_method_10_code, [
    [(0, .iload_n 1, 1), (1, .iconst 4, 2), (2, .imul, 3), (3, .iload_n 2, 4), (4, .iadd, 5), (5, .istore 4, 7), (7, .aload_n 0, 8), (8, .getfield 19, 11), (11, .iload 4, 13), (13, .iaload, 14), (14, .iload_n 3, 15), (15, .iadd, 16), (16, .aload_n 0, 17), (17, .getfield 16, 20), (20, .iload 4, 22), (22, .iaload, 23), (23, .if_icmp .le 11, 26), (26, .aload_n 0, 27), (27, .iload_n 1, 28), (28, .invokevirtual 81, 31), (31, .bipush 6, 33)],
    [(33, .ireturn, 34), (34, .iload_n 3, 35), (35, .aload_n 0, 36), (36, .getfield 13, 39), (39, .iload_n 2, 40), (40, .iaload, 41), (41, .if_icmp .le 10, 44), (44, .aload_n 0, 45), (45, .iload_n 1, 46), (46, .invokevirtual 91, 49), (49, .iconst 4, 50), (50, .ireturn, 51), (51, .aload_n 0, 52), (52, .iload_n 1, 53), (53, .iload_n 2, 54), (54, .iload_n 3, 55), (55, .invokevirtual 94, 58), (58, .ifCond .ne 10, 61), (61, .aload_n 0, 62), (62, .iload_n 1, 63), (63, .invokevirtual 91, 66)],
    [(66, .iconst 5, 67), (67, .ireturn, 68), (68, .aload_n 0, 69), (69, .getfield 19, 72), (72, .iload 4, 74), (74, .dup2, 75), (75, .iaload, 76), (76, .iload_n 3, 77), (77, .iadd, 78), (78, .iastore, 79), (79, .aload_n 0, 80), (80, .getfield 13, 83), (83, .iload_n 2, 84), (84, .dup2, 85), (85, .iaload, 86), (86, .iload_n 3, 87), (87, .isub, 88), (88, .iastore, 89), (89, .aload_n 0, 90), (90, .getfield 34, 93), (93, .iload_n 1, 94), (94, .aload_n 0, 95), (95, .getfield 34, 98)],
    [(98, .iload_n 1, 99), (99, .iaload, 100), (100, .iconst 1, 101), (101, .iadd, 102), (102, .iastore, 103), (103, .iconst 1, 104), (104, .ireturn, 105)]]),
  (prog_1_method_16_code, [
    [(0, .iload_n 1, 1), (1, .iconst 4, 2), (2, .imul, 3), (3, .iload_n 2, 4), (4, .iadd, 5), (5, .istore 4, 7), (7, .aload_n 0, 8), (8, .getfield 19, 11), (11, .iload 4, 13), (13, .dup2, 14), (14, .iaload, 15), (15, .iload_n 3, 16), (16, .iadd, 17), (17, .iastore, 18), (18, .aload_n 0, 19), (19, .getfield 13, 22), (22, .iload_n 2, 23), (23, .dup2, 24), (24, .iaload, 25), (25, .iload_n 3, 26), (26, .isub, 27), (27, .iastore, 28), (28, .aload_n 0, 29), (29, .invokevirtual 104, 32)],
    [(32, .istore 5, 34), (34, .aload_n 0, 35), (35, .getfield 19, 38), (38, .iload 4, 40), (40, .dup2, 41), (41, .iaload, 42), (42, .iload_n 3, 43), (43, .isub, 44), (44, .iastore, 45), (45, .aload_n 0, 46), (46, .getfield 13, 49), (49, .iload_n 2, 50), (50, .dup2, 51), (51, .iaload, 52), (52, .iload_n 3, 53), (53, .iadd, 54), (54, .iastore, 55), (55, .iload 5, 57), (57, .ireturn, 58)]]),
  (prog_1_method_17_code, [
    [(0, .iconst 0, 1), (1, .istore_n 1, 2), (2, .iload_n 1, 3), (3, .iconst 4, 4), (4, .if_icmp .ge 21, 7), (7, .aload_n 0, 8), (8, .getfield 43, 11), (11, .iload_n 1, 12), (12, .aload_n 0, 13), (13, .getfield 13, 16), (16, .iload_n 1, 17), (17, .iaload, 18), (18, .iastore, 19), (19, .iinc 1 1, 22), (22, .goto (-20), 25), (25, .iconst 0, 26), (26, .istore_n 1, 27), (27, .iconst 0, 28), (28, .istore_n 2, 29), (29, .iload_n 2, 30), (30, .bipush 8, 32)],
    [(32, .if_icmp .ge 35, 35), (35, .aload_n 0, 36), (36, .getfield 46, 39), (39, .iload_n 2, 40), (40, .iconst 0, 41), (41, .bastore, 42), (42, .iload_n 2, 43), (43, .aload_n 0, 44), (44, .getfield 61, 47), (47, .if_icmp .ge 14, 50), (50, .aload_n 0, 51), (51, .iload_n 2, 52), (52, .invokevirtual 108, 55), (55, .ifCond .eq 6, 58), (58, .iinc 1 1, 61), (61, .iinc 2 1, 64)],
    [(64, .goto (-35), 67), (67, .aload_n 0, 68), (68, .iconst 0, 69), (69, .putfield 67, 72), (72, .iconst 0, 73), (73, .istore_n 2, 74), (74, .iload_n 2, 75), (75, .bipush 8, 77), (77, .if_icmp .ge 88, 80), (80, .aload_n 0, 81), (81, .invokevirtual 111, 84), (84, .istore_n 3, 85), (85, .iload_n 3, 86), (86, .ifCond .ge 6, 89), (89, .goto 76, 92), (92, .aload_n 0, 93), (93, .getfield 46, 96)],
    [(96, .iload_n 3, 97), (97, .iconst 1, 98), (98, .bastore, 99), (99, .aload_n 0, 100), (100, .getfield 50, 103), (103, .aload_n 0, 104), (104, .getfield 67, 107), (107, .iload_n 3, 108), (108, .iastore, 109), (109, .aload_n 0, 110), (110, .dup, 111), (111, .getfield 67, 114), (114, .iconst 1, 115), (115, .iadd, 116), (116, .putfield 67, 119), (119, .iload_n 3, 120), (120, .iconst 4, 121), (121, .imul, 122), (122, .istore 4, 124), (124, .iconst 0, 125), (125, .istore 5, 127), (127, .iload 5, 129)],
    [(129, .iconst 4, 130), (130, .if_icmp .ge 29, 133), (133, .aload_n 0, 134), (134, .getfield 43, 137), (137, .iload 5, 139), (139, .dup2, 140), (140, .iaload, 141), (141, .aload_n 0, 142), (142, .getfield 19, 145), (145, .iload 4, 147), (147, .iload 5, 149), (149, .iadd, 150), (150, .iaload, 151), (151, .iadd, 152), (152, .iastore, 153), (153, .iinc 5 1, 156), (156, .goto (-29), 159), (159, .iinc 2 1, 162)],
    [(162, .goto (-88), 165), (165, .aload_n 0, 166), (166, .getfield 67, 169), (169, .iload_n 1, 170), (170, .if_icmp .ne 7, 173), (173, .iconst 1, 174), (174, .goto 4, 177), (177, .iconst 0, 178), (178, .ireturn, 179)]]),
  (prog_1_method_5_code, [
    [(0, .aload_n 0, 1), (1, .getfield 37, 4), (4, .iload_n 1, 5), (5, .iaload, 6), (6, .iconst 1, 7), (7, .if_icmp .eq 13, 10), (10, .aload_n 0, 11), (11, .getfield 37, 14), (14, .iload_n 1, 15), (15, .iaload, 16), (16, .iconst 2, 17), (17, .if_icmp .ne 7, 20), (20, .iconst 1, 21), (21, .goto 4, 24), (24, .iconst 0, 25), (25, .ireturn, 26)]]),
  (prog_1_method_18_code, [
    [(0, .iconst 0, 1), (1, .istore_n 1, 2), (2, .iload_n 1, 3), (3, .bipush 8, 5), (5, .if_icmp .ge 44, 8), (8, .iload_n 1, 9), (9, .aload_n 0, 10), (10, .getfield 61, 13), (13, .if_icmp .ge 30, 16), (16, .aload_n 0, 17), (17, .iload_n 1, 18), (18, .invokevirtual 108, 21), (21, .ifCond .eq 22, 24), (24, .aload_n 0, 25), (25, .getfield 46, 28), (28, .iload_n 1, 29), (29, .baload, 30), (30, .ifCond .ne 13, 33)],
    [(33, .aload_n 0, 34), (34, .iload_n 1, 35), (35, .invokevirtual 115, 38), (38, .ifCond .eq 5, 41), (41, .iload_n 1, 42), (42, .ireturn, 43), (43, .iinc 1 1, 46), (46, .goto (-44), 49), (49, .iconst (-1), 50), (50, .ireturn, 51)]]),
  (prog_1_method_19_code, [
    [(0, .iload_n 1, 1), (1, .iconst 4, 2), (2, .imul, 3), (3, .istore_n 2, 4), (4, .iconst 0, 5), (5, .istore_n 3, 6), (6, .iload_n 3, 7), (7, .iconst 4, 8), (8, .if_icmp .ge 37, 11), (11, .aload_n 0, 12), (12, .getfield 16, 15), (15, .iload_n 2, 16), (16, .iload_n 3, 17), (17, .iadd, 18), (18, .iaload, 19), (19, .aload_n 0, 20), (20, .getfield 19, 23), (23, .iload_n 2, 24), (24, .iload_n 3, 25), (25, .iadd, 26), (26, .iaload, 27), (27, .isub, 28), (28, .aload_n 0, 29), (29, .getfield 43, 32)],
    [(32, .iload_n 3, 33), (33, .iaload, 34), (34, .if_icmp .le 5, 37), (37, .iconst 0, 38), (38, .ireturn, 39), (39, .iinc 3 1, 42), (42, .goto (-36), 45), (45, .iconst 1, 46), (46, .ireturn, 47)]]),
  (prog_1_method_12_code, [
    [(0, .aload_n 0, 1), (1, .getfield 57, 4), (4, .ifCond .lt 32, 7), (7, .aload_n 0, 8), (8, .getfield 57, 11), (11, .bipush 8, 13), (13, .if_icmp .ge 23, 16), (16, .aload_n 0, 17), (17, .getfield 40, 20), (20, .aload_n 0, 21), (21, .getfield 57, 24), (24, .iload_n 1, 25), (25, .iastore, 26), (26, .aload_n 0, 27), (27, .dup, 28), (28, .getfield 57, 31), (31, .iconst 1, 32)],
    [(32, .iadd, 33), (33, .putfield 57, 36), (36, .aload_n 0, 37), (37, .getfield 37, 40), (40, .iload_n 1, 41), (41, .iconst 2, 42), (42, .iastore, 43), (43, .return_, 44)]]),
  (prog_1_method_25_code, [
    [(0, .aload_n 0, 1), (1, .iload_n 1, 2), (2, .invokevirtual 74, 5), (5, .ifCond .ne 5, 8), (8, .iconst 0, 9), (9, .ireturn, 10), (10, .aload_n 0, 11), (11, .getfield 37, 14), (14, .iload_n 1, 15), (15, .iaload, 16), (16, .ireturn, 17)]]),
  (prog_1_method_29_code, [
    [(0, .aload_n 0, 1), (1, .getfield 57, 4), (4, .ireturn, 5)]]),
  (prog_1_method_30_code, [
    [(0, .iload_n 1, 1), (1, .ifCond .lt 17, 4), (4, .iload_n 1, 5), (5, .aload_n 0, 6), (6, .getfield 57, 9), (9, .if_icmp .ge 9, 12), (12, .iload_n 1, 13), (13, .bipush 8, 15), (15, .if_icmp .lt 5, 18), (18, .iconst (-1), 19), (19, .ireturn, 20), (20, .aload_n 0, 21), (21, .getfield 40, 24), (24, .iload_n 1, 25), (25, .iaload, 26), (26, .ireturn, 27)]]),
  (prog_1_method_22_code, [
    [(0, .aload_n 0, 1), (1, .iload_n 1, 2), (2, .invokevirtual 78, 5), (5, .ifCond .ne 5, 8), (8, .iconst (-1), 9), (9, .ireturn, 10), (10, .aload_n 0, 11), (11, .getfield 13, 14), (14, .iload_n 1, 15), (15, .iaload, 16), (16, .ireturn, 17)]]),
  (prog_1_method_31_code, [
    [(0, .aload_n 0, 1), (1, .invokevirtual 104, 4), (4, .pop, 5), (5, .aload_n 0, 6), (6, .getfield 67, 9), (9, .ireturn, 10)]]),
  (prog_1_method_32_code, [
    [(0, .aload_n 0, 1), (1, .invokevirtual 104, 4), (4, .pop, 5), (5, .iload_n 1, 6), (6, .ifCond .lt 17, 9), (9, .iload_n 1, 10), (10, .aload_n 0, 11), (11, .getfield 67, 14), (14, .if_icmp .ge 9, 17), (17, .iload_n 1, 18), (18, .bipush 8, 20), (20, .if_icmp .lt 5, 23), (23, .iconst (-1), 24), (24, .ireturn, 25), (25, .aload_n 0, 26), (26, .getfield 50, 29), (29, .iload_n 1, 30), (30, .iaload, 31), (31, .ireturn, 32)]]),
  (prog_1_method_11_code, [
    [(0, .iload_n 1, 1), (1, .iconst 4, 2), (2, .imul, 3), (3, .iload_n 2, 4), (4, .iadd, 5), (5, .istore 4, 7), (7, .iload_n 3, 8), (8, .aload_n 0, 9), (9, .getfield 19, 12), (12, .iload 4, 14), (14, .iaload, 15), (15, .if_icmp .le 11, 18), (18, .aload_n 0, 19), (19, .iload_n 1, 20), (20, .invokevirtual 81, 23), (23, .bipush 6, 25), (25, .ireturn, 26), (26, .aload_n 0, 27), (27, .getfield 19, 30), (30, .iload 4, 32)],
    [(32, .dup2, 33), (33, .iaload, 34), (34, .iload_n 3, 35), (35, .isub, 36), (36, .iastore, 37), (37, .aload_n 0, 38), (38, .getfield 13, 41), (41, .iload_n 2, 42), (42, .dup2, 43), (43, .iaload, 44), (44, .iload_n 3, 45), (45, .iadd, 46), (46, .iastore, 47), (47, .aload_n 0, 48), (48, .getfield 34, 51), (51, .iload_n 1, 52), (52, .aload_n 0, 53), (53, .getfield 34, 56), (56, .iload_n 1, 57), (57, .iaload, 58), (58, .iconst 1, 59), (59, .iadd, 60), (60, .iastore, 61), (61, .aload_n 0, 62), (62, .invokevirtual 98, 65)],
    [(65, .iconst 2, 66), (66, .ireturn, 67)]]),
  (prog_1_method_14_code, [
    [(0, .aload_n 0, 1), (1, .getfield 57, 4), (4, .istore_n 1, 5), (5, .iload_n 1, 6), (6, .bipush 8, 8), (8, .if_icmp .le 6, 11), (11, .bipush 8, 13), (13, .istore_n 1, 14), (14, .iconst 0, 15), (15, .istore_n 2, 16), (16, .iconst 0, 17), (17, .istore_n 3, 18), (18, .iload_n 3, 19), (19, .iload_n 1, 20), (20, .if_icmp .ge 37, 23), (23, .aload_n 0, 24), (24, .getfield 40, 27), (27, .iload_n 3, 28), (28, .iaload, 29), (29, .istore 4, 31), (31, .aload_n 0, 32)],
    [(32, .iload 4, 34), (34, .invokevirtual 101, 37), (37, .ifCond .ne 14, 40), (40, .aload_n 0, 41), (41, .getfield 40, 44), (44, .iload_n 2, 45), (45, .iload 4, 47), (47, .iastore, 48), (48, .iinc 2 1, 51), (51, .iinc 3 1, 54), (54, .goto (-36), 57), (57, .aload_n 0, 58), (58, .iload_n 2, 59), (59, .putfield 57, 62), (62, .return_, 63)]]),
  (prog_1_method_15_code, [
    [(0, .iload_n 1, 1), (1, .ifCond .lt 9, 4), (4, .iload_n 1, 5), (5, .bipush 8, 7), (7, .if_icmp .lt 5, 10), (10, .iconst 0, 11), (11, .ireturn, 12), (12, .aload_n 0, 13), (13, .getfield 34, 16), (16, .iload_n 1, 17), (17, .iaload, 18), (18, .istore_n 2, 19), (19, .iload_n 2, 20), (20, .ifCond .lt 19, 23), (23, .iload_n 2, 24), (24, .aload_n 0, 25), (25, .getfield 31, 28), (28, .iload_n 1, 29), (29, .iaload, 30), (30, .if_icmp .ge 9, 33)],
    [(33, .iload_n 2, 34), (34, .bipush 8, 36), (36, .if_icmp .lt 5, 39), (39, .iconst 0, 40), (40, .ireturn, 41), (41, .iload_n 1, 42), (42, .bipush 8, 44), (44, .imul, 45), (45, .iload_n 2, 46), (46, .iadd, 47), (47, .istore_n 3, 48), (48, .aload_n 0, 49), (49, .getfield 22, 52), (52, .iload_n 3, 53), (53, .iaload, 54), (54, .iconst 1, 55), (55, .if_icmp .eq 5, 58), (58, .iconst 0, 59), (59, .ireturn, 60), (60, .aload_n 0, 61), (61, .getfield 25, 64)],
    [(64, .iload_n 3, 65), (65, .iaload, 66), (66, .istore 4, 68), (68, .aload_n 0, 69), (69, .getfield 28, 72), (72, .iload_n 3, 73), (73, .iaload, 74), (74, .istore 5, 76), (76, .aload_n 0, 77), (77, .iload 4, 79), (79, .invokevirtual 78, 82), (82, .ifCond .eq 15, 85), (85, .iload 5, 87), (87, .aload_n 0, 88), (88, .getfield 13, 91), (91, .iload 4, 93), (93, .iaload, 94), (94, .if_icmp .le 5, 97)],
    [(97, .iconst 0, 98), (98, .ireturn, 99), (99, .aload_n 0, 100), (100, .iload_n 1, 101), (101, .iload 4, 103), (103, .iload 5, 105), (105, .invokevirtual 94, 108), (108, .ifCond .ne 5, 111), (111, .iconst 0, 112), (112, .ireturn, 113), (113, .aload_n 0, 114), (114, .getfield 19, 117), (117, .iload_n 1, 118), (118, .iconst 4, 119), (119, .imul, 120), (120, .iload 4, 122), (122, .iadd, 123), (123, .dup2, 124), (124, .iaload, 125), (125, .iload 5, 127), (127, .iadd, 128)],
    [(128, .iastore, 129), (129, .aload_n 0, 130), (130, .getfield 13, 133), (133, .iload 4, 135), (135, .dup2, 136), (136, .iaload, 137), (137, .iload 5, 139), (139, .isub, 140), (140, .iastore, 141), (141, .aload_n 0, 142), (142, .getfield 37, 145), (145, .iload_n 1, 146), (146, .iconst 1, 147), (147, .iastore, 148), (148, .aload_n 0, 149), (149, .getfield 34, 152), (152, .iload_n 1, 153), (153, .iload_n 2, 154), (154, .iconst 1, 155), (155, .iadd, 156), (156, .iastore, 157), (157, .iconst 1, 158), (158, .ireturn, 159)]]),
  (prog_1_method_26_code, [
    [(0, .aload_n 0, 1), (1, .iload_n 1, 2), (2, .invokevirtual 74, 5), (5, .ifCond .ne 5, 8), (8, .iconst (-1), 9), (9, .ireturn, 10), (10, .aload_n 0, 11), (11, .getfield 34, 14), (14, .iload_n 1, 15), (15, .iaload, 16), (16, .ireturn, 17)]]),
  (prog_1_method_23_code, [
    [(0, .aload_n 0, 1), (1, .iload_n 1, 2), (2, .invokevirtual 74, 5), (5, .ifCond .eq 11, 8), (8, .aload_n 0, 9), (9, .iload_n 2, 10), (10, .invokevirtual 78, 13), (13, .ifCond .ne 5, 16), (16, .iconst (-1), 17), (17, .ireturn, 18), (18, .aload_n 0, 19), (19, .getfield 19, 22), (22, .iload_n 1, 23), (23, .iconst 4, 24), (24, .imul, 25), (25, .iload_n 2, 26), (26, .iadd, 27), (27, .iaload, 28), (28, .ireturn, 29)]]),
  (prog_1_method_13_code, [
    [(0, .iload_n 1, 1), (1, .iconst 4, 2), (2, .imul, 3), (3, .istore_n 2, 4), (4, .iconst 0, 5), (5, .istore_n 3, 6), (6, .iload_n 3, 7), (7, .iconst 4, 8), (8, .if_icmp .ge 35, 11), (11, .aload_n 0, 12), (12, .getfield 13, 15), (15, .iload_n 3, 16), (16, .dup2, 17), (17, .iaload, 18), (18, .aload_n 0, 19), (19, .getfield 19, 22), (22, .iload_n 2, 23), (23, .iload_n 3, 24), (24, .iadd, 25), (25, .iaload, 26), (26, .iadd, 27), (27, .iastore, 28), (28, .aload_n 0, 29), (29, .getfield 19, 32)],
    [(32, .iload_n 2, 33), (33, .iload_n 3, 34), (34, .iadd, 35), (35, .iconst 0, 36), (36, .iastore, 37), (37, .iinc 3 1, 40), (40, .goto (-34), 43), (43, .aload_n 0, 44), (44, .getfield 37, 47), (47, .iload_n 1, 48), (48, .iconst 3, 49), (49, .iastore, 50), (50, .aload_n 0, 51), (51, .invokevirtual 98, 54), (54, .return_, 55)]])]
def own_mis : List MI := [(0, 7, 3, some .boolean, false, 11, 256), (1, 6, 5, none, true, 1, 17), (1, 4, 4, some .int, false, 0, 0), (1, 8, 5, some .int, false, 1, 14), (1, 3, 3, some .boolean, false, 0, 0), (1, 9, 5, some .int, false, 1, 13), (1, 2, 2, some .boolean, false, 0, 0), (1, 2, 2, some .boolean, false, 0, 0), (1, 7, 2, some .int, false, 8, 126), (1, 5, 4, some .int, false, 7, 110), (1, 6, 4, some .boolean, false, 3, 45), (1, 6, 1, some .boolean, false, 2, 28), (1, 2, 2, some .boolean, false, 0, 0), (1, 2, 1, some .int, false, 1, 15), (1, 4, 2, some .boolean, false, 0, 0), (1, 2, 2, none, false, 0, 0), (1, 2, 2, some .int, false, 1, 13), (1, 1, 1, some .int, false, 0, 0), (1, 2, 2, some .int, false, 0, 0), (1, 2, 2, some .int, false, 1, 13), (1, 1, 1, some .int, false, 3, 45), (1, 2, 2, some .int, false, 3, 45), (1, 5, 4, some .int, false, 7, 110), (1, 5, 1, none, false, 5, 79), (1, 6, 2, some .boolean, false, 4, 62), (1, 2, 2, some .int, false, 1, 13), (1, 3, 3, some .int, false, 1, 13), (1, 4, 2, none, false, 6, 95)]
def own_links : List (Nat × Nat × Nat × Nat) := [(0, 9, 1, 1), (1, 1, 4, 0), (1, 53, 3, 2), (0, 12, 2, 3), (1, 70, 3, 4), (0, 16, 2, 5), (1, 74, 3, 6), (1, 78, 3, 7), (0, 19, 2, 8), (1, 85, 3, 9), (1, 94, 3, 10), (1, 104, 3, 11), (1, 108, 3, 12), (1, 111, 3, 13), (1, 115, 3, 14), (1, 91, 3, 15), (0, 23, 2, 16), (0, 26, 2, 17), (0, 30, 2, 18), (0, 33, 2, 19), (0, 36, 2, 20), (0, 39, 2, 21), (1, 88, 3, 22), (1, 98, 3, 23), (1, 101, 3, 24), (0, 42, 2, 25), (0, 45, 2, 26), (1, 81, 3, 27), (0, 7, 5, 0)]
def own_flds : List (Nat × Nat × Nat) := [(1, 7, 0), (1, 13, 1), (1, 16, 2), (1, 19, 3), (1, 22, 4), (1, 25, 5), (1, 28, 6), (1, 31, 7), (1, 34, 8), (1, 37, 9), (1, 40, 10), (1, 43, 11), (1, 46, 12), (1, 50, 13), (1, 57, 14), (1, 61, 15), (1, 64, 16), (1, 67, 17)]
def own_kons : List (Nat × Nat × Value) := []
def own_fields : List (String × String × Nat × Bool) := [("total", "[I", 3, false), ("avail", "[I", 3, false), ("maxc", "[I", 3, false), ("alloc", "[I", 3, false), ("op", "[I", 3, false), ("kind", "[I", 3, false), ("amt", "[I", 3, false), ("len", "[I", 3, false), ("pc", "[I", 3, false), ("st", "[I", 3, false), ("queue", "[I", 3, false), ("work", "[I", 3, false), ("mark", "[Z", 3, false), ("order", "[I", 3, false), ("qlen", "I", 0, false), ("nproc", "I", 0, false), ("cur", "I", 0, false), ("olen", "I", 0, false)]
def own_P : Prog := (codeAt own_cs, fun k => own_mis.getD k (0, 0, 0, none, false, 0, 0), lookT own_links, lookT own_flds, lookT own_kons, own_fields, 18, 0, 40, 768)
def own_nms : List MethodName := [⟨"BankerGuardL3", "law", "(III)Z"⟩, ⟨"BankerGuard", "<init>", "(IIII)V"⟩, ⟨"BankerGuard", "clamp", "(III)I"⟩, ⟨"BankerGuard", "admit", "(IIII)I"⟩, ⟨"BankerGuard", "claimOk", "(II)Z"⟩, ⟨"BankerGuard", "load", "(IIII)I"⟩, ⟨"BankerGuard", "known", "(I)Z"⟩, ⟨"BankerGuard", "validKind", "(I)Z"⟩, ⟨"BankerGuard", "step", "(I)I"⟩, ⟨"BankerGuard", "doRequest", "(III)I"⟩, ⟨"BankerGuard", "tentativeSafe", "(III)Z"⟩, ⟨"BankerGuard", "computeSafety", "()Z"⟩, ⟨"BankerGuard", "active", "(I)Z"⟩, ⟨"BankerGuard", "findPick", "()I"⟩, ⟨"BankerGuard", "fits", "(I)Z"⟩, ⟨"BankerGuard", "enqueue", "(I)V"⟩, ⟨"BankerGuard", "state", "(I)I"⟩, ⟨"BankerGuard", "queueLength", "()I"⟩, ⟨"BankerGuard", "queueAt", "(I)I"⟩, ⟨"BankerGuard", "available", "(I)I"⟩, ⟨"BankerGuard", "safeLength", "()I"⟩, ⟨"BankerGuard", "safeAt", "(I)I"⟩, ⟨"BankerGuard", "doRelease", "(III)I"⟩, ⟨"BankerGuard", "retryPass", "()V"⟩, ⟨"BankerGuard", "retryOne", "(I)Z"⟩, ⟨"BankerGuard", "pc", "(I)I"⟩, ⟨"BankerGuard", "allocation", "(II)I"⟩, ⟨"BankerGuard", "finish", "(I)V"⟩]
def own_nm (k : Nat) : MethodName := own_nms.getD k ⟨"", "", ""⟩
def own_cn (c : Nat) : String := match c with | 0 => "BankerGuardL3" | _ => "BankerGuard"
theorem own_pn0 : plainName "BankerGuardL3" = true := by first | (simp [plainName, overriddenIn]; done) | decide +kernel
theorem own_pn1 : plainName "BankerGuard" = true := by first | (simp [plainName, overriddenIn]; done) | decide +kernel
theorem own_ne0 : "BankerGuardL3" ≠ "java/lang/invoke/MethodHandle" ∧ "BankerGuardL3" ≠ "java/lang/invoke/VarHandle" := by decide
theorem own_ne1 : "BankerGuard" ≠ "java/lang/invoke/MethodHandle" ∧ "BankerGuard" ≠ "java/lang/invoke/VarHandle" := by decide
theorem own_pd0 : parseMethodDescriptor "(IIII)V" = some ⟨[.int, .int, .int, .int], none⟩ := by decide +kernel
theorem own_pd1 : parseMethodDescriptor "(III)I" = some ⟨[.int, .int, .int], some .int⟩ := by decide +kernel
theorem own_pd2 : parseMethodDescriptor "(IIII)I" = some ⟨[.int, .int, .int, .int], some .int⟩ := by decide +kernel
theorem own_pd3 : parseMethodDescriptor "(II)Z" = some ⟨[.int, .int], some .boolean⟩ := by decide +kernel
theorem own_pd4 : parseMethodDescriptor "(I)Z" = some ⟨[.int], some .boolean⟩ := by decide +kernel
theorem own_pd5 : parseMethodDescriptor "(I)I" = some ⟨[.int], some .int⟩ := by decide +kernel
theorem own_pd6 : parseMethodDescriptor "(III)Z" = some ⟨[.int, .int, .int], some .boolean⟩ := by decide +kernel
theorem own_pd7 : parseMethodDescriptor "()Z" = some ⟨[], some .boolean⟩ := by decide +kernel
theorem own_pd8 : parseMethodDescriptor "()I" = some ⟨[], some .int⟩ := by decide +kernel
theorem own_pd9 : parseMethodDescriptor "(I)V" = some ⟨[.int], none⟩ := by decide +kernel
theorem own_pd10 : parseMethodDescriptor "()V" = some ⟨[], none⟩ := by decide +kernel
theorem own_pd11 : parseMethodDescriptor "(II)I" = some ⟨[.int, .int], some .int⟩ := by decide +kernel
set_option maxRecDepth 100000 in
theorem own_okcs : okCs own_cs = true := by decide +kernel
def own_ty (t : ArrayType) : Bool := decide (t = .int) || decide (t = .boolean)
theorem own_tyok : tyCs own_ty own_cs = true := by decide +kernel
theorem own_nodup : (own_fields.map (·.1)).Nodup := by decide +kernel
set_option maxRecDepth 100000 in
set_option maxHeartbeats 4000000 in
theorem own_good {Z : State} {a0 : Array Value} (hw : ∀ d ∈ tables_1, d.before a0 Z = true) : Good own_P own_nm (bcOf own_cs) own_cn "BankerGuard" Z a0 := by
  refine good_of (ty := own_ty) rfl own_okcs ?_ ?_ own_nodup ?_ (hw _ (List.mem_of_getElem? (i := 1) rfl)) (hw _ (List.mem_of_getElem? (i := 2) rfl)) own_tyok ?_ ?_
  · exact ⟨⟨_, _, _, _, rfl, (hw _ (List.mem_of_getElem? (i := 10) rfl))⟩,
      ⟨_, _, _, _, rfl, (hw _ (List.mem_of_getElem? (i := 12) rfl))⟩,
      ⟨_, _, _, _, rfl, (hw _ (List.mem_of_getElem? (i := 14) rfl))⟩,
      ⟨_, _, _, _, rfl, (hw _ (List.mem_of_getElem? (i := 16) rfl))⟩,
      ⟨_, _, _, _, rfl, (hw _ (List.mem_of_getElem? (i := 18) rfl))⟩,
      ⟨_, _, _, _, rfl, (hw _ (List.mem_of_getElem? (i := 20) rfl))⟩,
      ⟨_, _, _, _, rfl, (hw _ (List.mem_of_getElem? (i := 22) rfl))⟩,
      ⟨_, _, _, _, rfl, (hw _ (List.mem_of_getElem? (i := 24) rfl))⟩,
      ⟨_, _, _, _, rfl, (hw _ (List.mem_of_getElem? (i := 26) rfl))⟩,
      ⟨_, _, _, _, rfl, (hw _ (List.mem_of_getElem? (i := 28) rfl))⟩,
      ⟨_, _, _, _, rfl, (hw _ (List.mem_of_getElem? (i := 30) rfl))⟩,
      ⟨_, _, _, _, rfl, (hw _ (List.mem_of_getElem? (i := 32) rfl))⟩,
      ⟨_, _, _, _, rfl, (hw _ (List.mem_of_getElem? (i := 35) rfl))⟩,
      ⟨_, _, _, _, rfl, (hw _ (List.mem_of_getElem? (i := 37) rfl))⟩,
      ⟨_, _, _, _, rfl, (hw _ (List.mem_of_getElem? (i := 43) rfl))⟩,
      ⟨_, _, _, _, rfl, (hw _ (List.mem_of_getElem? (i := 45) rfl))⟩,
      ⟨_, _, _, _, rfl, (hw _ (List.mem_of_getElem? (i := 47) rfl))⟩,
      ⟨_, _, _, _, rfl, (hw _ (List.mem_of_getElem? (i := 49) rfl))⟩,
      trivial⟩
  · exact ⟨⟨(hw _ (List.mem_of_getElem? (i := 11) rfl)), .array .int, by decide, rfl, rfl⟩,
      ⟨(hw _ (List.mem_of_getElem? (i := 13) rfl)), .array .int, by decide, rfl, rfl⟩,
      ⟨(hw _ (List.mem_of_getElem? (i := 15) rfl)), .array .int, by decide, rfl, rfl⟩,
      ⟨(hw _ (List.mem_of_getElem? (i := 17) rfl)), .array .int, by decide, rfl, rfl⟩,
      ⟨(hw _ (List.mem_of_getElem? (i := 19) rfl)), .array .int, by decide, rfl, rfl⟩,
      ⟨(hw _ (List.mem_of_getElem? (i := 21) rfl)), .array .int, by decide, rfl, rfl⟩,
      ⟨(hw _ (List.mem_of_getElem? (i := 23) rfl)), .array .int, by decide, rfl, rfl⟩,
      ⟨(hw _ (List.mem_of_getElem? (i := 25) rfl)), .array .int, by decide, rfl, rfl⟩,
      ⟨(hw _ (List.mem_of_getElem? (i := 27) rfl)), .array .int, by decide, rfl, rfl⟩,
      ⟨(hw _ (List.mem_of_getElem? (i := 29) rfl)), .array .int, by decide, rfl, rfl⟩,
      ⟨(hw _ (List.mem_of_getElem? (i := 31) rfl)), .array .int, by decide, rfl, rfl⟩,
      ⟨(hw _ (List.mem_of_getElem? (i := 33) rfl)), .array .int, by decide, rfl, rfl⟩,
      ⟨(hw _ (List.mem_of_getElem? (i := 36) rfl)), .array .boolean, by decide, rfl, rfl⟩,
      ⟨(hw _ (List.mem_of_getElem? (i := 38) rfl)), .array .int, by decide, rfl, rfl⟩,
      ⟨(hw _ (List.mem_of_getElem? (i := 44) rfl)), .int, by decide, rfl, rfl⟩,
      ⟨(hw _ (List.mem_of_getElem? (i := 46) rfl)), .int, by decide, rfl, rfl⟩,
      ⟨(hw _ (List.mem_of_getElem? (i := 48) rfl)), .int, by decide, rfl, rfl⟩,
      ⟨(hw _ (List.mem_of_getElem? (i := 50) rfl)), .int, by decide, rfl, rfl⟩,
      trivial⟩
  · exact trivial
  · intro t ht
    simp only [own_ty, Bool.or_eq_true, decide_eq_true_eq] at ht
    rcases ht with rfl | rfl
    · exact (hw _ (List.mem_of_getElem? (i := 9) rfl))
    · exact (hw _ (List.mem_of_getElem? (i := 34) rfl))
  · exact ⟨⟨(hw _ (List.mem_of_getElem? (i := 3) rfl)), (hw _ (List.mem_of_getElem? (i := 5) rfl)), (hw _ (List.mem_of_getElem? (i := 2) rfl)), ⟨_, _, own_pd0, rfl⟩, own_pn1, own_ne1, rfl, (fun _ => ⟨rfl, rfl⟩), ⟨rfl, (hw _ (List.mem_of_getElem? (i := 4) rfl)), rfl⟩⟩,
      ⟨(hw _ (List.mem_of_getElem? (i := 6) rfl)), (hw _ (List.mem_of_getElem? (i := 7) rfl)), (hw _ (List.mem_of_getElem? (i := 8) rfl))⟩,
      ⟨(hw _ (List.mem_of_getElem? (i := 39) rfl)), (hw _ (List.mem_of_getElem? (i := 42) rfl)), (hw _ (List.mem_of_getElem? (i := 2) rfl)), ⟨_, _, own_pd1, rfl⟩, own_pn1, own_ne1, rfl, (fun h => nomatch h), ⟨rfl, (hw _ (List.mem_of_getElem? (i := 40) rfl)), (hw _ (List.mem_of_getElem? (i := 41) rfl))⟩⟩,
      ⟨(hw _ (List.mem_of_getElem? (i := 51) rfl)), (hw _ (List.mem_of_getElem? (i := 55) rfl)), (hw _ (List.mem_of_getElem? (i := 2) rfl)), ⟨_, _, own_pd2, rfl⟩, own_pn1, own_ne1, rfl, (fun h => nomatch h), ⟨(hw _ (List.mem_of_getElem? (i := 52) rfl)), (hw _ (List.mem_of_getElem? (i := 53) rfl)), (hw _ (List.mem_of_getElem? (i := 54) rfl))⟩⟩,
      ⟨(hw _ (List.mem_of_getElem? (i := 56) rfl)), (hw _ (List.mem_of_getElem? (i := 59) rfl)), (hw _ (List.mem_of_getElem? (i := 2) rfl)), ⟨_, _, own_pd3, rfl⟩, own_pn1, own_ne1, rfl, (fun h => nomatch h), ⟨rfl, (hw _ (List.mem_of_getElem? (i := 57) rfl)), (hw _ (List.mem_of_getElem? (i := 58) rfl))⟩⟩,
      ⟨(hw _ (List.mem_of_getElem? (i := 60) rfl)), (hw _ (List.mem_of_getElem? (i := 64) rfl)), (hw _ (List.mem_of_getElem? (i := 2) rfl)), ⟨_, _, own_pd2, rfl⟩, own_pn1, own_ne1, rfl, (fun h => nomatch h), ⟨(hw _ (List.mem_of_getElem? (i := 61) rfl)), (hw _ (List.mem_of_getElem? (i := 62) rfl)), (hw _ (List.mem_of_getElem? (i := 63) rfl))⟩⟩,
      ⟨(hw _ (List.mem_of_getElem? (i := 65) rfl)), (hw _ (List.mem_of_getElem? (i := 68) rfl)), (hw _ (List.mem_of_getElem? (i := 2) rfl)), ⟨_, _, own_pd4, rfl⟩, own_pn1, own_ne1, rfl, (fun h => nomatch h), ⟨rfl, (hw _ (List.mem_of_getElem? (i := 66) rfl)), (hw _ (List.mem_of_getElem? (i := 67) rfl))⟩⟩,
      ⟨(hw _ (List.mem_of_getElem? (i := 69) rfl)), (hw _ (List.mem_of_getElem? (i := 72) rfl)), (hw _ (List.mem_of_getElem? (i := 2) rfl)), ⟨_, _, own_pd4, rfl⟩, own_pn1, own_ne1, rfl, (fun h => nomatch h), ⟨rfl, (hw _ (List.mem_of_getElem? (i := 70) rfl)), (hw _ (List.mem_of_getElem? (i := 71) rfl))⟩⟩,
      ⟨(hw _ (List.mem_of_getElem? (i := 73) rfl)), (hw _ (List.mem_of_getElem? (i := 77) rfl)), (hw _ (List.mem_of_getElem? (i := 2) rfl)), ⟨_, _, own_pd5, rfl⟩, own_pn1, own_ne1, rfl, (fun h => nomatch h), ⟨(hw _ (List.mem_of_getElem? (i := 74) rfl)), (hw _ (List.mem_of_getElem? (i := 75) rfl)), (hw _ (List.mem_of_getElem? (i := 76) rfl))⟩⟩,
      ⟨(hw _ (List.mem_of_getElem? (i := 78) rfl)), (hw _ (List.mem_of_getElem? (i := 81) rfl)), (hw _ (List.mem_of_getElem? (i := 2) rfl)), ⟨_, _, own_pd1, rfl⟩, own_pn1, own_ne1, rfl, (fun h => nomatch h), ⟨rfl, (hw _ (List.mem_of_getElem? (i := 79) rfl)), (hw _ (List.mem_of_getElem? (i := 80) rfl))⟩⟩,
      ⟨(hw _ (List.mem_of_getElem? (i := 82) rfl)), (hw _ (List.mem_of_getElem? (i := 85) rfl)), (hw _ (List.mem_of_getElem? (i := 2) rfl)), ⟨_, _, own_pd6, rfl⟩, own_pn1, own_ne1, rfl, (fun h => nomatch h), ⟨rfl, (hw _ (List.mem_of_getElem? (i := 83) rfl)), (hw _ (List.mem_of_getElem? (i := 84) rfl))⟩⟩,
      ⟨(hw _ (List.mem_of_getElem? (i := 86) rfl)), (hw _ (List.mem_of_getElem? (i := 89) rfl)), (hw _ (List.mem_of_getElem? (i := 2) rfl)), ⟨_, _, own_pd7, rfl⟩, own_pn1, own_ne1, rfl, (fun h => nomatch h), ⟨rfl, (hw _ (List.mem_of_getElem? (i := 87) rfl)), (hw _ (List.mem_of_getElem? (i := 88) rfl))⟩⟩,
      ⟨(hw _ (List.mem_of_getElem? (i := 90) rfl)), (hw _ (List.mem_of_getElem? (i := 93) rfl)), (hw _ (List.mem_of_getElem? (i := 2) rfl)), ⟨_, _, own_pd4, rfl⟩, own_pn1, own_ne1, rfl, (fun h => nomatch h), ⟨rfl, (hw _ (List.mem_of_getElem? (i := 91) rfl)), (hw _ (List.mem_of_getElem? (i := 92) rfl))⟩⟩,
      ⟨(hw _ (List.mem_of_getElem? (i := 94) rfl)), (hw _ (List.mem_of_getElem? (i := 97) rfl)), (hw _ (List.mem_of_getElem? (i := 2) rfl)), ⟨_, _, own_pd8, rfl⟩, own_pn1, own_ne1, rfl, (fun h => nomatch h), ⟨rfl, (hw _ (List.mem_of_getElem? (i := 95) rfl)), (hw _ (List.mem_of_getElem? (i := 96) rfl))⟩⟩,
      ⟨(hw _ (List.mem_of_getElem? (i := 98) rfl)), (hw _ (List.mem_of_getElem? (i := 101) rfl)), (hw _ (List.mem_of_getElem? (i := 2) rfl)), ⟨_, _, own_pd4, rfl⟩, own_pn1, own_ne1, rfl, (fun h => nomatch h), ⟨rfl, (hw _ (List.mem_of_getElem? (i := 99) rfl)), (hw _ (List.mem_of_getElem? (i := 100) rfl))⟩⟩,
      ⟨(hw _ (List.mem_of_getElem? (i := 102) rfl)), (hw _ (List.mem_of_getElem? (i := 105) rfl)), (hw _ (List.mem_of_getElem? (i := 2) rfl)), ⟨_, _, own_pd9, rfl⟩, own_pn1, own_ne1, rfl, (fun h => nomatch h), ⟨rfl, (hw _ (List.mem_of_getElem? (i := 103) rfl)), (hw _ (List.mem_of_getElem? (i := 104) rfl))⟩⟩,
      ⟨(hw _ (List.mem_of_getElem? (i := 106) rfl)), (hw _ (List.mem_of_getElem? (i := 110) rfl)), (hw _ (List.mem_of_getElem? (i := 2) rfl)), ⟨_, _, own_pd5, rfl⟩, own_pn1, own_ne1, rfl, (fun h => nomatch h), ⟨(hw _ (List.mem_of_getElem? (i := 107) rfl)), (hw _ (List.mem_of_getElem? (i := 108) rfl)), (hw _ (List.mem_of_getElem? (i := 109) rfl))⟩⟩,
      ⟨(hw _ (List.mem_of_getElem? (i := 111) rfl)), (hw _ (List.mem_of_getElem? (i := 115) rfl)), (hw _ (List.mem_of_getElem? (i := 2) rfl)), ⟨_, _, own_pd8, rfl⟩, own_pn1, own_ne1, rfl, (fun h => nomatch h), ⟨(hw _ (List.mem_of_getElem? (i := 112) rfl)), (hw _ (List.mem_of_getElem? (i := 113) rfl)), (hw _ (List.mem_of_getElem? (i := 114) rfl))⟩⟩,
      ⟨(hw _ (List.mem_of_getElem? (i := 116) rfl)), (hw _ (List.mem_of_getElem? (i := 120) rfl)), (hw _ (List.mem_of_getElem? (i := 2) rfl)), ⟨_, _, own_pd5, rfl⟩, own_pn1, own_ne1, rfl, (fun h => nomatch h), ⟨(hw _ (List.mem_of_getElem? (i := 117) rfl)), (hw _ (List.mem_of_getElem? (i := 118) rfl)), (hw _ (List.mem_of_getElem? (i := 119) rfl))⟩⟩,
      ⟨(hw _ (List.mem_of_getElem? (i := 121) rfl)), (hw _ (List.mem_of_getElem? (i := 125) rfl)), (hw _ (List.mem_of_getElem? (i := 2) rfl)), ⟨_, _, own_pd5, rfl⟩, own_pn1, own_ne1, rfl, (fun h => nomatch h), ⟨(hw _ (List.mem_of_getElem? (i := 122) rfl)), (hw _ (List.mem_of_getElem? (i := 123) rfl)), (hw _ (List.mem_of_getElem? (i := 124) rfl))⟩⟩,
      ⟨(hw _ (List.mem_of_getElem? (i := 126) rfl)), (hw _ (List.mem_of_getElem? (i := 130) rfl)), (hw _ (List.mem_of_getElem? (i := 2) rfl)), ⟨_, _, own_pd8, rfl⟩, own_pn1, own_ne1, rfl, (fun h => nomatch h), ⟨(hw _ (List.mem_of_getElem? (i := 127) rfl)), (hw _ (List.mem_of_getElem? (i := 128) rfl)), (hw _ (List.mem_of_getElem? (i := 129) rfl))⟩⟩,
      ⟨(hw _ (List.mem_of_getElem? (i := 131) rfl)), (hw _ (List.mem_of_getElem? (i := 135) rfl)), (hw _ (List.mem_of_getElem? (i := 2) rfl)), ⟨_, _, own_pd5, rfl⟩, own_pn1, own_ne1, rfl, (fun h => nomatch h), ⟨(hw _ (List.mem_of_getElem? (i := 132) rfl)), (hw _ (List.mem_of_getElem? (i := 133) rfl)), (hw _ (List.mem_of_getElem? (i := 134) rfl))⟩⟩,
      ⟨(hw _ (List.mem_of_getElem? (i := 136) rfl)), (hw _ (List.mem_of_getElem? (i := 139) rfl)), (hw _ (List.mem_of_getElem? (i := 2) rfl)), ⟨_, _, own_pd1, rfl⟩, own_pn1, own_ne1, rfl, (fun h => nomatch h), ⟨rfl, (hw _ (List.mem_of_getElem? (i := 137) rfl)), (hw _ (List.mem_of_getElem? (i := 138) rfl))⟩⟩,
      ⟨(hw _ (List.mem_of_getElem? (i := 140) rfl)), (hw _ (List.mem_of_getElem? (i := 143) rfl)), (hw _ (List.mem_of_getElem? (i := 2) rfl)), ⟨_, _, own_pd10, rfl⟩, own_pn1, own_ne1, rfl, (fun h => nomatch h), ⟨rfl, (hw _ (List.mem_of_getElem? (i := 141) rfl)), (hw _ (List.mem_of_getElem? (i := 142) rfl))⟩⟩,
      ⟨(hw _ (List.mem_of_getElem? (i := 144) rfl)), (hw _ (List.mem_of_getElem? (i := 147) rfl)), (hw _ (List.mem_of_getElem? (i := 2) rfl)), ⟨_, _, own_pd4, rfl⟩, own_pn1, own_ne1, rfl, (fun h => nomatch h), ⟨rfl, (hw _ (List.mem_of_getElem? (i := 145) rfl)), (hw _ (List.mem_of_getElem? (i := 146) rfl))⟩⟩,
      ⟨(hw _ (List.mem_of_getElem? (i := 148) rfl)), (hw _ (List.mem_of_getElem? (i := 152) rfl)), (hw _ (List.mem_of_getElem? (i := 2) rfl)), ⟨_, _, own_pd5, rfl⟩, own_pn1, own_ne1, rfl, (fun h => nomatch h), ⟨(hw _ (List.mem_of_getElem? (i := 149) rfl)), (hw _ (List.mem_of_getElem? (i := 150) rfl)), (hw _ (List.mem_of_getElem? (i := 151) rfl))⟩⟩,
      ⟨(hw _ (List.mem_of_getElem? (i := 153) rfl)), (hw _ (List.mem_of_getElem? (i := 157) rfl)), (hw _ (List.mem_of_getElem? (i := 2) rfl)), ⟨_, _, own_pd11, rfl⟩, own_pn1, own_ne1, rfl, (fun h => nomatch h), ⟨(hw _ (List.mem_of_getElem? (i := 154) rfl)), (hw _ (List.mem_of_getElem? (i := 155) rfl)), (hw _ (List.mem_of_getElem? (i := 156) rfl))⟩⟩,
      ⟨(hw _ (List.mem_of_getElem? (i := 158) rfl)), (hw _ (List.mem_of_getElem? (i := 161) rfl)), (hw _ (List.mem_of_getElem? (i := 2) rfl)), ⟨_, _, own_pd9, rfl⟩, own_pn1, own_ne1, rfl, (fun h => nomatch h), ⟨rfl, (hw _ (List.mem_of_getElem? (i := 159) rfl)), (hw _ (List.mem_of_getElem? (i := 160) rfl))⟩⟩,
      (hw _ (List.mem_of_getElem? (i := 0) rfl)),
      trivial⟩
/-! # the object's state -/
def Q : Type := List Int32 × List Int32 × List Int32 × List Int32 × List Int32 × List Int32 × List Int32 × List Int32 × List Int32 × List Int32 × List Int32 × List Int32 × List Int32 × List Int32 × Int32 × Int32 × Int32 × Int32
def Q.f_total (s : Q) : List Int32 := s.1
def Q.f_avail (s : Q) : List Int32 := s.2.1
def Q.f_maxc (s : Q) : List Int32 := s.2.2.1
def Q.f_alloc (s : Q) : List Int32 := s.2.2.2.1
def Q.f_op (s : Q) : List Int32 := s.2.2.2.2.1
def Q.f_kind (s : Q) : List Int32 := s.2.2.2.2.2.1
def Q.f_amt (s : Q) : List Int32 := s.2.2.2.2.2.2.1
def Q.f_len (s : Q) : List Int32 := s.2.2.2.2.2.2.2.1
def Q.f_pc (s : Q) : List Int32 := s.2.2.2.2.2.2.2.2.1
def Q.f_st (s : Q) : List Int32 := s.2.2.2.2.2.2.2.2.2.1
def Q.f_queue (s : Q) : List Int32 := s.2.2.2.2.2.2.2.2.2.2.1
def Q.f_work (s : Q) : List Int32 := s.2.2.2.2.2.2.2.2.2.2.2.1
def Q.f_mark (s : Q) : List Int32 := s.2.2.2.2.2.2.2.2.2.2.2.2.1
def Q.f_order (s : Q) : List Int32 := s.2.2.2.2.2.2.2.2.2.2.2.2.2.1
def Q.f_qlen (s : Q) : Int32 := s.2.2.2.2.2.2.2.2.2.2.2.2.2.2.1
def Q.f_nproc (s : Q) : Int32 := s.2.2.2.2.2.2.2.2.2.2.2.2.2.2.2.1
def Q.f_cur (s : Q) : Int32 := s.2.2.2.2.2.2.2.2.2.2.2.2.2.2.2.2.1
def Q.f_olen (s : Q) : Int32 := s.2.2.2.2.2.2.2.2.2.2.2.2.2.2.2.2.2
def Q.s_total (s : Q) (x : List Int32) : Q := (x, s.2.1, s.2.2.1, s.2.2.2.1, s.2.2.2.2.1, s.2.2.2.2.2.1, s.2.2.2.2.2.2.1, s.2.2.2.2.2.2.2.1, s.2.2.2.2.2.2.2.2.1, s.2.2.2.2.2.2.2.2.2.1, s.2.2.2.2.2.2.2.2.2.2.1, s.2.2.2.2.2.2.2.2.2.2.2.1, s.2.2.2.2.2.2.2.2.2.2.2.2.1, s.2.2.2.2.2.2.2.2.2.2.2.2.2.1, s.2.2.2.2.2.2.2.2.2.2.2.2.2.2.1, s.2.2.2.2.2.2.2.2.2.2.2.2.2.2.2.1, s.2.2.2.2.2.2.2.2.2.2.2.2.2.2.2.2.1, s.2.2.2.2.2.2.2.2.2.2.2.2.2.2.2.2.2)
def Q.s_avail (s : Q) (x : List Int32) : Q := (s.1, x, s.2.2.1, s.2.2.2.1, s.2.2.2.2.1, s.2.2.2.2.2.1, s.2.2.2.2.2.2.1, s.2.2.2.2.2.2.2.1, s.2.2.2.2.2.2.2.2.1, s.2.2.2.2.2.2.2.2.2.1, s.2.2.2.2.2.2.2.2.2.2.1, s.2.2.2.2.2.2.2.2.2.2.2.1, s.2.2.2.2.2.2.2.2.2.2.2.2.1, s.2.2.2.2.2.2.2.2.2.2.2.2.2.1, s.2.2.2.2.2.2.2.2.2.2.2.2.2.2.1, s.2.2.2.2.2.2.2.2.2.2.2.2.2.2.2.1, s.2.2.2.2.2.2.2.2.2.2.2.2.2.2.2.2.1, s.2.2.2.2.2.2.2.2.2.2.2.2.2.2.2.2.2)
def Q.s_maxc (s : Q) (x : List Int32) : Q := (s.1, s.2.1, x, s.2.2.2.1, s.2.2.2.2.1, s.2.2.2.2.2.1, s.2.2.2.2.2.2.1, s.2.2.2.2.2.2.2.1, s.2.2.2.2.2.2.2.2.1, s.2.2.2.2.2.2.2.2.2.1, s.2.2.2.2.2.2.2.2.2.2.1, s.2.2.2.2.2.2.2.2.2.2.2.1, s.2.2.2.2.2.2.2.2.2.2.2.2.1, s.2.2.2.2.2.2.2.2.2.2.2.2.2.1, s.2.2.2.2.2.2.2.2.2.2.2.2.2.2.1, s.2.2.2.2.2.2.2.2.2.2.2.2.2.2.2.1, s.2.2.2.2.2.2.2.2.2.2.2.2.2.2.2.2.1, s.2.2.2.2.2.2.2.2.2.2.2.2.2.2.2.2.2)
def Q.s_alloc (s : Q) (x : List Int32) : Q := (s.1, s.2.1, s.2.2.1, x, s.2.2.2.2.1, s.2.2.2.2.2.1, s.2.2.2.2.2.2.1, s.2.2.2.2.2.2.2.1, s.2.2.2.2.2.2.2.2.1, s.2.2.2.2.2.2.2.2.2.1, s.2.2.2.2.2.2.2.2.2.2.1, s.2.2.2.2.2.2.2.2.2.2.2.1, s.2.2.2.2.2.2.2.2.2.2.2.2.1, s.2.2.2.2.2.2.2.2.2.2.2.2.2.1, s.2.2.2.2.2.2.2.2.2.2.2.2.2.2.1, s.2.2.2.2.2.2.2.2.2.2.2.2.2.2.2.1, s.2.2.2.2.2.2.2.2.2.2.2.2.2.2.2.2.1, s.2.2.2.2.2.2.2.2.2.2.2.2.2.2.2.2.2)
def Q.s_op (s : Q) (x : List Int32) : Q := (s.1, s.2.1, s.2.2.1, s.2.2.2.1, x, s.2.2.2.2.2.1, s.2.2.2.2.2.2.1, s.2.2.2.2.2.2.2.1, s.2.2.2.2.2.2.2.2.1, s.2.2.2.2.2.2.2.2.2.1, s.2.2.2.2.2.2.2.2.2.2.1, s.2.2.2.2.2.2.2.2.2.2.2.1, s.2.2.2.2.2.2.2.2.2.2.2.2.1, s.2.2.2.2.2.2.2.2.2.2.2.2.2.1, s.2.2.2.2.2.2.2.2.2.2.2.2.2.2.1, s.2.2.2.2.2.2.2.2.2.2.2.2.2.2.2.1, s.2.2.2.2.2.2.2.2.2.2.2.2.2.2.2.2.1, s.2.2.2.2.2.2.2.2.2.2.2.2.2.2.2.2.2)
def Q.s_kind (s : Q) (x : List Int32) : Q := (s.1, s.2.1, s.2.2.1, s.2.2.2.1, s.2.2.2.2.1, x, s.2.2.2.2.2.2.1, s.2.2.2.2.2.2.2.1, s.2.2.2.2.2.2.2.2.1, s.2.2.2.2.2.2.2.2.2.1, s.2.2.2.2.2.2.2.2.2.2.1, s.2.2.2.2.2.2.2.2.2.2.2.1, s.2.2.2.2.2.2.2.2.2.2.2.2.1, s.2.2.2.2.2.2.2.2.2.2.2.2.2.1, s.2.2.2.2.2.2.2.2.2.2.2.2.2.2.1, s.2.2.2.2.2.2.2.2.2.2.2.2.2.2.2.1, s.2.2.2.2.2.2.2.2.2.2.2.2.2.2.2.2.1, s.2.2.2.2.2.2.2.2.2.2.2.2.2.2.2.2.2)
def Q.s_amt (s : Q) (x : List Int32) : Q := (s.1, s.2.1, s.2.2.1, s.2.2.2.1, s.2.2.2.2.1, s.2.2.2.2.2.1, x, s.2.2.2.2.2.2.2.1, s.2.2.2.2.2.2.2.2.1, s.2.2.2.2.2.2.2.2.2.1, s.2.2.2.2.2.2.2.2.2.2.1, s.2.2.2.2.2.2.2.2.2.2.2.1, s.2.2.2.2.2.2.2.2.2.2.2.2.1, s.2.2.2.2.2.2.2.2.2.2.2.2.2.1, s.2.2.2.2.2.2.2.2.2.2.2.2.2.2.1, s.2.2.2.2.2.2.2.2.2.2.2.2.2.2.2.1, s.2.2.2.2.2.2.2.2.2.2.2.2.2.2.2.2.1, s.2.2.2.2.2.2.2.2.2.2.2.2.2.2.2.2.2)
def Q.s_len (s : Q) (x : List Int32) : Q := (s.1, s.2.1, s.2.2.1, s.2.2.2.1, s.2.2.2.2.1, s.2.2.2.2.2.1, s.2.2.2.2.2.2.1, x, s.2.2.2.2.2.2.2.2.1, s.2.2.2.2.2.2.2.2.2.1, s.2.2.2.2.2.2.2.2.2.2.1, s.2.2.2.2.2.2.2.2.2.2.2.1, s.2.2.2.2.2.2.2.2.2.2.2.2.1, s.2.2.2.2.2.2.2.2.2.2.2.2.2.1, s.2.2.2.2.2.2.2.2.2.2.2.2.2.2.1, s.2.2.2.2.2.2.2.2.2.2.2.2.2.2.2.1, s.2.2.2.2.2.2.2.2.2.2.2.2.2.2.2.2.1, s.2.2.2.2.2.2.2.2.2.2.2.2.2.2.2.2.2)
def Q.s_pc (s : Q) (x : List Int32) : Q := (s.1, s.2.1, s.2.2.1, s.2.2.2.1, s.2.2.2.2.1, s.2.2.2.2.2.1, s.2.2.2.2.2.2.1, s.2.2.2.2.2.2.2.1, x, s.2.2.2.2.2.2.2.2.2.1, s.2.2.2.2.2.2.2.2.2.2.1, s.2.2.2.2.2.2.2.2.2.2.2.1, s.2.2.2.2.2.2.2.2.2.2.2.2.1, s.2.2.2.2.2.2.2.2.2.2.2.2.2.1, s.2.2.2.2.2.2.2.2.2.2.2.2.2.2.1, s.2.2.2.2.2.2.2.2.2.2.2.2.2.2.2.1, s.2.2.2.2.2.2.2.2.2.2.2.2.2.2.2.2.1, s.2.2.2.2.2.2.2.2.2.2.2.2.2.2.2.2.2)
def Q.s_st (s : Q) (x : List Int32) : Q := (s.1, s.2.1, s.2.2.1, s.2.2.2.1, s.2.2.2.2.1, s.2.2.2.2.2.1, s.2.2.2.2.2.2.1, s.2.2.2.2.2.2.2.1, s.2.2.2.2.2.2.2.2.1, x, s.2.2.2.2.2.2.2.2.2.2.1, s.2.2.2.2.2.2.2.2.2.2.2.1, s.2.2.2.2.2.2.2.2.2.2.2.2.1, s.2.2.2.2.2.2.2.2.2.2.2.2.2.1, s.2.2.2.2.2.2.2.2.2.2.2.2.2.2.1, s.2.2.2.2.2.2.2.2.2.2.2.2.2.2.2.1, s.2.2.2.2.2.2.2.2.2.2.2.2.2.2.2.2.1, s.2.2.2.2.2.2.2.2.2.2.2.2.2.2.2.2.2)
def Q.s_queue (s : Q) (x : List Int32) : Q := (s.1, s.2.1, s.2.2.1, s.2.2.2.1, s.2.2.2.2.1, s.2.2.2.2.2.1, s.2.2.2.2.2.2.1, s.2.2.2.2.2.2.2.1, s.2.2.2.2.2.2.2.2.1, s.2.2.2.2.2.2.2.2.2.1, x, s.2.2.2.2.2.2.2.2.2.2.2.1, s.2.2.2.2.2.2.2.2.2.2.2.2.1, s.2.2.2.2.2.2.2.2.2.2.2.2.2.1, s.2.2.2.2.2.2.2.2.2.2.2.2.2.2.1, s.2.2.2.2.2.2.2.2.2.2.2.2.2.2.2.1, s.2.2.2.2.2.2.2.2.2.2.2.2.2.2.2.2.1, s.2.2.2.2.2.2.2.2.2.2.2.2.2.2.2.2.2)
def Q.s_work (s : Q) (x : List Int32) : Q := (s.1, s.2.1, s.2.2.1, s.2.2.2.1, s.2.2.2.2.1, s.2.2.2.2.2.1, s.2.2.2.2.2.2.1, s.2.2.2.2.2.2.2.1, s.2.2.2.2.2.2.2.2.1, s.2.2.2.2.2.2.2.2.2.1, s.2.2.2.2.2.2.2.2.2.2.1, x, s.2.2.2.2.2.2.2.2.2.2.2.2.1, s.2.2.2.2.2.2.2.2.2.2.2.2.2.1, s.2.2.2.2.2.2.2.2.2.2.2.2.2.2.1, s.2.2.2.2.2.2.2.2.2.2.2.2.2.2.2.1, s.2.2.2.2.2.2.2.2.2.2.2.2.2.2.2.2.1, s.2.2.2.2.2.2.2.2.2.2.2.2.2.2.2.2.2)
def Q.s_mark (s : Q) (x : List Int32) : Q := (s.1, s.2.1, s.2.2.1, s.2.2.2.1, s.2.2.2.2.1, s.2.2.2.2.2.1, s.2.2.2.2.2.2.1, s.2.2.2.2.2.2.2.1, s.2.2.2.2.2.2.2.2.1, s.2.2.2.2.2.2.2.2.2.1, s.2.2.2.2.2.2.2.2.2.2.1, s.2.2.2.2.2.2.2.2.2.2.2.1, x, s.2.2.2.2.2.2.2.2.2.2.2.2.2.1, s.2.2.2.2.2.2.2.2.2.2.2.2.2.2.1, s.2.2.2.2.2.2.2.2.2.2.2.2.2.2.2.1, s.2.2.2.2.2.2.2.2.2.2.2.2.2.2.2.2.1, s.2.2.2.2.2.2.2.2.2.2.2.2.2.2.2.2.2)
def Q.s_order (s : Q) (x : List Int32) : Q := (s.1, s.2.1, s.2.2.1, s.2.2.2.1, s.2.2.2.2.1, s.2.2.2.2.2.1, s.2.2.2.2.2.2.1, s.2.2.2.2.2.2.2.1, s.2.2.2.2.2.2.2.2.1, s.2.2.2.2.2.2.2.2.2.1, s.2.2.2.2.2.2.2.2.2.2.1, s.2.2.2.2.2.2.2.2.2.2.2.1, s.2.2.2.2.2.2.2.2.2.2.2.2.1, x, s.2.2.2.2.2.2.2.2.2.2.2.2.2.2.1, s.2.2.2.2.2.2.2.2.2.2.2.2.2.2.2.1, s.2.2.2.2.2.2.2.2.2.2.2.2.2.2.2.2.1, s.2.2.2.2.2.2.2.2.2.2.2.2.2.2.2.2.2)
def Q.s_qlen (s : Q) (x : Int32) : Q := (s.1, s.2.1, s.2.2.1, s.2.2.2.1, s.2.2.2.2.1, s.2.2.2.2.2.1, s.2.2.2.2.2.2.1, s.2.2.2.2.2.2.2.1, s.2.2.2.2.2.2.2.2.1, s.2.2.2.2.2.2.2.2.2.1, s.2.2.2.2.2.2.2.2.2.2.1, s.2.2.2.2.2.2.2.2.2.2.2.1, s.2.2.2.2.2.2.2.2.2.2.2.2.1, s.2.2.2.2.2.2.2.2.2.2.2.2.2.1, x, s.2.2.2.2.2.2.2.2.2.2.2.2.2.2.2.1, s.2.2.2.2.2.2.2.2.2.2.2.2.2.2.2.2.1, s.2.2.2.2.2.2.2.2.2.2.2.2.2.2.2.2.2)
def Q.s_nproc (s : Q) (x : Int32) : Q := (s.1, s.2.1, s.2.2.1, s.2.2.2.1, s.2.2.2.2.1, s.2.2.2.2.2.1, s.2.2.2.2.2.2.1, s.2.2.2.2.2.2.2.1, s.2.2.2.2.2.2.2.2.1, s.2.2.2.2.2.2.2.2.2.1, s.2.2.2.2.2.2.2.2.2.2.1, s.2.2.2.2.2.2.2.2.2.2.2.1, s.2.2.2.2.2.2.2.2.2.2.2.2.1, s.2.2.2.2.2.2.2.2.2.2.2.2.2.1, s.2.2.2.2.2.2.2.2.2.2.2.2.2.2.1, x, s.2.2.2.2.2.2.2.2.2.2.2.2.2.2.2.2.1, s.2.2.2.2.2.2.2.2.2.2.2.2.2.2.2.2.2)
def Q.s_cur (s : Q) (x : Int32) : Q := (s.1, s.2.1, s.2.2.1, s.2.2.2.1, s.2.2.2.2.1, s.2.2.2.2.2.1, s.2.2.2.2.2.2.1, s.2.2.2.2.2.2.2.1, s.2.2.2.2.2.2.2.2.1, s.2.2.2.2.2.2.2.2.2.1, s.2.2.2.2.2.2.2.2.2.2.1, s.2.2.2.2.2.2.2.2.2.2.2.1, s.2.2.2.2.2.2.2.2.2.2.2.2.1, s.2.2.2.2.2.2.2.2.2.2.2.2.2.1, s.2.2.2.2.2.2.2.2.2.2.2.2.2.2.1, s.2.2.2.2.2.2.2.2.2.2.2.2.2.2.2.1, x, s.2.2.2.2.2.2.2.2.2.2.2.2.2.2.2.2.2)
def Q.s_olen (s : Q) (x : Int32) : Q := (s.1, s.2.1, s.2.2.1, s.2.2.2.1, s.2.2.2.2.1, s.2.2.2.2.2.1, s.2.2.2.2.2.2.1, s.2.2.2.2.2.2.2.1, s.2.2.2.2.2.2.2.2.1, s.2.2.2.2.2.2.2.2.2.1, s.2.2.2.2.2.2.2.2.2.2.1, s.2.2.2.2.2.2.2.2.2.2.2.1, s.2.2.2.2.2.2.2.2.2.2.2.2.1, s.2.2.2.2.2.2.2.2.2.2.2.2.2.1, s.2.2.2.2.2.2.2.2.2.2.2.2.2.2.1, s.2.2.2.2.2.2.2.2.2.2.2.2.2.2.2.1, s.2.2.2.2.2.2.2.2.2.2.2.2.2.2.2.2.1, x)
def Q0 : Q := (List.replicate 4 0, List.replicate 4 0, List.replicate 32 0, List.replicate 32 0, List.replicate 64 0, List.replicate 64 0, List.replicate 64 0, List.replicate 8 0, List.replicate 8 0, List.replicate 8 0, List.replicate 8 0, List.replicate 4 0, List.replicate 8 0, List.replicate 8 0, (0 : Int32), (0 : Int32), (0 : Int32), (0 : Int32))
def Q.mk (q0 : List Int32) (q1 : List Int32) (q2 : List Int32) (q3 : List Int32) (q4 : List Int32) (q5 : List Int32) (q6 : List Int32) (q7 : List Int32) (q8 : List Int32) (q9 : List Int32) (q10 : List Int32) (q11 : List Int32) (q12 : List Int32) (q13 : List Int32) (q14 : Int32) (q15 : Int32) (q16 : Int32) (q17 : Int32) : Q := (q0, q1, q2, q3, q4, q5, q6, q7, q8, q9, q10, q11, q12, q13, q14, q15, q16, q17)
theorem own_f_total {q0 : List Int32} {q1 : List Int32} {q2 : List Int32} {q3 : List Int32} {q4 : List Int32} {q5 : List Int32} {q6 : List Int32} {q7 : List Int32} {q8 : List Int32} {q9 : List Int32} {q10 : List Int32} {q11 : List Int32} {q12 : List Int32} {q13 : List Int32} {q14 : Int32} {q15 : Int32} {q16 : Int32} {q17 : Int32} : (Q.mk q0 q1 q2 q3 q4 q5 q6 q7 q8 q9 q10 q11 q12 q13 q14 q15 q16 q17).f_total = q0 := by have _h := trivial; exact rfl
theorem own_f_avail {q0 : List Int32} {q1 : List Int32} {q2 : List Int32} {q3 : List Int32} {q4 : List Int32} {q5 : List Int32} {q6 : List Int32} {q7 : List Int32} {q8 : List Int32} {q9 : List Int32} {q10 : List Int32} {q11 : List Int32} {q12 : List Int32} {q13 : List Int32} {q14 : Int32} {q15 : Int32} {q16 : Int32} {q17 : Int32} : (Q.mk q0 q1 q2 q3 q4 q5 q6 q7 q8 q9 q10 q11 q12 q13 q14 q15 q16 q17).f_avail = q1 := by have _h := trivial; exact rfl
theorem own_f_maxc {q0 : List Int32} {q1 : List Int32} {q2 : List Int32} {q3 : List Int32} {q4 : List Int32} {q5 : List Int32} {q6 : List Int32} {q7 : List Int32} {q8 : List Int32} {q9 : List Int32} {q10 : List Int32} {q11 : List Int32} {q12 : List Int32} {q13 : List Int32} {q14 : Int32} {q15 : Int32} {q16 : Int32} {q17 : Int32} : (Q.mk q0 q1 q2 q3 q4 q5 q6 q7 q8 q9 q10 q11 q12 q13 q14 q15 q16 q17).f_maxc = q2 := by have _h := trivial; exact rfl
theorem own_f_alloc {q0 : List Int32} {q1 : List Int32} {q2 : List Int32} {q3 : List Int32} {q4 : List Int32} {q5 : List Int32} {q6 : List Int32} {q7 : List Int32} {q8 : List Int32} {q9 : List Int32} {q10 : List Int32} {q11 : List Int32} {q12 : List Int32} {q13 : List Int32} {q14 : Int32} {q15 : Int32} {q16 : Int32} {q17 : Int32} : (Q.mk q0 q1 q2 q3 q4 q5 q6 q7 q8 q9 q10 q11 q12 q13 q14 q15 q16 q17).f_alloc = q3 := by have _h := trivial; exact rfl
theorem own_f_op {q0 : List Int32} {q1 : List Int32} {q2 : List Int32} {q3 : List Int32} {q4 : List Int32} {q5 : List Int32} {q6 : List Int32} {q7 : List Int32} {q8 : List Int32} {q9 : List Int32} {q10 : List Int32} {q11 : List Int32} {q12 : List Int32} {q13 : List Int32} {q14 : Int32} {q15 : Int32} {q16 : Int32} {q17 : Int32} : (Q.mk q0 q1 q2 q3 q4 q5 q6 q7 q8 q9 q10 q11 q12 q13 q14 q15 q16 q17).f_op = q4 := by have _h := trivial; exact rfl
theorem own_f_kind {q0 : List Int32} {q1 : List Int32} {q2 : List Int32} {q3 : List Int32} {q4 : List Int32} {q5 : List Int32} {q6 : List Int32} {q7 : List Int32} {q8 : List Int32} {q9 : List Int32} {q10 : List Int32} {q11 : List Int32} {q12 : List Int32} {q13 : List Int32} {q14 : Int32} {q15 : Int32} {q16 : Int32} {q17 : Int32} : (Q.mk q0 q1 q2 q3 q4 q5 q6 q7 q8 q9 q10 q11 q12 q13 q14 q15 q16 q17).f_kind = q5 := by have _h := trivial; exact rfl
theorem own_f_amt {q0 : List Int32} {q1 : List Int32} {q2 : List Int32} {q3 : List Int32} {q4 : List Int32} {q5 : List Int32} {q6 : List Int32} {q7 : List Int32} {q8 : List Int32} {q9 : List Int32} {q10 : List Int32} {q11 : List Int32} {q12 : List Int32} {q13 : List Int32} {q14 : Int32} {q15 : Int32} {q16 : Int32} {q17 : Int32} : (Q.mk q0 q1 q2 q3 q4 q5 q6 q7 q8 q9 q10 q11 q12 q13 q14 q15 q16 q17).f_amt = q6 := by have _h := trivial; exact rfl
theorem own_f_len {q0 : List Int32} {q1 : List Int32} {q2 : List Int32} {q3 : List Int32} {q4 : List Int32} {q5 : List Int32} {q6 : List Int32} {q7 : List Int32} {q8 : List Int32} {q9 : List Int32} {q10 : List Int32} {q11 : List Int32} {q12 : List Int32} {q13 : List Int32} {q14 : Int32} {q15 : Int32} {q16 : Int32} {q17 : Int32} : (Q.mk q0 q1 q2 q3 q4 q5 q6 q7 q8 q9 q10 q11 q12 q13 q14 q15 q16 q17).f_len = q7 := by have _h := trivial; exact rfl
theorem own_f_pc {q0 : List Int32} {q1 : List Int32} {q2 : List Int32} {q3 : List Int32} {q4 : List Int32} {q5 : List Int32} {q6 : List Int32} {q7 : List Int32} {q8 : List Int32} {q9 : List Int32} {q10 : List Int32} {q11 : List Int32} {q12 : List Int32} {q13 : List Int32} {q14 : Int32} {q15 : Int32} {q16 : Int32} {q17 : Int32} : (Q.mk q0 q1 q2 q3 q4 q5 q6 q7 q8 q9 q10 q11 q12 q13 q14 q15 q16 q17).f_pc = q8 := by have _h := trivial; exact rfl
theorem own_f_st {q0 : List Int32} {q1 : List Int32} {q2 : List Int32} {q3 : List Int32} {q4 : List Int32} {q5 : List Int32} {q6 : List Int32} {q7 : List Int32} {q8 : List Int32} {q9 : List Int32} {q10 : List Int32} {q11 : List Int32} {q12 : List Int32} {q13 : List Int32} {q14 : Int32} {q15 : Int32} {q16 : Int32} {q17 : Int32} : (Q.mk q0 q1 q2 q3 q4 q5 q6 q7 q8 q9 q10 q11 q12 q13 q14 q15 q16 q17).f_st = q9 := by have _h := trivial; exact rfl
theorem own_f_queue {q0 : List Int32} {q1 : List Int32} {q2 : List Int32} {q3 : List Int32} {q4 : List Int32} {q5 : List Int32} {q6 : List Int32} {q7 : List Int32} {q8 : List Int32} {q9 : List Int32} {q10 : List Int32} {q11 : List Int32} {q12 : List Int32} {q13 : List Int32} {q14 : Int32} {q15 : Int32} {q16 : Int32} {q17 : Int32} : (Q.mk q0 q1 q2 q3 q4 q5 q6 q7 q8 q9 q10 q11 q12 q13 q14 q15 q16 q17).f_queue = q10 := by have _h := trivial; exact rfl
theorem own_f_work {q0 : List Int32} {q1 : List Int32} {q2 : List Int32} {q3 : List Int32} {q4 : List Int32} {q5 : List Int32} {q6 : List Int32} {q7 : List Int32} {q8 : List Int32} {q9 : List Int32} {q10 : List Int32} {q11 : List Int32} {q12 : List Int32} {q13 : List Int32} {q14 : Int32} {q15 : Int32} {q16 : Int32} {q17 : Int32} : (Q.mk q0 q1 q2 q3 q4 q5 q6 q7 q8 q9 q10 q11 q12 q13 q14 q15 q16 q17).f_work = q11 := by have _h := trivial; exact rfl
theorem own_f_mark {q0 : List Int32} {q1 : List Int32} {q2 : List Int32} {q3 : List Int32} {q4 : List Int32} {q5 : List Int32} {q6 : List Int32} {q7 : List Int32} {q8 : List Int32} {q9 : List Int32} {q10 : List Int32} {q11 : List Int32} {q12 : List Int32} {q13 : List Int32} {q14 : Int32} {q15 : Int32} {q16 : Int32} {q17 : Int32} : (Q.mk q0 q1 q2 q3 q4 q5 q6 q7 q8 q9 q10 q11 q12 q13 q14 q15 q16 q17).f_mark = q12 := by have _h := trivial; exact rfl
theorem own_f_order {q0 : List Int32} {q1 : List Int32} {q2 : List Int32} {q3 : List Int32} {q4 : List Int32} {q5 : List Int32} {q6 : List Int32} {q7 : List Int32} {q8 : List Int32} {q9 : List Int32} {q10 : List Int32} {q11 : List Int32} {q12 : List Int32} {q13 : List Int32} {q14 : Int32} {q15 : Int32} {q16 : Int32} {q17 : Int32} : (Q.mk q0 q1 q2 q3 q4 q5 q6 q7 q8 q9 q10 q11 q12 q13 q14 q15 q16 q17).f_order = q13 := by have _h := trivial; exact rfl
theorem own_f_qlen {q0 : List Int32} {q1 : List Int32} {q2 : List Int32} {q3 : List Int32} {q4 : List Int32} {q5 : List Int32} {q6 : List Int32} {q7 : List Int32} {q8 : List Int32} {q9 : List Int32} {q10 : List Int32} {q11 : List Int32} {q12 : List Int32} {q13 : List Int32} {q14 : Int32} {q15 : Int32} {q16 : Int32} {q17 : Int32} : (Q.mk q0 q1 q2 q3 q4 q5 q6 q7 q8 q9 q10 q11 q12 q13 q14 q15 q16 q17).f_qlen = q14 := by have _h := trivial; exact rfl
theorem own_f_nproc {q0 : List Int32} {q1 : List Int32} {q2 : List Int32} {q3 : List Int32} {q4 : List Int32} {q5 : List Int32} {q6 : List Int32} {q7 : List Int32} {q8 : List Int32} {q9 : List Int32} {q10 : List Int32} {q11 : List Int32} {q12 : List Int32} {q13 : List Int32} {q14 : Int32} {q15 : Int32} {q16 : Int32} {q17 : Int32} : (Q.mk q0 q1 q2 q3 q4 q5 q6 q7 q8 q9 q10 q11 q12 q13 q14 q15 q16 q17).f_nproc = q15 := by have _h := trivial; exact rfl
theorem own_f_cur {q0 : List Int32} {q1 : List Int32} {q2 : List Int32} {q3 : List Int32} {q4 : List Int32} {q5 : List Int32} {q6 : List Int32} {q7 : List Int32} {q8 : List Int32} {q9 : List Int32} {q10 : List Int32} {q11 : List Int32} {q12 : List Int32} {q13 : List Int32} {q14 : Int32} {q15 : Int32} {q16 : Int32} {q17 : Int32} : (Q.mk q0 q1 q2 q3 q4 q5 q6 q7 q8 q9 q10 q11 q12 q13 q14 q15 q16 q17).f_cur = q16 := by have _h := trivial; exact rfl
theorem own_f_olen {q0 : List Int32} {q1 : List Int32} {q2 : List Int32} {q3 : List Int32} {q4 : List Int32} {q5 : List Int32} {q6 : List Int32} {q7 : List Int32} {q8 : List Int32} {q9 : List Int32} {q10 : List Int32} {q11 : List Int32} {q12 : List Int32} {q13 : List Int32} {q14 : Int32} {q15 : Int32} {q16 : Int32} {q17 : Int32} : (Q.mk q0 q1 q2 q3 q4 q5 q6 q7 q8 q9 q10 q11 q12 q13 q14 q15 q16 q17).f_olen = q17 := by have _h := trivial; exact rfl
theorem own_e_total (s : Q) (x : List Int32) : s.s_total x = Q.mk x s.f_avail s.f_maxc s.f_alloc s.f_op s.f_kind s.f_amt s.f_len s.f_pc s.f_st s.f_queue s.f_work s.f_mark s.f_order s.f_qlen s.f_nproc s.f_cur s.f_olen := by have _h := trivial; exact rfl
theorem own_e_avail (s : Q) (x : List Int32) : s.s_avail x = Q.mk s.f_total x s.f_maxc s.f_alloc s.f_op s.f_kind s.f_amt s.f_len s.f_pc s.f_st s.f_queue s.f_work s.f_mark s.f_order s.f_qlen s.f_nproc s.f_cur s.f_olen := by have _h := trivial; exact rfl
theorem own_e_maxc (s : Q) (x : List Int32) : s.s_maxc x = Q.mk s.f_total s.f_avail x s.f_alloc s.f_op s.f_kind s.f_amt s.f_len s.f_pc s.f_st s.f_queue s.f_work s.f_mark s.f_order s.f_qlen s.f_nproc s.f_cur s.f_olen := by have _h := trivial; exact rfl
theorem own_e_alloc (s : Q) (x : List Int32) : s.s_alloc x = Q.mk s.f_total s.f_avail s.f_maxc x s.f_op s.f_kind s.f_amt s.f_len s.f_pc s.f_st s.f_queue s.f_work s.f_mark s.f_order s.f_qlen s.f_nproc s.f_cur s.f_olen := by have _h := trivial; exact rfl
theorem own_e_op (s : Q) (x : List Int32) : s.s_op x = Q.mk s.f_total s.f_avail s.f_maxc s.f_alloc x s.f_kind s.f_amt s.f_len s.f_pc s.f_st s.f_queue s.f_work s.f_mark s.f_order s.f_qlen s.f_nproc s.f_cur s.f_olen := by have _h := trivial; exact rfl
theorem own_e_kind (s : Q) (x : List Int32) : s.s_kind x = Q.mk s.f_total s.f_avail s.f_maxc s.f_alloc s.f_op x s.f_amt s.f_len s.f_pc s.f_st s.f_queue s.f_work s.f_mark s.f_order s.f_qlen s.f_nproc s.f_cur s.f_olen := by have _h := trivial; exact rfl
theorem own_e_amt (s : Q) (x : List Int32) : s.s_amt x = Q.mk s.f_total s.f_avail s.f_maxc s.f_alloc s.f_op s.f_kind x s.f_len s.f_pc s.f_st s.f_queue s.f_work s.f_mark s.f_order s.f_qlen s.f_nproc s.f_cur s.f_olen := by have _h := trivial; exact rfl
theorem own_e_len (s : Q) (x : List Int32) : s.s_len x = Q.mk s.f_total s.f_avail s.f_maxc s.f_alloc s.f_op s.f_kind s.f_amt x s.f_pc s.f_st s.f_queue s.f_work s.f_mark s.f_order s.f_qlen s.f_nproc s.f_cur s.f_olen := by have _h := trivial; exact rfl
theorem own_e_pc (s : Q) (x : List Int32) : s.s_pc x = Q.mk s.f_total s.f_avail s.f_maxc s.f_alloc s.f_op s.f_kind s.f_amt s.f_len x s.f_st s.f_queue s.f_work s.f_mark s.f_order s.f_qlen s.f_nproc s.f_cur s.f_olen := by have _h := trivial; exact rfl
theorem own_e_st (s : Q) (x : List Int32) : s.s_st x = Q.mk s.f_total s.f_avail s.f_maxc s.f_alloc s.f_op s.f_kind s.f_amt s.f_len s.f_pc x s.f_queue s.f_work s.f_mark s.f_order s.f_qlen s.f_nproc s.f_cur s.f_olen := by have _h := trivial; exact rfl
theorem own_e_queue (s : Q) (x : List Int32) : s.s_queue x = Q.mk s.f_total s.f_avail s.f_maxc s.f_alloc s.f_op s.f_kind s.f_amt s.f_len s.f_pc s.f_st x s.f_work s.f_mark s.f_order s.f_qlen s.f_nproc s.f_cur s.f_olen := by have _h := trivial; exact rfl
theorem own_e_work (s : Q) (x : List Int32) : s.s_work x = Q.mk s.f_total s.f_avail s.f_maxc s.f_alloc s.f_op s.f_kind s.f_amt s.f_len s.f_pc s.f_st s.f_queue x s.f_mark s.f_order s.f_qlen s.f_nproc s.f_cur s.f_olen := by have _h := trivial; exact rfl
theorem own_e_mark (s : Q) (x : List Int32) : s.s_mark x = Q.mk s.f_total s.f_avail s.f_maxc s.f_alloc s.f_op s.f_kind s.f_amt s.f_len s.f_pc s.f_st s.f_queue s.f_work x s.f_order s.f_qlen s.f_nproc s.f_cur s.f_olen := by have _h := trivial; exact rfl
theorem own_e_order (s : Q) (x : List Int32) : s.s_order x = Q.mk s.f_total s.f_avail s.f_maxc s.f_alloc s.f_op s.f_kind s.f_amt s.f_len s.f_pc s.f_st s.f_queue s.f_work s.f_mark x s.f_qlen s.f_nproc s.f_cur s.f_olen := by have _h := trivial; exact rfl
theorem own_e_qlen (s : Q) (x : Int32) : s.s_qlen x = Q.mk s.f_total s.f_avail s.f_maxc s.f_alloc s.f_op s.f_kind s.f_amt s.f_len s.f_pc s.f_st s.f_queue s.f_work s.f_mark s.f_order x s.f_nproc s.f_cur s.f_olen := by have _h := trivial; exact rfl
theorem own_e_nproc (s : Q) (x : Int32) : s.s_nproc x = Q.mk s.f_total s.f_avail s.f_maxc s.f_alloc s.f_op s.f_kind s.f_amt s.f_len s.f_pc s.f_st s.f_queue s.f_work s.f_mark s.f_order s.f_qlen x s.f_cur s.f_olen := by have _h := trivial; exact rfl
theorem own_e_cur (s : Q) (x : Int32) : s.s_cur x = Q.mk s.f_total s.f_avail s.f_maxc s.f_alloc s.f_op s.f_kind s.f_amt s.f_len s.f_pc s.f_st s.f_queue s.f_work s.f_mark s.f_order s.f_qlen s.f_nproc x s.f_olen := by have _h := trivial; exact rfl
theorem own_e_olen (s : Q) (x : Int32) : s.s_olen x = Q.mk s.f_total s.f_avail s.f_maxc s.f_alloc s.f_op s.f_kind s.f_amt s.f_len s.f_pc s.f_st s.f_queue s.f_work s.f_mark s.f_order s.f_qlen s.f_nproc s.f_cur x := by have _h := trivial; exact rfl
theorem own_z_total : Q0.f_total = List.replicate 4 0 := by have _h := trivial; exact rfl
theorem own_z_avail : Q0.f_avail = List.replicate 4 0 := by have _h := trivial; exact rfl
theorem own_z_maxc : Q0.f_maxc = List.replicate 32 0 := by have _h := trivial; exact rfl
theorem own_z_alloc : Q0.f_alloc = List.replicate 32 0 := by have _h := trivial; exact rfl
theorem own_z_op : Q0.f_op = List.replicate 64 0 := by have _h := trivial; exact rfl
theorem own_z_kind : Q0.f_kind = List.replicate 64 0 := by have _h := trivial; exact rfl
theorem own_z_amt : Q0.f_amt = List.replicate 64 0 := by have _h := trivial; exact rfl
theorem own_z_len : Q0.f_len = List.replicate 8 0 := by have _h := trivial; exact rfl
theorem own_z_pc : Q0.f_pc = List.replicate 8 0 := by have _h := trivial; exact rfl
theorem own_z_st : Q0.f_st = List.replicate 8 0 := by have _h := trivial; exact rfl
theorem own_z_queue : Q0.f_queue = List.replicate 8 0 := by have _h := trivial; exact rfl
theorem own_z_work : Q0.f_work = List.replicate 4 0 := by have _h := trivial; exact rfl
theorem own_z_mark : Q0.f_mark = List.replicate 8 0 := by have _h := trivial; exact rfl
theorem own_z_order : Q0.f_order = List.replicate 8 0 := by have _h := trivial; exact rfl
theorem own_z_qlen : Q0.f_qlen = (0 : Int32) := by have _h := trivial; exact rfl
theorem own_z_nproc : Q0.f_nproc = (0 : Int32) := by have _h := trivial; exact rfl
theorem own_z_cur : Q0.f_cur = (0 : Int32) := by have _h := trivial; exact rfl
theorem own_z_olen : Q0.f_olen = (0 : Int32) := by have _h := trivial; exact rfl
abbrev W0 (R : AHeap) : AHeap := R
def own_cells1 (q0 : List Int32) (q1 : List Int32) (q2 : List Int32) (q3 : List Int32) (q4 : List Int32) (q5 : List Int32) (q6 : List Int32) (q7 : List Int32) (q8 : List Int32) (q9 : List Int32) (q10 : List Int32) (q11 : List Int32) (q12 : List Int32) (q13 : List Int32) (q14 : Int32) (q15 : Int32) (q16 : Int32) (q17 : Int32) (R : AHeap) : AHeap := .inl [.ref 1, .ref 2, .ref 3, .ref 4, .ref 5, .ref 6, .ref 7, .ref 8, .ref 9, .ref 10, .ref 11, .ref 12, .ref 13, .ref 14, .int q14, .int q15, .int q16, .int q17] ::
  .inr (.inl (1, q0)) ::
  .inr (.inl (1, q1)) ::
  .inr (.inl (1, q2)) ::
  .inr (.inl (1, q3)) ::
  .inr (.inl (1, q4)) ::
  .inr (.inl (1, q5)) ::
  .inr (.inl (1, q6)) ::
  .inr (.inl (1, q7)) ::
  .inr (.inl (1, q8)) ::
  .inr (.inl (1, q9)) ::
  .inr (.inl (1, q10)) ::
  .inr (.inl (1, q11)) ::
  .inr (.inl (2, q12)) ::
  .inr (.inl (1, q13)) ::
  R
def C1 (q0 : List Int32) (q1 : List Int32) (q2 : List Int32) (q3 : List Int32) (q4 : List Int32) (q5 : List Int32) (q6 : List Int32) (q7 : List Int32) (q8 : List Int32) (q9 : List Int32) (q10 : List Int32) (q11 : List Int32) (q12 : List Int32) (q13 : List Int32) (q14 : Int32) (q15 : Int32) (q16 : Int32) (q17 : Int32) (R : AHeap) : AHeap := own_cells1 q0 q1 q2 q3 q4 q5 q6 q7 q8 q9 q10 q11 q12 q13 q14 q15 q16 q17 R
abbrev W1 (s : Q) (R : AHeap) : AHeap := C1 s.f_total s.f_avail s.f_maxc s.f_alloc s.f_op s.f_kind s.f_amt s.f_len s.f_pc s.f_st s.f_queue s.f_work s.f_mark s.f_order s.f_qlen s.f_nproc s.f_cur s.f_olen R
theorem own_g1_total {q0 : List Int32} {q1 : List Int32} {q2 : List Int32} {q3 : List Int32} {q4 : List Int32} {q5 : List Int32} {q6 : List Int32} {q7 : List Int32} {q8 : List Int32} {q9 : List Int32} {q10 : List Int32} {q11 : List Int32} {q12 : List Int32} {q13 : List Int32} {q14 : Int32} {q15 : Int32} {q16 : Int32} {q17 : Int32} {R : AHeap} : getC (C1 q0 q1 q2 q3 q4 q5 q6 q7 q8 q9 q10 q11 q12 q13 q14 q15 q16 q17 R) 0 0 = some (.ref 1) := rfl
theorem own_a1_total {q0 : List Int32} {q1 : List Int32} {q2 : List Int32} {q3 : List Int32} {q4 : List Int32} {q5 : List Int32} {q6 : List Int32} {q7 : List Int32} {q8 : List Int32} {q9 : List Int32} {q10 : List Int32} {q11 : List Int32} {q12 : List Int32} {q13 : List Int32} {q14 : Int32} {q15 : Int32} {q16 : Int32} {q17 : Int32} {R : AHeap} : (C1 q0 q1 q2 q3 q4 q5 q6 q7 q8 q9 q10 q11 q12 q13 q14 q15 q16 q17 R)[1]? = some (.inr (.inl (1, q0))) := rfl
theorem own_s1_total {q0 : List Int32} {q1 : List Int32} {q2 : List Int32} {q3 : List Int32} {q4 : List Int32} {q5 : List Int32} {q6 : List Int32} {q7 : List Int32} {q8 : List Int32} {q9 : List Int32} {q10 : List Int32} {q11 : List Int32} {q12 : List Int32} {q13 : List Int32} {q14 : Int32} {q15 : Int32} {q16 : Int32} {q17 : Int32} {R : AHeap} {x : List Int32} : (C1 q0 q1 q2 q3 q4 q5 q6 q7 q8 q9 q10 q11 q12 q13 q14 q15 q16 q17 R).set 1 (.inr (.inl (1, x))) = (C1 x q1 q2 q3 q4 q5 q6 q7 q8 q9 q10 q11 q12 q13 q14 q15 q16 q17 R) := rfl
theorem own_g1_avail {q0 : List Int32} {q1 : List Int32} {q2 : List Int32} {q3 : List Int32} {q4 : List Int32} {q5 : List Int32} {q6 : List Int32} {q7 : List Int32} {q8 : List Int32} {q9 : List Int32} {q10 : List Int32} {q11 : List Int32} {q12 : List Int32} {q13 : List Int32} {q14 : Int32} {q15 : Int32} {q16 : Int32} {q17 : Int32} {R : AHeap} : getC (C1 q0 q1 q2 q3 q4 q5 q6 q7 q8 q9 q10 q11 q12 q13 q14 q15 q16 q17 R) 0 1 = some (.ref 2) := rfl
theorem own_a1_avail {q0 : List Int32} {q1 : List Int32} {q2 : List Int32} {q3 : List Int32} {q4 : List Int32} {q5 : List Int32} {q6 : List Int32} {q7 : List Int32} {q8 : List Int32} {q9 : List Int32} {q10 : List Int32} {q11 : List Int32} {q12 : List Int32} {q13 : List Int32} {q14 : Int32} {q15 : Int32} {q16 : Int32} {q17 : Int32} {R : AHeap} : (C1 q0 q1 q2 q3 q4 q5 q6 q7 q8 q9 q10 q11 q12 q13 q14 q15 q16 q17 R)[2]? = some (.inr (.inl (1, q1))) := rfl
theorem own_s1_avail {q0 : List Int32} {q1 : List Int32} {q2 : List Int32} {q3 : List Int32} {q4 : List Int32} {q5 : List Int32} {q6 : List Int32} {q7 : List Int32} {q8 : List Int32} {q9 : List Int32} {q10 : List Int32} {q11 : List Int32} {q12 : List Int32} {q13 : List Int32} {q14 : Int32} {q15 : Int32} {q16 : Int32} {q17 : Int32} {R : AHeap} {x : List Int32} : (C1 q0 q1 q2 q3 q4 q5 q6 q7 q8 q9 q10 q11 q12 q13 q14 q15 q16 q17 R).set 2 (.inr (.inl (1, x))) = (C1 q0 x q2 q3 q4 q5 q6 q7 q8 q9 q10 q11 q12 q13 q14 q15 q16 q17 R) := rfl
theorem own_g1_maxc {q0 : List Int32} {q1 : List Int32} {q2 : List Int32} {q3 : List Int32} {q4 : List Int32} {q5 : List Int32} {q6 : List Int32} {q7 : List Int32} {q8 : List Int32} {q9 : List Int32} {q10 : List Int32} {q11 : List Int32} {q12 : List Int32} {q13 : List Int32} {q14 : Int32} {q15 : Int32} {q16 : Int32} {q17 : Int32} {R : AHeap} : getC (C1 q0 q1 q2 q3 q4 q5 q6 q7 q8 q9 q10 q11 q12 q13 q14 q15 q16 q17 R) 0 2 = some (.ref 3) := rfl
theorem own_a1_maxc {q0 : List Int32} {q1 : List Int32} {q2 : List Int32} {q3 : List Int32} {q4 : List Int32} {q5 : List Int32} {q6 : List Int32} {q7 : List Int32} {q8 : List Int32} {q9 : List Int32} {q10 : List Int32} {q11 : List Int32} {q12 : List Int32} {q13 : List Int32} {q14 : Int32} {q15 : Int32} {q16 : Int32} {q17 : Int32} {R : AHeap} : (C1 q0 q1 q2 q3 q4 q5 q6 q7 q8 q9 q10 q11 q12 q13 q14 q15 q16 q17 R)[3]? = some (.inr (.inl (1, q2))) := rfl
theorem own_s1_maxc {q0 : List Int32} {q1 : List Int32} {q2 : List Int32} {q3 : List Int32} {q4 : List Int32} {q5 : List Int32} {q6 : List Int32} {q7 : List Int32} {q8 : List Int32} {q9 : List Int32} {q10 : List Int32} {q11 : List Int32} {q12 : List Int32} {q13 : List Int32} {q14 : Int32} {q15 : Int32} {q16 : Int32} {q17 : Int32} {R : AHeap} {x : List Int32} : (C1 q0 q1 q2 q3 q4 q5 q6 q7 q8 q9 q10 q11 q12 q13 q14 q15 q16 q17 R).set 3 (.inr (.inl (1, x))) = (C1 q0 q1 x q3 q4 q5 q6 q7 q8 q9 q10 q11 q12 q13 q14 q15 q16 q17 R) := rfl
theorem own_g1_alloc {q0 : List Int32} {q1 : List Int32} {q2 : List Int32} {q3 : List Int32} {q4 : List Int32} {q5 : List Int32} {q6 : List Int32} {q7 : List Int32} {q8 : List Int32} {q9 : List Int32} {q10 : List Int32} {q11 : List Int32} {q12 : List Int32} {q13 : List Int32} {q14 : Int32} {q15 : Int32} {q16 : Int32} {q17 : Int32} {R : AHeap} : getC (C1 q0 q1 q2 q3 q4 q5 q6 q7 q8 q9 q10 q11 q12 q13 q14 q15 q16 q17 R) 0 3 = some (.ref 4) := rfl
theorem own_a1_alloc {q0 : List Int32} {q1 : List Int32} {q2 : List Int32} {q3 : List Int32} {q4 : List Int32} {q5 : List Int32} {q6 : List Int32} {q7 : List Int32} {q8 : List Int32} {q9 : List Int32} {q10 : List Int32} {q11 : List Int32} {q12 : List Int32} {q13 : List Int32} {q14 : Int32} {q15 : Int32} {q16 : Int32} {q17 : Int32} {R : AHeap} : (C1 q0 q1 q2 q3 q4 q5 q6 q7 q8 q9 q10 q11 q12 q13 q14 q15 q16 q17 R)[4]? = some (.inr (.inl (1, q3))) := rfl
theorem own_s1_alloc {q0 : List Int32} {q1 : List Int32} {q2 : List Int32} {q3 : List Int32} {q4 : List Int32} {q5 : List Int32} {q6 : List Int32} {q7 : List Int32} {q8 : List Int32} {q9 : List Int32} {q10 : List Int32} {q11 : List Int32} {q12 : List Int32} {q13 : List Int32} {q14 : Int32} {q15 : Int32} {q16 : Int32} {q17 : Int32} {R : AHeap} {x : List Int32} : (C1 q0 q1 q2 q3 q4 q5 q6 q7 q8 q9 q10 q11 q12 q13 q14 q15 q16 q17 R).set 4 (.inr (.inl (1, x))) = (C1 q0 q1 q2 x q4 q5 q6 q7 q8 q9 q10 q11 q12 q13 q14 q15 q16 q17 R) := rfl
theorem own_g1_op {q0 : List Int32} {q1 : List Int32} {q2 : List Int32} {q3 : List Int32} {q4 : List Int32} {q5 : List Int32} {q6 : List Int32} {q7 : List Int32} {q8 : List Int32} {q9 : List Int32} {q10 : List Int32} {q11 : List Int32} {q12 : List Int32} {q13 : List Int32} {q14 : Int32} {q15 : Int32} {q16 : Int32} {q17 : Int32} {R : AHeap} : getC (C1 q0 q1 q2 q3 q4 q5 q6 q7 q8 q9 q10 q11 q12 q13 q14 q15 q16 q17 R) 0 4 = some (.ref 5) := rfl
theorem own_a1_op {q0 : List Int32} {q1 : List Int32} {q2 : List Int32} {q3 : List Int32} {q4 : List Int32} {q5 : List Int32} {q6 : List Int32} {q7 : List Int32} {q8 : List Int32} {q9 : List Int32} {q10 : List Int32} {q11 : List Int32} {q12 : List Int32} {q13 : List Int32} {q14 : Int32} {q15 : Int32} {q16 : Int32} {q17 : Int32} {R : AHeap} : (C1 q0 q1 q2 q3 q4 q5 q6 q7 q8 q9 q10 q11 q12 q13 q14 q15 q16 q17 R)[5]? = some (.inr (.inl (1, q4))) := rfl
theorem own_s1_op {q0 : List Int32} {q1 : List Int32} {q2 : List Int32} {q3 : List Int32} {q4 : List Int32} {q5 : List Int32} {q6 : List Int32} {q7 : List Int32} {q8 : List Int32} {q9 : List Int32} {q10 : List Int32} {q11 : List Int32} {q12 : List Int32} {q13 : List Int32} {q14 : Int32} {q15 : Int32} {q16 : Int32} {q17 : Int32} {R : AHeap} {x : List Int32} : (C1 q0 q1 q2 q3 q4 q5 q6 q7 q8 q9 q10 q11 q12 q13 q14 q15 q16 q17 R).set 5 (.inr (.inl (1, x))) = (C1 q0 q1 q2 q3 x q5 q6 q7 q8 q9 q10 q11 q12 q13 q14 q15 q16 q17 R) := rfl
theorem own_g1_kind {q0 : List Int32} {q1 : List Int32} {q2 : List Int32} {q3 : List Int32} {q4 : List Int32} {q5 : List Int32} {q6 : List Int32} {q7 : List Int32} {q8 : List Int32} {q9 : List Int32} {q10 : List Int32} {q11 : List Int32} {q12 : List Int32} {q13 : List Int32} {q14 : Int32} {q15 : Int32} {q16 : Int32} {q17 : Int32} {R : AHeap} : getC (C1 q0 q1 q2 q3 q4 q5 q6 q7 q8 q9 q10 q11 q12 q13 q14 q15 q16 q17 R) 0 5 = some (.ref 6) := rfl
theorem own_a1_kind {q0 : List Int32} {q1 : List Int32} {q2 : List Int32} {q3 : List Int32} {q4 : List Int32} {q5 : List Int32} {q6 : List Int32} {q7 : List Int32} {q8 : List Int32} {q9 : List Int32} {q10 : List Int32} {q11 : List Int32} {q12 : List Int32} {q13 : List Int32} {q14 : Int32} {q15 : Int32} {q16 : Int32} {q17 : Int32} {R : AHeap} : (C1 q0 q1 q2 q3 q4 q5 q6 q7 q8 q9 q10 q11 q12 q13 q14 q15 q16 q17 R)[6]? = some (.inr (.inl (1, q5))) := rfl
theorem own_s1_kind {q0 : List Int32} {q1 : List Int32} {q2 : List Int32} {q3 : List Int32} {q4 : List Int32} {q5 : List Int32} {q6 : List Int32} {q7 : List Int32} {q8 : List Int32} {q9 : List Int32} {q10 : List Int32} {q11 : List Int32} {q12 : List Int32} {q13 : List Int32} {q14 : Int32} {q15 : Int32} {q16 : Int32} {q17 : Int32} {R : AHeap} {x : List Int32} : (C1 q0 q1 q2 q3 q4 q5 q6 q7 q8 q9 q10 q11 q12 q13 q14 q15 q16 q17 R).set 6 (.inr (.inl (1, x))) = (C1 q0 q1 q2 q3 q4 x q6 q7 q8 q9 q10 q11 q12 q13 q14 q15 q16 q17 R) := rfl
theorem own_g1_amt {q0 : List Int32} {q1 : List Int32} {q2 : List Int32} {q3 : List Int32} {q4 : List Int32} {q5 : List Int32} {q6 : List Int32} {q7 : List Int32} {q8 : List Int32} {q9 : List Int32} {q10 : List Int32} {q11 : List Int32} {q12 : List Int32} {q13 : List Int32} {q14 : Int32} {q15 : Int32} {q16 : Int32} {q17 : Int32} {R : AHeap} : getC (C1 q0 q1 q2 q3 q4 q5 q6 q7 q8 q9 q10 q11 q12 q13 q14 q15 q16 q17 R) 0 6 = some (.ref 7) := rfl
theorem own_a1_amt {q0 : List Int32} {q1 : List Int32} {q2 : List Int32} {q3 : List Int32} {q4 : List Int32} {q5 : List Int32} {q6 : List Int32} {q7 : List Int32} {q8 : List Int32} {q9 : List Int32} {q10 : List Int32} {q11 : List Int32} {q12 : List Int32} {q13 : List Int32} {q14 : Int32} {q15 : Int32} {q16 : Int32} {q17 : Int32} {R : AHeap} : (C1 q0 q1 q2 q3 q4 q5 q6 q7 q8 q9 q10 q11 q12 q13 q14 q15 q16 q17 R)[7]? = some (.inr (.inl (1, q6))) := rfl
theorem own_s1_amt {q0 : List Int32} {q1 : List Int32} {q2 : List Int32} {q3 : List Int32} {q4 : List Int32} {q5 : List Int32} {q6 : List Int32} {q7 : List Int32} {q8 : List Int32} {q9 : List Int32} {q10 : List Int32} {q11 : List Int32} {q12 : List Int32} {q13 : List Int32} {q14 : Int32} {q15 : Int32} {q16 : Int32} {q17 : Int32} {R : AHeap} {x : List Int32} : (C1 q0 q1 q2 q3 q4 q5 q6 q7 q8 q9 q10 q11 q12 q13 q14 q15 q16 q17 R).set 7 (.inr (.inl (1, x))) = (C1 q0 q1 q2 q3 q4 q5 x q7 q8 q9 q10 q11 q12 q13 q14 q15 q16 q17 R) := rfl
theorem own_g1_len {q0 : List Int32} {q1 : List Int32} {q2 : List Int32} {q3 : List Int32} {q4 : List Int32} {q5 : List Int32} {q6 : List Int32} {q7 : List Int32} {q8 : List Int32} {q9 : List Int32} {q10 : List Int32} {q11 : List Int32} {q12 : List Int32} {q13 : List Int32} {q14 : Int32} {q15 : Int32} {q16 : Int32} {q17 : Int32} {R : AHeap} : getC (C1 q0 q1 q2 q3 q4 q5 q6 q7 q8 q9 q10 q11 q12 q13 q14 q15 q16 q17 R) 0 7 = some (.ref 8) := rfl
theorem own_a1_len {q0 : List Int32} {q1 : List Int32} {q2 : List Int32} {q3 : List Int32} {q4 : List Int32} {q5 : List Int32} {q6 : List Int32} {q7 : List Int32} {q8 : List Int32} {q9 : List Int32} {q10 : List Int32} {q11 : List Int32} {q12 : List Int32} {q13 : List Int32} {q14 : Int32} {q15 : Int32} {q16 : Int32} {q17 : Int32} {R : AHeap} : (C1 q0 q1 q2 q3 q4 q5 q6 q7 q8 q9 q10 q11 q12 q13 q14 q15 q16 q17 R)[8]? = some (.inr (.inl (1, q7))) := rfl
theorem own_s1_len {q0 : List Int32} {q1 : List Int32} {q2 : List Int32} {q3 : List Int32} {q4 : List Int32} {q5 : List Int32} {q6 : List Int32} {q7 : List Int32} {q8 : List Int32} {q9 : List Int32} {q10 : List Int32} {q11 : List Int32} {q12 : List Int32} {q13 : List Int32} {q14 : Int32} {q15 : Int32} {q16 : Int32} {q17 : Int32} {R : AHeap} {x : List Int32} : (C1 q0 q1 q2 q3 q4 q5 q6 q7 q8 q9 q10 q11 q12 q13 q14 q15 q16 q17 R).set 8 (.inr (.inl (1, x))) = (C1 q0 q1 q2 q3 q4 q5 q6 x q8 q9 q10 q11 q12 q13 q14 q15 q16 q17 R) := rfl
theorem own_g1_pc {q0 : List Int32} {q1 : List Int32} {q2 : List Int32} {q3 : List Int32} {q4 : List Int32} {q5 : List Int32} {q6 : List Int32} {q7 : List Int32} {q8 : List Int32} {q9 : List Int32} {q10 : List Int32} {q11 : List Int32} {q12 : List Int32} {q13 : List Int32} {q14 : Int32} {q15 : Int32} {q16 : Int32} {q17 : Int32} {R : AHeap} : getC (C1 q0 q1 q2 q3 q4 q5 q6 q7 q8 q9 q10 q11 q12 q13 q14 q15 q16 q17 R) 0 8 = some (.ref 9) := rfl
theorem own_a1_pc {q0 : List Int32} {q1 : List Int32} {q2 : List Int32} {q3 : List Int32} {q4 : List Int32} {q5 : List Int32} {q6 : List Int32} {q7 : List Int32} {q8 : List Int32} {q9 : List Int32} {q10 : List Int32} {q11 : List Int32} {q12 : List Int32} {q13 : List Int32} {q14 : Int32} {q15 : Int32} {q16 : Int32} {q17 : Int32} {R : AHeap} : (C1 q0 q1 q2 q3 q4 q5 q6 q7 q8 q9 q10 q11 q12 q13 q14 q15 q16 q17 R)[9]? = some (.inr (.inl (1, q8))) := rfl
theorem own_s1_pc {q0 : List Int32} {q1 : List Int32} {q2 : List Int32} {q3 : List Int32} {q4 : List Int32} {q5 : List Int32} {q6 : List Int32} {q7 : List Int32} {q8 : List Int32} {q9 : List Int32} {q10 : List Int32} {q11 : List Int32} {q12 : List Int32} {q13 : List Int32} {q14 : Int32} {q15 : Int32} {q16 : Int32} {q17 : Int32} {R : AHeap} {x : List Int32} : (C1 q0 q1 q2 q3 q4 q5 q6 q7 q8 q9 q10 q11 q12 q13 q14 q15 q16 q17 R).set 9 (.inr (.inl (1, x))) = (C1 q0 q1 q2 q3 q4 q5 q6 q7 x q9 q10 q11 q12 q13 q14 q15 q16 q17 R) := rfl
theorem own_g1_st {q0 : List Int32} {q1 : List Int32} {q2 : List Int32} {q3 : List Int32} {q4 : List Int32} {q5 : List Int32} {q6 : List Int32} {q7 : List Int32} {q8 : List Int32} {q9 : List Int32} {q10 : List Int32} {q11 : List Int32} {q12 : List Int32} {q13 : List Int32} {q14 : Int32} {q15 : Int32} {q16 : Int32} {q17 : Int32} {R : AHeap} : getC (C1 q0 q1 q2 q3 q4 q5 q6 q7 q8 q9 q10 q11 q12 q13 q14 q15 q16 q17 R) 0 9 = some (.ref 10) := rfl
theorem own_a1_st {q0 : List Int32} {q1 : List Int32} {q2 : List Int32} {q3 : List Int32} {q4 : List Int32} {q5 : List Int32} {q6 : List Int32} {q7 : List Int32} {q8 : List Int32} {q9 : List Int32} {q10 : List Int32} {q11 : List Int32} {q12 : List Int32} {q13 : List Int32} {q14 : Int32} {q15 : Int32} {q16 : Int32} {q17 : Int32} {R : AHeap} : (C1 q0 q1 q2 q3 q4 q5 q6 q7 q8 q9 q10 q11 q12 q13 q14 q15 q16 q17 R)[10]? = some (.inr (.inl (1, q9))) := rfl
theorem own_s1_st {q0 : List Int32} {q1 : List Int32} {q2 : List Int32} {q3 : List Int32} {q4 : List Int32} {q5 : List Int32} {q6 : List Int32} {q7 : List Int32} {q8 : List Int32} {q9 : List Int32} {q10 : List Int32} {q11 : List Int32} {q12 : List Int32} {q13 : List Int32} {q14 : Int32} {q15 : Int32} {q16 : Int32} {q17 : Int32} {R : AHeap} {x : List Int32} : (C1 q0 q1 q2 q3 q4 q5 q6 q7 q8 q9 q10 q11 q12 q13 q14 q15 q16 q17 R).set 10 (.inr (.inl (1, x))) = (C1 q0 q1 q2 q3 q4 q5 q6 q7 q8 x q10 q11 q12 q13 q14 q15 q16 q17 R) := rfl
theorem own_g1_queue {q0 : List Int32} {q1 : List Int32} {q2 : List Int32} {q3 : List Int32} {q4 : List Int32} {q5 : List Int32} {q6 : List Int32} {q7 : List Int32} {q8 : List Int32} {q9 : List Int32} {q10 : List Int32} {q11 : List Int32} {q12 : List Int32} {q13 : List Int32} {q14 : Int32} {q15 : Int32} {q16 : Int32} {q17 : Int32} {R : AHeap} : getC (C1 q0 q1 q2 q3 q4 q5 q6 q7 q8 q9 q10 q11 q12 q13 q14 q15 q16 q17 R) 0 10 = some (.ref 11) := rfl
theorem own_a1_queue {q0 : List Int32} {q1 : List Int32} {q2 : List Int32} {q3 : List Int32} {q4 : List Int32} {q5 : List Int32} {q6 : List Int32} {q7 : List Int32} {q8 : List Int32} {q9 : List Int32} {q10 : List Int32} {q11 : List Int32} {q12 : List Int32} {q13 : List Int32} {q14 : Int32} {q15 : Int32} {q16 : Int32} {q17 : Int32} {R : AHeap} : (C1 q0 q1 q2 q3 q4 q5 q6 q7 q8 q9 q10 q11 q12 q13 q14 q15 q16 q17 R)[11]? = some (.inr (.inl (1, q10))) := rfl
theorem own_s1_queue {q0 : List Int32} {q1 : List Int32} {q2 : List Int32} {q3 : List Int32} {q4 : List Int32} {q5 : List Int32} {q6 : List Int32} {q7 : List Int32} {q8 : List Int32} {q9 : List Int32} {q10 : List Int32} {q11 : List Int32} {q12 : List Int32} {q13 : List Int32} {q14 : Int32} {q15 : Int32} {q16 : Int32} {q17 : Int32} {R : AHeap} {x : List Int32} : (C1 q0 q1 q2 q3 q4 q5 q6 q7 q8 q9 q10 q11 q12 q13 q14 q15 q16 q17 R).set 11 (.inr (.inl (1, x))) = (C1 q0 q1 q2 q3 q4 q5 q6 q7 q8 q9 x q11 q12 q13 q14 q15 q16 q17 R) := rfl
theorem own_g1_work {q0 : List Int32} {q1 : List Int32} {q2 : List Int32} {q3 : List Int32} {q4 : List Int32} {q5 : List Int32} {q6 : List Int32} {q7 : List Int32} {q8 : List Int32} {q9 : List Int32} {q10 : List Int32} {q11 : List Int32} {q12 : List Int32} {q13 : List Int32} {q14 : Int32} {q15 : Int32} {q16 : Int32} {q17 : Int32} {R : AHeap} : getC (C1 q0 q1 q2 q3 q4 q5 q6 q7 q8 q9 q10 q11 q12 q13 q14 q15 q16 q17 R) 0 11 = some (.ref 12) := rfl
theorem own_a1_work {q0 : List Int32} {q1 : List Int32} {q2 : List Int32} {q3 : List Int32} {q4 : List Int32} {q5 : List Int32} {q6 : List Int32} {q7 : List Int32} {q8 : List Int32} {q9 : List Int32} {q10 : List Int32} {q11 : List Int32} {q12 : List Int32} {q13 : List Int32} {q14 : Int32} {q15 : Int32} {q16 : Int32} {q17 : Int32} {R : AHeap} : (C1 q0 q1 q2 q3 q4 q5 q6 q7 q8 q9 q10 q11 q12 q13 q14 q15 q16 q17 R)[12]? = some (.inr (.inl (1, q11))) := rfl
theorem own_s1_work {q0 : List Int32} {q1 : List Int32} {q2 : List Int32} {q3 : List Int32} {q4 : List Int32} {q5 : List Int32} {q6 : List Int32} {q7 : List Int32} {q8 : List Int32} {q9 : List Int32} {q10 : List Int32} {q11 : List Int32} {q12 : List Int32} {q13 : List Int32} {q14 : Int32} {q15 : Int32} {q16 : Int32} {q17 : Int32} {R : AHeap} {x : List Int32} : (C1 q0 q1 q2 q3 q4 q5 q6 q7 q8 q9 q10 q11 q12 q13 q14 q15 q16 q17 R).set 12 (.inr (.inl (1, x))) = (C1 q0 q1 q2 q3 q4 q5 q6 q7 q8 q9 q10 x q12 q13 q14 q15 q16 q17 R) := rfl
theorem own_g1_mark {q0 : List Int32} {q1 : List Int32} {q2 : List Int32} {q3 : List Int32} {q4 : List Int32} {q5 : List Int32} {q6 : List Int32} {q7 : List Int32} {q8 : List Int32} {q9 : List Int32} {q10 : List Int32} {q11 : List Int32} {q12 : List Int32} {q13 : List Int32} {q14 : Int32} {q15 : Int32} {q16 : Int32} {q17 : Int32} {R : AHeap} : getC (C1 q0 q1 q2 q3 q4 q5 q6 q7 q8 q9 q10 q11 q12 q13 q14 q15 q16 q17 R) 0 12 = some (.ref 13) := rfl
theorem own_a1_mark {q0 : List Int32} {q1 : List Int32} {q2 : List Int32} {q3 : List Int32} {q4 : List Int32} {q5 : List Int32} {q6 : List Int32} {q7 : List Int32} {q8 : List Int32} {q9 : List Int32} {q10 : List Int32} {q11 : List Int32} {q12 : List Int32} {q13 : List Int32} {q14 : Int32} {q15 : Int32} {q16 : Int32} {q17 : Int32} {R : AHeap} : (C1 q0 q1 q2 q3 q4 q5 q6 q7 q8 q9 q10 q11 q12 q13 q14 q15 q16 q17 R)[13]? = some (.inr (.inl (2, q12))) := rfl
theorem own_s1_mark {q0 : List Int32} {q1 : List Int32} {q2 : List Int32} {q3 : List Int32} {q4 : List Int32} {q5 : List Int32} {q6 : List Int32} {q7 : List Int32} {q8 : List Int32} {q9 : List Int32} {q10 : List Int32} {q11 : List Int32} {q12 : List Int32} {q13 : List Int32} {q14 : Int32} {q15 : Int32} {q16 : Int32} {q17 : Int32} {R : AHeap} {x : List Int32} : (C1 q0 q1 q2 q3 q4 q5 q6 q7 q8 q9 q10 q11 q12 q13 q14 q15 q16 q17 R).set 13 (.inr (.inl (2, x))) = (C1 q0 q1 q2 q3 q4 q5 q6 q7 q8 q9 q10 q11 x q13 q14 q15 q16 q17 R) := rfl
theorem own_g1_order {q0 : List Int32} {q1 : List Int32} {q2 : List Int32} {q3 : List Int32} {q4 : List Int32} {q5 : List Int32} {q6 : List Int32} {q7 : List Int32} {q8 : List Int32} {q9 : List Int32} {q10 : List Int32} {q11 : List Int32} {q12 : List Int32} {q13 : List Int32} {q14 : Int32} {q15 : Int32} {q16 : Int32} {q17 : Int32} {R : AHeap} : getC (C1 q0 q1 q2 q3 q4 q5 q6 q7 q8 q9 q10 q11 q12 q13 q14 q15 q16 q17 R) 0 13 = some (.ref 14) := rfl
theorem own_a1_order {q0 : List Int32} {q1 : List Int32} {q2 : List Int32} {q3 : List Int32} {q4 : List Int32} {q5 : List Int32} {q6 : List Int32} {q7 : List Int32} {q8 : List Int32} {q9 : List Int32} {q10 : List Int32} {q11 : List Int32} {q12 : List Int32} {q13 : List Int32} {q14 : Int32} {q15 : Int32} {q16 : Int32} {q17 : Int32} {R : AHeap} : (C1 q0 q1 q2 q3 q4 q5 q6 q7 q8 q9 q10 q11 q12 q13 q14 q15 q16 q17 R)[14]? = some (.inr (.inl (1, q13))) := rfl
theorem own_s1_order {q0 : List Int32} {q1 : List Int32} {q2 : List Int32} {q3 : List Int32} {q4 : List Int32} {q5 : List Int32} {q6 : List Int32} {q7 : List Int32} {q8 : List Int32} {q9 : List Int32} {q10 : List Int32} {q11 : List Int32} {q12 : List Int32} {q13 : List Int32} {q14 : Int32} {q15 : Int32} {q16 : Int32} {q17 : Int32} {R : AHeap} {x : List Int32} : (C1 q0 q1 q2 q3 q4 q5 q6 q7 q8 q9 q10 q11 q12 q13 q14 q15 q16 q17 R).set 14 (.inr (.inl (1, x))) = (C1 q0 q1 q2 q3 q4 q5 q6 q7 q8 q9 q10 q11 q12 x q14 q15 q16 q17 R) := rfl
theorem own_g1_qlen {q0 : List Int32} {q1 : List Int32} {q2 : List Int32} {q3 : List Int32} {q4 : List Int32} {q5 : List Int32} {q6 : List Int32} {q7 : List Int32} {q8 : List Int32} {q9 : List Int32} {q10 : List Int32} {q11 : List Int32} {q12 : List Int32} {q13 : List Int32} {q14 : Int32} {q15 : Int32} {q16 : Int32} {q17 : Int32} {R : AHeap} : getC (C1 q0 q1 q2 q3 q4 q5 q6 q7 q8 q9 q10 q11 q12 q13 q14 q15 q16 q17 R) 0 14 = some (.int q14) := rfl
theorem own_p1_qlen {q0 : List Int32} {q1 : List Int32} {q2 : List Int32} {q3 : List Int32} {q4 : List Int32} {q5 : List Int32} {q6 : List Int32} {q7 : List Int32} {q8 : List Int32} {q9 : List Int32} {q10 : List Int32} {q11 : List Int32} {q12 : List Int32} {q13 : List Int32} {q14 : Int32} {q15 : Int32} {q16 : Int32} {q17 : Int32} {R : AHeap} {k : Nat} {x : Int32} : putC own_P k (C1 q0 q1 q2 q3 q4 q5 q6 q7 q8 q9 q10 q11 q12 q13 q14 q15 q16 q17 R) 0 14 (.int x) = some (C1 q0 q1 q2 q3 q4 q5 q6 q7 q8 q9 q10 q11 q12 q13 x q15 q16 q17 R) := rfl
theorem own_g1_nproc {q0 : List Int32} {q1 : List Int32} {q2 : List Int32} {q3 : List Int32} {q4 : List Int32} {q5 : List Int32} {q6 : List Int32} {q7 : List Int32} {q8 : List Int32} {q9 : List Int32} {q10 : List Int32} {q11 : List Int32} {q12 : List Int32} {q13 : List Int32} {q14 : Int32} {q15 : Int32} {q16 : Int32} {q17 : Int32} {R : AHeap} : getC (C1 q0 q1 q2 q3 q4 q5 q6 q7 q8 q9 q10 q11 q12 q13 q14 q15 q16 q17 R) 0 15 = some (.int q15) := rfl
theorem own_p1_nproc {q0 : List Int32} {q1 : List Int32} {q2 : List Int32} {q3 : List Int32} {q4 : List Int32} {q5 : List Int32} {q6 : List Int32} {q7 : List Int32} {q8 : List Int32} {q9 : List Int32} {q10 : List Int32} {q11 : List Int32} {q12 : List Int32} {q13 : List Int32} {q14 : Int32} {q15 : Int32} {q16 : Int32} {q17 : Int32} {R : AHeap} {k : Nat} {x : Int32} : putC own_P k (C1 q0 q1 q2 q3 q4 q5 q6 q7 q8 q9 q10 q11 q12 q13 q14 q15 q16 q17 R) 0 15 (.int x) = some (C1 q0 q1 q2 q3 q4 q5 q6 q7 q8 q9 q10 q11 q12 q13 q14 x q16 q17 R) := rfl
theorem own_g1_cur {q0 : List Int32} {q1 : List Int32} {q2 : List Int32} {q3 : List Int32} {q4 : List Int32} {q5 : List Int32} {q6 : List Int32} {q7 : List Int32} {q8 : List Int32} {q9 : List Int32} {q10 : List Int32} {q11 : List Int32} {q12 : List Int32} {q13 : List Int32} {q14 : Int32} {q15 : Int32} {q16 : Int32} {q17 : Int32} {R : AHeap} : getC (C1 q0 q1 q2 q3 q4 q5 q6 q7 q8 q9 q10 q11 q12 q13 q14 q15 q16 q17 R) 0 16 = some (.int q16) := rfl
theorem own_p1_cur {q0 : List Int32} {q1 : List Int32} {q2 : List Int32} {q3 : List Int32} {q4 : List Int32} {q5 : List Int32} {q6 : List Int32} {q7 : List Int32} {q8 : List Int32} {q9 : List Int32} {q10 : List Int32} {q11 : List Int32} {q12 : List Int32} {q13 : List Int32} {q14 : Int32} {q15 : Int32} {q16 : Int32} {q17 : Int32} {R : AHeap} {k : Nat} {x : Int32} : putC own_P k (C1 q0 q1 q2 q3 q4 q5 q6 q7 q8 q9 q10 q11 q12 q13 q14 q15 q16 q17 R) 0 16 (.int x) = some (C1 q0 q1 q2 q3 q4 q5 q6 q7 q8 q9 q10 q11 q12 q13 q14 q15 x q17 R) := rfl
theorem own_g1_olen {q0 : List Int32} {q1 : List Int32} {q2 : List Int32} {q3 : List Int32} {q4 : List Int32} {q5 : List Int32} {q6 : List Int32} {q7 : List Int32} {q8 : List Int32} {q9 : List Int32} {q10 : List Int32} {q11 : List Int32} {q12 : List Int32} {q13 : List Int32} {q14 : Int32} {q15 : Int32} {q16 : Int32} {q17 : Int32} {R : AHeap} : getC (C1 q0 q1 q2 q3 q4 q5 q6 q7 q8 q9 q10 q11 q12 q13 q14 q15 q16 q17 R) 0 17 = some (.int q17) := rfl
theorem own_p1_olen {q0 : List Int32} {q1 : List Int32} {q2 : List Int32} {q3 : List Int32} {q4 : List Int32} {q5 : List Int32} {q6 : List Int32} {q7 : List Int32} {q8 : List Int32} {q9 : List Int32} {q10 : List Int32} {q11 : List Int32} {q12 : List Int32} {q13 : List Int32} {q14 : Int32} {q15 : Int32} {q16 : Int32} {q17 : Int32} {R : AHeap} {k : Nat} {x : Int32} : putC own_P k (C1 q0 q1 q2 q3 q4 q5 q6 q7 q8 q9 q10 q11 q12 q13 q14 q15 q16 q17 R) 0 17 (.int x) = some (C1 q0 q1 q2 q3 q4 q5 q6 q7 q8 q9 q10 q11 q12 q13 q14 q15 q16 x R) := rfl
def Q.len (s : Q) : List Nat := [s.f_total.length, s.f_avail.length, s.f_maxc.length, s.f_alloc.length, s.f_op.length, s.f_kind.length, s.f_amt.length, s.f_len.length, s.f_pc.length, s.f_st.length, s.f_queue.length, s.f_work.length, s.f_mark.length, s.f_order.length]
theorem own_lenmk {q0 : List Int32} {q1 : List Int32} {q2 : List Int32} {q3 : List Int32} {q4 : List Int32} {q5 : List Int32} {q6 : List Int32} {q7 : List Int32} {q8 : List Int32} {q9 : List Int32} {q10 : List Int32} {q11 : List Int32} {q12 : List Int32} {q13 : List Int32} {q14 : Int32} {q15 : Int32} {q16 : Int32} {q17 : Int32} : (Q.mk q0 q1 q2 q3 q4 q5 q6 q7 q8 q9 q10 q11 q12 q13 q14 q15 q16 q17).len = [q0.length, q1.length, q2.length, q3.length, q4.length, q5.length, q6.length, q7.length, q8.length, q9.length, q10.length, q11.length, q12.length, q13.length] := by have _h := trivial; exact rfl
theorem own_objN : own_P.objN = 18 := rfl
theorem own_mk1 {q0 : List Int32} {q1 : List Int32} {q2 : List Int32} {q3 : List Int32} {q4 : List Int32} {q5 : List Int32} {q6 : List Int32} {q7 : List Int32} {q8 : List Int32} {q9 : List Int32} {q10 : List Int32} {q11 : List Int32} {q12 : List Int32} {q13 : List Int32} {q14 : Int32} {q15 : Int32} {q16 : Int32} {q17 : Int32} {R : AHeap} : W1 (Q.mk q0 q1 q2 q3 q4 q5 q6 q7 q8 q9 q10 q11 q12 q13 q14 q15 q16 q17) R = C1 q0 q1 q2 q3 q4 q5 q6 q7 q8 q9 q10 q11 q12 q13 q14 q15 q16 q17 R := rfl
def j_clamp (v1 : Int32) (v2 : Int32) (v3 : Int32) : Int32 := (if v1 < v2 then (v2) else (if v3 < v1 then (v3) else (v1)))
set_option maxRecDepth 100000 in
theorem ev_j_clamp (H : AHeap) (a : Nat) (v1 : Int32) (v2 : Int32) (v3 : Int32) {res : Int32} {out : Option Value × AHeap} (h : j_clamp v1 v2 v3 = res) (hk : out = (some (.int res), H)) : Eval own_P 2 0 [some (.ref a), some (.int v1), some (.int v2), some (.int v3)] [] H out := by
  rw [j_clamp] at h
  refine Eval.iload_n rfl rfl ?_
  refine Eval.iload_n rfl rfl ?_
  by_cases hc3 : v1 < v2
  · rw [if_pos hc3] at h
    refine Eval.icmpF rfl (tlt hc3).2.1 ?_
    refine Eval.iload_n rfl rfl ?_
    subst h
    subst hk
    exact Eval.ret rfl rfl
  · rw [if_neg hc3] at h
    refine Eval.icmpT (t := 7) rfl rfl (flt hc3).2.1 ?_
    refine Eval.iload_n rfl rfl ?_
    refine Eval.iload_n rfl rfl ?_
    by_cases hc4 : v3 < v1
    · rw [if_pos hc4] at h
      refine Eval.icmpF rfl (tlt hc4).2.2.2 ?_
      refine Eval.iload_n rfl rfl ?_
      subst h
      subst hk
      exact Eval.ret rfl rfl
    · rw [if_neg hc4] at h
      refine Eval.icmpT (t := 14) rfl rfl (flt hc4).2.2.2 ?_
      refine Eval.iload_n rfl rfl ?_
      subst h
      subst hk
      exact Eval.ret rfl rfl
abbrev j_init_l173_K (res : Q) (out : Option Value × AHeap) : Prop := Eval own_P 1 199 [some (.ref 0), none, none, none, none, none] [] (W1 res []) out

abbrev j_init_l173_N (s : Q) (res : Q) : Prop := Q.len res = Q.len s
def j_init_l173 : Nat → Q → Int32 → Option (Q)
  | 0, _, _ => none
  | n + 1, s, v5 => (if v5 < (4 : Int32) then (if inb s.f_total.length v5 = true then (if inb s.f_avail.length v5 = true then (j_init_l173 n (Q.mk s.f_total (wr s.f_avail v5 (rd s.f_total v5)) s.f_maxc s.f_alloc s.f_op s.f_kind s.f_amt s.f_len s.f_pc s.f_st s.f_queue s.f_work s.f_mark s.f_order s.f_qlen s.f_nproc s.f_cur s.f_olen) (v5 + (1 : Int32))) else none) else none) else some (s))
theorem ln_j_init_l173 : ∀ {n : Nat} {s : Q} {v5 : Int32} {res : Q}, j_init_l173 n s v5 = some res → j_init_l173_N s res := by
  intro n
  induction n with
  | zero => intro _ _ res h; cases h
  | succ n hrec0 =>
    have hrec : ∀ (s : Q) (v5 : Int32) {res : Q}, j_init_l173 n s v5 = some res → j_init_l173_N s res := by intros; apply hrec0; assumption
    intro s v5 res h
    rw [j_init_l173] at h
    by_cases hc9 : v5 < (4 : Int32)
    · rw [if_pos hc9] at h
      obtain ⟨hb10, h⟩ := ite_some h
      obtain ⟨hb11, h⟩ := ite_some h
      exact (hrec _ _ h).trans (Eq.trans (show Q.len (Q.mk s.f_total (wr s.f_avail v5 (rd s.f_total v5)) s.f_maxc s.f_alloc s.f_op s.f_kind s.f_amt s.f_len s.f_pc s.f_st s.f_queue s.f_work s.f_mark s.f_order s.f_qlen s.f_nproc s.f_cur s.f_olen) = Q.len s from own_lenmk.trans (by first | (simp only [len_wr, len_wrL] <;> rfl) | rfl)) rfl)
    · rw [if_neg hc9] at h
      have hr0 := Option.some.inj h
      subst hr0
      show Q.len s = _
      exact rfl
set_option maxRecDepth 100000 in
theorem ev_j_init_l173 : ∀ (n : Nat) (s : Q) (v5 : Int32) {res : Q} {out : Option Value × AHeap}, j_init_l173 n s v5 = some res → j_init_l173_K res out → Eval own_P 1 173 [some (.ref 0), none, none, none, none, some (.int v5)] [] (W1 s []) out := by
  intro n
  induction n with
  | zero => intro _ _ res out h hk; cases h
  | succ n hrec =>
    intro s v5 res out h hk
    rw [j_init_l173] at h
    refine Eval.iload rfl rfl ?_
    refine Eval.iconst (x := (4 : Int32)) rfl rfl ?_
    by_cases hc9 : v5 < (4 : Int32)
    · rw [if_pos hc9] at h
      refine Eval.icmpF rfl (tlt hc9).2.1 ?_
      refine Eval.aload_n rfl rfl ?_
      refine Eval.getfield rfl rfl own_g1_avail ?_
      refine Eval.iload rfl rfl ?_
      refine Eval.aload_n rfl rfl ?_
      refine Eval.getfield rfl rfl own_g1_total ?_
      refine Eval.iload rfl rfl ?_
      obtain ⟨hb10, h⟩ := ite_some h
      refine Eval.iaload rfl own_a1_total hb10 ?_
      obtain ⟨hb11, h⟩ := ite_some h
      refine Eval.iastore rfl rfl own_a1_avail hb11 own_s1_avail ?_
      refine Eval.iinc (L' := [some (.ref 0), none, none, none, none, some (.int (v5 + (1 : Int32)))]) rfl rfl rfl ?_
      refine Eval.goto (t := 173) rfl rfl ?_
      refine Eval.heap own_mk1 ?_
      exact hrec _ _ h hk
    · rw [if_neg hc9] at h
      refine Eval.icmpT (t := 199) rfl rfl (flt hc9).2.1 ?_
      cases h
      refine Eval.weak (L' := [some (.ref 0), none, none, none, none, none]) ⟨_, _, rfl, Or.inr rfl, _, _, rfl, Or.inl rfl, _, _, rfl, Or.inl rfl, _, _, rfl, Or.inl rfl, _, _, rfl, Or.inl rfl, _, _, rfl, Or.inl rfl, rfl⟩ ?_
      exact hk
def j_init_b113 (s : Q) (v1 : Int32) (v2 : Int32) (v3 : Int32) (v4 : Int32) : Option (Q) := (if inb s.f_total.length (0 : Int32) = true then (if inb (wr s.f_total (0 : Int32) (j_clamp v1 (0 : Int32) (15 : Int32))).length (1 : Int32) = true then (if inb (wr (wr s.f_total (0 : Int32) (j_clamp v1 (0 : Int32) (15 : Int32))) (1 : Int32) (j_clamp v2 (0 : Int32) (15 : Int32))).length (2 : Int32) = true then (if inb (wr (wr (wr s.f_total (0 : Int32) (j_clamp v1 (0 : Int32) (15 : Int32))) (1 : Int32) (j_clamp v2 (0 : Int32) (15 : Int32))) (2 : Int32) (j_clamp v3 (0 : Int32) (15 : Int32))).length (3 : Int32) = true then ((j_init_l173 3000 (Q.mk (wr (wr (wr (wr s.f_total (0 : Int32) (j_clamp v1 (0 : Int32) (15 : Int32))) (1 : Int32) (j_clamp v2 (0 : Int32) (15 : Int32))) (2 : Int32) (j_clamp v3 (0 : Int32) (15 : Int32))) (3 : Int32) (j_clamp v4 (0 : Int32) (15 : Int32))) s.f_avail s.f_maxc s.f_alloc s.f_op s.f_kind s.f_amt s.f_len s.f_pc s.f_st s.f_queue s.f_work s.f_mark s.f_order s.f_qlen s.f_nproc s.f_cur s.f_olen) (0 : Int32)).bind fun p12 => some ((Q.mk p12.f_total p12.f_avail p12.f_maxc p12.f_alloc p12.f_op p12.f_kind p12.f_amt p12.f_len p12.f_pc p12.f_st p12.f_queue p12.f_work p12.f_mark p12.f_order (0 : Int32) (0 : Int32) (0 : Int32) (0 : Int32)))) else none) else none) else none) else none)
theorem ln_j_init_b113 {s : Q} {v1 : Int32} {v2 : Int32} {v3 : Int32} {v4 : Int32} {res : Q} (h : j_init_b113 s v1 v2 v3 v4 = some res) : Q.len res = Q.len s := by
  rw [j_init_b113] at h
  obtain ⟨hb5, h⟩ := ite_some h
  obtain ⟨hb6, h⟩ := ite_some h
  obtain ⟨hb7, h⟩ := ite_some h
  obtain ⟨hb8, h⟩ := ite_some h
  obtain ⟨p12, hq13, h⟩ := bind_some h
  have hl14 : Q.len p12 = _ := Eq.trans (ln_j_init_l173 hq13) (Eq.trans (show Q.len (Q.mk (wr (wr (wr (wr s.f_total (0 : Int32) (j_clamp v1 (0 : Int32) (15 : Int32))) (1 : Int32) (j_clamp v2 (0 : Int32) (15 : Int32))) (2 : Int32) (j_clamp v3 (0 : Int32) (15 : Int32))) (3 : Int32) (j_clamp v4 (0 : Int32) (15 : Int32))) s.f_avail s.f_maxc s.f_alloc s.f_op s.f_kind s.f_amt s.f_len s.f_pc s.f_st s.f_queue s.f_work s.f_mark s.f_order s.f_qlen s.f_nproc s.f_cur s.f_olen) = Q.len s from own_lenmk.trans (by first | (simp only [len_wr, len_wrL] <;> rfl) | rfl)) rfl)
  have hr0 := Option.some.inj h
  subst hr0
  show Q.len (Q.mk p12.f_total p12.f_avail p12.f_maxc p12.f_alloc p12.f_op p12.f_kind p12.f_amt p12.f_len p12.f_pc p12.f_st p12.f_queue p12.f_work p12.f_mark p12.f_order (0 : Int32) (0 : Int32) (0 : Int32) (0 : Int32)) = _
  exact (Eq.trans (show Q.len (Q.mk p12.f_total p12.f_avail p12.f_maxc p12.f_alloc p12.f_op p12.f_kind p12.f_amt p12.f_len p12.f_pc p12.f_st p12.f_queue p12.f_work p12.f_mark p12.f_order (0 : Int32) (0 : Int32) (0 : Int32) (0 : Int32)) = Q.len p12 from own_lenmk.trans (by first | (simp only [len_wr, len_wrL] <;> rfl) | rfl)) hl14)
set_option maxRecDepth 100000 in
theorem ev_j_init_b113 (s : Q) (v1 : Int32) (v2 : Int32) (v3 : Int32) (v4 : Int32) {res : Q} {out : Option Value × AHeap} (h : j_init_b113 s v1 v2 v3 v4 = some res) (hk : out = (none, (W1 res []))) : Eval own_P 1 113 [some (.ref 0), some (.int v1), some (.int v2), some (.int v3), some (.int v4), none] [] (W1 s []) out := by
  rw [j_init_b113] at h
  refine Eval.aload_n rfl rfl ?_
  refine Eval.getfield rfl rfl own_g1_total ?_
  refine Eval.iconst (x := (0 : Int32)) rfl rfl ?_
  refine Eval.aload_n rfl rfl ?_
  refine Eval.iload_n rfl rfl ?_
  refine Eval.iconst (x := (0 : Int32)) rfl rfl ?_
  refine Eval.bipush (x := (15 : Int32)) rfl rfl ?_
  refine Eval.callI (rest := [.int (0 : Int32), .ref 1]) (x := (j_clamp v1 (0 : Int32) (15 : Int32))) (H1 := (W1 s [])) rfl rfl (ev_j_clamp (W1 s []) 0 v1 (0 : Int32) (15 : Int32) rfl rfl) ?_
  obtain ⟨hb5, h⟩ := ite_some h
  refine Eval.iastore rfl rfl own_a1_total hb5 own_s1_total ?_
  refine Eval.aload_n rfl rfl ?_
  refine Eval.getfield rfl rfl own_g1_total ?_
  refine Eval.iconst (x := (1 : Int32)) rfl rfl ?_
  refine Eval.aload_n rfl rfl ?_
  refine Eval.iload_n rfl rfl ?_
  refine Eval.iconst (x := (0 : Int32)) rfl rfl ?_
  refine Eval.bipush (x := (15 : Int32)) rfl rfl ?_
  refine Eval.callI (rest := [.int (1 : Int32), .ref 1]) (x := (j_clamp v2 (0 : Int32) (15 : Int32))) (H1 := (C1 (wr s.f_total (0 : Int32) (j_clamp v1 (0 : Int32) (15 : Int32))) s.f_avail s.f_maxc s.f_alloc s.f_op s.f_kind s.f_amt s.f_len s.f_pc s.f_st s.f_queue s.f_work s.f_mark s.f_order s.f_qlen s.f_nproc s.f_cur s.f_olen [])) rfl rfl (ev_j_clamp (C1 (wr s.f_total (0 : Int32) (j_clamp v1 (0 : Int32) (15 : Int32))) s.f_avail s.f_maxc s.f_alloc s.f_op s.f_kind s.f_amt s.f_len s.f_pc s.f_st s.f_queue s.f_work s.f_mark s.f_order s.f_qlen s.f_nproc s.f_cur s.f_olen []) 0 v2 (0 : Int32) (15 : Int32) rfl rfl) ?_
  obtain ⟨hb6, h⟩ := ite_some h
  refine Eval.iastore rfl rfl own_a1_total hb6 own_s1_total ?_
  refine Eval.aload_n rfl rfl ?_
  refine Eval.getfield rfl rfl own_g1_total ?_
  refine Eval.iconst (x := (2 : Int32)) rfl rfl ?_
  refine Eval.aload_n rfl rfl ?_
  refine Eval.iload_n rfl rfl ?_
  refine Eval.iconst (x := (0 : Int32)) rfl rfl ?_
  refine Eval.bipush (x := (15 : Int32)) rfl rfl ?_
  refine Eval.callI (rest := [.int (2 : Int32), .ref 1]) (x := (j_clamp v3 (0 : Int32) (15 : Int32))) (H1 := (C1 (wr (wr s.f_total (0 : Int32) (j_clamp v1 (0 : Int32) (15 : Int32))) (1 : Int32) (j_clamp v2 (0 : Int32) (15 : Int32))) s.f_avail s.f_maxc s.f_alloc s.f_op s.f_kind s.f_amt s.f_len s.f_pc s.f_st s.f_queue s.f_work s.f_mark s.f_order s.f_qlen s.f_nproc s.f_cur s.f_olen [])) rfl rfl (ev_j_clamp (C1 (wr (wr s.f_total (0 : Int32) (j_clamp v1 (0 : Int32) (15 : Int32))) (1 : Int32) (j_clamp v2 (0 : Int32) (15 : Int32))) s.f_avail s.f_maxc s.f_alloc s.f_op s.f_kind s.f_amt s.f_len s.f_pc s.f_st s.f_queue s.f_work s.f_mark s.f_order s.f_qlen s.f_nproc s.f_cur s.f_olen []) 0 v3 (0 : Int32) (15 : Int32) rfl rfl) ?_
  obtain ⟨hb7, h⟩ := ite_some h
  refine Eval.iastore rfl rfl own_a1_total hb7 own_s1_total ?_
  refine Eval.aload_n rfl rfl ?_
  refine Eval.getfield rfl rfl own_g1_total ?_
  refine Eval.iconst (x := (3 : Int32)) rfl rfl ?_
  refine Eval.aload_n rfl rfl ?_
  refine Eval.iload rfl rfl ?_
  refine Eval.iconst (x := (0 : Int32)) rfl rfl ?_
  refine Eval.bipush (x := (15 : Int32)) rfl rfl ?_
  refine Eval.callI (rest := [.int (3 : Int32), .ref 1]) (x := (j_clamp v4 (0 : Int32) (15 : Int32))) (H1 := (C1 (wr (wr (wr s.f_total (0 : Int32) (j_clamp v1 (0 : Int32) (15 : Int32))) (1 : Int32) (j_clamp v2 (0 : Int32) (15 : Int32))) (2 : Int32) (j_clamp v3 (0 : Int32) (15 : Int32))) s.f_avail s.f_maxc s.f_alloc s.f_op s.f_kind s.f_amt s.f_len s.f_pc s.f_st s.f_queue s.f_work s.f_mark s.f_order s.f_qlen s.f_nproc s.f_cur s.f_olen [])) rfl rfl (ev_j_clamp (C1 (wr (wr (wr s.f_total (0 : Int32) (j_clamp v1 (0 : Int32) (15 : Int32))) (1 : Int32) (j_clamp v2 (0 : Int32) (15 : Int32))) (2 : Int32) (j_clamp v3 (0 : Int32) (15 : Int32))) s.f_avail s.f_maxc s.f_alloc s.f_op s.f_kind s.f_amt s.f_len s.f_pc s.f_st s.f_queue s.f_work s.f_mark s.f_order s.f_qlen s.f_nproc s.f_cur s.f_olen []) 0 v4 (0 : Int32) (15 : Int32) rfl rfl) ?_
  obtain ⟨hb8, h⟩ := ite_some h
  refine Eval.iastore rfl rfl own_a1_total hb8 own_s1_total ?_
  refine Eval.iconst (x := (0 : Int32)) rfl rfl ?_
  refine Eval.istore (L' := [some (.ref 0), some (.int v1), some (.int v2), some (.int v3), some (.int v4), some (.int (0 : Int32))]) rfl rfl ?_
  refine Eval.heap own_mk1 ?_
  refine Eval.weak (L' := [some (.ref 0), none, none, none, none, some (.int (0 : Int32))]) ⟨_, _, rfl, Or.inr rfl, _, _, rfl, Or.inl rfl, _, _, rfl, Or.inl rfl, _, _, rfl, Or.inl rfl, _, _, rfl, Or.inl rfl, _, _, rfl, Or.inr rfl, rfl⟩ ?_
  obtain ⟨p12, hq13, h⟩ := bind_some h
  refine ev_j_init_l173 _ (Q.mk (wr (wr (wr (wr s.f_total (0 : Int32) (j_clamp v1 (0 : Int32) (15 : Int32))) (1 : Int32) (j_clamp v2 (0 : Int32) (15 : Int32))) (2 : Int32) (j_clamp v3 (0 : Int32) (15 : Int32))) (3 : Int32) (j_clamp v4 (0 : Int32) (15 : Int32))) s.f_avail s.f_maxc s.f_alloc s.f_op s.f_kind s.f_amt s.f_len s.f_pc s.f_st s.f_queue s.f_work s.f_mark s.f_order s.f_qlen s.f_nproc s.f_cur s.f_olen) (0 : Int32) hq13 ?_
  show Eval own_P 1 199 [some (.ref 0), none, none, none, none, none] [] (W1 p12 []) out
  refine Eval.aload_n rfl rfl ?_
  refine Eval.iconst (x := (0 : Int32)) rfl rfl ?_
  refine Eval.putfield rfl rfl own_p1_qlen ?_
  refine Eval.aload_n rfl rfl ?_
  refine Eval.iconst (x := (0 : Int32)) rfl rfl ?_
  refine Eval.putfield rfl rfl own_p1_nproc ?_
  refine Eval.aload_n rfl rfl ?_
  refine Eval.iconst (x := (0 : Int32)) rfl rfl ?_
  refine Eval.putfield rfl rfl own_p1_cur ?_
  refine Eval.aload_n rfl rfl ?_
  refine Eval.iconst (x := (0 : Int32)) rfl rfl ?_
  refine Eval.putfield rfl rfl own_p1_olen ?_
  cases h
  subst hk
  exact Eval.retH own_mk1 rfl rfl
def j_init (v1 : Int32) (v2 : Int32) (v3 : Int32) (v4 : Int32) : Option (Q) := (j_init_b113 Q0 v1 v2 v3 v4)
theorem ln_j_init {v1 : Int32} {v2 : Int32} {v3 : Int32} {v4 : Int32} {res : Q} (h : j_init v1 v2 v3 v4 = some res) : Q.len res = Q.len Q0 := by
  rw [j_init] at h
  exact Eq.trans (ln_j_init_b113 h) rfl
set_option maxRecDepth 100000 in
theorem ev_j_init (v1 : Int32) (v2 : Int32) (v3 : Int32) (v4 : Int32) {res : Q} {out : Option Value × AHeap} (h : j_init v1 v2 v3 v4 = some res) (hk : out = (none, (W1 res []))) : Eval own_P 1 0 [some (.ref 0), some (.int v1), some (.int v2), some (.int v3), some (.int v4), none] [] (W0 [.inl [.null, .null, .null, .null, .null, .null, .null, .null, .null, .null, .null, .null, .null, .null, .int (0 : Int32), .int (0 : Int32), .int (0 : Int32), .int (0 : Int32)]]) out := by
  rw [j_init] at h
  refine Eval.aload_n rfl rfl ?_
  refine Eval.objInit rfl rfl ?_
  refine Eval.aload_n rfl rfl ?_
  refine Eval.iconst (x := (4 : Int32)) rfl rfl ?_
  refine Eval.newarray (z := 18) (N := 4) (a := 1) (H1 := (W0 [.inl [.null, .null, .null, .null, .null, .null, .null, .null, .null, .null, .null, .null, .null, .null, .int (0 : Int32), .int (0 : Int32), .int (0 : Int32), .int (0 : Int32)], .inr (.inl (1, List.replicate 4 0))])) rfl rfl rfl rfl rfl (by decide) (by decide) (by unfold W0; simp only [hsz, csz, own_objN, List.length_replicate]) (by decide) rfl ?_
  refine Eval.putfield (H1 := (W0 [.inl [.ref 1, .null, .null, .null, .null, .null, .null, .null, .null, .null, .null, .null, .null, .null, .int (0 : Int32), .int (0 : Int32), .int (0 : Int32), .int (0 : Int32)], .inr (.inl (1, List.replicate 4 0))])) rfl rfl rfl ?_
  refine Eval.aload_n rfl rfl ?_
  refine Eval.iconst (x := (4 : Int32)) rfl rfl ?_
  refine Eval.newarray (z := 22) (N := 4) (a := 2) (H1 := (W0 [.inl [.ref 1, .null, .null, .null, .null, .null, .null, .null, .null, .null, .null, .null, .null, .null, .int (0 : Int32), .int (0 : Int32), .int (0 : Int32), .int (0 : Int32)], .inr (.inl (1, List.replicate 4 0)), .inr (.inl (1, List.replicate 4 0))])) rfl rfl rfl rfl rfl (by decide) (by decide) (by unfold W0; simp only [hsz, csz, own_objN, List.length_replicate]) (by decide) rfl ?_
  refine Eval.putfield (H1 := (W0 [.inl [.ref 1, .ref 2, .null, .null, .null, .null, .null, .null, .null, .null, .null, .null, .null, .null, .int (0 : Int32), .int (0 : Int32), .int (0 : Int32), .int (0 : Int32)], .inr (.inl (1, List.replicate 4 0)), .inr (.inl (1, List.replicate 4 0))])) rfl rfl rfl ?_
  refine Eval.aload_n rfl rfl ?_
  refine Eval.bipush (x := (32 : Int32)) rfl rfl ?_
  refine Eval.newarray (z := 26) (N := 32) (a := 3) (H1 := (W0 [.inl [.ref 1, .ref 2, .null, .null, .null, .null, .null, .null, .null, .null, .null, .null, .null, .null, .int (0 : Int32), .int (0 : Int32), .int (0 : Int32), .int (0 : Int32)], .inr (.inl (1, List.replicate 4 0)), .inr (.inl (1, List.replicate 4 0)), .inr (.inl (1, List.replicate 32 0))])) rfl rfl rfl rfl rfl (by decide) (by decide) (by unfold W0; simp only [hsz, csz, own_objN, List.length_replicate]) (by decide) rfl ?_
  refine Eval.putfield (H1 := (W0 [.inl [.ref 1, .ref 2, .ref 3, .null, .null, .null, .null, .null, .null, .null, .null, .null, .null, .null, .int (0 : Int32), .int (0 : Int32), .int (0 : Int32), .int (0 : Int32)], .inr (.inl (1, List.replicate 4 0)), .inr (.inl (1, List.replicate 4 0)), .inr (.inl (1, List.replicate 32 0))])) rfl rfl rfl ?_
  refine Eval.aload_n rfl rfl ?_
  refine Eval.bipush (x := (32 : Int32)) rfl rfl ?_
  refine Eval.newarray (z := 58) (N := 32) (a := 4) (H1 := (W0 [.inl [.ref 1, .ref 2, .ref 3, .null, .null, .null, .null, .null, .null, .null, .null, .null, .null, .null, .int (0 : Int32), .int (0 : Int32), .int (0 : Int32), .int (0 : Int32)], .inr (.inl (1, List.replicate 4 0)), .inr (.inl (1, List.replicate 4 0)), .inr (.inl (1, List.replicate 32 0)), .inr (.inl (1, List.replicate 32 0))])) rfl rfl rfl rfl rfl (by decide) (by decide) (by unfold W0; simp only [hsz, csz, own_objN, List.length_replicate]) (by decide) rfl ?_
  refine Eval.putfield (H1 := (W0 [.inl [.ref 1, .ref 2, .ref 3, .ref 4, .null, .null, .null, .null, .null, .null, .null, .null, .null, .null, .int (0 : Int32), .int (0 : Int32), .int (0 : Int32), .int (0 : Int32)], .inr (.inl (1, List.replicate 4 0)), .inr (.inl (1, List.replicate 4 0)), .inr (.inl (1, List.replicate 32 0)), .inr (.inl (1, List.replicate 32 0))])) rfl rfl rfl ?_
  refine Eval.aload_n rfl rfl ?_
  refine Eval.bipush (x := (64 : Int32)) rfl rfl ?_
  refine Eval.newarray (z := 90) (N := 64) (a := 5) (H1 := (W0 [.inl [.ref 1, .ref 2, .ref 3, .ref 4, .null, .null, .null, .null, .null, .null, .null, .null, .null, .null, .int (0 : Int32), .int (0 : Int32), .int (0 : Int32), .int (0 : Int32)], .inr (.inl (1, List.replicate 4 0)), .inr (.inl (1, List.replicate 4 0)), .inr (.inl (1, List.replicate 32 0)), .inr (.inl (1, List.replicate 32 0)), .inr (.inl (1, List.replicate 64 0))])) rfl rfl rfl rfl rfl (by decide) (by decide) (by unfold W0; simp only [hsz, csz, own_objN, List.length_replicate]) (by decide) rfl ?_
  refine Eval.putfield (H1 := (W0 [.inl [.ref 1, .ref 2, .ref 3, .ref 4, .ref 5, .null, .null, .null, .null, .null, .null, .null, .null, .null, .int (0 : Int32), .int (0 : Int32), .int (0 : Int32), .int (0 : Int32)], .inr (.inl (1, List.replicate 4 0)), .inr (.inl (1, List.replicate 4 0)), .inr (.inl (1, List.replicate 32 0)), .inr (.inl (1, List.replicate 32 0)), .inr (.inl (1, List.replicate 64 0))])) rfl rfl rfl ?_
  refine Eval.aload_n rfl rfl ?_
  refine Eval.bipush (x := (64 : Int32)) rfl rfl ?_
  refine Eval.newarray (z := 154) (N := 64) (a := 6) (H1 := (W0 [.inl [.ref 1, .ref 2, .ref 3, .ref 4, .ref 5, .null, .null, .null, .null, .null, .null, .null, .null, .null, .int (0 : Int32), .int (0 : Int32), .int (0 : Int32), .int (0 : Int32)], .inr (.inl (1, List.replicate 4 0)), .inr (.inl (1, List.replicate 4 0)), .inr (.inl (1, List.replicate 32 0)), .inr (.inl (1, List.replicate 32 0)), .inr (.inl (1, List.replicate 64 0)), .inr (.inl (1, List.replicate 64 0))])) rfl rfl rfl rfl rfl (by decide) (by decide) (by unfold W0; simp only [hsz, csz, own_objN, List.length_replicate]) (by decide) rfl ?_
  refine Eval.putfield (H1 := (W0 [.inl [.ref 1, .ref 2, .ref 3, .ref 4, .ref 5, .ref 6, .null, .null, .null, .null, .null, .null, .null, .null, .int (0 : Int32), .int (0 : Int32), .int (0 : Int32), .int (0 : Int32)], .inr (.inl (1, List.replicate 4 0)), .inr (.inl (1, List.replicate 4 0)), .inr (.inl (1, List.replicate 32 0)), .inr (.inl (1, List.replicate 32 0)), .inr (.inl (1, List.replicate 64 0)), .inr (.inl (1, List.replicate 64 0))])) rfl rfl rfl ?_
  refine Eval.aload_n rfl rfl ?_
  refine Eval.bipush (x := (64 : Int32)) rfl rfl ?_
  refine Eval.newarray (z := 218) (N := 64) (a := 7) (H1 := (W0 [.inl [.ref 1, .ref 2, .ref 3, .ref 4, .ref 5, .ref 6, .null, .null, .null, .null, .null, .null, .null, .null, .int (0 : Int32), .int (0 : Int32), .int (0 : Int32), .int (0 : Int32)], .inr (.inl (1, List.replicate 4 0)), .inr (.inl (1, List.replicate 4 0)), .inr (.inl (1, List.replicate 32 0)), .inr (.inl (1, List.replicate 32 0)), .inr (.inl (1, List.replicate 64 0)), .inr (.inl (1, List.replicate 64 0)), .inr (.inl (1, List.replicate 64 0))])) rfl rfl rfl rfl rfl (by decide) (by decide) (by unfold W0; simp only [hsz, csz, own_objN, List.length_replicate]) (by decide) rfl ?_
  refine Eval.putfield (H1 := (W0 [.inl [.ref 1, .ref 2, .ref 3, .ref 4, .ref 5, .ref 6, .ref 7, .null, .null, .null, .null, .null, .null, .null, .int (0 : Int32), .int (0 : Int32), .int (0 : Int32), .int (0 : Int32)], .inr (.inl (1, List.replicate 4 0)), .inr (.inl (1, List.replicate 4 0)), .inr (.inl (1, List.replicate 32 0)), .inr (.inl (1, List.replicate 32 0)), .inr (.inl (1, List.replicate 64 0)), .inr (.inl (1, List.replicate 64 0)), .inr (.inl (1, List.replicate 64 0))])) rfl rfl rfl ?_
  refine Eval.aload_n rfl rfl ?_
  refine Eval.bipush (x := (8 : Int32)) rfl rfl ?_
  refine Eval.newarray (z := 282) (N := 8) (a := 8) (H1 := (W0 [.inl [.ref 1, .ref 2, .ref 3, .ref 4, .ref 5, .ref 6, .ref 7, .null, .null, .null, .null, .null, .null, .null, .int (0 : Int32), .int (0 : Int32), .int (0 : Int32), .int (0 : Int32)], .inr (.inl (1, List.replicate 4 0)), .inr (.inl (1, List.replicate 4 0)), .inr (.inl (1, List.replicate 32 0)), .inr (.inl (1, List.replicate 32 0)), .inr (.inl (1, List.replicate 64 0)), .inr (.inl (1, List.replicate 64 0)), .inr (.inl (1, List.replicate 64 0)), .inr (.inl (1, List.replicate 8 0))])) rfl rfl rfl rfl rfl (by decide) (by decide) (by unfold W0; simp only [hsz, csz, own_objN, List.length_replicate]) (by decide) rfl ?_
  refine Eval.putfield (H1 := (W0 [.inl [.ref 1, .ref 2, .ref 3, .ref 4, .ref 5, .ref 6, .ref 7, .ref 8, .null, .null, .null, .null, .null, .null, .int (0 : Int32), .int (0 : Int32), .int (0 : Int32), .int (0 : Int32)], .inr (.inl (1, List.replicate 4 0)), .inr (.inl (1, List.replicate 4 0)), .inr (.inl (1, List.replicate 32 0)), .inr (.inl (1, List.replicate 32 0)), .inr (.inl (1, List.replicate 64 0)), .inr (.inl (1, List.replicate 64 0)), .inr (.inl (1, List.replicate 64 0)), .inr (.inl (1, List.replicate 8 0))])) rfl rfl rfl ?_
  refine Eval.aload_n rfl rfl ?_
  refine Eval.bipush (x := (8 : Int32)) rfl rfl ?_
  refine Eval.newarray (z := 290) (N := 8) (a := 9) (H1 := (W0 [.inl [.ref 1, .ref 2, .ref 3, .ref 4, .ref 5, .ref 6, .ref 7, .ref 8, .null, .null, .null, .null, .null, .null, .int (0 : Int32), .int (0 : Int32), .int (0 : Int32), .int (0 : Int32)], .inr (.inl (1, List.replicate 4 0)), .inr (.inl (1, List.replicate 4 0)), .inr (.inl (1, List.replicate 32 0)), .inr (.inl (1, List.replicate 32 0)), .inr (.inl (1, List.replicate 64 0)), .inr (.inl (1, List.replicate 64 0)), .inr (.inl (1, List.replicate 64 0)), .inr (.inl (1, List.replicate 8 0)), .inr (.inl (1, List.replicate 8 0))])) rfl rfl rfl rfl rfl (by decide) (by decide) (by unfold W0; simp only [hsz, csz, own_objN, List.length_replicate]) (by decide) rfl ?_
  refine Eval.putfield (H1 := (W0 [.inl [.ref 1, .ref 2, .ref 3, .ref 4, .ref 5, .ref 6, .ref 7, .ref 8, .ref 9, .null, .null, .null, .null, .null, .int (0 : Int32), .int (0 : Int32), .int (0 : Int32), .int (0 : Int32)], .inr (.inl (1, List.replicate 4 0)), .inr (.inl (1, List.replicate 4 0)), .inr (.inl (1, List.replicate 32 0)), .inr (.inl (1, List.replicate 32 0)), .inr (.inl (1, List.replicate 64 0)), .inr (.inl (1, List.replicate 64 0)), .inr (.inl (1, List.replicate 64 0)), .inr (.inl (1, List.replicate 8 0)), .inr (.inl (1, List.replicate 8 0))])) rfl rfl rfl ?_
  refine Eval.aload_n rfl rfl ?_
  refine Eval.bipush (x := (8 : Int32)) rfl rfl ?_
  refine Eval.newarray (z := 298) (N := 8) (a := 10) (H1 := (W0 [.inl [.ref 1, .ref 2, .ref 3, .ref 4, .ref 5, .ref 6, .ref 7, .ref 8, .ref 9, .null, .null, .null, .null, .null, .int (0 : Int32), .int (0 : Int32), .int (0 : Int32), .int (0 : Int32)], .inr (.inl (1, List.replicate 4 0)), .inr (.inl (1, List.replicate 4 0)), .inr (.inl (1, List.replicate 32 0)), .inr (.inl (1, List.replicate 32 0)), .inr (.inl (1, List.replicate 64 0)), .inr (.inl (1, List.replicate 64 0)), .inr (.inl (1, List.replicate 64 0)), .inr (.inl (1, List.replicate 8 0)), .inr (.inl (1, List.replicate 8 0)), .inr (.inl (1, List.replicate 8 0))])) rfl rfl rfl rfl rfl (by decide) (by decide) (by unfold W0; simp only [hsz, csz, own_objN, List.length_replicate]) (by decide) rfl ?_
  refine Eval.putfield (H1 := (W0 [.inl [.ref 1, .ref 2, .ref 3, .ref 4, .ref 5, .ref 6, .ref 7, .ref 8, .ref 9, .ref 10, .null, .null, .null, .null, .int (0 : Int32), .int (0 : Int32), .int (0 : Int32), .int (0 : Int32)], .inr (.inl (1, List.replicate 4 0)), .inr (.inl (1, List.replicate 4 0)), .inr (.inl (1, List.replicate 32 0)), .inr (.inl (1, List.replicate 32 0)), .inr (.inl (1, List.replicate 64 0)), .inr (.inl (1, List.replicate 64 0)), .inr (.inl (1, List.replicate 64 0)), .inr (.inl (1, List.replicate 8 0)), .inr (.inl (1, List.replicate 8 0)), .inr (.inl (1, List.replicate 8 0))])) rfl rfl rfl ?_
  refine Eval.aload_n rfl rfl ?_
  refine Eval.bipush (x := (8 : Int32)) rfl rfl ?_
  refine Eval.newarray (z := 306) (N := 8) (a := 11) (H1 := (W0 [.inl [.ref 1, .ref 2, .ref 3, .ref 4, .ref 5, .ref 6, .ref 7, .ref 8, .ref 9, .ref 10, .null, .null, .null, .null, .int (0 : Int32), .int (0 : Int32), .int (0 : Int32), .int (0 : Int32)], .inr (.inl (1, List.replicate 4 0)), .inr (.inl (1, List.replicate 4 0)), .inr (.inl (1, List.replicate 32 0)), .inr (.inl (1, List.replicate 32 0)), .inr (.inl (1, List.replicate 64 0)), .inr (.inl (1, List.replicate 64 0)), .inr (.inl (1, List.replicate 64 0)), .inr (.inl (1, List.replicate 8 0)), .inr (.inl (1, List.replicate 8 0)), .inr (.inl (1, List.replicate 8 0)), .inr (.inl (1, List.replicate 8 0))])) rfl rfl rfl rfl rfl (by decide) (by decide) (by unfold W0; simp only [hsz, csz, own_objN, List.length_replicate]) (by decide) rfl ?_
  refine Eval.putfield (H1 := (W0 [.inl [.ref 1, .ref 2, .ref 3, .ref 4, .ref 5, .ref 6, .ref 7, .ref 8, .ref 9, .ref 10, .ref 11, .null, .null, .null, .int (0 : Int32), .int (0 : Int32), .int (0 : Int32), .int (0 : Int32)], .inr (.inl (1, List.replicate 4 0)), .inr (.inl (1, List.replicate 4 0)), .inr (.inl (1, List.replicate 32 0)), .inr (.inl (1, List.replicate 32 0)), .inr (.inl (1, List.replicate 64 0)), .inr (.inl (1, List.replicate 64 0)), .inr (.inl (1, List.replicate 64 0)), .inr (.inl (1, List.replicate 8 0)), .inr (.inl (1, List.replicate 8 0)), .inr (.inl (1, List.replicate 8 0)), .inr (.inl (1, List.replicate 8 0))])) rfl rfl rfl ?_
  refine Eval.aload_n rfl rfl ?_
  refine Eval.iconst (x := (4 : Int32)) rfl rfl ?_
  refine Eval.newarray (z := 314) (N := 4) (a := 12) (H1 := (W0 [.inl [.ref 1, .ref 2, .ref 3, .ref 4, .ref 5, .ref 6, .ref 7, .ref 8, .ref 9, .ref 10, .ref 11, .null, .null, .null, .int (0 : Int32), .int (0 : Int32), .int (0 : Int32), .int (0 : Int32)], .inr (.inl (1, List.replicate 4 0)), .inr (.inl (1, List.replicate 4 0)), .inr (.inl (1, List.replicate 32 0)), .inr (.inl (1, List.replicate 32 0)), .inr (.inl (1, List.replicate 64 0)), .inr (.inl (1, List.replicate 64 0)), .inr (.inl (1, List.replicate 64 0)), .inr (.inl (1, List.replicate 8 0)), .inr (.inl (1, List.replicate 8 0)), .inr (.inl (1, List.replicate 8 0)), .inr (.inl (1, List.replicate 8 0)), .inr (.inl (1, List.replicate 4 0))])) rfl rfl rfl rfl rfl (by decide) (by decide) (by unfold W0; simp only [hsz, csz, own_objN, List.length_replicate]) (by decide) rfl ?_
  refine Eval.putfield (H1 := (W0 [.inl [.ref 1, .ref 2, .ref 3, .ref 4, .ref 5, .ref 6, .ref 7, .ref 8, .ref 9, .ref 10, .ref 11, .ref 12, .null, .null, .int (0 : Int32), .int (0 : Int32), .int (0 : Int32), .int (0 : Int32)], .inr (.inl (1, List.replicate 4 0)), .inr (.inl (1, List.replicate 4 0)), .inr (.inl (1, List.replicate 32 0)), .inr (.inl (1, List.replicate 32 0)), .inr (.inl (1, List.replicate 64 0)), .inr (.inl (1, List.replicate 64 0)), .inr (.inl (1, List.replicate 64 0)), .inr (.inl (1, List.replicate 8 0)), .inr (.inl (1, List.replicate 8 0)), .inr (.inl (1, List.replicate 8 0)), .inr (.inl (1, List.replicate 8 0)), .inr (.inl (1, List.replicate 4 0))])) rfl rfl rfl ?_
  refine Eval.aload_n rfl rfl ?_
  refine Eval.bipush (x := (8 : Int32)) rfl rfl ?_
  refine Eval.newarray (z := 318) (N := 8) (a := 13) (H1 := (W0 [.inl [.ref 1, .ref 2, .ref 3, .ref 4, .ref 5, .ref 6, .ref 7, .ref 8, .ref 9, .ref 10, .ref 11, .ref 12, .null, .null, .int (0 : Int32), .int (0 : Int32), .int (0 : Int32), .int (0 : Int32)], .inr (.inl (1, List.replicate 4 0)), .inr (.inl (1, List.replicate 4 0)), .inr (.inl (1, List.replicate 32 0)), .inr (.inl (1, List.replicate 32 0)), .inr (.inl (1, List.replicate 64 0)), .inr (.inl (1, List.replicate 64 0)), .inr (.inl (1, List.replicate 64 0)), .inr (.inl (1, List.replicate 8 0)), .inr (.inl (1, List.replicate 8 0)), .inr (.inl (1, List.replicate 8 0)), .inr (.inl (1, List.replicate 8 0)), .inr (.inl (1, List.replicate 4 0)), .inr (.inl (2, List.replicate 8 0))])) rfl rfl rfl rfl rfl (by decide) (by decide) (by unfold W0; simp only [hsz, csz, own_objN, List.length_replicate]) (by decide) rfl ?_
  refine Eval.putfield (H1 := (W0 [.inl [.ref 1, .ref 2, .ref 3, .ref 4, .ref 5, .ref 6, .ref 7, .ref 8, .ref 9, .ref 10, .ref 11, .ref 12, .ref 13, .null, .int (0 : Int32), .int (0 : Int32), .int (0 : Int32), .int (0 : Int32)], .inr (.inl (1, List.replicate 4 0)), .inr (.inl (1, List.replicate 4 0)), .inr (.inl (1, List.replicate 32 0)), .inr (.inl (1, List.replicate 32 0)), .inr (.inl (1, List.replicate 64 0)), .inr (.inl (1, List.replicate 64 0)), .inr (.inl (1, List.replicate 64 0)), .inr (.inl (1, List.replicate 8 0)), .inr (.inl (1, List.replicate 8 0)), .inr (.inl (1, List.replicate 8 0)), .inr (.inl (1, List.replicate 8 0)), .inr (.inl (1, List.replicate 4 0)), .inr (.inl (2, List.replicate 8 0))])) rfl rfl rfl ?_
  refine Eval.aload_n rfl rfl ?_
  refine Eval.bipush (x := (8 : Int32)) rfl rfl ?_
  refine Eval.newarray (z := 326) (N := 8) (a := 14) (H1 := (W0 [.inl [.ref 1, .ref 2, .ref 3, .ref 4, .ref 5, .ref 6, .ref 7, .ref 8, .ref 9, .ref 10, .ref 11, .ref 12, .ref 13, .null, .int (0 : Int32), .int (0 : Int32), .int (0 : Int32), .int (0 : Int32)], .inr (.inl (1, List.replicate 4 0)), .inr (.inl (1, List.replicate 4 0)), .inr (.inl (1, List.replicate 32 0)), .inr (.inl (1, List.replicate 32 0)), .inr (.inl (1, List.replicate 64 0)), .inr (.inl (1, List.replicate 64 0)), .inr (.inl (1, List.replicate 64 0)), .inr (.inl (1, List.replicate 8 0)), .inr (.inl (1, List.replicate 8 0)), .inr (.inl (1, List.replicate 8 0)), .inr (.inl (1, List.replicate 8 0)), .inr (.inl (1, List.replicate 4 0)), .inr (.inl (2, List.replicate 8 0)), .inr (.inl (1, List.replicate 8 0))])) rfl rfl rfl rfl rfl (by decide) (by decide) (by unfold W0; simp only [hsz, csz, own_objN, List.length_replicate]) (by decide) rfl ?_
  refine Eval.putfield (H1 := (W0 [.inl [.ref 1, .ref 2, .ref 3, .ref 4, .ref 5, .ref 6, .ref 7, .ref 8, .ref 9, .ref 10, .ref 11, .ref 12, .ref 13, .ref 14, .int (0 : Int32), .int (0 : Int32), .int (0 : Int32), .int (0 : Int32)], .inr (.inl (1, List.replicate 4 0)), .inr (.inl (1, List.replicate 4 0)), .inr (.inl (1, List.replicate 32 0)), .inr (.inl (1, List.replicate 32 0)), .inr (.inl (1, List.replicate 64 0)), .inr (.inl (1, List.replicate 64 0)), .inr (.inl (1, List.replicate 64 0)), .inr (.inl (1, List.replicate 8 0)), .inr (.inl (1, List.replicate 8 0)), .inr (.inl (1, List.replicate 8 0)), .inr (.inl (1, List.replicate 8 0)), .inr (.inl (1, List.replicate 4 0)), .inr (.inl (2, List.replicate 8 0)), .inr (.inl (1, List.replicate 8 0))])) rfl rfl rfl ?_
  show Eval own_P 1 113 [some (.ref 0), some (.int v1), some (.int v2), some (.int v3), some (.int v4), none] [] (W1 Q0 []) out
  exact ev_j_init_b113 Q0 v1 v2 v3 v4 h hk
def j_claimOk (s : Q) (v1 : Int32) (v2 : Int32) : Option (Int32) := (if v1 < (0 : Int32) then some ((0 : Int32)) else (if inb s.f_total.length v2 = true then (if (rd s.f_total v2) < v1 then some ((0 : Int32)) else some ((1 : Int32))) else none))
set_option maxRecDepth 100000 in
theorem ev_j_claimOk (R : AHeap) (s : Q) (v1 : Int32) (v2 : Int32) {res : Int32} {out : Option Value × AHeap} (h : j_claimOk s v1 v2 = some res) (hk : out = (some (.int res), (W1 s R))) : Eval own_P 4 0 [some (.ref 0), some (.int v1), some (.int v2)] [] (W1 s R) out := by
  rw [j_claimOk] at h
  refine Eval.iload_n rfl rfl ?_
  by_cases hc18 : v1 < (0 : Int32)
  · rw [if_pos hc18] at h
    refine Eval.ifT (t := 18) rfl rfl (tlt hc18).1 ?_
    refine Eval.iconst (x := (0 : Int32)) rfl rfl ?_
    cases h
    subst hk
    exact Eval.ret rfl rfl
  · rw [if_neg hc18] at h
    refine Eval.ifF rfl (flt hc18).1 ?_
    refine Eval.iload_n rfl rfl ?_
    refine Eval.aload_n rfl rfl ?_
    refine Eval.getfield rfl rfl own_g1_total ?_
    refine Eval.iload_n rfl rfl ?_
    obtain ⟨hb19, h⟩ := ite_some h
    refine Eval.iaload rfl own_a1_total hb19 ?_
    by_cases hc20 : (rd s.f_total v2) < v1
    · rw [if_pos hc20] at h
      refine Eval.icmpT (t := 18) rfl rfl (tlt hc20).2.2.1 ?_
      refine Eval.iconst (x := (0 : Int32)) rfl rfl ?_
      cases h
      subst hk
      exact Eval.ret rfl rfl
    · rw [if_neg hc20] at h
      refine Eval.icmpF rfl (flt hc20).2.2.1 ?_
      refine Eval.iconst (x := (1 : Int32)) rfl rfl ?_
      refine Eval.goto (t := 19) rfl rfl ?_
      cases h
      subst hk
      exact Eval.ret rfl rfl
abbrev j_admit_l106_K (R : AHeap) (res : Int32 × Q) (out : Option Value × AHeap) : Prop := Eval own_P 3 129 [some (.ref 0), none, none, none, none, some (.int res.1), none, none] [] (W1 res.2 R) out

abbrev j_admit_l106_N (s : Q) (res : Int32 × Q) : Prop := Q.len res.2 = Q.len s
def j_admit_l106 : Nat → Q → Int32 → Int32 → Int32 → Option (Int32 × Q)
  | 0, _, _, _, _ => none
  | n + 1, s, v5, v6, v7 => (if v7 < (4 : Int32) then (if inb s.f_alloc.length (v6 + v7) = true then (j_admit_l106 n (Q.mk s.f_total s.f_avail s.f_maxc (wr s.f_alloc (v6 + v7) (0 : Int32)) s.f_op s.f_kind s.f_amt s.f_len s.f_pc s.f_st s.f_queue s.f_work s.f_mark s.f_order s.f_qlen s.f_nproc s.f_cur s.f_olen) v5 v6 (v7 + (1 : Int32))) else none) else some (v5, s))
theorem ln_j_admit_l106 : ∀ {n : Nat} {s : Q} {v5 : Int32} {v6 : Int32} {v7 : Int32} {res : Int32 × Q}, j_admit_l106 n s v5 v6 v7 = some res → j_admit_l106_N s res := by
  intro n
  induction n with
  | zero => intro _ _ _ _ res h; cases h
  | succ n hrec0 =>
    have hrec : ∀ (s : Q) (v5 : Int32) (v6 : Int32) (v7 : Int32) {res : Int32 × Q}, j_admit_l106 n s v5 v6 v7 = some res → j_admit_l106_N s res := by intros; apply hrec0; assumption
    intro s v5 v6 v7 res h
    rw [j_admit_l106] at h
    by_cases hc37 : v7 < (4 : Int32)
    · rw [if_pos hc37] at h
      obtain ⟨hb38, h⟩ := ite_some h
      exact (hrec _ _ _ _ h).trans (Eq.trans (show Q.len (Q.mk s.f_total s.f_avail s.f_maxc (wr s.f_alloc (v6 + v7) (0 : Int32)) s.f_op s.f_kind s.f_amt s.f_len s.f_pc s.f_st s.f_queue s.f_work s.f_mark s.f_order s.f_qlen s.f_nproc s.f_cur s.f_olen) = Q.len s from own_lenmk.trans (by first | (simp only [len_wr, len_wrL] <;> rfl) | rfl)) rfl)
    · rw [if_neg hc37] at h
      have hr0 := Option.some.inj h
      subst hr0
      show Q.len s = _
      exact rfl
set_option maxRecDepth 100000 in
theorem ev_j_admit_l106 (R : AHeap) : ∀ (n : Nat) (s : Q) (v5 : Int32) (v6 : Int32) (v7 : Int32) {res : Int32 × Q} {out : Option Value × AHeap}, j_admit_l106 n s v5 v6 v7 = some res → j_admit_l106_K R res out → Eval own_P 3 106 [some (.ref 0), none, none, none, none, some (.int v5), some (.int v6), some (.int v7)] [] (W1 s R) out := by
  intro n
  induction n with
  | zero => intro _ _ _ _ res out h hk; cases h
  | succ n hrec =>
    intro s v5 v6 v7 res out h hk
    rw [j_admit_l106] at h
    refine Eval.iload rfl rfl ?_
    refine Eval.iconst (x := (4 : Int32)) rfl rfl ?_
    by_cases hc37 : v7 < (4 : Int32)
    · rw [if_pos hc37] at h
      refine Eval.icmpF rfl (tlt hc37).2.1 ?_
      refine Eval.aload_n rfl rfl ?_
      refine Eval.getfield rfl rfl own_g1_alloc ?_
      refine Eval.iload rfl rfl ?_
      refine Eval.iload rfl rfl ?_
      refine Eval.iadd rfl ?_
      refine Eval.iconst (x := (0 : Int32)) rfl rfl ?_
      obtain ⟨hb38, h⟩ := ite_some h
      refine Eval.iastore rfl rfl own_a1_alloc hb38 own_s1_alloc ?_
      refine Eval.iinc (L' := [some (.ref 0), none, none, none, none, some (.int v5), some (.int v6), some (.int (v7 + (1 : Int32)))]) rfl rfl rfl ?_
      refine Eval.goto (t := 106) rfl rfl ?_
      refine Eval.heap own_mk1 ?_
      exact hrec _ _ _ _ h hk
    · rw [if_neg hc37] at h
      refine Eval.icmpT (t := 129) rfl rfl (flt hc37).2.1 ?_
      cases h
      refine Eval.weak (L' := [some (.ref 0), none, none, none, none, some (.int v5), none, none]) ⟨_, _, rfl, Or.inr rfl, _, _, rfl, Or.inl rfl, _, _, rfl, Or.inl rfl, _, _, rfl, Or.inl rfl, _, _, rfl, Or.inl rfl, _, _, rfl, Or.inr rfl, _, _, rfl, Or.inl rfl, _, _, rfl, Or.inl rfl, rfl⟩ ?_
      exact hk
def j_admit (s : Q) (v1 : Int32) (v2 : Int32) (v3 : Int32) (v4 : Int32) : Option (Int32 × Q) := (if s.f_nproc < (8 : Int32) then ((j_claimOk s v1 (0 : Int32)).bind fun p21 => (if p21 = (0 : Int32) then some ((-9 : Int32), s) else ((j_claimOk s v2 (1 : Int32)).bind fun p24 => (if p24 = (0 : Int32) then some ((-9 : Int32), s) else ((j_claimOk s v3 (2 : Int32)).bind fun p27 => (if p27 = (0 : Int32) then some ((-9 : Int32), s) else ((j_claimOk s v4 (3 : Int32)).bind fun p30 => (if p30 = (0 : Int32) then some ((-9 : Int32), s) else (if inb s.f_maxc.length (s.f_nproc * (4 : Int32)) = true then (if inb (wr s.f_maxc (s.f_nproc * (4 : Int32)) v1).length ((s.f_nproc * (4 : Int32)) + (1 : Int32)) = true then (if inb (wr (wr s.f_maxc (s.f_nproc * (4 : Int32)) v1) ((s.f_nproc * (4 : Int32)) + (1 : Int32)) v2).length ((s.f_nproc * (4 : Int32)) + (2 : Int32)) = true then (if inb (wr (wr (wr s.f_maxc (s.f_nproc * (4 : Int32)) v1) ((s.f_nproc * (4 : Int32)) + (1 : Int32)) v2) ((s.f_nproc * (4 : Int32)) + (2 : Int32)) v3).length ((s.f_nproc * (4 : Int32)) + (3 : Int32)) = true then ((j_admit_l106 3000 (Q.mk s.f_total s.f_avail (wr (wr (wr (wr s.f_maxc (s.f_nproc * (4 : Int32)) v1) ((s.f_nproc * (4 : Int32)) + (1 : Int32)) v2) ((s.f_nproc * (4 : Int32)) + (2 : Int32)) v3) ((s.f_nproc * (4 : Int32)) + (3 : Int32)) v4) s.f_alloc s.f_op s.f_kind s.f_amt s.f_len s.f_pc s.f_st s.f_queue s.f_work s.f_mark s.f_order s.f_qlen s.f_nproc s.f_cur s.f_olen) s.f_nproc (s.f_nproc * (4 : Int32)) (0 : Int32)).bind fun p39 => (if inb p39.2.f_len.length p39.1 = true then (if inb p39.2.f_pc.length p39.1 = true then (if inb p39.2.f_st.length p39.1 = true then some (p39.1, (Q.mk p39.2.f_total p39.2.f_avail p39.2.f_maxc p39.2.f_alloc p39.2.f_op p39.2.f_kind p39.2.f_amt (wr p39.2.f_len p39.1 (0 : Int32)) (wr p39.2.f_pc p39.1 (0 : Int32)) (wr p39.2.f_st p39.1 (1 : Int32)) p39.2.f_queue p39.2.f_work p39.2.f_mark p39.2.f_order p39.2.f_qlen (p39.1 + (1 : Int32)) p39.2.f_cur p39.2.f_olen)) else none) else none) else none)) else none) else none) else none) else none))))))))) else some ((-8 : Int32), s))
theorem ln_j_admit {s : Q} {v1 : Int32} {v2 : Int32} {v3 : Int32} {v4 : Int32} {res : Int32 × Q} (h : j_admit s v1 v2 v3 v4 = some res) : Q.len res.2 = Q.len s := by
  rw [j_admit] at h
  by_cases hc17 : s.f_nproc < (8 : Int32)
  · rw [if_pos hc17] at h
    obtain ⟨p21, hq22, h⟩ := bind_some h
    by_cases hc23 : p21 = (0 : Int32)
    · rw [if_pos hc23] at h
      have hr0 := Option.some.inj h
      subst hr0
      show Q.len s = _
      exact rfl
    · rw [if_neg hc23] at h
      obtain ⟨p24, hq25, h⟩ := bind_some h
      by_cases hc26 : p24 = (0 : Int32)
      · rw [if_pos hc26] at h
        have hr0 := Option.some.inj h
        subst hr0
        show Q.len s = _
        exact rfl
      · rw [if_neg hc26] at h
        obtain ⟨p27, hq28, h⟩ := bind_some h
        by_cases hc29 : p27 = (0 : Int32)
        · rw [if_pos hc29] at h
          have hr0 := Option.some.inj h
          subst hr0
          show Q.len s = _
          exact rfl
        · rw [if_neg hc29] at h
          obtain ⟨p30, hq31, h⟩ := bind_some h
          by_cases hc32 : p30 = (0 : Int32)
          · rw [if_pos hc32] at h
            have hr0 := Option.some.inj h
            subst hr0
            show Q.len s = _
            exact rfl
          · rw [if_neg hc32] at h
            obtain ⟨hb33, h⟩ := ite_some h
            obtain ⟨hb34, h⟩ := ite_some h
            obtain ⟨hb35, h⟩ := ite_some h
            obtain ⟨hb36, h⟩ := ite_some h
            obtain ⟨p39, hq40, h⟩ := bind_some h
            have hl41 : Q.len p39.2 = _ := Eq.trans (ln_j_admit_l106 hq40) (Eq.trans (show Q.len (Q.mk s.f_total s.f_avail (wr (wr (wr (wr s.f_maxc (s.f_nproc * (4 : Int32)) v1) ((s.f_nproc * (4 : Int32)) + (1 : Int32)) v2) ((s.f_nproc * (4 : Int32)) + (2 : Int32)) v3) ((s.f_nproc * (4 : Int32)) + (3 : Int32)) v4) s.f_alloc s.f_op s.f_kind s.f_amt s.f_len s.f_pc s.f_st s.f_queue s.f_work s.f_mark s.f_order s.f_qlen s.f_nproc s.f_cur s.f_olen) = Q.len s from own_lenmk.trans (by first | (simp only [len_wr, len_wrL] <;> rfl) | rfl)) rfl)
            obtain ⟨hb42, h⟩ := ite_some h
            obtain ⟨hb43, h⟩ := ite_some h
            obtain ⟨hb44, h⟩ := ite_some h
            have hr0 := Option.some.inj h
            subst hr0
            show Q.len (Q.mk p39.2.f_total p39.2.f_avail p39.2.f_maxc p39.2.f_alloc p39.2.f_op p39.2.f_kind p39.2.f_amt (wr p39.2.f_len p39.1 (0 : Int32)) (wr p39.2.f_pc p39.1 (0 : Int32)) (wr p39.2.f_st p39.1 (1 : Int32)) p39.2.f_queue p39.2.f_work p39.2.f_mark p39.2.f_order p39.2.f_qlen (p39.1 + (1 : Int32)) p39.2.f_cur p39.2.f_olen) = _
            exact (Eq.trans (show Q.len (Q.mk p39.2.f_total p39.2.f_avail p39.2.f_maxc p39.2.f_alloc p39.2.f_op p39.2.f_kind p39.2.f_amt (wr p39.2.f_len p39.1 (0 : Int32)) (wr p39.2.f_pc p39.1 (0 : Int32)) (wr p39.2.f_st p39.1 (1 : Int32)) p39.2.f_queue p39.2.f_work p39.2.f_mark p39.2.f_order p39.2.f_qlen (p39.1 + (1 : Int32)) p39.2.f_cur p39.2.f_olen) = Q.len p39.2 from own_lenmk.trans (by first | (simp only [len_wr, len_wrL] <;> rfl) | rfl)) hl41)
  · rw [if_neg hc17] at h
    have hr0 := Option.some.inj h
    subst hr0
    show Q.len s = _
    exact rfl
set_option maxRecDepth 100000 in
theorem ev_j_admit (R : AHeap) (s : Q) (v1 : Int32) (v2 : Int32) (v3 : Int32) (v4 : Int32) {res : Int32 × Q} {out : Option Value × AHeap} (h : j_admit s v1 v2 v3 v4 = some res) (hk : out = (some (.int res.1), (W1 res.2 R))) : Eval own_P 3 0 [some (.ref 0), some (.int v1), some (.int v2), some (.int v3), some (.int v4), none, none, none] [] (W1 s R) out := by
  rw [j_admit] at h
  refine Eval.aload_n rfl rfl ?_
  refine Eval.getfield rfl rfl own_g1_nproc ?_
  refine Eval.bipush (x := (8 : Int32)) rfl rfl ?_
  by_cases hc17 : s.f_nproc < (8 : Int32)
  · rw [if_pos hc17] at h
    refine Eval.icmpT (t := 12) rfl rfl (tlt hc17).1 ?_
    refine Eval.aload_n rfl rfl ?_
    refine Eval.iload_n rfl rfl ?_
    refine Eval.iconst (x := (0 : Int32)) rfl rfl ?_
    obtain ⟨p21, hq22, h⟩ := bind_some h
    refine Eval.callI (rest := []) (x := p21) (H1 := (W1 s R)) rfl rfl (ev_j_claimOk R s v1 (0 : Int32) hq22 rfl) ?_
    by_cases hc23 : p21 = (0 : Int32)
    · rw [if_pos hc23] at h
      refine Eval.ifT (t := 49) rfl rfl (teq hc23).1 ?_
      refine Eval.bipush (x := (-9 : Int32)) rfl rfl ?_
      cases h
      subst hk
      exact Eval.ret rfl rfl
    · rw [if_neg hc23] at h
      refine Eval.ifF rfl (feq hc23).1 ?_
      refine Eval.aload_n rfl rfl ?_
      refine Eval.iload_n rfl rfl ?_
      refine Eval.iconst (x := (1 : Int32)) rfl rfl ?_
      obtain ⟨p24, hq25, h⟩ := bind_some h
      refine Eval.callI (rest := []) (x := p24) (H1 := (W1 s R)) rfl rfl (ev_j_claimOk R s v2 (1 : Int32) hq25 rfl) ?_
      by_cases hc26 : p24 = (0 : Int32)
      · rw [if_pos hc26] at h
        refine Eval.ifT (t := 49) rfl rfl (teq hc26).1 ?_
        refine Eval.bipush (x := (-9 : Int32)) rfl rfl ?_
        cases h
        subst hk
        exact Eval.ret rfl rfl
      · rw [if_neg hc26] at h
        refine Eval.ifF rfl (feq hc26).1 ?_
        refine Eval.aload_n rfl rfl ?_
        refine Eval.iload_n rfl rfl ?_
        refine Eval.iconst (x := (2 : Int32)) rfl rfl ?_
        obtain ⟨p27, hq28, h⟩ := bind_some h
        refine Eval.callI (rest := []) (x := p27) (H1 := (W1 s R)) rfl rfl (ev_j_claimOk R s v3 (2 : Int32) hq28 rfl) ?_
        by_cases hc29 : p27 = (0 : Int32)
        · rw [if_pos hc29] at h
          refine Eval.ifT (t := 49) rfl rfl (teq hc29).1 ?_
          refine Eval.bipush (x := (-9 : Int32)) rfl rfl ?_
          cases h
          subst hk
          exact Eval.ret rfl rfl
        · rw [if_neg hc29] at h
          refine Eval.ifF rfl (feq hc29).1 ?_
          refine Eval.aload_n rfl rfl ?_
          refine Eval.iload rfl rfl ?_
          refine Eval.iconst (x := (3 : Int32)) rfl rfl ?_
          obtain ⟨p30, hq31, h⟩ := bind_some h
          refine Eval.callI (rest := []) (x := p30) (H1 := (W1 s R)) rfl rfl (ev_j_claimOk R s v4 (3 : Int32) hq31 rfl) ?_
          by_cases hc32 : p30 = (0 : Int32)
          · rw [if_pos hc32] at h
            refine Eval.ifF rfl (teq hc32).2 ?_
            refine Eval.bipush (x := (-9 : Int32)) rfl rfl ?_
            cases h
            subst hk
            exact Eval.ret rfl rfl
          · rw [if_neg hc32] at h
            refine Eval.ifT (t := 52) rfl rfl (feq hc32).2 ?_
            refine Eval.aload_n rfl rfl ?_
            refine Eval.getfield rfl rfl own_g1_nproc ?_
            refine Eval.istore (L' := [some (.ref 0), some (.int v1), some (.int v2), some (.int v3), some (.int v4), some (.int s.f_nproc), none, none]) rfl rfl ?_
            refine Eval.iload rfl rfl ?_
            refine Eval.iconst (x := (4 : Int32)) rfl rfl ?_
            refine Eval.imul rfl ?_
            refine Eval.istore (L' := [some (.ref 0), some (.int v1), some (.int v2), some (.int v3), some (.int v4), some (.int s.f_nproc), some (.int (s.f_nproc * (4 : Int32))), none]) rfl rfl ?_
            refine Eval.aload_n rfl rfl ?_
            refine Eval.getfield rfl rfl own_g1_maxc ?_
            refine Eval.iload rfl rfl ?_
            refine Eval.iload_n rfl rfl ?_
            obtain ⟨hb33, h⟩ := ite_some h
            refine Eval.iastore rfl rfl own_a1_maxc hb33 own_s1_maxc ?_
            refine Eval.aload_n rfl rfl ?_
            refine Eval.getfield rfl rfl own_g1_maxc ?_
            refine Eval.iload rfl rfl ?_
            refine Eval.iconst (x := (1 : Int32)) rfl rfl ?_
            refine Eval.iadd rfl ?_
            refine Eval.iload_n rfl rfl ?_
            obtain ⟨hb34, h⟩ := ite_some h
            refine Eval.iastore rfl rfl own_a1_maxc hb34 own_s1_maxc ?_
            refine Eval.aload_n rfl rfl ?_
            refine Eval.getfield rfl rfl own_g1_maxc ?_
            refine Eval.iload rfl rfl ?_
            refine Eval.iconst (x := (2 : Int32)) rfl rfl ?_
            refine Eval.iadd rfl ?_
            refine Eval.iload_n rfl rfl ?_
            obtain ⟨hb35, h⟩ := ite_some h
            refine Eval.iastore rfl rfl own_a1_maxc hb35 own_s1_maxc ?_
            refine Eval.aload_n rfl rfl ?_
            refine Eval.getfield rfl rfl own_g1_maxc ?_
            refine Eval.iload rfl rfl ?_
            refine Eval.iconst (x := (3 : Int32)) rfl rfl ?_
            refine Eval.iadd rfl ?_
            refine Eval.iload rfl rfl ?_
            obtain ⟨hb36, h⟩ := ite_some h
            refine Eval.iastore rfl rfl own_a1_maxc hb36 own_s1_maxc ?_
            refine Eval.iconst (x := (0 : Int32)) rfl rfl ?_
            refine Eval.istore (L' := [some (.ref 0), some (.int v1), some (.int v2), some (.int v3), some (.int v4), some (.int s.f_nproc), some (.int (s.f_nproc * (4 : Int32))), some (.int (0 : Int32))]) rfl rfl ?_
            refine Eval.heap own_mk1 ?_
            refine Eval.weak (L' := [some (.ref 0), none, none, none, none, some (.int s.f_nproc), some (.int (s.f_nproc * (4 : Int32))), some (.int (0 : Int32))]) ⟨_, _, rfl, Or.inr rfl, _, _, rfl, Or.inl rfl, _, _, rfl, Or.inl rfl, _, _, rfl, Or.inl rfl, _, _, rfl, Or.inl rfl, _, _, rfl, Or.inr rfl, _, _, rfl, Or.inr rfl, _, _, rfl, Or.inr rfl, rfl⟩ ?_
            obtain ⟨p39, hq40, h⟩ := bind_some h
            refine ev_j_admit_l106 R _ (Q.mk s.f_total s.f_avail (wr (wr (wr (wr s.f_maxc (s.f_nproc * (4 : Int32)) v1) ((s.f_nproc * (4 : Int32)) + (1 : Int32)) v2) ((s.f_nproc * (4 : Int32)) + (2 : Int32)) v3) ((s.f_nproc * (4 : Int32)) + (3 : Int32)) v4) s.f_alloc s.f_op s.f_kind s.f_amt s.f_len s.f_pc s.f_st s.f_queue s.f_work s.f_mark s.f_order s.f_qlen s.f_nproc s.f_cur s.f_olen) s.f_nproc (s.f_nproc * (4 : Int32)) (0 : Int32) hq40 ?_
            show Eval own_P 3 129 [some (.ref 0), none, none, none, none, some (.int p39.1), none, none] [] (W1 p39.2 R) out
            refine Eval.aload_n rfl rfl ?_
            refine Eval.getfield rfl rfl own_g1_len ?_
            refine Eval.iload rfl rfl ?_
            refine Eval.iconst (x := (0 : Int32)) rfl rfl ?_
            obtain ⟨hb42, h⟩ := ite_some h
            refine Eval.iastore rfl rfl own_a1_len hb42 own_s1_len ?_
            refine Eval.aload_n rfl rfl ?_
            refine Eval.getfield rfl rfl own_g1_pc ?_
            refine Eval.iload rfl rfl ?_
            refine Eval.iconst (x := (0 : Int32)) rfl rfl ?_
            obtain ⟨hb43, h⟩ := ite_some h
            refine Eval.iastore rfl rfl own_a1_pc hb43 own_s1_pc ?_
            refine Eval.aload_n rfl rfl ?_
            refine Eval.getfield rfl rfl own_g1_st ?_
            refine Eval.iload rfl rfl ?_
            refine Eval.iconst (x := (1 : Int32)) rfl rfl ?_
            obtain ⟨hb44, h⟩ := ite_some h
            refine Eval.iastore rfl rfl own_a1_st hb44 own_s1_st ?_
            refine Eval.aload_n rfl rfl ?_
            refine Eval.iload rfl rfl ?_
            refine Eval.iconst (x := (1 : Int32)) rfl rfl ?_
            refine Eval.iadd rfl ?_
            refine Eval.putfield rfl rfl own_p1_nproc ?_
            refine Eval.iload rfl rfl ?_
            cases h
            subst hk
            exact Eval.retH own_mk1 rfl rfl
  · rw [if_neg hc17] at h
    refine Eval.icmpF rfl (flt hc17).1 ?_
    refine Eval.bipush (x := (-8 : Int32)) rfl rfl ?_
    cases h
    subst hk
    exact Eval.ret rfl rfl
def j_known (s : Q) (v1 : Int32) : Int32 := (if v1 < (0 : Int32) then ((0 : Int32)) else (if v1 < s.f_nproc then ((1 : Int32)) else ((0 : Int32))))
set_option maxRecDepth 100000 in
theorem ev_j_known (R : AHeap) (s : Q) (v1 : Int32) {res : Int32} {out : Option Value × AHeap} (h : j_known s v1 = res) (hk : out = (some (.int res), (W1 s R))) : Eval own_P 6 0 [some (.ref 0), some (.int v1)] [] (W1 s R) out := by
  rw [j_known] at h
  refine Eval.iload_n rfl rfl ?_
  by_cases hc51 : v1 < (0 : Int32)
  · rw [if_pos hc51] at h
    refine Eval.ifT (t := 16) rfl rfl (tlt hc51).1 ?_
    refine Eval.iconst (x := (0 : Int32)) rfl rfl ?_
    subst h
    subst hk
    exact Eval.ret rfl rfl
  · rw [if_neg hc51] at h
    refine Eval.ifF rfl (flt hc51).1 ?_
    refine Eval.iload_n rfl rfl ?_
    refine Eval.aload_n rfl rfl ?_
    refine Eval.getfield rfl rfl own_g1_nproc ?_
    by_cases hc52 : v1 < s.f_nproc
    · rw [if_pos hc52] at h
      refine Eval.icmpF rfl (tlt hc52).2.1 ?_
      refine Eval.iconst (x := (1 : Int32)) rfl rfl ?_
      refine Eval.goto (t := 17) rfl rfl ?_
      subst h
      subst hk
      exact Eval.ret rfl rfl
    · rw [if_neg hc52] at h
      refine Eval.icmpT (t := 16) rfl rfl (flt hc52).2.1 ?_
      refine Eval.iconst (x := (0 : Int32)) rfl rfl ?_
      subst h
      subst hk
      exact Eval.ret rfl rfl
def j_load_b99 (s : Q) (v1 : Int32) (v2 : Int32) (v5 : Int32) (v6 : Int32) (v7 : Int32) : Option (Int32 × Q) := (if inb s.f_op.length ((v1 * (8 : Int32)) + v5) = true then (if inb s.f_kind.length ((v1 * (8 : Int32)) + v5) = true then (if inb s.f_amt.length ((v1 * (8 : Int32)) + v5) = true then (if inb s.f_len.length v1 = true then some ((0 : Int32), (Q.mk s.f_total s.f_avail s.f_maxc s.f_alloc (wr s.f_op ((v1 * (8 : Int32)) + v5) v2) (wr s.f_kind ((v1 * (8 : Int32)) + v5) v6) (wr s.f_amt ((v1 * (8 : Int32)) + v5) v7) (wr s.f_len v1 (v5 + (1 : Int32))) s.f_pc s.f_st s.f_queue s.f_work s.f_mark s.f_order s.f_qlen s.f_nproc s.f_cur s.f_olen)) else none) else none) else none) else none)
theorem ln_j_load_b99 {s : Q} {v1 : Int32} {v2 : Int32} {v5 : Int32} {v6 : Int32} {v7 : Int32} {res : Int32 × Q} (h : j_load_b99 s v1 v2 v5 v6 v7 = some res) : Q.len res.2 = Q.len s := by
  rw [j_load_b99] at h
  obtain ⟨hb61, h⟩ := ite_some h
  obtain ⟨hb62, h⟩ := ite_some h
  obtain ⟨hb63, h⟩ := ite_some h
  obtain ⟨hb64, h⟩ := ite_some h
  have hr0 := Option.some.inj h
  subst hr0
  show Q.len (Q.mk s.f_total s.f_avail s.f_maxc s.f_alloc (wr s.f_op ((v1 * (8 : Int32)) + v5) v2) (wr s.f_kind ((v1 * (8 : Int32)) + v5) v6) (wr s.f_amt ((v1 * (8 : Int32)) + v5) v7) (wr s.f_len v1 (v5 + (1 : Int32))) s.f_pc s.f_st s.f_queue s.f_work s.f_mark s.f_order s.f_qlen s.f_nproc s.f_cur s.f_olen) = _
  exact (Eq.trans (show Q.len (Q.mk s.f_total s.f_avail s.f_maxc s.f_alloc (wr s.f_op ((v1 * (8 : Int32)) + v5) v2) (wr s.f_kind ((v1 * (8 : Int32)) + v5) v6) (wr s.f_amt ((v1 * (8 : Int32)) + v5) v7) (wr s.f_len v1 (v5 + (1 : Int32))) s.f_pc s.f_st s.f_queue s.f_work s.f_mark s.f_order s.f_qlen s.f_nproc s.f_cur s.f_olen) = Q.len s from own_lenmk.trans (by first | (simp only [len_wr, len_wrL] <;> rfl) | rfl)) rfl)
set_option maxRecDepth 100000 in
theorem ev_j_load_b99 (R : AHeap) (s : Q) (v1 : Int32) (v2 : Int32) (v5 : Int32) (v6 : Int32) (v7 : Int32) {res : Int32 × Q} {out : Option Value × AHeap} (h : j_load_b99 s v1 v2 v5 v6 v7 = some res) (hk : out = (some (.int res.1), (W1 res.2 R))) : Eval own_P 5 99 [some (.ref 0), some (.int v1), some (.int v2), none, none, some (.int v5), some (.int v6), some (.int v7), none] [] (W1 s R) out := by
  rw [j_load_b99] at h
  refine Eval.iload_n rfl rfl ?_
  refine Eval.bipush (x := (8 : Int32)) rfl rfl ?_
  refine Eval.imul rfl ?_
  refine Eval.iload rfl rfl ?_
  refine Eval.iadd rfl ?_
  refine Eval.istore (L' := [some (.ref 0), some (.int v1), some (.int v2), none, none, some (.int v5), some (.int v6), some (.int v7), some (.int ((v1 * (8 : Int32)) + v5))]) rfl rfl ?_
  refine Eval.aload_n rfl rfl ?_
  refine Eval.getfield rfl rfl own_g1_op ?_
  refine Eval.iload rfl rfl ?_
  refine Eval.iload_n rfl rfl ?_
  obtain ⟨hb61, h⟩ := ite_some h
  refine Eval.iastore rfl rfl own_a1_op hb61 own_s1_op ?_
  refine Eval.aload_n rfl rfl ?_
  refine Eval.getfield rfl rfl own_g1_kind ?_
  refine Eval.iload rfl rfl ?_
  refine Eval.iload rfl rfl ?_
  obtain ⟨hb62, h⟩ := ite_some h
  refine Eval.iastore rfl rfl own_a1_kind hb62 own_s1_kind ?_
  refine Eval.aload_n rfl rfl ?_
  refine Eval.getfield rfl rfl own_g1_amt ?_
  refine Eval.iload rfl rfl ?_
  refine Eval.iload rfl rfl ?_
  obtain ⟨hb63, h⟩ := ite_some h
  refine Eval.iastore rfl rfl own_a1_amt hb63 own_s1_amt ?_
  refine Eval.aload_n rfl rfl ?_
  refine Eval.getfield rfl rfl own_g1_len ?_
  refine Eval.iload_n rfl rfl ?_
  refine Eval.iload rfl rfl ?_
  refine Eval.iconst (x := (1 : Int32)) rfl rfl ?_
  refine Eval.iadd rfl ?_
  obtain ⟨hb64, h⟩ := ite_some h
  refine Eval.iastore rfl rfl own_a1_len hb64 own_s1_len ?_
  refine Eval.iconst (x := (0 : Int32)) rfl rfl ?_
  cases h
  subst hk
  exact Eval.retH own_mk1 rfl rfl
def j_validKind (v1 : Int32) : Int32 := (if v1 < (0 : Int32) then ((0 : Int32)) else (if (3 : Int32) < v1 then ((0 : Int32)) else ((1 : Int32))))
set_option maxRecDepth 100000 in
theorem ev_j_validKind (H : AHeap) (a : Nat) (v1 : Int32) {res : Int32} {out : Option Value × AHeap} (h : j_validKind v1 = res) (hk : out = (some (.int res), H)) : Eval own_P 7 0 [some (.ref a), some (.int v1)] [] H out := by
  rw [j_validKind] at h
  refine Eval.iload_n rfl rfl ?_
  by_cases hc65 : v1 < (0 : Int32)
  · rw [if_pos hc65] at h
    refine Eval.ifT (t := 13) rfl rfl (tlt hc65).1 ?_
    refine Eval.iconst (x := (0 : Int32)) rfl rfl ?_
    subst h
    subst hk
    exact Eval.ret rfl rfl
  · rw [if_neg hc65] at h
    refine Eval.ifF rfl (flt hc65).1 ?_
    refine Eval.iload_n rfl rfl ?_
    refine Eval.iconst (x := (3 : Int32)) rfl rfl ?_
    by_cases hc66 : (3 : Int32) < v1
    · rw [if_pos hc66] at h
      refine Eval.icmpT (t := 13) rfl rfl (tlt hc66).2.2.1 ?_
      refine Eval.iconst (x := (0 : Int32)) rfl rfl ?_
      subst h
      subst hk
      exact Eval.ret rfl rfl
    · rw [if_neg hc66] at h
      refine Eval.icmpF rfl (flt hc66).2.2.1 ?_
      refine Eval.iconst (x := (1 : Int32)) rfl rfl ?_
      refine Eval.goto (t := 14) rfl rfl ?_
      subst h
      subst hk
      exact Eval.ret rfl rfl
def j_load (s : Q) (v1 : Int32) (v2 : Int32) (v3 : Int32) (v4 : Int32) : Option (Int32 × Q) := (if (j_known s v1) = (0 : Int32) then some ((-1 : Int32), s) else (if inb s.f_st.length v1 = true then (if (rd s.f_st v1) = (3 : Int32) then some ((-3 : Int32), s) else (if inb s.f_len.length v1 = true then (if (rd s.f_len v1) < (8 : Int32) then (if v2 < (1 : Int32) then some ((-5 : Int32), s) else (if (3 : Int32) < v2 then some ((-5 : Int32), s) else (if v2 = (3 : Int32) then (j_load_b99 s v1 v2 (rd s.f_len v1) (0 : Int32) (0 : Int32)) else (if (j_validKind v3) = (0 : Int32) then some ((-6 : Int32), s) else (if v4 < (1 : Int32) then some ((-7 : Int32), s) else (if (15 : Int32) < v4 then some ((-7 : Int32), s) else (j_load_b99 s v1 v2 (rd s.f_len v1) v3 v4))))))) else some ((-4 : Int32), s)) else none)) else none))
theorem ln_j_load {s : Q} {v1 : Int32} {v2 : Int32} {v3 : Int32} {v4 : Int32} {res : Int32 × Q} (h : j_load s v1 v2 v3 v4 = some res) : Q.len res.2 = Q.len s := by
  rw [j_load] at h
  by_cases hc53 : (j_known s v1) = (0 : Int32)
  · rw [if_pos hc53] at h
    have hr0 := Option.some.inj h
    subst hr0
    show Q.len s = _
    exact rfl
  · rw [if_neg hc53] at h
    obtain ⟨hb54, h⟩ := ite_some h
    by_cases hc55 : (rd s.f_st v1) = (3 : Int32)
    · rw [if_pos hc55] at h
      have hr0 := Option.some.inj h
      subst hr0
      show Q.len s = _
      exact rfl
    · rw [if_neg hc55] at h
      obtain ⟨hb56, h⟩ := ite_some h
      by_cases hc57 : (rd s.f_len v1) < (8 : Int32)
      · rw [if_pos hc57] at h
        by_cases hc58 : v2 < (1 : Int32)
        · rw [if_pos hc58] at h
          have hr0 := Option.some.inj h
          subst hr0
          show Q.len s = _
          exact rfl
        · rw [if_neg hc58] at h
          by_cases hc59 : (3 : Int32) < v2
          · rw [if_pos hc59] at h
            have hr0 := Option.some.inj h
            subst hr0
            show Q.len s = _
            exact rfl
          · rw [if_neg hc59] at h
            by_cases hc60 : v2 = (3 : Int32)
            · rw [if_pos hc60] at h
              exact Eq.trans (ln_j_load_b99 h) rfl
            · rw [if_neg hc60] at h
              by_cases hc67 : (j_validKind v3) = (0 : Int32)
              · rw [if_pos hc67] at h
                have hr0 := Option.some.inj h
                subst hr0
                show Q.len s = _
                exact rfl
              · rw [if_neg hc67] at h
                by_cases hc68 : v4 < (1 : Int32)
                · rw [if_pos hc68] at h
                  have hr0 := Option.some.inj h
                  subst hr0
                  show Q.len s = _
                  exact rfl
                · rw [if_neg hc68] at h
                  by_cases hc69 : (15 : Int32) < v4
                  · rw [if_pos hc69] at h
                    have hr0 := Option.some.inj h
                    subst hr0
                    show Q.len s = _
                    exact rfl
                  · rw [if_neg hc69] at h
                    exact Eq.trans (ln_j_load_b99 h) rfl
      · rw [if_neg hc57] at h
        have hr0 := Option.some.inj h
        subst hr0
        show Q.len s = _
        exact rfl
set_option maxRecDepth 100000 in
theorem ev_j_load (R : AHeap) (s : Q) (v1 : Int32) (v2 : Int32) (v3 : Int32) (v4 : Int32) {res : Int32 × Q} {out : Option Value × AHeap} (h : j_load s v1 v2 v3 v4 = some res) (hk : out = (some (.int res.1), (W1 res.2 R))) : Eval own_P 5 0 [some (.ref 0), some (.int v1), some (.int v2), some (.int v3), some (.int v4), none, none, none, none] [] (W1 s R) out := by
  rw [j_load] at h
  refine Eval.aload_n rfl rfl ?_
  refine Eval.iload_n rfl rfl ?_
  refine Eval.callI (rest := []) (x := (j_known s v1)) (H1 := (W1 s R)) rfl rfl (ev_j_known R s v1 rfl rfl) ?_
  by_cases hc53 : (j_known s v1) = (0 : Int32)
  · rw [if_pos hc53] at h
    refine Eval.ifF rfl (teq hc53).2 ?_
    refine Eval.iconst (x := (-1 : Int32)) rfl rfl ?_
    cases h
    subst hk
    exact Eval.ret rfl rfl
  · rw [if_neg hc53] at h
    refine Eval.ifT (t := 10) rfl rfl (feq hc53).2 ?_
    refine Eval.aload_n rfl rfl ?_
    refine Eval.getfield rfl rfl own_g1_st ?_
    refine Eval.iload_n rfl rfl ?_
    obtain ⟨hb54, h⟩ := ite_some h
    refine Eval.iaload rfl own_a1_st hb54 ?_
    refine Eval.iconst (x := (3 : Int32)) rfl rfl ?_
    by_cases hc55 : (rd s.f_st v1) = (3 : Int32)
    · rw [if_pos hc55] at h
      refine Eval.icmpF rfl (teq hc55).2 ?_
      refine Eval.bipush (x := (-3 : Int32)) rfl rfl ?_
      cases h
      subst hk
      exact Eval.ret rfl rfl
    · rw [if_neg hc55] at h
      refine Eval.icmpT (t := 23) rfl rfl (feq hc55).2 ?_
      refine Eval.aload_n rfl rfl ?_
      refine Eval.getfield rfl rfl own_g1_len ?_
      refine Eval.iload_n rfl rfl ?_
      obtain ⟨hb56, h⟩ := ite_some h
      refine Eval.iaload rfl own_a1_len hb56 ?_
      refine Eval.istore (L' := [some (.ref 0), some (.int v1), some (.int v2), some (.int v3), some (.int v4), some (.int (rd s.f_len v1)), none, none, none]) rfl rfl ?_
      refine Eval.iload rfl rfl ?_
      refine Eval.bipush (x := (8 : Int32)) rfl rfl ?_
      by_cases hc57 : (rd s.f_len v1) < (8 : Int32)
      · rw [if_pos hc57] at h
        refine Eval.icmpT (t := 41) rfl rfl (tlt hc57).1 ?_
        refine Eval.iload_n rfl rfl ?_
        refine Eval.iconst (x := (1 : Int32)) rfl rfl ?_
        by_cases hc58 : v2 < (1 : Int32)
        · rw [if_pos hc58] at h
          refine Eval.icmpT (t := 51) rfl rfl (tlt hc58).1 ?_
          refine Eval.bipush (x := (-5 : Int32)) rfl rfl ?_
          cases h
          subst hk
          exact Eval.ret rfl rfl
        · rw [if_neg hc58] at h
          refine Eval.icmpF rfl (flt hc58).1 ?_
          refine Eval.iload_n rfl rfl ?_
          refine Eval.iconst (x := (3 : Int32)) rfl rfl ?_
          by_cases hc59 : (3 : Int32) < v2
          · rw [if_pos hc59] at h
            refine Eval.icmpF rfl (tlt hc59).2.2.2 ?_
            refine Eval.bipush (x := (-5 : Int32)) rfl rfl ?_
            cases h
            subst hk
            exact Eval.ret rfl rfl
          · rw [if_neg hc59] at h
            refine Eval.icmpT (t := 54) rfl rfl (flt hc59).2.2.2 ?_
            refine Eval.iconst (x := (0 : Int32)) rfl rfl ?_
            refine Eval.istore (L' := [some (.ref 0), some (.int v1), some (.int v2), some (.int v3), some (.int v4), some (.int (rd s.f_len v1)), some (.int (0 : Int32)), none, none]) rfl rfl ?_
            refine Eval.iconst (x := (0 : Int32)) rfl rfl ?_
            refine Eval.istore (L' := [some (.ref 0), some (.int v1), some (.int v2), some (.int v3), some (.int v4), some (.int (rd s.f_len v1)), some (.int (0 : Int32)), some (.int (0 : Int32)), none]) rfl rfl ?_
            refine Eval.iload_n rfl rfl ?_
            refine Eval.iconst (x := (3 : Int32)) rfl rfl ?_
            by_cases hc60 : v2 = (3 : Int32)
            · rw [if_pos hc60] at h
              refine Eval.icmpT (t := 99) rfl rfl (teq hc60).1 ?_
              refine Eval.weak (L' := [some (.ref 0), some (.int v1), some (.int v2), none, none, some (.int (rd s.f_len v1)), some (.int (0 : Int32)), some (.int (0 : Int32)), none]) ⟨_, _, rfl, Or.inr rfl, _, _, rfl, Or.inr rfl, _, _, rfl, Or.inr rfl, _, _, rfl, Or.inl rfl, _, _, rfl, Or.inl rfl, _, _, rfl, Or.inr rfl, _, _, rfl, Or.inr rfl, _, _, rfl, Or.inr rfl, _, _, rfl, Or.inl rfl, rfl⟩ ?_
              exact ev_j_load_b99 R s v1 v2 (rd s.f_len v1) (0 : Int32) (0 : Int32) h hk
            · rw [if_neg hc60] at h
              refine Eval.icmpF rfl (feq hc60).1 ?_
              refine Eval.aload_n rfl rfl ?_
              refine Eval.iload_n rfl rfl ?_
              refine Eval.callI (rest := []) (x := (j_validKind v3)) (H1 := (W1 s R)) rfl rfl (ev_j_validKind (W1 s R) 0 v3 rfl rfl) ?_
              by_cases hc67 : (j_validKind v3) = (0 : Int32)
              · rw [if_pos hc67] at h
                refine Eval.ifF rfl (teq hc67).2 ?_
                refine Eval.bipush (x := (-6 : Int32)) rfl rfl ?_
                cases h
                subst hk
                exact Eval.ret rfl rfl
              · rw [if_neg hc67] at h
                refine Eval.ifT (t := 76) rfl rfl (feq hc67).2 ?_
                refine Eval.iload rfl rfl ?_
                refine Eval.iconst (x := (1 : Int32)) rfl rfl ?_
                by_cases hc68 : v4 < (1 : Int32)
                · rw [if_pos hc68] at h
                  refine Eval.icmpT (t := 89) rfl rfl (tlt hc68).1 ?_
                  refine Eval.bipush (x := (-7 : Int32)) rfl rfl ?_
                  cases h
                  subst hk
                  exact Eval.ret rfl rfl
                · rw [if_neg hc68] at h
                  refine Eval.icmpF rfl (flt hc68).1 ?_
                  refine Eval.iload rfl rfl ?_
                  refine Eval.bipush (x := (15 : Int32)) rfl rfl ?_
                  by_cases hc69 : (15 : Int32) < v4
                  · rw [if_pos hc69] at h
                    refine Eval.icmpF rfl (tlt hc69).2.2.2 ?_
                    refine Eval.bipush (x := (-7 : Int32)) rfl rfl ?_
                    cases h
                    subst hk
                    exact Eval.ret rfl rfl
                  · rw [if_neg hc69] at h
                    refine Eval.icmpT (t := 92) rfl rfl (flt hc69).2.2.2 ?_
                    refine Eval.iload_n rfl rfl ?_
                    refine Eval.istore (L' := [some (.ref 0), some (.int v1), some (.int v2), some (.int v3), some (.int v4), some (.int (rd s.f_len v1)), some (.int v3), some (.int (0 : Int32)), none]) rfl rfl ?_
                    refine Eval.iload rfl rfl ?_
                    refine Eval.istore (L' := [some (.ref 0), some (.int v1), some (.int v2), some (.int v3), some (.int v4), some (.int (rd s.f_len v1)), some (.int v3), some (.int v4), none]) rfl rfl ?_
                    refine Eval.weak (L' := [some (.ref 0), some (.int v1), some (.int v2), none, none, some (.int (rd s.f_len v1)), some (.int v3), some (.int v4), none]) ⟨_, _, rfl, Or.inr rfl, _, _, rfl, Or.inr rfl, _, _, rfl, Or.inr rfl, _, _, rfl, Or.inl rfl, _, _, rfl, Or.inl rfl, _, _, rfl, Or.inr rfl, _, _, rfl, Or.inr rfl, _, _, rfl, Or.inr rfl, _, _, rfl, Or.inl rfl, rfl⟩ ?_
                    exact ev_j_load_b99 R s v1 v2 (rd s.f_len v1) v3 v4 h hk
      · rw [if_neg hc57] at h
        refine Eval.icmpF rfl (flt hc57).1 ?_
        refine Eval.bipush (x := (-4 : Int32)) rfl rfl ?_
        cases h
        subst hk
        exact Eval.ret rfl rfl
abbrev j_finish_l6_K (R : AHeap) (res : Int32 × Q) (out : Option Value × AHeap) : Prop := Eval own_P 27 43 [some (.ref 0), some (.int res.1), none, none] [] (W1 res.2 R) out

abbrev j_finish_l6_N (s : Q) (res : Int32 × Q) : Prop := Q.len res.2 = Q.len s
def j_finish_l6 : Nat → Q → Int32 → Int32 → Int32 → Option (Int32 × Q)
  | 0, _, _, _, _ => none
  | n + 1, s, v1, v2, v3 => (if v3 < (4 : Int32) then (if inb s.f_avail.length v3 = true then (if inb s.f_alloc.length (v2 + v3) = true then (if inb s.f_avail.length v3 = true then (if inb s.f_alloc.length (v2 + v3) = true then (j_finish_l6 n (Q.mk s.f_total (wr s.f_avail v3 ((rd s.f_avail v3) + (rd s.f_alloc (v2 + v3)))) s.f_maxc (wr s.f_alloc (v2 + v3) (0 : Int32)) s.f_op s.f_kind s.f_amt s.f_len s.f_pc s.f_st s.f_queue s.f_work s.f_mark s.f_order s.f_qlen s.f_nproc s.f_cur s.f_olen) v1 v2 (v3 + (1 : Int32))) else none) else none) else none) else none) else some (v1, s))
theorem ln_j_finish_l6 : ∀ {n : Nat} {s : Q} {v1 : Int32} {v2 : Int32} {v3 : Int32} {res : Int32 × Q}, j_finish_l6 n s v1 v2 v3 = some res → j_finish_l6_N s res := by
  intro n
  induction n with
  | zero => intro _ _ _ _ res h; cases h
  | succ n hrec0 =>
    have hrec : ∀ (s : Q) (v1 : Int32) (v2 : Int32) (v3 : Int32) {res : Int32 × Q}, j_finish_l6 n s v1 v2 v3 = some res → j_finish_l6_N s res := by intros; apply hrec0; assumption
    intro s v1 v2 v3 res h
    rw [j_finish_l6] at h
    by_cases hc95 : v3 < (4 : Int32)
    · rw [if_pos hc95] at h
      obtain ⟨hb96, h⟩ := ite_some h
      obtain ⟨hb97, h⟩ := ite_some h
      obtain ⟨hb98, h⟩ := ite_some h
      obtain ⟨hb99, h⟩ := ite_some h
      exact (hrec _ _ _ _ h).trans (Eq.trans (show Q.len (Q.mk s.f_total (wr s.f_avail v3 ((rd s.f_avail v3) + (rd s.f_alloc (v2 + v3)))) s.f_maxc (wr s.f_alloc (v2 + v3) (0 : Int32)) s.f_op s.f_kind s.f_amt s.f_len s.f_pc s.f_st s.f_queue s.f_work s.f_mark s.f_order s.f_qlen s.f_nproc s.f_cur s.f_olen) = Q.len s from own_lenmk.trans (by first | (simp only [len_wr, len_wrL] <;> rfl) | rfl)) rfl)
    · rw [if_neg hc95] at h
      have hr0 := Option.some.inj h
      subst hr0
      show Q.len s = _
      exact rfl
set_option maxRecDepth 100000 in
theorem ev_j_finish_l6 (R : AHeap) : ∀ (n : Nat) (s : Q) (v1 : Int32) (v2 : Int32) (v3 : Int32) {res : Int32 × Q} {out : Option Value × AHeap}, j_finish_l6 n s v1 v2 v3 = some res → j_finish_l6_K R res out → Eval own_P 27 6 [some (.ref 0), some (.int v1), some (.int v2), some (.int v3)] [] (W1 s R) out := by
  intro n
  induction n with
  | zero => intro _ _ _ _ res out h hk; cases h
  | succ n hrec =>
    intro s v1 v2 v3 res out h hk
    rw [j_finish_l6] at h
    refine Eval.iload_n rfl rfl ?_
    refine Eval.iconst (x := (4 : Int32)) rfl rfl ?_
    by_cases hc95 : v3 < (4 : Int32)
    · rw [if_pos hc95] at h
      refine Eval.icmpF rfl (tlt hc95).2.1 ?_
      refine Eval.aload_n rfl rfl ?_
      refine Eval.getfield rfl rfl own_g1_avail ?_
      refine Eval.iload_n rfl rfl ?_
      refine Eval.dup2 rfl ?_
      obtain ⟨hb96, h⟩ := ite_some h
      refine Eval.iaload rfl own_a1_avail hb96 ?_
      refine Eval.aload_n rfl rfl ?_
      refine Eval.getfield rfl rfl own_g1_alloc ?_
      refine Eval.iload_n rfl rfl ?_
      refine Eval.iload_n rfl rfl ?_
      refine Eval.iadd rfl ?_
      obtain ⟨hb97, h⟩ := ite_some h
      refine Eval.iaload rfl own_a1_alloc hb97 ?_
      refine Eval.iadd rfl ?_
      obtain ⟨hb98, h⟩ := ite_some h
      refine Eval.iastore rfl rfl own_a1_avail hb98 own_s1_avail ?_
      refine Eval.aload_n rfl rfl ?_
      refine Eval.getfield rfl rfl own_g1_alloc ?_
      refine Eval.iload_n rfl rfl ?_
      refine Eval.iload_n rfl rfl ?_
      refine Eval.iadd rfl ?_
      refine Eval.iconst (x := (0 : Int32)) rfl rfl ?_
      obtain ⟨hb99, h⟩ := ite_some h
      refine Eval.iastore rfl rfl own_a1_alloc hb99 own_s1_alloc ?_
      refine Eval.iinc (L' := [some (.ref 0), some (.int v1), some (.int v2), some (.int (v3 + (1 : Int32)))]) rfl rfl rfl ?_
      refine Eval.goto (t := 6) rfl rfl ?_
      refine Eval.heap own_mk1 ?_
      exact hrec _ _ _ _ h hk
    · rw [if_neg hc95] at h
      refine Eval.icmpT (t := 43) rfl rfl (flt hc95).2.1 ?_
      cases h
      refine Eval.weak (L' := [some (.ref 0), some (.int v1), none, none]) ⟨_, _, rfl, Or.inr rfl, _, _, rfl, Or.inr rfl, _, _, rfl, Or.inl rfl, _, _, rfl, Or.inl rfl, rfl⟩ ?_
      exact hk
abbrev j_retryPass_l18_K (R : AHeap) (res : Int32 × Q) (out : Option Value × AHeap) : Prop := Eval own_P 23 57 [some (.ref 0), none, some (.int res.1), none, none] [] (W1 res.2 R) out

abbrev j_retryPass_l18_N (s : Q) (res : Int32 × Q) : Prop := Q.len res.2 = Q.len s
abbrev j_computeSafety_l2_K (R : AHeap) (res : Q) (out : Option Value × AHeap) : Prop := Eval own_P 11 25 [some (.ref 0), none, none, none, none, none] [] (W1 res R) out

abbrev j_computeSafety_l2_N (s : Q) (res : Q) : Prop := Q.len res = Q.len s
def j_computeSafety_l2 : Nat → Q → Int32 → Option (Q)
  | 0, _, _ => none
  | n + 1, s, v1 => (if v1 < (4 : Int32) then (if inb s.f_avail.length v1 = true then (if inb s.f_work.length v1 = true then (j_computeSafety_l2 n (Q.mk s.f_total s.f_avail s.f_maxc s.f_alloc s.f_op s.f_kind s.f_amt s.f_len s.f_pc s.f_st s.f_queue (wr s.f_work v1 (rd s.f_avail v1)) s.f_mark s.f_order s.f_qlen s.f_nproc s.f_cur s.f_olen) (v1 + (1 : Int32))) else none) else none) else some (s))
theorem ln_j_computeSafety_l2 : ∀ {n : Nat} {s : Q} {v1 : Int32} {res : Q}, j_computeSafety_l2 n s v1 = some res → j_computeSafety_l2_N s res := by
  intro n
  induction n with
  | zero => intro _ _ res h; cases h
  | succ n hrec0 =>
    have hrec : ∀ (s : Q) (v1 : Int32) {res : Q}, j_computeSafety_l2 n s v1 = some res → j_computeSafety_l2_N s res := by intros; apply hrec0; assumption
    intro s v1 res h
    rw [j_computeSafety_l2] at h
    by_cases hc126 : v1 < (4 : Int32)
    · rw [if_pos hc126] at h
      obtain ⟨hb127, h⟩ := ite_some h
      obtain ⟨hb128, h⟩ := ite_some h
      exact (hrec _ _ h).trans (Eq.trans (show Q.len (Q.mk s.f_total s.f_avail s.f_maxc s.f_alloc s.f_op s.f_kind s.f_amt s.f_len s.f_pc s.f_st s.f_queue (wr s.f_work v1 (rd s.f_avail v1)) s.f_mark s.f_order s.f_qlen s.f_nproc s.f_cur s.f_olen) = Q.len s from own_lenmk.trans (by first | (simp only [len_wr, len_wrL] <;> rfl) | rfl)) rfl)
    · rw [if_neg hc126] at h
      have hr0 := Option.some.inj h
      subst hr0
      show Q.len s = _
      exact rfl
set_option maxRecDepth 100000 in
theorem ev_j_computeSafety_l2 (R : AHeap) : ∀ (n : Nat) (s : Q) (v1 : Int32) {res : Q} {out : Option Value × AHeap}, j_computeSafety_l2 n s v1 = some res → j_computeSafety_l2_K R res out → Eval own_P 11 2 [some (.ref 0), some (.int v1), none, none, none, none] [] (W1 s R) out := by
  intro n
  induction n with
  | zero => intro _ _ res out h hk; cases h
  | succ n hrec =>
    intro s v1 res out h hk
    rw [j_computeSafety_l2] at h
    refine Eval.iload_n rfl rfl ?_
    refine Eval.iconst (x := (4 : Int32)) rfl rfl ?_
    by_cases hc126 : v1 < (4 : Int32)
    · rw [if_pos hc126] at h
      refine Eval.icmpF rfl (tlt hc126).2.1 ?_
      refine Eval.aload_n rfl rfl ?_
      refine Eval.getfield rfl rfl own_g1_work ?_
      refine Eval.iload_n rfl rfl ?_
      refine Eval.aload_n rfl rfl ?_
      refine Eval.getfield rfl rfl own_g1_avail ?_
      refine Eval.iload_n rfl rfl ?_
      obtain ⟨hb127, h⟩ := ite_some h
      refine Eval.iaload rfl own_a1_avail hb127 ?_
      obtain ⟨hb128, h⟩ := ite_some h
      refine Eval.iastore rfl rfl own_a1_work hb128 own_s1_work ?_
      refine Eval.iinc (L' := [some (.ref 0), some (.int (v1 + (1 : Int32))), none, none, none, none]) rfl rfl rfl ?_
      refine Eval.goto (t := 2) rfl rfl ?_
      refine Eval.heap own_mk1 ?_
      exact hrec _ _ h hk
    · rw [if_neg hc126] at h
      refine Eval.icmpT (t := 25) rfl rfl (flt hc126).2.1 ?_
      cases h
      refine Eval.weak (L' := [some (.ref 0), none, none, none, none, none]) ⟨_, _, rfl, Or.inr rfl, _, _, rfl, Or.inl rfl, _, _, rfl, Or.inl rfl, _, _, rfl, Or.inl rfl, _, _, rfl, Or.inl rfl, _, _, rfl, Or.inl rfl, rfl⟩ ?_
      exact hk
abbrev j_computeSafety_l29_K (R : AHeap) (res : Int32 × Q) (out : Option Value × AHeap) : Prop := Eval own_P 11 67 [some (.ref 0), some (.int res.1), none, none, none, none] [] (W1 res.2 R) out

abbrev j_computeSafety_l29_N (s : Q) (res : Int32 × Q) : Prop := Q.len res.2 = Q.len s
def j_active_b20 (s : Q) : Option (Int32) := some ((1 : Int32))
set_option maxRecDepth 100000 in
theorem ev_j_active_b20 (R : AHeap) (s : Q) {res : Int32} {out : Option Value × AHeap} (h : j_active_b20 s = some res) (hk : out = (some (.int res), (W1 s R))) : Eval own_P 12 20 [none, none] [] (W1 s R) out := by
  rw [j_active_b20] at h
  refine Eval.iconst (x := (1 : Int32)) rfl rfl ?_
  refine Eval.goto (t := 25) rfl rfl ?_
  cases h
  subst hk
  exact Eval.ret rfl rfl
def j_active (s : Q) (v1 : Int32) : Option (Int32) := (if inb s.f_st.length v1 = true then (if (rd s.f_st v1) = (1 : Int32) then (j_active_b20 s) else (if inb s.f_st.length v1 = true then (if (rd s.f_st v1) = (2 : Int32) then (j_active_b20 s) else some ((0 : Int32))) else none)) else none)
set_option maxRecDepth 100000 in
theorem ev_j_active (R : AHeap) (s : Q) (v1 : Int32) {res : Int32} {out : Option Value × AHeap} (h : j_active s v1 = some res) (hk : out = (some (.int res), (W1 s R))) : Eval own_P 12 0 [some (.ref 0), some (.int v1)] [] (W1 s R) out := by
  rw [j_active] at h
  refine Eval.aload_n rfl rfl ?_
  refine Eval.getfield rfl rfl own_g1_st ?_
  refine Eval.iload_n rfl rfl ?_
  obtain ⟨hb136, h⟩ := ite_some h
  refine Eval.iaload rfl own_a1_st hb136 ?_
  refine Eval.iconst (x := (1 : Int32)) rfl rfl ?_
  by_cases hc137 : (rd s.f_st v1) = (1 : Int32)
  · rw [if_pos hc137] at h
    refine Eval.icmpT (t := 20) rfl rfl (teq hc137).1 ?_
    refine Eval.weak (L' := [none, none]) ⟨_, _, rfl, Or.inl rfl, _, _, rfl, Or.inl rfl, rfl⟩ ?_
    exact ev_j_active_b20 R s h hk
  · rw [if_neg hc137] at h
    refine Eval.icmpF rfl (feq hc137).1 ?_
    refine Eval.aload_n rfl rfl ?_
    refine Eval.getfield rfl rfl own_g1_st ?_
    refine Eval.iload_n rfl rfl ?_
    obtain ⟨hb138, h⟩ := ite_some h
    refine Eval.iaload rfl own_a1_st hb138 ?_
    refine Eval.iconst (x := (2 : Int32)) rfl rfl ?_
    by_cases hc139 : (rd s.f_st v1) = (2 : Int32)
    · rw [if_pos hc139] at h
      refine Eval.icmpF rfl (teq hc139).2 ?_
      refine Eval.weak (L' := [none, none]) ⟨_, _, rfl, Or.inl rfl, _, _, rfl, Or.inl rfl, rfl⟩ ?_
      exact ev_j_active_b20 R s h hk
    · rw [if_neg hc139] at h
      refine Eval.icmpT (t := 24) rfl rfl (feq hc139).2 ?_
      refine Eval.iconst (x := (0 : Int32)) rfl rfl ?_
      cases h
      subst hk
      exact Eval.ret rfl rfl
def j_computeSafety_b61 (go_ : Q → Int32 → Int32 → Option (Int32 × Q)) (s : Q) (v1 : Int32) (v2 : Int32) : Option (Int32 × Q) := (go_ s v1 (v2 + (1 : Int32)))
theorem ln_j_computeSafety_b61 {go_ : Q → Int32 → Int32 → Option (Int32 × Q)} (hrec : ∀ (s : Q) (v1 : Int32) (v2 : Int32) {res : Int32 × Q}, go_ s v1 v2 = some res → j_computeSafety_l29_N s res) {s : Q} {v1 : Int32} {v2 : Int32} {res : Int32 × Q} (h : j_computeSafety_b61 go_ s v1 v2 = some res) : j_computeSafety_l29_N s res := by
  rw [j_computeSafety_b61] at h
  exact (hrec _ _ _ h).trans rfl
set_option maxRecDepth 100000 in
theorem ev_j_computeSafety_b61 (R : AHeap) (go_ : Q → Int32 → Int32 → Option (Int32 × Q)) (hrec : ∀ (s : Q) (v1 : Int32) (v2 : Int32) {res : Int32 × Q} {out : Option Value × AHeap}, go_ s v1 v2 = some res → j_computeSafety_l29_K R res out → Eval own_P 11 29 [some (.ref 0), some (.int v1), some (.int v2), none, none, none] [] (W1 s R) out) (s : Q) (v1 : Int32) (v2 : Int32) {res : Int32 × Q} {out : Option Value × AHeap} (h : j_computeSafety_b61 go_ s v1 v2 = some res) (hk : j_computeSafety_l29_K R res out) : Eval own_P 11 61 [some (.ref 0), some (.int v1), some (.int v2), none, none, none] [] (W1 s R) out := by
  rw [j_computeSafety_b61] at h
  refine Eval.iinc (L' := [some (.ref 0), some (.int v1), some (.int (v2 + (1 : Int32))), none, none, none]) rfl rfl rfl ?_
  refine Eval.goto (t := 29) rfl rfl ?_
  exact hrec _ _ _ h hk
def j_computeSafety_l29 : Nat → Q → Int32 → Int32 → Option (Int32 × Q)
  | 0, _, _, _ => none
  | n + 1, s, v1, v2 => (if v2 < (8 : Int32) then (if inb s.f_mark.length v2 = true then (if v2 < s.f_nproc then ((j_active (Q.mk s.f_total s.f_avail s.f_maxc s.f_alloc s.f_op s.f_kind s.f_amt s.f_len s.f_pc s.f_st s.f_queue s.f_work (wr s.f_mark v2 (0 : Int32)) s.f_order s.f_qlen s.f_nproc s.f_cur s.f_olen) v2).bind fun p140 => (j_computeSafety_b61 (j_computeSafety_l29 n) (Q.mk s.f_total s.f_avail s.f_maxc s.f_alloc s.f_op s.f_kind s.f_amt s.f_len s.f_pc s.f_st s.f_queue s.f_work (wr s.f_mark v2 (0 : Int32)) s.f_order s.f_qlen s.f_nproc s.f_cur s.f_olen) (if p140 = (0 : Int32) then v1 else (v1 + (1 : Int32))) v2)) else (j_computeSafety_b61 (j_computeSafety_l29 n) (Q.mk s.f_total s.f_avail s.f_maxc s.f_alloc s.f_op s.f_kind s.f_amt s.f_len s.f_pc s.f_st s.f_queue s.f_work (wr s.f_mark v2 (0 : Int32)) s.f_order s.f_qlen s.f_nproc s.f_cur s.f_olen) v1 v2)) else none) else some (v1, s))
theorem ln_j_computeSafety_l29 : ∀ {n : Nat} {s : Q} {v1 : Int32} {v2 : Int32} {res : Int32 × Q}, j_computeSafety_l29 n s v1 v2 = some res → j_computeSafety_l29_N s res := by
  intro n
  induction n with
  | zero => intro _ _ _ res h; cases h
  | succ n hrec0 =>
    have hrec : ∀ (s : Q) (v1 : Int32) (v2 : Int32) {res : Int32 × Q}, j_computeSafety_l29 n s v1 v2 = some res → j_computeSafety_l29_N s res := by intros; apply hrec0; assumption
    intro s v1 v2 res h
    rw [j_computeSafety_l29] at h
    by_cases hc132 : v2 < (8 : Int32)
    · rw [if_pos hc132] at h
      obtain ⟨hb133, h⟩ := ite_some h
      by_cases hc135 : v2 < s.f_nproc
      · rw [if_pos hc135] at h
        obtain ⟨p140, hq141, h⟩ := bind_some h
        exact Eq.trans (ln_j_computeSafety_b61 hrec h) (Eq.trans (show Q.len (Q.mk s.f_total s.f_avail s.f_maxc s.f_alloc s.f_op s.f_kind s.f_amt s.f_len s.f_pc s.f_st s.f_queue s.f_work (wr s.f_mark v2 (0 : Int32)) s.f_order s.f_qlen s.f_nproc s.f_cur s.f_olen) = Q.len s from own_lenmk.trans (by first | (simp only [len_wr, len_wrL] <;> rfl) | rfl)) rfl)
      · rw [if_neg hc135] at h
        exact Eq.trans (ln_j_computeSafety_b61 hrec h) (Eq.trans (show Q.len (Q.mk s.f_total s.f_avail s.f_maxc s.f_alloc s.f_op s.f_kind s.f_amt s.f_len s.f_pc s.f_st s.f_queue s.f_work (wr s.f_mark v2 (0 : Int32)) s.f_order s.f_qlen s.f_nproc s.f_cur s.f_olen) = Q.len s from own_lenmk.trans (by first | (simp only [len_wr, len_wrL] <;> rfl) | rfl)) rfl)
    · rw [if_neg hc132] at h
      have hr0 := Option.some.inj h
      subst hr0
      show Q.len s = _
      exact rfl
set_option maxRecDepth 100000 in
theorem ev_j_computeSafety_l29 (R : AHeap) : ∀ (n : Nat) (s : Q) (v1 : Int32) (v2 : Int32) {res : Int32 × Q} {out : Option Value × AHeap}, j_computeSafety_l29 n s v1 v2 = some res → j_computeSafety_l29_K R res out → Eval own_P 11 29 [some (.ref 0), some (.int v1), some (.int v2), none, none, none] [] (W1 s R) out := by
  intro n
  induction n with
  | zero => intro _ _ _ res out h hk; cases h
  | succ n hrec =>
    intro s v1 v2 res out h hk
    rw [j_computeSafety_l29] at h
    refine Eval.iload_n rfl rfl ?_
    refine Eval.bipush (x := (8 : Int32)) rfl rfl ?_
    by_cases hc132 : v2 < (8 : Int32)
    · rw [if_pos hc132] at h
      refine Eval.icmpF rfl (tlt hc132).2.1 ?_
      refine Eval.aload_n rfl rfl ?_
      refine Eval.getfield rfl rfl own_g1_mark ?_
      refine Eval.iload_n rfl rfl ?_
      refine Eval.iconst (x := (0 : Int32)) rfl rfl ?_
      obtain ⟨hb133, h⟩ := ite_some h
      refine Eval.bastoreZ rfl rfl own_a1_mark hb133 own_s1_mark ?_
      refine Eval.iload_n rfl rfl ?_
      refine Eval.aload_n rfl rfl ?_
      refine Eval.getfield rfl rfl own_g1_nproc ?_
      by_cases hc135 : v2 < s.f_nproc
      · rw [if_pos hc135] at h
        refine Eval.icmpF rfl (tlt hc135).2.1 ?_
        refine Eval.aload_n rfl rfl ?_
        refine Eval.iload_n rfl rfl ?_
        obtain ⟨p140, hq141, h⟩ := bind_some h
        refine Eval.callI (rest := []) (x := p140) (H1 := (C1 s.f_total s.f_avail s.f_maxc s.f_alloc s.f_op s.f_kind s.f_amt s.f_len s.f_pc s.f_st s.f_queue s.f_work (wr s.f_mark v2 (0 : Int32)) s.f_order s.f_qlen s.f_nproc s.f_cur s.f_olen R)) rfl rfl (Eval.heap own_mk1 (ev_j_active R (Q.mk s.f_total s.f_avail s.f_maxc s.f_alloc s.f_op s.f_kind s.f_amt s.f_len s.f_pc s.f_st s.f_queue s.f_work (wr s.f_mark v2 (0 : Int32)) s.f_order s.f_qlen s.f_nproc s.f_cur s.f_olen) v2 hq141 (congrArg (Prod.mk _) own_mk1.symm))) ?_
        suffices hJ143 : Eval own_P 11 61 [some (.ref 0), some (.int (if p140 = (0 : Int32) then v1 else (v1 + (1 : Int32)))), some (.int v2), none, none, none] [] (C1 s.f_total s.f_avail s.f_maxc s.f_alloc s.f_op s.f_kind s.f_amt s.f_len s.f_pc s.f_st s.f_queue s.f_work (wr s.f_mark v2 (0 : Int32)) s.f_order s.f_qlen s.f_nproc s.f_cur s.f_olen R) out by
          by_cases hc142 : p140 = (0 : Int32)
          · refine Eval.ifT (t := 61) rfl rfl (teq hc142).1 ?_
            exact (Eval.conv hJ143 (by simp only [if_pos hc142]) rfl)
          · refine Eval.ifF rfl (feq hc142).1 ?_
            refine Eval.iinc (L' := [some (.ref 0), some (.int (v1 + (1 : Int32))), some (.int v2), none, none, none]) rfl rfl rfl ?_
            exact (Eval.conv hJ143 (by simp only [if_neg hc142]) rfl)
        refine Eval.heap own_mk1 ?_
        exact ev_j_computeSafety_b61 R _ hrec (Q.mk s.f_total s.f_avail s.f_maxc s.f_alloc s.f_op s.f_kind s.f_amt s.f_len s.f_pc s.f_st s.f_queue s.f_work (wr s.f_mark v2 (0 : Int32)) s.f_order s.f_qlen s.f_nproc s.f_cur s.f_olen) (if p140 = (0 : Int32) then v1 else (v1 + (1 : Int32))) v2 h hk
      · rw [if_neg hc135] at h
        refine Eval.icmpT (t := 61) rfl rfl (flt hc135).2.1 ?_
        refine Eval.heap own_mk1 ?_
        exact ev_j_computeSafety_b61 R _ hrec (Q.mk s.f_total s.f_avail s.f_maxc s.f_alloc s.f_op s.f_kind s.f_amt s.f_len s.f_pc s.f_st s.f_queue s.f_work (wr s.f_mark v2 (0 : Int32)) s.f_order s.f_qlen s.f_nproc s.f_cur s.f_olen) v1 v2 h hk
    · rw [if_neg hc132] at h
      refine Eval.icmpT (t := 67) rfl rfl (flt hc132).2.1 ?_
      cases h
      refine Eval.weak (L' := [some (.ref 0), some (.int v1), none, none, none, none]) ⟨_, _, rfl, Or.inr rfl, _, _, rfl, Or.inr rfl, _, _, rfl, Or.inl rfl, _, _, rfl, Or.inl rfl, _, _, rfl, Or.inl rfl, _, _, rfl, Or.inl rfl, rfl⟩ ?_
      exact hk
abbrev j_computeSafety_l74_K (R : AHeap) (res : (Int32 × Q) ⊕ (Int32 × Q)) (out : Option Value × AHeap) : Prop := Sum.elim (fun res => Eval own_P 11 89 [some (.ref 0), some (.int res.1), none, none, none, none] [] (W1 res.2 R) out) (fun res => Eval own_P 11 165 [some (.ref 0), some (.int res.1), none, none, none, none] [] (W1 res.2 R) out) res

abbrev j_computeSafety_l74_N (s : Q) (res : (Int32 × Q) ⊕ (Int32 × Q)) : Prop := Sum.elim (fun res => Q.len res.2 = Q.len s) (fun res => Q.len res.2 = Q.len s) res
abbrev j_findPick_l2_K (R : AHeap) (s : Q) (res : (Int32) ⊕ (Unit)) (out : Option Value × AHeap) : Prop := Sum.elim (fun res => Eval own_P 13 41 [none, some (.int res)] [] (W1 s R) out) (fun res => Eval own_P 13 49 [none, none] [] (W1 s R) out) res

def j_findPick_b43 (go_ : Q → Int32 → Option ((Int32) ⊕ (Unit))) (s : Q) (v1 : Int32) : Option ((Int32) ⊕ (Unit)) := (go_ s (v1 + (1 : Int32)))
set_option maxRecDepth 100000 in
theorem ev_j_findPick_b43 (R : AHeap) (go_ : Q → Int32 → Option ((Int32) ⊕ (Unit))) (hrec : ∀ (s : Q) (v1 : Int32) {res : (Int32) ⊕ (Unit)} {out : Option Value × AHeap}, go_ s v1 = some res → j_findPick_l2_K R s res out → Eval own_P 13 2 [some (.ref 0), some (.int v1)] [] (W1 s R) out) (s : Q) (v1 : Int32) {res : (Int32) ⊕ (Unit)} {out : Option Value × AHeap} (h : j_findPick_b43 go_ s v1 = some res) (hk : j_findPick_l2_K R s res out) : Eval own_P 13 43 [some (.ref 0), some (.int v1)] [] (W1 s R) out := by
  rw [j_findPick_b43] at h
  refine Eval.iinc (L' := [some (.ref 0), some (.int (v1 + (1 : Int32)))]) rfl rfl rfl ?_
  refine Eval.goto (t := 2) rfl rfl ?_
  exact hrec _ _ h hk
abbrev j_fits_l6_K (R : AHeap) (s : Q) (res : (Unit) ⊕ (Unit)) (out : Option Value × AHeap) : Prop := Sum.elim (fun res => Eval own_P 14 37 [none, none, none, none] [] (W1 s R) out) (fun res => Eval own_P 14 45 [none, none, none, none] [] (W1 s R) out) res

def j_fits_l6 : Nat → Q → Int32 → Int32 → Option ((Unit) ⊕ (Unit))
  | 0, _, _, _ => none
  | n + 1, s, v2, v3 => (if v3 < (4 : Int32) then (if inb s.f_maxc.length (v2 + v3) = true then (if inb s.f_alloc.length (v2 + v3) = true then (if inb s.f_work.length v3 = true then (if (rd s.f_work v3) < ((rd s.f_maxc (v2 + v3)) - (rd s.f_alloc (v2 + v3))) then some (.inl ()) else (j_fits_l6 n s v2 (v3 + (1 : Int32)))) else none) else none) else none) else some (.inr ()))
set_option maxRecDepth 100000 in
theorem ev_j_fits_l6 (R : AHeap) : ∀ (n : Nat) (s : Q) (v2 : Int32) (v3 : Int32) {res : (Unit) ⊕ (Unit)} {out : Option Value × AHeap}, j_fits_l6 n s v2 v3 = some res → j_fits_l6_K R s res out → Eval own_P 14 6 [some (.ref 0), none, some (.int v2), some (.int v3)] [] (W1 s R) out := by
  intro n
  induction n with
  | zero => intro _ _ _ res out h hk; cases h
  | succ n hrec =>
    intro s v2 v3 res out h hk
    rw [j_fits_l6] at h
    refine Eval.iload_n rfl rfl ?_
    refine Eval.iconst (x := (4 : Int32)) rfl rfl ?_
    by_cases hc155 : v3 < (4 : Int32)
    · rw [if_pos hc155] at h
      refine Eval.icmpF rfl (tlt hc155).2.1 ?_
      refine Eval.aload_n rfl rfl ?_
      refine Eval.getfield rfl rfl own_g1_maxc ?_
      refine Eval.iload_n rfl rfl ?_
      refine Eval.iload_n rfl rfl ?_
      refine Eval.iadd rfl ?_
      obtain ⟨hb156, h⟩ := ite_some h
      refine Eval.iaload rfl own_a1_maxc hb156 ?_
      refine Eval.aload_n rfl rfl ?_
      refine Eval.getfield rfl rfl own_g1_alloc ?_
      refine Eval.iload_n rfl rfl ?_
      refine Eval.iload_n rfl rfl ?_
      refine Eval.iadd rfl ?_
      obtain ⟨hb157, h⟩ := ite_some h
      refine Eval.iaload rfl own_a1_alloc hb157 ?_
      refine Eval.isub rfl ?_
      refine Eval.aload_n rfl rfl ?_
      refine Eval.getfield rfl rfl own_g1_work ?_
      refine Eval.iload_n rfl rfl ?_
      obtain ⟨hb158, h⟩ := ite_some h
      refine Eval.iaload rfl own_a1_work hb158 ?_
      by_cases hc159 : (rd s.f_work v3) < ((rd s.f_maxc (v2 + v3)) - (rd s.f_alloc (v2 + v3)))
      · rw [if_pos hc159] at h
        refine Eval.icmpF rfl (tlt hc159).2.2.2 ?_
        cases h
        refine Eval.weak (L' := [none, none, none, none]) ⟨_, _, rfl, Or.inl rfl, _, _, rfl, Or.inl rfl, _, _, rfl, Or.inl rfl, _, _, rfl, Or.inl rfl, rfl⟩ ?_
        exact hk
      · rw [if_neg hc159] at h
        refine Eval.icmpT (t := 39) rfl rfl (flt hc159).2.2.2 ?_
        refine Eval.iinc (L' := [some (.ref 0), none, some (.int v2), some (.int (v3 + (1 : Int32)))]) rfl rfl rfl ?_
        refine Eval.goto (t := 6) rfl rfl ?_
        exact hrec _ _ _ h hk
    · rw [if_neg hc155] at h
      refine Eval.icmpT (t := 45) rfl rfl (flt hc155).2.1 ?_
      cases h
      refine Eval.weak (L' := [none, none, none, none]) ⟨_, _, rfl, Or.inl rfl, _, _, rfl, Or.inl rfl, _, _, rfl, Or.inl rfl, _, _, rfl, Or.inl rfl, rfl⟩ ?_
      exact hk
def j_fits (s : Q) (v1 : Int32) : Option (Int32) := ((j_fits_l6 3000 s (v1 * (4 : Int32)) (0 : Int32)).bind fun p160 => Sum.elim (fun p162 => some ((0 : Int32))) (fun p163 => some ((1 : Int32))) p160)
set_option maxRecDepth 100000 in
theorem ev_j_fits (R : AHeap) (s : Q) (v1 : Int32) {res : Int32} {out : Option Value × AHeap} (h : j_fits s v1 = some res) (hk : out = (some (.int res), (W1 s R))) : Eval own_P 14 0 [some (.ref 0), some (.int v1), none, none] [] (W1 s R) out := by
  rw [j_fits] at h
  refine Eval.iload_n rfl rfl ?_
  refine Eval.iconst (x := (4 : Int32)) rfl rfl ?_
  refine Eval.imul rfl ?_
  refine Eval.istore_n (L' := [some (.ref 0), some (.int v1), some (.int (v1 * (4 : Int32))), none]) rfl rfl ?_
  refine Eval.iconst (x := (0 : Int32)) rfl rfl ?_
  refine Eval.istore_n (L' := [some (.ref 0), some (.int v1), some (.int (v1 * (4 : Int32))), some (.int (0 : Int32))]) rfl rfl ?_
  refine Eval.weak (L' := [some (.ref 0), none, some (.int (v1 * (4 : Int32))), some (.int (0 : Int32))]) ⟨_, _, rfl, Or.inr rfl, _, _, rfl, Or.inl rfl, _, _, rfl, Or.inr rfl, _, _, rfl, Or.inr rfl, rfl⟩ ?_
  obtain ⟨p160, hq161, h⟩ := bind_some h
  rcases p160 with p162 | p163
  · dsimp only [Sum.elim] at h
    refine ev_j_fits_l6 R _ s (v1 * (4 : Int32)) (0 : Int32) hq161 ?_
    show Eval own_P 14 37 [none, none, none, none] [] (W1 s R) out
    refine Eval.iconst (x := (0 : Int32)) rfl rfl ?_
    cases h
    subst hk
    exact Eval.ret rfl rfl
  · dsimp only [Sum.elim] at h
    refine ev_j_fits_l6 R _ s (v1 * (4 : Int32)) (0 : Int32) hq161 ?_
    show Eval own_P 14 45 [none, none, none, none] [] (W1 s R) out
    refine Eval.iconst (x := (1 : Int32)) rfl rfl ?_
    cases h
    subst hk
    exact Eval.ret rfl rfl
def j_findPick_l2 : Nat → Q → Int32 → Option ((Int32) ⊕ (Unit))
  | 0, _, _ => none
  | n + 1, s, v1 => (if v1 < (8 : Int32) then (if v1 < s.f_nproc then ((j_active s v1).bind fun p150 => (if p150 = (0 : Int32) then (j_findPick_b43 (j_findPick_l2 n) s v1) else (if inb s.f_mark.length v1 = true then (if (rd s.f_mark v1) = (0 : Int32) then ((j_fits s v1).bind fun p164 => (if p164 = (0 : Int32) then (j_findPick_b43 (j_findPick_l2 n) s v1) else some (.inl (v1)))) else (j_findPick_b43 (j_findPick_l2 n) s v1)) else none))) else (j_findPick_b43 (j_findPick_l2 n) s v1)) else some (.inr ()))
set_option maxRecDepth 100000 in
theorem ev_j_findPick_l2 (R : AHeap) : ∀ (n : Nat) (s : Q) (v1 : Int32) {res : (Int32) ⊕ (Unit)} {out : Option Value × AHeap}, j_findPick_l2 n s v1 = some res → j_findPick_l2_K R s res out → Eval own_P 13 2 [some (.ref 0), some (.int v1)] [] (W1 s R) out := by
  intro n
  induction n with
  | zero => intro _ _ res out h hk; cases h
  | succ n hrec =>
    intro s v1 res out h hk
    rw [j_findPick_l2] at h
    refine Eval.iload_n rfl rfl ?_
    refine Eval.bipush (x := (8 : Int32)) rfl rfl ?_
    by_cases hc148 : v1 < (8 : Int32)
    · rw [if_pos hc148] at h
      refine Eval.icmpF rfl (tlt hc148).2.1 ?_
      refine Eval.iload_n rfl rfl ?_
      refine Eval.aload_n rfl rfl ?_
      refine Eval.getfield rfl rfl own_g1_nproc ?_
      by_cases hc149 : v1 < s.f_nproc
      · rw [if_pos hc149] at h
        refine Eval.icmpF rfl (tlt hc149).2.1 ?_
        refine Eval.aload_n rfl rfl ?_
        refine Eval.iload_n rfl rfl ?_
        obtain ⟨p150, hq151, h⟩ := bind_some h
        refine Eval.callI (rest := []) (x := p150) (H1 := (W1 s R)) rfl rfl (ev_j_active R s v1 hq151 rfl) ?_
        by_cases hc152 : p150 = (0 : Int32)
        · rw [if_pos hc152] at h
          refine Eval.ifT (t := 43) rfl rfl (teq hc152).1 ?_
          exact ev_j_findPick_b43 R _ hrec s v1 h hk
        · rw [if_neg hc152] at h
          refine Eval.ifF rfl (feq hc152).1 ?_
          refine Eval.aload_n rfl rfl ?_
          refine Eval.getfield rfl rfl own_g1_mark ?_
          refine Eval.iload_n rfl rfl ?_
          obtain ⟨hb153, h⟩ := ite_some h
          refine Eval.baloadZ rfl own_a1_mark hb153 ?_
          by_cases hc154 : (rd s.f_mark v1) = (0 : Int32)
          · rw [if_pos hc154] at h
            refine Eval.ifF rfl (teq hc154).2 ?_
            refine Eval.aload_n rfl rfl ?_
            refine Eval.iload_n rfl rfl ?_
            obtain ⟨p164, hq165, h⟩ := bind_some h
            refine Eval.callI (rest := []) (x := p164) (H1 := (W1 s R)) rfl rfl (ev_j_fits R s v1 hq165 rfl) ?_
            by_cases hc166 : p164 = (0 : Int32)
            · rw [if_pos hc166] at h
              refine Eval.ifT (t := 43) rfl rfl (teq hc166).1 ?_
              exact ev_j_findPick_b43 R _ hrec s v1 h hk
            · rw [if_neg hc166] at h
              refine Eval.ifF rfl (feq hc166).1 ?_
              cases h
              refine Eval.weak (L' := [none, some (.int v1)]) ⟨_, _, rfl, Or.inl rfl, _, _, rfl, Or.inr rfl, rfl⟩ ?_
              exact hk
          · rw [if_neg hc154] at h
            refine Eval.ifT (t := 43) rfl rfl (feq hc154).2 ?_
            exact ev_j_findPick_b43 R _ hrec s v1 h hk
      · rw [if_neg hc149] at h
        refine Eval.icmpT (t := 43) rfl rfl (flt hc149).2.1 ?_
        exact ev_j_findPick_b43 R _ hrec s v1 h hk
    · rw [if_neg hc148] at h
      refine Eval.icmpT (t := 49) rfl rfl (flt hc148).2.1 ?_
      cases h
      refine Eval.weak (L' := [none, none]) ⟨_, _, rfl, Or.inl rfl, _, _, rfl, Or.inl rfl, rfl⟩ ?_
      exact hk
def j_findPick (s : Q) : Option (Int32) := ((j_findPick_l2 3000 s (0 : Int32)).bind fun p167 => Sum.elim (fun p169 => some (p169)) (fun p170 => some ((-1 : Int32))) p167)
set_option maxRecDepth 100000 in
theorem ev_j_findPick (R : AHeap) (s : Q) {res : Int32} {out : Option Value × AHeap} (h : j_findPick s = some res) (hk : out = (some (.int res), (W1 s R))) : Eval own_P 13 0 [some (.ref 0), none] [] (W1 s R) out := by
  rw [j_findPick] at h
  refine Eval.iconst (x := (0 : Int32)) rfl rfl ?_
  refine Eval.istore_n (L' := [some (.ref 0), some (.int (0 : Int32))]) rfl rfl ?_
  obtain ⟨p167, hq168, h⟩ := bind_some h
  rcases p167 with p169 | p170
  · dsimp only [Sum.elim] at h
    refine ev_j_findPick_l2 R _ s (0 : Int32) hq168 ?_
    show Eval own_P 13 41 [none, some (.int p169)] [] (W1 s R) out
    refine Eval.iload_n rfl rfl ?_
    cases h
    subst hk
    exact Eval.ret rfl rfl
  · dsimp only [Sum.elim] at h
    refine ev_j_findPick_l2 R _ s (0 : Int32) hq168 ?_
    show Eval own_P 13 49 [none, none] [] (W1 s R) out
    refine Eval.iconst (x := (-1 : Int32)) rfl rfl ?_
    cases h
    subst hk
    exact Eval.ret rfl rfl
abbrev j_computeSafety_l127_K (R : AHeap) (res : Int32 × Int32 × Q) (out : Option Value × AHeap) : Prop := Eval own_P 11 159 [some (.ref 0), some (.int res.1), some (.int res.2.1), none, none, none] [] (W1 res.2.2 R) out

abbrev j_computeSafety_l127_N (s : Q) (res : Int32 × Int32 × Q) : Prop := Q.len res.2.2 = Q.len s
def j_computeSafety_l127 : Nat → Q → Int32 → Int32 → Int32 → Int32 → Option (Int32 × Int32 × Q)
  | 0, _, _, _, _, _ => none
  | n + 1, s, v1, v2, v4, v5 => (if v5 < (4 : Int32) then (if inb s.f_work.length v5 = true then (if inb s.f_alloc.length (v4 + v5) = true then (if inb s.f_work.length v5 = true then (j_computeSafety_l127 n (Q.mk s.f_total s.f_avail s.f_maxc s.f_alloc s.f_op s.f_kind s.f_amt s.f_len s.f_pc s.f_st s.f_queue (wr s.f_work v5 ((rd s.f_work v5) + (rd s.f_alloc (v4 + v5)))) s.f_mark s.f_order s.f_qlen s.f_nproc s.f_cur s.f_olen) v1 v2 v4 (v5 + (1 : Int32))) else none) else none) else none) else some (v1, v2, s))
theorem ln_j_computeSafety_l127 : ∀ {n : Nat} {s : Q} {v1 : Int32} {v2 : Int32} {v4 : Int32} {v5 : Int32} {res : Int32 × Int32 × Q}, j_computeSafety_l127 n s v1 v2 v4 v5 = some res → j_computeSafety_l127_N s res := by
  intro n
  induction n with
  | zero => intro _ _ _ _ _ res h; cases h
  | succ n hrec0 =>
    have hrec : ∀ (s : Q) (v1 : Int32) (v2 : Int32) (v4 : Int32) (v5 : Int32) {res : Int32 × Int32 × Q}, j_computeSafety_l127 n s v1 v2 v4 v5 = some res → j_computeSafety_l127_N s res := by intros; apply hrec0; assumption
    intro s v1 v2 v4 v5 res h
    rw [j_computeSafety_l127] at h
    by_cases hc176 : v5 < (4 : Int32)
    · rw [if_pos hc176] at h
      obtain ⟨hb177, h⟩ := ite_some h
      obtain ⟨hb178, h⟩ := ite_some h
      obtain ⟨hb179, h⟩ := ite_some h
      exact (hrec _ _ _ _ _ h).trans (Eq.trans (show Q.len (Q.mk s.f_total s.f_avail s.f_maxc s.f_alloc s.f_op s.f_kind s.f_amt s.f_len s.f_pc s.f_st s.f_queue (wr s.f_work v5 ((rd s.f_work v5) + (rd s.f_alloc (v4 + v5)))) s.f_mark s.f_order s.f_qlen s.f_nproc s.f_cur s.f_olen) = Q.len s from own_lenmk.trans (by first | (simp only [len_wr, len_wrL] <;> rfl) | rfl)) rfl)
    · rw [if_neg hc176] at h
      have hr0 := Option.some.inj h
      subst hr0
      show Q.len s = _
      exact rfl
set_option maxRecDepth 100000 in
theorem ev_j_computeSafety_l127 (R : AHeap) : ∀ (n : Nat) (s : Q) (v1 : Int32) (v2 : Int32) (v4 : Int32) (v5 : Int32) {res : Int32 × Int32 × Q} {out : Option Value × AHeap}, j_computeSafety_l127 n s v1 v2 v4 v5 = some res → j_computeSafety_l127_K R res out → Eval own_P 11 127 [some (.ref 0), some (.int v1), some (.int v2), none, some (.int v4), some (.int v5)] [] (W1 s R) out := by
  intro n
  induction n with
  | zero => intro _ _ _ _ _ res out h hk; cases h
  | succ n hrec =>
    intro s v1 v2 v4 v5 res out h hk
    rw [j_computeSafety_l127] at h
    refine Eval.iload rfl rfl ?_
    refine Eval.iconst (x := (4 : Int32)) rfl rfl ?_
    by_cases hc176 : v5 < (4 : Int32)
    · rw [if_pos hc176] at h
      refine Eval.icmpF rfl (tlt hc176).2.1 ?_
      refine Eval.aload_n rfl rfl ?_
      refine Eval.getfield rfl rfl own_g1_work ?_
      refine Eval.iload rfl rfl ?_
      refine Eval.dup2 rfl ?_
      obtain ⟨hb177, h⟩ := ite_some h
      refine Eval.iaload rfl own_a1_work hb177 ?_
      refine Eval.aload_n rfl rfl ?_
      refine Eval.getfield rfl rfl own_g1_alloc ?_
      refine Eval.iload rfl rfl ?_
      refine Eval.iload rfl rfl ?_
      refine Eval.iadd rfl ?_
      obtain ⟨hb178, h⟩ := ite_some h
      refine Eval.iaload rfl own_a1_alloc hb178 ?_
      refine Eval.iadd rfl ?_
      obtain ⟨hb179, h⟩ := ite_some h
      refine Eval.iastore rfl rfl own_a1_work hb179 own_s1_work ?_
      refine Eval.iinc (L' := [some (.ref 0), some (.int v1), some (.int v2), none, some (.int v4), some (.int (v5 + (1 : Int32)))]) rfl rfl rfl ?_
      refine Eval.goto (t := 127) rfl rfl ?_
      refine Eval.heap own_mk1 ?_
      exact hrec _ _ _ _ _ h hk
    · rw [if_neg hc176] at h
      refine Eval.icmpT (t := 159) rfl rfl (flt hc176).2.1 ?_
      cases h
      refine Eval.weak (L' := [some (.ref 0), some (.int v1), some (.int v2), none, none, none]) ⟨_, _, rfl, Or.inr rfl, _, _, rfl, Or.inr rfl, _, _, rfl, Or.inr rfl, _, _, rfl, Or.inl rfl, _, _, rfl, Or.inl rfl, _, _, rfl, Or.inl rfl, rfl⟩ ?_
      exact hk
def j_computeSafety_l74 : Nat → Q → Int32 → Int32 → Option ((Int32 × Q) ⊕ (Int32 × Q))
  | 0, _, _, _ => none
  | n + 1, s, v1, v2 => (if v2 < (8 : Int32) then ((j_findPick s).bind fun p171 => (if p171 < (0 : Int32) then some (.inl (v1, s)) else (if inb s.f_mark.length p171 = true then (if inb s.f_order.length s.f_olen = true then ((j_computeSafety_l127 3000 (Q.mk s.f_total s.f_avail s.f_maxc s.f_alloc s.f_op s.f_kind s.f_amt s.f_len s.f_pc s.f_st s.f_queue s.f_work (wr s.f_mark p171 (1 : Int32)) (wr s.f_order s.f_olen p171) s.f_qlen s.f_nproc s.f_cur (s.f_olen + (1 : Int32))) v1 v2 (p171 * (4 : Int32)) (0 : Int32)).bind fun p180 => (j_computeSafety_l74 n p180.2.2 p180.1 (p180.2.1 + (1 : Int32)))) else none) else none))) else some (.inr (v1, s)))
theorem ln_j_computeSafety_l74 : ∀ {n : Nat} {s : Q} {v1 : Int32} {v2 : Int32} {res : (Int32 × Q) ⊕ (Int32 × Q)}, j_computeSafety_l74 n s v1 v2 = some res → j_computeSafety_l74_N s res := by
  intro n
  induction n with
  | zero => intro _ _ _ res h; cases h
  | succ n hrec0 =>
    have hrec : ∀ (s : Q) (v1 : Int32) (v2 : Int32) {res : (Int32 × Q) ⊕ (Int32 × Q)}, j_computeSafety_l74 n s v1 v2 = some res → j_computeSafety_l74_N s res := by intros; apply hrec0; assumption
    intro s v1 v2 res h
    rw [j_computeSafety_l74] at h
    by_cases hc147 : v2 < (8 : Int32)
    · rw [if_pos hc147] at h
      obtain ⟨p171, hq172, h⟩ := bind_some h
      by_cases hc173 : p171 < (0 : Int32)
      · rw [if_pos hc173] at h
        have hr0 := Option.some.inj h
        subst hr0
        show Q.len s = _
        exact rfl
      · rw [if_neg hc173] at h
        obtain ⟨hb174, h⟩ := ite_some h
        obtain ⟨hb175, h⟩ := ite_some h
        obtain ⟨p180, hq181, h⟩ := bind_some h
        have hl182 : Q.len p180.2.2 = _ := Eq.trans (ln_j_computeSafety_l127 hq181) (Eq.trans (show Q.len (Q.mk s.f_total s.f_avail s.f_maxc s.f_alloc s.f_op s.f_kind s.f_amt s.f_len s.f_pc s.f_st s.f_queue s.f_work (wr s.f_mark p171 (1 : Int32)) (wr s.f_order s.f_olen p171) s.f_qlen s.f_nproc s.f_cur (s.f_olen + (1 : Int32))) = Q.len s from own_lenmk.trans (by first | (simp only [len_wr, len_wrL] <;> rfl) | rfl)) rfl)
        have hz := hrec _ _ _ h
        rcases res with res | res
        · exact Eq.trans hz hl182
        · exact Eq.trans hz hl182
    · rw [if_neg hc147] at h
      have hr0 := Option.some.inj h
      subst hr0
      show Q.len s = _
      exact rfl
set_option maxRecDepth 100000 in
theorem ev_j_computeSafety_l74 (R : AHeap) : ∀ (n : Nat) (s : Q) (v1 : Int32) (v2 : Int32) {res : (Int32 × Q) ⊕ (Int32 × Q)} {out : Option Value × AHeap}, j_computeSafety_l74 n s v1 v2 = some res → j_computeSafety_l74_K R res out → Eval own_P 11 74 [some (.ref 0), some (.int v1), some (.int v2), none, none, none] [] (W1 s R) out := by
  intro n
  induction n with
  | zero => intro _ _ _ res out h hk; cases h
  | succ n hrec =>
    intro s v1 v2 res out h hk
    rw [j_computeSafety_l74] at h
    refine Eval.iload_n rfl rfl ?_
    refine Eval.bipush (x := (8 : Int32)) rfl rfl ?_
    by_cases hc147 : v2 < (8 : Int32)
    · rw [if_pos hc147] at h
      refine Eval.icmpF rfl (tlt hc147).2.1 ?_
      refine Eval.aload_n rfl rfl ?_
      obtain ⟨p171, hq172, h⟩ := bind_some h
      refine Eval.callI (rest := []) (x := p171) (H1 := (W1 s R)) rfl rfl (ev_j_findPick R s hq172 rfl) ?_
      refine Eval.istore_n (L' := [some (.ref 0), some (.int v1), some (.int v2), some (.int p171), none, none]) rfl rfl ?_
      refine Eval.iload_n rfl rfl ?_
      by_cases hc173 : p171 < (0 : Int32)
      · rw [if_pos hc173] at h
        refine Eval.ifF rfl (tlt hc173).2.1 ?_
        cases h
        refine Eval.weak (L' := [some (.ref 0), some (.int v1), none, none, none, none]) ⟨_, _, rfl, Or.inr rfl, _, _, rfl, Or.inr rfl, _, _, rfl, Or.inl rfl, _, _, rfl, Or.inl rfl, _, _, rfl, Or.inl rfl, _, _, rfl, Or.inl rfl, rfl⟩ ?_
        exact hk
      · rw [if_neg hc173] at h
        refine Eval.ifT (t := 92) rfl rfl (flt hc173).2.1 ?_
        refine Eval.aload_n rfl rfl ?_
        refine Eval.getfield rfl rfl own_g1_mark ?_
        refine Eval.iload_n rfl rfl ?_
        refine Eval.iconst (x := (1 : Int32)) rfl rfl ?_
        obtain ⟨hb174, h⟩ := ite_some h
        refine Eval.bastoreZ rfl rfl own_a1_mark hb174 own_s1_mark ?_
        refine Eval.aload_n rfl rfl ?_
        refine Eval.getfield rfl rfl own_g1_order ?_
        refine Eval.aload_n rfl rfl ?_
        refine Eval.getfield rfl rfl own_g1_olen ?_
        refine Eval.iload_n rfl rfl ?_
        obtain ⟨hb175, h⟩ := ite_some h
        refine Eval.iastore rfl rfl own_a1_order hb175 own_s1_order ?_
        refine Eval.aload_n rfl rfl ?_
        refine Eval.dupR rfl ?_
        refine Eval.getfield rfl rfl own_g1_olen ?_
        refine Eval.iconst (x := (1 : Int32)) rfl rfl ?_
        refine Eval.iadd rfl ?_
        refine Eval.putfield rfl rfl own_p1_olen ?_
        refine Eval.iload_n rfl rfl ?_
        refine Eval.iconst (x := (4 : Int32)) rfl rfl ?_
        refine Eval.imul rfl ?_
        refine Eval.istore (L' := [some (.ref 0), some (.int v1), some (.int v2), some (.int p171), some (.int (p171 * (4 : Int32))), none]) rfl rfl ?_
        refine Eval.iconst (x := (0 : Int32)) rfl rfl ?_
        refine Eval.istore (L' := [some (.ref 0), some (.int v1), some (.int v2), some (.int p171), some (.int (p171 * (4 : Int32))), some (.int (0 : Int32))]) rfl rfl ?_
        refine Eval.heap own_mk1 ?_
        refine Eval.weak (L' := [some (.ref 0), some (.int v1), some (.int v2), none, some (.int (p171 * (4 : Int32))), some (.int (0 : Int32))]) ⟨_, _, rfl, Or.inr rfl, _, _, rfl, Or.inr rfl, _, _, rfl, Or.inr rfl, _, _, rfl, Or.inl rfl, _, _, rfl, Or.inr rfl, _, _, rfl, Or.inr rfl, rfl⟩ ?_
        obtain ⟨p180, hq181, h⟩ := bind_some h
        refine ev_j_computeSafety_l127 R _ (Q.mk s.f_total s.f_avail s.f_maxc s.f_alloc s.f_op s.f_kind s.f_amt s.f_len s.f_pc s.f_st s.f_queue s.f_work (wr s.f_mark p171 (1 : Int32)) (wr s.f_order s.f_olen p171) s.f_qlen s.f_nproc s.f_cur (s.f_olen + (1 : Int32))) v1 v2 (p171 * (4 : Int32)) (0 : Int32) hq181 ?_
        show Eval own_P 11 159 [some (.ref 0), some (.int p180.1), some (.int p180.2.1), none, none, none] [] (W1 p180.2.2 R) out
        refine Eval.iinc (L' := [some (.ref 0), some (.int p180.1), some (.int (p180.2.1 + (1 : Int32))), none, none, none]) rfl rfl rfl ?_
        refine Eval.goto (t := 74) rfl rfl ?_
        exact hrec _ _ _ h hk
    · rw [if_neg hc147] at h
      refine Eval.icmpT (t := 165) rfl rfl (flt hc147).2.1 ?_
      cases h
      refine Eval.weak (L' := [some (.ref 0), some (.int v1), none, none, none, none]) ⟨_, _, rfl, Or.inr rfl, _, _, rfl, Or.inr rfl, _, _, rfl, Or.inl rfl, _, _, rfl, Or.inl rfl, _, _, rfl, Or.inl rfl, _, _, rfl, Or.inl rfl, rfl⟩ ?_
      exact hk
def j_computeSafety_b165 (s : Q) (v1 : Int32) : Option (Int32 × Q) := (if s.f_olen = v1 then some ((1 : Int32), s) else some ((0 : Int32), s))
theorem ln_j_computeSafety_b165 {s : Q} {v1 : Int32} {res : Int32 × Q} (h : j_computeSafety_b165 s v1 = some res) : Q.len res.2 = Q.len s := by
  rw [j_computeSafety_b165] at h
  by_cases hc188 : s.f_olen = v1
  · rw [if_pos hc188] at h
    have hr0 := Option.some.inj h
    subst hr0
    show Q.len s = _
    exact rfl
  · rw [if_neg hc188] at h
    have hr0 := Option.some.inj h
    subst hr0
    show Q.len s = _
    exact rfl
set_option maxRecDepth 100000 in
theorem ev_j_computeSafety_b165 (R : AHeap) (s : Q) (v1 : Int32) {res : Int32 × Q} {out : Option Value × AHeap} (h : j_computeSafety_b165 s v1 = some res) (hk : out = (some (.int res.1), (W1 res.2 R))) : Eval own_P 11 165 [some (.ref 0), some (.int v1), none, none, none, none] [] (W1 s R) out := by
  rw [j_computeSafety_b165] at h
  refine Eval.aload_n rfl rfl ?_
  refine Eval.getfield rfl rfl own_g1_olen ?_
  refine Eval.iload_n rfl rfl ?_
  by_cases hc188 : s.f_olen = v1
  · rw [if_pos hc188] at h
    refine Eval.icmpF rfl (teq hc188).2 ?_
    refine Eval.iconst (x := (1 : Int32)) rfl rfl ?_
    refine Eval.goto (t := 178) rfl rfl ?_
    cases h
    subst hk
    exact Eval.ret rfl rfl
  · rw [if_neg hc188] at h
    refine Eval.icmpT (t := 177) rfl rfl (feq hc188).2 ?_
    refine Eval.iconst (x := (0 : Int32)) rfl rfl ?_
    cases h
    subst hk
    exact Eval.ret rfl rfl
def j_computeSafety (s : Q) : Option (Int32 × Q) := ((j_computeSafety_l2 3000 s (0 : Int32)).bind fun p129 => ((j_computeSafety_l29 3000 p129 (0 : Int32) (0 : Int32)).bind fun p144 => ((j_computeSafety_l74 3000 (Q.mk p144.2.f_total p144.2.f_avail p144.2.f_maxc p144.2.f_alloc p144.2.f_op p144.2.f_kind p144.2.f_amt p144.2.f_len p144.2.f_pc p144.2.f_st p144.2.f_queue p144.2.f_work p144.2.f_mark p144.2.f_order p144.2.f_qlen p144.2.f_nproc p144.2.f_cur (0 : Int32)) p144.1 (0 : Int32)).bind fun p183 => Sum.elim (fun p185 => (j_computeSafety_b165 p185.2 p185.1)) (fun p186 => (j_computeSafety_b165 p186.2 p186.1)) p183)))
theorem ln_j_computeSafety {s : Q} {res : Int32 × Q} (h : j_computeSafety s = some res) : Q.len res.2 = Q.len s := by
  rw [j_computeSafety] at h
  obtain ⟨p129, hq130, h⟩ := bind_some h
  have hl131 : Q.len p129 = _ := Eq.trans (ln_j_computeSafety_l2 hq130) rfl
  obtain ⟨p144, hq145, h⟩ := bind_some h
  have hl146 : Q.len p144.2 = _ := Eq.trans (ln_j_computeSafety_l29 hq145) hl131
  obtain ⟨p183, hq184, h⟩ := bind_some h
  rcases p183 with p185 | p186
  · dsimp only [Sum.elim] at h
    have hl187 : Q.len p185.2 = _ := Eq.trans (ln_j_computeSafety_l74 hq184) (Eq.trans (show Q.len (Q.mk p144.2.f_total p144.2.f_avail p144.2.f_maxc p144.2.f_alloc p144.2.f_op p144.2.f_kind p144.2.f_amt p144.2.f_len p144.2.f_pc p144.2.f_st p144.2.f_queue p144.2.f_work p144.2.f_mark p144.2.f_order p144.2.f_qlen p144.2.f_nproc p144.2.f_cur (0 : Int32)) = Q.len p144.2 from own_lenmk.trans (by first | (simp only [len_wr, len_wrL] <;> rfl) | rfl)) hl146)
    exact Eq.trans (ln_j_computeSafety_b165 h) hl187
  · dsimp only [Sum.elim] at h
    have hl189 : Q.len p186.2 = _ := Eq.trans (ln_j_computeSafety_l74 hq184) (Eq.trans (show Q.len (Q.mk p144.2.f_total p144.2.f_avail p144.2.f_maxc p144.2.f_alloc p144.2.f_op p144.2.f_kind p144.2.f_amt p144.2.f_len p144.2.f_pc p144.2.f_st p144.2.f_queue p144.2.f_work p144.2.f_mark p144.2.f_order p144.2.f_qlen p144.2.f_nproc p144.2.f_cur (0 : Int32)) = Q.len p144.2 from own_lenmk.trans (by first | (simp only [len_wr, len_wrL] <;> rfl) | rfl)) hl146)
    exact Eq.trans (ln_j_computeSafety_b165 h) hl189
set_option maxRecDepth 100000 in
theorem ev_j_computeSafety (R : AHeap) (s : Q) {res : Int32 × Q} {out : Option Value × AHeap} (h : j_computeSafety s = some res) (hk : out = (some (.int res.1), (W1 res.2 R))) : Eval own_P 11 0 [some (.ref 0), none, none, none, none, none] [] (W1 s R) out := by
  rw [j_computeSafety] at h
  refine Eval.iconst (x := (0 : Int32)) rfl rfl ?_
  refine Eval.istore_n (L' := [some (.ref 0), some (.int (0 : Int32)), none, none, none, none]) rfl rfl ?_
  obtain ⟨p129, hq130, h⟩ := bind_some h
  refine ev_j_computeSafety_l2 R _ s (0 : Int32) hq130 ?_
  show Eval own_P 11 25 [some (.ref 0), none, none, none, none, none] [] (W1 p129 R) out
  refine Eval.iconst (x := (0 : Int32)) rfl rfl ?_
  refine Eval.istore_n (L' := [some (.ref 0), some (.int (0 : Int32)), none, none, none, none]) rfl rfl ?_
  refine Eval.iconst (x := (0 : Int32)) rfl rfl ?_
  refine Eval.istore_n (L' := [some (.ref 0), some (.int (0 : Int32)), some (.int (0 : Int32)), none, none, none]) rfl rfl ?_
  obtain ⟨p144, hq145, h⟩ := bind_some h
  refine ev_j_computeSafety_l29 R _ p129 (0 : Int32) (0 : Int32) hq145 ?_
  show Eval own_P 11 67 [some (.ref 0), some (.int p144.1), none, none, none, none] [] (W1 p144.2 R) out
  refine Eval.aload_n rfl rfl ?_
  refine Eval.iconst (x := (0 : Int32)) rfl rfl ?_
  refine Eval.putfield rfl rfl own_p1_olen ?_
  refine Eval.iconst (x := (0 : Int32)) rfl rfl ?_
  refine Eval.istore_n (L' := [some (.ref 0), some (.int p144.1), some (.int (0 : Int32)), none, none, none]) rfl rfl ?_
  refine Eval.heap own_mk1 ?_
  obtain ⟨p183, hq184, h⟩ := bind_some h
  rcases p183 with p185 | p186
  · dsimp only [Sum.elim] at h
    refine ev_j_computeSafety_l74 R _ (Q.mk p144.2.f_total p144.2.f_avail p144.2.f_maxc p144.2.f_alloc p144.2.f_op p144.2.f_kind p144.2.f_amt p144.2.f_len p144.2.f_pc p144.2.f_st p144.2.f_queue p144.2.f_work p144.2.f_mark p144.2.f_order p144.2.f_qlen p144.2.f_nproc p144.2.f_cur (0 : Int32)) p144.1 (0 : Int32) hq184 ?_
    show Eval own_P 11 89 [some (.ref 0), some (.int p185.1), none, none, none, none] [] (W1 p185.2 R) out
    refine Eval.goto (t := 165) rfl rfl ?_
    exact ev_j_computeSafety_b165 R p185.2 p185.1 h hk
  · dsimp only [Sum.elim] at h
    refine ev_j_computeSafety_l74 R _ (Q.mk p144.2.f_total p144.2.f_avail p144.2.f_maxc p144.2.f_alloc p144.2.f_op p144.2.f_kind p144.2.f_amt p144.2.f_len p144.2.f_pc p144.2.f_st p144.2.f_queue p144.2.f_work p144.2.f_mark p144.2.f_order p144.2.f_qlen p144.2.f_nproc p144.2.f_cur (0 : Int32)) p144.1 (0 : Int32) hq184 ?_
    show Eval own_P 11 165 [some (.ref 0), some (.int p186.1), none, none, none, none] [] (W1 p186.2 R) out
    exact ev_j_computeSafety_b165 R p186.2 p186.1 h hk
def j_tentativeSafe (s : Q) (v1 : Int32) (v2 : Int32) (v3 : Int32) : Option (Int32 × Q) := (if inb s.f_alloc.length ((v1 * (4 : Int32)) + v2) = true then (if inb s.f_alloc.length ((v1 * (4 : Int32)) + v2) = true then (if inb s.f_avail.length v2 = true then (if inb s.f_avail.length v2 = true then ((j_computeSafety (Q.mk s.f_total (wr s.f_avail v2 ((rd s.f_avail v2) - v3)) s.f_maxc (wr s.f_alloc ((v1 * (4 : Int32)) + v2) ((rd s.f_alloc ((v1 * (4 : Int32)) + v2)) + v3)) s.f_op s.f_kind s.f_amt s.f_len s.f_pc s.f_st s.f_queue s.f_work s.f_mark s.f_order s.f_qlen s.f_nproc s.f_cur s.f_olen)).bind fun p190 => (if inb p190.2.f_alloc.length ((v1 * (4 : Int32)) + v2) = true then (if inb p190.2.f_alloc.length ((v1 * (4 : Int32)) + v2) = true then (if inb p190.2.f_avail.length v2 = true then (if inb p190.2.f_avail.length v2 = true then some ((p190.1 &&& 1), (Q.mk p190.2.f_total (wr p190.2.f_avail v2 ((rd p190.2.f_avail v2) + v3)) p190.2.f_maxc (wr p190.2.f_alloc ((v1 * (4 : Int32)) + v2) ((rd p190.2.f_alloc ((v1 * (4 : Int32)) + v2)) - v3)) p190.2.f_op p190.2.f_kind p190.2.f_amt p190.2.f_len p190.2.f_pc p190.2.f_st p190.2.f_queue p190.2.f_work p190.2.f_mark p190.2.f_order p190.2.f_qlen p190.2.f_nproc p190.2.f_cur p190.2.f_olen)) else none) else none) else none) else none)) else none) else none) else none) else none)
theorem ln_j_tentativeSafe {s : Q} {v1 : Int32} {v2 : Int32} {v3 : Int32} {res : Int32 × Q} (h : j_tentativeSafe s v1 v2 v3 = some res) : Q.len res.2 = Q.len s := by
  rw [j_tentativeSafe] at h
  obtain ⟨hb122, h⟩ := ite_some h
  obtain ⟨hb123, h⟩ := ite_some h
  obtain ⟨hb124, h⟩ := ite_some h
  obtain ⟨hb125, h⟩ := ite_some h
  obtain ⟨p190, hq191, h⟩ := bind_some h
  have hl192 := (ln_j_computeSafety hq191).trans (Eq.trans (show Q.len (Q.mk s.f_total (wr s.f_avail v2 ((rd s.f_avail v2) - v3)) s.f_maxc (wr s.f_alloc ((v1 * (4 : Int32)) + v2) ((rd s.f_alloc ((v1 * (4 : Int32)) + v2)) + v3)) s.f_op s.f_kind s.f_amt s.f_len s.f_pc s.f_st s.f_queue s.f_work s.f_mark s.f_order s.f_qlen s.f_nproc s.f_cur s.f_olen) = Q.len s from own_lenmk.trans (by first | (simp only [len_wr, len_wrL] <;> rfl) | rfl)) rfl)
  obtain ⟨hb193, h⟩ := ite_some h
  obtain ⟨hb194, h⟩ := ite_some h
  obtain ⟨hb195, h⟩ := ite_some h
  obtain ⟨hb196, h⟩ := ite_some h
  have hr0 := Option.some.inj h
  subst hr0
  show Q.len (Q.mk p190.2.f_total (wr p190.2.f_avail v2 ((rd p190.2.f_avail v2) + v3)) p190.2.f_maxc (wr p190.2.f_alloc ((v1 * (4 : Int32)) + v2) ((rd p190.2.f_alloc ((v1 * (4 : Int32)) + v2)) - v3)) p190.2.f_op p190.2.f_kind p190.2.f_amt p190.2.f_len p190.2.f_pc p190.2.f_st p190.2.f_queue p190.2.f_work p190.2.f_mark p190.2.f_order p190.2.f_qlen p190.2.f_nproc p190.2.f_cur p190.2.f_olen) = _
  exact (Eq.trans (show Q.len (Q.mk p190.2.f_total (wr p190.2.f_avail v2 ((rd p190.2.f_avail v2) + v3)) p190.2.f_maxc (wr p190.2.f_alloc ((v1 * (4 : Int32)) + v2) ((rd p190.2.f_alloc ((v1 * (4 : Int32)) + v2)) - v3)) p190.2.f_op p190.2.f_kind p190.2.f_amt p190.2.f_len p190.2.f_pc p190.2.f_st p190.2.f_queue p190.2.f_work p190.2.f_mark p190.2.f_order p190.2.f_qlen p190.2.f_nproc p190.2.f_cur p190.2.f_olen) = Q.len p190.2 from own_lenmk.trans (by first | (simp only [len_wr, len_wrL] <;> rfl) | rfl)) hl192)
set_option maxRecDepth 100000 in
theorem ev_j_tentativeSafe (R : AHeap) (s : Q) (v1 : Int32) (v2 : Int32) (v3 : Int32) {res : Int32 × Q} {out : Option Value × AHeap} (h : j_tentativeSafe s v1 v2 v3 = some res) (hk : out = (some (.int res.1), (W1 res.2 R))) : Eval own_P 10 0 [some (.ref 0), some (.int v1), some (.int v2), some (.int v3), none, none] [] (W1 s R) out := by
  rw [j_tentativeSafe] at h
  refine Eval.iload_n rfl rfl ?_
  refine Eval.iconst (x := (4 : Int32)) rfl rfl ?_
  refine Eval.imul rfl ?_
  refine Eval.iload_n rfl rfl ?_
  refine Eval.iadd rfl ?_
  refine Eval.istore (L' := [some (.ref 0), some (.int v1), some (.int v2), some (.int v3), some (.int ((v1 * (4 : Int32)) + v2)), none]) rfl rfl ?_
  refine Eval.aload_n rfl rfl ?_
  refine Eval.getfield rfl rfl own_g1_alloc ?_
  refine Eval.iload rfl rfl ?_
  refine Eval.dup2 rfl ?_
  obtain ⟨hb122, h⟩ := ite_some h
  refine Eval.iaload rfl own_a1_alloc hb122 ?_
  refine Eval.iload_n rfl rfl ?_
  refine Eval.iadd rfl ?_
  obtain ⟨hb123, h⟩ := ite_some h
  refine Eval.iastore rfl rfl own_a1_alloc hb123 own_s1_alloc ?_
  refine Eval.aload_n rfl rfl ?_
  refine Eval.getfield rfl rfl own_g1_avail ?_
  refine Eval.iload_n rfl rfl ?_
  refine Eval.dup2 rfl ?_
  obtain ⟨hb124, h⟩ := ite_some h
  refine Eval.iaload rfl own_a1_avail hb124 ?_
  refine Eval.iload_n rfl rfl ?_
  refine Eval.isub rfl ?_
  obtain ⟨hb125, h⟩ := ite_some h
  refine Eval.iastore rfl rfl own_a1_avail hb125 own_s1_avail ?_
  refine Eval.aload_n rfl rfl ?_
  obtain ⟨p190, hq191, h⟩ := bind_some h
  refine Eval.callI (rest := []) (x := p190.1) (H1 := (W1 p190.2 R)) rfl rfl (Eval.heap own_mk1 (ev_j_computeSafety R (Q.mk s.f_total (wr s.f_avail v2 ((rd s.f_avail v2) - v3)) s.f_maxc (wr s.f_alloc ((v1 * (4 : Int32)) + v2) ((rd s.f_alloc ((v1 * (4 : Int32)) + v2)) + v3)) s.f_op s.f_kind s.f_amt s.f_len s.f_pc s.f_st s.f_queue s.f_work s.f_mark s.f_order s.f_qlen s.f_nproc s.f_cur s.f_olen) hq191 rfl)) ?_
  refine Eval.istore (L' := [some (.ref 0), some (.int v1), some (.int v2), some (.int v3), some (.int ((v1 * (4 : Int32)) + v2)), some (.int p190.1)]) rfl rfl ?_
  refine Eval.aload_n rfl rfl ?_
  refine Eval.getfield rfl rfl own_g1_alloc ?_
  refine Eval.iload rfl rfl ?_
  refine Eval.dup2 rfl ?_
  obtain ⟨hb193, h⟩ := ite_some h
  refine Eval.iaload rfl own_a1_alloc hb193 ?_
  refine Eval.iload_n rfl rfl ?_
  refine Eval.isub rfl ?_
  obtain ⟨hb194, h⟩ := ite_some h
  refine Eval.iastore rfl rfl own_a1_alloc hb194 own_s1_alloc ?_
  refine Eval.aload_n rfl rfl ?_
  refine Eval.getfield rfl rfl own_g1_avail ?_
  refine Eval.iload_n rfl rfl ?_
  refine Eval.dup2 rfl ?_
  obtain ⟨hb195, h⟩ := ite_some h
  refine Eval.iaload rfl own_a1_avail hb195 ?_
  refine Eval.iload_n rfl rfl ?_
  refine Eval.iadd rfl ?_
  obtain ⟨hb196, h⟩ := ite_some h
  refine Eval.iastore rfl rfl own_a1_avail hb196 own_s1_avail ?_
  refine Eval.iload rfl rfl ?_
  cases h
  subst hk
  exact Eval.retH own_mk1 rfl rfl
def j_retryOne (s : Q) (v1 : Int32) : Option (Int32 × Q) := (if v1 < (0 : Int32) then some ((0 : Int32), s) else (if v1 < (8 : Int32) then (if inb s.f_pc.length v1 = true then (if (rd s.f_pc v1) < (0 : Int32) then some ((0 : Int32), s) else (if inb s.f_len.length v1 = true then (if (rd s.f_pc v1) < (rd s.f_len v1) then (if (rd s.f_pc v1) < (8 : Int32) then (if inb s.f_op.length ((v1 * (8 : Int32)) + (rd s.f_pc v1)) = true then (if (rd s.f_op ((v1 * (8 : Int32)) + (rd s.f_pc v1))) = (1 : Int32) then (if inb s.f_kind.length ((v1 * (8 : Int32)) + (rd s.f_pc v1)) = true then (if inb s.f_amt.length ((v1 * (8 : Int32)) + (rd s.f_pc v1)) = true then (if (j_validKind (rd s.f_kind ((v1 * (8 : Int32)) + (rd s.f_pc v1)))) = (0 : Int32) then some ((0 : Int32), s) else (if inb s.f_avail.length (rd s.f_kind ((v1 * (8 : Int32)) + (rd s.f_pc v1))) = true then (if (rd s.f_avail (rd s.f_kind ((v1 * (8 : Int32)) + (rd s.f_pc v1)))) < (rd s.f_amt ((v1 * (8 : Int32)) + (rd s.f_pc v1))) then some ((0 : Int32), s) else ((j_tentativeSafe s v1 (rd s.f_kind ((v1 * (8 : Int32)) + (rd s.f_pc v1))) (rd s.f_amt ((v1 * (8 : Int32)) + (rd s.f_pc v1)))).bind fun p197 => (if p197.1 = (0 : Int32) then some ((0 : Int32), p197.2) else (if inb p197.2.f_alloc.length ((v1 * (4 : Int32)) + (rd s.f_kind ((v1 * (8 : Int32)) + (rd s.f_pc v1)))) = true then (if inb p197.2.f_alloc.length ((v1 * (4 : Int32)) + (rd s.f_kind ((v1 * (8 : Int32)) + (rd s.f_pc v1)))) = true then (if inb p197.2.f_avail.length (rd s.f_kind ((v1 * (8 : Int32)) + (rd s.f_pc v1))) = true then (if inb p197.2.f_avail.length (rd s.f_kind ((v1 * (8 : Int32)) + (rd s.f_pc v1))) = true then (if inb p197.2.f_st.length v1 = true then (if inb p197.2.f_pc.length v1 = true then some ((1 : Int32), (Q.mk p197.2.f_total (wr p197.2.f_avail (rd s.f_kind ((v1 * (8 : Int32)) + (rd s.f_pc v1))) ((rd p197.2.f_avail (rd s.f_kind ((v1 * (8 : Int32)) + (rd s.f_pc v1)))) - (rd s.f_amt ((v1 * (8 : Int32)) + (rd s.f_pc v1))))) p197.2.f_maxc (wr p197.2.f_alloc ((v1 * (4 : Int32)) + (rd s.f_kind ((v1 * (8 : Int32)) + (rd s.f_pc v1)))) ((rd p197.2.f_alloc ((v1 * (4 : Int32)) + (rd s.f_kind ((v1 * (8 : Int32)) + (rd s.f_pc v1))))) + (rd s.f_amt ((v1 * (8 : Int32)) + (rd s.f_pc v1))))) p197.2.f_op p197.2.f_kind p197.2.f_amt p197.2.f_len (wr p197.2.f_pc v1 ((rd s.f_pc v1) + (1 : Int32))) (wr p197.2.f_st v1 (1 : Int32)) p197.2.f_queue p197.2.f_work p197.2.f_mark p197.2.f_order p197.2.f_qlen p197.2.f_nproc p197.2.f_cur p197.2.f_olen)) else none) else none) else none) else none) else none) else none)))) else none)) else none) else none) else some ((0 : Int32), s)) else none) else some ((0 : Int32), s)) else some ((0 : Int32), s)) else none)) else none) else some ((0 : Int32), s)))
theorem ln_j_retryOne {s : Q} {v1 : Int32} {res : Int32 × Q} (h : j_retryOne s v1 = some res) : Q.len res.2 = Q.len s := by
  rw [j_retryOne] at h
  by_cases hc108 : v1 < (0 : Int32)
  · rw [if_pos hc108] at h
    have hr0 := Option.some.inj h
    subst hr0
    show Q.len s = _
    exact rfl
  · rw [if_neg hc108] at h
    by_cases hc109 : v1 < (8 : Int32)
    · rw [if_pos hc109] at h
      obtain ⟨hb110, h⟩ := ite_some h
      by_cases hc111 : (rd s.f_pc v1) < (0 : Int32)
      · rw [if_pos hc111] at h
        have hr0 := Option.some.inj h
        subst hr0
        show Q.len s = _
        exact rfl
      · rw [if_neg hc111] at h
        obtain ⟨hb112, h⟩ := ite_some h
        by_cases hc113 : (rd s.f_pc v1) < (rd s.f_len v1)
        · rw [if_pos hc113] at h
          by_cases hc114 : (rd s.f_pc v1) < (8 : Int32)
          · rw [if_pos hc114] at h
            obtain ⟨hb115, h⟩ := ite_some h
            by_cases hc116 : (rd s.f_op ((v1 * (8 : Int32)) + (rd s.f_pc v1))) = (1 : Int32)
            · rw [if_pos hc116] at h
              obtain ⟨hb117, h⟩ := ite_some h
              obtain ⟨hb118, h⟩ := ite_some h
              by_cases hc119 : (j_validKind (rd s.f_kind ((v1 * (8 : Int32)) + (rd s.f_pc v1)))) = (0 : Int32)
              · rw [if_pos hc119] at h
                have hr0 := Option.some.inj h
                subst hr0
                show Q.len s = _
                exact rfl
              · rw [if_neg hc119] at h
                obtain ⟨hb120, h⟩ := ite_some h
                by_cases hc121 : (rd s.f_avail (rd s.f_kind ((v1 * (8 : Int32)) + (rd s.f_pc v1)))) < (rd s.f_amt ((v1 * (8 : Int32)) + (rd s.f_pc v1)))
                · rw [if_pos hc121] at h
                  have hr0 := Option.some.inj h
                  subst hr0
                  show Q.len s = _
                  exact rfl
                · rw [if_neg hc121] at h
                  obtain ⟨p197, hq198, h⟩ := bind_some h
                  have hl199 := (ln_j_tentativeSafe hq198).trans rfl
                  by_cases hc200 : p197.1 = (0 : Int32)
                  · rw [if_pos hc200] at h
                    have hr0 := Option.some.inj h
                    subst hr0
                    show Q.len p197.2 = _
                    exact hl199
                  · rw [if_neg hc200] at h
                    obtain ⟨hb201, h⟩ := ite_some h
                    obtain ⟨hb202, h⟩ := ite_some h
                    obtain ⟨hb203, h⟩ := ite_some h
                    obtain ⟨hb204, h⟩ := ite_some h
                    obtain ⟨hb205, h⟩ := ite_some h
                    obtain ⟨hb206, h⟩ := ite_some h
                    have hr0 := Option.some.inj h
                    subst hr0
                    show Q.len (Q.mk p197.2.f_total (wr p197.2.f_avail (rd s.f_kind ((v1 * (8 : Int32)) + (rd s.f_pc v1))) ((rd p197.2.f_avail (rd s.f_kind ((v1 * (8 : Int32)) + (rd s.f_pc v1)))) - (rd s.f_amt ((v1 * (8 : Int32)) + (rd s.f_pc v1))))) p197.2.f_maxc (wr p197.2.f_alloc ((v1 * (4 : Int32)) + (rd s.f_kind ((v1 * (8 : Int32)) + (rd s.f_pc v1)))) ((rd p197.2.f_alloc ((v1 * (4 : Int32)) + (rd s.f_kind ((v1 * (8 : Int32)) + (rd s.f_pc v1))))) + (rd s.f_amt ((v1 * (8 : Int32)) + (rd s.f_pc v1))))) p197.2.f_op p197.2.f_kind p197.2.f_amt p197.2.f_len (wr p197.2.f_pc v1 ((rd s.f_pc v1) + (1 : Int32))) (wr p197.2.f_st v1 (1 : Int32)) p197.2.f_queue p197.2.f_work p197.2.f_mark p197.2.f_order p197.2.f_qlen p197.2.f_nproc p197.2.f_cur p197.2.f_olen) = _
                    exact (Eq.trans (show Q.len (Q.mk p197.2.f_total (wr p197.2.f_avail (rd s.f_kind ((v1 * (8 : Int32)) + (rd s.f_pc v1))) ((rd p197.2.f_avail (rd s.f_kind ((v1 * (8 : Int32)) + (rd s.f_pc v1)))) - (rd s.f_amt ((v1 * (8 : Int32)) + (rd s.f_pc v1))))) p197.2.f_maxc (wr p197.2.f_alloc ((v1 * (4 : Int32)) + (rd s.f_kind ((v1 * (8 : Int32)) + (rd s.f_pc v1)))) ((rd p197.2.f_alloc ((v1 * (4 : Int32)) + (rd s.f_kind ((v1 * (8 : Int32)) + (rd s.f_pc v1))))) + (rd s.f_amt ((v1 * (8 : Int32)) + (rd s.f_pc v1))))) p197.2.f_op p197.2.f_kind p197.2.f_amt p197.2.f_len (wr p197.2.f_pc v1 ((rd s.f_pc v1) + (1 : Int32))) (wr p197.2.f_st v1 (1 : Int32)) p197.2.f_queue p197.2.f_work p197.2.f_mark p197.2.f_order p197.2.f_qlen p197.2.f_nproc p197.2.f_cur p197.2.f_olen) = Q.len p197.2 from own_lenmk.trans (by first | (simp only [len_wr, len_wrL] <;> rfl) | rfl)) hl199)
            · rw [if_neg hc116] at h
              have hr0 := Option.some.inj h
              subst hr0
              show Q.len s = _
              exact rfl
          · rw [if_neg hc114] at h
            have hr0 := Option.some.inj h
            subst hr0
            show Q.len s = _
            exact rfl
        · rw [if_neg hc113] at h
          have hr0 := Option.some.inj h
          subst hr0
          show Q.len s = _
          exact rfl
    · rw [if_neg hc109] at h
      have hr0 := Option.some.inj h
      subst hr0
      show Q.len s = _
      exact rfl
set_option maxRecDepth 100000 in
theorem ev_j_retryOne (R : AHeap) (s : Q) (v1 : Int32) {res : Int32 × Q} {out : Option Value × AHeap} (h : j_retryOne s v1 = some res) (hk : out = (some (.int res.1), (W1 res.2 R))) : Eval own_P 24 0 [some (.ref 0), some (.int v1), none, none, none, none] [] (W1 s R) out := by
  rw [j_retryOne] at h
  refine Eval.iload_n rfl rfl ?_
  by_cases hc108 : v1 < (0 : Int32)
  · rw [if_pos hc108] at h
    refine Eval.ifT (t := 10) rfl rfl (tlt hc108).1 ?_
    refine Eval.iconst (x := (0 : Int32)) rfl rfl ?_
    cases h
    subst hk
    exact Eval.ret rfl rfl
  · rw [if_neg hc108] at h
    refine Eval.ifF rfl (flt hc108).1 ?_
    refine Eval.iload_n rfl rfl ?_
    refine Eval.bipush (x := (8 : Int32)) rfl rfl ?_
    by_cases hc109 : v1 < (8 : Int32)
    · rw [if_pos hc109] at h
      refine Eval.icmpT (t := 12) rfl rfl (tlt hc109).1 ?_
      refine Eval.aload_n rfl rfl ?_
      refine Eval.getfield rfl rfl own_g1_pc ?_
      refine Eval.iload_n rfl rfl ?_
      obtain ⟨hb110, h⟩ := ite_some h
      refine Eval.iaload rfl own_a1_pc hb110 ?_
      refine Eval.istore_n (L' := [some (.ref 0), some (.int v1), some (.int (rd s.f_pc v1)), none, none, none]) rfl rfl ?_
      refine Eval.iload_n rfl rfl ?_
      by_cases hc111 : (rd s.f_pc v1) < (0 : Int32)
      · rw [if_pos hc111] at h
        refine Eval.ifT (t := 39) rfl rfl (tlt hc111).1 ?_
        refine Eval.iconst (x := (0 : Int32)) rfl rfl ?_
        cases h
        subst hk
        exact Eval.ret rfl rfl
      · rw [if_neg hc111] at h
        refine Eval.ifF rfl (flt hc111).1 ?_
        refine Eval.iload_n rfl rfl ?_
        refine Eval.aload_n rfl rfl ?_
        refine Eval.getfield rfl rfl own_g1_len ?_
        refine Eval.iload_n rfl rfl ?_
        obtain ⟨hb112, h⟩ := ite_some h
        refine Eval.iaload rfl own_a1_len hb112 ?_
        by_cases hc113 : (rd s.f_pc v1) < (rd s.f_len v1)
        · rw [if_pos hc113] at h
          refine Eval.icmpF rfl (tlt hc113).2.1 ?_
          refine Eval.iload_n rfl rfl ?_
          refine Eval.bipush (x := (8 : Int32)) rfl rfl ?_
          by_cases hc114 : (rd s.f_pc v1) < (8 : Int32)
          · rw [if_pos hc114] at h
            refine Eval.icmpT (t := 41) rfl rfl (tlt hc114).1 ?_
            refine Eval.iload_n rfl rfl ?_
            refine Eval.bipush (x := (8 : Int32)) rfl rfl ?_
            refine Eval.imul rfl ?_
            refine Eval.iload_n rfl rfl ?_
            refine Eval.iadd rfl ?_
            refine Eval.istore_n (L' := [some (.ref 0), some (.int v1), some (.int (rd s.f_pc v1)), some (.int ((v1 * (8 : Int32)) + (rd s.f_pc v1))), none, none]) rfl rfl ?_
            refine Eval.aload_n rfl rfl ?_
            refine Eval.getfield rfl rfl own_g1_op ?_
            refine Eval.iload_n rfl rfl ?_
            obtain ⟨hb115, h⟩ := ite_some h
            refine Eval.iaload rfl own_a1_op hb115 ?_
            refine Eval.iconst (x := (1 : Int32)) rfl rfl ?_
            by_cases hc116 : (rd s.f_op ((v1 * (8 : Int32)) + (rd s.f_pc v1))) = (1 : Int32)
            · rw [if_pos hc116] at h
              refine Eval.icmpT (t := 60) rfl rfl (teq hc116).1 ?_
              refine Eval.aload_n rfl rfl ?_
              refine Eval.getfield rfl rfl own_g1_kind ?_
              refine Eval.iload_n rfl rfl ?_
              obtain ⟨hb117, h⟩ := ite_some h
              refine Eval.iaload rfl own_a1_kind hb117 ?_
              refine Eval.istore (L' := [some (.ref 0), some (.int v1), some (.int (rd s.f_pc v1)), some (.int ((v1 * (8 : Int32)) + (rd s.f_pc v1))), some (.int (rd s.f_kind ((v1 * (8 : Int32)) + (rd s.f_pc v1)))), none]) rfl rfl ?_
              refine Eval.aload_n rfl rfl ?_
              refine Eval.getfield rfl rfl own_g1_amt ?_
              refine Eval.iload_n rfl rfl ?_
              obtain ⟨hb118, h⟩ := ite_some h
              refine Eval.iaload rfl own_a1_amt hb118 ?_
              refine Eval.istore (L' := [some (.ref 0), some (.int v1), some (.int (rd s.f_pc v1)), some (.int ((v1 * (8 : Int32)) + (rd s.f_pc v1))), some (.int (rd s.f_kind ((v1 * (8 : Int32)) + (rd s.f_pc v1)))), some (.int (rd s.f_amt ((v1 * (8 : Int32)) + (rd s.f_pc v1))))]) rfl rfl ?_
              refine Eval.aload_n rfl rfl ?_
              refine Eval.iload rfl rfl ?_
              refine Eval.callI (rest := []) (x := (j_validKind (rd s.f_kind ((v1 * (8 : Int32)) + (rd s.f_pc v1))))) (H1 := (W1 s R)) rfl rfl (ev_j_validKind (W1 s R) 0 (rd s.f_kind ((v1 * (8 : Int32)) + (rd s.f_pc v1))) rfl rfl) ?_
              by_cases hc119 : (j_validKind (rd s.f_kind ((v1 * (8 : Int32)) + (rd s.f_pc v1)))) = (0 : Int32)
              · rw [if_pos hc119] at h
                refine Eval.ifT (t := 97) rfl rfl (teq hc119).1 ?_
                refine Eval.iconst (x := (0 : Int32)) rfl rfl ?_
                cases h
                subst hk
                exact Eval.ret rfl rfl
              · rw [if_neg hc119] at h
                refine Eval.ifF rfl (feq hc119).1 ?_
                refine Eval.iload rfl rfl ?_
                refine Eval.aload_n rfl rfl ?_
                refine Eval.getfield rfl rfl own_g1_avail ?_
                refine Eval.iload rfl rfl ?_
                obtain ⟨hb120, h⟩ := ite_some h
                refine Eval.iaload rfl own_a1_avail hb120 ?_
                by_cases hc121 : (rd s.f_avail (rd s.f_kind ((v1 * (8 : Int32)) + (rd s.f_pc v1)))) < (rd s.f_amt ((v1 * (8 : Int32)) + (rd s.f_pc v1)))
                · rw [if_pos hc121] at h
                  refine Eval.icmpF rfl (tlt hc121).2.2.2 ?_
                  refine Eval.iconst (x := (0 : Int32)) rfl rfl ?_
                  cases h
                  subst hk
                  exact Eval.ret rfl rfl
                · rw [if_neg hc121] at h
                  refine Eval.icmpT (t := 99) rfl rfl (flt hc121).2.2.2 ?_
                  refine Eval.aload_n rfl rfl ?_
                  refine Eval.iload_n rfl rfl ?_
                  refine Eval.iload rfl rfl ?_
                  refine Eval.iload rfl rfl ?_
                  obtain ⟨p197, hq198, h⟩ := bind_some h
                  refine Eval.callI (rest := []) (x := p197.1) (H1 := (W1 p197.2 R)) rfl rfl (ev_j_tentativeSafe R s v1 (rd s.f_kind ((v1 * (8 : Int32)) + (rd s.f_pc v1))) (rd s.f_amt ((v1 * (8 : Int32)) + (rd s.f_pc v1))) hq198 rfl) ?_
                  by_cases hc200 : p197.1 = (0 : Int32)
                  · rw [if_pos hc200] at h
                    refine Eval.ifF rfl (teq hc200).2 ?_
                    refine Eval.iconst (x := (0 : Int32)) rfl rfl ?_
                    cases h
                    subst hk
                    exact Eval.ret rfl rfl
                  · rw [if_neg hc200] at h
                    refine Eval.ifT (t := 113) rfl rfl (feq hc200).2 ?_
                    refine Eval.aload_n rfl rfl ?_
                    refine Eval.getfield rfl rfl own_g1_alloc ?_
                    refine Eval.iload_n rfl rfl ?_
                    refine Eval.iconst (x := (4 : Int32)) rfl rfl ?_
                    refine Eval.imul rfl ?_
                    refine Eval.iload rfl rfl ?_
                    refine Eval.iadd rfl ?_
                    refine Eval.dup2 rfl ?_
                    obtain ⟨hb201, h⟩ := ite_some h
                    refine Eval.iaload rfl own_a1_alloc hb201 ?_
                    refine Eval.iload rfl rfl ?_
                    refine Eval.iadd rfl ?_
                    obtain ⟨hb202, h⟩ := ite_some h
                    refine Eval.iastore rfl rfl own_a1_alloc hb202 own_s1_alloc ?_
                    refine Eval.aload_n rfl rfl ?_
                    refine Eval.getfield rfl rfl own_g1_avail ?_
                    refine Eval.iload rfl rfl ?_
                    refine Eval.dup2 rfl ?_
                    obtain ⟨hb203, h⟩ := ite_some h
                    refine Eval.iaload rfl own_a1_avail hb203 ?_
                    refine Eval.iload rfl rfl ?_
                    refine Eval.isub rfl ?_
                    obtain ⟨hb204, h⟩ := ite_some h
                    refine Eval.iastore rfl rfl own_a1_avail hb204 own_s1_avail ?_
                    refine Eval.aload_n rfl rfl ?_
                    refine Eval.getfield rfl rfl own_g1_st ?_
                    refine Eval.iload_n rfl rfl ?_
                    refine Eval.iconst (x := (1 : Int32)) rfl rfl ?_
                    obtain ⟨hb205, h⟩ := ite_some h
                    refine Eval.iastore rfl rfl own_a1_st hb205 own_s1_st ?_
                    refine Eval.aload_n rfl rfl ?_
                    refine Eval.getfield rfl rfl own_g1_pc ?_
                    refine Eval.iload_n rfl rfl ?_
                    refine Eval.iload_n rfl rfl ?_
                    refine Eval.iconst (x := (1 : Int32)) rfl rfl ?_
                    refine Eval.iadd rfl ?_
                    obtain ⟨hb206, h⟩ := ite_some h
                    refine Eval.iastore rfl rfl own_a1_pc hb206 own_s1_pc ?_
                    refine Eval.iconst (x := (1 : Int32)) rfl rfl ?_
                    cases h
                    subst hk
                    exact Eval.retH own_mk1 rfl rfl
            · rw [if_neg hc116] at h
              refine Eval.icmpF rfl (feq hc116).1 ?_
              refine Eval.iconst (x := (0 : Int32)) rfl rfl ?_
              cases h
              subst hk
              exact Eval.ret rfl rfl
          · rw [if_neg hc114] at h
            refine Eval.icmpF rfl (flt hc114).1 ?_
            refine Eval.iconst (x := (0 : Int32)) rfl rfl ?_
            cases h
            subst hk
            exact Eval.ret rfl rfl
        · rw [if_neg hc113] at h
          refine Eval.icmpT (t := 39) rfl rfl (flt hc113).2.1 ?_
          refine Eval.iconst (x := (0 : Int32)) rfl rfl ?_
          cases h
          subst hk
          exact Eval.ret rfl rfl
    · rw [if_neg hc109] at h
      refine Eval.icmpF rfl (flt hc109).1 ?_
      refine Eval.iconst (x := (0 : Int32)) rfl rfl ?_
      cases h
      subst hk
      exact Eval.ret rfl rfl
def j_retryPass_b51 (go_ : Q → Int32 → Int32 → Int32 → Option (Int32 × Q)) (s : Q) (v1 : Int32) (v2 : Int32) (v3 : Int32) : Option (Int32 × Q) := (go_ s v1 v2 (v3 + (1 : Int32)))
theorem ln_j_retryPass_b51 {go_ : Q → Int32 → Int32 → Int32 → Option (Int32 × Q)} (hrec : ∀ (s : Q) (v1 : Int32) (v2 : Int32) (v3 : Int32) {res : Int32 × Q}, go_ s v1 v2 v3 = some res → j_retryPass_l18_N s res) {s : Q} {v1 : Int32} {v2 : Int32} {v3 : Int32} {res : Int32 × Q} (h : j_retryPass_b51 go_ s v1 v2 v3 = some res) : j_retryPass_l18_N s res := by
  rw [j_retryPass_b51] at h
  exact (hrec _ _ _ _ h).trans rfl
set_option maxRecDepth 100000 in
theorem ev_j_retryPass_b51 (R : AHeap) (go_ : Q → Int32 → Int32 → Int32 → Option (Int32 × Q)) (hrec : ∀ (s : Q) (v1 : Int32) (v2 : Int32) (v3 : Int32) {res : Int32 × Q} {out : Option Value × AHeap}, go_ s v1 v2 v3 = some res → j_retryPass_l18_K R res out → Eval own_P 23 18 [some (.ref 0), some (.int v1), some (.int v2), some (.int v3), none] [] (W1 s R) out) (s : Q) (v1 : Int32) (v2 : Int32) (v3 : Int32) {res : Int32 × Q} {out : Option Value × AHeap} (h : j_retryPass_b51 go_ s v1 v2 v3 = some res) (hk : j_retryPass_l18_K R res out) : Eval own_P 23 51 [some (.ref 0), some (.int v1), some (.int v2), some (.int v3), none] [] (W1 s R) out := by
  rw [j_retryPass_b51] at h
  refine Eval.iinc (L' := [some (.ref 0), some (.int v1), some (.int v2), some (.int (v3 + (1 : Int32))), none]) rfl rfl rfl ?_
  refine Eval.goto (t := 18) rfl rfl ?_
  exact hrec _ _ _ _ h hk
def j_retryPass_l18 : Nat → Q → Int32 → Int32 → Int32 → Option (Int32 × Q)
  | 0, _, _, _, _ => none
  | n + 1, s, v1, v2, v3 => (if v3 < v1 then (if inb s.f_queue.length v3 = true then ((j_retryOne s (rd s.f_queue v3)).bind fun p207 => (if p207.1 = (0 : Int32) then (if inb p207.2.f_queue.length v2 = true then (j_retryPass_b51 (j_retryPass_l18 n) (Q.mk p207.2.f_total p207.2.f_avail p207.2.f_maxc p207.2.f_alloc p207.2.f_op p207.2.f_kind p207.2.f_amt p207.2.f_len p207.2.f_pc p207.2.f_st (wr p207.2.f_queue v2 (rd s.f_queue v3)) p207.2.f_work p207.2.f_mark p207.2.f_order p207.2.f_qlen p207.2.f_nproc p207.2.f_cur p207.2.f_olen) v1 (v2 + (1 : Int32)) v3) else none) else (j_retryPass_b51 (j_retryPass_l18 n) p207.2 v1 v2 v3))) else none) else some (v2, s))
theorem ln_j_retryPass_l18 : ∀ {n : Nat} {s : Q} {v1 : Int32} {v2 : Int32} {v3 : Int32} {res : Int32 × Q}, j_retryPass_l18 n s v1 v2 v3 = some res → j_retryPass_l18_N s res := by
  intro n
  induction n with
  | zero => intro _ _ _ _ res h; cases h
  | succ n hrec0 =>
    have hrec : ∀ (s : Q) (v1 : Int32) (v2 : Int32) (v3 : Int32) {res : Int32 × Q}, j_retryPass_l18 n s v1 v2 v3 = some res → j_retryPass_l18_N s res := by intros; apply hrec0; assumption
    intro s v1 v2 v3 res h
    rw [j_retryPass_l18] at h
    by_cases hc106 : v3 < v1
    · rw [if_pos hc106] at h
      obtain ⟨hb107, h⟩ := ite_some h
      obtain ⟨p207, hq208, h⟩ := bind_some h
      have hl209 := (ln_j_retryOne hq208).trans rfl
      by_cases hc211 : p207.1 = (0 : Int32)
      · rw [if_pos hc211] at h
        obtain ⟨hb212, h⟩ := ite_some h
        exact Eq.trans (ln_j_retryPass_b51 hrec h) (Eq.trans (show Q.len (Q.mk p207.2.f_total p207.2.f_avail p207.2.f_maxc p207.2.f_alloc p207.2.f_op p207.2.f_kind p207.2.f_amt p207.2.f_len p207.2.f_pc p207.2.f_st (wr p207.2.f_queue v2 (rd s.f_queue v3)) p207.2.f_work p207.2.f_mark p207.2.f_order p207.2.f_qlen p207.2.f_nproc p207.2.f_cur p207.2.f_olen) = Q.len p207.2 from own_lenmk.trans (by first | (simp only [len_wr, len_wrL] <;> rfl) | rfl)) hl209)
      · rw [if_neg hc211] at h
        exact Eq.trans (ln_j_retryPass_b51 hrec h) hl209
    · rw [if_neg hc106] at h
      have hr0 := Option.some.inj h
      subst hr0
      show Q.len s = _
      exact rfl
set_option maxRecDepth 100000 in
theorem ev_j_retryPass_l18 (R : AHeap) : ∀ (n : Nat) (s : Q) (v1 : Int32) (v2 : Int32) (v3 : Int32) {res : Int32 × Q} {out : Option Value × AHeap}, j_retryPass_l18 n s v1 v2 v3 = some res → j_retryPass_l18_K R res out → Eval own_P 23 18 [some (.ref 0), some (.int v1), some (.int v2), some (.int v3), none] [] (W1 s R) out := by
  intro n
  induction n with
  | zero => intro _ _ _ _ res out h hk; cases h
  | succ n hrec =>
    intro s v1 v2 v3 res out h hk
    rw [j_retryPass_l18] at h
    refine Eval.iload_n rfl rfl ?_
    refine Eval.iload_n rfl rfl ?_
    by_cases hc106 : v3 < v1
    · rw [if_pos hc106] at h
      refine Eval.icmpF rfl (tlt hc106).2.1 ?_
      refine Eval.aload_n rfl rfl ?_
      refine Eval.getfield rfl rfl own_g1_queue ?_
      refine Eval.iload_n rfl rfl ?_
      obtain ⟨hb107, h⟩ := ite_some h
      refine Eval.iaload rfl own_a1_queue hb107 ?_
      refine Eval.istore (L' := [some (.ref 0), some (.int v1), some (.int v2), some (.int v3), some (.int (rd s.f_queue v3))]) rfl rfl ?_
      refine Eval.aload_n rfl rfl ?_
      refine Eval.iload rfl rfl ?_
      obtain ⟨p207, hq208, h⟩ := bind_some h
      refine Eval.callI (rest := []) (x := p207.1) (H1 := (W1 p207.2 R)) rfl rfl (ev_j_retryOne R s (rd s.f_queue v3) hq208 rfl) ?_
      by_cases hc211 : p207.1 = (0 : Int32)
      · rw [if_pos hc211] at h
        refine Eval.ifF rfl (teq hc211).2 ?_
        refine Eval.aload_n rfl rfl ?_
        refine Eval.getfield rfl rfl own_g1_queue ?_
        refine Eval.iload_n rfl rfl ?_
        refine Eval.iload rfl rfl ?_
        obtain ⟨hb212, h⟩ := ite_some h
        refine Eval.iastore rfl rfl own_a1_queue hb212 own_s1_queue ?_
        refine Eval.iinc (L' := [some (.ref 0), some (.int v1), some (.int (v2 + (1 : Int32))), some (.int v3), some (.int (rd s.f_queue v3))]) rfl rfl rfl ?_
        refine Eval.heap own_mk1 ?_
        refine Eval.weak (L' := [some (.ref 0), some (.int v1), some (.int (v2 + (1 : Int32))), some (.int v3), none]) ⟨_, _, rfl, Or.inr rfl, _, _, rfl, Or.inr rfl, _, _, rfl, Or.inr rfl, _, _, rfl, Or.inr rfl, _, _, rfl, Or.inl rfl, rfl⟩ ?_
        exact ev_j_retryPass_b51 R _ hrec (Q.mk p207.2.f_total p207.2.f_avail p207.2.f_maxc p207.2.f_alloc p207.2.f_op p207.2.f_kind p207.2.f_amt p207.2.f_len p207.2.f_pc p207.2.f_st (wr p207.2.f_queue v2 (rd s.f_queue v3)) p207.2.f_work p207.2.f_mark p207.2.f_order p207.2.f_qlen p207.2.f_nproc p207.2.f_cur p207.2.f_olen) v1 (v2 + (1 : Int32)) v3 h hk
      · rw [if_neg hc211] at h
        refine Eval.ifT (t := 51) rfl rfl (feq hc211).2 ?_
        refine Eval.weak (L' := [some (.ref 0), some (.int v1), some (.int v2), some (.int v3), none]) ⟨_, _, rfl, Or.inr rfl, _, _, rfl, Or.inr rfl, _, _, rfl, Or.inr rfl, _, _, rfl, Or.inr rfl, _, _, rfl, Or.inl rfl, rfl⟩ ?_
        exact ev_j_retryPass_b51 R _ hrec p207.2 v1 v2 v3 h hk
    · rw [if_neg hc106] at h
      refine Eval.icmpT (t := 57) rfl rfl (flt hc106).2.1 ?_
      cases h
      refine Eval.weak (L' := [some (.ref 0), none, some (.int v2), none, none]) ⟨_, _, rfl, Or.inr rfl, _, _, rfl, Or.inl rfl, _, _, rfl, Or.inr rfl, _, _, rfl, Or.inl rfl, _, _, rfl, Or.inl rfl, rfl⟩ ?_
      exact hk
def j_retryPass_b14 (s : Q) (v1 : Int32) : Option (Q) := ((j_retryPass_l18 3000 s v1 (0 : Int32) (0 : Int32)).bind fun p213 => some ((Q.mk p213.2.f_total p213.2.f_avail p213.2.f_maxc p213.2.f_alloc p213.2.f_op p213.2.f_kind p213.2.f_amt p213.2.f_len p213.2.f_pc p213.2.f_st p213.2.f_queue p213.2.f_work p213.2.f_mark p213.2.f_order p213.1 p213.2.f_nproc p213.2.f_cur p213.2.f_olen)))
theorem ln_j_retryPass_b14 {s : Q} {v1 : Int32} {res : Q} (h : j_retryPass_b14 s v1 = some res) : Q.len res = Q.len s := by
  rw [j_retryPass_b14] at h
  obtain ⟨p213, hq214, h⟩ := bind_some h
  have hl215 : Q.len p213.2 = _ := Eq.trans (ln_j_retryPass_l18 hq214) rfl
  have hr0 := Option.some.inj h
  subst hr0
  show Q.len (Q.mk p213.2.f_total p213.2.f_avail p213.2.f_maxc p213.2.f_alloc p213.2.f_op p213.2.f_kind p213.2.f_amt p213.2.f_len p213.2.f_pc p213.2.f_st p213.2.f_queue p213.2.f_work p213.2.f_mark p213.2.f_order p213.1 p213.2.f_nproc p213.2.f_cur p213.2.f_olen) = _
  exact (Eq.trans (show Q.len (Q.mk p213.2.f_total p213.2.f_avail p213.2.f_maxc p213.2.f_alloc p213.2.f_op p213.2.f_kind p213.2.f_amt p213.2.f_len p213.2.f_pc p213.2.f_st p213.2.f_queue p213.2.f_work p213.2.f_mark p213.2.f_order p213.1 p213.2.f_nproc p213.2.f_cur p213.2.f_olen) = Q.len p213.2 from own_lenmk.trans (by first | (simp only [len_wr, len_wrL] <;> rfl) | rfl)) hl215)
set_option maxRecDepth 100000 in
theorem ev_j_retryPass_b14 (R : AHeap) (s : Q) (v1 : Int32) {res : Q} {out : Option Value × AHeap} (h : j_retryPass_b14 s v1 = some res) (hk : out = (none, (W1 res R))) : Eval own_P 23 14 [some (.ref 0), some (.int v1), none, none, none] [] (W1 s R) out := by
  rw [j_retryPass_b14] at h
  refine Eval.iconst (x := (0 : Int32)) rfl rfl ?_
  refine Eval.istore_n (L' := [some (.ref 0), some (.int v1), some (.int (0 : Int32)), none, none]) rfl rfl ?_
  refine Eval.iconst (x := (0 : Int32)) rfl rfl ?_
  refine Eval.istore_n (L' := [some (.ref 0), some (.int v1), some (.int (0 : Int32)), some (.int (0 : Int32)), none]) rfl rfl ?_
  obtain ⟨p213, hq214, h⟩ := bind_some h
  refine ev_j_retryPass_l18 R _ s v1 (0 : Int32) (0 : Int32) hq214 ?_
  show Eval own_P 23 57 [some (.ref 0), none, some (.int p213.1), none, none] [] (W1 p213.2 R) out
  refine Eval.aload_n rfl rfl ?_
  refine Eval.iload_n rfl rfl ?_
  refine Eval.putfield rfl rfl own_p1_qlen ?_
  cases h
  subst hk
  exact Eval.retH own_mk1 rfl rfl
def j_retryPass (s : Q) : Option (Q) := (j_retryPass_b14 s (if (8 : Int32) < s.f_qlen then (8 : Int32) else s.f_qlen))
theorem ln_j_retryPass {s : Q} {res : Q} (h : j_retryPass s = some res) : Q.len res = Q.len s := by
  rw [j_retryPass] at h
  exact Eq.trans (ln_j_retryPass_b14 h) rfl
set_option maxRecDepth 100000 in
theorem ev_j_retryPass (R : AHeap) (s : Q) {res : Q} {out : Option Value × AHeap} (h : j_retryPass s = some res) (hk : out = (none, (W1 res R))) : Eval own_P 23 0 [some (.ref 0), none, none, none, none] [] (W1 s R) out := by
  rw [j_retryPass] at h
  refine Eval.aload_n rfl rfl ?_
  refine Eval.getfield rfl rfl own_g1_qlen ?_
  refine Eval.istore_n (L' := [some (.ref 0), some (.int s.f_qlen), none, none, none]) rfl rfl ?_
  refine Eval.iload_n rfl rfl ?_
  refine Eval.bipush (x := (8 : Int32)) rfl rfl ?_
  suffices hJ105 : Eval own_P 23 14 [some (.ref 0), some (.int (if (8 : Int32) < s.f_qlen then (8 : Int32) else s.f_qlen)), none, none, none] [] (W1 s R) out by
    by_cases hc104 : (8 : Int32) < s.f_qlen
    · refine Eval.icmpF rfl (tlt hc104).2.2.2 ?_
      refine Eval.bipush (x := (8 : Int32)) rfl rfl ?_
      refine Eval.istore_n (L' := [some (.ref 0), some (.int (8 : Int32)), none, none, none]) rfl rfl ?_
      exact (Eval.conv hJ105 (by simp only [if_pos hc104]) rfl)
    · refine Eval.icmpT (t := 14) rfl rfl (flt hc104).2.2.2 ?_
      exact (Eval.conv hJ105 (by simp only [if_neg hc104]) rfl)
  exact ev_j_retryPass_b14 R s (if (8 : Int32) < s.f_qlen then (8 : Int32) else s.f_qlen) h hk
def j_finish (s : Q) (v1 : Int32) : Option (Q) := ((j_finish_l6 3000 s v1 (v1 * (4 : Int32)) (0 : Int32)).bind fun p100 => (if inb p100.2.f_st.length p100.1 = true then ((j_retryPass (Q.mk p100.2.f_total p100.2.f_avail p100.2.f_maxc p100.2.f_alloc p100.2.f_op p100.2.f_kind p100.2.f_amt p100.2.f_len p100.2.f_pc (wr p100.2.f_st p100.1 (3 : Int32)) p100.2.f_queue p100.2.f_work p100.2.f_mark p100.2.f_order p100.2.f_qlen p100.2.f_nproc p100.2.f_cur p100.2.f_olen)).bind fun p216 => some (p216)) else none))
theorem ln_j_finish {s : Q} {v1 : Int32} {res : Q} (h : j_finish s v1 = some res) : Q.len res = Q.len s := by
  rw [j_finish] at h
  obtain ⟨p100, hq101, h⟩ := bind_some h
  have hl102 : Q.len p100.2 = _ := Eq.trans (ln_j_finish_l6 hq101) rfl
  obtain ⟨hb103, h⟩ := ite_some h
  obtain ⟨p216, hq217, h⟩ := bind_some h
  have hl218 := (ln_j_retryPass hq217).trans (Eq.trans (show Q.len (Q.mk p100.2.f_total p100.2.f_avail p100.2.f_maxc p100.2.f_alloc p100.2.f_op p100.2.f_kind p100.2.f_amt p100.2.f_len p100.2.f_pc (wr p100.2.f_st p100.1 (3 : Int32)) p100.2.f_queue p100.2.f_work p100.2.f_mark p100.2.f_order p100.2.f_qlen p100.2.f_nproc p100.2.f_cur p100.2.f_olen) = Q.len p100.2 from own_lenmk.trans (by first | (simp only [len_wr, len_wrL] <;> rfl) | rfl)) hl102)
  have hr0 := Option.some.inj h
  subst hr0
  show Q.len p216 = _
  exact hl218
set_option maxRecDepth 100000 in
theorem ev_j_finish (R : AHeap) (s : Q) (v1 : Int32) {res : Q} {out : Option Value × AHeap} (h : j_finish s v1 = some res) (hk : out = (none, (W1 res R))) : Eval own_P 27 0 [some (.ref 0), some (.int v1), none, none] [] (W1 s R) out := by
  rw [j_finish] at h
  refine Eval.iload_n rfl rfl ?_
  refine Eval.iconst (x := (4 : Int32)) rfl rfl ?_
  refine Eval.imul rfl ?_
  refine Eval.istore_n (L' := [some (.ref 0), some (.int v1), some (.int (v1 * (4 : Int32))), none]) rfl rfl ?_
  refine Eval.iconst (x := (0 : Int32)) rfl rfl ?_
  refine Eval.istore_n (L' := [some (.ref 0), some (.int v1), some (.int (v1 * (4 : Int32))), some (.int (0 : Int32))]) rfl rfl ?_
  obtain ⟨p100, hq101, h⟩ := bind_some h
  refine ev_j_finish_l6 R _ s v1 (v1 * (4 : Int32)) (0 : Int32) hq101 ?_
  show Eval own_P 27 43 [some (.ref 0), some (.int p100.1), none, none] [] (W1 p100.2 R) out
  refine Eval.aload_n rfl rfl ?_
  refine Eval.getfield rfl rfl own_g1_st ?_
  refine Eval.iload_n rfl rfl ?_
  refine Eval.iconst (x := (3 : Int32)) rfl rfl ?_
  obtain ⟨hb103, h⟩ := ite_some h
  refine Eval.iastore rfl rfl own_a1_st hb103 own_s1_st ?_
  refine Eval.aload_n rfl rfl ?_
  obtain ⟨p216, hq217, h⟩ := bind_some h
  refine Eval.callN (rest := []) (H1 := (W1 p216 R)) rfl rfl (Eval.heap own_mk1 (ev_j_retryPass R (Q.mk p100.2.f_total p100.2.f_avail p100.2.f_maxc p100.2.f_alloc p100.2.f_op p100.2.f_kind p100.2.f_amt p100.2.f_len p100.2.f_pc (wr p100.2.f_st p100.1 (3 : Int32)) p100.2.f_queue p100.2.f_work p100.2.f_mark p100.2.f_order p100.2.f_qlen p100.2.f_nproc p100.2.f_cur p100.2.f_olen) hq217 rfl)) ?_
  cases h
  subst hk
  exact Eval.ret rfl rfl
def j_step_b63 (s : Q) (v1 : Int32) : Option (Int32 × Q) := ((j_finish s v1).bind fun p219 => some ((3 : Int32), p219))
theorem ln_j_step_b63 {s : Q} {v1 : Int32} {res : Int32 × Q} (h : j_step_b63 s v1 = some res) : Q.len res.2 = Q.len s := by
  rw [j_step_b63] at h
  obtain ⟨p219, hq220, h⟩ := bind_some h
  have hl221 := (ln_j_finish hq220).trans rfl
  have hr0 := Option.some.inj h
  subst hr0
  show Q.len p219 = _
  exact hl221
set_option maxRecDepth 100000 in
theorem ev_j_step_b63 (R : AHeap) (s : Q) (v1 : Int32) {res : Int32 × Q} {out : Option Value × AHeap} (h : j_step_b63 s v1 = some res) (hk : out = (some (.int res.1), (W1 res.2 R))) : Eval own_P 8 63 [some (.ref 0), some (.int v1), none, none, none, none, none] [] (W1 s R) out := by
  rw [j_step_b63] at h
  refine Eval.aload_n rfl rfl ?_
  refine Eval.iload_n rfl rfl ?_
  obtain ⟨p219, hq220, h⟩ := bind_some h
  refine Eval.callN (rest := []) (H1 := (W1 p219 R)) rfl rfl (ev_j_finish R s v1 hq220 rfl) ?_
  refine Eval.iconst (x := (3 : Int32)) rfl rfl ?_
  cases h
  subst hk
  exact Eval.ret rfl rfl
def j_step_b151 (s : Q) (v1 : Int32) : Option (Int32 × Q) := ((j_finish s v1).bind fun p232 => some ((3 : Int32), p232))
theorem ln_j_step_b151 {s : Q} {v1 : Int32} {res : Int32 × Q} (h : j_step_b151 s v1 = some res) : Q.len res.2 = Q.len s := by
  rw [j_step_b151] at h
  obtain ⟨p232, hq233, h⟩ := bind_some h
  have hl234 := (ln_j_finish hq233).trans rfl
  have hr0 := Option.some.inj h
  subst hr0
  show Q.len p232 = _
  exact hl234
set_option maxRecDepth 100000 in
theorem ev_j_step_b151 (R : AHeap) (s : Q) (v1 : Int32) {res : Int32 × Q} {out : Option Value × AHeap} (h : j_step_b151 s v1 = some res) (hk : out = (some (.int res.1), (W1 res.2 R))) : Eval own_P 8 151 [some (.ref 0), some (.int v1), none, none, none, none, none] [] (W1 s R) out := by
  rw [j_step_b151] at h
  refine Eval.aload_n rfl rfl ?_
  refine Eval.iload_n rfl rfl ?_
  obtain ⟨p232, hq233, h⟩ := bind_some h
  refine Eval.callN (rest := []) (H1 := (W1 p232 R)) rfl rfl (ev_j_finish R s v1 hq233 rfl) ?_
  refine Eval.iconst (x := (3 : Int32)) rfl rfl ?_
  cases h
  subst hk
  exact Eval.ret rfl rfl
def j_doRelease (s : Q) (v1 : Int32) (v2 : Int32) (v3 : Int32) : Option (Int32 × Q) := (if inb s.f_alloc.length ((v1 * (4 : Int32)) + v2) = true then (if (rd s.f_alloc ((v1 * (4 : Int32)) + v2)) < v3 then ((j_finish s v1).bind fun p237 => some ((6 : Int32), p237)) else (if inb s.f_alloc.length ((v1 * (4 : Int32)) + v2) = true then (if inb s.f_alloc.length ((v1 * (4 : Int32)) + v2) = true then (if inb s.f_avail.length v2 = true then (if inb s.f_avail.length v2 = true then (if inb s.f_pc.length v1 = true then (if inb s.f_pc.length v1 = true then ((j_retryPass (Q.mk s.f_total (wr s.f_avail v2 ((rd s.f_avail v2) + v3)) s.f_maxc (wr s.f_alloc ((v1 * (4 : Int32)) + v2) ((rd s.f_alloc ((v1 * (4 : Int32)) + v2)) - v3)) s.f_op s.f_kind s.f_amt s.f_len (wr s.f_pc v1 ((rd s.f_pc v1) + (1 : Int32))) s.f_st s.f_queue s.f_work s.f_mark s.f_order s.f_qlen s.f_nproc s.f_cur s.f_olen)).bind fun p246 => some ((2 : Int32), p246)) else none) else none) else none) else none) else none) else none)) else none)
theorem ln_j_doRelease {s : Q} {v1 : Int32} {v2 : Int32} {v3 : Int32} {res : Int32 × Q} (h : j_doRelease s v1 v2 v3 = some res) : Q.len res.2 = Q.len s := by
  rw [j_doRelease] at h
  obtain ⟨hb235, h⟩ := ite_some h
  by_cases hc236 : (rd s.f_alloc ((v1 * (4 : Int32)) + v2)) < v3
  · rw [if_pos hc236] at h
    obtain ⟨p237, hq238, h⟩ := bind_some h
    have hl239 := (ln_j_finish hq238).trans rfl
    have hr0 := Option.some.inj h
    subst hr0
    show Q.len p237 = _
    exact hl239
  · rw [if_neg hc236] at h
    obtain ⟨hb240, h⟩ := ite_some h
    obtain ⟨hb241, h⟩ := ite_some h
    obtain ⟨hb242, h⟩ := ite_some h
    obtain ⟨hb243, h⟩ := ite_some h
    obtain ⟨hb244, h⟩ := ite_some h
    obtain ⟨hb245, h⟩ := ite_some h
    obtain ⟨p246, hq247, h⟩ := bind_some h
    have hl248 := (ln_j_retryPass hq247).trans (Eq.trans (show Q.len (Q.mk s.f_total (wr s.f_avail v2 ((rd s.f_avail v2) + v3)) s.f_maxc (wr s.f_alloc ((v1 * (4 : Int32)) + v2) ((rd s.f_alloc ((v1 * (4 : Int32)) + v2)) - v3)) s.f_op s.f_kind s.f_amt s.f_len (wr s.f_pc v1 ((rd s.f_pc v1) + (1 : Int32))) s.f_st s.f_queue s.f_work s.f_mark s.f_order s.f_qlen s.f_nproc s.f_cur s.f_olen) = Q.len s from own_lenmk.trans (by first | (simp only [len_wr, len_wrL] <;> rfl) | rfl)) rfl)
    have hr0 := Option.some.inj h
    subst hr0
    show Q.len p246 = _
    exact hl248
set_option maxRecDepth 100000 in
theorem ev_j_doRelease (R : AHeap) (s : Q) (v1 : Int32) (v2 : Int32) (v3 : Int32) {res : Int32 × Q} {out : Option Value × AHeap} (h : j_doRelease s v1 v2 v3 = some res) (hk : out = (some (.int res.1), (W1 res.2 R))) : Eval own_P 22 0 [some (.ref 0), some (.int v1), some (.int v2), some (.int v3), none] [] (W1 s R) out := by
  rw [j_doRelease] at h
  refine Eval.iload_n rfl rfl ?_
  refine Eval.iconst (x := (4 : Int32)) rfl rfl ?_
  refine Eval.imul rfl ?_
  refine Eval.iload_n rfl rfl ?_
  refine Eval.iadd rfl ?_
  refine Eval.istore (L' := [some (.ref 0), some (.int v1), some (.int v2), some (.int v3), some (.int ((v1 * (4 : Int32)) + v2))]) rfl rfl ?_
  refine Eval.iload_n rfl rfl ?_
  refine Eval.aload_n rfl rfl ?_
  refine Eval.getfield rfl rfl own_g1_alloc ?_
  refine Eval.iload rfl rfl ?_
  obtain ⟨hb235, h⟩ := ite_some h
  refine Eval.iaload rfl own_a1_alloc hb235 ?_
  by_cases hc236 : (rd s.f_alloc ((v1 * (4 : Int32)) + v2)) < v3
  · rw [if_pos hc236] at h
    refine Eval.icmpF rfl (tlt hc236).2.2.2 ?_
    refine Eval.aload_n rfl rfl ?_
    refine Eval.iload_n rfl rfl ?_
    obtain ⟨p237, hq238, h⟩ := bind_some h
    refine Eval.callN (rest := []) (H1 := (W1 p237 R)) rfl rfl (ev_j_finish R s v1 hq238 rfl) ?_
    refine Eval.bipush (x := (6 : Int32)) rfl rfl ?_
    cases h
    subst hk
    exact Eval.ret rfl rfl
  · rw [if_neg hc236] at h
    refine Eval.icmpT (t := 26) rfl rfl (flt hc236).2.2.2 ?_
    refine Eval.aload_n rfl rfl ?_
    refine Eval.getfield rfl rfl own_g1_alloc ?_
    refine Eval.iload rfl rfl ?_
    refine Eval.dup2 rfl ?_
    obtain ⟨hb240, h⟩ := ite_some h
    refine Eval.iaload rfl own_a1_alloc hb240 ?_
    refine Eval.iload_n rfl rfl ?_
    refine Eval.isub rfl ?_
    obtain ⟨hb241, h⟩ := ite_some h
    refine Eval.iastore rfl rfl own_a1_alloc hb241 own_s1_alloc ?_
    refine Eval.aload_n rfl rfl ?_
    refine Eval.getfield rfl rfl own_g1_avail ?_
    refine Eval.iload_n rfl rfl ?_
    refine Eval.dup2 rfl ?_
    obtain ⟨hb242, h⟩ := ite_some h
    refine Eval.iaload rfl own_a1_avail hb242 ?_
    refine Eval.iload_n rfl rfl ?_
    refine Eval.iadd rfl ?_
    obtain ⟨hb243, h⟩ := ite_some h
    refine Eval.iastore rfl rfl own_a1_avail hb243 own_s1_avail ?_
    refine Eval.aload_n rfl rfl ?_
    refine Eval.getfield rfl rfl own_g1_pc ?_
    refine Eval.iload_n rfl rfl ?_
    refine Eval.aload_n rfl rfl ?_
    refine Eval.getfield rfl rfl own_g1_pc ?_
    refine Eval.iload_n rfl rfl ?_
    obtain ⟨hb244, h⟩ := ite_some h
    refine Eval.iaload rfl own_a1_pc hb244 ?_
    refine Eval.iconst (x := (1 : Int32)) rfl rfl ?_
    refine Eval.iadd rfl ?_
    obtain ⟨hb245, h⟩ := ite_some h
    refine Eval.iastore rfl rfl own_a1_pc hb245 own_s1_pc ?_
    refine Eval.aload_n rfl rfl ?_
    obtain ⟨p246, hq247, h⟩ := bind_some h
    refine Eval.callN (rest := []) (H1 := (W1 p246 R)) rfl rfl (Eval.heap own_mk1 (ev_j_retryPass R (Q.mk s.f_total (wr s.f_avail v2 ((rd s.f_avail v2) + v3)) s.f_maxc (wr s.f_alloc ((v1 * (4 : Int32)) + v2) ((rd s.f_alloc ((v1 * (4 : Int32)) + v2)) - v3)) s.f_op s.f_kind s.f_amt s.f_len (wr s.f_pc v1 ((rd s.f_pc v1) + (1 : Int32))) s.f_st s.f_queue s.f_work s.f_mark s.f_order s.f_qlen s.f_nproc s.f_cur s.f_olen) hq247 rfl)) ?_
    refine Eval.iconst (x := (2 : Int32)) rfl rfl ?_
    cases h
    subst hk
    exact Eval.ret rfl rfl
def j_step_b126 (s : Q) (v1 : Int32) (v4 : Int32) (v5 : Int32) (v6 : Int32) : Option (Int32 × Q) := (if v4 = (2 : Int32) then (if (j_validKind v5) = (0 : Int32) then (j_step_b151 s v1) else ((j_doRelease s v1 v5 v6).bind fun p249 => some (p249.1, p249.2))) else (j_step_b151 s v1))
theorem ln_j_step_b126 {s : Q} {v1 : Int32} {v4 : Int32} {v5 : Int32} {v6 : Int32} {res : Int32 × Q} (h : j_step_b126 s v1 v4 v5 v6 = some res) : Q.len res.2 = Q.len s := by
  rw [j_step_b126] at h
  by_cases hc230 : v4 = (2 : Int32)
  · rw [if_pos hc230] at h
    by_cases hc231 : (j_validKind v5) = (0 : Int32)
    · rw [if_pos hc231] at h
      exact Eq.trans (ln_j_step_b151 h) rfl
    · rw [if_neg hc231] at h
      obtain ⟨p249, hq250, h⟩ := bind_some h
      have hl251 := (ln_j_doRelease hq250).trans rfl
      have hr0 := Option.some.inj h
      subst hr0
      show Q.len p249.2 = _
      exact hl251
  · rw [if_neg hc230] at h
    exact Eq.trans (ln_j_step_b151 h) rfl
set_option maxRecDepth 100000 in
theorem ev_j_step_b126 (R : AHeap) (s : Q) (v1 : Int32) (v4 : Int32) (v5 : Int32) (v6 : Int32) {res : Int32 × Q} {out : Option Value × AHeap} (h : j_step_b126 s v1 v4 v5 v6 = some res) (hk : out = (some (.int res.1), (W1 res.2 R))) : Eval own_P 8 126 [some (.ref 0), some (.int v1), none, none, some (.int v4), some (.int v5), some (.int v6)] [] (W1 s R) out := by
  rw [j_step_b126] at h
  refine Eval.iload rfl rfl ?_
  refine Eval.iconst (x := (2 : Int32)) rfl rfl ?_
  by_cases hc230 : v4 = (2 : Int32)
  · rw [if_pos hc230] at h
    refine Eval.icmpF rfl (teq hc230).2 ?_
    refine Eval.aload_n rfl rfl ?_
    refine Eval.iload rfl rfl ?_
    refine Eval.callI (rest := []) (x := (j_validKind v5)) (H1 := (W1 s R)) rfl rfl (ev_j_validKind (W1 s R) 0 v5 rfl rfl) ?_
    by_cases hc231 : (j_validKind v5) = (0 : Int32)
    · rw [if_pos hc231] at h
      refine Eval.ifT (t := 151) rfl rfl (teq hc231).1 ?_
      refine Eval.weak (L' := [some (.ref 0), some (.int v1), none, none, none, none, none]) ⟨_, _, rfl, Or.inr rfl, _, _, rfl, Or.inr rfl, _, _, rfl, Or.inl rfl, _, _, rfl, Or.inl rfl, _, _, rfl, Or.inl rfl, _, _, rfl, Or.inl rfl, _, _, rfl, Or.inl rfl, rfl⟩ ?_
      exact ev_j_step_b151 R s v1 h hk
    · rw [if_neg hc231] at h
      refine Eval.ifF rfl (feq hc231).1 ?_
      refine Eval.aload_n rfl rfl ?_
      refine Eval.iload_n rfl rfl ?_
      refine Eval.iload rfl rfl ?_
      refine Eval.iload rfl rfl ?_
      obtain ⟨p249, hq250, h⟩ := bind_some h
      refine Eval.callI (rest := []) (x := p249.1) (H1 := (W1 p249.2 R)) rfl rfl (ev_j_doRelease R s v1 v5 v6 hq250 rfl) ?_
      cases h
      subst hk
      exact Eval.ret rfl rfl
  · rw [if_neg hc230] at h
    refine Eval.icmpT (t := 151) rfl rfl (feq hc230).2 ?_
    refine Eval.weak (L' := [some (.ref 0), some (.int v1), none, none, none, none, none]) ⟨_, _, rfl, Or.inr rfl, _, _, rfl, Or.inr rfl, _, _, rfl, Or.inl rfl, _, _, rfl, Or.inl rfl, _, _, rfl, Or.inl rfl, _, _, rfl, Or.inl rfl, _, _, rfl, Or.inl rfl, rfl⟩ ?_
    exact ev_j_step_b151 R s v1 h hk
def j_enqueue_b36 (s : Q) (v1 : Int32) : Option (Q) := (if inb s.f_st.length v1 = true then some ((Q.mk s.f_total s.f_avail s.f_maxc s.f_alloc s.f_op s.f_kind s.f_amt s.f_len s.f_pc (wr s.f_st v1 (2 : Int32)) s.f_queue s.f_work s.f_mark s.f_order s.f_qlen s.f_nproc s.f_cur s.f_olen)) else none)
theorem ln_j_enqueue_b36 {s : Q} {v1 : Int32} {res : Q} (h : j_enqueue_b36 s v1 = some res) : Q.len res = Q.len s := by
  rw [j_enqueue_b36] at h
  obtain ⟨hb263, h⟩ := ite_some h
  have hr0 := Option.some.inj h
  subst hr0
  show Q.len (Q.mk s.f_total s.f_avail s.f_maxc s.f_alloc s.f_op s.f_kind s.f_amt s.f_len s.f_pc (wr s.f_st v1 (2 : Int32)) s.f_queue s.f_work s.f_mark s.f_order s.f_qlen s.f_nproc s.f_cur s.f_olen) = _
  exact (Eq.trans (show Q.len (Q.mk s.f_total s.f_avail s.f_maxc s.f_alloc s.f_op s.f_kind s.f_amt s.f_len s.f_pc (wr s.f_st v1 (2 : Int32)) s.f_queue s.f_work s.f_mark s.f_order s.f_qlen s.f_nproc s.f_cur s.f_olen) = Q.len s from own_lenmk.trans (by first | (simp only [len_wr, len_wrL] <;> rfl) | rfl)) rfl)
set_option maxRecDepth 100000 in
theorem ev_j_enqueue_b36 (R : AHeap) (s : Q) (v1 : Int32) {res : Q} {out : Option Value × AHeap} (h : j_enqueue_b36 s v1 = some res) (hk : out = (none, (W1 res R))) : Eval own_P 15 36 [some (.ref 0), some (.int v1)] [] (W1 s R) out := by
  rw [j_enqueue_b36] at h
  refine Eval.aload_n rfl rfl ?_
  refine Eval.getfield rfl rfl own_g1_st ?_
  refine Eval.iload_n rfl rfl ?_
  refine Eval.iconst (x := (2 : Int32)) rfl rfl ?_
  obtain ⟨hb263, h⟩ := ite_some h
  refine Eval.iastore rfl rfl own_a1_st hb263 own_s1_st ?_
  cases h
  subst hk
  exact Eval.retH own_mk1 rfl rfl
def j_enqueue (s : Q) (v1 : Int32) : Option (Q) := (if s.f_qlen < (0 : Int32) then (j_enqueue_b36 s v1) else (if s.f_qlen < (8 : Int32) then (if inb s.f_queue.length s.f_qlen = true then (j_enqueue_b36 (Q.mk s.f_total s.f_avail s.f_maxc s.f_alloc s.f_op s.f_kind s.f_amt s.f_len s.f_pc s.f_st (wr s.f_queue s.f_qlen v1) s.f_work s.f_mark s.f_order (s.f_qlen + (1 : Int32)) s.f_nproc s.f_cur s.f_olen) v1) else none) else (j_enqueue_b36 s v1)))
theorem ln_j_enqueue {s : Q} {v1 : Int32} {res : Q} (h : j_enqueue s v1 = some res) : Q.len res = Q.len s := by
  rw [j_enqueue] at h
  by_cases hc262 : s.f_qlen < (0 : Int32)
  · rw [if_pos hc262] at h
    exact Eq.trans (ln_j_enqueue_b36 h) rfl
  · rw [if_neg hc262] at h
    by_cases hc265 : s.f_qlen < (8 : Int32)
    · rw [if_pos hc265] at h
      obtain ⟨hb266, h⟩ := ite_some h
      exact Eq.trans (ln_j_enqueue_b36 h) (Eq.trans (show Q.len (Q.mk s.f_total s.f_avail s.f_maxc s.f_alloc s.f_op s.f_kind s.f_amt s.f_len s.f_pc s.f_st (wr s.f_queue s.f_qlen v1) s.f_work s.f_mark s.f_order (s.f_qlen + (1 : Int32)) s.f_nproc s.f_cur s.f_olen) = Q.len s from own_lenmk.trans (by first | (simp only [len_wr, len_wrL] <;> rfl) | rfl)) rfl)
    · rw [if_neg hc265] at h
      exact Eq.trans (ln_j_enqueue_b36 h) rfl
set_option maxRecDepth 100000 in
theorem ev_j_enqueue (R : AHeap) (s : Q) (v1 : Int32) {res : Q} {out : Option Value × AHeap} (h : j_enqueue s v1 = some res) (hk : out = (none, (W1 res R))) : Eval own_P 15 0 [some (.ref 0), some (.int v1)] [] (W1 s R) out := by
  rw [j_enqueue] at h
  refine Eval.aload_n rfl rfl ?_
  refine Eval.getfield rfl rfl own_g1_qlen ?_
  by_cases hc262 : s.f_qlen < (0 : Int32)
  · rw [if_pos hc262] at h
    refine Eval.ifT (t := 36) rfl rfl (tlt hc262).1 ?_
    exact ev_j_enqueue_b36 R s v1 h hk
  · rw [if_neg hc262] at h
    refine Eval.ifF rfl (flt hc262).1 ?_
    refine Eval.aload_n rfl rfl ?_
    refine Eval.getfield rfl rfl own_g1_qlen ?_
    refine Eval.bipush (x := (8 : Int32)) rfl rfl ?_
    by_cases hc265 : s.f_qlen < (8 : Int32)
    · rw [if_pos hc265] at h
      refine Eval.icmpF rfl (tlt hc265).2.1 ?_
      refine Eval.aload_n rfl rfl ?_
      refine Eval.getfield rfl rfl own_g1_queue ?_
      refine Eval.aload_n rfl rfl ?_
      refine Eval.getfield rfl rfl own_g1_qlen ?_
      refine Eval.iload_n rfl rfl ?_
      obtain ⟨hb266, h⟩ := ite_some h
      refine Eval.iastore rfl rfl own_a1_queue hb266 own_s1_queue ?_
      refine Eval.aload_n rfl rfl ?_
      refine Eval.dupR rfl ?_
      refine Eval.getfield rfl rfl own_g1_qlen ?_
      refine Eval.iconst (x := (1 : Int32)) rfl rfl ?_
      refine Eval.iadd rfl ?_
      refine Eval.putfield rfl rfl own_p1_qlen ?_
      refine Eval.heap own_mk1 ?_
      exact ev_j_enqueue_b36 R (Q.mk s.f_total s.f_avail s.f_maxc s.f_alloc s.f_op s.f_kind s.f_amt s.f_len s.f_pc s.f_st (wr s.f_queue s.f_qlen v1) s.f_work s.f_mark s.f_order (s.f_qlen + (1 : Int32)) s.f_nproc s.f_cur s.f_olen) v1 h hk
    · rw [if_neg hc265] at h
      refine Eval.icmpT (t := 36) rfl rfl (flt hc265).2.1 ?_
      exact ev_j_enqueue_b36 R s v1 h hk
def j_doRequest (s : Q) (v1 : Int32) (v2 : Int32) (v3 : Int32) : Option (Int32 × Q) := (if inb s.f_alloc.length ((v1 * (4 : Int32)) + v2) = true then (if inb s.f_maxc.length ((v1 * (4 : Int32)) + v2) = true then (if (rd s.f_maxc ((v1 * (4 : Int32)) + v2)) < ((rd s.f_alloc ((v1 * (4 : Int32)) + v2)) + v3) then ((j_finish s v1).bind fun p255 => some ((6 : Int32), p255)) else (if inb s.f_avail.length v2 = true then (if (rd s.f_avail v2) < v3 then ((j_enqueue s v1).bind fun p267 => some ((4 : Int32), p267)) else ((j_tentativeSafe s v1 v2 v3).bind fun p270 => (if p270.1 = (0 : Int32) then ((j_enqueue p270.2 v1).bind fun p274 => some ((5 : Int32), p274)) else (if inb p270.2.f_alloc.length ((v1 * (4 : Int32)) + v2) = true then (if inb p270.2.f_alloc.length ((v1 * (4 : Int32)) + v2) = true then (if inb p270.2.f_avail.length v2 = true then (if inb p270.2.f_avail.length v2 = true then (if inb p270.2.f_pc.length v1 = true then (if inb p270.2.f_pc.length v1 = true then some ((1 : Int32), (Q.mk p270.2.f_total (wr p270.2.f_avail v2 ((rd p270.2.f_avail v2) - v3)) p270.2.f_maxc (wr p270.2.f_alloc ((v1 * (4 : Int32)) + v2) ((rd p270.2.f_alloc ((v1 * (4 : Int32)) + v2)) + v3)) p270.2.f_op p270.2.f_kind p270.2.f_amt p270.2.f_len (wr p270.2.f_pc v1 ((rd p270.2.f_pc v1) + (1 : Int32))) p270.2.f_st p270.2.f_queue p270.2.f_work p270.2.f_mark p270.2.f_order p270.2.f_qlen p270.2.f_nproc p270.2.f_cur p270.2.f_olen)) else none) else none) else none) else none) else none) else none)))) else none)) else none) else none)
theorem ln_j_doRequest {s : Q} {v1 : Int32} {v2 : Int32} {v3 : Int32} {res : Int32 × Q} (h : j_doRequest s v1 v2 v3 = some res) : Q.len res.2 = Q.len s := by
  rw [j_doRequest] at h
  obtain ⟨hb252, h⟩ := ite_some h
  obtain ⟨hb253, h⟩ := ite_some h
  by_cases hc254 : (rd s.f_maxc ((v1 * (4 : Int32)) + v2)) < ((rd s.f_alloc ((v1 * (4 : Int32)) + v2)) + v3)
  · rw [if_pos hc254] at h
    obtain ⟨p255, hq256, h⟩ := bind_some h
    have hl257 := (ln_j_finish hq256).trans rfl
    have hr0 := Option.some.inj h
    subst hr0
    show Q.len p255 = _
    exact hl257
  · rw [if_neg hc254] at h
    obtain ⟨hb258, h⟩ := ite_some h
    by_cases hc259 : (rd s.f_avail v2) < v3
    · rw [if_pos hc259] at h
      obtain ⟨p267, hq268, h⟩ := bind_some h
      have hl269 := (ln_j_enqueue hq268).trans rfl
      have hr0 := Option.some.inj h
      subst hr0
      show Q.len p267 = _
      exact hl269
    · rw [if_neg hc259] at h
      obtain ⟨p270, hq271, h⟩ := bind_some h
      have hl272 := (ln_j_tentativeSafe hq271).trans rfl
      by_cases hc273 : p270.1 = (0 : Int32)
      · rw [if_pos hc273] at h
        obtain ⟨p274, hq275, h⟩ := bind_some h
        have hl276 := (ln_j_enqueue hq275).trans hl272
        have hr0 := Option.some.inj h
        subst hr0
        show Q.len p274 = _
        exact hl276
      · rw [if_neg hc273] at h
        obtain ⟨hb277, h⟩ := ite_some h
        obtain ⟨hb278, h⟩ := ite_some h
        obtain ⟨hb279, h⟩ := ite_some h
        obtain ⟨hb280, h⟩ := ite_some h
        obtain ⟨hb281, h⟩ := ite_some h
        obtain ⟨hb282, h⟩ := ite_some h
        have hr0 := Option.some.inj h
        subst hr0
        show Q.len (Q.mk p270.2.f_total (wr p270.2.f_avail v2 ((rd p270.2.f_avail v2) - v3)) p270.2.f_maxc (wr p270.2.f_alloc ((v1 * (4 : Int32)) + v2) ((rd p270.2.f_alloc ((v1 * (4 : Int32)) + v2)) + v3)) p270.2.f_op p270.2.f_kind p270.2.f_amt p270.2.f_len (wr p270.2.f_pc v1 ((rd p270.2.f_pc v1) + (1 : Int32))) p270.2.f_st p270.2.f_queue p270.2.f_work p270.2.f_mark p270.2.f_order p270.2.f_qlen p270.2.f_nproc p270.2.f_cur p270.2.f_olen) = _
        exact (Eq.trans (show Q.len (Q.mk p270.2.f_total (wr p270.2.f_avail v2 ((rd p270.2.f_avail v2) - v3)) p270.2.f_maxc (wr p270.2.f_alloc ((v1 * (4 : Int32)) + v2) ((rd p270.2.f_alloc ((v1 * (4 : Int32)) + v2)) + v3)) p270.2.f_op p270.2.f_kind p270.2.f_amt p270.2.f_len (wr p270.2.f_pc v1 ((rd p270.2.f_pc v1) + (1 : Int32))) p270.2.f_st p270.2.f_queue p270.2.f_work p270.2.f_mark p270.2.f_order p270.2.f_qlen p270.2.f_nproc p270.2.f_cur p270.2.f_olen) = Q.len p270.2 from own_lenmk.trans (by first | (simp only [len_wr, len_wrL] <;> rfl) | rfl)) hl272)
set_option maxRecDepth 100000 in
theorem ev_j_doRequest (R : AHeap) (s : Q) (v1 : Int32) (v2 : Int32) (v3 : Int32) {res : Int32 × Q} {out : Option Value × AHeap} (h : j_doRequest s v1 v2 v3 = some res) (hk : out = (some (.int res.1), (W1 res.2 R))) : Eval own_P 9 0 [some (.ref 0), some (.int v1), some (.int v2), some (.int v3), none] [] (W1 s R) out := by
  rw [j_doRequest] at h
  refine Eval.iload_n rfl rfl ?_
  refine Eval.iconst (x := (4 : Int32)) rfl rfl ?_
  refine Eval.imul rfl ?_
  refine Eval.iload_n rfl rfl ?_
  refine Eval.iadd rfl ?_
  refine Eval.istore (L' := [some (.ref 0), some (.int v1), some (.int v2), some (.int v3), some (.int ((v1 * (4 : Int32)) + v2))]) rfl rfl ?_
  refine Eval.aload_n rfl rfl ?_
  refine Eval.getfield rfl rfl own_g1_alloc ?_
  refine Eval.iload rfl rfl ?_
  obtain ⟨hb252, h⟩ := ite_some h
  refine Eval.iaload rfl own_a1_alloc hb252 ?_
  refine Eval.iload_n rfl rfl ?_
  refine Eval.iadd rfl ?_
  refine Eval.aload_n rfl rfl ?_
  refine Eval.getfield rfl rfl own_g1_maxc ?_
  refine Eval.iload rfl rfl ?_
  obtain ⟨hb253, h⟩ := ite_some h
  refine Eval.iaload rfl own_a1_maxc hb253 ?_
  by_cases hc254 : (rd s.f_maxc ((v1 * (4 : Int32)) + v2)) < ((rd s.f_alloc ((v1 * (4 : Int32)) + v2)) + v3)
  · rw [if_pos hc254] at h
    refine Eval.icmpF rfl (tlt hc254).2.2.2 ?_
    refine Eval.aload_n rfl rfl ?_
    refine Eval.iload_n rfl rfl ?_
    obtain ⟨p255, hq256, h⟩ := bind_some h
    refine Eval.callN (rest := []) (H1 := (W1 p255 R)) rfl rfl (ev_j_finish R s v1 hq256 rfl) ?_
    refine Eval.bipush (x := (6 : Int32)) rfl rfl ?_
    cases h
    subst hk
    exact Eval.ret rfl rfl
  · rw [if_neg hc254] at h
    refine Eval.icmpT (t := 34) rfl rfl (flt hc254).2.2.2 ?_
    refine Eval.iload_n rfl rfl ?_
    refine Eval.aload_n rfl rfl ?_
    refine Eval.getfield rfl rfl own_g1_avail ?_
    refine Eval.iload_n rfl rfl ?_
    obtain ⟨hb258, h⟩ := ite_some h
    refine Eval.iaload rfl own_a1_avail hb258 ?_
    by_cases hc259 : (rd s.f_avail v2) < v3
    · rw [if_pos hc259] at h
      refine Eval.icmpF rfl (tlt hc259).2.2.2 ?_
      refine Eval.aload_n rfl rfl ?_
      refine Eval.iload_n rfl rfl ?_
      obtain ⟨p267, hq268, h⟩ := bind_some h
      refine Eval.callN (rest := []) (H1 := (W1 p267 R)) rfl rfl (ev_j_enqueue R s v1 hq268 rfl) ?_
      refine Eval.iconst (x := (4 : Int32)) rfl rfl ?_
      cases h
      subst hk
      exact Eval.ret rfl rfl
    · rw [if_neg hc259] at h
      refine Eval.icmpT (t := 51) rfl rfl (flt hc259).2.2.2 ?_
      refine Eval.aload_n rfl rfl ?_
      refine Eval.iload_n rfl rfl ?_
      refine Eval.iload_n rfl rfl ?_
      refine Eval.iload_n rfl rfl ?_
      obtain ⟨p270, hq271, h⟩ := bind_some h
      refine Eval.callI (rest := []) (x := p270.1) (H1 := (W1 p270.2 R)) rfl rfl (ev_j_tentativeSafe R s v1 v2 v3 hq271 rfl) ?_
      by_cases hc273 : p270.1 = (0 : Int32)
      · rw [if_pos hc273] at h
        refine Eval.ifF rfl (teq hc273).2 ?_
        refine Eval.aload_n rfl rfl ?_
        refine Eval.iload_n rfl rfl ?_
        obtain ⟨p274, hq275, h⟩ := bind_some h
        refine Eval.callN (rest := []) (H1 := (W1 p274 R)) rfl rfl (ev_j_enqueue R p270.2 v1 hq275 rfl) ?_
        refine Eval.iconst (x := (5 : Int32)) rfl rfl ?_
        cases h
        subst hk
        exact Eval.ret rfl rfl
      · rw [if_neg hc273] at h
        refine Eval.ifT (t := 68) rfl rfl (feq hc273).2 ?_
        refine Eval.aload_n rfl rfl ?_
        refine Eval.getfield rfl rfl own_g1_alloc ?_
        refine Eval.iload rfl rfl ?_
        refine Eval.dup2 rfl ?_
        obtain ⟨hb277, h⟩ := ite_some h
        refine Eval.iaload rfl own_a1_alloc hb277 ?_
        refine Eval.iload_n rfl rfl ?_
        refine Eval.iadd rfl ?_
        obtain ⟨hb278, h⟩ := ite_some h
        refine Eval.iastore rfl rfl own_a1_alloc hb278 own_s1_alloc ?_
        refine Eval.aload_n rfl rfl ?_
        refine Eval.getfield rfl rfl own_g1_avail ?_
        refine Eval.iload_n rfl rfl ?_
        refine Eval.dup2 rfl ?_
        obtain ⟨hb279, h⟩ := ite_some h
        refine Eval.iaload rfl own_a1_avail hb279 ?_
        refine Eval.iload_n rfl rfl ?_
        refine Eval.isub rfl ?_
        obtain ⟨hb280, h⟩ := ite_some h
        refine Eval.iastore rfl rfl own_a1_avail hb280 own_s1_avail ?_
        refine Eval.aload_n rfl rfl ?_
        refine Eval.getfield rfl rfl own_g1_pc ?_
        refine Eval.iload_n rfl rfl ?_
        refine Eval.aload_n rfl rfl ?_
        refine Eval.getfield rfl rfl own_g1_pc ?_
        refine Eval.iload_n rfl rfl ?_
        obtain ⟨hb281, h⟩ := ite_some h
        refine Eval.iaload rfl own_a1_pc hb281 ?_
        refine Eval.iconst (x := (1 : Int32)) rfl rfl ?_
        refine Eval.iadd rfl ?_
        obtain ⟨hb282, h⟩ := ite_some h
        refine Eval.iastore rfl rfl own_a1_pc hb282 own_s1_pc ?_
        refine Eval.iconst (x := (1 : Int32)) rfl rfl ?_
        cases h
        subst hk
        exact Eval.retH own_mk1 rfl rfl
def j_step (s : Q) (v1 : Int32) : Option (Int32 × Q) := (if (j_known s v1) = (0 : Int32) then some ((-1 : Int32), s) else (if inb s.f_st.length v1 = true then (if (rd s.f_st v1) = (3 : Int32) then some ((-3 : Int32), s) else (if inb s.f_st.length v1 = true then (if (rd s.f_st v1) = (2 : Int32) then some ((-2 : Int32), s) else (if inb s.f_pc.length v1 = true then (if (rd s.f_pc v1) < (0 : Int32) then (j_step_b63 s v1) else (if inb s.f_len.length v1 = true then (if (rd s.f_pc v1) < (rd s.f_len v1) then (if (rd s.f_pc v1) < (8 : Int32) then (if inb s.f_op.length ((v1 * (8 : Int32)) + (rd s.f_pc v1)) = true then (if inb s.f_kind.length ((v1 * (8 : Int32)) + (rd s.f_pc v1)) = true then (if inb s.f_amt.length ((v1 * (8 : Int32)) + (rd s.f_pc v1)) = true then (if (rd s.f_op ((v1 * (8 : Int32)) + (rd s.f_pc v1))) = (1 : Int32) then (if (j_validKind (rd s.f_kind ((v1 * (8 : Int32)) + (rd s.f_pc v1)))) = (0 : Int32) then (j_step_b126 s v1 (rd s.f_op ((v1 * (8 : Int32)) + (rd s.f_pc v1))) (rd s.f_kind ((v1 * (8 : Int32)) + (rd s.f_pc v1))) (rd s.f_amt ((v1 * (8 : Int32)) + (rd s.f_pc v1)))) else ((j_doRequest s v1 (rd s.f_kind ((v1 * (8 : Int32)) + (rd s.f_pc v1))) (rd s.f_amt ((v1 * (8 : Int32)) + (rd s.f_pc v1)))).bind fun p283 => some (p283.1, p283.2))) else (j_step_b126 s v1 (rd s.f_op ((v1 * (8 : Int32)) + (rd s.f_pc v1))) (rd s.f_kind ((v1 * (8 : Int32)) + (rd s.f_pc v1))) (rd s.f_amt ((v1 * (8 : Int32)) + (rd s.f_pc v1))))) else none) else none) else none) else (j_step_b63 s v1)) else (j_step_b63 s v1)) else none)) else none)) else none)) else none))
theorem ln_j_step {s : Q} {v1 : Int32} {res : Int32 × Q} (h : j_step s v1 = some res) : Q.len res.2 = Q.len s := by
  rw [j_step] at h
  by_cases hc88 : (j_known s v1) = (0 : Int32)
  · rw [if_pos hc88] at h
    have hr0 := Option.some.inj h
    subst hr0
    show Q.len s = _
    exact rfl
  · rw [if_neg hc88] at h
    obtain ⟨hb89, h⟩ := ite_some h
    by_cases hc90 : (rd s.f_st v1) = (3 : Int32)
    · rw [if_pos hc90] at h
      have hr0 := Option.some.inj h
      subst hr0
      show Q.len s = _
      exact rfl
    · rw [if_neg hc90] at h
      obtain ⟨hb91, h⟩ := ite_some h
      by_cases hc92 : (rd s.f_st v1) = (2 : Int32)
      · rw [if_pos hc92] at h
        have hr0 := Option.some.inj h
        subst hr0
        show Q.len s = _
        exact rfl
      · rw [if_neg hc92] at h
        obtain ⟨hb93, h⟩ := ite_some h
        by_cases hc94 : (rd s.f_pc v1) < (0 : Int32)
        · rw [if_pos hc94] at h
          exact Eq.trans (ln_j_step_b63 h) rfl
        · rw [if_neg hc94] at h
          obtain ⟨hb222, h⟩ := ite_some h
          by_cases hc223 : (rd s.f_pc v1) < (rd s.f_len v1)
          · rw [if_pos hc223] at h
            by_cases hc224 : (rd s.f_pc v1) < (8 : Int32)
            · rw [if_pos hc224] at h
              obtain ⟨hb225, h⟩ := ite_some h
              obtain ⟨hb226, h⟩ := ite_some h
              obtain ⟨hb227, h⟩ := ite_some h
              by_cases hc228 : (rd s.f_op ((v1 * (8 : Int32)) + (rd s.f_pc v1))) = (1 : Int32)
              · rw [if_pos hc228] at h
                by_cases hc229 : (j_validKind (rd s.f_kind ((v1 * (8 : Int32)) + (rd s.f_pc v1)))) = (0 : Int32)
                · rw [if_pos hc229] at h
                  exact Eq.trans (ln_j_step_b126 h) rfl
                · rw [if_neg hc229] at h
                  obtain ⟨p283, hq284, h⟩ := bind_some h
                  have hl285 := (ln_j_doRequest hq284).trans rfl
                  have hr0 := Option.some.inj h
                  subst hr0
                  show Q.len p283.2 = _
                  exact hl285
              · rw [if_neg hc228] at h
                exact Eq.trans (ln_j_step_b126 h) rfl
            · rw [if_neg hc224] at h
              exact Eq.trans (ln_j_step_b63 h) rfl
          · rw [if_neg hc223] at h
            exact Eq.trans (ln_j_step_b63 h) rfl
set_option maxRecDepth 100000 in
theorem ev_j_step (R : AHeap) (s : Q) (v1 : Int32) {res : Int32 × Q} {out : Option Value × AHeap} (h : j_step s v1 = some res) (hk : out = (some (.int res.1), (W1 res.2 R))) : Eval own_P 8 0 [some (.ref 0), some (.int v1), none, none, none, none, none] [] (W1 s R) out := by
  rw [j_step] at h
  refine Eval.aload_n rfl rfl ?_
  refine Eval.iload_n rfl rfl ?_
  refine Eval.callI (rest := []) (x := (j_known s v1)) (H1 := (W1 s R)) rfl rfl (ev_j_known R s v1 rfl rfl) ?_
  by_cases hc88 : (j_known s v1) = (0 : Int32)
  · rw [if_pos hc88] at h
    refine Eval.ifF rfl (teq hc88).2 ?_
    refine Eval.iconst (x := (-1 : Int32)) rfl rfl ?_
    cases h
    subst hk
    exact Eval.ret rfl rfl
  · rw [if_neg hc88] at h
    refine Eval.ifT (t := 10) rfl rfl (feq hc88).2 ?_
    refine Eval.aload_n rfl rfl ?_
    refine Eval.getfield rfl rfl own_g1_st ?_
    refine Eval.iload_n rfl rfl ?_
    obtain ⟨hb89, h⟩ := ite_some h
    refine Eval.iaload rfl own_a1_st hb89 ?_
    refine Eval.iconst (x := (3 : Int32)) rfl rfl ?_
    by_cases hc90 : (rd s.f_st v1) = (3 : Int32)
    · rw [if_pos hc90] at h
      refine Eval.icmpF rfl (teq hc90).2 ?_
      refine Eval.bipush (x := (-3 : Int32)) rfl rfl ?_
      cases h
      subst hk
      exact Eval.ret rfl rfl
    · rw [if_neg hc90] at h
      refine Eval.icmpT (t := 23) rfl rfl (feq hc90).2 ?_
      refine Eval.aload_n rfl rfl ?_
      refine Eval.getfield rfl rfl own_g1_st ?_
      refine Eval.iload_n rfl rfl ?_
      obtain ⟨hb91, h⟩ := ite_some h
      refine Eval.iaload rfl own_a1_st hb91 ?_
      refine Eval.iconst (x := (2 : Int32)) rfl rfl ?_
      by_cases hc92 : (rd s.f_st v1) = (2 : Int32)
      · rw [if_pos hc92] at h
        refine Eval.icmpF rfl (teq hc92).2 ?_
        refine Eval.bipush (x := (-2 : Int32)) rfl rfl ?_
        cases h
        subst hk
        exact Eval.ret rfl rfl
      · rw [if_neg hc92] at h
        refine Eval.icmpT (t := 36) rfl rfl (feq hc92).2 ?_
        refine Eval.aload_n rfl rfl ?_
        refine Eval.getfield rfl rfl own_g1_pc ?_
        refine Eval.iload_n rfl rfl ?_
        obtain ⟨hb93, h⟩ := ite_some h
        refine Eval.iaload rfl own_a1_pc hb93 ?_
        refine Eval.istore_n (L' := [some (.ref 0), some (.int v1), some (.int (rd s.f_pc v1)), none, none, none, none]) rfl rfl ?_
        refine Eval.iload_n rfl rfl ?_
        by_cases hc94 : (rd s.f_pc v1) < (0 : Int32)
        · rw [if_pos hc94] at h
          refine Eval.ifT (t := 63) rfl rfl (tlt hc94).1 ?_
          refine Eval.weak (L' := [some (.ref 0), some (.int v1), none, none, none, none, none]) ⟨_, _, rfl, Or.inr rfl, _, _, rfl, Or.inr rfl, _, _, rfl, Or.inl rfl, _, _, rfl, Or.inl rfl, _, _, rfl, Or.inl rfl, _, _, rfl, Or.inl rfl, _, _, rfl, Or.inl rfl, rfl⟩ ?_
          exact ev_j_step_b63 R s v1 h hk
        · rw [if_neg hc94] at h
          refine Eval.ifF rfl (flt hc94).1 ?_
          refine Eval.iload_n rfl rfl ?_
          refine Eval.aload_n rfl rfl ?_
          refine Eval.getfield rfl rfl own_g1_len ?_
          refine Eval.iload_n rfl rfl ?_
          obtain ⟨hb222, h⟩ := ite_some h
          refine Eval.iaload rfl own_a1_len hb222 ?_
          by_cases hc223 : (rd s.f_pc v1) < (rd s.f_len v1)
          · rw [if_pos hc223] at h
            refine Eval.icmpF rfl (tlt hc223).2.1 ?_
            refine Eval.iload_n rfl rfl ?_
            refine Eval.bipush (x := (8 : Int32)) rfl rfl ?_
            by_cases hc224 : (rd s.f_pc v1) < (8 : Int32)
            · rw [if_pos hc224] at h
              refine Eval.icmpT (t := 70) rfl rfl (tlt hc224).1 ?_
              refine Eval.iload_n rfl rfl ?_
              refine Eval.bipush (x := (8 : Int32)) rfl rfl ?_
              refine Eval.imul rfl ?_
              refine Eval.iload_n rfl rfl ?_
              refine Eval.iadd rfl ?_
              refine Eval.istore_n (L' := [some (.ref 0), some (.int v1), some (.int (rd s.f_pc v1)), some (.int ((v1 * (8 : Int32)) + (rd s.f_pc v1))), none, none, none]) rfl rfl ?_
              refine Eval.aload_n rfl rfl ?_
              refine Eval.getfield rfl rfl own_g1_op ?_
              refine Eval.iload_n rfl rfl ?_
              obtain ⟨hb225, h⟩ := ite_some h
              refine Eval.iaload rfl own_a1_op hb225 ?_
              refine Eval.istore (L' := [some (.ref 0), some (.int v1), some (.int (rd s.f_pc v1)), some (.int ((v1 * (8 : Int32)) + (rd s.f_pc v1))), some (.int (rd s.f_op ((v1 * (8 : Int32)) + (rd s.f_pc v1)))), none, none]) rfl rfl ?_
              refine Eval.aload_n rfl rfl ?_
              refine Eval.getfield rfl rfl own_g1_kind ?_
              refine Eval.iload_n rfl rfl ?_
              obtain ⟨hb226, h⟩ := ite_some h
              refine Eval.iaload rfl own_a1_kind hb226 ?_
              refine Eval.istore (L' := [some (.ref 0), some (.int v1), some (.int (rd s.f_pc v1)), some (.int ((v1 * (8 : Int32)) + (rd s.f_pc v1))), some (.int (rd s.f_op ((v1 * (8 : Int32)) + (rd s.f_pc v1)))), some (.int (rd s.f_kind ((v1 * (8 : Int32)) + (rd s.f_pc v1)))), none]) rfl rfl ?_
              refine Eval.aload_n rfl rfl ?_
              refine Eval.getfield rfl rfl own_g1_amt ?_
              refine Eval.iload_n rfl rfl ?_
              obtain ⟨hb227, h⟩ := ite_some h
              refine Eval.iaload rfl own_a1_amt hb227 ?_
              refine Eval.istore (L' := [some (.ref 0), some (.int v1), some (.int (rd s.f_pc v1)), some (.int ((v1 * (8 : Int32)) + (rd s.f_pc v1))), some (.int (rd s.f_op ((v1 * (8 : Int32)) + (rd s.f_pc v1)))), some (.int (rd s.f_kind ((v1 * (8 : Int32)) + (rd s.f_pc v1)))), some (.int (rd s.f_amt ((v1 * (8 : Int32)) + (rd s.f_pc v1))))]) rfl rfl ?_
              refine Eval.iload rfl rfl ?_
              refine Eval.iconst (x := (1 : Int32)) rfl rfl ?_
              by_cases hc228 : (rd s.f_op ((v1 * (8 : Int32)) + (rd s.f_pc v1))) = (1 : Int32)
              · rw [if_pos hc228] at h
                refine Eval.icmpF rfl (teq hc228).2 ?_
                refine Eval.aload_n rfl rfl ?_
                refine Eval.iload rfl rfl ?_
                refine Eval.callI (rest := []) (x := (j_validKind (rd s.f_kind ((v1 * (8 : Int32)) + (rd s.f_pc v1))))) (H1 := (W1 s R)) rfl rfl (ev_j_validKind (W1 s R) 0 (rd s.f_kind ((v1 * (8 : Int32)) + (rd s.f_pc v1))) rfl rfl) ?_
                by_cases hc229 : (j_validKind (rd s.f_kind ((v1 * (8 : Int32)) + (rd s.f_pc v1)))) = (0 : Int32)
                · rw [if_pos hc229] at h
                  refine Eval.ifT (t := 126) rfl rfl (teq hc229).1 ?_
                  refine Eval.weak (L' := [some (.ref 0), some (.int v1), none, none, some (.int (rd s.f_op ((v1 * (8 : Int32)) + (rd s.f_pc v1)))), some (.int (rd s.f_kind ((v1 * (8 : Int32)) + (rd s.f_pc v1)))), some (.int (rd s.f_amt ((v1 * (8 : Int32)) + (rd s.f_pc v1))))]) ⟨_, _, rfl, Or.inr rfl, _, _, rfl, Or.inr rfl, _, _, rfl, Or.inl rfl, _, _, rfl, Or.inl rfl, _, _, rfl, Or.inr rfl, _, _, rfl, Or.inr rfl, _, _, rfl, Or.inr rfl, rfl⟩ ?_
                  exact ev_j_step_b126 R s v1 (rd s.f_op ((v1 * (8 : Int32)) + (rd s.f_pc v1))) (rd s.f_kind ((v1 * (8 : Int32)) + (rd s.f_pc v1))) (rd s.f_amt ((v1 * (8 : Int32)) + (rd s.f_pc v1))) h hk
                · rw [if_neg hc229] at h
                  refine Eval.ifF rfl (feq hc229).1 ?_
                  refine Eval.aload_n rfl rfl ?_
                  refine Eval.iload_n rfl rfl ?_
                  refine Eval.iload rfl rfl ?_
                  refine Eval.iload rfl rfl ?_
                  obtain ⟨p283, hq284, h⟩ := bind_some h
                  refine Eval.callI (rest := []) (x := p283.1) (H1 := (W1 p283.2 R)) rfl rfl (ev_j_doRequest R s v1 (rd s.f_kind ((v1 * (8 : Int32)) + (rd s.f_pc v1))) (rd s.f_amt ((v1 * (8 : Int32)) + (rd s.f_pc v1))) hq284 rfl) ?_
                  cases h
                  subst hk
                  exact Eval.ret rfl rfl
              · rw [if_neg hc228] at h
                refine Eval.icmpT (t := 126) rfl rfl (feq hc228).2 ?_
                refine Eval.weak (L' := [some (.ref 0), some (.int v1), none, none, some (.int (rd s.f_op ((v1 * (8 : Int32)) + (rd s.f_pc v1)))), some (.int (rd s.f_kind ((v1 * (8 : Int32)) + (rd s.f_pc v1)))), some (.int (rd s.f_amt ((v1 * (8 : Int32)) + (rd s.f_pc v1))))]) ⟨_, _, rfl, Or.inr rfl, _, _, rfl, Or.inr rfl, _, _, rfl, Or.inl rfl, _, _, rfl, Or.inl rfl, _, _, rfl, Or.inr rfl, _, _, rfl, Or.inr rfl, _, _, rfl, Or.inr rfl, rfl⟩ ?_
                exact ev_j_step_b126 R s v1 (rd s.f_op ((v1 * (8 : Int32)) + (rd s.f_pc v1))) (rd s.f_kind ((v1 * (8 : Int32)) + (rd s.f_pc v1))) (rd s.f_amt ((v1 * (8 : Int32)) + (rd s.f_pc v1))) h hk
            · rw [if_neg hc224] at h
              refine Eval.icmpF rfl (flt hc224).1 ?_
              refine Eval.weak (L' := [some (.ref 0), some (.int v1), none, none, none, none, none]) ⟨_, _, rfl, Or.inr rfl, _, _, rfl, Or.inr rfl, _, _, rfl, Or.inl rfl, _, _, rfl, Or.inl rfl, _, _, rfl, Or.inl rfl, _, _, rfl, Or.inl rfl, _, _, rfl, Or.inl rfl, rfl⟩ ?_
              exact ev_j_step_b63 R s v1 h hk
          · rw [if_neg hc223] at h
            refine Eval.icmpT (t := 63) rfl rfl (flt hc223).2.1 ?_
            refine Eval.weak (L' := [some (.ref 0), some (.int v1), none, none, none, none, none]) ⟨_, _, rfl, Or.inr rfl, _, _, rfl, Or.inr rfl, _, _, rfl, Or.inl rfl, _, _, rfl, Or.inl rfl, _, _, rfl, Or.inl rfl, _, _, rfl, Or.inl rfl, _, _, rfl, Or.inl rfl, rfl⟩ ?_
            exact ev_j_step_b63 R s v1 h hk
def j_state (s : Q) (v1 : Int32) : Option (Int32) := (if (j_known s v1) = (0 : Int32) then some ((0 : Int32)) else (if inb s.f_st.length v1 = true then some ((rd s.f_st v1)) else none))
set_option maxRecDepth 100000 in
theorem ev_j_state (R : AHeap) (s : Q) (v1 : Int32) {res : Int32} {out : Option Value × AHeap} (h : j_state s v1 = some res) (hk : out = (some (.int res), (W1 s R))) : Eval own_P 16 0 [some (.ref 0), some (.int v1)] [] (W1 s R) out := by
  rw [j_state] at h
  refine Eval.aload_n rfl rfl ?_
  refine Eval.iload_n rfl rfl ?_
  refine Eval.callI (rest := []) (x := (j_known s v1)) (H1 := (W1 s R)) rfl rfl (ev_j_known R s v1 rfl rfl) ?_
  by_cases hc292 : (j_known s v1) = (0 : Int32)
  · rw [if_pos hc292] at h
    refine Eval.ifF rfl (teq hc292).2 ?_
    refine Eval.iconst (x := (0 : Int32)) rfl rfl ?_
    cases h
    subst hk
    exact Eval.ret rfl rfl
  · rw [if_neg hc292] at h
    refine Eval.ifT (t := 10) rfl rfl (feq hc292).2 ?_
    refine Eval.aload_n rfl rfl ?_
    refine Eval.getfield rfl rfl own_g1_st ?_
    refine Eval.iload_n rfl rfl ?_
    obtain ⟨hb293, h⟩ := ite_some h
    refine Eval.iaload rfl own_a1_st hb293 ?_
    cases h
    subst hk
    exact Eval.ret rfl rfl
def j_queueLength (s : Q) : Int32 := (s.f_qlen)
set_option maxRecDepth 100000 in
theorem ev_j_queueLength (R : AHeap) (s : Q) {res : Int32} {out : Option Value × AHeap} (h : j_queueLength s = res) (hk : out = (some (.int res), (W1 s R))) : Eval own_P 17 0 [some (.ref 0)] [] (W1 s R) out := by
  rw [j_queueLength] at h
  refine Eval.aload_n rfl rfl ?_
  refine Eval.getfield rfl rfl own_g1_qlen ?_
  subst h
  subst hk
  exact Eval.ret rfl rfl
def j_queueAt (s : Q) (v1 : Int32) : Option (Int32) := (if v1 < (0 : Int32) then some ((-1 : Int32)) else (if v1 < s.f_qlen then (if v1 < (8 : Int32) then (if inb s.f_queue.length v1 = true then some ((rd s.f_queue v1)) else none) else some ((-1 : Int32))) else some ((-1 : Int32))))
set_option maxRecDepth 100000 in
theorem ev_j_queueAt (R : AHeap) (s : Q) (v1 : Int32) {res : Int32} {out : Option Value × AHeap} (h : j_queueAt s v1 = some res) (hk : out = (some (.int res), (W1 s R))) : Eval own_P 18 0 [some (.ref 0), some (.int v1)] [] (W1 s R) out := by
  rw [j_queueAt] at h
  refine Eval.iload_n rfl rfl ?_
  by_cases hc298 : v1 < (0 : Int32)
  · rw [if_pos hc298] at h
    refine Eval.ifT (t := 18) rfl rfl (tlt hc298).1 ?_
    refine Eval.iconst (x := (-1 : Int32)) rfl rfl ?_
    cases h
    subst hk
    exact Eval.ret rfl rfl
  · rw [if_neg hc298] at h
    refine Eval.ifF rfl (flt hc298).1 ?_
    refine Eval.iload_n rfl rfl ?_
    refine Eval.aload_n rfl rfl ?_
    refine Eval.getfield rfl rfl own_g1_qlen ?_
    by_cases hc299 : v1 < s.f_qlen
    · rw [if_pos hc299] at h
      refine Eval.icmpF rfl (tlt hc299).2.1 ?_
      refine Eval.iload_n rfl rfl ?_
      refine Eval.bipush (x := (8 : Int32)) rfl rfl ?_
      by_cases hc300 : v1 < (8 : Int32)
      · rw [if_pos hc300] at h
        refine Eval.icmpT (t := 20) rfl rfl (tlt hc300).1 ?_
        refine Eval.aload_n rfl rfl ?_
        refine Eval.getfield rfl rfl own_g1_queue ?_
        refine Eval.iload_n rfl rfl ?_
        obtain ⟨hb301, h⟩ := ite_some h
        refine Eval.iaload rfl own_a1_queue hb301 ?_
        cases h
        subst hk
        exact Eval.ret rfl rfl
      · rw [if_neg hc300] at h
        refine Eval.icmpF rfl (flt hc300).1 ?_
        refine Eval.iconst (x := (-1 : Int32)) rfl rfl ?_
        cases h
        subst hk
        exact Eval.ret rfl rfl
    · rw [if_neg hc299] at h
      refine Eval.icmpT (t := 18) rfl rfl (flt hc299).2.1 ?_
      refine Eval.iconst (x := (-1 : Int32)) rfl rfl ?_
      cases h
      subst hk
      exact Eval.ret rfl rfl
def j_available (s : Q) (v1 : Int32) : Option (Int32) := (if (j_validKind v1) = (0 : Int32) then some ((-1 : Int32)) else (if inb s.f_avail.length v1 = true then some ((rd s.f_avail v1)) else none))
set_option maxRecDepth 100000 in
theorem ev_j_available (R : AHeap) (s : Q) (v1 : Int32) {res : Int32} {out : Option Value × AHeap} (h : j_available s v1 = some res) (hk : out = (some (.int res), (W1 s R))) : Eval own_P 19 0 [some (.ref 0), some (.int v1)] [] (W1 s R) out := by
  rw [j_available] at h
  refine Eval.aload_n rfl rfl ?_
  refine Eval.iload_n rfl rfl ?_
  refine Eval.callI (rest := []) (x := (j_validKind v1)) (H1 := (W1 s R)) rfl rfl (ev_j_validKind (W1 s R) 0 v1 rfl rfl) ?_
  by_cases hc305 : (j_validKind v1) = (0 : Int32)
  · rw [if_pos hc305] at h
    refine Eval.ifF rfl (teq hc305).2 ?_
    refine Eval.iconst (x := (-1 : Int32)) rfl rfl ?_
    cases h
    subst hk
    exact Eval.ret rfl rfl
  · rw [if_neg hc305] at h
    refine Eval.ifT (t := 10) rfl rfl (feq hc305).2 ?_
    refine Eval.aload_n rfl rfl ?_
    refine Eval.getfield rfl rfl own_g1_avail ?_
    refine Eval.iload_n rfl rfl ?_
    obtain ⟨hb306, h⟩ := ite_some h
    refine Eval.iaload rfl own_a1_avail hb306 ?_
    cases h
    subst hk
    exact Eval.ret rfl rfl
def j_safeLength (s : Q) : Option (Int32 × Q) := ((j_computeSafety s).bind fun p310 => some (p310.2.f_olen, p310.2))
theorem ln_j_safeLength {s : Q} {res : Int32 × Q} (h : j_safeLength s = some res) : Q.len res.2 = Q.len s := by
  rw [j_safeLength] at h
  obtain ⟨p310, hq311, h⟩ := bind_some h
  have hl312 := (ln_j_computeSafety hq311).trans rfl
  have hr0 := Option.some.inj h
  subst hr0
  show Q.len p310.2 = _
  exact hl312
set_option maxRecDepth 100000 in
theorem ev_j_safeLength (R : AHeap) (s : Q) {res : Int32 × Q} {out : Option Value × AHeap} (h : j_safeLength s = some res) (hk : out = (some (.int res.1), (W1 res.2 R))) : Eval own_P 20 0 [some (.ref 0)] [] (W1 s R) out := by
  rw [j_safeLength] at h
  refine Eval.aload_n rfl rfl ?_
  obtain ⟨p310, hq311, h⟩ := bind_some h
  refine Eval.callI (rest := []) (x := p310.1) (H1 := (W1 p310.2 R)) rfl rfl (ev_j_computeSafety R s hq311 rfl) ?_
  refine Eval.popI rfl ?_
  refine Eval.aload_n rfl rfl ?_
  refine Eval.getfield rfl rfl own_g1_olen ?_
  cases h
  subst hk
  exact Eval.ret rfl rfl
def j_safeAt (s : Q) (v1 : Int32) : Option (Int32 × Q) := ((j_computeSafety s).bind fun p316 => (if v1 < (0 : Int32) then some ((-1 : Int32), p316.2) else (if v1 < p316.2.f_olen then (if v1 < (8 : Int32) then (if inb p316.2.f_order.length v1 = true then some ((rd p316.2.f_order v1), p316.2) else none) else some ((-1 : Int32), p316.2)) else some ((-1 : Int32), p316.2))))
theorem ln_j_safeAt {s : Q} {v1 : Int32} {res : Int32 × Q} (h : j_safeAt s v1 = some res) : Q.len res.2 = Q.len s := by
  rw [j_safeAt] at h
  obtain ⟨p316, hq317, h⟩ := bind_some h
  have hl318 := (ln_j_computeSafety hq317).trans rfl
  by_cases hc319 : v1 < (0 : Int32)
  · rw [if_pos hc319] at h
    have hr0 := Option.some.inj h
    subst hr0
    show Q.len p316.2 = _
    exact hl318
  · rw [if_neg hc319] at h
    by_cases hc320 : v1 < p316.2.f_olen
    · rw [if_pos hc320] at h
      by_cases hc321 : v1 < (8 : Int32)
      · rw [if_pos hc321] at h
        obtain ⟨hb322, h⟩ := ite_some h
        have hr0 := Option.some.inj h
        subst hr0
        show Q.len p316.2 = _
        exact hl318
      · rw [if_neg hc321] at h
        have hr0 := Option.some.inj h
        subst hr0
        show Q.len p316.2 = _
        exact hl318
    · rw [if_neg hc320] at h
      have hr0 := Option.some.inj h
      subst hr0
      show Q.len p316.2 = _
      exact hl318
set_option maxRecDepth 100000 in
theorem ev_j_safeAt (R : AHeap) (s : Q) (v1 : Int32) {res : Int32 × Q} {out : Option Value × AHeap} (h : j_safeAt s v1 = some res) (hk : out = (some (.int res.1), (W1 res.2 R))) : Eval own_P 21 0 [some (.ref 0), some (.int v1)] [] (W1 s R) out := by
  rw [j_safeAt] at h
  refine Eval.aload_n rfl rfl ?_
  obtain ⟨p316, hq317, h⟩ := bind_some h
  refine Eval.callI (rest := []) (x := p316.1) (H1 := (W1 p316.2 R)) rfl rfl (ev_j_computeSafety R s hq317 rfl) ?_
  refine Eval.popI rfl ?_
  refine Eval.iload_n rfl rfl ?_
  by_cases hc319 : v1 < (0 : Int32)
  · rw [if_pos hc319] at h
    refine Eval.ifT (t := 23) rfl rfl (tlt hc319).1 ?_
    refine Eval.iconst (x := (-1 : Int32)) rfl rfl ?_
    cases h
    subst hk
    exact Eval.ret rfl rfl
  · rw [if_neg hc319] at h
    refine Eval.ifF rfl (flt hc319).1 ?_
    refine Eval.iload_n rfl rfl ?_
    refine Eval.aload_n rfl rfl ?_
    refine Eval.getfield rfl rfl own_g1_olen ?_
    by_cases hc320 : v1 < p316.2.f_olen
    · rw [if_pos hc320] at h
      refine Eval.icmpF rfl (tlt hc320).2.1 ?_
      refine Eval.iload_n rfl rfl ?_
      refine Eval.bipush (x := (8 : Int32)) rfl rfl ?_
      by_cases hc321 : v1 < (8 : Int32)
      · rw [if_pos hc321] at h
        refine Eval.icmpT (t := 25) rfl rfl (tlt hc321).1 ?_
        refine Eval.aload_n rfl rfl ?_
        refine Eval.getfield rfl rfl own_g1_order ?_
        refine Eval.iload_n rfl rfl ?_
        obtain ⟨hb322, h⟩ := ite_some h
        refine Eval.iaload rfl own_a1_order hb322 ?_
        cases h
        subst hk
        exact Eval.ret rfl rfl
      · rw [if_neg hc321] at h
        refine Eval.icmpF rfl (flt hc321).1 ?_
        refine Eval.iconst (x := (-1 : Int32)) rfl rfl ?_
        cases h
        subst hk
        exact Eval.ret rfl rfl
    · rw [if_neg hc320] at h
      refine Eval.icmpT (t := 23) rfl rfl (flt hc320).2.1 ?_
      refine Eval.iconst (x := (-1 : Int32)) rfl rfl ?_
      cases h
      subst hk
      exact Eval.ret rfl rfl
def j_pc (s : Q) (v1 : Int32) : Option (Int32) := (if (j_known s v1) = (0 : Int32) then some ((-1 : Int32)) else (if inb s.f_pc.length v1 = true then some ((rd s.f_pc v1)) else none))
set_option maxRecDepth 100000 in
theorem ev_j_pc (R : AHeap) (s : Q) (v1 : Int32) {res : Int32} {out : Option Value × AHeap} (h : j_pc s v1 = some res) (hk : out = (some (.int res), (W1 s R))) : Eval own_P 25 0 [some (.ref 0), some (.int v1)] [] (W1 s R) out := by
  rw [j_pc] at h
  refine Eval.aload_n rfl rfl ?_
  refine Eval.iload_n rfl rfl ?_
  refine Eval.callI (rest := []) (x := (j_known s v1)) (H1 := (W1 s R)) rfl rfl (ev_j_known R s v1 rfl rfl) ?_
  by_cases hc335 : (j_known s v1) = (0 : Int32)
  · rw [if_pos hc335] at h
    refine Eval.ifF rfl (teq hc335).2 ?_
    refine Eval.iconst (x := (-1 : Int32)) rfl rfl ?_
    cases h
    subst hk
    exact Eval.ret rfl rfl
  · rw [if_neg hc335] at h
    refine Eval.ifT (t := 10) rfl rfl (feq hc335).2 ?_
    refine Eval.aload_n rfl rfl ?_
    refine Eval.getfield rfl rfl own_g1_pc ?_
    refine Eval.iload_n rfl rfl ?_
    obtain ⟨hb336, h⟩ := ite_some h
    refine Eval.iaload rfl own_a1_pc hb336 ?_
    cases h
    subst hk
    exact Eval.ret rfl rfl
def j_allocation (s : Q) (v1 : Int32) (v2 : Int32) : Option (Int32) := (if (j_known s v1) = (0 : Int32) then some ((-1 : Int32)) else (if (j_validKind v2) = (0 : Int32) then some ((-1 : Int32)) else (if inb s.f_alloc.length ((v1 * (4 : Int32)) + v2) = true then some ((rd s.f_alloc ((v1 * (4 : Int32)) + v2))) else none)))
set_option maxRecDepth 100000 in
theorem ev_j_allocation (R : AHeap) (s : Q) (v1 : Int32) (v2 : Int32) {res : Int32} {out : Option Value × AHeap} (h : j_allocation s v1 v2 = some res) (hk : out = (some (.int res), (W1 s R))) : Eval own_P 26 0 [some (.ref 0), some (.int v1), some (.int v2)] [] (W1 s R) out := by
  rw [j_allocation] at h
  refine Eval.aload_n rfl rfl ?_
  refine Eval.iload_n rfl rfl ?_
  refine Eval.callI (rest := []) (x := (j_known s v1)) (H1 := (W1 s R)) rfl rfl (ev_j_known R s v1 rfl rfl) ?_
  by_cases hc340 : (j_known s v1) = (0 : Int32)
  · rw [if_pos hc340] at h
    refine Eval.ifT (t := 16) rfl rfl (teq hc340).1 ?_
    refine Eval.iconst (x := (-1 : Int32)) rfl rfl ?_
    cases h
    subst hk
    exact Eval.ret rfl rfl
  · rw [if_neg hc340] at h
    refine Eval.ifF rfl (feq hc340).1 ?_
    refine Eval.aload_n rfl rfl ?_
    refine Eval.iload_n rfl rfl ?_
    refine Eval.callI (rest := []) (x := (j_validKind v2)) (H1 := (W1 s R)) rfl rfl (ev_j_validKind (W1 s R) 0 v2 rfl rfl) ?_
    by_cases hc341 : (j_validKind v2) = (0 : Int32)
    · rw [if_pos hc341] at h
      refine Eval.ifF rfl (teq hc341).2 ?_
      refine Eval.iconst (x := (-1 : Int32)) rfl rfl ?_
      cases h
      subst hk
      exact Eval.ret rfl rfl
    · rw [if_neg hc341] at h
      refine Eval.ifT (t := 18) rfl rfl (feq hc341).2 ?_
      refine Eval.aload_n rfl rfl ?_
      refine Eval.getfield rfl rfl own_g1_alloc ?_
      refine Eval.iload_n rfl rfl ?_
      refine Eval.iconst (x := (4 : Int32)) rfl rfl ?_
      refine Eval.imul rfl ?_
      refine Eval.iload_n rfl rfl ?_
      refine Eval.iadd rfl ?_
      obtain ⟨hb342, h⟩ := ite_some h
      refine Eval.iaload rfl own_a1_alloc hb342 ?_
      cases h
      subst hk
      exact Eval.ret rfl rfl
def law (v0 : Int32) (v1 : Int32) (v2 : Int32) : Option (Int32 × Q) := (if (((2 : Int32) + (v0 &&& (7 : Int32))) - (1 : Int32)) = (0 : Int32) then none else (if (((2 : Int32) + (v0 &&& (7 : Int32))) - ((1 : Int32) + ((v1 &&& (15 : Int32)) % (((2 : Int32) + (v0 &&& (7 : Int32))) - (1 : Int32))))) = (0 : Int32) then none else ((j_init ((2 : Int32) + (v0 &&& (7 : Int32))) (0 : Int32) (0 : Int32) (0 : Int32)).bind fun p15 => ((j_admit p15 ((2 : Int32) + (v0 &&& (7 : Int32))) (0 : Int32) (0 : Int32) (0 : Int32)).bind fun p45 => (if p45.1 = (0 : Int32) then ((j_admit p45.2 ((2 : Int32) + (v0 &&& (7 : Int32))) (0 : Int32) (0 : Int32) (0 : Int32)).bind fun p48 => (if p48.1 = (1 : Int32) then ((j_load p48.2 (0 : Int32) (1 : Int32) (0 : Int32) ((1 : Int32) + ((v1 &&& (15 : Int32)) % (((2 : Int32) + (v0 &&& (7 : Int32))) - (1 : Int32))))).bind fun p70 => (if p70.1 = (0 : Int32) then ((j_load p70.2 (0 : Int32) (2 : Int32) (0 : Int32) ((1 : Int32) + ((v1 &&& (15 : Int32)) % (((2 : Int32) + (v0 &&& (7 : Int32))) - (1 : Int32))))).bind fun p73 => (if p73.1 = (0 : Int32) then ((j_load p73.2 (0 : Int32) (3 : Int32) (0 : Int32) (0 : Int32)).bind fun p76 => (if p76.1 = (0 : Int32) then ((j_load p76.2 (1 : Int32) (1 : Int32) (0 : Int32) ((1 : Int32) + ((v2 &&& (15 : Int32)) % (((2 : Int32) + (v0 &&& (7 : Int32))) - ((1 : Int32) + ((v1 &&& (15 : Int32)) % (((2 : Int32) + (v0 &&& (7 : Int32))) - (1 : Int32)))))))).bind fun p79 => (if p79.1 = (0 : Int32) then ((j_load p79.2 (1 : Int32) (2 : Int32) (0 : Int32) ((1 : Int32) + ((v2 &&& (15 : Int32)) % (((2 : Int32) + (v0 &&& (7 : Int32))) - ((1 : Int32) + ((v1 &&& (15 : Int32)) % (((2 : Int32) + (v0 &&& (7 : Int32))) - (1 : Int32)))))))).bind fun p82 => (if p82.1 = (0 : Int32) then ((j_load p82.2 (1 : Int32) (3 : Int32) (0 : Int32) (0 : Int32)).bind fun p85 => (if p85.1 = (0 : Int32) then ((j_step p85.2 (0 : Int32)).bind fun p286 => (if p286.1 = (1 : Int32) then ((j_step p286.2 (1 : Int32)).bind fun p289 => (if p289.1 = (5 : Int32) then ((j_state p289.2 (1 : Int32)).bind fun p294 => (if p294 = (2 : Int32) then (if (j_queueLength p289.2) = (1 : Int32) then ((j_queueAt p289.2 (0 : Int32)).bind fun p302 => (if p302 = (1 : Int32) then ((j_available p289.2 (0 : Int32)).bind fun p307 => (if p307 = (((2 : Int32) + (v0 &&& (7 : Int32))) - ((1 : Int32) + ((v1 &&& (15 : Int32)) % (((2 : Int32) + (v0 &&& (7 : Int32))) - (1 : Int32))))) then ((j_safeLength p289.2).bind fun p313 => (if p313.1 = (2 : Int32) then ((j_safeAt p313.2 (0 : Int32)).bind fun p323 => (if p323.1 = (0 : Int32) then ((j_safeAt p323.2 (1 : Int32)).bind fun p326 => (if p326.1 = (1 : Int32) then ((j_step p326.2 (0 : Int32)).bind fun p329 => (if p329.1 = (2 : Int32) then ((j_state p329.2 (1 : Int32)).bind fun p332 => (if p332 = (1 : Int32) then ((j_pc p329.2 (1 : Int32)).bind fun p337 => (if p337 = (1 : Int32) then ((j_allocation p329.2 (1 : Int32) (0 : Int32)).bind fun p343 => (if p343 = ((1 : Int32) + ((v2 &&& (15 : Int32)) % (((2 : Int32) + (v0 &&& (7 : Int32))) - ((1 : Int32) + ((v1 &&& (15 : Int32)) % (((2 : Int32) + (v0 &&& (7 : Int32))) - (1 : Int32))))))) then ((j_available p329.2 (0 : Int32)).bind fun p346 => (if p346 = (((2 : Int32) + (v0 &&& (7 : Int32))) - ((1 : Int32) + ((v2 &&& (15 : Int32)) % (((2 : Int32) + (v0 &&& (7 : Int32))) - ((1 : Int32) + ((v1 &&& (15 : Int32)) % (((2 : Int32) + (v0 &&& (7 : Int32))) - (1 : Int32)))))))) then (if (j_queueLength p329.2) = (0 : Int32) then ((j_safeAt p329.2 (0 : Int32)).bind fun p350 => (if p350.1 = (1 : Int32) then ((j_safeAt p350.2 (1 : Int32)).bind fun p353 => (if p353.1 = (0 : Int32) then ((j_step p353.2 (1 : Int32)).bind fun p356 => (if p356.1 = (2 : Int32) then ((j_step p356.2 (0 : Int32)).bind fun p359 => (if p359.1 = (3 : Int32) then ((j_step p359.2 (1 : Int32)).bind fun p362 => (if p362.1 = (3 : Int32) then ((j_available p362.2 (0 : Int32)).bind fun p365 => (if p365 = ((2 : Int32) + (v0 &&& (7 : Int32))) then ((j_state p362.2 (0 : Int32)).bind fun p368 => (if p368 = (3 : Int32) then ((j_state p362.2 (1 : Int32)).bind fun p371 => (if p371 = (3 : Int32) then ((j_safeLength p362.2).bind fun p374 => (if p374.1 = (0 : Int32) then some ((1 : Int32), p374.2) else some ((0 : Int32), p374.2))) else some ((0 : Int32), p362.2))) else some ((0 : Int32), p362.2))) else some ((0 : Int32), p362.2))) else some ((0 : Int32), p362.2))) else some ((0 : Int32), p359.2))) else some ((0 : Int32), p356.2))) else some ((0 : Int32), p353.2))) else some ((0 : Int32), p350.2))) else some ((0 : Int32), p329.2)) else some ((0 : Int32), p329.2))) else some ((0 : Int32), p329.2))) else some ((0 : Int32), p329.2))) else some ((0 : Int32), p329.2))) else some ((0 : Int32), p329.2))) else some ((0 : Int32), p326.2))) else some ((0 : Int32), p323.2))) else some ((0 : Int32), p313.2))) else some ((0 : Int32), p289.2))) else some ((0 : Int32), p289.2))) else some ((0 : Int32), p289.2)) else some ((0 : Int32), p289.2))) else some ((0 : Int32), p289.2))) else some ((0 : Int32), p286.2))) else some ((0 : Int32), p85.2))) else some ((0 : Int32), p82.2))) else some ((0 : Int32), p79.2))) else some ((0 : Int32), p76.2))) else some ((0 : Int32), p73.2))) else some ((0 : Int32), p70.2))) else some ((0 : Int32), p48.2))) else some ((0 : Int32), p45.2))))))
set_option maxRecDepth 100000 in
theorem ev_law (v0 : Int32) (v1 : Int32) (v2 : Int32) {res : Int32 × Q} {out : Option Value × AHeap} (h : law v0 v1 v2 = some res) (hk : out = (some (.int res.1), (W1 res.2 []))) : Eval own_P 0 0 [some (.int v0), some (.int v1), some (.int v2), none, none, none, none] [] (W0 []) out := by
  rw [law] at h
  refine Eval.iconst (x := (2 : Int32)) rfl rfl ?_
  refine Eval.iload_n rfl rfl ?_
  refine Eval.bipush (x := (7 : Int32)) rfl rfl ?_
  refine Eval.iand rfl ?_
  refine Eval.iadd rfl ?_
  refine Eval.istore_n (L' := [some (.int v0), some (.int v1), some (.int v2), some (.int ((2 : Int32) + (v0 &&& (7 : Int32)))), none, none, none]) rfl rfl ?_
  refine Eval.iconst (x := (1 : Int32)) rfl rfl ?_
  refine Eval.iload_n rfl rfl ?_
  refine Eval.bipush (x := (15 : Int32)) rfl rfl ?_
  refine Eval.iand rfl ?_
  refine Eval.iload_n rfl rfl ?_
  refine Eval.iconst (x := (1 : Int32)) rfl rfl ?_
  refine Eval.isub rfl ?_
  obtain ⟨hz1, h⟩ := ite_none h
  refine Eval.irem rfl hz1 ?_
  refine Eval.iadd rfl ?_
  refine Eval.istore (L' := [some (.int v0), some (.int v1), some (.int v2), some (.int ((2 : Int32) + (v0 &&& (7 : Int32)))), some (.int ((1 : Int32) + ((v1 &&& (15 : Int32)) % (((2 : Int32) + (v0 &&& (7 : Int32))) - (1 : Int32))))), none, none]) rfl rfl ?_
  refine Eval.iconst (x := (1 : Int32)) rfl rfl ?_
  refine Eval.iload_n rfl rfl ?_
  refine Eval.bipush (x := (15 : Int32)) rfl rfl ?_
  refine Eval.iand rfl ?_
  refine Eval.iload_n rfl rfl ?_
  refine Eval.iload rfl rfl ?_
  refine Eval.isub rfl ?_
  obtain ⟨hz2, h⟩ := ite_none h
  refine Eval.irem rfl hz2 ?_
  refine Eval.iadd rfl ?_
  refine Eval.istore (L' := [some (.int v0), some (.int v1), some (.int v2), some (.int ((2 : Int32) + (v0 &&& (7 : Int32)))), some (.int ((1 : Int32) + ((v1 &&& (15 : Int32)) % (((2 : Int32) + (v0 &&& (7 : Int32))) - (1 : Int32))))), some (.int ((1 : Int32) + ((v2 &&& (15 : Int32)) % (((2 : Int32) + (v0 &&& (7 : Int32))) - ((1 : Int32) + ((v1 &&& (15 : Int32)) % (((2 : Int32) + (v0 &&& (7 : Int32))) - (1 : Int32)))))))), none]) rfl rfl ?_
  refine Eval.new (z := 0) (a := 0) (H1 := (W0 [.inl (Prog.fresh own_P)])) rfl rfl rfl (by decide) rfl (by decide) rfl ?_
  refine Eval.dupR rfl ?_
  refine Eval.iload_n rfl rfl ?_
  refine Eval.iconst (x := (0 : Int32)) rfl rfl ?_
  refine Eval.iconst (x := (0 : Int32)) rfl rfl ?_
  refine Eval.iconst (x := (0 : Int32)) rfl rfl ?_
  obtain ⟨p15, hq16, h⟩ := bind_some h
  refine Eval.callN (rest := [.ref 0]) (H1 := (W1 p15 [])) rfl rfl (ev_j_init ((2 : Int32) + (v0 &&& (7 : Int32))) (0 : Int32) (0 : Int32) (0 : Int32) hq16 rfl) ?_
  refine Eval.astore (L' := [some (.int v0), some (.int v1), some (.int v2), some (.int ((2 : Int32) + (v0 &&& (7 : Int32)))), some (.int ((1 : Int32) + ((v1 &&& (15 : Int32)) % (((2 : Int32) + (v0 &&& (7 : Int32))) - (1 : Int32))))), some (.int ((1 : Int32) + ((v2 &&& (15 : Int32)) % (((2 : Int32) + (v0 &&& (7 : Int32))) - ((1 : Int32) + ((v1 &&& (15 : Int32)) % (((2 : Int32) + (v0 &&& (7 : Int32))) - (1 : Int32)))))))), some (.ref 0)]) rfl rfl ?_
  refine Eval.aload rfl rfl ?_
  refine Eval.iload_n rfl rfl ?_
  refine Eval.iconst (x := (0 : Int32)) rfl rfl ?_
  refine Eval.iconst (x := (0 : Int32)) rfl rfl ?_
  refine Eval.iconst (x := (0 : Int32)) rfl rfl ?_
  obtain ⟨p45, hq46, h⟩ := bind_some h
  refine Eval.callI (rest := []) (x := p45.1) (H1 := (W1 p45.2 [])) rfl rfl (ev_j_admit [] p15 ((2 : Int32) + (v0 &&& (7 : Int32))) (0 : Int32) (0 : Int32) (0 : Int32) hq46 rfl) ?_
  by_cases hc47 : p45.1 = (0 : Int32)
  · rw [if_pos hc47] at h
    refine Eval.ifT (t := 59) rfl rfl (teq hc47).1 ?_
    refine Eval.aload rfl rfl ?_
    refine Eval.iload_n rfl rfl ?_
    refine Eval.iconst (x := (0 : Int32)) rfl rfl ?_
    refine Eval.iconst (x := (0 : Int32)) rfl rfl ?_
    refine Eval.iconst (x := (0 : Int32)) rfl rfl ?_
    obtain ⟨p48, hq49, h⟩ := bind_some h
    refine Eval.callI (rest := []) (x := p48.1) (H1 := (W1 p48.2 [])) rfl rfl (ev_j_admit [] p45.2 ((2 : Int32) + (v0 &&& (7 : Int32))) (0 : Int32) (0 : Int32) (0 : Int32) hq49 rfl) ?_
    refine Eval.iconst (x := (1 : Int32)) rfl rfl ?_
    by_cases hc50 : p48.1 = (1 : Int32)
    · rw [if_pos hc50] at h
      refine Eval.icmpT (t := 74) rfl rfl (teq hc50).1 ?_
      refine Eval.aload rfl rfl ?_
      refine Eval.iconst (x := (0 : Int32)) rfl rfl ?_
      refine Eval.iconst (x := (1 : Int32)) rfl rfl ?_
      refine Eval.iconst (x := (0 : Int32)) rfl rfl ?_
      refine Eval.iload rfl rfl ?_
      obtain ⟨p70, hq71, h⟩ := bind_some h
      refine Eval.callI (rest := []) (x := p70.1) (H1 := (W1 p70.2 [])) rfl rfl (ev_j_load [] p48.2 (0 : Int32) (1 : Int32) (0 : Int32) ((1 : Int32) + ((v1 &&& (15 : Int32)) % (((2 : Int32) + (v0 &&& (7 : Int32))) - (1 : Int32)))) hq71 rfl) ?_
      by_cases hc72 : p70.1 = (0 : Int32)
      · rw [if_pos hc72] at h
        refine Eval.ifT (t := 89) rfl rfl (teq hc72).1 ?_
        refine Eval.aload rfl rfl ?_
        refine Eval.iconst (x := (0 : Int32)) rfl rfl ?_
        refine Eval.iconst (x := (2 : Int32)) rfl rfl ?_
        refine Eval.iconst (x := (0 : Int32)) rfl rfl ?_
        refine Eval.iload rfl rfl ?_
        obtain ⟨p73, hq74, h⟩ := bind_some h
        refine Eval.callI (rest := []) (x := p73.1) (H1 := (W1 p73.2 [])) rfl rfl (ev_j_load [] p70.2 (0 : Int32) (2 : Int32) (0 : Int32) ((1 : Int32) + ((v1 &&& (15 : Int32)) % (((2 : Int32) + (v0 &&& (7 : Int32))) - (1 : Int32)))) hq74 rfl) ?_
        by_cases hc75 : p73.1 = (0 : Int32)
        · rw [if_pos hc75] at h
          refine Eval.ifT (t := 104) rfl rfl (teq hc75).1 ?_
          refine Eval.aload rfl rfl ?_
          refine Eval.iconst (x := (0 : Int32)) rfl rfl ?_
          refine Eval.iconst (x := (3 : Int32)) rfl rfl ?_
          refine Eval.iconst (x := (0 : Int32)) rfl rfl ?_
          refine Eval.iconst (x := (0 : Int32)) rfl rfl ?_
          obtain ⟨p76, hq77, h⟩ := bind_some h
          refine Eval.callI (rest := []) (x := p76.1) (H1 := (W1 p76.2 [])) rfl rfl (ev_j_load [] p73.2 (0 : Int32) (3 : Int32) (0 : Int32) (0 : Int32) hq77 rfl) ?_
          by_cases hc78 : p76.1 = (0 : Int32)
          · rw [if_pos hc78] at h
            refine Eval.ifT (t := 118) rfl rfl (teq hc78).1 ?_
            refine Eval.aload rfl rfl ?_
            refine Eval.iconst (x := (1 : Int32)) rfl rfl ?_
            refine Eval.iconst (x := (1 : Int32)) rfl rfl ?_
            refine Eval.iconst (x := (0 : Int32)) rfl rfl ?_
            refine Eval.iload rfl rfl ?_
            obtain ⟨p79, hq80, h⟩ := bind_some h
            refine Eval.callI (rest := []) (x := p79.1) (H1 := (W1 p79.2 [])) rfl rfl (ev_j_load [] p76.2 (1 : Int32) (1 : Int32) (0 : Int32) ((1 : Int32) + ((v2 &&& (15 : Int32)) % (((2 : Int32) + (v0 &&& (7 : Int32))) - ((1 : Int32) + ((v1 &&& (15 : Int32)) % (((2 : Int32) + (v0 &&& (7 : Int32))) - (1 : Int32))))))) hq80 rfl) ?_
            by_cases hc81 : p79.1 = (0 : Int32)
            · rw [if_pos hc81] at h
              refine Eval.ifT (t := 133) rfl rfl (teq hc81).1 ?_
              refine Eval.aload rfl rfl ?_
              refine Eval.iconst (x := (1 : Int32)) rfl rfl ?_
              refine Eval.iconst (x := (2 : Int32)) rfl rfl ?_
              refine Eval.iconst (x := (0 : Int32)) rfl rfl ?_
              refine Eval.iload rfl rfl ?_
              obtain ⟨p82, hq83, h⟩ := bind_some h
              refine Eval.callI (rest := []) (x := p82.1) (H1 := (W1 p82.2 [])) rfl rfl (ev_j_load [] p79.2 (1 : Int32) (2 : Int32) (0 : Int32) ((1 : Int32) + ((v2 &&& (15 : Int32)) % (((2 : Int32) + (v0 &&& (7 : Int32))) - ((1 : Int32) + ((v1 &&& (15 : Int32)) % (((2 : Int32) + (v0 &&& (7 : Int32))) - (1 : Int32))))))) hq83 rfl) ?_
              by_cases hc84 : p82.1 = (0 : Int32)
              · rw [if_pos hc84] at h
                refine Eval.ifT (t := 148) rfl rfl (teq hc84).1 ?_
                refine Eval.aload rfl rfl ?_
                refine Eval.iconst (x := (1 : Int32)) rfl rfl ?_
                refine Eval.iconst (x := (3 : Int32)) rfl rfl ?_
                refine Eval.iconst (x := (0 : Int32)) rfl rfl ?_
                refine Eval.iconst (x := (0 : Int32)) rfl rfl ?_
                obtain ⟨p85, hq86, h⟩ := bind_some h
                refine Eval.callI (rest := []) (x := p85.1) (H1 := (W1 p85.2 [])) rfl rfl (ev_j_load [] p82.2 (1 : Int32) (3 : Int32) (0 : Int32) (0 : Int32) hq86 rfl) ?_
                by_cases hc87 : p85.1 = (0 : Int32)
                · rw [if_pos hc87] at h
                  refine Eval.ifT (t := 162) rfl rfl (teq hc87).1 ?_
                  refine Eval.aload rfl rfl ?_
                  refine Eval.iconst (x := (0 : Int32)) rfl rfl ?_
                  obtain ⟨p286, hq287, h⟩ := bind_some h
                  refine Eval.callI (rest := []) (x := p286.1) (H1 := (W1 p286.2 [])) rfl rfl (ev_j_step [] p85.2 (0 : Int32) hq287 rfl) ?_
                  refine Eval.iconst (x := (1 : Int32)) rfl rfl ?_
                  by_cases hc288 : p286.1 = (1 : Int32)
                  · rw [if_pos hc288] at h
                    refine Eval.icmpT (t := 174) rfl rfl (teq hc288).1 ?_
                    refine Eval.aload rfl rfl ?_
                    refine Eval.iconst (x := (1 : Int32)) rfl rfl ?_
                    obtain ⟨p289, hq290, h⟩ := bind_some h
                    refine Eval.callI (rest := []) (x := p289.1) (H1 := (W1 p289.2 [])) rfl rfl (ev_j_step [] p286.2 (1 : Int32) hq290 rfl) ?_
                    refine Eval.iconst (x := (5 : Int32)) rfl rfl ?_
                    by_cases hc291 : p289.1 = (5 : Int32)
                    · rw [if_pos hc291] at h
                      refine Eval.icmpT (t := 186) rfl rfl (teq hc291).1 ?_
                      refine Eval.aload rfl rfl ?_
                      refine Eval.iconst (x := (1 : Int32)) rfl rfl ?_
                      obtain ⟨p294, hq295, h⟩ := bind_some h
                      refine Eval.callI (rest := []) (x := p294) (H1 := (W1 p289.2 [])) rfl rfl (ev_j_state [] p289.2 (1 : Int32) hq295 rfl) ?_
                      refine Eval.iconst (x := (2 : Int32)) rfl rfl ?_
                      by_cases hc296 : p294 = (2 : Int32)
                      · rw [if_pos hc296] at h
                        refine Eval.icmpT (t := 198) rfl rfl (teq hc296).1 ?_
                        refine Eval.aload rfl rfl ?_
                        refine Eval.callI (rest := []) (x := (j_queueLength p289.2)) (H1 := (W1 p289.2 [])) rfl rfl (ev_j_queueLength [] p289.2 rfl rfl) ?_
                        refine Eval.iconst (x := (1 : Int32)) rfl rfl ?_
                        by_cases hc297 : (j_queueLength p289.2) = (1 : Int32)
                        · rw [if_pos hc297] at h
                          refine Eval.icmpT (t := 209) rfl rfl (teq hc297).1 ?_
                          refine Eval.aload rfl rfl ?_
                          refine Eval.iconst (x := (0 : Int32)) rfl rfl ?_
                          obtain ⟨p302, hq303, h⟩ := bind_some h
                          refine Eval.callI (rest := []) (x := p302) (H1 := (W1 p289.2 [])) rfl rfl (ev_j_queueAt [] p289.2 (0 : Int32) hq303 rfl) ?_
                          refine Eval.iconst (x := (1 : Int32)) rfl rfl ?_
                          by_cases hc304 : p302 = (1 : Int32)
                          · rw [if_pos hc304] at h
                            refine Eval.icmpT (t := 221) rfl rfl (teq hc304).1 ?_
                            refine Eval.aload rfl rfl ?_
                            refine Eval.iconst (x := (0 : Int32)) rfl rfl ?_
                            obtain ⟨p307, hq308, h⟩ := bind_some h
                            refine Eval.callI (rest := []) (x := p307) (H1 := (W1 p289.2 [])) rfl rfl (ev_j_available [] p289.2 (0 : Int32) hq308 rfl) ?_
                            refine Eval.iload_n rfl rfl ?_
                            refine Eval.iload rfl rfl ?_
                            refine Eval.isub rfl ?_
                            by_cases hc309 : p307 = (((2 : Int32) + (v0 &&& (7 : Int32))) - ((1 : Int32) + ((v1 &&& (15 : Int32)) % (((2 : Int32) + (v0 &&& (7 : Int32))) - (1 : Int32)))))
                            · rw [if_pos hc309] at h
                              refine Eval.icmpT (t := 236) rfl rfl (teq hc309).1 ?_
                              refine Eval.aload rfl rfl ?_
                              obtain ⟨p313, hq314, h⟩ := bind_some h
                              refine Eval.callI (rest := []) (x := p313.1) (H1 := (W1 p313.2 [])) rfl rfl (ev_j_safeLength [] p289.2 hq314 rfl) ?_
                              refine Eval.iconst (x := (2 : Int32)) rfl rfl ?_
                              by_cases hc315 : p313.1 = (2 : Int32)
                              · rw [if_pos hc315] at h
                                refine Eval.icmpT (t := 247) rfl rfl (teq hc315).1 ?_
                                refine Eval.aload rfl rfl ?_
                                refine Eval.iconst (x := (0 : Int32)) rfl rfl ?_
                                obtain ⟨p323, hq324, h⟩ := bind_some h
                                refine Eval.callI (rest := []) (x := p323.1) (H1 := (W1 p323.2 [])) rfl rfl (ev_j_safeAt [] p313.2 (0 : Int32) hq324 rfl) ?_
                                by_cases hc325 : p323.1 = (0 : Int32)
                                · rw [if_pos hc325] at h
                                  refine Eval.ifT (t := 258) rfl rfl (teq hc325).1 ?_
                                  refine Eval.aload rfl rfl ?_
                                  refine Eval.iconst (x := (1 : Int32)) rfl rfl ?_
                                  obtain ⟨p326, hq327, h⟩ := bind_some h
                                  refine Eval.callI (rest := []) (x := p326.1) (H1 := (W1 p326.2 [])) rfl rfl (ev_j_safeAt [] p323.2 (1 : Int32) hq327 rfl) ?_
                                  refine Eval.iconst (x := (1 : Int32)) rfl rfl ?_
                                  by_cases hc328 : p326.1 = (1 : Int32)
                                  · rw [if_pos hc328] at h
                                    refine Eval.icmpT (t := 270) rfl rfl (teq hc328).1 ?_
                                    refine Eval.aload rfl rfl ?_
                                    refine Eval.iconst (x := (0 : Int32)) rfl rfl ?_
                                    obtain ⟨p329, hq330, h⟩ := bind_some h
                                    refine Eval.callI (rest := []) (x := p329.1) (H1 := (W1 p329.2 [])) rfl rfl (ev_j_step [] p326.2 (0 : Int32) hq330 rfl) ?_
                                    refine Eval.iconst (x := (2 : Int32)) rfl rfl ?_
                                    by_cases hc331 : p329.1 = (2 : Int32)
                                    · rw [if_pos hc331] at h
                                      refine Eval.icmpT (t := 282) rfl rfl (teq hc331).1 ?_
                                      refine Eval.aload rfl rfl ?_
                                      refine Eval.iconst (x := (1 : Int32)) rfl rfl ?_
                                      obtain ⟨p332, hq333, h⟩ := bind_some h
                                      refine Eval.callI (rest := []) (x := p332) (H1 := (W1 p329.2 [])) rfl rfl (ev_j_state [] p329.2 (1 : Int32) hq333 rfl) ?_
                                      refine Eval.iconst (x := (1 : Int32)) rfl rfl ?_
                                      by_cases hc334 : p332 = (1 : Int32)
                                      · rw [if_pos hc334] at h
                                        refine Eval.icmpT (t := 294) rfl rfl (teq hc334).1 ?_
                                        refine Eval.aload rfl rfl ?_
                                        refine Eval.iconst (x := (1 : Int32)) rfl rfl ?_
                                        obtain ⟨p337, hq338, h⟩ := bind_some h
                                        refine Eval.callI (rest := []) (x := p337) (H1 := (W1 p329.2 [])) rfl rfl (ev_j_pc [] p329.2 (1 : Int32) hq338 rfl) ?_
                                        refine Eval.iconst (x := (1 : Int32)) rfl rfl ?_
                                        by_cases hc339 : p337 = (1 : Int32)
                                        · rw [if_pos hc339] at h
                                          refine Eval.icmpT (t := 306) rfl rfl (teq hc339).1 ?_
                                          refine Eval.aload rfl rfl ?_
                                          refine Eval.iconst (x := (1 : Int32)) rfl rfl ?_
                                          refine Eval.iconst (x := (0 : Int32)) rfl rfl ?_
                                          obtain ⟨p343, hq344, h⟩ := bind_some h
                                          refine Eval.callI (rest := []) (x := p343) (H1 := (W1 p329.2 [])) rfl rfl (ev_j_allocation [] p329.2 (1 : Int32) (0 : Int32) hq344 rfl) ?_
                                          refine Eval.iload rfl rfl ?_
                                          by_cases hc345 : p343 = ((1 : Int32) + ((v2 &&& (15 : Int32)) % (((2 : Int32) + (v0 &&& (7 : Int32))) - ((1 : Int32) + ((v1 &&& (15 : Int32)) % (((2 : Int32) + (v0 &&& (7 : Int32))) - (1 : Int32)))))))
                                          · rw [if_pos hc345] at h
                                            refine Eval.icmpT (t := 320) rfl rfl (teq hc345).1 ?_
                                            refine Eval.aload rfl rfl ?_
                                            refine Eval.iconst (x := (0 : Int32)) rfl rfl ?_
                                            obtain ⟨p346, hq347, h⟩ := bind_some h
                                            refine Eval.callI (rest := []) (x := p346) (H1 := (W1 p329.2 [])) rfl rfl (ev_j_available [] p329.2 (0 : Int32) hq347 rfl) ?_
                                            refine Eval.iload_n rfl rfl ?_
                                            refine Eval.iload rfl rfl ?_
                                            refine Eval.isub rfl ?_
                                            by_cases hc348 : p346 = (((2 : Int32) + (v0 &&& (7 : Int32))) - ((1 : Int32) + ((v2 &&& (15 : Int32)) % (((2 : Int32) + (v0 &&& (7 : Int32))) - ((1 : Int32) + ((v1 &&& (15 : Int32)) % (((2 : Int32) + (v0 &&& (7 : Int32))) - (1 : Int32))))))))
                                            · rw [if_pos hc348] at h
                                              refine Eval.icmpT (t := 335) rfl rfl (teq hc348).1 ?_
                                              refine Eval.aload rfl rfl ?_
                                              refine Eval.callI (rest := []) (x := (j_queueLength p329.2)) (H1 := (W1 p329.2 [])) rfl rfl (ev_j_queueLength [] p329.2 rfl rfl) ?_
                                              by_cases hc349 : (j_queueLength p329.2) = (0 : Int32)
                                              · rw [if_pos hc349] at h
                                                refine Eval.ifT (t := 345) rfl rfl (teq hc349).1 ?_
                                                refine Eval.aload rfl rfl ?_
                                                refine Eval.iconst (x := (0 : Int32)) rfl rfl ?_
                                                obtain ⟨p350, hq351, h⟩ := bind_some h
                                                refine Eval.callI (rest := []) (x := p350.1) (H1 := (W1 p350.2 [])) rfl rfl (ev_j_safeAt [] p329.2 (0 : Int32) hq351 rfl) ?_
                                                refine Eval.iconst (x := (1 : Int32)) rfl rfl ?_
                                                by_cases hc352 : p350.1 = (1 : Int32)
                                                · rw [if_pos hc352] at h
                                                  refine Eval.icmpT (t := 357) rfl rfl (teq hc352).1 ?_
                                                  refine Eval.aload rfl rfl ?_
                                                  refine Eval.iconst (x := (1 : Int32)) rfl rfl ?_
                                                  obtain ⟨p353, hq354, h⟩ := bind_some h
                                                  refine Eval.callI (rest := []) (x := p353.1) (H1 := (W1 p353.2 [])) rfl rfl (ev_j_safeAt [] p350.2 (1 : Int32) hq354 rfl) ?_
                                                  by_cases hc355 : p353.1 = (0 : Int32)
                                                  · rw [if_pos hc355] at h
                                                    refine Eval.ifT (t := 368) rfl rfl (teq hc355).1 ?_
                                                    refine Eval.aload rfl rfl ?_
                                                    refine Eval.iconst (x := (1 : Int32)) rfl rfl ?_
                                                    obtain ⟨p356, hq357, h⟩ := bind_some h
                                                    refine Eval.callI (rest := []) (x := p356.1) (H1 := (W1 p356.2 [])) rfl rfl (ev_j_step [] p353.2 (1 : Int32) hq357 rfl) ?_
                                                    refine Eval.iconst (x := (2 : Int32)) rfl rfl ?_
                                                    by_cases hc358 : p356.1 = (2 : Int32)
                                                    · rw [if_pos hc358] at h
                                                      refine Eval.icmpT (t := 380) rfl rfl (teq hc358).1 ?_
                                                      refine Eval.aload rfl rfl ?_
                                                      refine Eval.iconst (x := (0 : Int32)) rfl rfl ?_
                                                      obtain ⟨p359, hq360, h⟩ := bind_some h
                                                      refine Eval.callI (rest := []) (x := p359.1) (H1 := (W1 p359.2 [])) rfl rfl (ev_j_step [] p356.2 (0 : Int32) hq360 rfl) ?_
                                                      refine Eval.iconst (x := (3 : Int32)) rfl rfl ?_
                                                      by_cases hc361 : p359.1 = (3 : Int32)
                                                      · rw [if_pos hc361] at h
                                                        refine Eval.icmpT (t := 392) rfl rfl (teq hc361).1 ?_
                                                        refine Eval.aload rfl rfl ?_
                                                        refine Eval.iconst (x := (1 : Int32)) rfl rfl ?_
                                                        obtain ⟨p362, hq363, h⟩ := bind_some h
                                                        refine Eval.callI (rest := []) (x := p362.1) (H1 := (W1 p362.2 [])) rfl rfl (ev_j_step [] p359.2 (1 : Int32) hq363 rfl) ?_
                                                        refine Eval.iconst (x := (3 : Int32)) rfl rfl ?_
                                                        by_cases hc364 : p362.1 = (3 : Int32)
                                                        · rw [if_pos hc364] at h
                                                          refine Eval.icmpT (t := 404) rfl rfl (teq hc364).1 ?_
                                                          refine Eval.aload rfl rfl ?_
                                                          refine Eval.iconst (x := (0 : Int32)) rfl rfl ?_
                                                          obtain ⟨p365, hq366, h⟩ := bind_some h
                                                          refine Eval.callI (rest := []) (x := p365) (H1 := (W1 p362.2 [])) rfl rfl (ev_j_available [] p362.2 (0 : Int32) hq366 rfl) ?_
                                                          refine Eval.iload_n rfl rfl ?_
                                                          by_cases hc367 : p365 = ((2 : Int32) + (v0 &&& (7 : Int32)))
                                                          · rw [if_pos hc367] at h
                                                            refine Eval.icmpT (t := 416) rfl rfl (teq hc367).1 ?_
                                                            refine Eval.aload rfl rfl ?_
                                                            refine Eval.iconst (x := (0 : Int32)) rfl rfl ?_
                                                            obtain ⟨p368, hq369, h⟩ := bind_some h
                                                            refine Eval.callI (rest := []) (x := p368) (H1 := (W1 p362.2 [])) rfl rfl (ev_j_state [] p362.2 (0 : Int32) hq369 rfl) ?_
                                                            refine Eval.iconst (x := (3 : Int32)) rfl rfl ?_
                                                            by_cases hc370 : p368 = (3 : Int32)
                                                            · rw [if_pos hc370] at h
                                                              refine Eval.icmpT (t := 428) rfl rfl (teq hc370).1 ?_
                                                              refine Eval.aload rfl rfl ?_
                                                              refine Eval.iconst (x := (1 : Int32)) rfl rfl ?_
                                                              obtain ⟨p371, hq372, h⟩ := bind_some h
                                                              refine Eval.callI (rest := []) (x := p371) (H1 := (W1 p362.2 [])) rfl rfl (ev_j_state [] p362.2 (1 : Int32) hq372 rfl) ?_
                                                              refine Eval.iconst (x := (3 : Int32)) rfl rfl ?_
                                                              by_cases hc373 : p371 = (3 : Int32)
                                                              · rw [if_pos hc373] at h
                                                                refine Eval.icmpT (t := 440) rfl rfl (teq hc373).1 ?_
                                                                refine Eval.aload rfl rfl ?_
                                                                obtain ⟨p374, hq375, h⟩ := bind_some h
                                                                refine Eval.callI (rest := []) (x := p374.1) (H1 := (W1 p374.2 [])) rfl rfl (ev_j_safeLength [] p362.2 hq375 rfl) ?_
                                                                by_cases hc376 : p374.1 = (0 : Int32)
                                                                · rw [if_pos hc376] at h
                                                                  refine Eval.ifF rfl (teq hc376).2 ?_
                                                                  refine Eval.iconst (x := (1 : Int32)) rfl rfl ?_
                                                                  refine Eval.goto (t := 453) rfl rfl ?_
                                                                  cases h
                                                                  subst hk
                                                                  exact Eval.ret rfl rfl
                                                                · rw [if_neg hc376] at h
                                                                  refine Eval.ifT (t := 452) rfl rfl (feq hc376).2 ?_
                                                                  refine Eval.iconst (x := (0 : Int32)) rfl rfl ?_
                                                                  cases h
                                                                  subst hk
                                                                  exact Eval.ret rfl rfl
                                                              · rw [if_neg hc373] at h
                                                                refine Eval.icmpF rfl (feq hc373).1 ?_
                                                                refine Eval.iconst (x := (0 : Int32)) rfl rfl ?_
                                                                cases h
                                                                subst hk
                                                                exact Eval.ret rfl rfl
                                                            · rw [if_neg hc370] at h
                                                              refine Eval.icmpF rfl (feq hc370).1 ?_
                                                              refine Eval.iconst (x := (0 : Int32)) rfl rfl ?_
                                                              cases h
                                                              subst hk
                                                              exact Eval.ret rfl rfl
                                                          · rw [if_neg hc367] at h
                                                            refine Eval.icmpF rfl (feq hc367).1 ?_
                                                            refine Eval.iconst (x := (0 : Int32)) rfl rfl ?_
                                                            cases h
                                                            subst hk
                                                            exact Eval.ret rfl rfl
                                                        · rw [if_neg hc364] at h
                                                          refine Eval.icmpF rfl (feq hc364).1 ?_
                                                          refine Eval.iconst (x := (0 : Int32)) rfl rfl ?_
                                                          cases h
                                                          subst hk
                                                          exact Eval.ret rfl rfl
                                                      · rw [if_neg hc361] at h
                                                        refine Eval.icmpF rfl (feq hc361).1 ?_
                                                        refine Eval.iconst (x := (0 : Int32)) rfl rfl ?_
                                                        cases h
                                                        subst hk
                                                        exact Eval.ret rfl rfl
                                                    · rw [if_neg hc358] at h
                                                      refine Eval.icmpF rfl (feq hc358).1 ?_
                                                      refine Eval.iconst (x := (0 : Int32)) rfl rfl ?_
                                                      cases h
                                                      subst hk
                                                      exact Eval.ret rfl rfl
                                                  · rw [if_neg hc355] at h
                                                    refine Eval.ifF rfl (feq hc355).1 ?_
                                                    refine Eval.iconst (x := (0 : Int32)) rfl rfl ?_
                                                    cases h
                                                    subst hk
                                                    exact Eval.ret rfl rfl
                                                · rw [if_neg hc352] at h
                                                  refine Eval.icmpF rfl (feq hc352).1 ?_
                                                  refine Eval.iconst (x := (0 : Int32)) rfl rfl ?_
                                                  cases h
                                                  subst hk
                                                  exact Eval.ret rfl rfl
                                              · rw [if_neg hc349] at h
                                                refine Eval.ifF rfl (feq hc349).1 ?_
                                                refine Eval.iconst (x := (0 : Int32)) rfl rfl ?_
                                                cases h
                                                subst hk
                                                exact Eval.ret rfl rfl
                                            · rw [if_neg hc348] at h
                                              refine Eval.icmpF rfl (feq hc348).1 ?_
                                              refine Eval.iconst (x := (0 : Int32)) rfl rfl ?_
                                              cases h
                                              subst hk
                                              exact Eval.ret rfl rfl
                                          · rw [if_neg hc345] at h
                                            refine Eval.icmpF rfl (feq hc345).1 ?_
                                            refine Eval.iconst (x := (0 : Int32)) rfl rfl ?_
                                            cases h
                                            subst hk
                                            exact Eval.ret rfl rfl
                                        · rw [if_neg hc339] at h
                                          refine Eval.icmpF rfl (feq hc339).1 ?_
                                          refine Eval.iconst (x := (0 : Int32)) rfl rfl ?_
                                          cases h
                                          subst hk
                                          exact Eval.ret rfl rfl
                                      · rw [if_neg hc334] at h
                                        refine Eval.icmpF rfl (feq hc334).1 ?_
                                        refine Eval.iconst (x := (0 : Int32)) rfl rfl ?_
                                        cases h
                                        subst hk
                                        exact Eval.ret rfl rfl
                                    · rw [if_neg hc331] at h
                                      refine Eval.icmpF rfl (feq hc331).1 ?_
                                      refine Eval.iconst (x := (0 : Int32)) rfl rfl ?_
                                      cases h
                                      subst hk
                                      exact Eval.ret rfl rfl
                                  · rw [if_neg hc328] at h
                                    refine Eval.icmpF rfl (feq hc328).1 ?_
                                    refine Eval.iconst (x := (0 : Int32)) rfl rfl ?_
                                    cases h
                                    subst hk
                                    exact Eval.ret rfl rfl
                                · rw [if_neg hc325] at h
                                  refine Eval.ifF rfl (feq hc325).1 ?_
                                  refine Eval.iconst (x := (0 : Int32)) rfl rfl ?_
                                  cases h
                                  subst hk
                                  exact Eval.ret rfl rfl
                              · rw [if_neg hc315] at h
                                refine Eval.icmpF rfl (feq hc315).1 ?_
                                refine Eval.iconst (x := (0 : Int32)) rfl rfl ?_
                                cases h
                                subst hk
                                exact Eval.ret rfl rfl
                            · rw [if_neg hc309] at h
                              refine Eval.icmpF rfl (feq hc309).1 ?_
                              refine Eval.iconst (x := (0 : Int32)) rfl rfl ?_
                              cases h
                              subst hk
                              exact Eval.ret rfl rfl
                          · rw [if_neg hc304] at h
                            refine Eval.icmpF rfl (feq hc304).1 ?_
                            refine Eval.iconst (x := (0 : Int32)) rfl rfl ?_
                            cases h
                            subst hk
                            exact Eval.ret rfl rfl
                        · rw [if_neg hc297] at h
                          refine Eval.icmpF rfl (feq hc297).1 ?_
                          refine Eval.iconst (x := (0 : Int32)) rfl rfl ?_
                          cases h
                          subst hk
                          exact Eval.ret rfl rfl
                      · rw [if_neg hc296] at h
                        refine Eval.icmpF rfl (feq hc296).1 ?_
                        refine Eval.iconst (x := (0 : Int32)) rfl rfl ?_
                        cases h
                        subst hk
                        exact Eval.ret rfl rfl
                    · rw [if_neg hc291] at h
                      refine Eval.icmpF rfl (feq hc291).1 ?_
                      refine Eval.iconst (x := (0 : Int32)) rfl rfl ?_
                      cases h
                      subst hk
                      exact Eval.ret rfl rfl
                  · rw [if_neg hc288] at h
                    refine Eval.icmpF rfl (feq hc288).1 ?_
                    refine Eval.iconst (x := (0 : Int32)) rfl rfl ?_
                    cases h
                    subst hk
                    exact Eval.ret rfl rfl
                · rw [if_neg hc87] at h
                  refine Eval.ifF rfl (feq hc87).1 ?_
                  refine Eval.iconst (x := (0 : Int32)) rfl rfl ?_
                  cases h
                  subst hk
                  exact Eval.ret rfl rfl
              · rw [if_neg hc84] at h
                refine Eval.ifF rfl (feq hc84).1 ?_
                refine Eval.iconst (x := (0 : Int32)) rfl rfl ?_
                cases h
                subst hk
                exact Eval.ret rfl rfl
            · rw [if_neg hc81] at h
              refine Eval.ifF rfl (feq hc81).1 ?_
              refine Eval.iconst (x := (0 : Int32)) rfl rfl ?_
              cases h
              subst hk
              exact Eval.ret rfl rfl
          · rw [if_neg hc78] at h
            refine Eval.ifF rfl (feq hc78).1 ?_
            refine Eval.iconst (x := (0 : Int32)) rfl rfl ?_
            cases h
            subst hk
            exact Eval.ret rfl rfl
        · rw [if_neg hc75] at h
          refine Eval.ifF rfl (feq hc75).1 ?_
          refine Eval.iconst (x := (0 : Int32)) rfl rfl ?_
          cases h
          subst hk
          exact Eval.ret rfl rfl
      · rw [if_neg hc72] at h
        refine Eval.ifF rfl (feq hc72).1 ?_
        refine Eval.iconst (x := (0 : Int32)) rfl rfl ?_
        cases h
        subst hk
        exact Eval.ret rfl rfl
    · rw [if_neg hc50] at h
      refine Eval.icmpF rfl (feq hc50).1 ?_
      refine Eval.iconst (x := (0 : Int32)) rfl rfl ?_
      cases h
      subst hk
      exact Eval.ret rfl rfl
  · rw [if_neg hc47] at h
    refine Eval.ifF rfl (feq hc47).1 ?_
    refine Eval.iconst (x := (0 : Int32)) rfl rfl ?_
    cases h
    subst hk
    exact Eval.ret rfl rfl
theorem own_ofN {x : Int32} (h : 0 ≤ x.toInt) : x = Int32.ofNat x.toInt.toNat := by
  have q : x.toInt < 2147483648 := by have := Int32.toInt_lt x; simpa using this
  rw [eq32, Int32.toInt_ofNat']
  simp only [Int32.size, Int.bmod_def]
  omega
theorem own_rem {x y : Int32} (h0 : 0 ≤ x.toInt) (h1 : 0 < y.toInt) : 0 ≤ (x % y).toInt ∧ (x % y).toInt < y.toInt := by
  rw [Int32.toInt_mod, Int.tmod_eq_emod_of_nonneg h0]
  exact ⟨Int.emod_nonneg _ (by omega), Int.emod_lt_of_pos _ h1⟩
theorem own_k : ∀ k : Fin 8, Int32.ofNat k.val &&& 7 = Int32.ofNat k.val ∧ (2 + Int32.ofNat k.val - 1).toInt = k.val + 1 := by decide +kernel
theorem own_i : ∀ k : Fin 8, ∀ i : Fin (k.val + 1), (Int32.ofNat i.val &&& 15) % (2 + Int32.ofNat k.val - 1) = Int32.ofNat i.val ∧ (2 + Int32.ofNat k.val - (1 + Int32.ofNat i.val)).toInt = k.val + 1 - i.val := by decide +kernel
theorem own_j : ∀ k : Fin 8, ∀ i : Fin (k.val + 1), ∀ j : Fin (k.val + 1 - i.val), (Int32.ofNat j.val &&& 15) % (2 + Int32.ofNat k.val - (1 + Int32.ofNat i.val)) = Int32.ofNat j.val := by decide +kernel
theorem own_all : ∀ k : Fin 8, ∀ i : Fin (k.val + 1), ∀ j : Fin (k.val + 1 - i.val), (law (Int32.ofNat k.val) (Int32.ofNat i.val) (Int32.ofNat j.val)).map (·.1) = some 1 := by decide +kernel
theorem own_law (v0 v1 v2 : Int32) : (law v0 v1 v2).map (·.1) = some 1 := by
  have a0 := c_and v0 7 (by decide)
  have a1 := c_and v1 15 (by decide)
  have a2 := c_and v2 15 (by decide)
  simp only [Int32.reduceToInt] at a0 a1 a2
  have e0 := own_ofN a0.1
  generalize hk : (v0 &&& 7).toInt.toNat = k at e0
  have k8 : k < 8 := by omega
  obtain ⟨b0, b1⟩ := own_k ⟨k, k8⟩
  dsimp only at b0 b1
  have m := own_rem (x := v1 &&& 15) (y := 2 + Int32.ofNat k - 1) a1.1 (by rw [b1]; omega)
  have e1 := own_ofN m.1
  generalize hi : ((v1 &&& 15) % (2 + Int32.ofNat k - 1)).toInt.toNat = i at e1
  have i8 : i < k + 1 := by omega
  obtain ⟨c0, c1⟩ := own_i ⟨k, k8⟩ ⟨i, i8⟩
  dsimp only at c0 c1
  have w := own_rem (x := v2 &&& 15) (y := 2 + Int32.ofNat k - (1 + Int32.ofNat i)) a2.1 (by rw [c1]; omega)
  have e2 := own_ofN w.1
  generalize hj : ((v2 &&& 15) % (2 + Int32.ofNat k - (1 + Int32.ofNat i))).toInt.toNat = j at e2
  have j8 : j < k + 1 - i := by omega
  have d0 := own_j ⟨k, k8⟩ ⟨i, i8⟩ ⟨j, j8⟩
  dsimp only at d0
  have main := own_all ⟨k, k8⟩ ⟨i, i8⟩ ⟨j, j8⟩
  dsimp only at main
  have E : law v0 v1 v2 = law (Int32.ofNat k) (Int32.ofNat i) (Int32.ofNat j) := by
    rw [law, law, e0, b0, e1, c0, e2, d0]
  rw [E]; exact main

set_option maxRecDepth 65536 in
set_option maxHeartbeats 4000000 in
theorem comes_1 {Post : Tables → Env → Array Value → State → Outcome → State → Prop} (hpost : ∀ tb e args s v u, (limb_1_1.after args s (.returned v) u = true ∧ limb_1_2.after args s (.returned v) u = true ∧ True) → FrameEnd s (.returned v) u (Jvm.fieldLocs frame_1_writes args s ++ Jvm.arrayLocs frame_1_arrays args s ++ Jvm.staticLocs frame_1_statics s) 40 768 → Post tb e args s (.returned v) u) :
    ArmFor flags0 classFile x code maxLocals ret World_1 tables_1 room_1 Calls_1 rest_1 Pre_1 Post := by
  intro l hfl _ _ p e ha hc hk s m args below hf hA hF happ hP
  obtain ⟨hcalls, hrest, hpre⟩ := hP
  obtain ⟨-, -, -, hnamed, -, -, -, hat⟩ := (Spec.applies_iff hf).mp happ
  obtain ⟨hg, hn⟩ := and_e (Cond.before_iff.mp (show (Jvm.Cond.and given_1 narrow_1).before args s = true from hpre))
  obtain ⟨hcnt, h0⟩ := and_e hg
  obtain ⟨w0, w1, w2, rfl⟩ : ∃ w0 w1 w2 : Value, args = #[w0, w1, w2] := by
    have hs : args.size = 3 := by simpa [Cond.value, given_1] using hcnt
    obtain ⟨L⟩ := args
    match L, hs with
    | [w0, w1, w2], _ => exact ⟨w0, w1, w2, rfl⟩
  have hw := fun d (hd : d ∈ tables_1) => atoms_spec (ws := Jvm.Cond.code x code maxLocals ret :: tables_1) hat d (List.mem_cons_of_mem _ hd)
  obtain ⟨q0, h1⟩ := and_e h0
  obtain ⟨i0, e0⟩ := is_v q0
  obtain rfl : w0 = .int i0 := Option.some.inj e0
  obtain ⟨q1, h2⟩ := and_e h1
  obtain ⟨i1, e1⟩ := is_v q1
  obtain rfl : w1 = .int i1 := Option.some.inj e1
  obtain ⟨i2, e2⟩ := is_v h2
  obtain rfl : w2 = .int i2 := Option.some.inj e2
  have hL := own_law i0 i1 i2
  obtain ⟨res, hres, hr1⟩ := Option.map_eq_some_iff.mp hL
  obtain ⟨n, hrun⟩ := ev_law i0 i1 i2 hres rfl
  have hr1' : res.1 = 1 := hr1
  rw [hr1'] at hrun
  have hcap := run_cap hrun
  have hcC : own_P.capC = 40 := rfl
  have hcS : own_P.capS = 768 := rfl
  rw [hcC, hcS] at hcap
  have hc1 : (W0 []).length = 0 := rfl
  have hc2 : hsz own_P (W0 []) = 0 := rfl
  have hM := metOf (sound (own_good hw) n) (k := 0) (as := [.int i0, .int i1, .int i2]) (H := (W0 [])) hrun (l := l) (wsC := tables_1) (rm := room_1) own_pn0 rfl (fun h => nomatch h) (by decide) (by decide) (by show _ ≤ 40; omega) (by show _ ≤ 768; omega) (am := []) (ws := [.int i0, .int i1, .int i2]) (h := s.heap) (n0 := s.heap.size) ⟨_, _, rfl, rfl, _, _, rfl, rfl, _, _, rfl, rfl, rfl⟩ (Nat.le_of_ble_eq_true rfl) (HR.none _ _ _ _ _) (Nat.le_refl _)
  obtain ⟨n, o, h1, h2, h3, w, L, rfl, ⟨N, -, am', -, -, hv⟩, hq⟩ := hM p e ha hc hk s m _ below hf ((Spec.applies_iff_loose hf).mp happ).1 ⟨rfl, State.Warmed39.refl s, rfl⟩ trivial
  obtain ⟨y, rfl, rfl⟩ := hv
  exact ⟨n, _, h1, h2, h3, hpost _ _ _ _ _ _ ⟨Cond.after_iff.mpr rfl, Cond.after_iff.mpr (eq_i res_at (Term.int_eval (1)) rfl), trivial⟩ ⟨hq.1, hq.2.1, (hq.2.2.sift fun y hy => Or.inr (N y hy)).mono (by omega) (by omega)⟩⟩
theorem main_1_1 : Claimed_1_1 := comes_1 fun _ _ _ _ _ _ h hF => ⟨h.1, hF⟩
theorem main_1_2 : Claimed_1_2 := comes_1 fun _ _ _ _ _ _ h hF => ⟨h.2.1, hF⟩
end Jvm.Pilot.@@N@@
namespace Jvm.Pilot.@@N@@
open Jvm Jvm.ClassFile Sem Op Lib Jvm.Free Jvm.Stand Jvm.Pilot.@@N@@.Jvm.D
/-! MADE BY PROGRAM (witnessworld.py) out of the Statement's table words and the real class files: 11 classes; the members and pool entries that the words name. The judged class is class 1, her method 1. -/
namespace start1
open Jvm.ClassFile
def u (s : String) : CpInfo := .utf8 (stringToUtf16 s)
/-- a pool by its gaps: so many unusable entries, then the entry; so many at the end -/
def gap : Nat → List CpInfo → List CpInfo
  | 0, r => r
  | n + 1, r => .unusable :: gap n r
def poolList (es : List (Nat × CpInfo)) (last : Nat) : List CpInfo := es.foldr (fun e r => gap e.1 (e.2 :: r)) (gap last [])
def pool (es : List (Nat × CpInfo)) (last : Nat) : Array CpInfo := ⟨poolList es last⟩
def fileOf (pool : Array CpInfo) (this : Nat) (attrs : Array Attribute := #[]) (ms : Array MethodInfo := #[]) (fl : Nat := 33) (sup : Nat := 0) (ifs : Array Nat := #[]) (fds : Array FieldInfo := #[]) : ClassFile where
  minorVersion := 0
  majorVersion := 65
  constantPool := pool
  accessFlags := fl
  thisClass := this
  superClass := sup
  interfaces := ifs
  fields := fds
  methods := ms
  attributes := attrs
def plain (name : String) (sup : Option ClassId) : Class where
  name := name
  kind := .ordinary
  loader := none
  accessFlags := 33
  super := sup
  interfaces := #[]
  cf := none
  fields := #[]
  methods := #[]
  instanceTypes := #[]
  staticTypes := #[]
  resolved := #[]
  callSites := []
  init := .initialized
  statics := none
  mirror := none

def pool0 : Array CpInfo := pool [(5, u "<init>"), (0, u "()V"), (1, .class_ 10), (1, u "java/lang/Object")] 113

def k0c0 : Code := { maxStack := 0, maxLocals := 1, code := object_method_1_code, exceptionTable := #[], attributes := #[] }
def k0m0 : Method := { name := "<init>", desc := "()V", sig := { parameters := [], returnType := none }, accessFlags := 1, code := some k0c0 }
/-- java/lang/Object -/
def k0 : Class := { plain "java/lang/Object" none with
  accessFlags := 33
  interfaces := #[]
  cf := some (fileOf pool0 8 #[] #[{ accessFlags := 1, nameIndex := 5, descriptorIndex := 6, attributes := #[] }] 33 0 #[] #[])
  fields := #[]
  methods := #[k0m0]
  instanceTypes := #[]
  staticTypes := #[]
  resolved := Array.replicate 124 none
  statics := none }

def pool1 : Array CpInfo := pool [(2, .class_ 4), (1, u "java/lang/Object"), (0, u "<init>"), (0, u "()V"), (0, .class_ 8), (0, u "BankerGuard"), (0, .methodref 7 10), (0, .nameAndType 5 11), (0, u "(IIII)V"), (0, .methodref 7 13), (0, .nameAndType 14 15), (0, u "admit"), (0, u "(IIII)I"), (0, .methodref 7 17), (0, .nameAndType 18 15), (0, u "load"), (0, .methodref 7 20), (0, .nameAndType 21 22), (0, u "step"), (0, u "(I)I"), (0, .methodref 7 24), (0, .nameAndType 25 22), (0, u "state"), (0, .methodref 7 27), (0, .nameAndType 28 29), (0, u "queueLength"), (0, u "()I"), (0, .methodref 7 31), (0, .nameAndType 32 22), (0, u "queueAt"), (0, .methodref 7 34), (0, .nameAndType 35 22), (0, u "available"), (0, .methodref 7 37), (0, .nameAndType 38 29), (0, u "safeLength"), (0, .methodref 7 40), (0, .nameAndType 41 22), (0, u "safeAt"), (0, .methodref 7 43), (0, .nameAndType 44 22), (0, u "pc"), (0, .methodref 7 46), (0, .nameAndType 47 48), (0, u "allocation"), (0, u "(II)I"), (0, .class_ 50), (0, u "BankerGuardL3"), (2, u "law"), (0, u "(III)Z")] 3

def k1m0 : Method := { name := "<init>", desc := "()V", sig := { parameters := [], returnType := none }, accessFlags := 1, code := none }
def k1c1 : Code := { maxStack := 6, maxLocals := 7, code := code, exceptionTable := #[], attributes := #[] }
def k1m1 : Method := { name := "law", desc := "(III)Z", sig := { parameters := [.int, .int, .int], returnType := some .boolean }, accessFlags := 9, code := some k1c1 }
/-- BankerGuardL3 -/
def k1 : Class := { plain "BankerGuardL3" (some 0) with
  accessFlags := 49
  interfaces := #[]
  cf := some (fileOf pool1 49 #[] #[{ accessFlags := 1, nameIndex := 5, descriptorIndex := 6, attributes := #[] }, { accessFlags := 9, nameIndex := 53, descriptorIndex := 54, attributes := #[] }] 49 2 #[] #[])
  fields := #[]
  methods := #[k1m0, k1m1]
  instanceTypes := #[]
  staticTypes := #[]
  resolved := Array.replicate 58 none
  statics := none }

def pool2 : Array CpInfo := pool [(1, .methodref 2 3), (0, .class_ 4), (0, .nameAndType 5 6), (0, u "java/lang/Object"), (0, u "<init>"), (0, u "()V"), (0, .fieldref 8 9), (0, .class_ 10), (0, .nameAndType 11 12), (0, u "BankerGuard"), (0, u "total"), (0, u "[I"), (0, .fieldref 8 14), (0, .nameAndType 15 12), (0, u "avail"), (0, .fieldref 8 17), (0, .nameAndType 18 12), (0, u "maxc"), (0, .fieldref 8 20), (0, .nameAndType 21 12), (0, u "alloc"), (0, .fieldref 8 23), (0, .nameAndType 24 12), (0, u "op"), (0, .fieldref 8 26), (0, .nameAndType 27 12), (0, u "kind"), (0, .fieldref 8 29), (0, .nameAndType 30 12), (0, u "amt"), (0, .fieldref 8 32), (0, .nameAndType 33 12), (0, u "len"), (0, .fieldref 8 35), (0, .nameAndType 36 12), (0, u "pc"), (0, .fieldref 8 38), (0, .nameAndType 39 12), (0, u "st"), (0, .fieldref 8 41), (0, .nameAndType 42 12), (0, u "queue"), (0, .fieldref 8 44), (0, .nameAndType 45 12), (0, u "work"), (0, .fieldref 8 47), (0, .nameAndType 48 49), (0, u "mark"), (0, u "[Z"), (0, .fieldref 8 51), (0, .nameAndType 52 12), (0, u "order"), (0, .methodref 8 54), (0, .nameAndType 55 56), (0, u "clamp"), (0, u "(III)I"), (0, .fieldref 8 58), (0, .nameAndType 59 60), (0, u "qlen"), (0, u "I"), (0, .fieldref 8 62), (0, .nameAndType 63 60), (0, u "nproc"), (0, .fieldref 8 65), (0, .nameAndType 66 60), (0, u "cur"), (0, .fieldref 8 68), (0, .nameAndType 69 60), (0, u "olen"), (0, .methodref 8 71), (0, .nameAndType 72 73), (0, u "claimOk"), (0, u "(II)Z"), (0, .methodref 8 75), (0, .nameAndType 76 77), (0, u "known"), (0, u "(I)Z"), (0, .methodref 8 79), (0, .nameAndType 80 77), (0, u "validKind"), (0, .methodref 8 82), (0, .nameAndType 83 84), (0, u "finish"), (0, u "(I)V"), (0, .methodref 8 86), (0, .nameAndType 87 56), (0, u "doRequest"), (0, .methodref 8 89), (0, .nameAndType 90 56), (0, u "doRelease"), (0, .methodref 8 92), (0, .nameAndType 93 84), (0, u "enqueue"), (0, .methodref 8 95), (0, .nameAndType 96 97), (0, u "tentativeSafe"), (0, u "(III)Z"), (0, .methodref 8 99), (0, .nameAndType 100 6), (0, u "retryPass"), (0, .methodref 8 102), (0, .nameAndType 103 77), (0, u "retryOne"), (0, .methodref 8 105), (0, .nameAndType 106 107), (0, u "computeSafety"), (0, u "()Z"), (0, .methodref 8 109), (0, .nameAndType 110 77), (0, u "active"), (0, .methodref 8 112), (0, .nameAndType 113 114), (0, u "findPick"), (0, u "()I"), (0, .methodref 8 116), (0, .nameAndType 117 77), (0, u "fits"), (5, u "step"), (0, u "(I)I"), (0, u "UNUSED"), (2, u "READY"), (1, u "WAITING"), (1, u "DONE"), (1, u "OP_REQ"), (0, u "OP_REL"), (0, u "OP_END"), (0, u "OK"), (0, u "GRANTED"), (0, u "RELEASED"), (0, u "EXITED"), (0, u "BLOCKED_SHORT"), (1, u "BLOCKED_UNSAFE"), (1, u "ABORTED"), (1, u "ERR_NO_PROC"), (1, u "ERR_WAITING"), (1, u "ERR_DONE"), (1, u "ERR_FULL"), (1, u "ERR_BAD_OP"), (1, u "ERR_BAD_KIND"), (1, u "ERR_BAD_AMOUNT"), (1, u "ERR_TOO_MANY"), (1, u "ERR_BAD_CLAIM"), (1, u "(IIII)V"), (3, u "admit"), (0, u "(IIII)I"), (0, u "load"), (1, u "available"), (0, u "allocation"), (0, u "(II)I"), (1, u "state"), (2, u "queueLength"), (0, u "queueAt"), (0, u "safeLength"), (0, u "safeAt")] 3

def k2c0 : Code := { maxStack := 6, maxLocals := 6, code := prog_1_method_1_code, exceptionTable := #[], attributes := #[] }
def k2m0 : Method := { name := "<init>", desc := "(IIII)V", sig := { parameters := [.int, .int, .int, .int], returnType := none }, accessFlags := 1, code := some k2c0 }
def k2c1 : Code := { maxStack := 2, maxLocals := 4, code := prog_1_method_2_code, exceptionTable := #[], attributes := #[] }
def k2m1 : Method := { name := "clamp", desc := "(III)I", sig := { parameters := [.int, .int, .int], returnType := some .int }, accessFlags := 2, code := some k2c1 }
def k2c2 : Code := { maxStack := 2, maxLocals := 2, code := prog_1_method_3_code, exceptionTable := #[], attributes := #[] }
def k2m2 : Method := { name := "known", desc := "(I)Z", sig := { parameters := [.int], returnType := some .boolean }, accessFlags := 2, code := some k2c2 }
def k2c3 : Code := { maxStack := 2, maxLocals := 2, code := prog_1_method_4_code, exceptionTable := #[], attributes := #[] }
def k2m3 : Method := { name := "validKind", desc := "(I)Z", sig := { parameters := [.int], returnType := some .boolean }, accessFlags := 2, code := some k2c3 }
def k2c4 : Code := { maxStack := 2, maxLocals := 2, code := prog_1_method_5_code, exceptionTable := #[], attributes := #[] }
def k2m4 : Method := { name := "active", desc := "(I)Z", sig := { parameters := [.int], returnType := some .boolean }, accessFlags := 2, code := some k2c4 }
def k2c5 : Code := { maxStack := 3, maxLocals := 3, code := prog_1_method_6_code, exceptionTable := #[], attributes := #[] }
def k2m5 : Method := { name := "claimOk", desc := "(II)Z", sig := { parameters := [.int, .int], returnType := some .boolean }, accessFlags := 2, code := some k2c5 }
def k2c6 : Code := { maxStack := 3, maxLocals := 8, code := prog_1_method_7_code, exceptionTable := #[], attributes := #[] }
def k2m6 : Method := { name := "admit", desc := "(IIII)I", sig := { parameters := [.int, .int, .int, .int], returnType := some .int }, accessFlags := 1, code := some k2c6 }
def k2c7 : Code := { maxStack := 4, maxLocals := 9, code := prog_1_method_8_code, exceptionTable := #[], attributes := #[] }
def k2m7 : Method := { name := "load", desc := "(IIII)I", sig := { parameters := [.int, .int, .int, .int], returnType := some .int }, accessFlags := 1, code := some k2c7 }
def k2c8 : Code := { maxStack := 4, maxLocals := 7, code := prog_1_method_9_code, exceptionTable := #[], attributes := #[] }
def k2m8 : Method := { name := "step", desc := "(I)I", sig := { parameters := [.int], returnType := some .int }, accessFlags := 1, code := some k2c8 }
def k2c9 : Code := { maxStack := 4, maxLocals := 5, code := prog_1_method_10_code, exceptionTable := #[], attributes := #[] }
def k2m9 : Method := { name := "doRequest", desc := "(III)I", sig := { parameters := [.int, .int, .int], returnType := some .int }, accessFlags := 2, code := some k2c9 }
def k2c10 : Code := { maxStack := 4, maxLocals := 5, code := prog_1_method_11_code, exceptionTable := #[], attributes := #[] }
def k2m10 : Method := { name := "doRelease", desc := "(III)I", sig := { parameters := [.int, .int, .int], returnType := some .int }, accessFlags := 2, code := some k2c10 }
def k2c11 : Code := { maxStack := 3, maxLocals := 2, code := prog_1_method_12_code, exceptionTable := #[], attributes := #[] }
def k2m11 : Method := { name := "enqueue", desc := "(I)V", sig := { parameters := [.int], returnType := none }, accessFlags := 2, code := some k2c11 }
def k2c12 : Code := { maxStack := 6, maxLocals := 4, code := prog_1_method_13_code, exceptionTable := #[], attributes := #[] }
def k2m12 : Method := { name := "finish", desc := "(I)V", sig := { parameters := [.int], returnType := none }, accessFlags := 2, code := some k2c12 }
def k2c13 : Code := { maxStack := 3, maxLocals := 5, code := prog_1_method_14_code, exceptionTable := #[], attributes := #[] }
def k2m13 : Method := { name := "retryPass", desc := "()V", sig := { parameters := [], returnType := none }, accessFlags := 2, code := some k2c13 }
def k2c14 : Code := { maxStack := 4, maxLocals := 6, code := prog_1_method_15_code, exceptionTable := #[], attributes := #[] }
def k2m14 : Method := { name := "retryOne", desc := "(I)Z", sig := { parameters := [.int], returnType := some .boolean }, accessFlags := 2, code := some k2c14 }
def k2c15 : Code := { maxStack := 4, maxLocals := 6, code := prog_1_method_16_code, exceptionTable := #[], attributes := #[] }
def k2m15 : Method := { name := "tentativeSafe", desc := "(III)Z", sig := { parameters := [.int, .int, .int], returnType := some .boolean }, accessFlags := 2, code := some k2c15 }
def k2c16 : Code := { maxStack := 6, maxLocals := 6, code := prog_1_method_17_code, exceptionTable := #[], attributes := #[] }
def k2m16 : Method := { name := "computeSafety", desc := "()Z", sig := { parameters := [], returnType := some .boolean }, accessFlags := 2, code := some k2c16 }
def k2c17 : Code := { maxStack := 2, maxLocals := 2, code := prog_1_method_18_code, exceptionTable := #[], attributes := #[] }
def k2m17 : Method := { name := "findPick", desc := "()I", sig := { parameters := [], returnType := some .int }, accessFlags := 2, code := some k2c17 }
def k2c18 : Code := { maxStack := 4, maxLocals := 4, code := prog_1_method_19_code, exceptionTable := #[], attributes := #[] }
def k2m18 : Method := { name := "fits", desc := "(I)Z", sig := { parameters := [.int], returnType := some .boolean }, accessFlags := 2, code := some k2c18 }
def k2c19 : Code := { maxStack := 2, maxLocals := 2, code := prog_1_method_22_code, exceptionTable := #[], attributes := #[] }
def k2m19 : Method := { name := "available", desc := "(I)I", sig := { parameters := [.int], returnType := some .int }, accessFlags := 1, code := some k2c19 }
def k2c20 : Code := { maxStack := 3, maxLocals := 3, code := prog_1_method_23_code, exceptionTable := #[], attributes := #[] }
def k2m20 : Method := { name := "allocation", desc := "(II)I", sig := { parameters := [.int, .int], returnType := some .int }, accessFlags := 1, code := some k2c20 }
def k2c21 : Code := { maxStack := 2, maxLocals := 2, code := prog_1_method_25_code, exceptionTable := #[], attributes := #[] }
def k2m21 : Method := { name := "state", desc := "(I)I", sig := { parameters := [.int], returnType := some .int }, accessFlags := 1, code := some k2c21 }
def k2c22 : Code := { maxStack := 2, maxLocals := 2, code := prog_1_method_26_code, exceptionTable := #[], attributes := #[] }
def k2m22 : Method := { name := "pc", desc := "(I)I", sig := { parameters := [.int], returnType := some .int }, accessFlags := 1, code := some k2c22 }
def k2c23 : Code := { maxStack := 1, maxLocals := 1, code := prog_1_method_29_code, exceptionTable := #[], attributes := #[] }
def k2m23 : Method := { name := "queueLength", desc := "()I", sig := { parameters := [], returnType := some .int }, accessFlags := 1, code := some k2c23 }
def k2c24 : Code := { maxStack := 2, maxLocals := 2, code := prog_1_method_30_code, exceptionTable := #[], attributes := #[] }
def k2m24 : Method := { name := "queueAt", desc := "(I)I", sig := { parameters := [.int], returnType := some .int }, accessFlags := 1, code := some k2c24 }
def k2c25 : Code := { maxStack := 1, maxLocals := 1, code := prog_1_method_31_code, exceptionTable := #[], attributes := #[] }
def k2m25 : Method := { name := "safeLength", desc := "()I", sig := { parameters := [], returnType := some .int }, accessFlags := 1, code := some k2c25 }
def k2c26 : Code := { maxStack := 2, maxLocals := 2, code := prog_1_method_32_code, exceptionTable := #[], attributes := #[] }
def k2m26 : Method := { name := "safeAt", desc := "(I)I", sig := { parameters := [.int], returnType := some .int }, accessFlags := 1, code := some k2c26 }
/-- BankerGuard -/
def k2 : Class := { plain "BankerGuard" (some 0) with
  accessFlags := 49
  interfaces := #[]
  cf := some (fileOf pool2 8 #[] #[{ accessFlags := 1, nameIndex := 5, descriptorIndex := 165, attributes := #[] }, { accessFlags := 2, nameIndex := 55, descriptorIndex := 56, attributes := #[] }, { accessFlags := 2, nameIndex := 76, descriptorIndex := 77, attributes := #[] }, { accessFlags := 2, nameIndex := 80, descriptorIndex := 77, attributes := #[] }, { accessFlags := 2, nameIndex := 110, descriptorIndex := 77, attributes := #[] }, { accessFlags := 2, nameIndex := 72, descriptorIndex := 73, attributes := #[] }, { accessFlags := 1, nameIndex := 169, descriptorIndex := 170, attributes := #[] }, { accessFlags := 1, nameIndex := 171, descriptorIndex := 170, attributes := #[] }, { accessFlags := 1, nameIndex := 123, descriptorIndex := 124, attributes := #[] }, { accessFlags := 2, nameIndex := 87, descriptorIndex := 56, attributes := #[] }, { accessFlags := 2, nameIndex := 90, descriptorIndex := 56, attributes := #[] }, { accessFlags := 2, nameIndex := 93, descriptorIndex := 84, attributes := #[] }, { accessFlags := 2, nameIndex := 83, descriptorIndex := 84, attributes := #[] }, { accessFlags := 2, nameIndex := 100, descriptorIndex := 6, attributes := #[] }, { accessFlags := 2, nameIndex := 103, descriptorIndex := 77, attributes := #[] }, { accessFlags := 2, nameIndex := 96, descriptorIndex := 97, attributes := #[] }, { accessFlags := 2, nameIndex := 106, descriptorIndex := 107, attributes := #[] }, { accessFlags := 2, nameIndex := 113, descriptorIndex := 114, attributes := #[] }, { accessFlags := 2, nameIndex := 117, descriptorIndex := 77, attributes := #[] }, { accessFlags := 1, nameIndex := 173, descriptorIndex := 124, attributes := #[] }, { accessFlags := 1, nameIndex := 174, descriptorIndex := 175, attributes := #[] }, { accessFlags := 1, nameIndex := 177, descriptorIndex := 124, attributes := #[] }, { accessFlags := 1, nameIndex := 36, descriptorIndex := 124, attributes := #[] }, { accessFlags := 1, nameIndex := 180, descriptorIndex := 114, attributes := #[] }, { accessFlags := 1, nameIndex := 181, descriptorIndex := 124, attributes := #[] }, { accessFlags := 1, nameIndex := 182, descriptorIndex := 114, attributes := #[] }, { accessFlags := 1, nameIndex := 183, descriptorIndex := 124, attributes := #[] }] 49 2 #[] #[{ accessFlags := 25, nameIndex := 125, descriptorIndex := 60, attributes := #[] }, { accessFlags := 25, nameIndex := 128, descriptorIndex := 60, attributes := #[] }, { accessFlags := 25, nameIndex := 130, descriptorIndex := 60, attributes := #[] }, { accessFlags := 25, nameIndex := 132, descriptorIndex := 60, attributes := #[] }, { accessFlags := 25, nameIndex := 134, descriptorIndex := 60, attributes := #[] }, { accessFlags := 25, nameIndex := 135, descriptorIndex := 60, attributes := #[] }, { accessFlags := 25, nameIndex := 136, descriptorIndex := 60, attributes := #[] }, { accessFlags := 25, nameIndex := 137, descriptorIndex := 60, attributes := #[] }, { accessFlags := 25, nameIndex := 138, descriptorIndex := 60, attributes := #[] }, { accessFlags := 25, nameIndex := 139, descriptorIndex := 60, attributes := #[] }, { accessFlags := 25, nameIndex := 140, descriptorIndex := 60, attributes := #[] }, { accessFlags := 25, nameIndex := 141, descriptorIndex := 60, attributes := #[] }, { accessFlags := 25, nameIndex := 143, descriptorIndex := 60, attributes := #[] }, { accessFlags := 25, nameIndex := 145, descriptorIndex := 60, attributes := #[] }, { accessFlags := 25, nameIndex := 147, descriptorIndex := 60, attributes := #[] }, { accessFlags := 25, nameIndex := 149, descriptorIndex := 60, attributes := #[] }, { accessFlags := 25, nameIndex := 151, descriptorIndex := 60, attributes := #[] }, { accessFlags := 25, nameIndex := 153, descriptorIndex := 60, attributes := #[] }, { accessFlags := 25, nameIndex := 155, descriptorIndex := 60, attributes := #[] }, { accessFlags := 25, nameIndex := 157, descriptorIndex := 60, attributes := #[] }, { accessFlags := 25, nameIndex := 159, descriptorIndex := 60, attributes := #[] }, { accessFlags := 25, nameIndex := 161, descriptorIndex := 60, attributes := #[] }, { accessFlags := 25, nameIndex := 163, descriptorIndex := 60, attributes := #[] }, { accessFlags := 2, nameIndex := 11, descriptorIndex := 12, attributes := #[] }, { accessFlags := 2, nameIndex := 15, descriptorIndex := 12, attributes := #[] }, { accessFlags := 2, nameIndex := 18, descriptorIndex := 12, attributes := #[] }, { accessFlags := 2, nameIndex := 21, descriptorIndex := 12, attributes := #[] }, { accessFlags := 2, nameIndex := 24, descriptorIndex := 12, attributes := #[] }, { accessFlags := 2, nameIndex := 27, descriptorIndex := 12, attributes := #[] }, { accessFlags := 2, nameIndex := 30, descriptorIndex := 12, attributes := #[] }, { accessFlags := 2, nameIndex := 33, descriptorIndex := 12, attributes := #[] }, { accessFlags := 2, nameIndex := 36, descriptorIndex := 12, attributes := #[] }, { accessFlags := 2, nameIndex := 39, descriptorIndex := 12, attributes := #[] }, { accessFlags := 2, nameIndex := 42, descriptorIndex := 12, attributes := #[] }, { accessFlags := 2, nameIndex := 59, descriptorIndex := 60, attributes := #[] }, { accessFlags := 2, nameIndex := 63, descriptorIndex := 60, attributes := #[] }, { accessFlags := 2, nameIndex := 66, descriptorIndex := 60, attributes := #[] }, { accessFlags := 2, nameIndex := 45, descriptorIndex := 12, attributes := #[] }, { accessFlags := 2, nameIndex := 48, descriptorIndex := 49, attributes := #[] }, { accessFlags := 2, nameIndex := 52, descriptorIndex := 12, attributes := #[] }, { accessFlags := 2, nameIndex := 69, descriptorIndex := 60, attributes := #[] }])
  fields := #[{ name := "UNUSED", type := .int, accessFlags := 25, slot := 0, constantValue := 0 }, { name := "READY", type := .int, accessFlags := 25, slot := 1, constantValue := 0 }, { name := "WAITING", type := .int, accessFlags := 25, slot := 2, constantValue := 0 }, { name := "DONE", type := .int, accessFlags := 25, slot := 3, constantValue := 0 }, { name := "OP_REQ", type := .int, accessFlags := 25, slot := 4, constantValue := 0 }, { name := "OP_REL", type := .int, accessFlags := 25, slot := 5, constantValue := 0 }, { name := "OP_END", type := .int, accessFlags := 25, slot := 6, constantValue := 0 }, { name := "OK", type := .int, accessFlags := 25, slot := 7, constantValue := 0 }, { name := "GRANTED", type := .int, accessFlags := 25, slot := 8, constantValue := 0 }, { name := "RELEASED", type := .int, accessFlags := 25, slot := 9, constantValue := 0 }, { name := "EXITED", type := .int, accessFlags := 25, slot := 10, constantValue := 0 }, { name := "BLOCKED_SHORT", type := .int, accessFlags := 25, slot := 11, constantValue := 0 }, { name := "BLOCKED_UNSAFE", type := .int, accessFlags := 25, slot := 12, constantValue := 0 }, { name := "ABORTED", type := .int, accessFlags := 25, slot := 13, constantValue := 0 }, { name := "ERR_NO_PROC", type := .int, accessFlags := 25, slot := 14, constantValue := 0 }, { name := "ERR_WAITING", type := .int, accessFlags := 25, slot := 15, constantValue := 0 }, { name := "ERR_DONE", type := .int, accessFlags := 25, slot := 16, constantValue := 0 }, { name := "ERR_FULL", type := .int, accessFlags := 25, slot := 17, constantValue := 0 }, { name := "ERR_BAD_OP", type := .int, accessFlags := 25, slot := 18, constantValue := 0 }, { name := "ERR_BAD_KIND", type := .int, accessFlags := 25, slot := 19, constantValue := 0 }, { name := "ERR_BAD_AMOUNT", type := .int, accessFlags := 25, slot := 20, constantValue := 0 }, { name := "ERR_TOO_MANY", type := .int, accessFlags := 25, slot := 21, constantValue := 0 }, { name := "ERR_BAD_CLAIM", type := .int, accessFlags := 25, slot := 22, constantValue := 0 }, { name := "total", type := (.array .int), accessFlags := 2, slot := 0, constantValue := 0 }, { name := "avail", type := (.array .int), accessFlags := 2, slot := 1, constantValue := 0 }, { name := "maxc", type := (.array .int), accessFlags := 2, slot := 2, constantValue := 0 }, { name := "alloc", type := (.array .int), accessFlags := 2, slot := 3, constantValue := 0 }, { name := "op", type := (.array .int), accessFlags := 2, slot := 4, constantValue := 0 }, { name := "kind", type := (.array .int), accessFlags := 2, slot := 5, constantValue := 0 }, { name := "amt", type := (.array .int), accessFlags := 2, slot := 6, constantValue := 0 }, { name := "len", type := (.array .int), accessFlags := 2, slot := 7, constantValue := 0 }, { name := "pc", type := (.array .int), accessFlags := 2, slot := 8, constantValue := 0 }, { name := "st", type := (.array .int), accessFlags := 2, slot := 9, constantValue := 0 }, { name := "queue", type := (.array .int), accessFlags := 2, slot := 10, constantValue := 0 }, { name := "qlen", type := .int, accessFlags := 2, slot := 11, constantValue := 0 }, { name := "nproc", type := .int, accessFlags := 2, slot := 12, constantValue := 0 }, { name := "cur", type := .int, accessFlags := 2, slot := 13, constantValue := 0 }, { name := "work", type := (.array .int), accessFlags := 2, slot := 14, constantValue := 0 }, { name := "mark", type := (.array .boolean), accessFlags := 2, slot := 15, constantValue := 0 }, { name := "order", type := (.array .int), accessFlags := 2, slot := 16, constantValue := 0 }, { name := "olen", type := .int, accessFlags := 2, slot := 17, constantValue := 0 }]
  methods := #[k2m0, k2m1, k2m2, k2m3, k2m4, k2m5, k2m6, k2m7, k2m8, k2m9, k2m10, k2m11, k2m12, k2m13, k2m14, k2m15, k2m16, k2m17, k2m18, k2m19, k2m20, k2m21, k2m22, k2m23, k2m24, k2m25, k2m26]
  instanceTypes := #[(.array .int), (.array .int), (.array .int), (.array .int), (.array .int), (.array .int), (.array .int), (.array .int), (.array .int), (.array .int), (.array .int), .int, .int, .int, (.array .int), (.array .boolean), (.array .int), .int]
  staticTypes := #[.int, .int, .int, .int, .int, .int, .int, .int, .int, .int, .int, .int, .int, .int, .int, .int, .int, .int, .int, .int, .int, .int, .int]
  resolved := Array.replicate 187 none
  statics := none }

def pool3 : Array CpInfo := pool [(1, u "java/lang/Cloneable"), (0, .class_ 1), (0, u "java/lang/Object"), (0, .class_ 3)] 3

/-- java/lang/Cloneable -/
def k3 : Class := { plain "java/lang/Cloneable" (some 0) with
  accessFlags := 1537
  interfaces := #[]
  cf := some (fileOf pool3 2 #[] #[] 1537 4 #[] #[])
  fields := #[]
  methods := #[]
  instanceTypes := #[]
  staticTypes := #[]
  resolved := Array.replicate 8 none
  statics := none }

def pool4 : Array CpInfo := pool [(1, u "java/io/Serializable"), (0, .class_ 1), (0, u "java/lang/Object"), (0, .class_ 3)] 3

/-- java/io/Serializable -/
def k4 : Class := { plain "java/io/Serializable" (some 0) with
  accessFlags := 1537
  interfaces := #[]
  cf := some (fileOf pool4 2 #[] #[] 1537 4 #[] #[])
  fields := #[]
  methods := #[]
  instanceTypes := #[]
  staticTypes := #[]
  resolved := Array.replicate 8 none
  statics := none }

/-- the primitive boolean -/
def k5 : Class := { plain "boolean" none with kind := .primitive 'Z', accessFlags := 0x411 }
/-- [Z -/
def k6 : Class := { plain "[Z" (some 0) with kind := .array 5 .boolean, interfaces := #[3, 4], accessFlags := 1041 }

/-- the primitive byte -/
def k7 : Class := { plain "byte" none with kind := .primitive 'B', accessFlags := 0x411 }
/-- [B -/
def k8 : Class := { plain "[B" (some 0) with kind := .array 7 .byte, interfaces := #[3, 4], accessFlags := 1041 }

/-- the primitive int -/
def k9 : Class := { plain "int" none with kind := .primitive 'I', accessFlags := 0x411 }
/-- [I -/
def k10 : Class := { plain "[I" (some 0) with kind := .array 9 .int, interfaces := #[3, 4], accessFlags := 1041 }

def heap : Heap := #[]
def classes : Array Class := #[k0, k1, k2, k3, k4, k5, k6, k7, k8, k9, k10]
def interned : List (Array UInt16 × Addr) := []
def slotsUsed : Nat := 0
def theMethod : MethodId := ⟨1, 1⟩
def args0 : Array Value := #[.int 1, .int 1, .int 1]
def aboutOver (below : List Frame) : State where
  vm := { classes := classes, interned := interned.toArray }
  heap := heap
  slotsUsed := slotsUsed
  threads := #[{ frames := .invoking theMethod args0 :: below }]
def below0 : List Frame := [.native { method := ⟨0, 0⟩, args := #[] }]
def about1 : State := aboutOver below0
def p0 : Program := .bare "" "" ""
def e0 : Env := launch0.env 0 0 0
theorem w_frames : about1.frames = Frame.invoking theMethod args0 :: below0 := rfl
set_option maxRecDepth 65536 in
theorem w_args : argsFit about1.vm theMethod args0 = true := by decide +kernel
set_option maxRecDepth 65536 in
theorem w_heap : heapFits about1 = true := by decide +kernel
set_option maxRecDepth 65536 in
theorem w_runnable : about1.curStatus? = some .runnable := by decide +kernel
set_option maxRecDepth 65536 in
theorem w_alone : about1.alone = true := by decide +kernel
set_option maxRecDepth 65536 in
theorem w_named : about1.methodNamed? x = some theMethod := by decide +kernel
set_option maxRecDepth 65536 in
theorem w_hears : about1.hears theMethod below0 = true := by decide +kernel
set_option maxRecDepth 65536 in
theorem w_ripe : about1.ripe theMethod args0 below0 = true := by decide +kernel
theorem w_running : about1.status = .running := rfl
set_option maxRecDepth 65536 in
theorem w_room : about1.hasRoom e0.platform room_1 = true :=
  launch0.hasRoom_least _ room_1 (by decide +kernel) (by decide +kernel) (by decide +kernel) (by decide +kernel) (by decide +kernel) (by decide +kernel)
theorem allAtoms_all (ts : List Jvm.Cond) (a : Array Jvm.Value) (st : Jvm.State) : (allAtoms ts).before a st = ts.all (fun c => c.before a st) := by
  induction ts with
  | nil => rfl
  | cons c t ih =>
    show (Jvm.Cond.and c (allAtoms t)).before a st = _
    rw [Jvm.Cond.before_and, ih, List.all_cons]
def words1 : List Jvm.Cond := Jvm.Cond.code x code maxLocals ret :: tables_1
/-- a 'code' word, met by the world's own term for the bytes: nothing is compared byte by byte -/
theorem code_word {y : MethodName} {bytes : ByteArray} {mx : Nat} {rt : Option FieldType} {a : Array Value} {s : State} {m : MethodId} {meth : Method} {c : Code} (h1 : s.methodNamed? y = some m) (h2 : s.vm.method? m = some meth) (h3 : meth.code = some c) (h4 : c.code = bytes)
    (h5 : (c.maxLocals == mx && c.exceptionTable.isEmpty && decide (c.maxStack ≤ mostOperands) && decide (meth.sig.returnType = rt) && !meth.locks && decide (parseMethodDescriptor y.desc = some meth.sig)) = true) : (Jvm.Cond.code y bytes mx rt).before a s = true := by
  simp only [Bool.and_eq_true, beq_iff_eq, Bool.not_eq_true', decide_eq_true_eq] at h5
  obtain ⟨⟨⟨⟨⟨g1, g2⟩, g3⟩, g4⟩, g5⟩, g6⟩ := h5
  simp [Cond.before, Cond.holds, Cond.value, h1, h2, h3, h4, g1, g2, g3, g4, g5, g6]
def isCode : Jvm.Cond → Bool
  | .code _ _ _ _ => true
  | _ => false
theorem all_split {L : List Jvm.Cond} {P : Jvm.Cond → Bool} (h1 : L.all (fun c => isCode c || P c) = true) (h2 : ∀ c ∈ L.filter isCode, P c = true) : L.all P = true := by
  refine List.all_eq_true.mpr fun c hc => ?_
  have h := List.all_eq_true.mp h1 c hc
  rcases Bool.eq_false_or_eq_true (isCode c) with hi | hi
  · exact h2 c (List.mem_filter.mpr ⟨hc, hi⟩)
  · simpa [hi] using h
set_option maxRecDepth 65536 in
theorem w_c0 : (Jvm.Cond.code x code maxLocals ret).before args0 about1 = true := code_word (m := ⟨1, 1⟩) (meth := k1m1) (c := k1c1) (by decide +kernel) rfl rfl rfl (by decide +kernel)
set_option maxRecDepth 65536 in
theorem w_c1 : (Jvm.Cond.code ({ cls := "BankerGuard", name := "<init>", desc := "(IIII)V" } : Jvm.MethodName) prog_1_method_1_code (6 : Nat) (Option.none : Option Jvm.ClassFile.FieldType)).before args0 about1 = true := code_word (m := ⟨2, 0⟩) (meth := k2m0) (c := k2c0) (by decide +kernel) rfl rfl rfl (by decide +kernel)
set_option maxRecDepth 65536 in
theorem w_c2 : (Jvm.Cond.code ({ cls := "java/lang/Object", name := "<init>", desc := "()V" } : Jvm.MethodName) object_method_1_code (1 : Nat) (Option.none : Option Jvm.ClassFile.FieldType)).before args0 about1 = true := code_word (m := ⟨0, 0⟩) (meth := k0m0) (c := k0c0) (by decide +kernel) rfl rfl rfl (by decide +kernel)
set_option maxRecDepth 65536 in
theorem w_c3 : (Jvm.Cond.code ({ cls := "BankerGuard", name := "clamp", desc := "(III)I" } : Jvm.MethodName) prog_1_method_2_code (4 : Nat) (Option.some Jvm.ClassFile.FieldType.int)).before args0 about1 = true := code_word (m := ⟨2, 1⟩) (meth := k2m1) (c := k2c1) (by decide +kernel) rfl rfl rfl (by decide +kernel)
set_option maxRecDepth 65536 in
theorem w_c4 : (Jvm.Cond.code ({ cls := "BankerGuard", name := "admit", desc := "(IIII)I" } : Jvm.MethodName) prog_1_method_7_code (8 : Nat) (Option.some Jvm.ClassFile.FieldType.int)).before args0 about1 = true := code_word (m := ⟨2, 6⟩) (meth := k2m6) (c := k2c6) (by decide +kernel) rfl rfl rfl (by decide +kernel)
set_option maxRecDepth 65536 in
theorem w_c5 : (Jvm.Cond.code ({ cls := "BankerGuard", name := "claimOk", desc := "(II)Z" } : Jvm.MethodName) prog_1_method_6_code (3 : Nat) (Option.some Jvm.ClassFile.FieldType.boolean)).before args0 about1 = true := code_word (m := ⟨2, 5⟩) (meth := k2m5) (c := k2c5) (by decide +kernel) rfl rfl rfl (by decide +kernel)
set_option maxRecDepth 65536 in
theorem w_c6 : (Jvm.Cond.code ({ cls := "BankerGuard", name := "load", desc := "(IIII)I" } : Jvm.MethodName) prog_1_method_8_code (9 : Nat) (Option.some Jvm.ClassFile.FieldType.int)).before args0 about1 = true := code_word (m := ⟨2, 7⟩) (meth := k2m7) (c := k2c7) (by decide +kernel) rfl rfl rfl (by decide +kernel)
set_option maxRecDepth 65536 in
theorem w_c7 : (Jvm.Cond.code ({ cls := "BankerGuard", name := "known", desc := "(I)Z" } : Jvm.MethodName) prog_1_method_3_code (2 : Nat) (Option.some Jvm.ClassFile.FieldType.boolean)).before args0 about1 = true := code_word (m := ⟨2, 2⟩) (meth := k2m2) (c := k2c2) (by decide +kernel) rfl rfl rfl (by decide +kernel)
set_option maxRecDepth 65536 in
theorem w_c8 : (Jvm.Cond.code ({ cls := "BankerGuard", name := "validKind", desc := "(I)Z" } : Jvm.MethodName) prog_1_method_4_code (2 : Nat) (Option.some Jvm.ClassFile.FieldType.boolean)).before args0 about1 = true := code_word (m := ⟨2, 3⟩) (meth := k2m3) (c := k2c3) (by decide +kernel) rfl rfl rfl (by decide +kernel)
set_option maxRecDepth 65536 in
theorem w_c9 : (Jvm.Cond.code ({ cls := "BankerGuard", name := "step", desc := "(I)I" } : Jvm.MethodName) prog_1_method_9_code (7 : Nat) (Option.some Jvm.ClassFile.FieldType.int)).before args0 about1 = true := code_word (m := ⟨2, 8⟩) (meth := k2m8) (c := k2c8) (by decide +kernel) rfl rfl rfl (by decide +kernel)
set_option maxRecDepth 65536 in
theorem w_c10 : (Jvm.Cond.code ({ cls := "BankerGuard", name := "doRequest", desc := "(III)I" } : Jvm.MethodName) prog_1_method_10_code (5 : Nat) (Option.some Jvm.ClassFile.FieldType.int)).before args0 about1 = true := code_word (m := ⟨2, 9⟩) (meth := k2m9) (c := k2c9) (by decide +kernel) rfl rfl rfl (by decide +kernel)
set_option maxRecDepth 65536 in
theorem w_c11 : (Jvm.Cond.code ({ cls := "BankerGuard", name := "tentativeSafe", desc := "(III)Z" } : Jvm.MethodName) prog_1_method_16_code (6 : Nat) (Option.some Jvm.ClassFile.FieldType.boolean)).before args0 about1 = true := code_word (m := ⟨2, 15⟩) (meth := k2m15) (c := k2c15) (by decide +kernel) rfl rfl rfl (by decide +kernel)
set_option maxRecDepth 65536 in
theorem w_c12 : (Jvm.Cond.code ({ cls := "BankerGuard", name := "computeSafety", desc := "()Z" } : Jvm.MethodName) prog_1_method_17_code (6 : Nat) (Option.some Jvm.ClassFile.FieldType.boolean)).before args0 about1 = true := code_word (m := ⟨2, 16⟩) (meth := k2m16) (c := k2c16) (by decide +kernel) rfl rfl rfl (by decide +kernel)
set_option maxRecDepth 65536 in
theorem w_c13 : (Jvm.Cond.code ({ cls := "BankerGuard", name := "active", desc := "(I)Z" } : Jvm.MethodName) prog_1_method_5_code (2 : Nat) (Option.some Jvm.ClassFile.FieldType.boolean)).before args0 about1 = true := code_word (m := ⟨2, 4⟩) (meth := k2m4) (c := k2c4) (by decide +kernel) rfl rfl rfl (by decide +kernel)
set_option maxRecDepth 65536 in
theorem w_c14 : (Jvm.Cond.code ({ cls := "BankerGuard", name := "findPick", desc := "()I" } : Jvm.MethodName) prog_1_method_18_code (2 : Nat) (Option.some Jvm.ClassFile.FieldType.int)).before args0 about1 = true := code_word (m := ⟨2, 17⟩) (meth := k2m17) (c := k2c17) (by decide +kernel) rfl rfl rfl (by decide +kernel)
set_option maxRecDepth 65536 in
theorem w_c15 : (Jvm.Cond.code ({ cls := "BankerGuard", name := "fits", desc := "(I)Z" } : Jvm.MethodName) prog_1_method_19_code (4 : Nat) (Option.some Jvm.ClassFile.FieldType.boolean)).before args0 about1 = true := code_word (m := ⟨2, 18⟩) (meth := k2m18) (c := k2c18) (by decide +kernel) rfl rfl rfl (by decide +kernel)
set_option maxRecDepth 65536 in
theorem w_c16 : (Jvm.Cond.code ({ cls := "BankerGuard", name := "enqueue", desc := "(I)V" } : Jvm.MethodName) prog_1_method_12_code (2 : Nat) (Option.none : Option Jvm.ClassFile.FieldType)).before args0 about1 = true := code_word (m := ⟨2, 11⟩) (meth := k2m11) (c := k2c11) (by decide +kernel) rfl rfl rfl (by decide +kernel)
set_option maxRecDepth 65536 in
theorem w_c17 : (Jvm.Cond.code ({ cls := "BankerGuard", name := "state", desc := "(I)I" } : Jvm.MethodName) prog_1_method_25_code (2 : Nat) (Option.some Jvm.ClassFile.FieldType.int)).before args0 about1 = true := code_word (m := ⟨2, 21⟩) (meth := k2m21) (c := k2c21) (by decide +kernel) rfl rfl rfl (by decide +kernel)
set_option maxRecDepth 65536 in
theorem w_c18 : (Jvm.Cond.code ({ cls := "BankerGuard", name := "queueLength", desc := "()I" } : Jvm.MethodName) prog_1_method_29_code (1 : Nat) (Option.some Jvm.ClassFile.FieldType.int)).before args0 about1 = true := code_word (m := ⟨2, 23⟩) (meth := k2m23) (c := k2c23) (by decide +kernel) rfl rfl rfl (by decide +kernel)
set_option maxRecDepth 65536 in
theorem w_c19 : (Jvm.Cond.code ({ cls := "BankerGuard", name := "queueAt", desc := "(I)I" } : Jvm.MethodName) prog_1_method_30_code (2 : Nat) (Option.some Jvm.ClassFile.FieldType.int)).before args0 about1 = true := code_word (m := ⟨2, 24⟩) (meth := k2m24) (c := k2c24) (by decide +kernel) rfl rfl rfl (by decide +kernel)
set_option maxRecDepth 65536 in
theorem w_c20 : (Jvm.Cond.code ({ cls := "BankerGuard", name := "available", desc := "(I)I" } : Jvm.MethodName) prog_1_method_22_code (2 : Nat) (Option.some Jvm.ClassFile.FieldType.int)).before args0 about1 = true := code_word (m := ⟨2, 19⟩) (meth := k2m19) (c := k2c19) (by decide +kernel) rfl rfl rfl (by decide +kernel)
set_option maxRecDepth 65536 in
theorem w_c21 : (Jvm.Cond.code ({ cls := "BankerGuard", name := "safeLength", desc := "()I" } : Jvm.MethodName) prog_1_method_31_code (1 : Nat) (Option.some Jvm.ClassFile.FieldType.int)).before args0 about1 = true := code_word (m := ⟨2, 25⟩) (meth := k2m25) (c := k2c25) (by decide +kernel) rfl rfl rfl (by decide +kernel)
set_option maxRecDepth 65536 in
theorem w_c22 : (Jvm.Cond.code ({ cls := "BankerGuard", name := "safeAt", desc := "(I)I" } : Jvm.MethodName) prog_1_method_32_code (2 : Nat) (Option.some Jvm.ClassFile.FieldType.int)).before args0 about1 = true := code_word (m := ⟨2, 26⟩) (meth := k2m26) (c := k2c26) (by decide +kernel) rfl rfl rfl (by decide +kernel)
set_option maxRecDepth 65536 in
theorem w_c23 : (Jvm.Cond.code ({ cls := "BankerGuard", name := "doRelease", desc := "(III)I" } : Jvm.MethodName) prog_1_method_11_code (5 : Nat) (Option.some Jvm.ClassFile.FieldType.int)).before args0 about1 = true := code_word (m := ⟨2, 10⟩) (meth := k2m10) (c := k2c10) (by decide +kernel) rfl rfl rfl (by decide +kernel)
set_option maxRecDepth 65536 in
theorem w_c24 : (Jvm.Cond.code ({ cls := "BankerGuard", name := "retryPass", desc := "()V" } : Jvm.MethodName) prog_1_method_14_code (5 : Nat) (Option.none : Option Jvm.ClassFile.FieldType)).before args0 about1 = true := code_word (m := ⟨2, 13⟩) (meth := k2m13) (c := k2c13) (by decide +kernel) rfl rfl rfl (by decide +kernel)
set_option maxRecDepth 65536 in
theorem w_c25 : (Jvm.Cond.code ({ cls := "BankerGuard", name := "retryOne", desc := "(I)Z" } : Jvm.MethodName) prog_1_method_15_code (6 : Nat) (Option.some Jvm.ClassFile.FieldType.boolean)).before args0 about1 = true := code_word (m := ⟨2, 14⟩) (meth := k2m14) (c := k2c14) (by decide +kernel) rfl rfl rfl (by decide +kernel)
set_option maxRecDepth 65536 in
theorem w_c26 : (Jvm.Cond.code ({ cls := "BankerGuard", name := "pc", desc := "(I)I" } : Jvm.MethodName) prog_1_method_26_code (2 : Nat) (Option.some Jvm.ClassFile.FieldType.int)).before args0 about1 = true := code_word (m := ⟨2, 22⟩) (meth := k2m22) (c := k2c22) (by decide +kernel) rfl rfl rfl (by decide +kernel)
set_option maxRecDepth 65536 in
theorem w_c27 : (Jvm.Cond.code ({ cls := "BankerGuard", name := "allocation", desc := "(II)I" } : Jvm.MethodName) prog_1_method_23_code (3 : Nat) (Option.some Jvm.ClassFile.FieldType.int)).before args0 about1 = true := code_word (m := ⟨2, 20⟩) (meth := k2m20) (c := k2c20) (by decide +kernel) rfl rfl rfl (by decide +kernel)
set_option maxRecDepth 65536 in
theorem w_c28 : (Jvm.Cond.code ({ cls := "BankerGuard", name := "finish", desc := "(I)V" } : Jvm.MethodName) prog_1_method_13_code (4 : Nat) (Option.none : Option Jvm.ClassFile.FieldType)).before args0 about1 = true := code_word (m := ⟨2, 12⟩) (meth := k2m12) (c := k2c12) (by decide +kernel) rfl rfl rfl (by decide +kernel)
def codes1 : List Jvm.Cond := [Jvm.Cond.code x code maxLocals ret, Jvm.Cond.code ({ cls := "BankerGuard", name := "<init>", desc := "(IIII)V" } : Jvm.MethodName) prog_1_method_1_code (6 : Nat) (Option.none : Option Jvm.ClassFile.FieldType), Jvm.Cond.code ({ cls := "java/lang/Object", name := "<init>", desc := "()V" } : Jvm.MethodName) object_method_1_code (1 : Nat) (Option.none : Option Jvm.ClassFile.FieldType), Jvm.Cond.code ({ cls := "BankerGuard", name := "clamp", desc := "(III)I" } : Jvm.MethodName) prog_1_method_2_code (4 : Nat) (Option.some Jvm.ClassFile.FieldType.int), Jvm.Cond.code ({ cls := "BankerGuard", name := "admit", desc := "(IIII)I" } : Jvm.MethodName) prog_1_method_7_code (8 : Nat) (Option.some Jvm.ClassFile.FieldType.int), Jvm.Cond.code ({ cls := "BankerGuard", name := "claimOk", desc := "(II)Z" } : Jvm.MethodName) prog_1_method_6_code (3 : Nat) (Option.some Jvm.ClassFile.FieldType.boolean), Jvm.Cond.code ({ cls := "BankerGuard", name := "load", desc := "(IIII)I" } : Jvm.MethodName) prog_1_method_8_code (9 : Nat) (Option.some Jvm.ClassFile.FieldType.int), Jvm.Cond.code ({ cls := "BankerGuard", name := "known", desc := "(I)Z" } : Jvm.MethodName) prog_1_method_3_code (2 : Nat) (Option.some Jvm.ClassFile.FieldType.boolean), Jvm.Cond.code ({ cls := "BankerGuard", name := "validKind", desc := "(I)Z" } : Jvm.MethodName) prog_1_method_4_code (2 : Nat) (Option.some Jvm.ClassFile.FieldType.boolean), Jvm.Cond.code ({ cls := "BankerGuard", name := "step", desc := "(I)I" } : Jvm.MethodName) prog_1_method_9_code (7 : Nat) (Option.some Jvm.ClassFile.FieldType.int), Jvm.Cond.code ({ cls := "BankerGuard", name := "doRequest", desc := "(III)I" } : Jvm.MethodName) prog_1_method_10_code (5 : Nat) (Option.some Jvm.ClassFile.FieldType.int), Jvm.Cond.code ({ cls := "BankerGuard", name := "tentativeSafe", desc := "(III)Z" } : Jvm.MethodName) prog_1_method_16_code (6 : Nat) (Option.some Jvm.ClassFile.FieldType.boolean), Jvm.Cond.code ({ cls := "BankerGuard", name := "computeSafety", desc := "()Z" } : Jvm.MethodName) prog_1_method_17_code (6 : Nat) (Option.some Jvm.ClassFile.FieldType.boolean), Jvm.Cond.code ({ cls := "BankerGuard", name := "active", desc := "(I)Z" } : Jvm.MethodName) prog_1_method_5_code (2 : Nat) (Option.some Jvm.ClassFile.FieldType.boolean), Jvm.Cond.code ({ cls := "BankerGuard", name := "findPick", desc := "()I" } : Jvm.MethodName) prog_1_method_18_code (2 : Nat) (Option.some Jvm.ClassFile.FieldType.int), Jvm.Cond.code ({ cls := "BankerGuard", name := "fits", desc := "(I)Z" } : Jvm.MethodName) prog_1_method_19_code (4 : Nat) (Option.some Jvm.ClassFile.FieldType.boolean), Jvm.Cond.code ({ cls := "BankerGuard", name := "enqueue", desc := "(I)V" } : Jvm.MethodName) prog_1_method_12_code (2 : Nat) (Option.none : Option Jvm.ClassFile.FieldType), Jvm.Cond.code ({ cls := "BankerGuard", name := "state", desc := "(I)I" } : Jvm.MethodName) prog_1_method_25_code (2 : Nat) (Option.some Jvm.ClassFile.FieldType.int), Jvm.Cond.code ({ cls := "BankerGuard", name := "queueLength", desc := "()I" } : Jvm.MethodName) prog_1_method_29_code (1 : Nat) (Option.some Jvm.ClassFile.FieldType.int), Jvm.Cond.code ({ cls := "BankerGuard", name := "queueAt", desc := "(I)I" } : Jvm.MethodName) prog_1_method_30_code (2 : Nat) (Option.some Jvm.ClassFile.FieldType.int), Jvm.Cond.code ({ cls := "BankerGuard", name := "available", desc := "(I)I" } : Jvm.MethodName) prog_1_method_22_code (2 : Nat) (Option.some Jvm.ClassFile.FieldType.int), Jvm.Cond.code ({ cls := "BankerGuard", name := "safeLength", desc := "()I" } : Jvm.MethodName) prog_1_method_31_code (1 : Nat) (Option.some Jvm.ClassFile.FieldType.int), Jvm.Cond.code ({ cls := "BankerGuard", name := "safeAt", desc := "(I)I" } : Jvm.MethodName) prog_1_method_32_code (2 : Nat) (Option.some Jvm.ClassFile.FieldType.int), Jvm.Cond.code ({ cls := "BankerGuard", name := "doRelease", desc := "(III)I" } : Jvm.MethodName) prog_1_method_11_code (5 : Nat) (Option.some Jvm.ClassFile.FieldType.int), Jvm.Cond.code ({ cls := "BankerGuard", name := "retryPass", desc := "()V" } : Jvm.MethodName) prog_1_method_14_code (5 : Nat) (Option.none : Option Jvm.ClassFile.FieldType), Jvm.Cond.code ({ cls := "BankerGuard", name := "retryOne", desc := "(I)Z" } : Jvm.MethodName) prog_1_method_15_code (6 : Nat) (Option.some Jvm.ClassFile.FieldType.boolean), Jvm.Cond.code ({ cls := "BankerGuard", name := "pc", desc := "(I)I" } : Jvm.MethodName) prog_1_method_26_code (2 : Nat) (Option.some Jvm.ClassFile.FieldType.int), Jvm.Cond.code ({ cls := "BankerGuard", name := "allocation", desc := "(II)I" } : Jvm.MethodName) prog_1_method_23_code (3 : Nat) (Option.some Jvm.ClassFile.FieldType.int), Jvm.Cond.code ({ cls := "BankerGuard", name := "finish", desc := "(I)V" } : Jvm.MethodName) prog_1_method_13_code (4 : Nat) (Option.none : Option Jvm.ClassFile.FieldType)]
set_option maxRecDepth 65536 in
theorem codes_eq : words1.filter isCode = codes1 := rfl
theorem w_codes : ∀ c ∈ words1.filter isCode, c.before args0 about1 = true := by
  rw [codes_eq]
  intro c hc
  simp only [codes1, List.mem_cons, List.not_mem_nil, or_false] at hc
  rcases hc with rfl | rfl | rfl | rfl | rfl | rfl | rfl | rfl | rfl | rfl | rfl | rfl | rfl | rfl | rfl | rfl | rfl | rfl | rfl | rfl | rfl | rfl | rfl | rfl | rfl | rfl | rfl | rfl | rfl
  · exact w_c0
  · exact w_c1
  · exact w_c2
  · exact w_c3
  · exact w_c4
  · exact w_c5
  · exact w_c6
  · exact w_c7
  · exact w_c8
  · exact w_c9
  · exact w_c10
  · exact w_c11
  · exact w_c12
  · exact w_c13
  · exact w_c14
  · exact w_c15
  · exact w_c16
  · exact w_c17
  · exact w_c18
  · exact w_c19
  · exact w_c20
  · exact w_c21
  · exact w_c22
  · exact w_c23
  · exact w_c24
  · exact w_c25
  · exact w_c26
  · exact w_c27
  · exact w_c28
set_option maxRecDepth 65536 in
theorem w_t1 : (words1.take 24).all (fun c => isCode c || c.before args0 about1) = true := by decide +kernel
set_option maxRecDepth 65536 in
theorem w_t2 : ((words1.drop 24).take 24).all (fun c => isCode c || c.before args0 about1) = true := by decide +kernel
set_option maxRecDepth 65536 in
theorem w_t3 : (((words1.drop 24).drop 24).take 24).all (fun c => isCode c || c.before args0 about1) = true := by decide +kernel
set_option maxRecDepth 65536 in
theorem w_t4 : ((((words1.drop 24).drop 24).drop 24).take 24).all (fun c => isCode c || c.before args0 about1) = true := by decide +kernel
set_option maxRecDepth 65536 in
theorem w_t5 : (((((words1.drop 24).drop 24).drop 24).drop 24).take 24).all (fun c => isCode c || c.before args0 about1) = true := by decide +kernel
set_option maxRecDepth 65536 in
theorem w_t6 : ((((((words1.drop 24).drop 24).drop 24).drop 24).drop 24).take 24).all (fun c => isCode c || c.before args0 about1) = true := by decide +kernel
set_option maxRecDepth 65536 in
theorem w_t7 : ((((((words1.drop 24).drop 24).drop 24).drop 24).drop 24).drop 24).all (fun c => isCode c || c.before args0 about1) = true := by decide +kernel
theorem w_tables : (allAtoms (Jvm.Cond.code x code maxLocals ret :: tables_1)).before args0 about1 = true := by
  rw [allAtoms_all]
  show words1.all (fun c => c.before args0 about1) = true
  refine all_split ?_ w_codes
  rw [← List.take_append_drop 24 words1, List.all_append, w_t1, ← List.take_append_drop 24 (words1.drop 24), List.all_append, w_t2, ← List.take_append_drop 24 ((words1.drop 24).drop 24), List.all_append, w_t3, ← List.take_append_drop 24 (((words1.drop 24).drop 24).drop 24), List.all_append, w_t4, ← List.take_append_drop 24 ((((words1.drop 24).drop 24).drop 24).drop 24), List.all_append, w_t5, ← List.take_append_drop 24 (((((words1.drop 24).drop 24).drop 24).drop 24).drop 24), List.all_append, w_t6, w_t7]
  rfl
set_option maxRecDepth 65536 in
theorem w_case : (Jvm.Cond.and given_1 narrow_1).before args0 about1 = true := by decide +kernel
theorem w_applies : (headSpec (Jvm.Cond.code x code maxLocals ret :: tables_1) room_1).applies x e0.platform about1 = true :=
  (Spec.applies_iff w_frames).mpr ⟨w_running, w_runnable, w_alone, w_named, w_hears, w_ripe, w_room, w_tables⟩
theorem atStart : AtStart classFile x code maxLocals ret World_1 tables_1 room_1 Calls_1 rest_1 Pre_1 launch0 p0 e0 about1 theMethod args0 below0 :=
  ⟨lists_1, trivial, launch0.admits_env _ _ _, launch0.least_env, fairChoices_fair.cas, fairChoices_fair.clock, w_frames, w_args, w_heap, w_applies, trivial, trivial, w_case⟩
end start1
theorem witness_1 : WitnessClaimed_1 := ⟨start1.p0, start1.e0, start1.about1, start1.theMethod, start1.args0, start1.below0, start1.atStart⟩
end Jvm.Pilot.@@N@@
