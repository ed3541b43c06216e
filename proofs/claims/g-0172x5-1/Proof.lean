import JvmDerived
import JvmDerived.Pilot.@@N@@Statement
import JvmDerived.Pilot.@@N@@Code
set_option linter.unusedVariables false
set_option linter.unusedSimpArgs false
/-! # A small executor over an abstract heap, and that it is sound for the model (Stand's family). Same text in every claim. -/
namespace Jvm.OwnX
open Sem ClassFile Op Lib Jvm.Stand Jvm.Free Jvm.LawKit Jvm.RoadKit
/-- a cell: an object's fields; an array of ints (0: handed in; 1), booleans (2), bytes (3); an array of longs -/
abbrev ACell := Sum (List Value) (Sum (Nat × List Int32) (List Int64))
abbrev AHeap := List ACell
abbrev ALoc := List (Option Value)
/-- a method: class, maxLocals, how many it pops, what it returns, is it a constructor, frames, locals -/
abbrev MI := Nat × Nat × Nat × Option FieldType × Bool × Nat × Nat
/-- code | methods | method links (kind, callee) | field links | constants | fields (name, descriptor, kind, final) | slots of an object | read-only cells | cells at most | slots at most -/
def Prog : Type := (Nat → Nat → Option (Instr × Nat)) × (Nat → MI) × (Nat → Nat → Option (Nat × Nat)) × (Nat → Nat → Option Nat) × (Nat → Nat → Option Value) × List (String × String × Nat × Bool) × Nat × Nat × Nat × Nat
def Prog.code (P : Prog) : Nat → Nat → Option (Instr × Nat) := P.1
def Prog.mi (P : Prog) : Nat → MI := P.2.1
def Prog.link (P : Prog) : Nat → Nat → Option (Nat × Nat) := P.2.2.1
def Prog.fld (P : Prog) : Nat → Nat → Option Nat := P.2.2.2.1
def Prog.kon (P : Prog) : Nat → Nat → Option Value := P.2.2.2.2.1
def Prog.fields (P : Prog) : List (String × String × Nat × Bool) := P.2.2.2.2.2.1
def Prog.objN (P : Prog) : Nat := P.2.2.2.2.2.2.1
def Prog.ro (P : Prog) : Nat := P.2.2.2.2.2.2.2.1
def Prog.capC (P : Prog) : Nat := P.2.2.2.2.2.2.2.2.1
def Prog.capS (P : Prog) : Nat := P.2.2.2.2.2.2.2.2.2
def Prog.cls (P : Prog) (k : Nat) : Nat := (P.mi k).1
def Prog.maxL (P : Prog) (k : Nat) : Nat := (P.mi k).2.1
def Prog.pops (P : Prog) (k : Nat) : Nat := (P.mi k).2.2.1
def Prog.ret (P : Prog) (k : Nat) : Option FieldType := (P.mi k).2.2.2.1
def Prog.ini (P : Prog) (k : Nat) : Bool := (P.mi k).2.2.2.2.1
def Prog.rf (P : Prog) (k : Nat) : Nat := (P.mi k).2.2.2.2.2.1
def Prog.rl (P : Prog) (k : Nat) : Nat := (P.mi k).2.2.2.2.2.2
def dflt : Nat → Value
  | 0 => .int 0
  | 1 => .int 0
  | 2 => .long 0
  | _ => .null
def Prog.fresh (P : Prog) : List Value := P.fields.map fun f => dflt f.2.2.1
/-- is j a place of an array of n -/
def inb (n : Nat) (j : Int32) : Bool := !(decide (j < 0)) && Nat.ble (j.toNatClampNeg + 1) n
def rd (xs : List Int32) (j : Int32) : Int32 := xs.getD j.toNatClampNeg 0
def wr (xs : List Int32) (j : Int32) (v : Int32) : List Int32 := xs.set j.toNatClampNeg v
def rdL (xs : List Int64) (j : Int32) : Int64 := xs.getD j.toNatClampNeg 0
def wrL (xs : List Int64) (j : Int32) (v : Int64) : List Int64 := xs.set j.toNatClampNeg v
def kill1 (L : ALoc) (i : Nat) : ALoc :=
  match i with
  | 0 => L
  | i + 1 => match L[i]? with
    | some (some (.long _)) => L.set i none
    | _ => L
def lput (L : ALoc) (i : Nat) (v : Value) : Option ALoc := bif Nat.ble (i + 1) L.length then some ((kill1 L i).set i (some v)) else none
def lputL (L : ALoc) (i : Nat) (v : Int64) : Option ALoc := bif Nat.ble (i + 2) L.length then some (((kill1 L i).set i (some (.long v))).set (i + 1) none) else none
def entL : List Value → ALoc
  | [] => []
  | .long v :: r => some (.long v) :: none :: entL r
  | v :: r => some v :: entL r
def pad (n : Nat) (L : ALoc) : ALoc := L ++ List.replicate (n - L.length) none
def entry (P : Prog) (k : Nat) (as : List Value) : ALoc := pad (P.maxL k) (entL as)
def cat (v : Value) : Nat := match v with | .long _ => 2 | _ => 1
def cats : List Value → Nat
  | [] => 0
  | v :: r => cat v + cats r
def okV : Value → Bool
  | .int _ => true | .long _ => true | .ref _ => true | .null => true | _ => false
def csz : Nat → ACell → Nat
  | n, .inl _ => n
  | _, .inr (.inl (0, _)) => 0
  | _, .inr (.inl (_, x)) => x.length
  | _, .inr (.inr x) => x.length
def hsz (P : Prog) : AHeap → Nat
  | [] => 0
  | c :: r => csz P.objN c + hsz P r
/-- how long an instruction is (0: as decode says) -/
def ilen : Instr → Nat
  | .iload _ => 2 | .lload _ => 2 | .aload _ => 2 | .istore _ => 2 | .lstore _ => 2 | .astore _ => 2 | .bipush _ => 2 | .ldc _ => 2 | .newarray _ => 2
  | .iinc _ _ => 3 | .sipush _ => 3 | .goto _ => 3 | .ifCond _ _ => 3 | .if_icmp _ _ => 3 | .getfield _ => 3 | .putfield _ => 3 | .new _ => 3 | .invokespecial _ => 3 | .invokestatic _ => 3 | .invokevirtual _ => 3 | .ldc2_w _ => 3
  | .tableswitch _ _ _ _ => 0
  | _ => 1
def tgt (pc : Nat) (o : Int) : Option Nat := match (pc : Int) + o with | .ofNat n => some n | .negSucc _ => none
def ish (x y : Int32) : Int32 := x <<< (y &&& 31)
def isr (x y : Int32) : Int32 := x >>> (y &&& 31)
def ush (x y : Int32) : Int32 := (x.toUInt32 >>> (y &&& 31).toUInt32).toInt32
def lsh (x : Int64) (y : Int32) : Int64 := x <<< (y &&& 0x3f).toInt64
def lus (x : Int64) (y : Int32) : Int64 := (x.toUInt64 >>> (y &&& 0x3f).toInt64.toUInt64).toInt64
def lcm (x y : Int64) : Int32 := if x > y then 1 else if x = y then 0 else -1
def i8 (x : Int32) : Int32 := x.toInt8.toInt32
def aop : Instr → Option (Int32 → Int32 → Int32)
  | .iadd => some fun x y => x + y
  | .isub => some fun x y => x - y
  | .imul => some fun x y => x * y
  | .iand => some fun x y => x &&& y
  | .ior => some fun x y => x ||| y
  | .ixor => some fun x y => x ^^^ y
  | .ishl => some fun x y => x <<< (y &&& 31)
  | .ishr => some fun x y => x >>> (y &&& 31)
  | .iushr => some fun x y => (x.toUInt32 >>> (y &&& 31).toUInt32).toInt32
  | _ => none
def lop : Instr → Option (Int64 → Int64 → Int64)
  | .ladd => some fun x y => x + y
  | .lsub => some fun x y => x - y
  | .lmul => some fun x y => x * y
  | .land => some fun x y => x &&& y
  | .lor => some fun x y => x ||| y
  | .lxor => some fun x y => x ^^^ y
  | _ => none
def loadI (L : ALoc) (n : Nat) : Option Int32 := match L[n]? with | some (some (.int x)) => some x | _ => none
def loadJ (L : ALoc) (n : Nat) : Option Int64 := match L[n]? with | some (some (.long x)) => some x | _ => none
def loadA (L : ALoc) (n : Nat) : Option Nat := match L[n]? with | some (some (.ref a)) => some a | _ => none
def getC (H : AHeap) (a j : Nat) : Option Value := match H[a]? with | some (.inl fs) => fs[j]? | _ => none
def conv (t : Nat) (v : Value) : Option Value :=
  match t, v with
  | 0, .int x => some (.int x)
  | 1, .int x => some (.int (x &&& 1))
  | 2, .long x => some (.long x)
  | 3, .ref a => some (.ref a)
  | _, _ => none
/-- a step within one frame -/
abbrev St := Nat × ALoc × List Value × AHeap
def atyOf : ArrayType → Option Nat
  | .int => some 1 | .boolean => some 2 | .byte => some 3 | .long => some 4 | _ => none
def newC (t n : Nat) : ACell := match t with | 4 => .inr (.inr (List.replicate n 0)) | t => .inr (.inl (t, List.replicate n 0))
def isObjInit (P : Prog) (k j : Nat) : Bool := match P.link (P.cls k) j with | some (4, _) => true | _ => false
/-- what is stored into an array of that kind -/
def narA (t : Nat) (x : Int32) : Int32 := match t with | 2 => x &&& 1 | 3 => x.toInt8.toInt32 | _ => x
def step (P : Prog) (k : Nat) (i : Instr) (np pc : Nat) (L : ALoc) (S : List Value) (H : AHeap) : Option St :=
  match i with
  | .iload_n n => match loadI L n.val with | some x => some (np, L, .int x :: S, H) | none => none
  | .iload n => match loadI L n with | some x => some (np, L, .int x :: S, H) | none => none
  | .lload_n n => match loadJ L n.val with | some x => some (np, L, .long x :: S, H) | none => none
  | .lload n => match loadJ L n with | some x => some (np, L, .long x :: S, H) | none => none
  | .aload_n n => match loadA L n.val with | some x => some (np, L, .ref x :: S, H) | none => none
  | .aload n => match loadA L n with | some x => some (np, L, .ref x :: S, H) | none => none
  | .istore_n n => match S with | .int x :: r => (match lput L n.val (.int x) with | some L' => some (np, L', r, H) | none => none) | _ => none
  | .istore n => match S with | .int x :: r => (match lput L n (.int x) with | some L' => some (np, L', r, H) | none => none) | _ => none
  | .astore_n n => match S with | .ref x :: r => (match lput L n.val (.ref x) with | some L' => some (np, L', r, H) | none => none) | _ => none
  | .astore n => match S with | .ref x :: r => (match lput L n (.ref x) with | some L' => some (np, L', r, H) | none => none) | _ => none
  | .lstore_n n => match S with | .long x :: r => (match lputL L n.val x with | some L' => some (np, L', r, H) | none => none) | _ => none
  | .lstore n => match S with | .long x :: r => (match lputL L n x with | some L' => some (np, L', r, H) | none => none) | _ => none
  | .iinc n c => match loadI L n with | some x => (match lput L n (.int (x + Int32.ofInt c)) with | some L' => some (np, L', S, H) | none => none) | none => none
  | .iconst c => some (np, L, .int (Int32.ofInt c) :: S, H)
  | .bipush c => some (np, L, .int (Int8.ofInt c).toInt32 :: S, H)
  | .sipush c => some (np, L, .int (Int16.ofInt c).toInt32 :: S, H)
  | .lconst c => some (np, L, .long (Int64.ofNat c) :: S, H)
  | .ldc j => match P.kon (P.cls k) j with | some (.int x) => some (np, L, .int x :: S, H) | _ => none
  | .ldc2_w j => match P.kon (P.cls k) j with | some (.long x) => some (np, L, .long x :: S, H) | _ => none
  | .idiv => match S with | .int y :: .int x :: r => (bif decide (y = 0) then none else some (np, L, .int (x / y) :: r, H)) | _ => none
  | .irem => match S with | .int y :: .int x :: r => (bif decide (y = 0) then none else some (np, L, .int (x % y) :: r, H)) | _ => none
  | .lshl => match S with | .int y :: .long x :: r => some (np, L, .long (x <<< (y &&& 0x3f).toInt64) :: r, H) | _ => none
  | .lushr => match S with | .int y :: .long x :: r => some (np, L, .long ((x.toUInt64 >>> (y &&& 0x3f).toInt64.toUInt64).toInt64) :: r, H) | _ => none
  | .lcmp => match S with | .long y :: .long x :: r => some (np, L, .int (if x > y then 1 else if x = y then 0 else -1) :: r, H) | _ => none
  | .lneg => match S with | .long x :: r => some (np, L, .long (-x) :: r, H) | _ => none
  | .i2l => match S with | .int x :: r => some (np, L, .long x.toInt64 :: r, H) | _ => none
  | .l2i => match S with | .long x :: r => some (np, L, .int x.toInt32 :: r, H) | _ => none
  | .i2b => match S with | .int x :: r => some (np, L, .int x.toInt8.toInt32 :: r, H) | _ => none
  | .dup => match S with | .ref x :: r => some (np, L, .ref x :: .ref x :: r, H) | .int x :: r => some (np, L, .int x :: .int x :: r, H) | _ => none
  | .dup2 => match S with | .int x :: .ref y :: r => some (np, L, .int x :: .ref y :: .int x :: .ref y :: r, H) | _ => none
  | .pop => match S with | .int _ :: r => some (np, L, r, H) | .ref _ :: r => some (np, L, r, H) | _ => none
  | .goto o => match tgt pc o with | some t => some (t, L, S, H) | none => none
  | .ifCond cd o => match S with
    | .int x :: r => (bif if_icmp.holds cd x 0 then (match tgt pc o with | some t => some (t, L, r, H) | none => none) else some (np, L, r, H))
    | _ => none
  | .if_icmp cd o => match S with
    | .int y :: .int x :: r => (bif if_icmp.holds cd x y then (match tgt pc o with | some t => some (t, L, r, H) | none => none) else some (np, L, r, H))
    | _ => none
  | .tableswitch d lo hi offs => match S with
    | .int x :: r => (bif decide (x.toInt < lo) || decide (x.toInt > hi) then (match tgt pc d with | some t => some (t, L, r, H) | none => none)
        else (match offs.toList[(x.toInt - lo).toNat]? with | some o => (match tgt pc o with | some t => some (t, L, r, H) | none => none) | none => none))
    | _ => none
  | .getfield j => match S with
    | .ref a :: r => (match P.fld (P.cls k) j with | some f => (match getC H a f with | some v => some (np, L, v :: r, H) | none => none) | none => none)
    | _ => none
  | .putfield j => match S with
    | v :: .ref a :: r => (match P.fld (P.cls k) j with
      | some f => (match P.fields[f]? with
        | some (_, _, t, fin) => (bif (!fin || P.ini k) && Nat.ble P.ro a then (match conv t v with
          | some v' => (match H[a]? with
            | some (.inl fs) => (bif Nat.ble (f + 1) fs.length then some (np, L, r, H.set a (.inl (fs.set f v'))) else none)
            | _ => none)
          | none => none) else none)
        | none => none)
      | none => none)
    | _ => none
  | .iaload => match S with
    | .int j :: .ref a :: r => (match H[a]? with
      | some (.inr (.inl (1, xs))) => (bif inb xs.length j then some (np, L, .int (rd xs j) :: r, H) else none)
      | some (.inr (.inl (0, xs))) => (bif inb xs.length j then some (np, L, .int (rd xs j) :: r, H) else none)
      | _ => none)
    | _ => none
  | .baload => match S with
    | .int j :: .ref a :: r => (match H[a]? with
      | some (.inr (.inl (2, xs))) => (bif inb xs.length j then some (np, L, .int (rd xs j) :: r, H) else none)
      | some (.inr (.inl (3, xs))) => (bif inb xs.length j then some (np, L, .int (rd xs j) :: r, H) else none)
      | _ => none)
    | _ => none
  | .laload => match S with
    | .int j :: .ref a :: r => (match H[a]? with | some (.inr (.inr xs)) => (bif inb xs.length j then some (np, L, .long (rdL xs j) :: r, H) else none) | _ => none)
    | _ => none
  | .iastore => match S with
    | .int x :: .int j :: .ref a :: r => (bif Nat.ble P.ro a then (match H[a]? with | some (.inr (.inl (1, xs))) => (bif inb xs.length j then some (np, L, r, H.set a (.inr (.inl (1, wr xs j x)))) else none) | _ => none) else none)
    | _ => none
  | .bastore => match S with
    | .int x :: .int j :: .ref a :: r => (bif Nat.ble P.ro a then (match H[a]? with
      | some (.inr (.inl (2, xs))) => (bif inb xs.length j then some (np, L, r, H.set a (.inr (.inl (2, wr xs j (x &&& 1))))) else none)
      | some (.inr (.inl (3, xs))) => (bif inb xs.length j then some (np, L, r, H.set a (.inr (.inl (3, wr xs j x.toInt8.toInt32)))) else none)
      | _ => none) else none)
    | _ => none
  | .lastore => match S with
    | .long x :: .int j :: .ref a :: r => (bif Nat.ble P.ro a then (match H[a]? with | some (.inr (.inr xs)) => (bif inb xs.length j then some (np, L, r, H.set a (.inr (.inr (wrL xs j x)))) else none) | _ => none) else none)
    | _ => none
  | .arraylength => match S with
    | .ref a :: r => (match H[a]? with
      | some (.inr (.inl (_, xs))) => some (np, L, .int xs.length.toInt32 :: r, H)
      | some (.inr (.inr xs)) => some (np, L, .int xs.length.toInt32 :: r, H)
      | _ => none)
    | _ => none
  | .newarray t => match S with
    | .int n :: r => (match atyOf t with | some q => (bif !(decide (n < 0)) && Nat.ble n.toNatClampNeg 60000 && Nat.ble (H.length + 1) P.capC && Nat.ble (hsz P H + n.toNatClampNeg) P.capS then some (np, L, .ref H.length :: r, H ++ [newC q n.toNatClampNeg]) else none) | none => none)
    | _ => none
  | .new j => match P.link (P.cls k) j with | some (5, _) => (bif Nat.ble (H.length + 1) P.capC && Nat.ble (hsz P H + P.objN) P.capS then some (np, L, .ref H.length :: S, H ++ [.inl P.fresh]) else none) | _ => none
  | .invokespecial j => match S with
    | .ref _ :: r => (bif isObjInit P k j && Nat.ble 1 (P.rf k) && Nat.ble (cats r + 12) (P.rl k) then some (np, L, r, H) else none)
    | _ => none
  | i => match S with
    | .int y :: .int x :: r => (match aop i with | some f => some (np, L, .int (f x y) :: r, H) | none => none)
    | .long y :: .long x :: r => (match lop i with | some f => some (np, L, .long (f x y) :: r, H) | none => none)
    | _ => none
/-- what a return hands back -/
def retV (P : Prog) (k : Nat) (i : Instr) (S : List Value) : Option (Option Value) :=
  match i with
  | .return_ => match S, P.ret k with | [], none => some none | _, _ => none
  | .ireturn => match S with
    | .int x :: _ => (match P.ret k with | some .int => some (some (.int x)) | some .boolean => some (some (.int (x &&& 1))) | _ => none)
    | _ => none
  | .lreturn => match S with | .long x :: _ => (match P.ret k with | some .long => some (some (.long x)) | _ => none) | _ => none
  | _ => none
def kindOk : Instr → Nat → Bool
  | .invokestatic _, 0 => true
  | .invokespecial _, 1 => true
  | .invokevirtual _, 2 => true
  | .invokevirtual _, 3 => true
  | _, _ => false
def poolOf : Instr → Option Nat
  | .invokestatic j => some j
  | .invokespecial j => some j
  | .invokevirtual j => some j
  | _ => none
/-- the receiver is there -/
def recvOk (P : Prog) (H : AHeap) (q : Nat) (as : List Value) : Bool :=
  match q with
  | 0 => true
  | _ => match as with
    | .ref a :: _ => (match H[a]? with | some (.inl _) => true | _ => false)
    | _ => false
def callV (P : Prog) (k : Nat) (i : Instr) (S : List Value) (H : AHeap) : Option (Nat × List Value × List Value) :=
  match poolOf i with
  | none => none
  | some j => match P.link (P.cls k) j with
    | none => none
    | some (q, k') =>
      bif kindOk i q && Nat.ble (P.pops k') S.length && Nat.ble (P.rf k' + 1) (P.rf k) && Nat.ble (cats (S.drop (P.pops k')) + (P.maxL k' + 11) + P.rl k') (P.rl k) && recvOk P H q (S.take (P.pops k')).reverse && Nat.ble (entL (S.take (P.pops k')).reverse).length (P.maxL k') then
        some (k', (S.take (P.pops k')).reverse, S.drop (P.pops k'))
      else none
def run (P : Prog) : Nat → Nat → Nat → ALoc → List Value → AHeap → Option (Option Value × AHeap)
  | 0, _, _, _, _, _ => none
  | n + 1, k, pc, L, S, H =>
    match P.code k pc with
    | none => none
    | some (i, np) =>
      match retV P k i S with
      | some v => some (v, H)
      | none =>
        match callV P k i S H with
        | some (k', as, rest) =>
          (match run P n k' 0 (entry P k' as) [] H with
          | some (v, H1) => run P n k np L (v.toList ++ rest) H1
          | none => none)
        | none =>
          (match step P k i np pc L S H with
          | some (pc', L', S', H') => run P n k pc' L' S' H'
          | none => none)
def Eval (P : Prog) (k pc : Nat) (L : ALoc) (S : List Value) (H : AHeap) (out : Option Value × AHeap) : Prop := ∃ n, run P n k pc L S H = some out
end Jvm.OwnX
namespace Jvm.OwnX
open Sem ClassFile Op Lib Jvm.Stand Jvm.Free Jvm.LawKit Jvm.RoadKit
/-! ## values, stacks, local variables -/
def VR (am : List Addr) (v w : Value) : Prop := match v with
  | .ref i => ∃ a, am[i]? = some a ∧ w = .ref a
  | .int x => w = .int x
  | .long x => w = .long x
  | .null => w = .null
  | _ => False
def SR (am : List Addr) : List Value → List Value → Prop
  | [], ws => ws = []
  | v :: vs, ws => ∃ w ws', ws = w :: ws' ∧ VR am v w ∧ SR am vs ws'
def Pre (am am' : List Addr) : Prop := ∀ (i : Nat) (a : Addr), am[i]? = some a → am'[i]? = some a
theorem Pre.refl (am : List Addr) : Pre am am := fun _ _ h => h
theorem Pre.trans {a b c : List Addr} (h : Pre a b) (h' : Pre b c) : Pre a c := fun i x q => h' i x (h i x q)
theorem Pre.app (am : List Addr) (x : Addr) : Pre am (am ++ [x]) := fun i a h => by
  rw [List.getElem?_append_left (List.getElem?_eq_some_iff.mp h).1]; exact h
theorem VR.mono {am am' : List Addr} (h : Pre am am') {v w : Value} (r : VR am v w) : VR am' v w := by
  cases v <;> simp only [VR] at r ⊢ <;> try exact r
  obtain ⟨a, h1, h2⟩ := r; exact ⟨a, h _ _ h1, h2⟩
theorem SR.mono {am am' : List Addr} (h : Pre am am') : ∀ {S ws : List Value}, SR am S ws → SR am' S ws
  | [], _, r => r
  | _ :: _, _, ⟨w, ws', e, r1, r2⟩ => ⟨w, ws', e, r1.mono h, SR.mono h r2⟩
theorem VR.cat {am : List Addr} {v w : Value} (r : VR am v w) : w.category = OwnX.cat v := by
  cases v <;> simp only [VR] at r
  · subst r; rfl
  · subst r; rfl
  · subst r; rfl
  · obtain ⟨a, -, rfl⟩ := r; rfl
theorem SR.cats {am : List Addr} : ∀ {S ws : List Value}, SR am S ws → (ws.map fun v => v.category).sum = OwnX.cats S
  | [], _, r => by cases r; rfl
  | v :: vs, _, ⟨w, ws', e, r1, r2⟩ => by subst e; simp [OwnX.cats, r1.cat, SR.cats r2]
theorem SR.app {am : List Addr} : ∀ {S ws : List Value} (A B : List Value), SR am S ws → S = A ++ B → ∃ x y, ws = x ++ y ∧ SR am A x ∧ SR am B y
  | S, ws, [], B, r, e => ⟨[], ws, rfl, rfl, by rw [show B = S from by simpa using e.symm]; exact r⟩
  | S, ws, v :: A, B, r, e => by
    subst e
    obtain ⟨w, ws', rfl, r1, r2⟩ := r
    obtain ⟨x, y, rfl, h1, h2⟩ := SR.app A B r2 rfl
    exact ⟨w :: x, y, rfl, ⟨w, x, rfl, r1, h1⟩, h2⟩
theorem SR.join {am : List Addr} : ∀ {A x B y : List Value}, SR am A x → SR am B y → SR am (A ++ B) (x ++ y)
  | [], _, _, _, h, h' => by cases h; exact h'
  | _ :: _, _, _, _, ⟨w, ws', e, r1, r2⟩, h' => by subst e; exact ⟨w, _, rfl, r1, SR.join r2 h'⟩
theorem SR.rev {am : List Addr} : ∀ {A x : List Value}, SR am A x → SR am A.reverse x.reverse
  | [], _, h => by cases h; rfl
  | _ :: _, _, ⟨w, ws', e, r1, r2⟩ => by
    subst e
    rw [List.reverse_cons, List.reverse_cons]
    exact SR.join (SR.rev r2) ⟨w, [], rfl, r1, rfl⟩
theorem SR.len {am : List Addr} : ∀ {A x : List Value}, SR am A x → x.length = A.length
  | [], _, h => by cases h; rfl
  | _ :: _, _, ⟨w, ws', e, r1, r2⟩ => by subst e; simp [SR.len r2]
def WFL (l : Array Slot) : Prop := (∀ (i : Nat) w, l[i]? = some (.val w) → w.category = 2 → l[i + 1]? = some .second) ∧ (∀ (i : Nat), l[i]? = some .second → ∃ (j : Nat) (w : Value), i = j + 1 ∧ l[j]? = some (.val w) ∧ w.category = 2)
/-- the places of the variables behind a store of one word -/
def After1 (l l' : Array Slot) (i : Nat) (v : Value) : Prop := ∀ j : Nat, l'[j]? = if j = i then some (.val v) else if j + 1 = i ∧ l[i]? = some .second then some .unset else if j = i + 1 ∧ l[j]? = some .second then some .unset else l[j]?
theorem sib (l : Array Slot) (i j : Nat) (x : Slot) (hi : i < l.size) : (l.setIfInBounds i x)[j]? = if j = i then some x else l[j]? := by
  by_cases h : j = i
  · subst h; simp [hi]
  · simp [Array.getElem?_setIfInBounds_ne (Ne.symm h), h]
theorem store1w {l : Array Slot} {i : Nat} {v : Value} (hw : WFL l) (hi : i < l.size) (hv : v.category = 1) : ∃ l', storeLocals l i v = some l' ∧ l'.size = l.size ∧ After1 l l' i v := by
  have hv2 : ¬ v.category = 2 := by omega
  have hg : l[i]? = some l[i] := Array.getElem?_eq_getElem hi
  cases hq : l[i] with
  | unset =>
    rw [hq] at hg
    refine ⟨l.setIfInBounds i (.val v), by simp [storeLocals, storeSelf, setAt, hg, hq, hi, hv2], by simp, fun j => ?_⟩
    rw [sib _ _ _ _ hi, hg]
    by_cases h : j = i
    · simp [h]
    · simp only [h, if_false, reduceCtorEq, and_false, Option.some.injEq]
      by_cases h2 : j = i + 1 ∧ l[j]? = some .second
      · obtain ⟨j', w, e1, e2, e3⟩ := hw.2 _ h2.2
        have : j' = i := by omega
        subst this; rw [hg] at e2; cases e2
      · simp [h2]
  | second =>
    rw [hq] at hg
    obtain ⟨j0, w, e1, e2, e3⟩ := hw.2 _ hg
    subst e1
    have hj0 : j0 < l.size := by omega
    refine ⟨(l.setIfInBounds j0 .unset).setIfInBounds (j0 + 1) (.val v), by simp [storeLocals, storeSelf, setAt, hg, hq, hi, hv2, hj0], by simp, fun j => ?_⟩
    rw [sib _ _ _ _ (by simpa using hi), sib _ _ _ _ hj0, hg]
    by_cases h : j = j0 + 1
    · simp [h]
    · by_cases h3 : j = j0
      · subst h3; simp
      · have h4 : ¬ (j + 1 = j0 + 1) := by omega
        by_cases h2 : j = j0 + 1 + 1 ∧ l[j]? = some .second
        · obtain ⟨j', w', f1, f2, f3⟩ := hw.2 _ h2.2
          have : j' = j0 + 1 := by omega
          subst this; rw [hg] at f2; cases f2
        · simp [h, h3, h2]
  | val old =>
    rw [hq] at hg
    by_cases hc : old.category = 2
    · have h1 := hw.1 _ _ hg hc
      have h1' := (Array.getElem?_eq_some_iff.mp h1).1
      refine ⟨(l.setIfInBounds (i + 1) .unset).setIfInBounds i (.val v), by simp [storeLocals, storeSelf, setAt, hg, hq, hi, hv2, hc, h1'], by simp, fun j => ?_⟩
      rw [sib _ _ _ _ (by simpa using hi), sib _ _ _ _ h1', hg]
      by_cases h : j = i
      · simp [h]
      · by_cases h3 : j = i + 1
        · subst h3; simp [h1]
        · simp [h, h3]
    · refine ⟨l.setIfInBounds i (.val v), by simp [storeLocals, storeSelf, setAt, hg, hq, hi, hv2, hc], by simp, fun j => ?_⟩
      rw [sib _ _ _ _ hi, hg]
      by_cases h : j = i
      · simp [h]
      · simp only [h, if_false, reduceCtorEq, and_false, Option.some.injEq]
        by_cases h2 : j = i + 1 ∧ l[j]? = some .second
        · obtain ⟨j', w, e1, e2, e3⟩ := hw.2 _ h2.2
          have : j' = i := by omega
          subst this; rw [hg] at e2; cases e2; exact absurd e3 hc
        · simp [h2]
theorem After1.wf {l l' : Array Slot} {i : Nat} {v : Value} (hw : WFL l) (hv : v.category = 1) (A : After1 l l' i v) : WFL l' := by
  refine ⟨fun j w h1 h2 => ?_, fun j h1 => ?_⟩
  · rw [A j] at h1
    by_cases c1 : j = i
    · simp only [c1, if_true, Option.some.injEq, Slot.val.injEq] at h1; subst h1; omega
    · rw [if_neg c1] at h1
      by_cases c2 : j + 1 = i ∧ l[i]? = some .second
      · rw [if_pos c2] at h1; cases h1
      · rw [if_neg c2] at h1
        by_cases c3 : j = i + 1 ∧ l[j]? = some .second
        · rw [if_pos c3] at h1; cases h1
        · rw [if_neg c3] at h1
          have h3 := hw.1 _ _ h1 h2
          rw [A (j + 1)]
          have n1 : ¬ (j + 1 = i) := fun q => c2 ⟨q, q ▸ h3⟩
          have n2 : ¬ (j + 1 + 1 = i ∧ l[i]? = some .second) := fun ⟨q1, q2⟩ => by
            obtain ⟨j', w', f1, f2, f3⟩ := hw.2 _ q2
            have : j' = j + 1 := by omega
            subst this; rw [h3] at f2; cases f2
          have n3 : ¬ (j + 1 = i + 1 ∧ l[j + 1]? = some .second) := fun ⟨q1, _⟩ => c1 (by omega)
          rw [if_neg n1, if_neg n2, if_neg n3]; exact h3
  · rw [A j] at h1
    by_cases c1 : j = i
    · rw [if_pos c1] at h1; cases h1
    · rw [if_neg c1] at h1
      by_cases c2 : j + 1 = i ∧ l[i]? = some .second
      · rw [if_pos c2] at h1; cases h1
      · rw [if_neg c2] at h1
        by_cases c3 : j = i + 1 ∧ l[j]? = some .second
        · rw [if_pos c3] at h1; cases h1
        · rw [if_neg c3] at h1
          obtain ⟨j', w, e1, e2, e3⟩ := hw.2 _ h1
          refine ⟨j', w, e1, ?_, e3⟩
          rw [A j']
          have n1 : ¬ (j' = i) := fun q => c3 ⟨by omega, h1⟩
          have n2 : ¬ (j' + 1 = i ∧ l[i]? = some .second) := fun ⟨q, _⟩ => c1 (by omega)
          have n3 : ¬ (j' = i + 1 ∧ l[j']? = some .second) := fun ⟨_, q⟩ => by rw [e2] at q; cases q
          rw [if_neg n1, if_neg n2, if_neg n3]; exact e2
def lng (o : Option Slot) : Bool := match o with | some (.val w) => decide (w.category = 2) | _ => false
theorem lng_iff (o : Option Slot) : lng o = true ↔ ∃ w, o = some (.val w) ∧ w.category = 2 := by
  unfold lng
  split
  · rename_i w; simp
  · rename_i h; simp; intro w hw; exact absurd hw (h w)
/-- behind a store of a long -/
def After2 (l l' : Array Slot) (i : Nat) (v : Value) : Prop := ∀ j : Nat, l'[j]? = if j = i then some (.val v) else if j = i + 1 then some .second else if j + 1 = i ∧ l[i]? = some .second then some .unset else if j = i + 2 ∧ l[j]? = some .second then some .unset else l[j]?
theorem self2 {l : Array Slot} {i : Nat} {v : Value} (hi : i + 1 < l.size) (hv : v.category = 2) (hz : ∀ w, l[i + 1]? = some (.val w) → w.category = 2 → i + 2 < l.size) :
    ∃ l', storeSelf l i v = some l' ∧ l'.size = l.size ∧ ∀ j : Nat, l'[j]? = if j = i then some (.val v) else if j = i + 1 then some .second else if j = i + 2 ∧ lng l[i + 1]? = true then some .unset else l[j]? := by
  have hi0 : i < l.size := by omega
  have hg : l[i + 1]? = some l[i + 1] := Array.getElem?_eq_getElem hi
  have hne : (l.setIfInBounds i (.val v))[i + 1]? = l[i + 1]? := Array.getElem?_setIfInBounds_ne (by omega)
  have hplain : (∀ w, l[i + 1] = .val w → ¬ w.category = 2) → storeSelf l i v = some ((l.setIfInBounds i (.val v)).setIfInBounds (i + 1) .second) := fun hn => by
    cases hq : l[i + 1] with
    | val w => simp [storeSelf, setAt, hi0, hv, hne, hg, hq, hn _ hq, hi]
    | unset => simp [storeSelf, setAt, hi0, hv, hne, hg, hq, hi]
    | second => simp [storeSelf, setAt, hi0, hv, hne, hg, hq, hi]
  by_cases hx : ∃ w, l[i + 1] = .val w ∧ w.category = 2
  · obtain ⟨w, hw1, hw2⟩ := hx
    have h2 := hz w (by rw [hg, hw1]) hw2
    refine ⟨((l.setIfInBounds i (.val v)).setIfInBounds (i + 2) .unset).setIfInBounds (i + 1) .second, by simp [storeSelf, setAt, hi0, hv, hne, hg, hw1, hw2, hi, h2], by simp, fun j => ?_⟩
    rw [sib _ _ _ _ (by simpa using hi), sib _ _ _ _ (by simpa using h2), sib _ _ _ _ hi0]
    have hE : lng l[i + 1]? = true := (lng_iff _).mpr ⟨w, by rw [hg, hw1], hw2⟩
    by_cases c1 : j = i
    · subst c1; simp
    · by_cases c2 : j = i + 1
      · subst c2; simp
      · by_cases c3 : j = i + 2
        · subst c3; simp [hE]
        · simp [c1, c2, c3]
  · refine ⟨_, hplain fun w h1 h2 => hx ⟨w, h1, h2⟩, by simp, fun j => ?_⟩
    rw [sib _ _ _ _ (by simpa using hi), sib _ _ _ _ hi0]
    have hE : ¬ lng l[i + 1]? = true := fun q => by
      obtain ⟨w, q1, q2⟩ := (lng_iff _).mp q
      exact hx ⟨w, by rw [hg] at q1; exact Option.some.inj q1, q2⟩
    by_cases c1 : j = i
    · subst c1; simp
    · by_cases c2 : j = i + 1
      · subst c2; simp
      · simp [c1, c2, hE]
theorem store2w {l : Array Slot} {i : Nat} {v : Value} (hw : WFL l) (hi : i + 1 < l.size) (hv : v.category = 2) : ∃ l', storeLocals l i v = some l' ∧ l'.size = l.size ∧ After2 l l' i v := by
  have hi0 : i < l.size := by omega
  have hg : l[i]? = some l[i] := Array.getElem?_eq_getElem hi0
  have hz : ∀ w, l[i + 1]? = some (.val w) → w.category = 2 → i + 2 < l.size := fun w q1 q2 => (Array.getElem?_eq_some_iff.mp (hw.1 _ _ q1 q2)).1
  have hsec : ∀ j : Nat, (j = i + 2 ∧ lng l[i + 1]? = true) ↔ (j = i + 2 ∧ l[j]? = some .second) := fun j => by
    constructor
    · rintro ⟨rfl, q⟩
      obtain ⟨w, q1, q2⟩ := (lng_iff _).mp q
      exact ⟨rfl, hw.1 _ _ q1 q2⟩
    · rintro ⟨rfl, q⟩
      obtain ⟨j', w, e1, e2, e3⟩ := hw.2 _ q
      have : j' = i + 1 := by omega
      subst this; exact ⟨rfl, (lng_iff _).mpr ⟨w, e2, e3⟩⟩
  cases hq : l[i] with
  | unset =>
    rw [hq] at hg
    obtain ⟨l', h1, h2, h3⟩ := self2 hi hv hz
    refine ⟨l', by simp [storeLocals, hg, hq, hi0, h1], h2, fun j => ?_⟩
    rw [h3 j, hg]; simp only [hsec, reduceCtorEq, and_false, if_false, Option.some.injEq]
  | second =>
    rw [hq] at hg
    obtain ⟨j0, w, e1, e2, e3⟩ := hw.2 _ hg
    subst e1
    have hj0 : j0 < l.size := by omega
    have hi' : j0 + 1 + 1 < (l.setIfInBounds j0 .unset).size := by simpa using hi
    have hk : ∀ j : Nat, j ≠ j0 → (l.setIfInBounds j0 .unset)[j]? = l[j]? := fun j h => Array.getElem?_setIfInBounds_ne (Ne.symm h)
    obtain ⟨l', h1, h2, h3⟩ := self2 (l := l.setIfInBounds j0 .unset) hi' hv (fun w q1 q2 => by rw [hk _ (by omega)] at q1; simpa using hz w q1 q2)
    refine ⟨l', by simp [storeLocals, setAt, hg, hq, hi0, hj0, h1], by simpa using h2, fun j => ?_⟩
    rw [h3 j, hg, hk (j0 + 1 + 1) (by omega)]; simp only [hsec]
    by_cases c1 : j = j0 + 1
    · simp [c1]
    · by_cases c2 : j = j0 + 1 + 1
      · simp [c2]
      · by_cases c3 : j = j0
        · subst c3; simp [hj0]
        · rw [hk _ c3]
          have : ¬ (j + 1 = j0 + 1) := by omega
          simp [c1, c2, c3]
  | val old =>
    rw [hq] at hg
    by_cases hc : old.category = 2
    · have g1 := hw.1 _ _ hg hc
      have hi' : i + 1 < (l.setIfInBounds (i + 1) .unset).size := by simpa using hi
      have hk : ∀ j : Nat, j ≠ i + 1 → (l.setIfInBounds (i + 1) .unset)[j]? = l[j]? := fun j h => Array.getElem?_setIfInBounds_ne (Ne.symm h)
      have hk1 : (l.setIfInBounds (i + 1) .unset)[i + 1]? = some .unset := by simp [hi]
      obtain ⟨l', h1, h2, h3⟩ := self2 (l := l.setIfInBounds (i + 1) .unset) hi' hv (fun w q1 q2 => by rw [hk1] at q1; cases q1)
      refine ⟨l', by simp [storeLocals, setAt, hg, hq, hi0, hc, hi, h1], by simpa using h2, fun j => ?_⟩
      rw [h3 j, hg, hk1]
      by_cases c1 : j = i
      · simp [c1]
      · by_cases c2 : j = i + 1
        · simp [c2]
        · rw [hk _ c2]
          have c3 : ¬ (j = i + 2 ∧ l[j]? = some .second) := fun ⟨q1, q2⟩ => by
            subst q1
            obtain ⟨j', w, e1, e2, e3⟩ := hw.2 _ q2
            have : j' = i + 1 := by omega
            subst this; rw [g1] at e2; cases e2
          simp [c1, c2, c3, lng]
    · obtain ⟨l', h1, h2, h3⟩ := self2 hi hv hz
      refine ⟨l', by simp [storeLocals, hg, hq, hi0, hc, h1], h2, fun j => ?_⟩
      rw [h3 j, hg]; simp only [hsec, reduceCtorEq, and_false, if_false, Option.some.injEq]
theorem After2.wf {l l' : Array Slot} {i : Nat} {v : Value} (hw : WFL l) (hv : v.category = 2) (A : After2 l l' i v) : WFL l' := by
  refine ⟨fun j w h1 h2 => ?_, fun j h1 => ?_⟩
  · rw [A j] at h1
    by_cases c1 : j = i
    · subst c1; rw [A (j + 1)]; simp
    · rw [if_neg c1] at h1
      by_cases c0 : j = i + 1
      · rw [if_pos c0] at h1; cases h1
      · rw [if_neg c0] at h1
        by_cases c2 : j + 1 = i ∧ l[i]? = some .second
        · rw [if_pos c2] at h1; cases h1
        · rw [if_neg c2] at h1
          by_cases c3 : j = i + 2 ∧ l[j]? = some .second
          · rw [if_pos c3] at h1; cases h1
          · rw [if_neg c3] at h1
            have h3 := hw.1 _ _ h1 h2
            rw [A (j + 1)]
            have n1 : ¬ (j + 1 = i) := fun q => c2 ⟨q, q ▸ h3⟩
            have n0 : ¬ (j + 1 = i + 1) := by omega
            have n2 : ¬ (j + 1 + 1 = i ∧ l[i]? = some .second) := fun ⟨q1, q2⟩ => by
              obtain ⟨j', w', f1, f2, f3⟩ := hw.2 _ q2
              have : j' = j + 1 := by omega
              subst this; rw [h3] at f2; cases f2
            have n3 : ¬ (j + 1 = i + 2 ∧ l[j + 1]? = some .second) := fun ⟨q1, _⟩ => c0 (by omega)
            rw [if_neg n1, if_neg n0, if_neg n2, if_neg n3]; exact h3
  · rw [A j] at h1
    by_cases c1 : j = i
    · rw [if_pos c1] at h1; cases h1
    · rw [if_neg c1] at h1
      by_cases c0 : j = i + 1
      · subst c0; exact ⟨i, v, rfl, by rw [A i]; simp, hv⟩
      · rw [if_neg c0] at h1
        by_cases c2 : j + 1 = i ∧ l[i]? = some .second
        · rw [if_pos c2] at h1; cases h1
        · rw [if_neg c2] at h1
          by_cases c3 : j = i + 2 ∧ l[j]? = some .second
          · rw [if_pos c3] at h1; cases h1
          · rw [if_neg c3] at h1
            obtain ⟨j', w, e1, e2, e3⟩ := hw.2 _ h1
            refine ⟨j', w, e1, ?_, e3⟩
            rw [A j']
            have n1 : ¬ (j' = i) := fun q => c0 (by omega)
            have n0 : ¬ (j' = i + 1) := fun q => c3 ⟨by omega, h1⟩
            have n2 : ¬ (j' + 1 = i ∧ l[i]? = some .second) := fun ⟨q, _⟩ => c1 (by omega)
            have n3 : ¬ (j' = i + 2 ∧ l[j']? = some .second) := fun ⟨_, q⟩ => by rw [e2] at q; cases q
            rw [if_neg n1, if_neg n0, if_neg n2, if_neg n3]; exact e2
def LR (am : List Addr) (L : ALoc) (l : Array Slot) : Prop := L.length = l.size ∧ WFL l ∧ ∀ (i : Nat) v, L[i]? = some (some v) → ∃ w, l[i]? = some (.val w) ∧ VR am v w
theorem LR.mono {am am' : List Addr} (h : Pre am am') {L : ALoc} {l : Array Slot} (r : LR am L l) : LR am' L l :=
  ⟨r.1, r.2.1, fun i v q => by obtain ⟨w, h1, h2⟩ := r.2.2 i v q; exact ⟨w, h1, h2.mono h⟩⟩
theorem kill1_len (L : ALoc) (i : Nat) : (kill1 L i).length = L.length := by
  unfold kill1; split
  · rfl
  · split <;> simp
theorem kill1_get {L : ALoc} {i j : Nat} {v : Value} (h : (kill1 L i)[j]? = some (some v)) : L[j]? = some (some v) ∧ (j + 1 = i → ∀ x, v ≠ .long x) := by
  unfold kill1 at h
  split at h
  · exact ⟨h, fun q => by omega⟩
  · rename_i i
    split at h
    · rename_i x hx
      by_cases e : j = i
      · subst e
        rw [List.getElem?_set] at h
        split at h
        · split at h <;> simp at h
        · omega
      · rw [List.getElem?_set_ne (Ne.symm e)] at h
        exact ⟨h, fun q => absurd (by omega) e⟩
    · rename_i hn
      refine ⟨h, fun q x e => ?_⟩
      have : j = i := by omega
      subst this; subst e; exact hn x h
theorem LR.put {am : List Addr} {L L' : ALoc} {l : Array Slot} {i : Nat} {v w : Value} (r : LR am L l) (h : lput L i v = some L') (hv : VR am v w) (hc : w.category = 1) : ∃ l', storeLocals l i w = some l' ∧ l'.size = l.size ∧ LR am L' l' := by
  unfold lput at h
  cases hb : Nat.ble (i + 1) L.length
  · rw [hb] at h; cases h
  · rw [hb] at h
    have hi : i < L.length := Nat.le_of_ble_eq_true hb
    simp only [cond_true, Option.some.injEq] at h
    obtain ⟨l', h1, h2, h3⟩ := store1w (v := w) r.2.1 (by rw [← r.1]; exact hi) hc
    refine ⟨l', h1, h2, ?_, h3.wf r.2.1 hc, fun j u hu => ?_⟩
    · rw [← h]; simp [kill1_len, r.1, h2]
    · rw [← h, List.getElem?_set] at hu
      rw [h3 j]
      by_cases c : i = j
      · subst c
        simp only [if_true] at hu
        split at hu
        · cases hu; exact ⟨w, by simp, hv⟩
        · cases hu
      · rw [if_neg c] at hu
        obtain ⟨q1, q2⟩ := kill1_get hu
        obtain ⟨w', q3, q4⟩ := r.2.2 j u q1
        have n1 : ¬ (j = i) := fun q => c q.symm
        have n2 : ¬ (j + 1 = i ∧ l[i]? = some .second) := fun ⟨a1, a2⟩ => by
          obtain ⟨j', w2, e1, e2, e3⟩ := r.2.1.2 _ a2
          have : j' = j := by omega
          subst this; rw [q3] at e2; cases e2
          have q5 := q4.cat
          rw [e3] at q5
          cases u <;> simp [OwnX.cat] at q5
          exact q2 a1 _ rfl
        have n3 : ¬ (j = i + 1 ∧ l[j]? = some .second) := fun ⟨_, q⟩ => by rw [q3] at q; cases q
        exact ⟨w', by rw [if_neg n1, if_neg n2, if_neg n3]; exact q3, q4⟩
theorem LR.putL {am : List Addr} {L L' : ALoc} {l : Array Slot} {i : Nat} {x : Int64} (r : LR am L l) (h : lputL L i x = some L') : ∃ l', storeLocals l i (.long x) = some l' ∧ l'.size = l.size ∧ LR am L' l' := by
  unfold lputL at h
  cases hb : Nat.ble (i + 2) L.length
  · rw [hb] at h; cases h
  · rw [hb] at h
    have hi : i + 1 < L.length := Nat.le_of_ble_eq_true hb
    simp only [cond_true, Option.some.injEq] at h
    obtain ⟨l', h1, h2, h3⟩ := store2w (v := .long x) r.2.1 (by rw [← r.1]; exact hi) rfl
    refine ⟨l', h1, h2, ?_, h3.wf r.2.1 rfl, fun j u hu => ?_⟩
    · rw [← h]; simp [kill1_len, r.1, h2]
    · rw [← h, List.getElem?_set] at hu
      rw [h3 j]
      by_cases c0 : i + 1 = j
      · subst c0
        simp only [if_true] at hu
        split at hu <;> cases hu
      · rw [if_neg c0, List.getElem?_set] at hu
        by_cases c : i = j
        · subst c
          simp only [if_true] at hu
          split at hu
          · cases hu; exact ⟨.long x, by simp, rfl⟩
          · cases hu
        · rw [if_neg c] at hu
          obtain ⟨q1, q2⟩ := kill1_get hu
          obtain ⟨w', q3, q4⟩ := r.2.2 j u q1
          have n1 : ¬ (j = i) := fun q => c q.symm
          have n0 : ¬ (j = i + 1) := fun q => c0 q.symm
          have n2 : ¬ (j + 1 = i ∧ l[i]? = some .second) := fun ⟨a1, a2⟩ => by
            obtain ⟨j', w2, e1, e2, e3⟩ := r.2.1.2 _ a2
            have : j' = j := by omega
            subst this; rw [q3] at e2; cases e2
            have q5 := q4.cat
            rw [e3] at q5
            cases u <;> simp [OwnX.cat] at q5
            exact q2 a1 _ rfl
          have n3 : ¬ (j = i + 2 ∧ l[j]? = some .second) := fun ⟨_, q⟩ => by rw [q3] at q; cases q
          exact ⟨w', by rw [if_neg n1, if_neg n0, if_neg n2, if_neg n3]; exact q3, q4⟩
theorem LR.int {am : List Addr} {L : ALoc} {l : Array Slot} {i : Nat} {x : Int32} (r : LR am L l) (h : loadI L i = some x) : l[i]? = some (.val (.int x)) := by
  unfold loadI at h
  split at h
  · rename_i y hy
    cases h
    obtain ⟨w, h1, h2⟩ := r.2.2 _ _ hy
    cases h2; exact h1
  · cases h
theorem LR.long {am : List Addr} {L : ALoc} {l : Array Slot} {i : Nat} {x : Int64} (r : LR am L l) (h : loadJ L i = some x) : l[i]? = some (.val (.long x)) := by
  unfold loadJ at h
  split at h
  · rename_i y hy
    cases h
    obtain ⟨w, h1, h2⟩ := r.2.2 _ _ hy
    cases h2; exact h1
  · cases h
theorem LR.ref {am : List Addr} {L : ALoc} {l : Array Slot} {i x : Nat} (r : LR am L l) (h : loadA L i = some x) : ∃ a, am[x]? = some a ∧ l[i]? = some (.val (.ref a)) := by
  unfold loadA at h
  split at h
  · rename_i y hy
    cases h
    obtain ⟨w, h1, a, h2, rfl⟩ := r.2.2 _ _ hy
    exact ⟨a, h2, h1⟩
  · cases h
end Jvm.OwnX
namespace Jvm.OwnX
open Sem ClassFile Op Lib Jvm.Stand Jvm.Free Jvm.LawKit Jvm.RoadKit
/-! ## the entry's variables -/
def slotsL : List Value → List Slot
  | [] => []
  | v :: r => if v.category = 2 then .val v :: .second :: slotsL r else .val v :: slotsL r
theorem fold_slots : ∀ (ws : List Value) (acc : Array Slot), ws.foldl (fun acc v => if v.category = 2 then (acc.push (.val v)).push .second else acc.push (.val v)) acc = acc ++ (slotsL ws).toArray
  | [], acc => by simp [slotsL]
  | v :: r, acc => by
    rw [List.foldl_cons, fold_slots r]
    by_cases h : v.category = 2
    · simp only [h, if_true, slotsL]; apply Array.ext'; simp
    · simp only [h, if_false, slotsL]; apply Array.ext'; simp
theorem argsToLocals_eq (ws : List Value) (n : Nat) : argsToLocals ws.toArray n = (slotsL ws ++ List.replicate (n - (slotsL ws).length) Slot.unset).toArray := by
  unfold argsToLocals
  have h : Array.foldl (fun acc v => if v.category = 2 then (acc.push (.val v)).push .second else acc.push (.val v)) #[] ws.toArray = (slotsL ws).toArray := by
    rw [List.foldl_toArray, fold_slots]; simp
  simp only [h]
  apply Array.ext'; simp
def WFl (s : List Slot) : Prop := (∀ (i : Nat) (w : Value), s[i]? = some (Slot.val w) → w.category = 2 → s[i + 1]? = some Slot.second) ∧ (∀ (i : Nat), s[i]? = some Slot.second → ∃ (j : Nat) (w : Value), i = j + 1 ∧ s[j]? = some (Slot.val w) ∧ w.category = 2)
theorem WFl.nil : WFl [] := ⟨fun i w h => by simp at h, fun i h => by simp at h⟩
theorem WFl.one {s : List Slot} (h : WFl s) {v : Value} (hv : ¬ v.category = 2) : WFl (.val v :: s) := by
  refine ⟨fun i w h1 h2 => ?_, fun i h1 => ?_⟩
  · cases i with
    | zero => simp at h1; subst h1; exact absurd h2 hv
    | succ i => rw [List.getElem?_cons_succ] at h1 ⊢; exact h.1 _ _ h1 h2
  · cases i with
    | zero => simp at h1
    | succ i =>
      rw [List.getElem?_cons_succ] at h1
      obtain ⟨j, w, rfl, e2, e3⟩ := h.2 _ h1
      exact ⟨j + 1, w, rfl, by rw [List.getElem?_cons_succ]; exact e2, e3⟩
theorem WFl.two {s : List Slot} (h : WFl s) {v : Value} (hv : v.category = 2) : WFl (.val v :: .second :: s) := by
  refine ⟨fun i w h1 h2 => ?_, fun i h1 => ?_⟩
  · match i with
    | 0 => simp
    | 1 => simp at h1
    | i + 2 => simp only [List.getElem?_cons_succ] at h1 ⊢; exact h.1 _ _ h1 h2
  · match i with
    | 0 => simp at h1
    | 1 => exact ⟨0, v, rfl, by simp, hv⟩
    | i + 2 =>
      simp only [List.getElem?_cons_succ] at h1
      obtain ⟨j, w, rfl, e2, e3⟩ := h.2 _ h1
      exact ⟨j + 2, w, rfl, by simp only [List.getElem?_cons_succ]; exact e2, e3⟩
theorem WFl.pad {s : List Slot} (h : WFl s) (n : Nat) : WFl (s ++ List.replicate n Slot.unset) := by
  have hk : ∀ (i : Nat) (x : Slot), (s ++ List.replicate n Slot.unset)[i]? = some x → x ≠ Slot.unset → s[i]? = some x := fun i x q hx => by
    by_cases c : i < s.length
    · rw [List.getElem?_append_left c] at q; exact q
    · rw [List.getElem?_append_right (by omega), List.getElem?_replicate] at q
      split at q
      · cases q; exact absurd rfl hx
      · cases q
  have hl : ∀ (i : Nat) (x : Slot), s[i]? = some x → (s ++ List.replicate n Slot.unset)[i]? = some x := fun i x q => by
    rw [List.getElem?_append_left (List.getElem?_eq_some_iff.mp q).1]; exact q
  refine ⟨fun i w h1 h2 => hl _ _ (h.1 _ _ (hk _ _ h1 (by simp)) h2), fun i h1 => ?_⟩
  obtain ⟨j, w, e1, e2, e3⟩ := h.2 _ (hk _ _ h1 (by simp))
  exact ⟨j, w, e1, hl _ _ e2, e3⟩
theorem slotsL_ok {am : List Addr} : ∀ {as ws : List Value}, SR am as ws → (entL as).length = (slotsL ws).length ∧ WFl (slotsL ws) ∧ ∀ (i : Nat) (v : Value), (entL as)[i]? = some (some v) → ∃ w, (slotsL ws)[i]? = some (Slot.val w) ∧ VR am v w
  | [], _, h => by cases h; exact ⟨rfl, WFl.nil, fun i v q => by simp [entL] at q⟩
  | v :: r, _, ⟨w, ws', e, r1, r2⟩ => by
    subst e
    obtain ⟨i1, i2, i3⟩ := slotsL_ok r2
    have hc := r1.cat
    by_cases h2 : ∃ x, v = .long x
    · obtain ⟨x, rfl⟩ := h2
      have hc2 : w.category = 2 := hc
      refine ⟨by simp [entL, slotsL, hc2, i1], by simp only [slotsL, hc2, if_true]; exact i2.two hc2, fun i u q => ?_⟩
      simp only [slotsL, hc2, if_true, entL] at q ⊢
      match i with
      | 0 => simp at q; subst q; exact ⟨w, by simp, r1⟩
      | 1 => simp at q
      | i + 2 => simp only [List.getElem?_cons_succ] at q ⊢; exact i3 i u q
    · have hv1 : OwnX.cat v = 1 := by cases v <;> first | rfl | (exact absurd ⟨_, rfl⟩ h2)
      have hc2 : ¬ w.category = 2 := by rw [hc, hv1]; decide
      have he : entL (v :: r) = some v :: entL r := by cases v <;> first | rfl | (exact absurd ⟨_, rfl⟩ h2)
      refine ⟨by simp [he, slotsL, hc2, i1], by simp only [slotsL, hc2, if_false]; exact i2.one hc2, fun i u q => ?_⟩
      rw [he] at q
      simp only [slotsL, hc2, if_false]
      match i with
      | 0 => simp at q; subst q; exact ⟨w, by simp, r1⟩
      | i + 1 => simp only [List.getElem?_cons_succ] at q ⊢; exact i3 i u q
theorem LR.entry {am : List Addr} {as ws : List Value} {n : Nat} (h : SR am as ws) (hn : (entL as).length ≤ n) : LR am (pad n (entL as)) (argsToLocals ws.toArray n) := by
  obtain ⟨h1, h2, h3⟩ := slotsL_ok h
  rw [argsToLocals_eq]
  have hw := h2.pad (n - (slotsL ws).length)
  refine ⟨by simp [pad, h1], ⟨fun i w q1 q2 => ?_, fun i q1 => ?_⟩, fun i v q => ?_⟩
  · rw [List.getElem?_toArray] at q1 ⊢; exact hw.1 _ _ q1 q2
  · rw [List.getElem?_toArray] at q1
    obtain ⟨j, w, e1, e2, e3⟩ := hw.2 _ q1
    exact ⟨j, w, e1, by rw [List.getElem?_toArray]; exact e2, e3⟩
  · have hi : i < (entL as).length := by
      by_cases c : i < (entL as).length
      · exact c
      · unfold pad at q
        rw [List.getElem?_append_right (by omega), List.getElem?_replicate] at q
        split at q
        · cases q
        · cases q
    unfold pad at q
    rw [List.getElem?_append_left hi] at q
    obtain ⟨w, e1, e2⟩ := h3 i v q
    exact ⟨w, by rw [List.getElem?_toArray, List.getElem?_append_left (by omega)]; exact e1, e2⟩
theorem entry_size {ws : List Value} {n : Nat} (h : (slotsL ws).length ≤ n) : (argsToLocals ws.toArray n).size = n := by
  rw [argsToLocals_eq]; simp; omega
/-! ## the heap -/
def aty : Nat → FieldType
  | 0 => .int
  | 1 => .int
  | 2 => .boolean
  | 3 => .byte
  | _ => .long
def CR (P : Prog) (C : String) (Z : State) (am : List Addr) (c : ACell) (h : Heap) (a : Addr) : Prop := match c with
  | .inl fs => Exa Z h a C ∧ fs.length = P.fields.length ∧ ∀ (j : Nat) (v : Value) (n d : String) (t : Nat) (f : Bool), fs[j]? = some v → P.fields[j]? = some (n, d, t, f) → ∃ w, VR am v w ∧ Fld Z h a C n d w
  | .inr (.inl (t, xs)) => ∃ cl, Arr Z h a cl (aty t) ∧ cl.slots.size = xs.length ∧ ∀ (j : Nat) (x : Int32), xs[j]? = some x → cl.slots[j]? = some (.int x)
  | .inr (.inr xs) => ∃ cl, Arr Z h a cl .long ∧ cl.slots.size = xs.length ∧ ∀ (j : Nat) (x : Int64), xs[j]? = some x → cl.slots[j]? = some (.long x)
def HR (P : Prog) (C : String) (Z : State) (n0 : Nat) (am : List Addr) (H : AHeap) (h : Heap) : Prop :=
  am.length = H.length ∧ (∀ (i j : Nat) (a : Addr), am[i]? = some a → am[j]? = some a → i = j) ∧ (∀ (i : Nat) (a : Addr), am[i]? = some a → a < h.size ∧ (P.ro ≤ i → n0 ≤ a)) ∧ ∀ (i : Nat) (c : ACell), H[i]? = some c → ∃ a, am[i]? = some a ∧ CR P C Z am c h a
section Heap
variable {P : Prog} {C : String} {Z : State} {n0 : Nat} {am am' : List Addr} {H : AHeap} {h h' : Heap} {a b : Addr} {c : ACell}
theorem CR.ext (E : Ext h h') (hp : Pre am am') (r : CR P C Z am c h a) : CR P C Z am' c h' a := by
  match c, r with
  | .inl fs, ⟨r1, r2, r3⟩ => exact ⟨r1.ext E, r2, fun j v n d t f q1 q2 => by obtain ⟨w, e1, e2⟩ := r3 j v n d t f q1 q2; exact ⟨w, e1.mono hp, e2.ext E⟩⟩
  | .inr (.inl (t, xs)), ⟨cl, r1, r2⟩ => exact ⟨cl, r1.ext E, r2⟩
  | .inr (.inr xs), ⟨cl, r1, r2⟩ => exact ⟨cl, r1.ext E, r2⟩
theorem CR.other {sl : Nat} {v : Value} (W : Wr h h' b sl v) (hne : a ≠ b) (r : CR P C Z am c h a) : CR P C Z am c h' a := by
  match c, r with
  | .inl fs, ⟨r1, r2, r3⟩ => exact ⟨r1.wr W, r2, fun j v n d t f q1 q2 => by obtain ⟨w, e1, e2⟩ := r3 j v n d t f q1 q2; exact ⟨w, e1, e2.other W (Or.inl hne)⟩⟩
  | .inr (.inl (t, xs)), ⟨cl, r1, r2⟩ => exact ⟨cl, r1.other W hne, r2⟩
  | .inr (.inr xs), ⟨cl, r1, r2⟩ => exact ⟨cl, r1.other W hne, r2⟩
/-- a new cell -/
theorem HR.push (E : Ext h h') (r : HR P C Z n0 am H h) (hlt : h.size < h'.size) (hn : n0 ≤ h.size) (hc : CR P C Z (am ++ [h.size]) c h' h.size) : HR P C Z n0 (am ++ [h.size]) (H ++ [c]) h' := by
  obtain ⟨r1, r2, r3, r4⟩ := r
  have hin : ∀ (i : Nat) (x : Addr), (am ++ [h.size])[i]? = some x → (am[i]? = some x ∧ i < am.length) ∨ (i = am.length ∧ x = h.size) := fun i x q => by
    by_cases ci : i < am.length
    · rw [List.getElem?_append_left ci] at q; exact Or.inl ⟨q, ci⟩
    · rw [List.getElem?_append_right (by omega)] at q
      have : i - am.length = 0 := by
        by_cases z : i - am.length = 0
        · exact z
        · rw [List.getElem?_eq_none (by simp; omega)] at q; cases q
      rw [this] at q
      simp at q
      exact Or.inr ⟨by omega, q.symm⟩
  refine ⟨by simp [r1], fun i j x q1 q2 => ?_, fun i x q => ?_, fun i d q => ?_⟩
  · rcases hin i x q1 with ⟨u1, u2⟩ | ⟨u1, u2⟩ <;> rcases hin j x q2 with ⟨v1, v2⟩ | ⟨v1, v2⟩
    · exact r2 _ _ _ u1 v1
    · subst v2; exact absurd (r3 _ _ u1).1 (Nat.lt_irrefl _)
    · subst u2; exact absurd (r3 _ _ v1).1 (Nat.lt_irrefl _)
    · omega
  · rcases hin i x q with ⟨u1, u2⟩ | ⟨u1, u2⟩
    · have := r3 _ _ u1; exact ⟨Nat.lt_of_lt_of_le this.1 E.1, this.2⟩
    · subst u2; exact ⟨hlt, fun _ => hn⟩
  · by_cases ci : i < H.length
    · rw [List.getElem?_append_left ci] at q
      obtain ⟨x, e1, e2⟩ := r4 i d q
      exact ⟨x, Pre.app am _ _ _ e1, e2.ext E (Pre.app am _)⟩
    · rw [List.getElem?_append_right (by omega)] at q
      have : i - H.length = 0 := by
        by_cases z : i - H.length = 0
        · exact z
        · rw [List.getElem?_eq_none (by simp; omega)] at q; cases q
      rw [this] at q
      simp at q; subst q
      have e : i = am.length := by omega
      exact ⟨h.size, by rw [e]; simp, hc⟩
/-- a cell changed in place -/
theorem HR.upd {i sl : Nat} {v : Value} (W : Wr h h' a sl v) (r : HR P C Z n0 am H h) (hi : am[i]? = some a) (hc : CR P C Z am c h' a) : HR P C Z n0 am (H.set i c) h' := by
  obtain ⟨r1, r2, r3, r4⟩ := r
  refine ⟨by simp [r1], r2, fun j x q => by rw [W.size]; exact r3 _ _ q, fun j d q => ?_⟩
  rw [List.getElem?_set] at q
  by_cases e : i = j
  · subst e
    simp only [if_true] at q
    split at q
    · cases q; exact ⟨a, hi, hc⟩
    · cases q
  · rw [if_neg e] at q
    obtain ⟨x, e1, e2⟩ := r4 j d q
    exact ⟨x, e1, e2.other W fun q => e (r2 _ _ _ hi (q ▸ e1))⟩
theorem inb_spec {n : Nat} {j : Int32} (h : inb n j = true) : ¬ (j < 0 ∨ n ≤ j.toNatClampNeg) := by
  simp only [inb, Bool.and_eq_true, Bool.not_eq_true', decide_eq_false_iff_not] at h
  have h2 : j.toNatClampNeg < n := Nat.le_of_ble_eq_true h.2
  rintro (q | q)
  · exact h.1 q
  · omega
theorem inb_lt {n : Nat} {j : Int32} (h : inb n j = true) : j.toNatClampNeg < n := by
  have := inb_spec h; exact Nat.lt_of_not_le fun q => this (Or.inr q)
theorem rd_at {xs : List Int32} {j : Int32} (h : inb xs.length j = true) : xs[j.toNatClampNeg]? = some (rd xs j) := by
  rw [rd, List.getD_eq_getElem?_getD, List.getElem?_eq_getElem (inb_lt h)]; rfl
theorem rdL_at {xs : List Int64} {j : Int32} (h : inb xs.length j = true) : xs[j.toNatClampNeg]? = some (rdL xs j) := by
  rw [rdL, List.getD_eq_getElem?_getD, List.getElem?_eq_getElem (inb_lt h)]; rfl
theorem CR.wrI {t : Nat} {xs : List Int32} {j x : Int32} (W : Wr h h' a j.toNatClampNeg (.int x)) (r : CR P C Z am (.inr (.inl (t, xs))) h a) : CR P C Z am (.inr (.inl (t, wr xs j x))) h' a := by
  obtain ⟨cl, r1, r2, r3⟩ := r
  refine ⟨_, r1.same W, by rw [sz_set, r2]; simp [wr], fun i y q => ?_⟩
  unfold wr at q
  rw [List.getElem?_set] at q
  by_cases e : j.toNatClampNeg = i
  · rw [if_pos e] at q
    split at q
    · cases q; subst e
      have hs : j.toNatClampNeg < cl.slots.size := by omega
      simp [Cell.setSlot, hs]
    · cases q
  · rw [if_neg e] at q
    simp only [Cell.setSlot]
    rw [Array.getElem?_setIfInBounds_ne e]; exact r3 _ _ q
theorem CR.wrJ {xs : List Int64} {j : Int32} {x : Int64} (W : Wr h h' a j.toNatClampNeg (.long x)) (r : CR P C Z am (.inr (.inr xs)) h a) : CR P C Z am (.inr (.inr (wrL xs j x))) h' a := by
  obtain ⟨cl, r1, r2, r3⟩ := r
  refine ⟨_, r1.same W, by rw [sz_set, r2]; simp [wrL], fun i y q => ?_⟩
  unfold wrL at q
  rw [List.getElem?_set] at q
  by_cases e : j.toNatClampNeg = i
  · rw [if_pos e] at q
    split at q
    · cases q; subst e
      have hs : j.toNatClampNeg < cl.slots.size := by omega
      simp [Cell.setSlot, hs]
    · cases q
  · rw [if_neg e] at q
    simp only [Cell.setSlot]
    rw [Array.getElem?_setIfInBounds_ne e]; exact r3 _ _ q
end Heap
/-! ## what the sheet's words must say -/
def tyOk : Nat → FieldType → Bool
  | 0, .int => true
  | 1, .boolean => true
  | 2, .long => true
  | 3, .array _ => true
  | _, _ => false
def rcv (q : Nat) : Nat := match q with | 0 => 0 | _ => 1
def KindOk (P : Prog) (nm : Nat → MethodName) (C : String) (Z : State) (a0 : Array Value) (q k : Nat) : Prop := match q with
  | 0 => (Cond.static (nm k)).before a0 Z = true
  | 1 => (nm k).name = "<init>" ∧ (Cond.instanceMethod (nm k)).before a0 Z = true ∧ P.ret k = none
  | 2 => (Cond.declares (nm k)).before a0 Z = true ∧ (Cond.instanceMethod (nm k)).before a0 Z = true ∧ (Cond.selects C (nm k) (nm k)).before a0 Z = true
  | _ => (nm k).cls = C ∧ (Cond.instanceMethod (nm k)).before a0 Z = true ∧ (Cond.privateMethod (nm k)).before a0 Z = true
def CallOk (P : Prog) (nm : Nat → MethodName) (bc : Nat → ByteArray) (cn : Nat → String) (C : String) (Z : State) (a0 : Array Value) (c j q k : Nat) : Prop :=
  (Cond.methodLink (cn c) j (nm k)).before a0 Z = true ∧ (Cond.code (nm k) (bc k) (P.maxL k) (P.ret k)).before a0 Z = true ∧ (Cond.initialized (nm k).cls).before a0 Z = true ∧
      (∃ ps r, parseMethodDescriptor (nm k).desc = some ⟨ps, r⟩ ∧ P.pops k = ps.length + rcv q) ∧ plainName (nm k).cls = true ∧ ((nm k).cls ≠ "java/lang/invoke/MethodHandle" ∧ (nm k).cls ≠ "java/lang/invoke/VarHandle") ∧ (nm k).cls = cn (P.cls k) ∧ (P.ini k = true → (nm k).name = "<init>" ∧ (nm k).cls = C) ∧ KindOk P nm C Z a0 q k
def LinkOk (P : Prog) (nm : Nat → MethodName) (bc : Nat → ByteArray) (cn : Nat → String) (C : String) (Z : State) (a0 : Array Value) (c j q k : Nat) : Prop := match q with
  | 4 => (Cond.methodLink (cn c) j Lib.objectInit).before a0 Z = true ∧ (Cond.instanceMethod Lib.objectInit).before a0 Z = true ∧ (Cond.code Lib.objectInit ⟨#[0xb1]⟩ 1 none).before a0 Z = true
  | 5 => (Cond.classLink (cn c) j C).before a0 Z = true
  | q => CallOk P nm bc cn C Z a0 c j q k
def KonOk (cn : Nat → String) (Z : State) (a0 : Array Value) (c j : Nat) (v : Value) : Prop := match v with
  | .int x => (Cond.constant (cn c) j x).before a0 Z = true
  | .long x => (Cond.constantLong (cn c) j x).before a0 Z = true
  | _ => False
def Good (P : Prog) (nm : Nat → MethodName) (bc : Nat → ByteArray) (cn : Nat → String) (C : String) (Z : State) (a0 : Array Value) : Prop :=
  (∀ k pc i np, P.code k pc = some (i, np) → ∃ len, decode (bc k) pc = .ok (i, len) ∧ np = pc + len ∧ (ilen i = 0 ∨ len = ilen i)) ∧
  (∀ c j f, P.fld c j = some f → ∃ n d t fin, P.fields[f]? = some (n, d, t, fin) ∧ (Cond.fieldLink (cn c) j C n d).before a0 Z = true) ∧
  (∀ (f : Nat) n d t (fin : Bool), P.fields[f]? = some (n, d, t, fin) → (bif fin then (Cond.laysFinal C C n d).before a0 Z else (Cond.lays C C n d).before a0 Z) = true ∧ ∃ ty, parseFieldDescriptor d = some ty ∧ tyOk t ty = true ∧ defaultValue ty = dflt t) ∧
  (∀ (f g : Nat) n d t (fin : Bool) n' d' t' (fin' : Bool), P.fields[f]? = some (n, d, t, fin) → P.fields[g]? = some (n', d', t', fin') → f ≠ g → n ≠ n') ∧
  (∀ c j v, P.kon c j = some v → KonOk cn Z a0 c j v) ∧
  (Cond.instantiable C P.objN).before a0 Z = true ∧ (Cond.initialized C).before a0 Z = true ∧
  (∀ k pc t np, P.code k pc = some (.newarray t, np) → (Cond.arrayClass (newarray.typeOf t)).before a0 Z = true) ∧
  (∀ c j q k, P.link c j = some (q, k) → LinkOk P nm bc cn C Z a0 c j q k)
end Jvm.OwnX
namespace Jvm.OwnX
open Sem ClassFile Op Lib Jvm.Stand Jvm.Free Jvm.LawKit Jvm.RoadKit
section Sound
variable {p : Program} {l : Launch} {e : Env} {R : Room} {s : State} {m : MethodId} {args : Array Value} {below : List Frame} {meth : Method} {c : Code} {T : State} {locs : List Loc} {cells slots : Nat}
variable {P : Prog} {nm : Nat → MethodName} {bc : Nat → ByteArray} {cn : Nat → String} {C : String} {Z : State} {a0 : Array Value} {n0 : Nat}
/-- where the walk stands behind a step -/
def Behind (p : Program) (l : Launch) (e : Env) (R : Room) (s : State) (m : MethodId) (args : Array Value) (below : List Frame) (meth : Method) (c : Code) (P : Prog) (C : String) (Z : State) (n0 : Nat) (am : List Addr) (cells slots : Nat)
    (T : State) (pc : Nat) (ls : Array Slot) (st : List Value) (pc' : Nat) (L' : ALoc) (S' : List Value) (H' : AHeap) (dc ds : Nat) : Prop :=
  ∃ T' am' ls' st' locs', Stand p l e R s m args below meth c T' locs' (cells + dc) (slots + ds) ∧ LR am' L' ls' ∧ ls'.size = ls.size ∧ SR am' S' st' ∧ HR P C Z n0 am' H' T'.heap ∧ Pre am am' ∧ Fr n0 locs' ∧ n0 ≤ T'.heap.size ∧
    ∀ target, Steps p.tables e below (T'.setTop (mkF m pc' ls' st')) target → Steps p.tables e below (T.setTop (mkF m pc ls st)) target
theorem Behind.plain {am : List Addr} {H : AHeap} {pc pc' : Nat} {L' : ALoc} {S' : List Value} {ls ls' : Array Slot} {st st' : List Value} (X : Stand p l e R s m args below meth c T locs cells slots) (hL : LR am L' ls') (hz : ls'.size = ls.size) (hS : SR am S' st') (hH : HR P C Z n0 am H T.heap) (hF : Fr n0 locs) (hn : n0 ≤ T.heap.size)
    (hs : ∀ target, Steps p.tables e below (T.setTop (mkF m pc' ls' st')) target → Steps p.tables e below (T.setTop (mkF m pc ls st)) target) : Behind p l e R s m args below meth c P C Z n0 am cells slots T pc ls st pc' L' S' H (H.length - H.length) (hsz P H - hsz P H) :=
  ⟨T, am, ls', st', locs, by simpa using X, hL, hz, hS, hH, Pre.refl _, hF, hn, hs⟩
theorem Behind.plain' {T' : State} {am : List Addr} {H : AHeap} {pc pc' : Nat} {L' : ALoc} {S' : List Value} {ls ls' : Array Slot} {st st' : List Value} (X : Stand p l e R s m args below meth c T' locs cells slots) (eT : T'.heap = T.heap) (hL : LR am L' ls') (hz : ls'.size = ls.size) (hS : SR am S' st') (hH : HR P C Z n0 am H T.heap) (hF : Fr n0 locs) (hn : n0 ≤ T.heap.size)
    (hs : ∀ target, Steps p.tables e below (T'.setTop (mkF m pc' ls' st')) target → Steps p.tables e below (T.setTop (mkF m pc ls st)) target) : Behind p l e R s m args below meth c P C Z n0 am cells slots T pc ls st pc' L' S' H (H.length - H.length) (hsz P H - hsz P H) :=
  ⟨T', am, ls', st', locs, by simpa using X, hL, hz, hS, by rw [eT]; exact hH, Pre.refl _, hF, by rw [eT]; exact hn, hs⟩
theorem tgt_spec {pc t : Nat} {o : Int} (h : tgt pc o = some t) : 0 ≤ (pc : Int) + o ∧ ((pc : Int) + o).toNat = t := by
  unfold tgt at h
  split at h
  · rename_i n hn; cases h; rw [hn]; exact ⟨Int.natCast_nonneg _, rfl⟩
  · cases h
theorem hsz_app (P : Prog) : ∀ (H : AHeap) (c : ACell), hsz P (H ++ [c]) = hsz P H + csz P.objN c
  | [], c => by simp [hsz]
  | x :: r, c => by simp only [List.cons_append, hsz, hsz_app P r c]; omega
theorem hsz_append (P : Prog) : ∀ (H T : AHeap), hsz P (H ++ T) = hsz P H + hsz P T
  | [], T => by simp [hsz]
  | x :: r, T => by simp only [List.cons_append, hsz, hsz_append P r T]; omega
theorem hsz_set (P : Prog) : ∀ (H : AHeap) (i : Nat) (c c' : ACell), H[i]? = some c' → csz P.objN c = csz P.objN c' → hsz P (H.set i c) = hsz P H
  | [], i, c, c', h, _ => by simp at h
  | x :: r, 0, c, c', h, e => by simp at h; subst h; simp [hsz, e]
  | x :: r, i + 1, c, c', h, e => by simp only [List.set_cons_succ, hsz]; rw [List.getElem?_cons_succ] at h; rw [hsz_set P r i c c' h e]
/-- a write -/
theorem Behind.write {T' : State} {am : List Addr} {H : AHeap} {i sl : Nat} {cc cc' : ACell} {a : Addr} {w : Value} {h' : Heap} {pc pc' : Nat} {L' : ALoc} {S' : List Value} {ls : Array Slot} {st st' : List Value} (X : Stand p l e R s m args below meth c T' (locs ++ [⟨a, sl⟩]) cells slots) (eT : T'.heap = h') (W : Wr T.heap h' a sl w)
    (hL : LR am L' ls) (hS : SR am S' st') (hH : HR P C Z n0 am H T.heap) (hi : am[i]? = some a) (hro : P.ro ≤ i) (hc' : H[i]? = some cc') (hcs : csz P.objN cc = csz P.objN cc') (hC : CR P C Z am cc h' a) (hF : Fr n0 locs) (hn : n0 ≤ T.heap.size)
    (hs : ∀ target, Steps p.tables e below (T'.setTop (mkF m pc' ls st')) target → Steps p.tables e below (T.setTop (mkF m pc ls st)) target) :
    Behind p l e R s m args below meth c P C Z n0 am cells slots T pc ls st pc' L' S' (H.set i cc) ((H.set i cc).length - H.length) (hsz P (H.set i cc) - hsz P H) := by
  rw [hsz_set P H i cc cc' hc' hcs]
  refine ⟨T', am, ls, st', _, by simpa using X, hL, rfl, hS, by rw [eT]; exact hH.upd W hi hC, Pre.refl _, Fr.snoc X hF ((hH.2.2.1 _ _ hi).2 hro), by rw [eT, W.size]; exact hn, hs⟩
theorem arr_new {am : List Addr} {h h' : Heap} {cA : ClassId} {q : Nat} {n : Int32} {t : ArrayType} (ht : atyOf t = some q) (hn : ¬ n < 0) (A : Arr Z h' h.size (newA cA (newarray.typeOf t) n) (newarray.typeOf t)) : CR P C Z am (newC q n.toNatClampNeg) h' h.size := by
  have key : ∀ {d : Value}, ∀ j, (Array.replicate n.toNatClampNeg d)[j]? = if j < n.toNatClampNeg then some d else none := fun j => by rw [Array.getElem?_replicate]
  cases t <;> simp only [atyOf, Option.some.injEq, reduceCtorEq] at ht <;> subst ht
  · refine ⟨_, A, by simp [newA], fun j x q => ?_⟩
    rw [List.getElem?_replicate] at q
    split at q
    · cases q; simp only [newA]; rw [key, if_pos (by assumption)]; rfl
    · cases q
  · refine ⟨_, A, by simp [newA], fun j x q => ?_⟩
    rw [List.getElem?_replicate] at q
    split at q
    · cases q; simp only [newA]; rw [key, if_pos (by assumption)]; rfl
    · cases q
  · refine ⟨_, A, by simp [newA], fun j x q => ?_⟩
    rw [List.getElem?_replicate] at q
    split at q
    · cases q; simp only [newA]; rw [key, if_pos (by assumption)]; rfl
    · cases q
  · refine ⟨_, A, by simp [newA], fun j x q => ?_⟩
    rw [List.getElem?_replicate] at q
    split at q
    · cases q; simp only [newA]; rw [key, if_pos (by assumption)]; rfl
    · cases q
theorem csz_new {t : ArrayType} {q : Nat} (N n : Nat) (ht : atyOf t = some q) : csz N (newC q n) = n := by
  cases t <;> simp only [atyOf, Option.some.injEq, reduceCtorEq] at ht <;> subst ht <;> simp [newC, csz]
set_option maxHeartbeats 4000000 in
theorem step_sound (G : Good P nm bc cn C Z a0) {k pc np pc' : Nat} {i : Instr} {L L' : ALoc} {S S' : List Value} {H H' : AHeap} (hcode : P.code k pc = some (i, np)) (h : step P k i np pc L S H = some (pc', L', S', H'))
    (X : Stand p l e R s m args below meth c T locs cells slots) (hx : p.tables.exec = Jvm.exec) (hZ : Z.Warmed39 s.vm) (hby : c.code = bc k) (hml : c.maxLocals = P.maxL k) (hown : s.vm.findClass (cn (P.cls k)) = some m.cls) (hini : P.ini k = true → meth.name = "<init>" ∧ cn (P.cls k) = C)
    (hrf : P.rf k ≤ R.frames) (hrl : P.rl k ≤ R.locals) (hcells : cells + (H'.length - H.length) ≤ R.cells) (hslots : slots + (hsz P H' - hsz P H) ≤ R.slots) {am : List Addr} {ls : Array Slot} {st : List Value} (hlz : ls.size = P.maxL k) (hL : LR am L ls) (hS : SR am S st) (hH : HR P C Z n0 am H T.heap) (hF : Fr n0 locs) (hn : n0 ≤ T.heap.size) :
    Behind p l e R s m args below meth c P C Z n0 am cells slots T pc ls st pc' L' S' H' (H'.length - H.length) (hsz P H' - hsz P H) := by
  obtain ⟨G1, G2, G3, G4, G5, G6, G7, G8, G9⟩ := G
  obtain ⟨len, hdec, rfl, hlen⟩ := G1 _ _ _ _ hcode
  have hd : decode c.code pc = .ok (i, len) := by rw [hby]; exact hdec
  cases i
  case iload_n n =>
    simp only [step] at h
    obtain rfl := hlen.resolve_left (by simp [ilen])
    cases hl : loadI L n.val with
    | none => simp [hl] at h
    | some x =>
      simp only [hl, Option.some.injEq, Prod.mk.injEq] at h; obtain ⟨rfl, rfl, rfl, rfl⟩ := h
      exact Behind.plain X hL rfl ⟨_, _, rfl, rfl, hS⟩ hH hF hn fun target hr => XS.iloadN X.here hx rfl (g := mkF m pc ls st) hd (hL.int hl) hr
  case iload n =>
    simp only [step] at h
    obtain rfl := hlen.resolve_left (by simp [ilen])
    cases hl : loadI L n with
    | none => simp [hl] at h
    | some x =>
      simp only [hl, Option.some.injEq, Prod.mk.injEq] at h; obtain ⟨rfl, rfl, rfl, rfl⟩ := h
      exact Behind.plain X hL rfl ⟨_, _, rfl, rfl, hS⟩ hH hF hn fun target hr => XS.iload X.here hx rfl (g := mkF m pc ls st) hd (hL.int hl) hr
  case lload_n n =>
    simp only [step] at h
    obtain rfl := hlen.resolve_left (by simp [ilen])
    cases hl : loadJ L n.val with
    | none => simp [hl] at h
    | some x =>
      simp only [hl, Option.some.injEq, Prod.mk.injEq] at h; obtain ⟨rfl, rfl, rfl, rfl⟩ := h
      exact Behind.plain X hL rfl ⟨_, _, rfl, rfl, hS⟩ hH hF hn fun target hr => XS.lloadN X.here hx rfl (g := mkF m pc ls st) hd (hL.long hl) hr
  case lload n =>
    simp only [step] at h
    obtain rfl := hlen.resolve_left (by simp [ilen])
    cases hl : loadJ L n with
    | none => simp [hl] at h
    | some x =>
      simp only [hl, Option.some.injEq, Prod.mk.injEq] at h; obtain ⟨rfl, rfl, rfl, rfl⟩ := h
      exact Behind.plain X hL rfl ⟨_, _, rfl, rfl, hS⟩ hH hF hn fun target hr => XS.lload X.here hx rfl (g := mkF m pc ls st) hd (hL.long hl) hr
  case aload_n n =>
    simp only [step] at h
    obtain rfl := hlen.resolve_left (by simp [ilen])
    cases hl : loadA L n.val with
    | none => simp [hl] at h
    | some x =>
      simp only [hl, Option.some.injEq, Prod.mk.injEq] at h; obtain ⟨rfl, rfl, rfl, rfl⟩ := h
      obtain ⟨a, ha, hl'⟩ := hL.ref hl
      exact Behind.plain X hL rfl ⟨_, _, rfl, ⟨a, ha, rfl⟩, hS⟩ hH hF hn fun target hr => XS.aloadN X.here hx rfl (g := mkF m pc ls st) hd hl' rfl hr
  case aload n =>
    simp only [step] at h
    obtain rfl := hlen.resolve_left (by simp [ilen])
    cases hl : loadA L n with
    | none => simp [hl] at h
    | some x =>
      simp only [hl, Option.some.injEq, Prod.mk.injEq] at h; obtain ⟨rfl, rfl, rfl, rfl⟩ := h
      obtain ⟨a, ha, hl'⟩ := hL.ref hl
      exact Behind.plain X hL rfl ⟨_, _, rfl, ⟨a, ha, rfl⟩, hS⟩ hH hF hn fun target hr => XS.aload X.here hx rfl (g := mkF m pc ls st) hd hl' rfl hr
  case istore_n n =>
    simp only [step] at h
    obtain rfl := hlen.resolve_left (by simp [ilen])
    split at h
    · rename_i x r
      cases hl : lput L n.val (.int x) with
      | none => simp [hl] at h
      | some L2 =>
        simp only [hl, Option.some.injEq, Prod.mk.injEq] at h; obtain ⟨rfl, rfl, rfl, rfl⟩ := h
        obtain ⟨_, _, rfl, rfl, hr'⟩ := hS
        obtain ⟨l', h1, h2, h3⟩ := hL.put (w := .int x) hl rfl rfl
        exact Behind.plain X h3 h2 hr' hH hF hn fun target hr => XS.istoreN X.here hx rfl (g := mkF m pc ls _) hd rfl h1 hr
    · cases h
  case istore n =>
    simp only [step] at h
    obtain rfl := hlen.resolve_left (by simp [ilen])
    split at h
    · rename_i x r
      cases hl : lput L n (.int x) with
      | none => simp [hl] at h
      | some L2 =>
        simp only [hl, Option.some.injEq, Prod.mk.injEq] at h; obtain ⟨rfl, rfl, rfl, rfl⟩ := h
        obtain ⟨_, _, rfl, rfl, hr'⟩ := hS
        obtain ⟨l', h1, h2, h3⟩ := hL.put (w := .int x) hl rfl rfl
        exact Behind.plain X h3 h2 hr' hH hF hn fun target hr => XS.istore X.here hx rfl (g := mkF m pc ls _) hd rfl h1 hr
    · cases h
  case lstore_n n =>
    simp only [step] at h
    obtain rfl := hlen.resolve_left (by simp [ilen])
    split at h
    · rename_i x r
      cases hl : lputL L n.val x with
      | none => simp [hl] at h
      | some L2 =>
        simp only [hl, Option.some.injEq, Prod.mk.injEq] at h; obtain ⟨rfl, rfl, rfl, rfl⟩ := h
        obtain ⟨_, _, rfl, rfl, hr'⟩ := hS
        obtain ⟨l', h1, h2, h3⟩ := hL.putL hl
        exact Behind.plain X h3 h2 hr' hH hF hn fun target hr => XS.lstoreN X.here hx rfl (g := mkF m pc ls _) hd rfl h1 hr
    · cases h
  case lstore n =>
    simp only [step] at h
    obtain rfl := hlen.resolve_left (by simp [ilen])
    split at h
    · rename_i x r
      cases hl : lputL L n x with
      | none => simp [hl] at h
      | some L2 =>
        simp only [hl, Option.some.injEq, Prod.mk.injEq] at h; obtain ⟨rfl, rfl, rfl, rfl⟩ := h
        obtain ⟨_, _, rfl, rfl, hr'⟩ := hS
        obtain ⟨l', h1, h2, h3⟩ := hL.putL hl
        exact Behind.plain X h3 h2 hr' hH hF hn fun target hr => XS.lstore X.here hx rfl (g := mkF m pc ls _) hd rfl h1 hr
    · cases h
  case astore_n n =>
    simp only [step] at h
    obtain rfl := hlen.resolve_left (by simp [ilen])
    split at h
    · rename_i x r
      cases hl : lput L n.val (.ref x) with
      | none => simp [hl] at h
      | some L2 =>
        simp only [hl, Option.some.injEq, Prod.mk.injEq] at h; obtain ⟨rfl, rfl, rfl, rfl⟩ := h
        obtain ⟨_, _, rfl, ⟨a, ha, rfl⟩, hr'⟩ := hS
        obtain ⟨l', h1, h2, h3⟩ := hL.put (w := .ref a) hl ⟨a, ha, rfl⟩ rfl
        exact Behind.plain X h3 h2 hr' hH hF hn fun target hr => XS.astoreN X.here hx rfl (g := mkF m pc ls _) hd rfl rfl h1 hr
    · cases h
  case astore n =>
    simp only [step] at h
    obtain rfl := hlen.resolve_left (by simp [ilen])
    split at h
    · rename_i x r
      cases hl : lput L n (.ref x) with
      | none => simp [hl] at h
      | some L2 =>
        simp only [hl, Option.some.injEq, Prod.mk.injEq] at h; obtain ⟨rfl, rfl, rfl, rfl⟩ := h
        obtain ⟨_, _, rfl, ⟨a, ha, rfl⟩, hr'⟩ := hS
        obtain ⟨l', h1, h2, h3⟩ := hL.put (w := .ref a) hl ⟨a, ha, rfl⟩ rfl
        exact Behind.plain X h3 h2 hr' hH hF hn fun target hr => XS.astore X.here hx rfl (g := mkF m pc ls _) hd rfl rfl h1 hr
    · cases h
  case iinc n cst =>
    simp only [step] at h
    obtain rfl := hlen.resolve_left (by simp [ilen])
    cases hl : loadI L n with
    | none => simp [hl] at h
    | some x =>
      cases hp : lput L n (.int (x + Int32.ofInt cst)) with
      | none => simp [hl, hp] at h
      | some L2 =>
        simp only [hl, hp, Option.some.injEq, Prod.mk.injEq] at h; obtain ⟨rfl, rfl, rfl, rfl⟩ := h
        obtain ⟨l', h1, h2, h3⟩ := hL.put (w := .int (x + Int32.ofInt cst)) hp rfl rfl
        exact Behind.plain X h3 h2 hS hH hF hn fun target hr => XS.iinc X.here hx rfl (g := mkF m pc ls st) hd (hL.int hl) h1 hr
  case iconst q =>
    simp only [step] at h
    obtain rfl := hlen.resolve_left (by simp [ilen])
    simp only [Option.some.injEq, Prod.mk.injEq] at h; obtain ⟨rfl, rfl, rfl, rfl⟩ := h
    exact Behind.plain X hL rfl ⟨_, _, rfl, rfl, hS⟩ hH hF hn fun target hr => XS.iconst X.here hx rfl (g := mkF m pc ls st) hd hr
  case bipush q =>
    simp only [step] at h
    obtain rfl := hlen.resolve_left (by simp [ilen])
    simp only [Option.some.injEq, Prod.mk.injEq] at h; obtain ⟨rfl, rfl, rfl, rfl⟩ := h
    exact Behind.plain X hL rfl ⟨_, _, rfl, rfl, hS⟩ hH hF hn fun target hr => XS.bipush X.here hx rfl (g := mkF m pc ls st) hd hr
  case sipush q =>
    simp only [step] at h
    obtain rfl := hlen.resolve_left (by simp [ilen])
    simp only [Option.some.injEq, Prod.mk.injEq] at h; obtain ⟨rfl, rfl, rfl, rfl⟩ := h
    exact Behind.plain X hL rfl ⟨_, _, rfl, rfl, hS⟩ hH hF hn fun target hr => XS.sipush X.here hx rfl (g := mkF m pc ls st) hd hr
  case lconst q =>
    simp only [step] at h
    obtain rfl := hlen.resolve_left (by simp [ilen])
    simp only [Option.some.injEq, Prod.mk.injEq] at h; obtain ⟨rfl, rfl, rfl, rfl⟩ := h
    exact Behind.plain X hL rfl ⟨_, _, rfl, rfl, hS⟩ hH hF hn fun target hr => XS.lconst X.here hx rfl (g := mkF m pc ls st) hd hr
  case ldc j =>
    simp only [step] at h
    obtain rfl := hlen.resolve_left (by simp [ilen])
    split at h
    · rename_i x hk
      simp only [Option.some.injEq, Prod.mk.injEq] at h; obtain ⟨rfl, rfl, rfl, rfl⟩ := h
      have w := G5 _ _ _ hk
      exact Behind.plain X hL rfl ⟨_, _, rfl, rfl, hS⟩ hH hF hn fun target hr => X.ldcInt hx hown (mvT hZ w) (g := mkF m pc ls st) rfl hd _ hr
    · cases h
  case ldc2_w j =>
    simp only [step] at h
    obtain rfl := hlen.resolve_left (by simp [ilen])
    split at h
    · rename_i x hk
      simp only [Option.some.injEq, Prod.mk.injEq] at h; obtain ⟨rfl, rfl, rfl, rfl⟩ := h
      have w := G5 _ _ _ hk
      exact Behind.plain X hL rfl ⟨_, _, rfl, rfl, hS⟩ hH hF hn fun target hr => X.ldc2Long hx hown (mvT hZ w) (g := mkF m pc ls st) rfl hd _ hr
    · cases h
  case idiv =>
    simp only [step] at h
    obtain rfl := hlen.resolve_left (by simp [ilen])
    split at h
    · rename_i y x r
      by_cases hy : y = 0
      · simp [hy] at h
      · simp only [hy, decide_false, cond_false, Option.some.injEq, Prod.mk.injEq] at h; obtain ⟨rfl, rfl, rfl, rfl⟩ := h
        obtain ⟨_, _, rfl, rfl, _, _, rfl, rfl, hr'⟩ := hS
        exact Behind.plain X hL rfl ⟨_, _, rfl, rfl, hr'⟩ hH hF hn fun target hr => XS.idiv X.here hx rfl (g := mkF m pc ls _) hd rfl hy hr
    · cases h
  case irem =>
    simp only [step] at h
    obtain rfl := hlen.resolve_left (by simp [ilen])
    split at h
    · rename_i y x r
      by_cases hy : y = 0
      · simp [hy] at h
      · simp only [hy, decide_false, cond_false, Option.some.injEq, Prod.mk.injEq] at h; obtain ⟨rfl, rfl, rfl, rfl⟩ := h
        obtain ⟨_, _, rfl, rfl, _, _, rfl, rfl, hr'⟩ := hS
        exact Behind.plain X hL rfl ⟨_, _, rfl, rfl, hr'⟩ hH hF hn fun target hr => iremM X hx rfl (g := mkF m pc ls _) hd rfl hy hr
    · cases h
  case lshl =>
    simp only [step] at h
    obtain rfl := hlen.resolve_left (by simp [ilen])
    split at h
    · rename_i y x r
      simp only [Option.some.injEq, Prod.mk.injEq] at h; obtain ⟨rfl, rfl, rfl, rfl⟩ := h
      obtain ⟨_, _, rfl, rfl, _, _, rfl, rfl, hr'⟩ := hS
      exact Behind.plain X hL rfl ⟨_, _, rfl, rfl, hr'⟩ hH hF hn fun target hr => XS.lshl X.here hx rfl (g := mkF m pc ls _) hd rfl hr
    · cases h
  case lushr =>
    simp only [step] at h
    obtain rfl := hlen.resolve_left (by simp [ilen])
    split at h
    · rename_i y x r
      simp only [Option.some.injEq, Prod.mk.injEq] at h; obtain ⟨rfl, rfl, rfl, rfl⟩ := h
      obtain ⟨_, _, rfl, rfl, _, _, rfl, rfl, hr'⟩ := hS
      exact Behind.plain X hL rfl ⟨_, _, rfl, rfl, hr'⟩ hH hF hn fun target hr => XS.lushr X.here hx rfl (g := mkF m pc ls _) hd rfl hr
    · cases h
  case lcmp =>
    simp only [step] at h
    obtain rfl := hlen.resolve_left (by simp [ilen])
    split at h
    · rename_i y x r
      simp only [Option.some.injEq, Prod.mk.injEq] at h; obtain ⟨rfl, rfl, rfl, rfl⟩ := h
      obtain ⟨_, _, rfl, rfl, _, _, rfl, rfl, hr'⟩ := hS
      exact Behind.plain X hL rfl ⟨_, _, rfl, rfl, hr'⟩ hH hF hn fun target hr => XS.lcmp X.here hx rfl (g := mkF m pc ls _) hd rfl hr
    · cases h
  case lneg =>
    simp only [step] at h
    obtain rfl := hlen.resolve_left (by simp [ilen])
    split at h
    · rename_i x r
      simp only [Option.some.injEq, Prod.mk.injEq] at h; obtain ⟨rfl, rfl, rfl, rfl⟩ := h
      obtain ⟨_, _, rfl, rfl, hr'⟩ := hS
      exact Behind.plain X hL rfl ⟨_, _, rfl, rfl, hr'⟩ hH hF hn fun target hr => XS.lneg X.here hx rfl (g := mkF m pc ls _) hd rfl hr
    · cases h
  case i2l =>
    simp only [step] at h
    obtain rfl := hlen.resolve_left (by simp [ilen])
    split at h
    · rename_i x r
      simp only [Option.some.injEq, Prod.mk.injEq] at h; obtain ⟨rfl, rfl, rfl, rfl⟩ := h
      obtain ⟨_, _, rfl, rfl, hr'⟩ := hS
      exact Behind.plain X hL rfl ⟨_, _, rfl, rfl, hr'⟩ hH hF hn fun target hr => XS.i2l X.here hx rfl (g := mkF m pc ls _) hd rfl hr
    · cases h
  case l2i =>
    simp only [step] at h
    obtain rfl := hlen.resolve_left (by simp [ilen])
    split at h
    · rename_i x r
      simp only [Option.some.injEq, Prod.mk.injEq] at h; obtain ⟨rfl, rfl, rfl, rfl⟩ := h
      obtain ⟨_, _, rfl, rfl, hr'⟩ := hS
      exact Behind.plain X hL rfl ⟨_, _, rfl, rfl, hr'⟩ hH hF hn fun target hr => XS.l2i X.here hx rfl (g := mkF m pc ls _) hd rfl hr
    · cases h
  case i2b =>
    simp only [step] at h
    obtain rfl := hlen.resolve_left (by simp [ilen])
    split at h
    · rename_i x r
      simp only [Option.some.injEq, Prod.mk.injEq] at h; obtain ⟨rfl, rfl, rfl, rfl⟩ := h
      obtain ⟨_, _, rfl, rfl, hr'⟩ := hS
      exact Behind.plain X hL rfl ⟨_, _, rfl, rfl, hr'⟩ hH hF hn fun target hr => XS.i2b X.here hx rfl (g := mkF m pc ls _) hd rfl hr
    · cases h
  case dup =>
    simp only [step] at h
    obtain rfl := hlen.resolve_left (by simp [ilen])
    split at h
    · rename_i x r
      simp only [Option.some.injEq, Prod.mk.injEq] at h; obtain ⟨rfl, rfl, rfl, rfl⟩ := h
      obtain ⟨_, _, rfl, ⟨a, ha, rfl⟩, hr'⟩ := hS
      exact Behind.plain X hL rfl ⟨_, _, rfl, ⟨a, ha, rfl⟩, _, _, rfl, ⟨a, ha, rfl⟩, hr'⟩ hH hF hn fun target hr => XS.dup X.here hx rfl (g := mkF m pc ls _) hd rfl rfl hr
    · rename_i x r
      simp only [Option.some.injEq, Prod.mk.injEq] at h; obtain ⟨rfl, rfl, rfl, rfl⟩ := h
      obtain ⟨_, _, rfl, rfl, hr'⟩ := hS
      exact Behind.plain X hL rfl ⟨_, _, rfl, rfl, _, _, rfl, rfl, hr'⟩ hH hF hn fun target hr => XS.dup X.here hx rfl (g := mkF m pc ls _) hd rfl rfl hr
    · cases h
  case dup2 =>
    simp only [step] at h
    obtain rfl := hlen.resolve_left (by simp [ilen])
    split at h
    · rename_i x y r
      simp only [Option.some.injEq, Prod.mk.injEq] at h; obtain ⟨rfl, rfl, rfl, rfl⟩ := h
      obtain ⟨_, _, rfl, rfl, _, _, rfl, ⟨a, ha, rfl⟩, hr'⟩ := hS
      exact Behind.plain X hL rfl ⟨_, _, rfl, rfl, _, _, rfl, ⟨a, ha, rfl⟩, _, _, rfl, rfl, _, _, rfl, ⟨a, ha, rfl⟩, hr'⟩ hH hF hn fun target hr => XT.dup2 X.here hx rfl (g := mkF m pc ls _) hd rfl rfl rfl hr
    · cases h
  case pop =>
    simp only [step] at h
    obtain rfl := hlen.resolve_left (by simp [ilen])
    split at h
    · rename_i x r
      simp only [Option.some.injEq, Prod.mk.injEq] at h; obtain ⟨rfl, rfl, rfl, rfl⟩ := h
      obtain ⟨_, _, rfl, rfl, hr'⟩ := hS
      exact Behind.plain X hL rfl hr' hH hF hn fun target hr => XS.pop X.here hx rfl (g := mkF m pc ls _) hd rfl rfl hr
    · rename_i x r
      simp only [Option.some.injEq, Prod.mk.injEq] at h; obtain ⟨rfl, rfl, rfl, rfl⟩ := h
      obtain ⟨_, _, rfl, ⟨a, ha, rfl⟩, hr'⟩ := hS
      exact Behind.plain X hL rfl hr' hH hF hn fun target hr => XS.pop X.here hx rfl (g := mkF m pc ls _) hd rfl rfl hr
    · cases h
  case goto o =>
    simp only [step] at h
    obtain rfl := hlen.resolve_left (by simp [ilen])
    cases ht : tgt pc o with
    | none => simp [ht] at h
    | some t =>
      simp only [ht, Option.some.injEq, Prod.mk.injEq] at h; obtain ⟨rfl, rfl, rfl, rfl⟩ := h
      exact Behind.plain X hL rfl hS hH hF hn fun target hr => XS.goto X.here hx rfl (g := mkF m pc ls st) (pc0 := pc) rfl hd (tgt_spec ht).1 (tgt_spec ht).2 hr
  case ifCond cd o =>
    simp only [step] at h
    obtain rfl := hlen.resolve_left (by simp [ilen])
    split at h
    · rename_i x r
      obtain ⟨_, _, rfl, rfl, hr'⟩ := hS
      cases hc : if_icmp.holds cd x 0
      · simp only [hc, cond_false, Option.some.injEq, Prod.mk.injEq] at h; obtain ⟨rfl, rfl, rfl, rfl⟩ := h
        exact Behind.plain X hL rfl hr' hH hF hn fun target hr => XS.ifNo X.here hx rfl (g := mkF m pc ls _) hd rfl ((if0 _ _).trans hc) hr
      · cases ht : tgt pc o with
        | none => simp [hc, ht] at h
        | some t =>
          simp only [hc, ht, cond_true, Option.some.injEq, Prod.mk.injEq] at h; obtain ⟨rfl, rfl, rfl, rfl⟩ := h
          exact Behind.plain X hL rfl hr' hH hF hn fun target hr => XS.ifYes X.here hx rfl (g := mkF m pc ls _) (pc0 := pc) rfl hd rfl ((if0 _ _).trans hc) (tgt_spec ht).1 (tgt_spec ht).2 hr
    · cases h
  case if_icmp cd o =>
    simp only [step] at h
    obtain rfl := hlen.resolve_left (by simp [ilen])
    split at h
    · rename_i y x r
      obtain ⟨_, _, rfl, rfl, _, _, rfl, rfl, hr'⟩ := hS
      cases hc : if_icmp.holds cd x y
      · simp only [hc, cond_false, Option.some.injEq, Prod.mk.injEq] at h; obtain ⟨rfl, rfl, rfl, rfl⟩ := h
        exact Behind.plain X hL rfl hr' hH hF hn fun target hr => XS.icmpNo X.here hx rfl (g := mkF m pc ls _) hd rfl hc hr
      · cases ht : tgt pc o with
        | none => simp [hc, ht] at h
        | some t =>
          simp only [hc, ht, cond_true, Option.some.injEq, Prod.mk.injEq] at h; obtain ⟨rfl, rfl, rfl, rfl⟩ := h
          exact Behind.plain X hL rfl hr' hH hF hn fun target hr => XS.icmpYes X.here hx rfl (g := mkF m pc ls _) (pc0 := pc) rfl hd rfl hc (tgt_spec ht).1 (tgt_spec ht).2 hr
    · cases h
  case tableswitch d lo hi offs =>
    simp only [step] at h
    split at h
    · rename_i x r
      obtain ⟨_, _, rfl, rfl, hr'⟩ := hS
      by_cases ho : x.toInt < lo ∨ x.toInt > hi
      · have ho' : (decide (x.toInt < lo) || decide (x.toInt > hi)) = true := by simpa using ho
        cases ht : tgt pc d with
        | none => simp [ho', ht] at h
        | some t =>
          simp only [ho', ht, cond_true, Option.some.injEq, Prod.mk.injEq] at h; obtain ⟨rfl, rfl, rfl, rfl⟩ := h
          exact Behind.plain X hL rfl hr' hH hF hn fun target hr => XS.tswOut X.here hx rfl (g := mkF m pc ls _) (pc0 := pc) rfl hd rfl ho (tgt_spec ht).1 (tgt_spec ht).2 hr
      · have ho' : (decide (x.toInt < lo) || decide (x.toInt > hi)) = false := by simpa using ho
        cases hq : offs.toList[(x.toInt - lo).toNat]? with
        | none => simp [ho', hq] at h
        | some o =>
          cases ht : tgt pc o with
          | none => simp [ho', hq, ht] at h
          | some t =>
            simp only [ho', hq, ht, cond_false, Option.some.injEq, Prod.mk.injEq] at h; obtain ⟨rfl, rfl, rfl, rfl⟩ := h
            exact Behind.plain X hL rfl hr' hH hF hn fun target hr => XS.tswIn X.here hx rfl (g := mkF m pc ls _) (pc0 := pc) rfl hd rfl ho (by rw [← Array.getElem?_toList]; exact hq) (tgt_spec ht).1 (tgt_spec ht).2 hr
    · cases h
  case getfield j =>
    simp only [step] at h
    obtain rfl := hlen.resolve_left (by simp [ilen])
    split at h
    · rename_i a r
      obtain ⟨_, _, rfl, ⟨b, hb, rfl⟩, hr'⟩ := hS
      cases hf : P.fld (P.cls k) j with
      | none => simp [hf] at h
      | some f =>
        cases hg : getC H a f with
        | none => simp [hf, hg] at h
        | some v =>
          simp only [hf, hg, Option.some.injEq, Prod.mk.injEq] at h; obtain ⟨rfl, rfl, rfl, rfl⟩ := h
          obtain ⟨n, d, t, fin, g1, g2⟩ := G2 _ _ _ hf
          unfold getC at hg
          split at hg
          · rename_i fs hfs
            obtain ⟨b', e1, e2, e3, e4⟩ := hH.2.2.2 _ _ hfs
            cases hb.symm.trans e1
            obtain ⟨w, e5, e6⟩ := e4 _ _ _ _ _ _ hg g1
            obtain ⟨T2, X2, e7, s2⟩ := getF X hx hZ hown (host := "") (Or.inl g2) Via.refl rfl e6 (g := mkF m pc ls _) rfl rfl hd
            exact Behind.plain' X2 e7 hL rfl ⟨w, _, rfl, e5, hr'⟩ hH hF hn s2
          · cases hg
    · cases h
  case putfield j =>
    simp only [step] at h
    obtain rfl := hlen.resolve_left (by simp [ilen])
    split at h
    · rename_i v a r
      obtain ⟨w0, _, rfl, hv0, _, _, rfl, ⟨b, hb, rfl⟩, hr'⟩ := hS
      cases hf : P.fld (P.cls k) j with
      | none => simp [hf] at h
      | some f =>
        obtain ⟨n, d, t, fin, g1, g2⟩ := G2 _ _ _ hf
        simp only [hf, g1] at h
        cases hq : (!fin || P.ini k) && Nat.ble P.ro a
        · simp [hq] at h
        · simp only [hq, cond_true] at h
          cases hv : conv t v with
          | none => simp [hv] at h
          | some v' =>
            simp only [hv] at h
            split at h
            · rename_i fs hfs
              cases hz : Nat.ble (f + 1) fs.length
              · simp [hz] at h
              · simp only [hz, cond_true, Option.some.injEq, Prod.mk.injEq] at h; obtain ⟨rfl, rfl, rfl, rfl⟩ := h
                obtain ⟨b', e1, e2, e3, e4⟩ := hH.2.2.2 _ _ hfs
                cases hb.symm.trans e1
                simp only [Bool.and_eq_true, Bool.or_eq_true, Bool.not_eq_true'] at hq
                have hro : P.ro ≤ a := Nat.le_of_ble_eq_true hq.2
                have hfl : f < fs.length := Nat.le_of_ble_eq_true hz
                obtain ⟨l1, ty, l2, l3, l4⟩ := G3 _ _ _ _ _ g1
                obtain ⟨w, hw, hnw, hfw⟩ : ∃ w, VR am v' w ∧ narrow ty w0 = w ∧ fits ty w = true := by
                  unfold conv at hv
                  split at hv
                  · cases hv; cases hv0; cases ty <;> simp only [tyOk, Bool.false_eq_true] at l3; exact ⟨_, rfl, rfl, rfl⟩
                  · cases hv; cases hv0; cases ty <;> simp only [tyOk, Bool.false_eq_true] at l3; exact ⟨_, rfl, rfl, fits_nar_bool _⟩
                  · cases hv; cases hv0; cases ty <;> simp only [tyOk, Bool.false_eq_true] at l3; exact ⟨_, rfl, rfl, rfl⟩
                  · cases hv; obtain ⟨z, hz1, rfl⟩ := hv0; cases ty <;> simp only [tyOk, Bool.false_eq_true] at l3; exact ⟨_, ⟨z, hz1, rfl⟩, rfl, rfl⟩
                  · cases hv
                obtain ⟨old, o1, o2⟩ := e4 f _ _ _ _ _ (List.getElem?_eq_getElem hfl) g1
                have hfin : (Cond.lays C C n d).before a0 Z = true ∨ ((Cond.laysFinal C C n d).before a0 Z = true ∧ cn (P.cls k) = C ∧ meth.name = "<init>") := by
                  cases fin
                  · exact Or.inl l1
                  · obtain ⟨q1, q2⟩ := hini (by simpa using hq.1); exact Or.inr ⟨l1, q2, q1⟩
                obtain ⟨T2, h2, X2, e7, W2, s2⟩ := putFN X hx hZ hown g2 Via.refl rfl o2 e2 hfin G6 l2 hnw hfw (g := mkF m pc ls _) rfl rfl hd
                refine Behind.write (T' := T2) X2 e7 W2 hL hr' hH hb hro hfs rfl ?_ hF hn s2
                refine ⟨e2.wr W2, by rw [List.length_set]; exact e3, fun j' u n' d' t' f' q1 q2 => ?_⟩
                rw [List.getElem?_set] at q1
                by_cases ej : f = j'
                · subst ej
                  rw [if_pos rfl, if_pos hfl] at q1
                  cases q1
                  rw [g1] at q2; cases q2
                  exact ⟨w, hw, o2.same W2⟩
                · rw [if_neg ej] at q1
                  obtain ⟨w', y1, y2⟩ := e4 _ _ _ _ _ _ q1 q2
                  obtain ⟨l1', ty', l2', -, -⟩ := G3 _ _ _ _ _ q2
                  have hl1 : Laid Z a0 C C n d := by cases fin; exact Or.inl l1; exact Or.inr l1
                  have hl2 : Laid Z a0 C C n' d' := by cases f'; exact Or.inl l1'; exact Or.inr l1'
                  exact ⟨w', y1, y2.other W2 (Or.inr (slot_ne hl2 hl1 (G4 _ _ _ _ _ _ _ _ _ _ q2 g1 (Ne.symm ej)) l2' l2))⟩
            · cases h
    · cases h
  case iaload =>
    simp only [step] at h
    obtain rfl := hlen.resolve_left (by simp [ilen])
    split at h
    · rename_i j a r
      obtain ⟨_, _, rfl, rfl, _, _, rfl, ⟨b, hb, rfl⟩, hr'⟩ := hS
      split at h
      · rename_i xs hxs
        cases hj : inb xs.length j
        · simp [hj] at h
        · simp only [hj, cond_true, Option.some.injEq, Prod.mk.injEq] at h; obtain ⟨rfl, rfl, rfl, rfl⟩ := h
          obtain ⟨b', e1, cl, A1, A2, A3⟩ := hH.2.2.2 _ _ hxs
          cases hb.symm.trans e1
          have hin := inb_spec hj
          rw [← A2] at hin
          exact Behind.plain X hL rfl ⟨_, _, rfl, rfl, hr'⟩ hH hF hn fun target hr => X.iaload hx A1.1 (State.isArrayOf_alike hZ.alike A1.2.1) A1.2.2 hin (A3 _ _ (rd_at hj)) (g := mkF m pc ls _) rfl rfl hd _ hr
      · rename_i xs hxs
        cases hj : inb xs.length j
        · simp [hj] at h
        · simp only [hj, cond_true, Option.some.injEq, Prod.mk.injEq] at h; obtain ⟨rfl, rfl, rfl, rfl⟩ := h
          obtain ⟨b', e1, cl, A1, A2, A3⟩ := hH.2.2.2 _ _ hxs
          cases hb.symm.trans e1
          have hin := inb_spec hj
          rw [← A2] at hin
          exact Behind.plain X hL rfl ⟨_, _, rfl, rfl, hr'⟩ hH hF hn fun target hr => X.iaload hx A1.1 (State.isArrayOf_alike hZ.alike A1.2.1) A1.2.2 hin (A3 _ _ (rd_at hj)) (g := mkF m pc ls _) rfl rfl hd _ hr
      · cases h
    · cases h
  case baload =>
    simp only [step] at h
    obtain rfl := hlen.resolve_left (by simp [ilen])
    split at h
    · rename_i j a r
      obtain ⟨_, _, rfl, rfl, _, _, rfl, ⟨b, hb, rfl⟩, hr'⟩ := hS
      split at h
      · rename_i xs hxs
        cases hj : inb xs.length j
        · simp [hj] at h
        · simp only [hj, cond_true, Option.some.injEq, Prod.mk.injEq] at h; obtain ⟨rfl, rfl, rfl, rfl⟩ := h
          obtain ⟨b', e1, cl, A1, A2, A3⟩ := hH.2.2.2 _ _ hxs
          cases hb.symm.trans e1
          have hin := inb_spec hj
          rw [← A2] at hin
          exact Behind.plain X hL rfl ⟨_, _, rfl, rfl, hr'⟩ hH hF hn fun target hr => X.baloadBooleans hx A1.1 (State.isArrayOf_alike hZ.alike A1.2.1) A1.2.2 hin (A3 _ _ (rd_at hj)) (g := mkF m pc ls _) rfl rfl hd _ hr
      · rename_i xs hxs
        cases hj : inb xs.length j
        · simp [hj] at h
        · simp only [hj, cond_true, Option.some.injEq, Prod.mk.injEq] at h; obtain ⟨rfl, rfl, rfl, rfl⟩ := h
          obtain ⟨b', e1, cl, A1, A2, A3⟩ := hH.2.2.2 _ _ hxs
          cases hb.symm.trans e1
          have hin := inb_spec hj
          rw [← A2] at hin
          exact Behind.plain X hL rfl ⟨_, _, rfl, rfl, hr'⟩ hH hF hn fun target hr => X.baloadBytes hx A1.1 (State.isArrayOf_alike hZ.alike A1.2.1) A1.2.2 hin (A3 _ _ (rd_at hj)) (g := mkF m pc ls _) rfl rfl hd _ hr
      · cases h
    · cases h
  case laload =>
    simp only [step] at h
    obtain rfl := hlen.resolve_left (by simp [ilen])
    split at h
    · rename_i j a r
      obtain ⟨_, _, rfl, rfl, _, _, rfl, ⟨b, hb, rfl⟩, hr'⟩ := hS
      split at h
      · rename_i xs hxs
        cases hj : inb xs.length j
        · simp [hj] at h
        · simp only [hj, cond_true, Option.some.injEq, Prod.mk.injEq] at h; obtain ⟨rfl, rfl, rfl, rfl⟩ := h
          obtain ⟨b', e1, cl, A1, A2, A3⟩ := hH.2.2.2 _ _ hxs
          cases hb.symm.trans e1
          have hin := inb_spec hj
          rw [← A2] at hin
          exact Behind.plain X hL rfl ⟨_, _, rfl, rfl, hr'⟩ hH hF hn fun target hr => X.laload hx A1.1 (State.isArrayOf_alike hZ.alike A1.2.1) A1.2.2 hin (A3 _ _ (rdL_at hj)) (g := mkF m pc ls _) rfl rfl hd _ hr
      · cases h
    · cases h
  case iastore =>
    simp only [step] at h
    obtain rfl := hlen.resolve_left (by simp [ilen])
    split at h
    · rename_i x j a r
      obtain ⟨_, _, rfl, rfl, _, _, rfl, rfl, _, _, rfl, ⟨b, hb, rfl⟩, hr'⟩ := hS
      cases hq : Nat.ble P.ro a
      · simp [hq] at h
      · simp only [hq, cond_true] at h
        have hro : P.ro ≤ a := Nat.le_of_ble_eq_true hq
        split at h
        · rename_i xs hxs
          cases hj : inb xs.length j
          · simp [hj] at h
          · simp only [hj, cond_true, Option.some.injEq, Prod.mk.injEq] at h; obtain ⟨rfl, rfl, rfl, rfl⟩ := h
            obtain ⟨b', e1, hcr⟩ := hH.2.2.2 _ _ hxs
            cases hb.symm.trans e1
            have hcr0 := hcr
            obtain ⟨cl, A1, A2, A3⟩ := hcr0
            have hin := inb_spec hj
            rw [← A2] at hin
            obtain ⟨T2, h2, X2, e7, W2, s2⟩ := stI X hx hZ rfl A1 hin (g := mkF m pc ls _) rfl rfl hd
            exact Behind.write (T' := T2) X2 e7 W2 hL hr' hH hb hro hxs (by simp [csz, wr, wrL]) (CR.wrI W2 hcr) hF hn s2
        · cases h
    · cases h
  case bastore =>
    simp only [step] at h
    obtain rfl := hlen.resolve_left (by simp [ilen])
    split at h
    · rename_i x j a r
      obtain ⟨_, _, rfl, rfl, _, _, rfl, rfl, _, _, rfl, ⟨b, hb, rfl⟩, hr'⟩ := hS
      cases hq : Nat.ble P.ro a
      · simp [hq] at h
      · simp only [hq, cond_true] at h
        have hro : P.ro ≤ a := Nat.le_of_ble_eq_true hq
        split at h
        · rename_i xs hxs
          cases hj : inb xs.length j
          · simp [hj] at h
          · simp only [hj, cond_true, Option.some.injEq, Prod.mk.injEq] at h; obtain ⟨rfl, rfl, rfl, rfl⟩ := h
            obtain ⟨b', e1, hcr⟩ := hH.2.2.2 _ _ hxs
            cases hb.symm.trans e1
            have hcr0 := hcr
            obtain ⟨cl, A1, A2, A3⟩ := hcr0
            have hin := inb_spec hj
            rw [← A2] at hin
            obtain ⟨T2, h2, X2, e7, W2, s2⟩ := stZ X hx hZ rfl A1 hin (g := mkF m pc ls _) rfl rfl hd
            exact Behind.write (T' := T2) X2 e7 W2 hL hr' hH hb hro hxs (by simp [csz, wr, wrL]) (CR.wrI W2 hcr) hF hn s2
        · rename_i xs hxs
          cases hj : inb xs.length j
          · simp [hj] at h
          · simp only [hj, cond_true, Option.some.injEq, Prod.mk.injEq] at h; obtain ⟨rfl, rfl, rfl, rfl⟩ := h
            obtain ⟨b', e1, hcr⟩ := hH.2.2.2 _ _ hxs
            cases hb.symm.trans e1
            have hcr0 := hcr
            obtain ⟨cl, A1, A2, A3⟩ := hcr0
            have hin := inb_spec hj
            rw [← A2] at hin
            obtain ⟨T2, h2, X2, e7, W2, s2⟩ := stB X hx hZ rfl A1 hin (g := mkF m pc ls _) rfl rfl hd
            exact Behind.write (T' := T2) X2 e7 W2 hL hr' hH hb hro hxs (by simp [csz, wr, wrL]) (CR.wrI W2 hcr) hF hn s2
        · cases h
    · cases h
  case lastore =>
    simp only [step] at h
    obtain rfl := hlen.resolve_left (by simp [ilen])
    split at h
    · rename_i x j a r
      obtain ⟨_, _, rfl, rfl, _, _, rfl, rfl, _, _, rfl, ⟨b, hb, rfl⟩, hr'⟩ := hS
      cases hq : Nat.ble P.ro a
      · simp [hq] at h
      · simp only [hq, cond_true] at h
        have hro : P.ro ≤ a := Nat.le_of_ble_eq_true hq
        split at h
        · rename_i xs hxs
          cases hj : inb xs.length j
          · simp [hj] at h
          · simp only [hj, cond_true, Option.some.injEq, Prod.mk.injEq] at h; obtain ⟨rfl, rfl, rfl, rfl⟩ := h
            obtain ⟨b', e1, hcr⟩ := hH.2.2.2 _ _ hxs
            cases hb.symm.trans e1
            have hcr0 := hcr
            obtain ⟨cl, A1, A2, A3⟩ := hcr0
            have hin := inb_spec hj
            rw [← A2] at hin
            obtain ⟨T2, h2, X2, e7, W2, s2⟩ := stJ X hx hZ rfl A1 hin (g := mkF m pc ls _) rfl rfl hd
            exact Behind.write (T' := T2) X2 e7 W2 hL hr' hH hb hro hxs (by simp [csz, wr, wrL]) (CR.wrJ W2 hcr) hF hn s2
        · cases h
    · cases h
  case arraylength =>
    simp only [step] at h
    obtain rfl := hlen.resolve_left (by simp [ilen])
    split at h
    · rename_i a r
      obtain ⟨_, _, rfl, ⟨b, hb, rfl⟩, hr'⟩ := hS
      split at h
      · rename_i t xs hxs
        simp only [Option.some.injEq, Prod.mk.injEq] at h; obtain ⟨rfl, rfl, rfl, rfl⟩ := h
        obtain ⟨b', e1, cl, A1, A2, A3⟩ := hH.2.2.2 _ _ hxs
        cases hb.symm.trans e1
        exact Behind.plain X hL rfl ⟨_, _, rfl, rfl, hr'⟩ hH hF hn fun target hr => X.arraylength hx A1.1 (State.isArrayOf_alike hZ.alike A1.2.1) (g := mkF m pc ls _) rfl rfl hd _ (by rw [A2]; exact hr)
      · rename_i xs hxs
        simp only [Option.some.injEq, Prod.mk.injEq] at h; obtain ⟨rfl, rfl, rfl, rfl⟩ := h
        obtain ⟨b', e1, cl, A1, A2, A3⟩ := hH.2.2.2 _ _ hxs
        cases hb.symm.trans e1
        exact Behind.plain X hL rfl ⟨_, _, rfl, rfl, hr'⟩ hH hF hn fun target hr => X.arraylength hx A1.1 (State.isArrayOf_alike hZ.alike A1.2.1) (g := mkF m pc ls _) rfl rfl hd _ (by rw [A2]; exact hr)
      · cases h
    · cases h
  case newarray t =>
    simp only [step] at h
    obtain rfl := hlen.resolve_left (by simp [ilen])
    split at h
    · rename_i n r
      obtain ⟨_, _, rfl, rfl, hr'⟩ := hS
      cases ht : atyOf t with
      | none => simp [ht] at h
      | some q =>
        simp only [ht] at h
        cases hq : (!(decide (n < 0)) && Nat.ble n.toNatClampNeg 60000 && Nat.ble (H.length + 1) P.capC && Nat.ble (hsz P H + n.toNatClampNeg) P.capS)
        · simp [hq] at h
        · simp only [hq, cond_true, Option.some.injEq, Prod.mk.injEq] at h; obtain ⟨rfl, rfl, rfl, rfl⟩ := h
          simp only [Bool.and_eq_true, Bool.not_eq_true', decide_eq_false_iff_not] at hq
          have hcap : n.toNatClampNeg ≤ 60000 := Nat.le_of_ble_eq_true hq.1.1.2
          have hq1 := hq.1.1.1
          have d1 : (H ++ [newC q n.toNatClampNeg]).length - H.length = 1 := by simp
          have d2 : hsz P (H ++ [newC q n.toNatClampNeg]) - hsz P H = n.toNatClampNeg := by rw [hsz_app, csz_new _ _ ht]; omega
          rw [d1] at hcells ⊢; rw [d2] at hslots ⊢
          obtain ⟨T2, h2, cA, X2, e7, E2, A2, s2⟩ := newP X hx hZ (G8 _ _ _ _ hcode) rfl (g := mkF m pc ls _) rfl hd rfl hq1 (cap := n.toNatClampNeg) (Nat.le_refl _) (by omega) hcells hslots
          have hlt : T.heap.size < h2.size := A2.lt
          have hm' := hH.1
          refine ⟨T2, am ++ [T.heap.size], ls, _, locs, X2, hL.mono (Pre.app _ _), rfl, ⟨_, _, rfl, ⟨T.heap.size, by rw [← hm']; simp, rfl⟩, hr'.mono (Pre.app _ _)⟩, by rw [e7]; exact hH.push E2 hlt hn (arr_new ht hq1 A2), Pre.app _ _, hF, by rw [e7]; omega, s2⟩
    · cases h
  case new j =>
    simp only [step] at h
    obtain rfl := hlen.resolve_left (by simp [ilen])
    split at h
    · rename_i q hk
      rw [Bool.cond_eq_ite] at h
      split at h
      case isFalse => cases h
      simp only [Option.some.injEq, Prod.mk.injEq] at h; obtain ⟨rfl, rfl, rfl, rfl⟩ := h
      have w := G9 _ _ _ _ hk
      have d1 : (H ++ [Sum.inl P.fresh]).length - H.length = 1 := by simp
      have d2 : hsz P (H ++ [Sum.inl P.fresh]) - hsz P H = P.objN := by rw [hsz_app]; simp [csz]
      rw [d1] at hcells ⊢; rw [d2] at hslots ⊢
      obtain ⟨T2, h2, X2, e7, E2, A2, D2, -, s2⟩ := newO X hx hZ hown w G6 G7 rfl (g := mkF m pc ls st) rfl hd hcells hslots
      have hlt : T.heap.size < h2.size := A2.lt
      have hm' := hH.1
      refine ⟨T2, am ++ [T.heap.size], ls, _, locs, X2, hL.mono (Pre.app _ _), rfl, ⟨_, _, rfl, ⟨T.heap.size, by rw [← hm']; simp, rfl⟩, hS.mono (Pre.app _ _)⟩, ?_, Pre.app _ _, hF, by rw [e7]; omega, s2⟩
      rw [e7]
      refine hH.push E2 hlt hn ⟨A2, by simp [Prog.fresh], fun j' v n d t f q1 q2 => ?_⟩
      obtain ⟨l1, ty, l2, l3, l4⟩ := G3 _ _ _ _ _ q2
      have hl1 : Laid Z a0 C C n d := by cases f; exact Or.inl l1; exact Or.inr l1
      have hv : v = dflt t := by rw [Prog.fresh, List.getElem?_map, q2] at q1; simpa using q1.symm
      subst hv
      refine ⟨defaultValue ty, ?_, D2 hl1 l2⟩
      rw [l4]; unfold dflt; split <;> rfl
    · cases h
  case invokespecial j =>
    simp only [step] at h
    obtain rfl := hlen.resolve_left (by simp [ilen])
    split at h
    · rename_i a r
      obtain ⟨_, _, rfl, ⟨b, hb, rfl⟩, hr'⟩ := hS
      cases hq : isObjInit P k j && Nat.ble 1 (P.rf k) && Nat.ble (cats r + 12) (P.rl k)
      · simp [hq] at h
      · simp only [hq, cond_true, Option.some.injEq, Prod.mk.injEq] at h; obtain ⟨rfl, rfl, rfl, rfl⟩ := h
        simp only [Bool.and_eq_true] at hq
        have h1 : 1 ≤ P.rf k := Nat.le_of_ble_eq_true hq.1.2
        have h2 : cats r + 12 ≤ P.rl k := Nat.le_of_ble_eq_true hq.2
        have h3 := hq.1.1
        unfold isObjInit at h3
        split at h3
        · rename_i kk hk
          obtain ⟨w1, w2, w3⟩ := G9 _ _ _ _ hk
          obtain ⟨T2, X2, e7, s2⟩ := initO X hx hZ hown w1 w2 w3 rfl (g := mkF m pc ls _) rfl (by rw [hml]; exact hlz) rfl hd (by omega) (W := cats r) (by rw [hr'.cats]; show 2 * 0 + _ ≤ _; omega) (by omega)
          exact Behind.plain' X2 e7 hL rfl hr' hH hF hn s2
        · cases h3
    · cases h
  case iadd =>
    simp only [step] at h
    obtain rfl := hlen.resolve_left (by simp [ilen])
    split at h
    · rename_i y x r
      simp only [aop, Option.some.injEq, Prod.mk.injEq] at h; obtain ⟨rfl, rfl, rfl, rfl⟩ := h
      obtain ⟨_, _, rfl, rfl, _, _, rfl, rfl, hr'⟩ := hS
      exact Behind.plain X hL rfl ⟨_, _, rfl, rfl, hr'⟩ hH hF hn fun target hr => XS.iadd X.here hx rfl (g := mkF m pc ls _) hd rfl hr
    · simp [lop] at h
    · cases h
  case isub =>
    simp only [step] at h
    obtain rfl := hlen.resolve_left (by simp [ilen])
    split at h
    · rename_i y x r
      simp only [aop, Option.some.injEq, Prod.mk.injEq] at h; obtain ⟨rfl, rfl, rfl, rfl⟩ := h
      obtain ⟨_, _, rfl, rfl, _, _, rfl, rfl, hr'⟩ := hS
      exact Behind.plain X hL rfl ⟨_, _, rfl, rfl, hr'⟩ hH hF hn fun target hr => XS.isub X.here hx rfl (g := mkF m pc ls _) hd rfl hr
    · simp [lop] at h
    · cases h
  case imul =>
    simp only [step] at h
    obtain rfl := hlen.resolve_left (by simp [ilen])
    split at h
    · rename_i y x r
      simp only [aop, Option.some.injEq, Prod.mk.injEq] at h; obtain ⟨rfl, rfl, rfl, rfl⟩ := h
      obtain ⟨_, _, rfl, rfl, _, _, rfl, rfl, hr'⟩ := hS
      exact Behind.plain X hL rfl ⟨_, _, rfl, rfl, hr'⟩ hH hF hn fun target hr => XS.imul X.here hx rfl (g := mkF m pc ls _) hd rfl hr
    · simp [lop] at h
    · cases h
  case iand =>
    simp only [step] at h
    obtain rfl := hlen.resolve_left (by simp [ilen])
    split at h
    · rename_i y x r
      simp only [aop, Option.some.injEq, Prod.mk.injEq] at h; obtain ⟨rfl, rfl, rfl, rfl⟩ := h
      obtain ⟨_, _, rfl, rfl, _, _, rfl, rfl, hr'⟩ := hS
      exact Behind.plain X hL rfl ⟨_, _, rfl, rfl, hr'⟩ hH hF hn fun target hr => XS.iand X.here hx rfl (g := mkF m pc ls _) hd rfl hr
    · simp [lop] at h
    · cases h
  case ior =>
    simp only [step] at h
    obtain rfl := hlen.resolve_left (by simp [ilen])
    split at h
    · rename_i y x r
      simp only [aop, Option.some.injEq, Prod.mk.injEq] at h; obtain ⟨rfl, rfl, rfl, rfl⟩ := h
      obtain ⟨_, _, rfl, rfl, _, _, rfl, rfl, hr'⟩ := hS
      exact Behind.plain X hL rfl ⟨_, _, rfl, rfl, hr'⟩ hH hF hn fun target hr => XS.ior X.here hx rfl (g := mkF m pc ls _) hd rfl hr
    · simp [lop] at h
    · cases h
  case ixor =>
    simp only [step] at h
    obtain rfl := hlen.resolve_left (by simp [ilen])
    split at h
    · rename_i y x r
      simp only [aop, Option.some.injEq, Prod.mk.injEq] at h; obtain ⟨rfl, rfl, rfl, rfl⟩ := h
      obtain ⟨_, _, rfl, rfl, _, _, rfl, rfl, hr'⟩ := hS
      exact Behind.plain X hL rfl ⟨_, _, rfl, rfl, hr'⟩ hH hF hn fun target hr => XS.ixor X.here hx rfl (g := mkF m pc ls _) hd rfl hr
    · simp [lop] at h
    · cases h
  case ishl =>
    simp only [step] at h
    obtain rfl := hlen.resolve_left (by simp [ilen])
    split at h
    · rename_i y x r
      simp only [aop, Option.some.injEq, Prod.mk.injEq] at h; obtain ⟨rfl, rfl, rfl, rfl⟩ := h
      obtain ⟨_, _, rfl, rfl, _, _, rfl, rfl, hr'⟩ := hS
      exact Behind.plain X hL rfl ⟨_, _, rfl, rfl, hr'⟩ hH hF hn fun target hr => XS.ishl X.here hx rfl (g := mkF m pc ls _) hd rfl hr
    · simp [lop] at h
    · cases h
  case ishr =>
    simp only [step] at h
    obtain rfl := hlen.resolve_left (by simp [ilen])
    split at h
    · rename_i y x r
      simp only [aop, Option.some.injEq, Prod.mk.injEq] at h; obtain ⟨rfl, rfl, rfl, rfl⟩ := h
      obtain ⟨_, _, rfl, rfl, _, _, rfl, rfl, hr'⟩ := hS
      exact Behind.plain X hL rfl ⟨_, _, rfl, rfl, hr'⟩ hH hF hn fun target hr => XS.ishr X.here hx rfl (g := mkF m pc ls _) hd rfl hr
    · simp [lop] at h
    · cases h
  case iushr =>
    simp only [step] at h
    obtain rfl := hlen.resolve_left (by simp [ilen])
    split at h
    · rename_i y x r
      simp only [aop, Option.some.injEq, Prod.mk.injEq] at h; obtain ⟨rfl, rfl, rfl, rfl⟩ := h
      obtain ⟨_, _, rfl, rfl, _, _, rfl, rfl, hr'⟩ := hS
      exact Behind.plain X hL rfl ⟨_, _, rfl, rfl, hr'⟩ hH hF hn fun target hr => XS.iushr X.here hx rfl (g := mkF m pc ls _) hd rfl hr
    · simp [lop] at h
    · cases h
  case ladd =>
    simp only [step] at h
    obtain rfl := hlen.resolve_left (by simp [ilen])
    split at h
    · simp [aop] at h
    · rename_i y x r
      simp only [lop, Option.some.injEq, Prod.mk.injEq] at h; obtain ⟨rfl, rfl, rfl, rfl⟩ := h
      obtain ⟨_, _, rfl, rfl, _, _, rfl, rfl, hr'⟩ := hS
      exact Behind.plain X hL rfl ⟨_, _, rfl, rfl, hr'⟩ hH hF hn fun target hr => XS.ladd X.here hx rfl (g := mkF m pc ls _) hd rfl hr
    · cases h
  case lsub =>
    simp only [step] at h
    obtain rfl := hlen.resolve_left (by simp [ilen])
    split at h
    · simp [aop] at h
    · rename_i y x r
      simp only [lop, Option.some.injEq, Prod.mk.injEq] at h; obtain ⟨rfl, rfl, rfl, rfl⟩ := h
      obtain ⟨_, _, rfl, rfl, _, _, rfl, rfl, hr'⟩ := hS
      exact Behind.plain X hL rfl ⟨_, _, rfl, rfl, hr'⟩ hH hF hn fun target hr => XS.lsub X.here hx rfl (g := mkF m pc ls _) hd rfl hr
    · cases h
  case lmul =>
    simp only [step] at h
    obtain rfl := hlen.resolve_left (by simp [ilen])
    split at h
    · simp [aop] at h
    · rename_i y x r
      simp only [lop, Option.some.injEq, Prod.mk.injEq] at h; obtain ⟨rfl, rfl, rfl, rfl⟩ := h
      obtain ⟨_, _, rfl, rfl, _, _, rfl, rfl, hr'⟩ := hS
      exact Behind.plain X hL rfl ⟨_, _, rfl, rfl, hr'⟩ hH hF hn fun target hr => XS.lmul X.here hx rfl (g := mkF m pc ls _) hd rfl hr
    · cases h
  case land =>
    simp only [step] at h
    obtain rfl := hlen.resolve_left (by simp [ilen])
    split at h
    · simp [aop] at h
    · rename_i y x r
      simp only [lop, Option.some.injEq, Prod.mk.injEq] at h; obtain ⟨rfl, rfl, rfl, rfl⟩ := h
      obtain ⟨_, _, rfl, rfl, _, _, rfl, rfl, hr'⟩ := hS
      exact Behind.plain X hL rfl ⟨_, _, rfl, rfl, hr'⟩ hH hF hn fun target hr => XS.land X.here hx rfl (g := mkF m pc ls _) hd rfl hr
    · cases h
  case lor =>
    simp only [step] at h
    obtain rfl := hlen.resolve_left (by simp [ilen])
    split at h
    · simp [aop] at h
    · rename_i y x r
      simp only [lop, Option.some.injEq, Prod.mk.injEq] at h; obtain ⟨rfl, rfl, rfl, rfl⟩ := h
      obtain ⟨_, _, rfl, rfl, _, _, rfl, rfl, hr'⟩ := hS
      exact Behind.plain X hL rfl ⟨_, _, rfl, rfl, hr'⟩ hH hF hn fun target hr => XS.lor X.here hx rfl (g := mkF m pc ls _) hd rfl hr
    · cases h
  case lxor =>
    simp only [step] at h
    obtain rfl := hlen.resolve_left (by simp [ilen])
    split at h
    · simp [aop] at h
    · rename_i y x r
      simp only [lop, Option.some.injEq, Prod.mk.injEq] at h; obtain ⟨rfl, rfl, rfl, rfl⟩ := h
      obtain ⟨_, _, rfl, rfl, _, _, rfl, rfl, hr'⟩ := hS
      exact Behind.plain X hL rfl ⟨_, _, rfl, rfl, hr'⟩ hH hF hn fun target hr => XS.lxor X.here hx rfl (g := mkF m pc ls _) hd rfl hr
    · cases h
  all_goals (exfalso; simp only [step] at h; split at h <;> simp [aop, lop] at h)
end Sound
end Jvm.OwnX
namespace Jvm.OwnX
open Sem ClassFile Op Lib Jvm.Stand Jvm.Free Jvm.LawKit Jvm.RoadKit
set_option maxHeartbeats 4000000 in
theorem step_grow {P : Prog} {k pc np pc' : Nat} {i : Instr} {L L' : ALoc} {S S' : List Value} {H H' : AHeap} (h : step P k i np pc L S H = some (pc', L', S', H')) : H.length ≤ H'.length ∧ hsz P H ≤ hsz P H' := by
  cases i <;> simp only [step, Bool.cond_eq_ite] at h
  all_goals (repeat' (split at h))
  all_goals first
    | (cases h; done)
    | (simp only [Option.some.injEq, Prod.mk.injEq] at h; obtain ⟨-, -, -, rfl⟩ := h; exact ⟨Nat.le_refl _, Nat.le_refl _⟩)
    | (simp only [Option.some.injEq, Prod.mk.injEq] at h; obtain ⟨-, -, -, rfl⟩ := h; exact ⟨by simp, by rw [hsz_app]; omega⟩)
    | (simp only [Option.some.injEq, Prod.mk.injEq] at h; obtain ⟨-, -, -, rfl⟩ := h; exact ⟨by simp, Nat.le_of_eq (hsz_set P _ _ _ _ (by assumption) (by simp [csz, wr, wrL])).symm⟩)
set_option maxHeartbeats 4000000 in
theorem step_cap {P : Prog} {k pc np pc' : Nat} {i : Instr} {L L' : ALoc} {S S' : List Value} {H H' : AHeap} (h : step P k i np pc L S H = some (pc', L', S', H')) : (H'.length ≤ H.length ∨ H'.length ≤ P.capC) ∧ (hsz P H' ≤ hsz P H ∨ hsz P H' ≤ P.capS) := by
  cases i <;> simp only [step, Bool.cond_eq_ite] at h
  case newarray t =>
    split at h
    · split at h
      · rename_i q ht
        split at h
        · rename_i hq
          simp only [Option.some.injEq, Prod.mk.injEq] at h; obtain ⟨-, -, -, rfl⟩ := h
          simp only [Bool.and_eq_true] at hq
          have h1 := Nat.le_of_ble_eq_true hq.1.2
          have h2 := Nat.le_of_ble_eq_true hq.2
          exact ⟨Or.inr (by simpa using h1), Or.inr (by rw [hsz_app, csz_new _ _ ht]; exact h2)⟩
        · cases h
      · cases h
    · cases h
  case new j =>
    split at h
    · split at h
      · rename_i hq
        simp only [Option.some.injEq, Prod.mk.injEq] at h; obtain ⟨-, -, -, rfl⟩ := h
        simp only [Bool.and_eq_true] at hq
        have h1 := Nat.le_of_ble_eq_true hq.1
        have h2 := Nat.le_of_ble_eq_true hq.2
        exact ⟨Or.inr (by simpa using h1), Or.inr (by rw [hsz_app]; exact h2)⟩
      · cases h
    · cases h
  all_goals (repeat' (split at h))
  all_goals first
    | (cases h; done)
    | (simp only [Option.some.injEq, Prod.mk.injEq] at h; obtain ⟨-, -, -, rfl⟩ := h; exact ⟨Or.inl (Nat.le_refl _), Or.inl (Nat.le_refl _)⟩)
    | (simp only [Option.some.injEq, Prod.mk.injEq] at h; obtain ⟨-, -, -, rfl⟩ := h; exact ⟨Or.inl (by simp), Or.inl (Nat.le_of_eq (hsz_set P _ _ _ _ (by assumption) (by simp [csz, wr, wrL])))⟩)
theorem run_cap {P : Prog} : ∀ {n k pc : Nat} {L : ALoc} {S : List Value} {H : AHeap} {v : Option Value} {H' : AHeap}, run P n k pc L S H = some (v, H') → (H'.length ≤ H.length ∨ H'.length ≤ P.capC) ∧ (hsz P H' ≤ hsz P H ∨ hsz P H' ≤ P.capS)
  | 0, k, pc, L, S, H, v, H', h => by simp [run] at h
  | n + 1, k, pc, L, S, H, v, H', h => by
    rw [run] at h
    split at h
    · cases h
    · split at h
      · cases h; exact ⟨Or.inl (Nat.le_refl _), Or.inl (Nat.le_refl _)⟩
      · split at h
        · split at h
          · rename_i h1
            have g1 := run_cap h1
            have g2 := run_cap h
            omega
          · cases h
        · split at h
          · rename_i h1
            have g1 := step_cap h1
            have g2 := run_cap h
            omega
          · cases h
theorem run_grow {P : Prog} : ∀ {n k pc : Nat} {L : ALoc} {S : List Value} {H : AHeap} {v : Option Value} {H' : AHeap}, run P n k pc L S H = some (v, H') → H.length ≤ H'.length ∧ hsz P H ≤ hsz P H'
  | 0, k, pc, L, S, H, v, H', h => by simp [run] at h
  | n + 1, k, pc, L, S, H, v, H', h => by
    rw [run] at h
    split at h
    · cases h
    · split at h
      · cases h; exact ⟨Nat.le_refl _, Nat.le_refl _⟩
      · split at h
        · split at h
          · rename_i h1
            have g1 := run_grow h1
            have g2 := run_grow h
            omega
          · cases h
        · split at h
          · rename_i h1
            have g1 := step_grow h1
            have g2 := run_grow h
            omega
          · cases h
def OVR (am : List Addr) (v w : Option Value) : Prop := match v with
  | none => w = none
  | some x => ∃ y, w = some y ∧ VR am x y
theorem callV_spec {P : Prog} {k k' : Nat} {i : Instr} {S as rest : List Value} {H : AHeap} (h : callV P k i S H = some (k', as, rest)) :
    ∃ j q, poolOf i = some j ∧ P.link (P.cls k) j = some (q, k') ∧ kindOk i q = true ∧ S = as.reverse ++ rest ∧ as.length = P.pops k' ∧ P.rf k' + 1 ≤ P.rf k ∧ cats rest + (P.maxL k' + 11) + P.rl k' ≤ P.rl k ∧ recvOk P H q as = true ∧ (entL as).length ≤ P.maxL k' := by
  unfold callV at h
  split at h
  · cases h
  · rename_i j hj
    split at h
    · cases h
    · rename_i q k'' hk
      rw [Bool.cond_eq_ite] at h
      split at h
      · rename_i hc
        simp only [Option.some.injEq, Prod.mk.injEq] at h
        obtain ⟨rfl, rfl, rfl⟩ := h
        simp only [Bool.and_eq_true] at hc
        obtain ⟨⟨⟨⟨⟨c1, c2⟩, c3⟩, c4⟩, c5⟩, c6⟩ := hc
        have c2' := Nat.le_of_ble_eq_true c2
        exact ⟨j, q, hj, hk, c1, by rw [List.reverse_reverse, List.take_append_drop], by simp [c2'], Nat.le_of_ble_eq_true c3, Nat.le_of_ble_eq_true c4, c5, Nat.le_of_ble_eq_true c6⟩
      · cases h
theorem linkOk_call {P : Prog} {nm : Nat → MethodName} {bc : Nat → ByteArray} {cn : Nat → String} {C : String} {Z : State} {a0 : Array Value} {c j q k : Nat} (h4 : q ≠ 4) (h5 : q ≠ 5) (h : LinkOk P nm bc cn C Z a0 c j q k) : CallOk P nm bc cn C Z a0 c j q k := by
  unfold LinkOk at h
  split at h
  · exact absurd rfl h4
  · exact absurd rfl h5
  · exact h
theorem recv_spec {P : Prog} {H : AHeap} {q : Nat} {as : List Value} (h0 : q ≠ 0) (h : recvOk P H q as = true) : ∃ a r fs, as = .ref a :: r ∧ H[a]? = some (.inl fs) := by
  unfold recvOk at h
  split at h
  · exact absurd rfl h0
  · split at h
    · split at h
      · rename_i fs hfs
        exact ⟨_, _, fs, rfl, hfs⟩
      · cases h
    · cases h
theorem retV_spec {P : Prog} {k : Nat} {i : Instr} {S : List Value} {v : Option Value} (h : retV P k i S = some v) :
    (i = .return_ ∧ S = [] ∧ P.ret k = none ∧ v = none) ∨ (∃ x r, i = .ireturn ∧ S = .int x :: r ∧ P.ret k = some .int ∧ v = some (.int x)) ∨ (∃ x r, i = .ireturn ∧ S = .int x :: r ∧ P.ret k = some .boolean ∧ v = some (.int (x &&& 1))) ∨ (∃ x r, i = .lreturn ∧ S = .long x :: r ∧ P.ret k = some .long ∧ v = some (.long x)) := by
  unfold retV at h
  split at h
  · split at h
    · rename_i hr; cases h; exact Or.inl ⟨rfl, rfl, hr, rfl⟩
    · cases h
  · split at h
    · split at h
      · rename_i hr; cases h; exact Or.inr (Or.inl ⟨_, _, rfl, rfl, hr, rfl⟩)
      · rename_i hr; cases h; exact Or.inr (Or.inr (Or.inl ⟨_, _, rfl, rfl, hr, rfl⟩))
      · cases h
    · cases h
  · split at h
    · split at h
      · rename_i hr; cases h; exact Or.inr (Or.inr (Or.inr ⟨_, _, rfl, rfl, hr, rfl⟩))
      · cases h
    · cases h
  · cases h
/-- what a callee's contract says behind it -/
def QC (P : Prog) (C : String) (Z : State) (n0 : Nat) (am : List Addr) (v : Option Value) (H1 : AHeap) (w : Option Value) (h' : Heap) (Lc : List Loc) : Prop := Fr n0 Lc ∧ n0 ≤ h'.size ∧ ∃ am', Pre am am' ∧ HR P C Z n0 am' H1 h' ∧ OVR am' v w
/-- the frame's theorem, for one amount of fuel -/
def SoundAt (P : Prog) (nm : Nat → MethodName) (bc : Nat → ByteArray) (cn : Nat → String) (C : String) (Z : State) (n : Nat) : Prop :=
  ∀ (k pc : Nat) (L : ALoc) (S : List Value) (H : AHeap) (v : Option Value) (H' : AHeap), run P n k pc L S H = some (v, H') →
  ∀ {p : Program} {l : Launch} {e : Env} {R : Room} {s : State} {m : MethodId} {args : Array Value} {below : List Frame} {meth : Method} {c : Code} {T : State} {locs : List Loc} {cells slots n0 : Nat} {am : List Addr} {ls : Array Slot} {st : List Value},
    Stand p l e R s m args below meth c T locs cells slots → p.tables.exec = Jvm.exec → Z.Warmed39 s.vm → c.code = bc k → c.maxLocals = P.maxL k → meth.sig.returnType = P.ret k → s.vm.findClass (cn (P.cls k)) = some m.cls → (P.ini k = true → meth.name = "<init>" ∧ cn (P.cls k) = C) →
    P.rf k ≤ R.frames → P.rl k ≤ R.locals → cells + (H'.length - H.length) ≤ R.cells → slots + (hsz P H' - hsz P H) ≤ R.slots → ls.size = P.maxL k → LR am L ls → SR am S st → HR P C Z n0 am H T.heap → Fr n0 locs → n0 ≤ T.heap.size →
    ∃ T' am' locs' w, Stand p l e R s m args below meth c T' locs' (cells + (H'.length - H.length)) (slots + (hsz P H' - hsz P H)) ∧ HR P C Z n0 am' H' T'.heap ∧ Pre am am' ∧ Fr n0 locs' ∧ OVR am' v w ∧ n0 ≤ T'.heap.size ∧ (P.ret k = none → w = none) ∧
      ∀ fs, (∀ (f : JFrame) (acts : List Action), f.method = m → f.locked = none → f.entered = [] → (doReturn e (T'.setTop f) acts w).1 = T'.setFrames fs) → Steps p.tables e below (T.setTop (mkF m pc ls st)) (T'.setFrames fs)
section Met
variable {P : Prog} {nm : Nat → MethodName} {bc : Nat → ByteArray} {cn : Nat → String} {C : String} {Z : State} {a0 : Array Value}
theorem metOf {n k : Nat} {as : List Value} {H H1 : AHeap} {v : Option Value} (IH : SoundAt P nm bc cn C Z n) (hrun : run P n k 0 (entry P k as) [] H = some (v, H1)) {l : Launch} {wsC : List Cond} {rm : Room} (hpl : plainName (nm k).cls = true) (hcls : (nm k).cls = cn (P.cls k)) (hini : P.ini k = true → (nm k).name = "<init>" ∧ (nm k).cls = C)
    (hrf : P.rf k ≤ rm.frames) (hrl : P.rl k ≤ rm.locals) (hrc : H1.length - H.length ≤ rm.cells) (hrs : hsz P H1 - hsz P H ≤ rm.slots) {am : List Addr} {ws : List Value} {h : Heap} {n0 : Nat} (hS : SR am as ws) (hE : (entL as).length ≤ P.maxL k) (hH : HR P C Z n0 am H h) (hn : n0 ≤ h.size) :
    MetFree l (nm k) (head1 (Cond.code (nm k) (bc k) (P.maxL k) (P.ret k) :: wsC) rm) (fun a U => a = ws.toArray ∧ Z.Warmed39 U.vm ∧ U.heap = h) (fun _ _ _ _ _ => True)
      (fun _ U o U' => ∃ w Lc, o = .returned w ∧ QC P C Z n0 am v H1 w U'.heap Lc ∧ FrameEnd U o U' Lc (H1.length - H.length) (hsz P H1 - hsz P H)) := by
  refine MetFree.of_bodySF (plainFor_of_name hpl) hisR ?_
  intro p e s m args below meth c s₁ Bd hml0 hP hK
  obtain ⟨rfl, hZ, hh⟩ := hP
  have hown : s.vm.findClass (nm k).cls = some m.cls := findClass_of_methodNamed Bd.named
  have hnm := (name_of_methodNamed Bd.named Bd.method).1
  have X0 : Stand p l e rm s m ws.toArray below meth c s₁ [] 0 0 := Stand.of_body Bd
  have e0 : s₁.heap = h := by rw [← hh, Bd.state]; rfl
  have hsl := (slotsL_ok hS).1
  obtain ⟨T', am', locs', w, X', h1, h2, h3, h4, h5, h6, h7⟩ := IH k 0 _ _ _ _ _ hrun X0 Bd.exec hZ Bd.bytes hml0 Bd.returns (by rw [← hcls]; exact hown) (fun q => ⟨by rw [hnm]; exact (hini q).1, by rw [← hcls]; exact (hini q).2⟩) hrf hrl (by omega) (by omega) (entry_size (ws := ws) (n := P.maxL k) (by omega)) (LR.entry hS hE) (st := []) rfl (by rw [e0]; exact hH) (Fr.nil n0) (by rw [e0]; exact hn)
  obtain ⟨fs, hr, hrun', hended, hW, hsame⟩ := X'.leave (v := w) (fun q => h6 (by rw [← Bd.returns]; exact q))
  exact ⟨_, _, h7 fs hr, hrun', hended, w, locs', rfl, ⟨h3, h5, am', h2, h1, h4⟩, ⟨_, rfl⟩, hW, hsame.mono (by omega) (by omega)⟩
variable {p : Program} {l : Launch} {e : Env} {R : Room} {s : State} {m : MethodId} {args : Array Value} {below : List Frame} {meth : Method} {c : Code} {T : State} {locs : List Loc} {cells slots : Nat} {n0 : Nat}
theorem call_sound (G : Good P nm bc cn C Z a0) {n k k' pc np : Nat} {i : Instr} {S as rest : List Value} {H H1 : AHeap} {v : Option Value} (IH : SoundAt P nm bc cn C Z n) (hcode : P.code k pc = some (i, np)) (hcall : callV P k i S H = some (k', as, rest)) (hrun : run P n k' 0 (entry P k' as) [] H = some (v, H1))
    (X : Stand p l e R s m args below meth c T locs cells slots) (hx : p.tables.exec = Jvm.exec) (hZ : Z.Warmed39 s.vm) (hby : c.code = bc k) (hml : c.maxLocals = P.maxL k) (hown : s.vm.findClass (cn (P.cls k)) = some m.cls)
    (hrf : P.rf k ≤ R.frames) (hrl : P.rl k ≤ R.locals) (hcells : cells + (H1.length - H.length) ≤ R.cells) (hslots : slots + (hsz P H1 - hsz P H) ≤ R.slots) {am : List Addr} {ls : Array Slot} {st : List Value} (hlz : ls.size = P.maxL k) (hS : SR am S st) (hH : HR P C Z n0 am H T.heap) (hn : n0 ≤ T.heap.size) :
    ∃ T2 w Lc z, np = pc + 3 ∧ Stand p l e R s m args below meth c T2 (locs ++ Lc) (cells + (H1.length - H.length)) (slots + (hsz P H1 - hsz P H)) ∧ QC P C Z n0 am v H1 w T2.heap Lc ∧ SR am rest z ∧
      ∀ target, Steps p.tables e below (T2.setTop (mkF m (pc + 3) ls (w.toList ++ z))) target → Steps p.tables e below (T.setTop (mkF m pc ls st)) target := by
  obtain ⟨j, q, hj, hk, hkind, rfl, hlen, c3, c4, c5, c6⟩ := callV_spec hcall
  obtain ⟨G1, -, -, -, -, G6, -, -, G9⟩ := G
  obtain ⟨len, hdec, rfl, hlen'⟩ := G1 _ _ _ _ hcode
  have hd : decode c.code pc = .ok (i, len) := by rw [hby]; exact hdec
  obtain ⟨y, z, rfl, hy, hz⟩ := SR.app _ _ hS rfl
  have hws : SR am as y.reverse := by have := hy.rev; rwa [List.reverse_reverse] at this
  have hcz := hz.cats
  have lk := G9 _ _ _ _ hk
  have hq4 : q ≠ 4 := fun q4 => by subst q4; cases i <;> simp [kindOk] at hkind
  have hq5 : q ≠ 5 := fun q5 => by subst q5; cases i <;> simp [kindOk] at hkind
  have lk' : CallOk P nm bc cn C Z a0 (P.cls k) j q k' := linkOk_call hq4 hq5 lk
  obtain ⟨w1, w2, w3, ⟨ps, r, w4, w5⟩, w6, w7, w8, w9, w10⟩ := lk'
  have hM := metOf IH hrun (l := l) (wsC := []) (rm := ({ frames := P.rf k', cells := H1.length - H.length, slots := hsz P H1 - hsz P H, locals := P.rl k' } : Room)) w6 w8 w9 (Nat.le_refl _) (Nat.le_refl _) (Nat.le_refl _) (Nat.le_refl _) hws c6 hH hn
  have hB := backOf (R := R) (p := p) (e := e) (below := below) (args := args) (s := s) (len := 3) (W := cats rest) hM hZ w2 w3 (by show P.rf k' + 1 ≤ _; omega) (by show cats rest + (P.maxL k' + 11) + P.rl k' ≤ _; omega)
  have hyl : y.reverse.length = as.length := hws.len
  have recv : q ≠ 0 → ∃ a r' b ws', as = .ref a :: r' ∧ y.reverse = .ref b :: ws' ∧ Exa Z T.heap b C := fun h0 => by
    obtain ⟨a, r', fs, rfl, hfs⟩ := recv_spec h0 c5
    obtain ⟨_, ws', e1, ⟨b, hb, rfl⟩, -⟩ := hws
    obtain ⟨b', f1, f2, -⟩ := hH.2.2.2 _ _ hfs
    cases hb.symm.trans f1
    exact ⟨a, r', b, ws', rfl, e1, f2⟩
  cases i <;> simp only [poolOf, Option.some.injEq, reduceCtorEq] at hj
  case invokestatic j' =>
    subst hj
    obtain rfl : len = 3 := hlen'.resolve_left (by simp [ilen])
    obtain rfl : q = 0 := by
      match q, hkind with
      | 0, _ => rfl
    obtain ⟨w, _, ⟨T2, L2, k2, n2⟩, -, X2, ⟨Lc, hQ, l1, l2, l3⟩, st2⟩ := Jvm.LawKit.callS X hx (y := nm k') hown (mvT hZ w1) (mvT hZ w10) (mvT hZ w3) (mvT hZ w2) w7 hB (g := mkF m pc ls (y ++ z)) rfl (by rw [hml]; exact hlz) (argsL := y.reverse) (rest := z) (lenOf w4 (by rw [hyl, hlen, w5]; rfl)) (by simp) (by rw [hcz]; show 2 * 0 + _ ≤ _; omega) hd (fun _ _ => ⟨rfl, rfl, hcells, hslots⟩)
    dsimp only [Pt.U, Pt.locs, Pt.cells, Pt.slots] at X2 l1 l2 l3 st2 hQ
    subst l1 l2 l3
    exact ⟨T2, w, Lc, z, rfl, X2, hQ, hz, st2⟩
  case invokespecial j' =>
    subst hj
    obtain rfl : len = 3 := hlen'.resolve_left (by simp [ilen])
    obtain rfl : q = 1 := by
      match q, hkind with
      | 1, _ => rfl
    obtain ⟨a, r', b, ws', ea, ey, hEx⟩ := recv (by decide)
    obtain ⟨w11, w12, w13⟩ := w10
    have ey' : y = ws'.reverse ++ [.ref b] := by rw [← List.reverse_reverse y, ey]; simp
    rw [ey] at hB
    have hl : ws'.length = ps.length := by rw [ey, hlen, w5] at hyl; simpa [rcv] using hyl
    obtain ⟨w, _, ⟨T2, L2, k2, n2⟩, -, X2, ⟨Lc, hQ, l1, l2, l3⟩, st2⟩ := X.specialBack hx (y := nm k') w11 hown (mvT hZ w1) (mvT hZ w12) (bytes := bc k') (maxL := P.maxL k') (mvT hZ (by rw [w13] at w2; exact w2)) w7 hB (g := mkF m pc ls (y ++ z)) rfl (by rw [hml]; exact hlz) (Steps.refl _) (a := b) (argsL := ws') (rest := z) (lenOf w4 hl) (by rw [ey']; simp) (by rw [hcz]; show 2 * 0 + _ ≤ _; omega) hd (fun _ _ => ⟨rfl, rfl, hcells, hslots⟩)
    dsimp only [Pt.U, Pt.locs, Pt.cells, Pt.slots] at X2 l1 l2 l3 st2 hQ
    subst l1 l2 l3
    exact ⟨T2, w, Lc, z, rfl, X2, hQ, hz, fun target hr => st2.trans hr⟩
  case invokevirtual j' =>
    subst hj
    obtain rfl : len = 3 := hlen'.resolve_left (by simp [ilen])
    have hq : q = 2 ∨ q = 3 := by
      match q, hkind with
      | 2, _ => exact Or.inl rfl
      | 3, _ => exact Or.inr rfl
    obtain ⟨a, r', b, ws', ea, ey, hEx⟩ := recv (by omega)
    have ey' : y = ws'.reverse ++ [.ref b] := by rw [← List.reverse_reverse y, ey]; simp
    rw [ey] at hB
    rcases hq with rfl | rfl
    · obtain ⟨w11, w12, w13⟩ := w10
      have hl : ws'.length = ps.length := by rw [ey, hlen, w5] at hyl; simpa [rcv] using hyl
      obtain ⟨cq, kq, qa, qb, qc⟩ := isOf hZ rfl hEx
      obtain ⟨w, _, ⟨T2, L2, k2, n2⟩, -, X2, ⟨Lc, hQ, l1, l2, l3⟩, st2⟩ := X.virtualBack hx (y := nm k') (z := nm k') hown (mvT hZ w1) (mvT hZ w11) (notFace_of_selects (args := #[]) (mvT hZ w13)) (mvT hZ w13) (mvT hZ w12) w7 hB qa qc (g := mkF m pc ls (y ++ z)) rfl (by rw [hml]; exact hlz) (Steps.refl _) (argsL := ws') (rest := z) (lenOf w4 hl) (by rw [ey']; simp) (by rw [hcz]; show 2 * 0 + _ ≤ _; omega) hd (fun _ _ => ⟨rfl, rfl, hcells, hslots⟩)
      dsimp only [Pt.U, Pt.locs, Pt.cells, Pt.slots] at X2 l1 l2 l3 st2 hQ
      subst l1 l2 l3
      exact ⟨T2, w, Lc, z, rfl, X2, hQ, hz, fun target hr => st2.trans hr⟩
    · obtain ⟨w11, w12, w13⟩ := w10
      have hl : ws'.length = ps.length := by rw [ey, hlen, w5] at hyl; simpa [rcv] using hyl
      obtain ⟨cq, q1, q2⟩ := hEx.cell
      obtain ⟨cC, kC, i1, i2, i3, i4, -⟩ := Cond.instantiable_spec (mvT hZ G6 : (Cond.instantiable C P.objN).before #[] s = true)
      have hpriv : s.PrivateAt (nm k') := Cond.privateMethod_at (mvP hZ w13 (args := #[]))
      have hsel : (Cond.selects (nm k').cls (nm k') (nm k')).before args s = true := selects_self_of_private (by rw [w11]; exact i1) i2 (by simpa using (Bool.or_eq_false_iff.mp i4).1) hpriv (mvT hZ w12) w7
      obtain ⟨w, _, ⟨T2, L2, k2, n2⟩, -, X2, ⟨Lc, hQ, l1, l2, l3⟩, st2⟩ := X.privateBack hx (y := nm k') hown (mvT hZ w1) (mvT hZ w12) hsel hpriv (mvT hZ w2) w7 hB (g := mkF m pc ls (y ++ z)) rfl (by rw [hml]; exact hlz) (Steps.refl _) (a := b) q1 q2 (argsL := ws') (rest := z) (lenOf w4 hl) (by rw [ey']; simp) (by rw [hcz]; show 2 * 0 + _ ≤ _; omega) hd (fun _ _ => ⟨rfl, rfl, hcells, hslots⟩)
      dsimp only [Pt.U, Pt.locs, Pt.cells, Pt.slots] at X2 l1 l2 l3 st2 hQ
      subst l1 l2 l3
      exact ⟨T2, w, Lc, z, rfl, X2, hQ, hz, fun target hr => st2.trans hr⟩
theorem ret_sound (G : Good P nm bc cn C Z a0) {k pc np : Nat} {i : Instr} {S : List Value} {v : Option Value} (hcode : P.code k pc = some (i, np)) (h : retV P k i S = some v)
    (X : Stand p l e R s m args below meth c T locs cells slots) (hx : p.tables.exec = Jvm.exec) (hby : c.code = bc k) (hret : meth.sig.returnType = P.ret k) {am : List Addr} {ls : Array Slot} {st : List Value} (hS : SR am S st) :
    ∃ w, OVR am v w ∧ (P.ret k = none → w = none) ∧ ∀ fs, (∀ (f : JFrame) (acts : List Action), f.method = m → f.locked = none → f.entered = [] → (doReturn e (T.setTop f) acts w).1 = T.setFrames fs) → Steps p.tables e below (T.setTop (mkF m pc ls st)) (T.setFrames fs) := by
  obtain ⟨G1, -⟩ := G
  obtain ⟨len, hdec, rfl, hlen⟩ := G1 _ _ _ _ hcode
  have hd : decode c.code pc = .ok (i, len) := by rw [hby]; exact hdec
  rcases retV_spec h with ⟨rfl, rfl, hr, rfl⟩ | ⟨x, r, rfl, rfl, hr, rfl⟩ | ⟨x, r, rfl, rfl, hr, rfl⟩ | ⟨x, r, rfl, rfl, hr, rfl⟩
  · obtain rfl : len = 1 := hlen.resolve_left (by simp [ilen])
    cases hS
    exact ⟨none, rfl, fun _ => rfl, fun fs hl => X.returnOut hx (hret.trans hr) hd hl⟩
  · obtain rfl : len = 1 := hlen.resolve_left (by simp [ilen])
    obtain ⟨_, _, rfl, rfl, hr'⟩ := hS
    exact ⟨some (.int x), ⟨_, rfl, rfl⟩, (fun q => by rw [hr] at q; cases q), fun fs hl => retOut X hx (hret.trans hr) rfl (Or.inl ⟨rfl, Or.inl rfl, x, rfl⟩) hd hl⟩
  · obtain rfl : len = 1 := hlen.resolve_left (by simp [ilen])
    obtain ⟨_, _, rfl, rfl, hr'⟩ := hS
    exact ⟨some (.int (x &&& 1)), ⟨_, rfl, rfl⟩, (fun q => by rw [hr] at q; cases q), fun fs hl => retN X hx (hret.trans hr) (Or.inl rfl) hd hl⟩
  · obtain rfl : len = 1 := hlen.resolve_left (by simp [ilen])
    obtain ⟨_, _, rfl, rfl, hr'⟩ := hS
    exact ⟨some (.long x), ⟨_, rfl, rfl⟩, (fun q => by rw [hr] at q; cases q), fun fs hl => retOut X hx (hret.trans hr) rfl (Or.inr (Or.inl ⟨rfl, rfl, x, rfl⟩)) hd hl⟩
theorem SR.opt {am : List Addr} {v w : Option Value} {S st : List Value} (h : OVR am v w) (hS : SR am S st) : SR am (v.toList ++ S) (w.toList ++ st) := by
  cases v with
  | none => cases h; exact hS
  | some x => obtain ⟨y, rfl, h1⟩ := h; exact ⟨y, st, rfl, h1, hS⟩
theorem sound (G : Good P nm bc cn C Z a0) : ∀ n, SoundAt P nm bc cn C Z n
  | 0 => fun k pc L S H v H' h => by simp [run] at h
  | n + 1 => fun k pc L S H v H' h => by
    have IH := sound G n
    intro p l e R s m args below meth c T locs cells slots n0 am ls st X hx hZ hby hml hret hown hini hrf hrl hcells hslots hlz hL hS hH hF hn
    rw [run] at h
    split at h
    · cases h
    · rename_i i np hcode
      split at h
      · rename_i v' hv
        cases h
        obtain ⟨w, h1, h2, h3⟩ := ret_sound G hcode hv X hx hby hret (ls := ls) hS
        exact ⟨T, am, locs, w, by simpa using X, hH, Pre.refl _, hF, h1, hn, h2, h3⟩
      · split at h
        · rename_i k' as rest hcall
          split at h
          · rename_i v1 H1 hr1
            have g1 := run_grow hr1
            have g2 := run_grow h
            obtain ⟨T2, w, Lc, z, rfl, X2, ⟨q1, q2, am2, q3, q4, q5⟩, hz, st2⟩ := call_sound G IH hcode hcall hr1 X hx hZ hby hml hown hrf hrl (by omega) (by omega) (ls := ls) hlz hS hH hn
            obtain ⟨T', am', locs', w', X', f1, f2, f3, f4, f5, f6, f7⟩ := IH k _ _ _ _ _ _ h X2 hx hZ hby hml hret hown hini hrf hrl (by omega) (by omega) hlz (hL.mono q3) (SR.opt q5 (hz.mono q3)) q4 (Fr.app hF q1) q2
            refine ⟨T', am', locs', w', ?_, f1, q3.trans f2, f3, f4, f5, f6, fun fs hl => st2 _ (f7 fs hl)⟩
            have a1 : cells + (H1.length - H.length) + (H'.length - H1.length) = cells + (H'.length - H.length) := by omega
            have a2 : slots + (hsz P H1 - hsz P H) + (hsz P H' - hsz P H1) = slots + (hsz P H' - hsz P H) := by omega
            rw [a1, a2] at X'; exact X'
          · cases h
        · split at h
          · rename_i pc1 L1 S1 H1 hs1
            have g1 := step_grow hs1
            have g2 := run_grow h
            obtain ⟨T2, am2, ls2, st2, locs2, X2, b1, b2, b3, b4, b5, b6, b7, b8⟩ := step_sound G hcode hs1 X hx hZ hby hml hown hini hrf hrl (by omega) (by omega) hlz hL hS hH hF hn
            obtain ⟨T', am', locs', w', X', f1, f2, f3, f4, f5, f6, f7⟩ := IH k _ _ _ _ _ _ h X2 hx hZ hby hml hret hown hini hrf hrl (by omega) (by omega) (b2.trans hlz) b1 b3 b4 b6 b7
            refine ⟨T', am', locs', w', ?_, f1, b5.trans f2, f3, f4, f5, f6, fun fs hl => b8 _ (f7 fs hl)⟩
            have a1 : cells + (H1.length - H.length) + (H'.length - H1.length) = cells + (H'.length - H.length) := by omega
            have a2 : slots + (hsz P H1 - hsz P H) + (hsz P H' - hsz P H1) = slots + (hsz P H' - hsz P H) := by omega
            rw [a1, a2] at X'; exact X'
          · cases h
end Met
end Jvm.OwnX
namespace Jvm.OwnX
open Sem ClassFile Op Lib Jvm.Stand Jvm.Free Jvm.LawKit Jvm.RoadKit
theorem run_succ {P : Prog} : ∀ (n : Nat) {k pc : Nat} {L : ALoc} {S : List Value} {H : AHeap} {out : Option Value × AHeap}, run P n k pc L S H = some out → run P (n + 1) k pc L S H = some out
  | 0, k, pc, L, S, H, out, h => by simp [run] at h
  | n + 1, k, pc, L, S, H, out, h => by
    rw [run] at h
    rw [run]
    split at h
    · cases h
    · rename_i i np hc
      try simp only [hc]
      split at h
      · rename_i v hv
        try simp only [hv]
        exact h
      · rename_i hv
        try simp only [hv]
        split at h
        · rename_i k' as rest hcall
          try simp only [hcall]
          split at h
          · rename_i v1 H1 h1
            rw [run_succ n h1]; exact run_succ n h
          · cases h
        · rename_i hcall
          try simp only [hcall]
          split at h
          · rename_i pc1 L1 S1 H1 h1
            try simp only [h1]
            exact run_succ n h
          · cases h
theorem run_le {P : Prog} {n m k pc : Nat} {L : ALoc} {S : List Value} {H : AHeap} {out : Option Value × AHeap} (hm : n ≤ m) (h : run P n k pc L S H = some out) : run P m k pc L S H = some out := by
  induction hm with
  | refl => exact h
  | step _ ih => exact run_succ _ ih
section Rules
variable {P : Prog} {k pc np : Nat} {L L' : ALoc} {S r : List Value} {H : AHeap} {out : Option Value × AHeap}
theorem Eval.of_step {i : Instr} {pc' : Nat} {S' : List Value} {H' : AHeap} (hc : P.code k pc = some (i, np)) (h1 : retV P k i S = none) (h2 : callV P k i S H = none) (h3 : step P k i np pc L S H = some (pc', L', S', H')) (h : Eval P k pc' L' S' H' out) : Eval P k pc L S H out := by
  obtain ⟨n, h⟩ := h
  exact ⟨n + 1, by rw [run]; simp only [hc, h1, h2, h3]; exact h⟩
theorem Eval.call {i : Instr} {k' : Nat} {as rest : List Value} {v : Option Value} {H1 : AHeap} (hc : P.code k pc = some (i, np)) (h2 : callV P k i S H = some (k', as, rest)) (he : Eval P k' 0 (entry P k' as) [] H (v, H1)) (h : Eval P k np L (v.toList ++ rest) H1 out) : Eval P k pc L S H out := by
  obtain ⟨n, he⟩ := he
  obtain ⟨m, h⟩ := h
  have h1 : retV P k i S = none := by
    unfold callV at h2
    cases i <;> simp only [poolOf, reduceCtorEq] at h2 <;> rfl
  exact ⟨n + m + 1, by rw [run]; simp only [hc, h1, h2]; rw [run_le (Nat.le_add_right n m) he]; exact run_le (Nat.le_add_left m n) h⟩
theorem Eval.ret {i : Instr} {v : Option Value} (hc : P.code k pc = some (i, np)) (h1 : retV P k i S = some v) : Eval P k pc L S H (v, H) := ⟨1, by rw [run]; simp only [hc, h1]⟩
theorem Eval.eq {out' : Option Value × AHeap} (h : Eval P k pc L S H out') (e : out' = out) : Eval P k pc L S H out := e ▸ h
theorem Eval.iload_n {n : Fin 4} {x : Int32} (hc : P.code k pc = some (.iload_n n, np)) (hl : loadI L n.val = some x) (h : Eval P k np L (.int x :: S) H out) : Eval P k pc L S H out := Eval.of_step hc rfl rfl (by simp only [step, hl]) h
theorem Eval.iload {n : Nat} {x : Int32} (hc : P.code k pc = some (.iload n, np)) (hl : loadI L n = some x) (h : Eval P k np L (.int x :: S) H out) : Eval P k pc L S H out := Eval.of_step hc rfl rfl (by simp only [step, hl]) h
theorem Eval.lload_n {n : Fin 4} {x : Int64} (hc : P.code k pc = some (.lload_n n, np)) (hl : loadJ L n.val = some x) (h : Eval P k np L (.long x :: S) H out) : Eval P k pc L S H out := Eval.of_step hc rfl rfl (by simp only [step, hl]) h
theorem Eval.lload {n : Nat} {x : Int64} (hc : P.code k pc = some (.lload n, np)) (hl : loadJ L n = some x) (h : Eval P k np L (.long x :: S) H out) : Eval P k pc L S H out := Eval.of_step hc rfl rfl (by simp only [step, hl]) h
theorem Eval.aload_n {n : Fin 4} {x : Nat} (hc : P.code k pc = some (.aload_n n, np)) (hl : loadA L n.val = some x) (h : Eval P k np L (.ref x :: S) H out) : Eval P k pc L S H out := Eval.of_step hc rfl rfl (by simp only [step, hl]) h
theorem Eval.aload {n : Nat} {x : Nat} (hc : P.code k pc = some (.aload n, np)) (hl : loadA L n = some x) (h : Eval P k np L (.ref x :: S) H out) : Eval P k pc L S H out := Eval.of_step hc rfl rfl (by simp only [step, hl]) h
theorem Eval.istore_n {n : Fin 4} {x : Int32} (hc : P.code k pc = some (.istore_n n, np)) (hl : lput L n.val (.int x) = some L') (h : Eval P k np L' r H out) : Eval P k pc L (.int x :: r) H out := Eval.of_step hc rfl rfl (by simp only [step, hl]) h
theorem Eval.istore {n : Nat} {x : Int32} (hc : P.code k pc = some (.istore n, np)) (hl : lput L n (.int x) = some L') (h : Eval P k np L' r H out) : Eval P k pc L (.int x :: r) H out := Eval.of_step hc rfl rfl (by simp only [step, hl]) h
theorem Eval.astore_n {n : Fin 4} {x : Nat} (hc : P.code k pc = some (.astore_n n, np)) (hl : lput L n.val (.ref x) = some L') (h : Eval P k np L' r H out) : Eval P k pc L (.ref x :: r) H out := Eval.of_step hc rfl rfl (by simp only [step, hl]) h
theorem Eval.astore {n : Nat} {x : Nat} (hc : P.code k pc = some (.astore n, np)) (hl : lput L n (.ref x) = some L') (h : Eval P k np L' r H out) : Eval P k pc L (.ref x :: r) H out := Eval.of_step hc rfl rfl (by simp only [step, hl]) h
theorem Eval.lstore_n {n : Fin 4} {x : Int64} (hc : P.code k pc = some (.lstore_n n, np)) (hl : lputL L n.val x = some L') (h : Eval P k np L' r H out) : Eval P k pc L (.long x :: r) H out := Eval.of_step hc rfl rfl (by simp only [step, hl]) h
theorem Eval.lstore {n : Nat} {x : Int64} (hc : P.code k pc = some (.lstore n, np)) (hl : lputL L n x = some L') (h : Eval P k np L' r H out) : Eval P k pc L (.long x :: r) H out := Eval.of_step hc rfl rfl (by simp only [step, hl]) h
theorem Eval.iinc {n : Nat} {c : Int} {x : Int32} (hc : P.code k pc = some (.iinc n c, np)) (hl : loadI L n = some x) (hp : lput L n (.int (x + Int32.ofInt c)) = some L') (h : Eval P k np L' S H out) : Eval P k pc L S H out := Eval.of_step hc rfl rfl (by simp only [step, hl, hp]) h
theorem Eval.iconst {c : Int} {x : Int32} (hc : P.code k pc = some (.iconst c, np)) (hx : Int32.ofInt c = x) (h : Eval P k np L (.int x :: S) H out) : Eval P k pc L S H out := Eval.of_step hc rfl rfl (by subst hx; rfl) h
theorem Eval.bipush {c : Int} {x : Int32} (hc : P.code k pc = some (.bipush c, np)) (hx : (Int8.ofInt c).toInt32 = x) (h : Eval P k np L (.int x :: S) H out) : Eval P k pc L S H out := Eval.of_step hc rfl rfl (by subst hx; rfl) h
theorem Eval.sipush {c : Int} {x : Int32} (hc : P.code k pc = some (.sipush c, np)) (hx : (Int16.ofInt c).toInt32 = x) (h : Eval P k np L (.int x :: S) H out) : Eval P k pc L S H out := Eval.of_step hc rfl rfl (by subst hx; rfl) h
theorem Eval.lconst {c : Fin 2} {x : Int64} (hc : P.code k pc = some (.lconst c, np)) (hx : Int64.ofNat c = x) (h : Eval P k np L (.long x :: S) H out) : Eval P k pc L S H out := Eval.of_step hc rfl rfl (by subst hx; rfl) h
theorem Eval.ldc {j : Nat} {x : Int32} (hc : P.code k pc = some (.ldc j, np)) (hx : P.kon (P.cls k) j = some (.int x)) (h : Eval P k np L (.int x :: S) H out) : Eval P k pc L S H out := Eval.of_step hc rfl rfl (by simp only [step, hx]) h
theorem Eval.ldc2_w {j : Nat} {x : Int64} (hc : P.code k pc = some (.ldc2_w j, np)) (hx : P.kon (P.cls k) j = some (.long x)) (h : Eval P k np L (.long x :: S) H out) : Eval P k pc L S H out := Eval.of_step hc rfl rfl (by simp only [step, hx]) h
theorem Eval.idiv {x y : Int32} (hc : P.code k pc = some (.idiv, np)) (hy : ¬ y = 0) (h : Eval P k np L (.int (x / y) :: r) H out) : Eval P k pc L (.int y :: .int x :: r) H out := Eval.of_step hc rfl rfl (by simp [step, hy]) h
theorem Eval.irem {x y : Int32} (hc : P.code k pc = some (.irem, np)) (hy : ¬ y = 0) (h : Eval P k np L (.int (x % y) :: r) H out) : Eval P k pc L (.int y :: .int x :: r) H out := Eval.of_step hc rfl rfl (by simp [step, hy]) h
theorem Eval.iadd {x y : Int32} (hc : P.code k pc = some (.iadd, np))  (h : Eval P k np L (.int (x + y) :: r) H out) : Eval P k pc L (.int y :: .int x :: r) H out := Eval.of_step hc rfl rfl (by rfl) h
theorem Eval.isub {x y : Int32} (hc : P.code k pc = some (.isub, np))  (h : Eval P k np L (.int (x - y) :: r) H out) : Eval P k pc L (.int y :: .int x :: r) H out := Eval.of_step hc rfl rfl (by rfl) h
theorem Eval.imul {x y : Int32} (hc : P.code k pc = some (.imul, np))  (h : Eval P k np L (.int (x * y) :: r) H out) : Eval P k pc L (.int y :: .int x :: r) H out := Eval.of_step hc rfl rfl (by rfl) h
theorem Eval.iand {x y : Int32} (hc : P.code k pc = some (.iand, np))  (h : Eval P k np L (.int (x &&& y) :: r) H out) : Eval P k pc L (.int y :: .int x :: r) H out := Eval.of_step hc rfl rfl (by rfl) h
theorem Eval.ior {x y : Int32} (hc : P.code k pc = some (.ior, np))  (h : Eval P k np L (.int (x ||| y) :: r) H out) : Eval P k pc L (.int y :: .int x :: r) H out := Eval.of_step hc rfl rfl (by rfl) h
theorem Eval.ixor {x y : Int32} (hc : P.code k pc = some (.ixor, np))  (h : Eval P k np L (.int (x ^^^ y) :: r) H out) : Eval P k pc L (.int y :: .int x :: r) H out := Eval.of_step hc rfl rfl (by rfl) h
theorem Eval.ishl {x y : Int32} (hc : P.code k pc = some (.ishl, np))  (h : Eval P k np L (.int (ish x y) :: r) H out) : Eval P k pc L (.int y :: .int x :: r) H out := Eval.of_step hc rfl rfl (by rfl) h
theorem Eval.ishr {x y : Int32} (hc : P.code k pc = some (.ishr, np))  (h : Eval P k np L (.int (isr x y) :: r) H out) : Eval P k pc L (.int y :: .int x :: r) H out := Eval.of_step hc rfl rfl (by rfl) h
theorem Eval.iushr {x y : Int32} (hc : P.code k pc = some (.iushr, np))  (h : Eval P k np L (.int (ush x y) :: r) H out) : Eval P k pc L (.int y :: .int x :: r) H out := Eval.of_step hc rfl rfl (by rfl) h
theorem Eval.ladd {x y : Int64} (hc : P.code k pc = some (.ladd, np))  (h : Eval P k np L (.long (x + y) :: r) H out) : Eval P k pc L (.long y :: .long x :: r) H out := Eval.of_step hc rfl rfl (by rfl) h
theorem Eval.lsub {x y : Int64} (hc : P.code k pc = some (.lsub, np))  (h : Eval P k np L (.long (x - y) :: r) H out) : Eval P k pc L (.long y :: .long x :: r) H out := Eval.of_step hc rfl rfl (by rfl) h
theorem Eval.lmul {x y : Int64} (hc : P.code k pc = some (.lmul, np))  (h : Eval P k np L (.long (x * y) :: r) H out) : Eval P k pc L (.long y :: .long x :: r) H out := Eval.of_step hc rfl rfl (by rfl) h
theorem Eval.land {x y : Int64} (hc : P.code k pc = some (.land, np))  (h : Eval P k np L (.long (x &&& y) :: r) H out) : Eval P k pc L (.long y :: .long x :: r) H out := Eval.of_step hc rfl rfl (by rfl) h
theorem Eval.lor {x y : Int64} (hc : P.code k pc = some (.lor, np))  (h : Eval P k np L (.long (x ||| y) :: r) H out) : Eval P k pc L (.long y :: .long x :: r) H out := Eval.of_step hc rfl rfl (by rfl) h
theorem Eval.lxor {x y : Int64} (hc : P.code k pc = some (.lxor, np))  (h : Eval P k np L (.long (x ^^^ y) :: r) H out) : Eval P k pc L (.long y :: .long x :: r) H out := Eval.of_step hc rfl rfl (by rfl) h
theorem Eval.lshl {x : Int64} {y : Int32} (hc : P.code k pc = some (.lshl, np))  (h : Eval P k np L (.long (lsh x y) :: r) H out) : Eval P k pc L (.int y :: .long x :: r) H out := Eval.of_step hc rfl rfl (by rfl) h
theorem Eval.lushr {x : Int64} {y : Int32} (hc : P.code k pc = some (.lushr, np))  (h : Eval P k np L (.long (lus x y) :: r) H out) : Eval P k pc L (.int y :: .long x :: r) H out := Eval.of_step hc rfl rfl (by rfl) h
theorem Eval.lcmp {x y : Int64} (hc : P.code k pc = some (.lcmp, np))  (h : Eval P k np L (.int (lcm x y) :: r) H out) : Eval P k pc L (.long y :: .long x :: r) H out := Eval.of_step hc rfl rfl (by rfl) h
theorem Eval.lneg {x : Int64} (hc : P.code k pc = some (.lneg, np))  (h : Eval P k np L (.long (-x) :: r) H out) : Eval P k pc L (.long x :: r) H out := Eval.of_step hc rfl rfl (by rfl) h
theorem Eval.i2l {x : Int32} (hc : P.code k pc = some (.i2l, np))  (h : Eval P k np L (.long x.toInt64 :: r) H out) : Eval P k pc L (.int x :: r) H out := Eval.of_step hc rfl rfl (by rfl) h
theorem Eval.l2i {x : Int64} (hc : P.code k pc = some (.l2i, np))  (h : Eval P k np L (.int x.toInt32 :: r) H out) : Eval P k pc L (.long x :: r) H out := Eval.of_step hc rfl rfl (by rfl) h
theorem Eval.i2b {x : Int32} (hc : P.code k pc = some (.i2b, np))  (h : Eval P k np L (.int (i8 x) :: r) H out) : Eval P k pc L (.int x :: r) H out := Eval.of_step hc rfl rfl (by rfl) h
theorem Eval.dupR {x : Nat} (hc : P.code k pc = some (.dup, np))  (h : Eval P k np L (.ref x :: .ref x :: r) H out) : Eval P k pc L (.ref x :: r) H out := Eval.of_step hc rfl rfl (by rfl) h
theorem Eval.dupI {x : Int32} (hc : P.code k pc = some (.dup, np))  (h : Eval P k np L (.int x :: .int x :: r) H out) : Eval P k pc L (.int x :: r) H out := Eval.of_step hc rfl rfl (by rfl) h
theorem Eval.dup2 {x : Int32} {y : Nat} (hc : P.code k pc = some (.dup2, np))  (h : Eval P k np L (.int x :: .ref y :: .int x :: .ref y :: r) H out) : Eval P k pc L (.int x :: .ref y :: r) H out := Eval.of_step hc rfl rfl (by rfl) h
theorem Eval.popI {x : Int32} (hc : P.code k pc = some (.pop, np))  (h : Eval P k np L r H out) : Eval P k pc L (.int x :: r) H out := Eval.of_step hc rfl rfl (by rfl) h
theorem Eval.popR {x : Nat} (hc : P.code k pc = some (.pop, np))  (h : Eval P k np L r H out) : Eval P k pc L (.ref x :: r) H out := Eval.of_step hc rfl rfl (by rfl) h
theorem Eval.goto {o : Int} {t : Nat} (hc : P.code k pc = some (.goto o, np)) (ht : tgt pc o = some t) (h : Eval P k t L S H out) : Eval P k pc L S H out := Eval.of_step hc rfl rfl (by simp only [step, ht]) h
theorem Eval.ifT {cd : ClassFile.Cond} {o : Int} {t : Nat} {x : Int32} (hc : P.code k pc = some (.ifCond cd o, np)) (ht : tgt pc o = some t) (hb : if_icmp.holds cd x 0 = true) (h : Eval P k t L r H out) : Eval P k pc L (.int x :: r) H out := Eval.of_step hc rfl rfl (by simp only [step, ht, hb, cond_true]) h
theorem Eval.ifF {cd : ClassFile.Cond} {o : Int} {x : Int32} (hc : P.code k pc = some (.ifCond cd o, np)) (hb : if_icmp.holds cd x 0 = false) (h : Eval P k np L r H out) : Eval P k pc L (.int x :: r) H out := Eval.of_step hc rfl rfl (by simp only [step, hb, cond_false]) h
theorem Eval.icmpT {cd : ClassFile.Cond} {o : Int} {t : Nat} {x y : Int32} (hc : P.code k pc = some (.if_icmp cd o, np)) (ht : tgt pc o = some t) (hb : if_icmp.holds cd x y = true) (h : Eval P k t L r H out) : Eval P k pc L (.int y :: .int x :: r) H out := Eval.of_step hc rfl rfl (by simp only [step, ht, hb, cond_true]) h
theorem Eval.icmpF {cd : ClassFile.Cond} {o : Int} {x y : Int32} (hc : P.code k pc = some (.if_icmp cd o, np)) (hb : if_icmp.holds cd x y = false) (h : Eval P k np L r H out) : Eval P k pc L (.int y :: .int x :: r) H out := Eval.of_step hc rfl rfl (by simp only [step, hb, cond_false]) h
theorem Eval.tswIn {d lo hi o : Int} {offs : Array Int} {t : Nat} {x : Int32} (hc : P.code k pc = some (.tableswitch d lo hi offs, np)) (h1 : (decide (x.toInt < lo) || decide (x.toInt > hi)) = false) (h2 : offs.toList[(x.toInt - lo).toNat]? = some o) (ht : tgt pc o = some t) (h : Eval P k t L r H out) : Eval P k pc L (.int x :: r) H out := Eval.of_step hc rfl rfl (by simp only [step, h1, h2, ht, cond_false]) h
theorem Eval.tswOut {d lo hi : Int} {offs : Array Int} {t : Nat} {x : Int32} (hc : P.code k pc = some (.tableswitch d lo hi offs, np)) (h1 : (decide (x.toInt < lo) || decide (x.toInt > hi)) = true) (ht : tgt pc d = some t) (h : Eval P k t L r H out) : Eval P k pc L (.int x :: r) H out := Eval.of_step hc rfl rfl (by simp only [step, h1, ht, cond_true]) h
theorem Eval.getfield {j f a : Nat} {v : Value} (hc : P.code k pc = some (.getfield j, np)) (hf : P.fld (P.cls k) j = some f) (hg : getC H a f = some v) (h : Eval P k np L (v :: r) H out) : Eval P k pc L (.ref a :: r) H out := Eval.of_step hc rfl rfl (by simp only [step, hf, hg]) h
/-- the heap with a field written -/
def putC (P : Prog) (k : Nat) (H : AHeap) (a f : Nat) (v : Value) : Option AHeap := match P.fields[f]? with
  | some (_, _, t, fin) => (bif (!fin || P.ini k) && Nat.ble P.ro a then (match conv t v with
    | some v' => (match H[a]? with
      | some (.inl fs) => (bif Nat.ble (f + 1) fs.length then some (H.set a (.inl (fs.set f v'))) else none)
      | _ => none)
    | none => none) else none)
  | none => none
theorem putC_spec {P : Prog} {k a f : Nat} {v : Value} {H H1 : AHeap} (hp : putC P k H a f v = some H1) : ∃ n d t fin v' fs, P.fields[f]? = some (n, d, t, fin) ∧ ((!fin || P.ini k) && Nat.ble P.ro a) = true ∧ conv t v = some v' ∧ H[a]? = some (.inl fs) ∧ Nat.ble (f + 1) fs.length = true ∧ H1 = H.set a (.inl (fs.set f v')) := by
  unfold putC at hp
  simp only [Bool.cond_eq_ite] at hp
  split at hp
  · rename_i n d t fin hq
    split at hp
    · rename_i hc
      split at hp
      · rename_i v' hv
        split at hp
        · rename_i fs hfs
          split at hp
          · rename_i hz
            cases hp; exact ⟨n, d, t, fin, v', fs, hq, hc, hv, hfs, hz, rfl⟩
          · cases hp
        · cases hp
      · cases hp
    · cases hp
  · cases hp
theorem step_put {j f a : Nat} {v : Value} {H1 : AHeap} (hf : P.fld (P.cls k) j = some f) (hp : putC P k H a f v = some H1) : step P k (.putfield j) np pc L (v :: .ref a :: r) H = some (np, L, r, H1) := by
  obtain ⟨n, d, t, fin, v', fs, h1, h2, h3, h4, h5, rfl⟩ := putC_spec hp
  simp only [step, hf, h1, h2, h3, h4, h5, cond_true]
theorem Eval.putfield {j f a : Nat} {v : Value} {H1 : AHeap} (hc : P.code k pc = some (.putfield j, np)) (hf : P.fld (P.cls k) j = some f) (hp : putC P k H a f v = some H1) (h : Eval P k np L r H1 out) : Eval P k pc L (v :: .ref a :: r) H out := Eval.of_step hc rfl rfl (step_put hf hp) h
theorem Eval.iaload0 {a : Nat} {j : Int32} {xs : List Int32} (hc : P.code k pc = some (.iaload, np)) (ha : H[a]? = some (.inr (.inl (0, xs)))) (hj : inb xs.length j = true) (h : Eval P k np L (.int (rd xs j) :: r) H out) : Eval P k pc L (.int j :: .ref a :: r) H out := Eval.of_step hc rfl rfl (by simp only [step, ha, hj, cond_true]) h
theorem Eval.iaload {a : Nat} {j : Int32} {xs : List Int32} (hc : P.code k pc = some (.iaload, np)) (ha : H[a]? = some (.inr (.inl (1, xs)))) (hj : inb xs.length j = true) (h : Eval P k np L (.int (rd xs j) :: r) H out) : Eval P k pc L (.int j :: .ref a :: r) H out := Eval.of_step hc rfl rfl (by simp only [step, ha, hj, cond_true]) h
theorem Eval.baloadZ {a : Nat} {j : Int32} {xs : List Int32} (hc : P.code k pc = some (.baload, np)) (ha : H[a]? = some (.inr (.inl (2, xs)))) (hj : inb xs.length j = true) (h : Eval P k np L (.int (rd xs j) :: r) H out) : Eval P k pc L (.int j :: .ref a :: r) H out := Eval.of_step hc rfl rfl (by simp only [step, ha, hj, cond_true]) h
theorem Eval.baloadB {a : Nat} {j : Int32} {xs : List Int32} (hc : P.code k pc = some (.baload, np)) (ha : H[a]? = some (.inr (.inl (3, xs)))) (hj : inb xs.length j = true) (h : Eval P k np L (.int (rd xs j) :: r) H out) : Eval P k pc L (.int j :: .ref a :: r) H out := Eval.of_step hc rfl rfl (by simp only [step, ha, hj, cond_true]) h
theorem Eval.laload {a : Nat} {j : Int32} {xs : List Int64} (hc : P.code k pc = some (.laload, np)) (ha : H[a]? = some (.inr (.inr xs))) (hj : inb xs.length j = true) (h : Eval P k np L (.long (rdL xs j) :: r) H out) : Eval P k pc L (.int j :: .ref a :: r) H out := Eval.of_step hc rfl rfl (by simp only [step, ha, hj, cond_true]) h
theorem Eval.iastore {a : Nat} {j : Int32} {x : Int32} {xs : List Int32} {H1 : AHeap} (hc : P.code k pc = some (.iastore, np)) (hro : Nat.ble P.ro a = true) (ha : H[a]? = some (.inr (.inl (1, xs)))) (hj : inb xs.length j = true) (hH : H.set a (.inr (.inl (1, wr xs j x))) = H1) (h : Eval P k np L r H1 out) : Eval P k pc L (.int x :: .int j :: .ref a :: r) H out := Eval.of_step hc rfl rfl (by subst hH; simp only [step, hro, ha, hj, cond_true]; try rfl) h
theorem Eval.bastoreZ {a : Nat} {j : Int32} {x : Int32} {xs : List Int32} {H1 : AHeap} (hc : P.code k pc = some (.bastore, np)) (hro : Nat.ble P.ro a = true) (ha : H[a]? = some (.inr (.inl (2, xs)))) (hj : inb xs.length j = true) (hH : H.set a (.inr (.inl (2, wr xs j (x &&& 1)))) = H1) (h : Eval P k np L r H1 out) : Eval P k pc L (.int x :: .int j :: .ref a :: r) H out := Eval.of_step hc rfl rfl (by subst hH; simp only [step, hro, ha, hj, cond_true]; try rfl) h
theorem Eval.bastoreB {a : Nat} {j : Int32} {x : Int32} {xs : List Int32} {H1 : AHeap} (hc : P.code k pc = some (.bastore, np)) (hro : Nat.ble P.ro a = true) (ha : H[a]? = some (.inr (.inl (3, xs)))) (hj : inb xs.length j = true) (hH : H.set a (.inr (.inl (3, wr xs j (i8 x)))) = H1) (h : Eval P k np L r H1 out) : Eval P k pc L (.int x :: .int j :: .ref a :: r) H out := Eval.of_step hc rfl rfl (by subst hH; simp only [step, hro, ha, hj, cond_true]; try rfl) h
theorem Eval.lastore {a : Nat} {j : Int32} {x : Int64} {xs : List Int64} {H1 : AHeap} (hc : P.code k pc = some (.lastore, np)) (hro : Nat.ble P.ro a = true) (ha : H[a]? = some (.inr (.inr xs))) (hj : inb xs.length j = true) (hH : H.set a (.inr (.inr (wrL xs j x))) = H1) (h : Eval P k np L r H1 out) : Eval P k pc L (.long x :: .int j :: .ref a :: r) H out := Eval.of_step hc rfl rfl (by subst hH; simp only [step, hro, ha, hj, cond_true]; try rfl) h
theorem Eval.alenI {a t : Nat} {xs : List Int32} (hc : P.code k pc = some (.arraylength, np)) (ha : H[a]? = some (.inr (.inl (t, xs)))) (h : Eval P k np L (.int xs.length.toInt32 :: r) H out) : Eval P k pc L (.ref a :: r) H out := Eval.of_step hc rfl rfl (by simp only [step, ha]) h
theorem Eval.newarray {t : ArrayType} {n : Int32} {q a z N : Nat} {H1 : AHeap} (hc : P.code k pc = some (.newarray t, np)) (hla : H.length = a) (ht : atyOf t = some q) (hn : decide (n < 0) = false) (hN : n.toNatClampNeg = N) (hb : N ≤ 60000) (hC : a + 1 ≤ P.capC) (hz : hsz P H = z) (hS : z + N ≤ P.capS) (hH : H ++ [newC q N] = H1) (h : Eval P k np L (.ref a :: r) H1 out) : Eval P k pc L (.int n :: r) H out := by
  subst hla hN hz
  have hq : (!(decide (n < 0)) && Nat.ble n.toNatClampNeg 60000 && Nat.ble (H.length + 1) P.capC && Nat.ble (hsz P H + n.toNatClampNeg) P.capS) = true := by
    simp only [hn, Bool.not_false, Bool.true_and, Bool.and_eq_true]
    exact ⟨⟨Nat.ble_eq_true_of_le hb, Nat.ble_eq_true_of_le hC⟩, Nat.ble_eq_true_of_le hS⟩
  exact Eval.of_step hc rfl rfl (by simp only [step, ht, hq, cond_true, hH]) h
theorem Eval.new {j q a z : Nat} {H1 : AHeap} (hc : P.code k pc = some (.new j, np)) (hla : H.length = a) (ht : P.link (P.cls k) j = some (5, q)) (hC : a + 1 ≤ P.capC) (hz : hsz P H = z) (hS : z + P.objN ≤ P.capS) (hH : H ++ [.inl P.fresh] = H1) (h : Eval P k np L (.ref a :: S) H1 out) : Eval P k pc L S H out := by
  subst hla hz
  have hq : (Nat.ble (H.length + 1) P.capC && Nat.ble (hsz P H + P.objN) P.capS) = true := by
    simp only [Bool.and_eq_true]
    exact ⟨Nat.ble_eq_true_of_le hC, Nat.ble_eq_true_of_le hS⟩
  exact Eval.of_step hc rfl rfl (by simp only [step, ht, hq, cond_true, hH]) h
theorem Eval.objInit {j a : Nat} (hc : P.code k pc = some (.invokespecial j, np)) (hq : (isObjInit P k j && Nat.ble 1 (P.rf k) && Nat.ble (cats r + 12) (P.rl k)) = true) (h : Eval P k np L r H out) : Eval P k pc L (.ref a :: r) H out := by
  refine Eval.of_step hc rfl ?_ (by simp only [step, hq, cond_true]) h
  simp only [Bool.and_eq_true] at hq
  have h3 := hq.1.1
  unfold isObjInit at h3
  split at h3
  · rename_i kk hk
    simp [callV, poolOf, hk, kindOk]
  · cases h3
/-- the left knows at least what the right knows -/
def lw : ALoc → ALoc → Prop
  | [], b => b = []
  | a :: r, b => ∃ x r', b = x :: r' ∧ (x = none ∨ x = a) ∧ lw r r'
theorem lw.refl : ∀ L : ALoc, lw L L
  | [] => rfl
  | a :: r => ⟨a, r, rfl, Or.inr rfl, lw.refl r⟩
theorem lw.spec : ∀ {L L' : ALoc}, lw L L' → L.length = L'.length ∧ ∀ (i : Nat) v, L'[i]? = some (some v) → L[i]? = some (some v)
  | [], _, h => by cases h; exact ⟨rfl, fun i v q => by simp at q⟩
  | a :: r, _, ⟨x, r', e, h1, h2⟩ => by
    subst e
    obtain ⟨i1, i2⟩ := lw.spec h2
    refine ⟨by simp [i1], fun i v q => ?_⟩
    cases i with
    | zero =>
      simp only [List.getElem?_cons_zero, Option.some.injEq] at q ⊢
      rcases h1 with rfl | rfl
      · cases q
      · exact q
    | succ i => rw [List.getElem?_cons_succ] at q ⊢; exact i2 i v q
theorem lw.of : ∀ {L L' : ALoc}, L.length = L'.length → (∀ (i : Nat) v, L'[i]? = some (some v) → L[i]? = some (some v)) → lw L L'
  | [], L', h, _ => by cases L' with
    | nil => rfl
    | cons _ _ => simp at h
  | a :: r, L', h, q => by
    cases L' with
    | nil => simp at h
    | cons x r' =>
      refine ⟨x, r', rfl, ?_, lw.of (by simpa using h) fun i v e => ?_⟩
      · cases x with
        | none => exact Or.inl rfl
        | some v => have := q 0 v rfl; simp at this; exact Or.inr this.symm
      · have := q (i + 1) v (by rw [List.getElem?_cons_succ]; exact e); rwa [List.getElem?_cons_succ] at this
theorem lw.kill {L L' : ALoc} (h : lw L L') (i : Nat) : lw (kill1 L i) (kill1 L' i) := by
  obtain ⟨h1, h2⟩ := h.spec
  refine lw.of (by rw [kill1_len, kill1_len, h1]) fun j v q => ?_
  obtain ⟨q1, q2⟩ := kill1_get q
  have q3 := h2 _ _ q1
  unfold kill1
  split
  · exact q3
  · rename_i i
    split
    · rename_i x hx
      by_cases e : i = j
      · subst e; rw [hx] at q3; cases q3; exact absurd rfl (q2 rfl x)
      · rw [List.getElem?_set_ne e]; exact q3
    · exact q3
theorem lw.set {L L' : ALoc} (h : lw L L') (i : Nat) (x : Option Value) : lw (L.set i x) (L'.set i x) := by
  obtain ⟨h1, h2⟩ := h.spec
  refine lw.of (by simp [h1]) fun j v q => ?_
  rw [List.getElem?_set] at q ⊢
  split at q
  · rename_i e
    rw [if_pos e, h1]; exact q
  · rename_i e
    rw [if_neg e]; exact h2 _ _ q
theorem lw.put {L L' L1 : ALoc} (h : lw L L') {i : Nat} {v : Value} (hp : lput L' i v = some L1) : ∃ L2, lput L i v = some L2 ∧ lw L2 L1 := by
  unfold lput at hp ⊢
  rw [h.spec.1]
  rw [Bool.cond_eq_ite] at hp ⊢
  split at hp
  · rename_i hc
    cases hp; exact ⟨_, if_pos hc, (h.kill i).set i _⟩
  · cases hp
theorem lw.putL {L L' L1 : ALoc} (h : lw L L') {i : Nat} {v : Int64} (hp : lputL L' i v = some L1) : ∃ L2, lputL L i v = some L2 ∧ lw L2 L1 := by
  unfold lputL at hp ⊢
  rw [h.spec.1]
  rw [Bool.cond_eq_ite] at hp ⊢
  split at hp
  · rename_i hc
    cases hp; exact ⟨_, if_pos hc, ((h.kill i).set i _).set (i + 1) _⟩
  · cases hp
theorem lw.loadI {L L' : ALoc} (h : lw L L') {i : Nat} {x : Int32} (q : OwnX.loadI L' i = some x) : OwnX.loadI L i = some x := by
  unfold OwnX.loadI at q ⊢
  split at q
  · rename_i y hy
    rw [h.spec.2 _ _ hy]; exact q
  · cases q
theorem lw.loadJ {L L' : ALoc} (h : lw L L') {i : Nat} {x : Int64} (q : OwnX.loadJ L' i = some x) : OwnX.loadJ L i = some x := by
  unfold OwnX.loadJ at q ⊢
  split at q
  · rename_i y hy
    rw [h.spec.2 _ _ hy]; exact q
  · cases q
theorem lw.loadA {L L' : ALoc} (h : lw L L') {i x : Nat} (q : OwnX.loadA L' i = some x) : OwnX.loadA L i = some x := by
  unfold OwnX.loadA at q ⊢
  split at q
  · rename_i y hy
    rw [h.spec.2 _ _ hy]; exact q
  · cases q
set_option maxHeartbeats 4000000 in
theorem step_weak {i : Instr} {pc' : Nat} {S' : List Value} {H' : AHeap} {L1 : ALoc} (hw : lw L L') (h : step P k i np pc L' S H = some (pc', L1, S', H')) : ∃ L2, step P k i np pc L S H = some (pc', L2, S', H') ∧ lw L2 L1 := by
  cases i
  case iload_n n =>
    simp only [step] at h ⊢
    split at h
    · rename_i x hx
      rw [hw.loadI hx]; cases h; exact ⟨L, rfl, hw⟩
    · cases h
  case iload n =>
    simp only [step] at h ⊢
    split at h
    · rename_i x hx
      rw [hw.loadI hx]; cases h; exact ⟨L, rfl, hw⟩
    · cases h
  case lload_n n =>
    simp only [step] at h ⊢
    split at h
    · rename_i x hx
      rw [hw.loadJ hx]; cases h; exact ⟨L, rfl, hw⟩
    · cases h
  case lload n =>
    simp only [step] at h ⊢
    split at h
    · rename_i x hx
      rw [hw.loadJ hx]; cases h; exact ⟨L, rfl, hw⟩
    · cases h
  case aload_n n =>
    simp only [step] at h ⊢
    split at h
    · rename_i x hx
      rw [hw.loadA hx]; cases h; exact ⟨L, rfl, hw⟩
    · cases h
  case aload n =>
    simp only [step] at h ⊢
    split at h
    · rename_i x hx
      rw [hw.loadA hx]; cases h; exact ⟨L, rfl, hw⟩
    · cases h
  case istore_n n =>
    simp only [step] at h ⊢
    split at h
    · split at h
      · rename_i L3 hx
        obtain ⟨L2, e1, e2⟩ := hw.put hx
        cases h; exact ⟨L2, by simp only [e1], e2⟩
      · cases h
    · cases h
  case istore n =>
    simp only [step] at h ⊢
    split at h
    · split at h
      · rename_i L3 hx
        obtain ⟨L2, e1, e2⟩ := hw.put hx
        cases h; exact ⟨L2, by simp only [e1], e2⟩
      · cases h
    · cases h
  case astore_n n =>
    simp only [step] at h ⊢
    split at h
    · split at h
      · rename_i L3 hx
        obtain ⟨L2, e1, e2⟩ := hw.put hx
        cases h; exact ⟨L2, by simp only [e1], e2⟩
      · cases h
    · cases h
  case astore n =>
    simp only [step] at h ⊢
    split at h
    · split at h
      · rename_i L3 hx
        obtain ⟨L2, e1, e2⟩ := hw.put hx
        cases h; exact ⟨L2, by simp only [e1], e2⟩
      · cases h
    · cases h
  case lstore_n n =>
    simp only [step] at h ⊢
    split at h
    · split at h
      · rename_i L3 hx
        obtain ⟨L2, e1, e2⟩ := hw.putL hx
        cases h; exact ⟨L2, by simp only [e1], e2⟩
      · cases h
    · cases h
  case lstore n =>
    simp only [step] at h ⊢
    split at h
    · split at h
      · rename_i L3 hx
        obtain ⟨L2, e1, e2⟩ := hw.putL hx
        cases h; exact ⟨L2, by simp only [e1], e2⟩
      · cases h
    · cases h
  case iinc n c =>
    simp only [step] at h ⊢
    split at h
    · rename_i x hx
      rw [hw.loadI hx]
      split at h
      · rename_i L3 hp
        obtain ⟨L2, e1, e2⟩ := hw.put hp
        cases h; exact ⟨L2, by simp only [e1], e2⟩
      · cases h
    · cases h
  all_goals
    simp only [step, Bool.cond_eq_ite] at h ⊢
    repeat' (split at h)
  all_goals first
    | (cases h; done)
    | (simp only [Option.some.injEq, Prod.mk.injEq] at h; obtain ⟨rfl, rfl, rfl, rfl⟩ := h; refine ⟨L, ?_, hw⟩; first | rfl | (simp only [*, if_true, if_false]; done) | (simp [*]; done))
theorem run_weak : ∀ (n : Nat) {pc : Nat} {L L' : ALoc} {S : List Value} {H : AHeap} {out : Option Value × AHeap}, lw L L' → run P n k pc L' S H = some out → run P n k pc L S H = some out
  | 0, _, _, _, _, _, _, _, h => by simp [run] at h
  | n + 1, pc, L, L', S, H, out, hw, h => by
    rw [run] at h
    rw [run]
    split at h
    · cases h
    · rename_i i np hc
      try simp only [hc]
      split at h
      · rename_i v hv
        try simp only [hv]
        exact h
      · rename_i hv
        try simp only [hv]
        split at h
        · rename_i k' as rest hcall
          try simp only [hcall]
          split at h
          · rename_i v1 H1 h1
            try simp only [h1]
            exact run_weak n hw h
          · cases h
        · rename_i hcall
          try simp only [hcall]
          split at h
          · rename_i pc1 L1 S1 H1 h1
            obtain ⟨L2, e1, e2⟩ := step_weak hw h1
            simp only [e1]; exact run_weak n e2 h
          · cases h
theorem Eval.weak (hw : lw L L') (h : Eval P k pc L' S H out) : Eval P k pc L S H out := by
  obtain ⟨n, h⟩ := h
  exact ⟨n, run_weak n hw h⟩
end Rules
end Jvm.OwnX
namespace Jvm.OwnX
open Sem ClassFile Op Lib Jvm.Stand Jvm.Free Jvm.LawKit Jvm.RoadKit
/-! ## tables as lists -/
def findC : List (Nat × Instr × Nat) → Nat → Option (Instr × Nat)
  | [], _ => none
  | (q, x) :: r, pc => bif Nat.beq q pc then some x else findC r pc
abbrev CodeL := List (ByteArray × List (List (Nat × Instr × Nat)))
def codeAt (cs : CodeL) (k pc : Nat) : Option (Instr × Nat) := match cs[k]? with
  | some (_, ch) => (match ch[pc / 32]? with | some c => findC c pc | none => none)
  | none => none
def bcOf (cs : CodeL) (k : Nat) : ByteArray := match cs[k]? with | some (b, _) => b | none => ⟨#[]⟩
def okI (b : ByteArray) (e : Nat × Instr × Nat) : Bool := match decode b e.1 with
  | .ok (i, len) => decide (i = e.2.1) && Nat.beq (e.1 + len) e.2.2 && (Nat.beq (ilen i) 0 || Nat.beq len (ilen i))
  | _ => false
def okCs (cs : CodeL) : Bool := cs.all fun m => m.2.all fun c => c.all (okI m.1)
def tyCs (ty : ArrayType → Bool) (cs : CodeL) : Bool := cs.all fun m => m.2.all fun c => c.all fun e => match e.2.1 with | .newarray t => ty t | _ => true
theorem findC_mem : ∀ {l : List (Nat × Instr × Nat)} {pc : Nat} {x : Instr × Nat}, findC l pc = some x → (pc, x) ∈ l
  | [], pc, x, h => by cases h
  | (q, y) :: r, pc, x, h => by
    unfold findC at h
    cases hb : Nat.beq q pc
    · rw [hb] at h; exact List.mem_cons_of_mem _ (findC_mem h)
    · rw [hb] at h; cases h
      have : q = pc := Nat.eq_of_beq_eq_true hb
      subst this; exact List.mem_cons_self ..
theorem codeAt_mem {cs : CodeL} {k pc : Nat} {x : Instr × Nat} (h : codeAt cs k pc = some x) : ∃ m ∈ cs, bcOf cs k = m.1 ∧ ∃ c ∈ m.2, (pc, x) ∈ c := by
  unfold codeAt at h
  split at h
  · rename_i b ch hk
    split at h
    · rename_i c hc
      exact ⟨(b, ch), List.mem_of_getElem? hk, by simp [bcOf, hk], c, List.mem_of_getElem? hc, findC_mem h⟩
    · cases h
  · cases h
theorem code_ok {cs : CodeL} (h : okCs cs = true) {k pc : Nat} {i : Instr} {np : Nat} (hc : codeAt cs k pc = some (i, np)) : ∃ len, decode (bcOf cs k) pc = .ok (i, len) ∧ np = pc + len ∧ (ilen i = 0 ∨ len = ilen i) := by
  obtain ⟨m, h1, h2, c, h3, h4⟩ := codeAt_mem hc
  have q := List.all_eq_true.mp (List.all_eq_true.mp (List.all_eq_true.mp h m h1) c h3) _ h4
  unfold okI at q
  rw [h2]
  split at q
  · rename_i i' len hd
    simp only [Bool.and_eq_true, Bool.or_eq_true, decide_eq_true_eq] at q
    obtain ⟨⟨rfl, q2⟩, q3⟩ := q
    refine ⟨len, hd, (Nat.eq_of_beq_eq_true q2).symm, q3.elim (fun z => Or.inl (Nat.eq_of_beq_eq_true z)) fun z => Or.inr (Nat.eq_of_beq_eq_true z)⟩
  · cases q
theorem code_ty {ty : ArrayType → Bool} {cs : CodeL} (h : tyCs ty cs = true) {k pc : Nat} {t : ArrayType} {np : Nat} (hc : codeAt cs k pc = some (.newarray t, np)) : ty t = true := by
  obtain ⟨m, h1, h2, c, h3, h4⟩ := codeAt_mem hc
  exact List.all_eq_true.mp (List.all_eq_true.mp (List.all_eq_true.mp h m h1) c h3) _ h4
def lookT {α : Type} : List (Nat × Nat × α) → Nat → Nat → Option α
  | [], _, _ => none
  | (c', j', x) :: r, c, j => bif Nat.beq j' j && Nat.beq c' c then some x else lookT r c j
theorem lookT_mem {α : Type} : ∀ {l : List (Nat × Nat × α)} {c j : Nat} {x : α}, lookT l c j = some x → (c, j, x) ∈ l
  | [], c, j, x, h => by cases h
  | (c', j', y) :: r, c, j, x, h => by
    unfold lookT at h
    cases hb : (Nat.beq j' j && Nat.beq c' c)
    · rw [hb] at h; exact List.mem_cons_of_mem _ (lookT_mem h)
    · rw [hb] at h; cases h
      simp only [Bool.and_eq_true] at hb
      have h1 : j' = j := Nat.eq_of_beq_eq_true hb.1
      have h2 : c' = c := Nat.eq_of_beq_eq_true hb.2
      subst h1 h2; exact List.mem_cons_self ..
def AllP {α : Type} (p : α → Prop) : List α → Prop
  | [] => True
  | a :: r => p a ∧ AllP p r
theorem AllP.mem {α : Type} {p : α → Prop} : ∀ {l : List α}, AllP p l → ∀ a ∈ l, p a
  | [], _, a, h => nomatch h
  | _ :: _, ⟨h1, h2⟩, a, h => (List.mem_cons.mp h).elim (fun e => e ▸ h1) (AllP.mem h2 a)
def FldOk (P : Prog) (cn : Nat → String) (C : String) (Z : State) (a0 : Array Value) (e : Nat × Nat × Nat) : Prop := ∃ n d t fin, P.fields[e.2.2]? = some (n, d, t, fin) ∧ (Cond.fieldLink (cn e.1) e.2.1 C n d).before a0 Z = true
def FieldOk (C : String) (Z : State) (a0 : Array Value) (e : String × String × Nat × Bool) : Prop := (bif e.2.2.2 then (Cond.laysFinal C C e.1 e.2.1).before a0 Z else (Cond.lays C C e.1 e.2.1).before a0 Z) = true ∧ ∃ ty, parseFieldDescriptor e.2.1 = some ty ∧ tyOk e.2.2.1 ty = true ∧ defaultValue ty = dflt e.2.2.1
theorem good_of {cs : CodeL} {mi : Nat → MI} {links : List (Nat × Nat × Nat × Nat)} {flds : List (Nat × Nat × Nat)} {kons : List (Nat × Nat × Value)} {fields : List (String × String × Nat × Bool)} {objN ro cc cS : Nat} {nm : Nat → MethodName} {cn : Nat → String} {C : String} {Z : State} {a0 : Array Value} {ty : ArrayType → Bool} {P : Prog}
    (hP : P = (codeAt cs, mi, lookT links, lookT flds, lookT kons, fields, objN, ro, cc, cS)) (h1 : okCs cs = true) (h2 : AllP (FldOk P cn C Z a0) flds) (h3 : AllP (FieldOk C Z a0) fields) (h4 : (fields.map (·.1)).Nodup) (h5 : AllP (fun e => KonOk cn Z a0 e.1 e.2.1 e.2.2) kons)
    (h6 : (Cond.instantiable C objN).before a0 Z = true) (h7 : (Cond.initialized C).before a0 Z = true) (h8 : tyCs ty cs = true) (h8' : ∀ t, ty t = true → (Cond.arrayClass (newarray.typeOf t)).before a0 Z = true) (h9 : AllP (fun e => LinkOk P nm (bcOf cs) cn C Z a0 e.1 e.2.1 e.2.2.1 e.2.2.2) links) : Good P nm (bcOf cs) cn C Z a0 := by
  subst hP
  refine ⟨fun k pc i np h => code_ok h1 h, fun c j f h => h2.mem _ (lookT_mem h), fun f n d t fin h => h3.mem _ (List.mem_of_getElem? h), fun f g n d t fin n' d' t' fin' q1 q2 ne e => ?_, fun c j v h => h5.mem _ (lookT_mem h), h6, h7, fun k pc t np h => h8' _ (code_ty h8 h), fun c j q k h => h9.mem _ (lookT_mem h)⟩
  subst e
  have e1 : (fields.map (·.1))[f]? = some n := by rw [List.getElem?_map]; exact congrArg (Option.map (·.1)) q1
  have e2 : (fields.map (·.1))[g]? = some n := by rw [List.getElem?_map]; exact congrArg (Option.map (·.1)) q2
  exact ne ((List.getElem?_inj (List.getElem?_eq_some_iff.mp e1).1 h4).mp (e1.trans e2.symm))
/-! ## what the walks of functions use -/
theorem ite_some {α : Type} {c : Prop} [Decidable c] {a : Option α} {r : α} (h : (if c then a else none) = some r) : c ∧ a = some r := by
  by_cases hc : c
  · rw [if_pos hc] at h; exact ⟨hc, h⟩
  · rw [if_neg hc] at h; cases h
theorem ite_none {α : Type} {c : Prop} [Decidable c] {a : Option α} {r : α} (h : (if c then none else a) = some r) : ¬ c ∧ a = some r := by
  by_cases hc : c
  · rw [if_pos hc] at h; cases h
  · rw [if_neg hc] at h; exact ⟨hc, h⟩
theorem bind_some {α β : Type} {o : Option α} {f : α → Option β} {r : β} (h : o.bind f = some r) : ∃ a, o = some a ∧ f a = some r := Option.bind_eq_some_iff.mp h
section Calls
variable {P : Prog} {k pc np : Nat} {L L' : ALoc} {S S' : List Value} {H H1 : AHeap} {out : Option Value × AHeap} {i : Instr} {k' : Nat} {as rest : List Value}
theorem Eval.callI {x : Int32} (hc : P.code k pc = some (i, np)) (h2 : callV P k i S H = some (k', as, rest)) (he : Eval P k' 0 (entry P k' as) [] H (some (.int x), H1)) (h : Eval P k np L (.int x :: rest) H1 out) : Eval P k pc L S H out := Eval.call hc h2 he h
theorem Eval.callJ {x : Int64} (hc : P.code k pc = some (i, np)) (h2 : callV P k i S H = some (k', as, rest)) (he : Eval P k' 0 (entry P k' as) [] H (some (.long x), H1)) (h : Eval P k np L (.long x :: rest) H1 out) : Eval P k pc L S H out := Eval.call hc h2 he h
theorem Eval.callN (hc : P.code k pc = some (i, np)) (h2 : callV P k i S H = some (k', as, rest)) (he : Eval P k' 0 (entry P k' as) [] H (none, H1)) (h : Eval P k np L rest H1 out) : Eval P k pc L S H out := Eval.call hc h2 he h
theorem Eval.conv (h : Eval P k pc L S H out) (e1 : L = L') (e2 : S = S') : Eval P k pc L' S' H out := e1 ▸ e2 ▸ h
theorem Eval.heap {H' : AHeap} (e : H' = H) (h : Eval P k pc L S H' out) : Eval P k pc L S H out := e ▸ h
theorem Eval.retH {H' : AHeap} {v : Option Value} (e : H' = H) (hc : P.code k pc = some (i, np)) (h1 : retV P k i S = some v) : Eval P k pc L S H (v, H') := e ▸ Eval.ret hc h1
end Calls
end Jvm.OwnX
namespace Jvm.OwnX
open Sem ClassFile Op Lib Jvm.Stand Jvm.Free Jvm.LawKit Jvm.RoadKit
theorem HR.none (P : Prog) (C : String) (Z : State) (n0 : Nat) (h : Heap) : HR P C Z n0 [] [] h := ⟨rfl, fun i j a q => by simp at q, fun i a q => by simp at q, fun i c q => by simp at q⟩
def intOf : Value → Int32
  | .int x => x
  | _ => 0
theorem script_start {P : Prog} {C : String} {s : State} {a : Addr} {c : Cell} (hro : P.ro = 1) (hf : Fit s) (A : Arr s s.heap a c .int) : HR P C s s.heap.size [a] [.inr (.inl (0, c.slots.toList.map intOf))] s.heap := by
  have hlt := (Array.getElem?_eq_some_iff.mp A.1).1
  have hint : ∀ i (hi : i < c.slots.size), ∃ x, c.slots[i] = .int x := fun i hi => by
    have q := hf A.1 hi
    obtain ⟨hs, k, hk, comp, hkind⟩ := A.2.1
    have e : s.slotType? c.cls c.vm i = some .int := by
      cases hq : c.vm <;> first | exact absurd hq (hs _) | simp [State.slotType?, hk, hkind]
    have q2 : fits .int c.slots[i] = true := by simpa [State.fitsSlot, e] using q
    exact fit_I q2 (Or.inl rfl)
  refine ⟨rfl, fun i j x q1 q2 => ?_, fun i x q => ?_, fun i d q => ?_⟩
  · cases i with
    | zero => cases j with
      | zero => rfl
      | succ j => simp at q2
    | succ i => simp at q1
  · cases i with
    | zero => simp at q; subst q; exact ⟨hlt, fun h => by rw [hro] at h; omega⟩
    | succ i => simp at q
  · cases i with
    | zero =>
      simp at q; subst q
      refine ⟨a, rfl, c, A, by simp, fun j x hx => ?_⟩
      rw [List.getElem?_map] at hx
      obtain ⟨v, hv, rfl⟩ := Option.map_eq_some_iff.mp hx
      rw [Array.getElem?_toList] at hv
      obtain ⟨hj, rfl⟩ := Array.getElem?_eq_some_iff.mp hv
      obtain ⟨x, e⟩ := hint j hj
      rw [Array.getElem?_eq_getElem hj, e]; rfl
    | succ i => simp at q
end Jvm.OwnX
namespace Jvm.OwnX
/-! ## plain facts on the functions' words -/
theorem len_wr (xs : List Int32) (j v : Int32) : (wr xs j v).length = xs.length := by simp [wr]
theorem len_wrL (xs : List Int64) (j : Int32) (v : Int64) : (wrL xs j v).length = xs.length := by simp [wrL]
theorem rd_wr_same {xs : List Int32} {j : Int32} (h : inb xs.length j = true) (v : Int32) : rd (wr xs j v) j = v := by
  have := inb_lt h
  simp [rd, wr, List.getD_eq_getElem?_getD, this]
theorem rdL_wrL_same {xs : List Int64} {j : Int32} (h : inb xs.length j = true) (v : Int64) : rdL (wrL xs j v) j = v := by
  have := inb_lt h
  simp [rdL, wrL, List.getD_eq_getElem?_getD, this]
theorem nat_inj {i j : Int32} (hi : ¬ i < 0) (hj : ¬ j < 0) (h : i.toNatClampNeg = j.toNatClampNeg) : i = j := by
  apply Int32.toInt_inj.mp
  simp only [Int32.lt_iff_toInt_lt, Int32.toNatClampNeg, Int32.reduceToInt] at hi hj h; omega
theorem inb_nn {n : Nat} {j : Int32} (h : inb n j = true) : ¬ j < 0 := fun q => inb_spec h (Or.inl q)
theorem rd_wr_ne {xs : List Int32} {i j : Int32} (hi : ¬ i < 0) (hj : ¬ j < 0) (h : i ≠ j) (v : Int32) : rd (wr xs i v) j = rd xs j := by
  have : i.toNatClampNeg ≠ j.toNatClampNeg := fun q => h (nat_inj hi hj q)
  simp [rd, wr, List.getD_eq_getElem?_getD, List.getElem?_set_ne this]
theorem rdL_wrL_ne {xs : List Int64} {i j : Int32} (hi : ¬ i < 0) (hj : ¬ j < 0) (h : i ≠ j) (v : Int64) : rdL (wrL xs i v) j = rdL xs j := by
  have : i.toNatClampNeg ≠ j.toNatClampNeg := fun q => h (nat_inj hi hj q)
  simp [rdL, wrL, List.getD_eq_getElem?_getD, List.getElem?_set_ne this]
theorem rd_rep (n : Nat) (j : Int32) : rd (List.replicate n 0) j = 0 := by
  simp only [rd, List.getD_eq_getElem?_getD, List.getElem?_replicate]; split <;> rfl
theorem rdL_rep (n : Nat) (j : Int32) : rdL (List.replicate n 0) j = 0 := by
  simp only [rdL, List.getD_eq_getElem?_getD, List.getElem?_replicate]; split <;> rfl
theorem inb_iff {n : Nat} {j : Int32} : inb n j = true ↔ 0 ≤ j.toInt ∧ j.toInt < n := by
  simp only [inb, Bool.and_eq_true, Bool.not_eq_true', decide_eq_false_iff_not, Int32.lt_iff_toInt_lt, Int32.reduceToInt]
  constructor
  · rintro ⟨h1, h2⟩
    have h3 := Nat.le_of_ble_eq_true h2
    simp only [Int32.toNatClampNeg] at h3
    omega
  · rintro ⟨h1, h2⟩
    refine ⟨by omega, Nat.ble_eq_true_of_le ?_⟩
    simp only [Int32.toNatClampNeg]; omega
theorem lt32 {x y : Int32} : x < y ↔ x.toInt < y.toInt := Int32.lt_iff_toInt_lt
theorem eq32 {x y : Int32} : x = y ↔ x.toInt = y.toInt := Int32.toInt_inj.symm
end Jvm.OwnX
namespace Jvm.Pilot.@@N@@
open Jvm Jvm.ClassFile Sem Op Lib Jvm.Free Jvm.Stand Jvm.LawKit Jvm.RoadKit Bundle Jvm.Pilot.@@N@@.Jvm.D Jvm.OwnX
/-! # tables (printed by gen.py out of the claim's listing and sheet) -/
def own_cs : CodeL := [
  (code, [
    [(0, .new 7, 3), (3, .dup, 4), (4, .iload_n 0, 5), (5, .iload_n 1, 6), (6, .iload_n 2, 7), (7, .invokespecial 9, 10), (10, .astore 5, 12), (12, .iload_n 3, 13), (13, .iload 4, 15), (15, .if_icmp .ge 7, 18), (18, .iload_n 3, 19), (19, .goto 5, 22), (22, .iload 4, 24), (24, .istore 6, 26), (26, .iload_n 3, 27), (27, .iload 4, 29), (29, .if_icmp .ge 8, 32)],
    [(32, .iload 4, 34), (34, .goto 4, 37), (37, .iload_n 3, 38), (38, .istore 7, 40), (40, .aload 5, 42), (42, .iconst 0, 43), (43, .iconst 1, 44), (44, .iload_n 3, 45), (45, .invokevirtual 12, 48), (48, .istore 8, 50), (50, .aload 5, 52), (52, .iconst 1, 53), (53, .iconst 1, 54), (54, .iload 4, 56), (56, .invokevirtual 12, 59), (59, .istore 9, 61), (61, .iload 8, 63), (63, .ifCond .eq 8, 66)],
    [(66, .iload 9, 68), (68, .ifCond .ne 5, 71), (71, .iconst 0, 72), (72, .ireturn, 73), (73, .aload 5, 75), (75, .invokestatic 16, 78), (78, .ifCond .ne 5, 81), (81, .iconst 0, 82), (82, .ireturn, 83), (83, .aload 5, 85), (85, .iconst 0, 86), (86, .invokevirtual 22, 89), (89, .iconst 1, 90), (90, .if_icmp .eq 5, 93), (93, .iconst 0, 94), (94, .ireturn, 95), (95, .aload 5, 97)],
    [(97, .iconst 0, 98), (98, .invokevirtual 26, 101), (101, .iload_n 3, 102), (102, .if_icmp .eq 5, 105), (105, .iconst 0, 106), (106, .ireturn, 107), (107, .aload 5, 109), (109, .iconst 1, 110), (110, .invokevirtual 22, 113), (113, .iconst 1, 114), (114, .if_icmp .eq 5, 117), (117, .iconst 0, 118), (118, .ireturn, 119), (119, .aload 5, 121), (121, .iconst 1, 122), (122, .invokevirtual 26, 125), (125, .iload 4, 127), (127, .if_icmp .eq 5, 130)],
    [(130, .iconst 0, 131), (131, .ireturn, 132), (132, .aload 5, 134), (134, .invokevirtual 29, 137), (137, .iconst 2, 138), (138, .if_icmp .eq 5, 141), (141, .iconst 0, 142), (142, .ireturn, 143), (143, .aload 5, 145), (145, .invokevirtual 33, 148), (148, .iload 6, 150), (150, .if_icmp .eq 5, 153), (153, .iconst 0, 154), (154, .ireturn, 155), (155, .aload 5, 157), (157, .invokevirtual 36, 160)],
    [(160, .iconst 1, 161), (161, .if_icmp .eq 5, 164), (164, .iconst 0, 165), (165, .ireturn, 166), (166, .aload 5, 168), (168, .iconst 0, 169), (169, .invokevirtual 39, 172), (172, .ifCond .eq 5, 175), (175, .iconst 0, 176), (176, .ireturn, 177), (177, .aload 5, 179), (179, .iconst 1, 180), (180, .invokevirtual 39, 183), (183, .ifCond .eq 5, 186), (186, .iconst 0, 187), (187, .ireturn, 188), (188, .aload 5, 190), (190, .invokevirtual 42, 193)],
    [(193, .iconst (-1), 194), (194, .if_icmp .eq 5, 197), (197, .iconst 0, 198), (198, .ireturn, 199), (199, .aload 5, 201), (201, .iconst 1, 202), (202, .iconst 2, 203), (203, .iconst 0, 204), (204, .invokevirtual 12, 207), (207, .istore 10, 209), (209, .aload 5, 211), (211, .iconst 0, 212), (212, .iconst 2, 213), (213, .iconst 0, 214), (214, .invokevirtual 12, 217), (217, .istore 11, 219), (219, .iload 10, 221), (221, .ifCond .eq 8, 224)],
    [(224, .iload 11, 226), (226, .ifCond .ne 5, 229), (229, .iconst 0, 230), (230, .ireturn, 231), (231, .aload 5, 233), (233, .invokestatic 16, 236), (236, .ifCond .ne 5, 239), (239, .iconst 0, 240), (240, .ireturn, 241), (241, .aload 5, 243), (243, .iconst 1, 244), (244, .invokevirtual 22, 247), (247, .iconst 1, 248), (248, .if_icmp .eq 5, 251), (251, .iconst 0, 252), (252, .ireturn, 253), (253, .aload 5, 255), (255, .iconst 1, 256)],
    [(256, .invokevirtual 26, 259), (259, .iload 6, 261), (261, .if_icmp .eq 5, 264), (264, .iconst 0, 265), (265, .ireturn, 266), (266, .aload 5, 268), (268, .iconst 0, 269), (269, .invokevirtual 22, 272), (272, .iconst 1, 273), (273, .if_icmp .eq 5, 276), (276, .iconst 0, 277), (277, .ireturn, 278), (278, .aload 5, 280), (280, .iconst 0, 281), (281, .invokevirtual 26, 284), (284, .iload 7, 286), (286, .if_icmp .eq 5, 289)],
    [(289, .iconst 0, 290), (290, .ireturn, 291), (291, .aload 5, 293), (293, .invokevirtual 29, 296), (296, .ifCond .eq 5, 299), (299, .iconst 0, 300), (300, .ireturn, 301), (301, .aload 5, 303), (303, .invokevirtual 33, 306), (306, .ifCond .eq 5, 309), (309, .iconst 0, 310), (310, .ireturn, 311), (311, .aload 5, 313), (313, .invokevirtual 36, 316), (316, .iconst 2, 317), (317, .if_icmp .eq 5, 320)],
    [(320, .iconst 0, 321), (321, .ireturn, 322), (322, .aload 5, 324), (324, .invokevirtual 45, 327), (327, .iconst 4, 328), (328, .if_icmp .eq 5, 331), (331, .iconst 0, 332), (332, .ireturn, 333), (333, .aload 5, 335), (335, .invokevirtual 42, 338), (338, .iconst (-1), 339), (339, .if_icmp .ne 7, 342), (342, .iconst 1, 343), (343, .goto 4, 346), (346, .iconst 0, 347), (347, .ireturn, 348)]]),
  (prog_1_method_1_code, [
    [(0, .aload_n 0, 1), (1, .invokespecial 1, 4), (4, .aload_n 0, 5), (5, .bipush 32, 7), (7, .newarray .int, 9), (9, .putfield 7, 12), (12, .aload_n 0, 13), (13, .iconst (-1), 14), (14, .putfield 13, 17), (17, .aload_n 0, 18), (18, .bipush 8, 20), (20, .newarray .int, 22), (22, .putfield 17, 25), (25, .aload_n 0, 26), (26, .iconst (-1), 27), (27, .putfield 20, 30), (30, .aload_n 0, 31), (31, .bipush 8, 33)],
    [(33, .newarray .int, 35), (35, .putfield 23, 38), (38, .aload_n 0, 39), (39, .bipush 8, 41), (41, .newarray .int, 43), (43, .putfield 26, 46), (46, .aload_n 0, 47), (47, .bipush 8, 49), (49, .newarray .int, 51), (51, .putfield 29, 54), (54, .aload_n 0, 55), (55, .bipush 8, 57), (57, .newarray .int, 59), (59, .putfield 32, 62), (62, .aload_n 0, 63), (63, .bipush 8, 65)],
    [(65, .newarray .int, 67), (67, .putfield 35, 70), (70, .aload_n 0, 71), (71, .bipush 8, 73), (73, .newarray .boolean, 75), (75, .putfield 38, 78), (78, .aload_n 0, 79), (79, .bipush 8, 81), (81, .newarray .int, 83), (83, .putfield 42, 86), (86, .aload_n 0, 87), (87, .bipush 8, 89), (89, .newarray .int, 91), (91, .putfield 45, 94), (94, .aload_n 0, 95), (95, .bipush 8, 97)],
    [(97, .newarray .boolean, 99), (99, .putfield 48, 102), (102, .aload_n 0, 103), (103, .bipush 8, 105), (105, .newarray .int, 107), (107, .putfield 51, 110), (110, .aload_n 0, 111), (111, .bipush 8, 113), (113, .newarray .int, 115), (115, .putfield 54, 118), (118, .aload_n 0, 119), (119, .bipush 8, 121), (121, .newarray .int, 123), (123, .putfield 57, 126), (126, .aload_n 0, 127), (127, .aload_n 0, 128)],
    [(128, .iload_n 1, 129), (129, .iconst 2, 130), (130, .bipush 8, 132), (132, .invokevirtual 60, 135), (135, .putfield 64, 138), (138, .aload_n 0, 139), (139, .aload_n 0, 140), (140, .iload_n 2, 141), (141, .bipush 8, 143), (143, .bipush 32, 145), (145, .invokevirtual 60, 148), (148, .putfield 67, 151), (151, .aload_n 0, 152), (152, .aload_n 0, 153), (153, .iload_n 3, 154), (154, .iconst 1, 155), (155, .bipush 8, 157), (157, .invokevirtual 60, 160)],
    [(160, .putfield 70, 163), (163, .return_, 164)]]),
  (prog_1_method_2_code, [
    [(0, .iload_n 1, 1), (1, .iload_n 2, 2), (2, .if_icmp .ge 5, 5), (5, .iload_n 2, 6), (6, .ireturn, 7), (7, .iload_n 1, 8), (8, .iload_n 3, 9), (9, .if_icmp .le 5, 12), (12, .iload_n 3, 13), (13, .ireturn, 14), (14, .iload_n 1, 15), (15, .ireturn, 16)]]),
  (prog_1_method_4_code, [
    [(0, .aload_n 0, 1), (1, .iload_n 1, 2), (2, .invokevirtual 73, 5), (5, .ifCond .ne 5, 8), (8, .iconst 0, 9), (9, .ireturn, 10), (10, .iload_n 2, 11), (11, .iconst 1, 12), (12, .if_icmp .eq 10, 15), (15, .iload_n 2, 16), (16, .iconst 2, 17), (17, .if_icmp .eq 5, 20), (20, .iconst 0, 21), (21, .ireturn, 22), (22, .aload_n 0, 23), (23, .getfield 23, 26), (26, .iload_n 1, 27), (27, .iaload, 28), (28, .ifCond .eq 5, 31), (31, .iconst 0, 32)],
    [(32, .ireturn, 33), (33, .aload_n 0, 34), (34, .getfield 26, 37), (37, .iload_n 1, 38), (38, .iload_n 2, 39), (39, .iastore, 40), (40, .aload_n 0, 41), (41, .getfield 29, 44), (44, .iload_n 1, 45), (45, .iload_n 3, 46), (46, .iastore, 47), (47, .aload_n 0, 48), (48, .getfield 32, 51), (51, .iload_n 1, 52), (52, .iconst 0, 53), (53, .iastore, 54), (54, .aload_n 0, 55), (55, .getfield 35, 58), (58, .iload_n 1, 59), (59, .iconst 0, 60), (60, .iastore, 61), (61, .aload_n 0, 62), (62, .getfield 23, 65)],
    [(65, .iload_n 1, 66), (66, .iconst 1, 67), (67, .iastore, 68), (68, .iconst 1, 69), (69, .ireturn, 70)]]),
  (prog_1_method_3_code, [
    [(0, .iload_n 1, 1), (1, .ifCond .lt 15, 4), (4, .iload_n 1, 5), (5, .aload_n 0, 6), (6, .getfield 64, 9), (9, .if_icmp .ge 7, 12), (12, .iconst 1, 13), (13, .goto 4, 16), (16, .iconst 0, 17), (17, .ireturn, 18)]]),
  (method_3_code, [
    [(0, .aload_n 0, 1), (1, .invokevirtual 48, 4), (4, .istore_n 1, 5), (5, .aload_n 0, 6), (6, .invokevirtual 48, 9), (9, .istore_n 2, 10), (10, .aload_n 0, 11), (11, .invokevirtual 48, 14), (14, .istore_n 3, 15), (15, .aload_n 0, 16), (16, .invokevirtual 48, 19), (19, .istore 4, 21), (21, .aload_n 0, 22), (22, .invokevirtual 48, 25), (25, .istore 5, 27), (27, .iload_n 1, 28), (28, .iconst 2, 29), (29, .if_icmp .ne 29, 32)],
    [(32, .iload_n 2, 33), (33, .iconst 2, 34), (34, .if_icmp .ne 24, 37), (37, .iload_n 3, 38), (38, .iconst 2, 39), (39, .if_icmp .ne 19, 42), (42, .iload 4, 44), (44, .iconst 1, 45), (45, .if_icmp .ne 13, 48), (48, .iload 5, 50), (50, .iconst 1, 51), (51, .if_icmp .ne 7, 54), (54, .iconst 1, 55), (55, .goto 4, 58), (58, .iconst 0, 59), (59, .ireturn, 60)]]),
  (prog_1_method_21_code, [
    [(0, .iconst 0, 1), (1, .istore_n 1, 2), (2, .iconst 0, 3), (3, .istore_n 2, 4), (4, .iload_n 2, 5), (5, .aload_n 0, 6), (6, .getfield 64, 9), (9, .if_icmp .ge 27, 12), (12, .aload_n 0, 13), (13, .getfield 23, 16), (16, .iload_n 2, 17), (17, .iaload, 18), (18, .ifCond .eq 12, 21), (21, .aload_n 0, 22), (22, .iload_n 2, 23), (23, .invokevirtual 137, 26), (26, .pop, 27), (27, .iinc 1 1, 30), (30, .iinc 2 1, 33)],
    [(33, .goto (-29), 36), (36, .iload_n 1, 37), (37, .ireturn, 38)]]),
  (prog_1_method_5_code, [
    [(0, .aload_n 0, 1), (1, .iload_n 1, 2), (2, .invokevirtual 73, 5), (5, .ifCond .eq 12, 8), (8, .aload_n 0, 9), (9, .getfield 23, 12), (12, .iload_n 1, 13), (13, .iaload, 14), (14, .ifCond .ne 5, 17), (17, .iconst (-1), 18), (18, .ireturn, 19), (19, .aload_n 0, 20), (20, .getfield 23, 23), (23, .iload_n 1, 24), (24, .iaload, 25), (25, .istore_n 2, 26), (26, .iload_n 2, 27), (27, .iconst 1, 28), (28, .if_icmp .ne 9, 31), (31, .aload_n 0, 32)],
    [(32, .iload_n 1, 33), (33, .invokevirtual 77, 36), (36, .ireturn, 37), (37, .iload_n 2, 38), (38, .iconst 2, 39), (39, .if_icmp .ne 9, 42), (42, .aload_n 0, 43), (43, .iload_n 1, 44), (44, .invokevirtual 81, 47), (47, .ireturn, 48), (48, .iload_n 2, 49), (49, .iconst 3, 50), (50, .if_icmp .ne 9, 53), (53, .aload_n 0, 54), (54, .iload_n 1, 55), (55, .invokevirtual 84, 58), (58, .ireturn, 59), (59, .aload_n 0, 60), (60, .iload_n 1, 61), (61, .invokevirtual 87, 64)],
    [(64, .ireturn, 65)]]),
  (prog_1_method_6_code, [
    [(0, .aload_n 0, 1), (1, .getfield 42, 4), (4, .iload_n 1, 5), (5, .aload_n 0, 6), (6, .getfield 26, 9), (9, .iload_n 1, 10), (10, .iaload, 11), (11, .iastore, 12), (12, .aload_n 0, 13), (13, .getfield 45, 16), (16, .iload_n 1, 17), (17, .aload_n 0, 18), (18, .getfield 29, 21), (21, .iload_n 1, 22), (22, .iaload, 23), (23, .iastore, 24), (24, .aload_n 0, 25), (25, .getfield 48, 28), (28, .iload_n 1, 29), (29, .iconst 0, 30), (30, .bastore, 31), (31, .aload_n 0, 32)],
    [(32, .getfield 23, 35), (35, .iload_n 1, 36), (36, .iconst 2, 37), (37, .iastore, 38), (38, .aload_n 0, 39), (39, .getfield 38, 42), (42, .iload_n 1, 43), (43, .baload, 44), (44, .ifCond .ne 27, 47), (47, .aload_n 0, 48), (48, .getfield 38, 51), (51, .iload_n 1, 52), (52, .iconst 1, 53), (53, .bastore, 54), (54, .aload_n 0, 55), (55, .iload_n 1, 56), (56, .invokevirtual 90, 59), (59, .aload_n 0, 60), (60, .getfield 57, 63), (63, .iload_n 1, 64)],
    [(64, .aload_n 0, 65), (65, .getfield 94, 68), (68, .iastore, 69), (69, .iconst 2, 70), (70, .ireturn, 71), (71, .iconst 1, 72), (72, .ireturn, 73)]]),
  (prog_1_method_18_code, [
    [(0, .aload_n 0, 1), (1, .getfield 97, 4), (4, .bipush 8, 6), (6, .if_icmp .lt 4, 9), (9, .return_, 10), (10, .aload_n 0, 11), (11, .getfield 97, 14), (14, .istore_n 2, 15), (15, .iload_n 2, 16), (16, .ifCond .le 23, 19), (19, .aload_n 0, 20), (20, .getfield 17, 23), (23, .iload_n 2, 24), (24, .aload_n 0, 25), (25, .getfield 17, 28), (28, .iload_n 2, 29), (29, .iconst 1, 30), (30, .isub, 31), (31, .iaload, 32)],
    [(32, .iastore, 33), (33, .iinc 2 (-1), 36), (36, .goto (-21), 39), (39, .aload_n 0, 40), (40, .getfield 17, 43), (43, .iconst 0, 44), (44, .iload_n 1, 45), (45, .iastore, 46), (46, .aload_n 0, 47), (47, .dup, 48), (48, .getfield 97, 51), (51, .iconst 1, 52), (52, .iadd, 53), (53, .putfield 97, 56), (56, .return_, 57)]]),
  (prog_1_method_7_code, [
    [(0, .aload_n 0, 1), (1, .getfield 13, 4), (4, .iconst (-1), 5), (5, .if_icmp .ne 38, 8), (8, .aload_n 0, 9), (9, .iload_n 1, 10), (10, .putfield 13, 13), (13, .aload_n 0, 14), (14, .aload_n 0, 15), (15, .getfield 97, 18), (18, .ifCond .le 12, 21), (21, .aload_n 0, 22), (22, .getfield 17, 25), (25, .iconst 0, 26), (26, .iaload, 27), (27, .goto 4, 30), (30, .iconst (-1), 31), (31, .putfield 20, 34)],
    [(34, .aload_n 0, 35), (35, .getfield 23, 38), (38, .iload_n 1, 39), (39, .iconst 4, 40), (40, .iastore, 41), (41, .iconst 3, 42), (42, .ireturn, 43), (43, .aload_n 0, 44), (44, .getfield 23, 47), (47, .iload_n 1, 48), (48, .iconst 3, 49), (49, .iastore, 50), (50, .iconst 4, 51), (51, .ireturn, 52)]]),
  (prog_1_method_9_code, [
    [(0, .aload_n 0, 1), (1, .getfield 20, 4), (4, .iconst (-1), 5), (5, .if_icmp .ne 9, 8), (8, .aload_n 0, 9), (9, .iload_n 1, 10), (10, .invokevirtual 103, 13), (13, .ireturn, 14), (14, .aload_n 0, 15), (15, .getfield 20, 18), (18, .istore_n 2, 19), (19, .aload_n 0, 20), (20, .iload_n 2, 21), (21, .invokevirtual 106, 24), (24, .istore_n 3, 25), (25, .iload_n 3, 26), (26, .ifCond .ge 9, 29), (29, .aload_n 0, 30), (30, .iload_n 1, 31), (31, .invokevirtual 103, 34)],
    [(34, .ireturn, 35), (35, .iload_n 3, 36), (36, .iconst 1, 37), (37, .iadd, 38), (38, .aload_n 0, 39), (39, .getfield 97, 42), (42, .if_icmp .ge 14, 45), (45, .aload_n 0, 46), (46, .getfield 17, 49), (49, .iload_n 3, 50), (50, .iconst 1, 51), (51, .iadd, 52), (52, .iaload, 53), (53, .goto 4, 56), (56, .iconst (-1), 57), (57, .istore 4, 59), (59, .aload_n 0, 60), (60, .getfield 42, 63), (63, .iload_n 2, 64)],
    [(64, .iaload, 65), (65, .ifCond .eq 15, 68), (68, .aload_n 0, 69), (69, .iload_n 2, 70), (70, .invokevirtual 109, 73), (73, .bipush 8, 75), (75, .istore 5, 77), (77, .goto 44, 80), (80, .aload_n 0, 81), (81, .getfield 94, 84), (84, .aload_n 0, 85), (85, .getfield 57, 88), (88, .iload_n 2, 89), (89, .iaload, 90), (90, .isub, 91), (91, .aload_n 0, 92), (92, .getfield 70, 95), (95, .if_icmp .lt 22, 98)],
    [(98, .aload_n 0, 99), (99, .iload_n 3, 100), (100, .invokevirtual 112, 103), (103, .aload_n 0, 104), (104, .getfield 38, 107), (107, .iload_n 2, 108), (108, .iconst 0, 109), (109, .bastore, 110), (110, .bipush 9, 112), (112, .istore 5, 114), (114, .goto 7, 117), (117, .bipush 10, 119), (119, .istore 5, 121), (121, .aload_n 0, 122), (122, .iload 4, 124), (124, .putfield 20, 127), (127, .iload 5, 129)],
    [(129, .ireturn, 130)]]),
  (prog_1_method_20_code, [
    [(0, .iconst 0, 1), (1, .istore_n 2, 2), (2, .iload_n 2, 3), (3, .aload_n 0, 4), (4, .getfield 97, 7), (7, .if_icmp .ge 21, 10), (10, .aload_n 0, 11), (11, .getfield 17, 14), (14, .iload_n 2, 15), (15, .iaload, 16), (16, .iload_n 1, 17), (17, .if_icmp .ne 5, 20), (20, .iload_n 2, 21), (21, .ireturn, 22), (22, .iinc 2 1, 25), (25, .goto (-23), 28), (28, .iconst (-1), 29), (29, .ireturn, 30)]]),
  (prog_1_method_12_code, [
    [(0, .aload_n 0, 1), (1, .getfield 42, 4), (4, .iload_n 1, 5), (5, .iaload, 6), (6, .iconst 1, 7), (7, .if_icmp .ne 11, 10), (10, .aload_n 0, 11), (11, .iload_n 1, 12), (12, .invokevirtual 115, 15), (15, .goto 8, 18), (18, .aload_n 0, 19), (19, .iload_n 1, 20), (20, .invokevirtual 118, 23), (23, .aload_n 0, 24), (24, .getfield 48, 27), (27, .iload_n 1, 28), (28, .iconst 1, 29), (29, .bastore, 30), (30, .aload_n 0, 31), (31, .getfield 42, 34)],
    [(34, .iload_n 1, 35), (35, .iconst 0, 36), (36, .iastore, 37), (37, .aload_n 0, 38), (38, .getfield 57, 41), (41, .iload_n 1, 42), (42, .aload_n 0, 43), (43, .getfield 94, 46), (46, .iastore, 47), (47, .aload_n 0, 48), (48, .aload_n 0, 49), (49, .getfield 121, 52), (52, .iconst 1, 53), (53, .iadd, 54), (54, .putfield 121, 57), (57, .return_, 58)]]),
  (prog_1_method_13_code, [
    [(0, .aload_n 0, 1), (1, .getfield 124, 4), (4, .aload_n 0, 5), (5, .getfield 67, 8), (8, .if_icmp .ge 12, 11), (11, .aload_n 0, 12), (12, .getfield 124, 15), (15, .bipush 32, 17), (17, .if_icmp .lt 18, 20), (20, .aload_n 0, 21), (21, .getfield 51, 24), (24, .iload_n 1, 25), (25, .iconst 2, 26), (26, .iastore, 27), (27, .aload_n 0, 28), (28, .getfield 54, 31), (31, .iload_n 1, 32)],
    [(32, .iconst 0, 33), (33, .iastore, 34), (34, .return_, 35), (35, .aload_n 0, 36), (36, .getfield 45, 39), (39, .iload_n 1, 40), (40, .iaload, 41), (41, .istore_n 2, 42), (42, .aload_n 0, 43), (43, .getfield 7, 46), (46, .aload_n 0, 47), (47, .getfield 124, 50), (50, .iload_n 2, 51), (51, .iastore, 52), (52, .aload_n 0, 53), (53, .dup, 54), (54, .getfield 124, 57), (57, .iconst 1, 58), (58, .iadd, 59), (59, .putfield 124, 62), (62, .aload_n 0, 63), (63, .aload_n 0, 64)],
    [(64, .getfield 124, 67), (67, .iconst 1, 68), (68, .isub, 69), (69, .invokevirtual 127, 72), (72, .aload_n 0, 73), (73, .getfield 51, 76), (76, .iload_n 1, 77), (77, .iconst 1, 78), (78, .iastore, 79), (79, .aload_n 0, 80), (80, .getfield 54, 83), (83, .iload_n 1, 84), (84, .iload_n 2, 85), (85, .iastore, 86), (86, .return_, 87)]]),
  (prog_1_method_15_code, [
    [(0, .iload_n 1, 1), (1, .istore_n 2, 2), (2, .iconst 0, 3), (3, .istore_n 3, 4), (4, .iload_n 3, 5), (5, .bipush 32, 7), (7, .if_icmp .ge 58, 10), (10, .iload_n 2, 11), (11, .ifCond .le 54, 14), (14, .iload_n 2, 15), (15, .bipush 32, 17), (17, .if_icmp .lt 6, 20), (20, .goto 45, 23), (23, .iload_n 2, 24), (24, .iconst 1, 25), (25, .isub, 26), (26, .iconst 2, 27), (27, .idiv, 28), (28, .istore 4, 30), (30, .aload_n 0, 31), (31, .getfield 7, 34)],
    [(34, .iload 4, 36), (36, .iaload, 37), (37, .aload_n 0, 38), (38, .getfield 7, 41), (41, .iload_n 2, 42), (42, .iaload, 43), (43, .if_icmp .gt 6, 46), (46, .goto 19, 49), (49, .aload_n 0, 50), (50, .iload 4, 52), (52, .iload_n 2, 53), (53, .invokevirtual 133, 56), (56, .iload 4, 58), (58, .istore_n 2, 59), (59, .iinc 3 1, 62), (62, .goto (-58), 65)],
    [(65, .return_, 66)]]),
  (prog_1_method_8_code, [
    [(0, .aload_n 0, 1), (1, .getfield 48, 4), (4, .iload_n 1, 5), (5, .baload, 6), (6, .ifCond .eq 17, 9), (9, .aload_n 0, 10), (10, .iload_n 1, 11), (11, .invokevirtual 100, 14), (14, .aload_n 0, 15), (15, .getfield 23, 18), (18, .iload_n 1, 19), (19, .iconst 0, 20), (20, .iastore, 21), (21, .iconst 5, 22), (22, .ireturn, 23), (23, .aload_n 0, 24), (24, .getfield 13, 27), (27, .iconst (-1), 28), (28, .if_icmp .ne 13, 31), (31, .aload_n 0, 32)],
    [(32, .getfield 23, 35), (35, .iload_n 1, 36), (36, .iconst 2, 37), (37, .iastore, 38), (38, .bipush 6, 40), (40, .ireturn, 41), (41, .bipush 7, 43), (43, .ireturn, 44)]]),
  (prog_1_method_11_code, [
    [(0, .aload_n 0, 1), (1, .getfield 32, 4), (4, .iload_n 1, 5), (5, .aload_n 0, 6), (6, .getfield 51, 9), (9, .iload_n 1, 10), (10, .iaload, 11), (11, .iastore, 12), (12, .aload_n 0, 13), (13, .getfield 35, 16), (16, .iload_n 1, 17), (17, .aload_n 0, 18), (18, .getfield 54, 21), (21, .iload_n 1, 22), (22, .iaload, 23), (23, .iastore, 24), (24, .aload_n 0, 25), (25, .getfield 48, 28), (28, .iload_n 1, 29), (29, .iconst 0, 30), (30, .bastore, 31), (31, .return_, 32)]]),
  (prog_1_method_10_code, [
    [(0, .aload_n 0, 1), (1, .aload_n 0, 2), (2, .getfield 94, 5), (5, .iconst 1, 6), (6, .iadd, 7), (7, .putfield 94, 10), (10, .aload_n 0, 11), (11, .iconst (-1), 12), (12, .putfield 13, 15), (15, .aload_n 0, 16), (16, .iconst (-1), 17), (17, .putfield 20, 20), (20, .aload_n 0, 21), (21, .getfield 48, 24), (24, .iload_n 1, 25), (25, .baload, 26), (26, .ifCond .eq 18, 29), (29, .aload_n 0, 30), (30, .iload_n 1, 31), (31, .invokevirtual 100, 34)],
    [(34, .aload_n 0, 35), (35, .getfield 23, 38), (38, .iload_n 1, 39), (39, .iconst 0, 40), (40, .iastore, 41), (41, .goto 10, 44), (44, .aload_n 0, 45), (45, .getfield 23, 48), (48, .iload_n 1, 49), (49, .iconst 3, 50), (50, .iastore, 51), (51, .bipush 11, 53), (53, .ireturn, 54)]]),
  (prog_1_method_23_code, [
    [(0, .aload_n 0, 1), (1, .iload_n 1, 2), (2, .invokevirtual 73, 5), (5, .ifCond .eq 12, 8), (8, .aload_n 0, 9), (9, .getfield 32, 12), (12, .iload_n 1, 13), (13, .iaload, 14), (14, .goto 4, 17), (17, .iconst (-1), 18), (18, .ireturn, 19)]]),
  (prog_1_method_24_code, [
    [(0, .aload_n 0, 1), (1, .iload_n 1, 2), (2, .invokevirtual 73, 5), (5, .ifCond .eq 12, 8), (8, .aload_n 0, 9), (9, .getfield 35, 12), (12, .iload_n 1, 13), (13, .iaload, 14), (14, .goto 4, 17), (17, .iconst 0, 18), (18, .ireturn, 19)]]),
  (prog_1_method_31_code, [
    [(0, .aload_n 0, 1), (1, .getfield 124, 4), (4, .ireturn, 5)]]),
  (prog_1_method_32_code, [
    [(0, .aload_n 0, 1), (1, .getfield 124, 4), (4, .ifCond .le 12, 7), (7, .aload_n 0, 8), (8, .getfield 7, 11), (11, .iconst 0, 12), (12, .iaload, 13), (13, .goto 4, 16), (16, .iconst 0, 17), (17, .ireturn, 18)]]),
  (prog_1_method_33_code, [
    [(0, .aload_n 0, 1), (1, .getfield 94, 4), (4, .ireturn, 5)]]),
  (prog_1_method_22_code, [
    [(0, .aload_n 0, 1), (1, .iload_n 1, 2), (2, .invokevirtual 73, 5), (5, .ifCond .eq 12, 8), (8, .aload_n 0, 9), (9, .getfield 23, 12), (12, .iload_n 1, 13), (13, .iaload, 14), (14, .goto 4, 17), (17, .iconst (-1), 18), (18, .ireturn, 19)]]),
  (prog_1_method_26_code, [
    [(0, .aload_n 0, 1), (1, .getfield 13, 4), (4, .ireturn, 5)]]),
  (prog_1_method_14_code, [
    [(0, .aload_n 0, 1), (1, .getfield 124, 4), (4, .ifCond .gt 18, 7), (7, .aload_n 0, 8), (8, .getfield 51, 11), (11, .iload_n 1, 12), (12, .iconst 3, 13), (13, .iastore, 14), (14, .aload_n 0, 15), (15, .getfield 54, 18), (18, .iload_n 1, 19), (19, .iconst 0, 20), (20, .iastore, 21), (21, .return_, 22), (22, .aload_n 0, 23), (23, .getfield 7, 26), (26, .iconst 0, 27), (27, .iaload, 28), (28, .istore_n 2, 29), (29, .aload_n 0, 30), (30, .dup, 31), (31, .getfield 124, 34)],
    [(34, .iconst 1, 35), (35, .isub, 36), (36, .putfield 124, 39), (39, .aload_n 0, 40), (40, .getfield 7, 43), (43, .iconst 0, 44), (44, .aload_n 0, 45), (45, .getfield 7, 48), (48, .aload_n 0, 49), (49, .getfield 124, 52), (52, .iaload, 53), (53, .iastore, 54), (54, .aload_n 0, 55), (55, .invokevirtual 130, 58), (58, .aload_n 0, 59), (59, .getfield 51, 62), (62, .iload_n 1, 63), (63, .iconst 1, 64)],
    [(64, .iastore, 65), (65, .aload_n 0, 66), (66, .getfield 54, 69), (69, .iload_n 1, 70), (70, .iload_n 2, 71), (71, .iastore, 72), (72, .return_, 73)]]),
  (prog_1_method_16_code, [
    [(0, .iconst 0, 1), (1, .istore_n 1, 2), (2, .iconst 0, 3), (3, .istore_n 2, 4), (4, .iload_n 2, 5), (5, .bipush 32, 7), (7, .if_icmp .ge 105, 10), (10, .iconst 2, 11), (11, .iload_n 1, 12), (12, .imul, 13), (13, .iconst 1, 14), (14, .iadd, 15), (15, .istore_n 3, 16), (16, .iload_n 3, 17), (17, .aload_n 0, 18), (18, .getfield 124, 21), (21, .if_icmp .ge 91, 24), (24, .iload_n 3, 25), (25, .bipush 32, 27), (27, .if_icmp .lt 6, 30), (30, .goto 82, 33)],
    [(33, .iload_n 3, 34), (34, .istore 4, 36), (36, .iload_n 3, 37), (37, .iconst 1, 38), (38, .iadd, 39), (39, .istore 5, 41), (41, .iload 5, 43), (43, .aload_n 0, 44), (44, .getfield 124, 47), (47, .if_icmp .ge 30, 50), (50, .iload 5, 52), (52, .bipush 32, 54), (54, .if_icmp .ge 23, 57), (57, .aload_n 0, 58), (58, .getfield 7, 61), (61, .iload 5, 63), (63, .iaload, 64)],
    [(64, .aload_n 0, 65), (65, .getfield 7, 68), (68, .iload_n 3, 69), (69, .iaload, 70), (70, .if_icmp .ge 7, 73), (73, .iload 5, 75), (75, .istore 4, 77), (77, .aload_n 0, 78), (78, .getfield 7, 81), (81, .iload_n 1, 82), (82, .iaload, 83), (83, .aload_n 0, 84), (84, .getfield 7, 87), (87, .iload 4, 89), (89, .iaload, 90), (90, .if_icmp .gt 6, 93), (93, .goto 19, 96)],
    [(96, .aload_n 0, 97), (97, .iload_n 1, 98), (98, .iload 4, 100), (100, .invokevirtual 133, 103), (103, .iload 4, 105), (105, .istore_n 1, 106), (106, .iinc 2 1, 109), (109, .goto (-105), 112), (112, .return_, 113)]]),
  (prog_1_method_34_code, [
    [(0, .aload_n 0, 1), (1, .getfield 121, 4), (4, .ireturn, 5)]]),
  (prog_1_method_17_code, [
    [(0, .aload_n 0, 1), (1, .getfield 7, 4), (4, .iload_n 1, 5), (5, .iaload, 6), (6, .istore_n 3, 7), (7, .aload_n 0, 8), (8, .getfield 7, 11), (11, .iload_n 1, 12), (12, .aload_n 0, 13), (13, .getfield 7, 16), (16, .iload_n 2, 17), (17, .iaload, 18), (18, .iastore, 19), (19, .aload_n 0, 20), (20, .getfield 7, 23), (23, .iload_n 2, 24), (24, .iload_n 3, 25), (25, .iastore, 26), (26, .return_, 27)]])]
def own_mis : List MI := [(0, 12, 5, some .boolean, false, 11, 240), (1, 4, 4, none, true, 1, 16), (1, 4, 4, some .int, false, 0, 0), (1, 4, 4, some .boolean, false, 1, 13), (1, 2, 2, some .boolean, false, 0, 0), (0, 6, 1, some .boolean, false, 7, 104), (1, 3, 1, some .int, false, 6, 90), (1, 3, 2, some .int, false, 5, 76), (1, 2, 2, some .int, false, 1, 14), (1, 3, 2, none, false, 0, 0), (1, 2, 2, some .int, false, 0, 0), (1, 6, 2, some .int, false, 4, 59), (1, 3, 2, some .int, false, 0, 0), (1, 2, 2, none, false, 3, 46), (1, 3, 2, none, false, 2, 31), (1, 5, 2, none, false, 1, 15), (1, 2, 2, some .int, false, 1, 13), (1, 2, 2, none, false, 0, 0), (1, 2, 2, some .int, false, 1, 13), (1, 2, 2, some .int, false, 1, 13), (1, 2, 2, some .int, false, 1, 13), (1, 1, 1, some .int, false, 0, 0), (1, 1, 1, some .int, false, 0, 0), (1, 1, 1, some .int, false, 0, 0), (1, 2, 2, some .int, false, 1, 13), (1, 1, 1, some .int, false, 0, 0), (1, 3, 2, none, false, 2, 32), (1, 6, 1, none, false, 1, 15), (1, 1, 1, some .int, false, 0, 0), (1, 4, 3, none, false, 0, 0)]
def own_links : List (Nat × Nat × Nat × Nat) := [(0, 9, 1, 1), (1, 1, 4, 0), (1, 60, 3, 2), (0, 12, 2, 3), (1, 73, 3, 4), (0, 16, 0, 5), (0, 48, 2, 6), (1, 137, 2, 7), (1, 77, 3, 8), (1, 90, 3, 9), (1, 81, 3, 10), (1, 87, 3, 11), (1, 106, 3, 12), (1, 109, 3, 13), (1, 115, 3, 14), (1, 127, 3, 15), (1, 84, 3, 16), (1, 100, 3, 17), (1, 103, 3, 18), (0, 22, 2, 19), (0, 26, 2, 20), (0, 29, 2, 21), (0, 33, 2, 22), (0, 36, 2, 23), (0, 39, 2, 24), (0, 42, 2, 25), (1, 118, 3, 26), (1, 130, 3, 27), (0, 45, 2, 28), (1, 133, 3, 29), (0, 7, 5, 0)]
def own_flds : List (Nat × Nat × Nat) := [(1, 7, 0), (1, 13, 1), (1, 17, 2), (1, 20, 3), (1, 23, 4), (1, 26, 5), (1, 29, 6), (1, 32, 7), (1, 35, 8), (1, 38, 9), (1, 42, 10), (1, 45, 11), (1, 48, 12), (1, 51, 13), (1, 54, 14), (1, 57, 15), (1, 64, 16), (1, 67, 17), (1, 70, 18), (1, 97, 19), (1, 94, 20), (1, 124, 21), (1, 121, 22)]
def own_kons : List (Nat × Nat × Value) := []
def own_fields : List (String × String × Nat × Bool) := [("heap", "[I", 3, false), ("lock", "I", 0, false), ("list", "[I", 3, false), ("cursor", "I", 0, false), ("phase", "[I", 3, false), ("opKind", "[I", 3, false), ("opVal", "[I", 3, false), ("resStatus", "[I", 3, false), ("resVal", "[I", 3, false), ("enlisted", "[Z", 3, false), ("reqKind", "[I", 3, false), ("reqVal", "[I", 3, false), ("ready", "[Z", 3, false), ("respStatus", "[I", 3, false), ("respVal", "[I", 3, false), ("stamp", "[I", 3, false), ("n", "I", 0, false), ("cap", "I", 0, false), ("age", "I", 0, false), ("listLen", "I", 0, false), ("pass", "I", 0, false), ("heapSize", "I", 0, false), ("applied", "I", 0, false)]
def own_P : Prog := (codeAt own_cs, fun k => own_mis.getD k (0, 0, 0, none, false, 0, 0), lookT own_links, lookT own_flds, lookT own_kons, own_fields, 23, 0, 40, 384)
def own_nms : List MethodName := [⟨"FlatCombinerL3", "law", "(IIIII)Z"⟩, ⟨"FlatCombiner", "<init>", "(III)V"⟩, ⟨"FlatCombiner", "clamp", "(III)I"⟩, ⟨"FlatCombiner", "submit", "(III)Z"⟩, ⟨"FlatCombiner", "valid", "(I)Z"⟩, ⟨"FlatCombinerL3", "fiveRounds", "(LFlatCombiner;)Z"⟩, ⟨"FlatCombiner", "round", "()I"⟩, ⟨"FlatCombiner", "step", "(I)I"⟩, ⟨"FlatCombiner", "stepPublish", "(I)I"⟩, ⟨"FlatCombiner", "pushFront", "(I)V"⟩, ⟨"FlatCombiner", "stepTryLock", "(I)I"⟩, ⟨"FlatCombiner", "stepCombine", "(I)I"⟩, ⟨"FlatCombiner", "indexOf", "(I)I"⟩, ⟨"FlatCombiner", "serve", "(I)V"⟩, ⟨"FlatCombiner", "applyInsert", "(I)V"⟩, ⟨"FlatCombiner", "siftUp", "(I)V"⟩, ⟨"FlatCombiner", "stepSpin", "(I)I"⟩, ⟨"FlatCombiner", "take", "(I)V"⟩, ⟨"FlatCombiner", "endPass", "(I)I"⟩, ⟨"FlatCombiner", "resultStatus", "(I)I"⟩, ⟨"FlatCombiner", "resultValue", "(I)I"⟩, ⟨"FlatCombiner", "size", "()I"⟩, ⟨"FlatCombiner", "peekMin", "()I"⟩, ⟨"FlatCombiner", "passes", "()I"⟩, ⟨"FlatCombiner", "phase", "(I)I"⟩, ⟨"FlatCombiner", "combiner", "()I"⟩, ⟨"FlatCombiner", "applyDeleteMin", "(I)V"⟩, ⟨"FlatCombiner", "siftDown", "()V"⟩, ⟨"FlatCombiner", "appliedCount", "()I"⟩, ⟨"FlatCombiner", "swap", "(II)V"⟩]
def own_nm (k : Nat) : MethodName := own_nms.getD k ⟨"", "", ""⟩
def own_cn (c : Nat) : String := match c with | 0 => "FlatCombinerL3" | _ => "FlatCombiner"
theorem own_pn0 : plainName "FlatCombinerL3" = true := by first | (simp [plainName, overriddenIn]; done) | decide +kernel
theorem own_pn1 : plainName "FlatCombiner" = true := by first | (simp [plainName, overriddenIn]; done) | decide +kernel
theorem own_ne0 : "FlatCombinerL3" ≠ "java/lang/invoke/MethodHandle" ∧ "FlatCombinerL3" ≠ "java/lang/invoke/VarHandle" := by decide
theorem own_ne1 : "FlatCombiner" ≠ "java/lang/invoke/MethodHandle" ∧ "FlatCombiner" ≠ "java/lang/invoke/VarHandle" := by decide
theorem own_pd0 : parseMethodDescriptor "(III)V" = some ⟨[.int, .int, .int], none⟩ := by decide +kernel
theorem own_pd1 : parseMethodDescriptor "(III)I" = some ⟨[.int, .int, .int], some .int⟩ := by decide +kernel
theorem own_pd2 : parseMethodDescriptor "(III)Z" = some ⟨[.int, .int, .int], some .boolean⟩ := by decide +kernel
theorem own_pd3 : parseMethodDescriptor "(I)Z" = some ⟨[.int], some .boolean⟩ := by decide +kernel
theorem own_pd4 : parseMethodDescriptor "(LFlatCombiner;)Z" = some ⟨[(.object "FlatCombiner")], some .boolean⟩ := by decide +kernel
theorem own_pd5 : parseMethodDescriptor "()I" = some ⟨[], some .int⟩ := by decide +kernel
theorem own_pd6 : parseMethodDescriptor "(I)I" = some ⟨[.int], some .int⟩ := by decide +kernel
theorem own_pd7 : parseMethodDescriptor "(I)V" = some ⟨[.int], none⟩ := by decide +kernel
theorem own_pd8 : parseMethodDescriptor "()V" = some ⟨[], none⟩ := by decide +kernel
theorem own_pd9 : parseMethodDescriptor "(II)V" = some ⟨[.int, .int], none⟩ := by decide +kernel
set_option maxRecDepth 100000 in
theorem own_okcs : okCs own_cs = true := by decide +kernel
def own_ty (t : ArrayType) : Bool := decide (t = .int) || decide (t = .boolean)
theorem own_tyok : tyCs own_ty own_cs = true := by decide +kernel
theorem own_nodup : (own_fields.map (·.1)).Nodup := by decide +kernel
set_option maxRecDepth 100000 in
set_option maxHeartbeats 4000000 in
theorem own_good {Z : State} {a0 : Array Value} (hw : ∀ d ∈ tables_1, d.before a0 Z = true) : Good own_P own_nm (bcOf own_cs) own_cn "FlatCombiner" Z a0 := by
  refine good_of (ty := own_ty) rfl own_okcs ?_ ?_ own_nodup ?_ (hw _ (List.mem_of_getElem? (i := 1) rfl)) (hw _ (List.mem_of_getElem? (i := 2) rfl)) own_tyok ?_ ?_
  · exact ⟨⟨_, _, _, _, rfl, (hw _ (List.mem_of_getElem? (i := 10) rfl))⟩,
      ⟨_, _, _, _, rfl, (hw _ (List.mem_of_getElem? (i := 12) rfl))⟩,
      ⟨_, _, _, _, rfl, (hw _ (List.mem_of_getElem? (i := 14) rfl))⟩,
      ⟨_, _, _, _, rfl, (hw _ (List.mem_of_getElem? (i := 16) rfl))⟩,
      ⟨_, _, _, _, rfl, (hw _ (List.mem_of_getElem? (i := 18) rfl))⟩,
      ⟨_, _, _, _, rfl, (hw _ (List.mem_of_getElem? (i := 20) rfl))⟩,
      ⟨_, _, _, _, rfl, (hw _ (List.mem_of_getElem? (i := 22) rfl))⟩,
      ⟨_, _, _, _, rfl, (hw _ (List.mem_of_getElem? (i := 24) rfl))⟩,
      ⟨_, _, _, _, rfl, (hw _ (List.mem_of_getElem? (i := 26) rfl))⟩,
      ⟨_, _, _, _, rfl, (hw _ (List.mem_of_getElem? (i := 29) rfl))⟩,
      ⟨_, _, _, _, rfl, (hw _ (List.mem_of_getElem? (i := 31) rfl))⟩,
      ⟨_, _, _, _, rfl, (hw _ (List.mem_of_getElem? (i := 33) rfl))⟩,
      ⟨_, _, _, _, rfl, (hw _ (List.mem_of_getElem? (i := 35) rfl))⟩,
      ⟨_, _, _, _, rfl, (hw _ (List.mem_of_getElem? (i := 37) rfl))⟩,
      ⟨_, _, _, _, rfl, (hw _ (List.mem_of_getElem? (i := 39) rfl))⟩,
      ⟨_, _, _, _, rfl, (hw _ (List.mem_of_getElem? (i := 41) rfl))⟩,
      ⟨_, _, _, _, rfl, (hw _ (List.mem_of_getElem? (i := 47) rfl))⟩,
      ⟨_, _, _, _, rfl, (hw _ (List.mem_of_getElem? (i := 49) rfl))⟩,
      ⟨_, _, _, _, rfl, (hw _ (List.mem_of_getElem? (i := 51) rfl))⟩,
      ⟨_, _, _, _, rfl, (hw _ (List.mem_of_getElem? (i := 84) rfl))⟩,
      ⟨_, _, _, _, rfl, (hw _ (List.mem_of_getElem? (i := 86) rfl))⟩,
      ⟨_, _, _, _, rfl, (hw _ (List.mem_of_getElem? (i := 108) rfl))⟩,
      ⟨_, _, _, _, rfl, (hw _ (List.mem_of_getElem? (i := 114) rfl))⟩,
      trivial⟩
  · exact ⟨⟨(hw _ (List.mem_of_getElem? (i := 11) rfl)), .array .int, by decide, rfl, rfl⟩,
      ⟨(hw _ (List.mem_of_getElem? (i := 13) rfl)), .int, by decide, rfl, rfl⟩,
      ⟨(hw _ (List.mem_of_getElem? (i := 15) rfl)), .array .int, by decide, rfl, rfl⟩,
      ⟨(hw _ (List.mem_of_getElem? (i := 17) rfl)), .int, by decide, rfl, rfl⟩,
      ⟨(hw _ (List.mem_of_getElem? (i := 19) rfl)), .array .int, by decide, rfl, rfl⟩,
      ⟨(hw _ (List.mem_of_getElem? (i := 21) rfl)), .array .int, by decide, rfl, rfl⟩,
      ⟨(hw _ (List.mem_of_getElem? (i := 23) rfl)), .array .int, by decide, rfl, rfl⟩,
      ⟨(hw _ (List.mem_of_getElem? (i := 25) rfl)), .array .int, by decide, rfl, rfl⟩,
      ⟨(hw _ (List.mem_of_getElem? (i := 27) rfl)), .array .int, by decide, rfl, rfl⟩,
      ⟨(hw _ (List.mem_of_getElem? (i := 30) rfl)), .array .boolean, by decide, rfl, rfl⟩,
      ⟨(hw _ (List.mem_of_getElem? (i := 32) rfl)), .array .int, by decide, rfl, rfl⟩,
      ⟨(hw _ (List.mem_of_getElem? (i := 34) rfl)), .array .int, by decide, rfl, rfl⟩,
      ⟨(hw _ (List.mem_of_getElem? (i := 36) rfl)), .array .boolean, by decide, rfl, rfl⟩,
      ⟨(hw _ (List.mem_of_getElem? (i := 38) rfl)), .array .int, by decide, rfl, rfl⟩,
      ⟨(hw _ (List.mem_of_getElem? (i := 40) rfl)), .array .int, by decide, rfl, rfl⟩,
      ⟨(hw _ (List.mem_of_getElem? (i := 42) rfl)), .array .int, by decide, rfl, rfl⟩,
      ⟨(hw _ (List.mem_of_getElem? (i := 48) rfl)), .int, by decide, rfl, rfl⟩,
      ⟨(hw _ (List.mem_of_getElem? (i := 50) rfl)), .int, by decide, rfl, rfl⟩,
      ⟨(hw _ (List.mem_of_getElem? (i := 52) rfl)), .int, by decide, rfl, rfl⟩,
      ⟨(hw _ (List.mem_of_getElem? (i := 85) rfl)), .int, by decide, rfl, rfl⟩,
      ⟨(hw _ (List.mem_of_getElem? (i := 87) rfl)), .int, by decide, rfl, rfl⟩,
      ⟨(hw _ (List.mem_of_getElem? (i := 109) rfl)), .int, by decide, rfl, rfl⟩,
      ⟨(hw _ (List.mem_of_getElem? (i := 115) rfl)), .int, by decide, rfl, rfl⟩,
      trivial⟩
  · exact trivial
  · intro t ht
    simp only [own_ty, Bool.or_eq_true, decide_eq_true_eq] at ht
    rcases ht with rfl | rfl
    · exact (hw _ (List.mem_of_getElem? (i := 9) rfl))
    · exact (hw _ (List.mem_of_getElem? (i := 28) rfl))
  · exact ⟨⟨(hw _ (List.mem_of_getElem? (i := 3) rfl)), (hw _ (List.mem_of_getElem? (i := 5) rfl)), (hw _ (List.mem_of_getElem? (i := 2) rfl)), ⟨_, _, own_pd0, rfl⟩, own_pn1, own_ne1, rfl, (fun _ => ⟨rfl, rfl⟩), ⟨rfl, (hw _ (List.mem_of_getElem? (i := 4) rfl)), rfl⟩⟩,
      ⟨(hw _ (List.mem_of_getElem? (i := 6) rfl)), (hw _ (List.mem_of_getElem? (i := 7) rfl)), (hw _ (List.mem_of_getElem? (i := 8) rfl))⟩,
      ⟨(hw _ (List.mem_of_getElem? (i := 43) rfl)), (hw _ (List.mem_of_getElem? (i := 46) rfl)), (hw _ (List.mem_of_getElem? (i := 2) rfl)), ⟨_, _, own_pd1, rfl⟩, own_pn1, own_ne1, rfl, (fun h => nomatch h), ⟨rfl, (hw _ (List.mem_of_getElem? (i := 44) rfl)), (hw _ (List.mem_of_getElem? (i := 45) rfl))⟩⟩,
      ⟨(hw _ (List.mem_of_getElem? (i := 53) rfl)), (hw _ (List.mem_of_getElem? (i := 57) rfl)), (hw _ (List.mem_of_getElem? (i := 2) rfl)), ⟨_, _, own_pd2, rfl⟩, own_pn1, own_ne1, rfl, (fun h => nomatch h), ⟨(hw _ (List.mem_of_getElem? (i := 54) rfl)), (hw _ (List.mem_of_getElem? (i := 55) rfl)), (hw _ (List.mem_of_getElem? (i := 56) rfl))⟩⟩,
      ⟨(hw _ (List.mem_of_getElem? (i := 58) rfl)), (hw _ (List.mem_of_getElem? (i := 61) rfl)), (hw _ (List.mem_of_getElem? (i := 2) rfl)), ⟨_, _, own_pd3, rfl⟩, own_pn1, own_ne1, rfl, (fun h => nomatch h), ⟨rfl, (hw _ (List.mem_of_getElem? (i := 59) rfl)), (hw _ (List.mem_of_getElem? (i := 60) rfl))⟩⟩,
      ⟨(hw _ (List.mem_of_getElem? (i := 62) rfl)), (hw _ (List.mem_of_getElem? (i := 65) rfl)), (hw _ (List.mem_of_getElem? (i := 64) rfl)), ⟨_, _, own_pd4, rfl⟩, own_pn0, own_ne0, rfl, (fun h => nomatch h), (hw _ (List.mem_of_getElem? (i := 63) rfl))⟩,
      ⟨(hw _ (List.mem_of_getElem? (i := 66) rfl)), (hw _ (List.mem_of_getElem? (i := 70) rfl)), (hw _ (List.mem_of_getElem? (i := 2) rfl)), ⟨_, _, own_pd5, rfl⟩, own_pn1, own_ne1, rfl, (fun h => nomatch h), ⟨(hw _ (List.mem_of_getElem? (i := 67) rfl)), (hw _ (List.mem_of_getElem? (i := 68) rfl)), (hw _ (List.mem_of_getElem? (i := 69) rfl))⟩⟩,
      ⟨(hw _ (List.mem_of_getElem? (i := 71) rfl)), (hw _ (List.mem_of_getElem? (i := 75) rfl)), (hw _ (List.mem_of_getElem? (i := 2) rfl)), ⟨_, _, own_pd6, rfl⟩, own_pn1, own_ne1, rfl, (fun h => nomatch h), ⟨(hw _ (List.mem_of_getElem? (i := 72) rfl)), (hw _ (List.mem_of_getElem? (i := 73) rfl)), (hw _ (List.mem_of_getElem? (i := 74) rfl))⟩⟩,
      ⟨(hw _ (List.mem_of_getElem? (i := 76) rfl)), (hw _ (List.mem_of_getElem? (i := 79) rfl)), (hw _ (List.mem_of_getElem? (i := 2) rfl)), ⟨_, _, own_pd6, rfl⟩, own_pn1, own_ne1, rfl, (fun h => nomatch h), ⟨rfl, (hw _ (List.mem_of_getElem? (i := 77) rfl)), (hw _ (List.mem_of_getElem? (i := 78) rfl))⟩⟩,
      ⟨(hw _ (List.mem_of_getElem? (i := 80) rfl)), (hw _ (List.mem_of_getElem? (i := 83) rfl)), (hw _ (List.mem_of_getElem? (i := 2) rfl)), ⟨_, _, own_pd7, rfl⟩, own_pn1, own_ne1, rfl, (fun h => nomatch h), ⟨rfl, (hw _ (List.mem_of_getElem? (i := 81) rfl)), (hw _ (List.mem_of_getElem? (i := 82) rfl))⟩⟩,
      ⟨(hw _ (List.mem_of_getElem? (i := 88) rfl)), (hw _ (List.mem_of_getElem? (i := 91) rfl)), (hw _ (List.mem_of_getElem? (i := 2) rfl)), ⟨_, _, own_pd6, rfl⟩, own_pn1, own_ne1, rfl, (fun h => nomatch h), ⟨rfl, (hw _ (List.mem_of_getElem? (i := 89) rfl)), (hw _ (List.mem_of_getElem? (i := 90) rfl))⟩⟩,
      ⟨(hw _ (List.mem_of_getElem? (i := 92) rfl)), (hw _ (List.mem_of_getElem? (i := 95) rfl)), (hw _ (List.mem_of_getElem? (i := 2) rfl)), ⟨_, _, own_pd6, rfl⟩, own_pn1, own_ne1, rfl, (fun h => nomatch h), ⟨rfl, (hw _ (List.mem_of_getElem? (i := 93) rfl)), (hw _ (List.mem_of_getElem? (i := 94) rfl))⟩⟩,
      ⟨(hw _ (List.mem_of_getElem? (i := 96) rfl)), (hw _ (List.mem_of_getElem? (i := 99) rfl)), (hw _ (List.mem_of_getElem? (i := 2) rfl)), ⟨_, _, own_pd6, rfl⟩, own_pn1, own_ne1, rfl, (fun h => nomatch h), ⟨rfl, (hw _ (List.mem_of_getElem? (i := 97) rfl)), (hw _ (List.mem_of_getElem? (i := 98) rfl))⟩⟩,
      ⟨(hw _ (List.mem_of_getElem? (i := 100) rfl)), (hw _ (List.mem_of_getElem? (i := 103) rfl)), (hw _ (List.mem_of_getElem? (i := 2) rfl)), ⟨_, _, own_pd7, rfl⟩, own_pn1, own_ne1, rfl, (fun h => nomatch h), ⟨rfl, (hw _ (List.mem_of_getElem? (i := 101) rfl)), (hw _ (List.mem_of_getElem? (i := 102) rfl))⟩⟩,
      ⟨(hw _ (List.mem_of_getElem? (i := 104) rfl)), (hw _ (List.mem_of_getElem? (i := 107) rfl)), (hw _ (List.mem_of_getElem? (i := 2) rfl)), ⟨_, _, own_pd7, rfl⟩, own_pn1, own_ne1, rfl, (fun h => nomatch h), ⟨rfl, (hw _ (List.mem_of_getElem? (i := 105) rfl)), (hw _ (List.mem_of_getElem? (i := 106) rfl))⟩⟩,
      ⟨(hw _ (List.mem_of_getElem? (i := 110) rfl)), (hw _ (List.mem_of_getElem? (i := 113) rfl)), (hw _ (List.mem_of_getElem? (i := 2) rfl)), ⟨_, _, own_pd7, rfl⟩, own_pn1, own_ne1, rfl, (fun h => nomatch h), ⟨rfl, (hw _ (List.mem_of_getElem? (i := 111) rfl)), (hw _ (List.mem_of_getElem? (i := 112) rfl))⟩⟩,
      ⟨(hw _ (List.mem_of_getElem? (i := 116) rfl)), (hw _ (List.mem_of_getElem? (i := 119) rfl)), (hw _ (List.mem_of_getElem? (i := 2) rfl)), ⟨_, _, own_pd6, rfl⟩, own_pn1, own_ne1, rfl, (fun h => nomatch h), ⟨rfl, (hw _ (List.mem_of_getElem? (i := 117) rfl)), (hw _ (List.mem_of_getElem? (i := 118) rfl))⟩⟩,
      ⟨(hw _ (List.mem_of_getElem? (i := 120) rfl)), (hw _ (List.mem_of_getElem? (i := 123) rfl)), (hw _ (List.mem_of_getElem? (i := 2) rfl)), ⟨_, _, own_pd7, rfl⟩, own_pn1, own_ne1, rfl, (fun h => nomatch h), ⟨rfl, (hw _ (List.mem_of_getElem? (i := 121) rfl)), (hw _ (List.mem_of_getElem? (i := 122) rfl))⟩⟩,
      ⟨(hw _ (List.mem_of_getElem? (i := 124) rfl)), (hw _ (List.mem_of_getElem? (i := 127) rfl)), (hw _ (List.mem_of_getElem? (i := 2) rfl)), ⟨_, _, own_pd6, rfl⟩, own_pn1, own_ne1, rfl, (fun h => nomatch h), ⟨rfl, (hw _ (List.mem_of_getElem? (i := 125) rfl)), (hw _ (List.mem_of_getElem? (i := 126) rfl))⟩⟩,
      ⟨(hw _ (List.mem_of_getElem? (i := 128) rfl)), (hw _ (List.mem_of_getElem? (i := 132) rfl)), (hw _ (List.mem_of_getElem? (i := 2) rfl)), ⟨_, _, own_pd6, rfl⟩, own_pn1, own_ne1, rfl, (fun h => nomatch h), ⟨(hw _ (List.mem_of_getElem? (i := 129) rfl)), (hw _ (List.mem_of_getElem? (i := 130) rfl)), (hw _ (List.mem_of_getElem? (i := 131) rfl))⟩⟩,
      ⟨(hw _ (List.mem_of_getElem? (i := 133) rfl)), (hw _ (List.mem_of_getElem? (i := 137) rfl)), (hw _ (List.mem_of_getElem? (i := 2) rfl)), ⟨_, _, own_pd6, rfl⟩, own_pn1, own_ne1, rfl, (fun h => nomatch h), ⟨(hw _ (List.mem_of_getElem? (i := 134) rfl)), (hw _ (List.mem_of_getElem? (i := 135) rfl)), (hw _ (List.mem_of_getElem? (i := 136) rfl))⟩⟩,
      ⟨(hw _ (List.mem_of_getElem? (i := 138) rfl)), (hw _ (List.mem_of_getElem? (i := 142) rfl)), (hw _ (List.mem_of_getElem? (i := 2) rfl)), ⟨_, _, own_pd5, rfl⟩, own_pn1, own_ne1, rfl, (fun h => nomatch h), ⟨(hw _ (List.mem_of_getElem? (i := 139) rfl)), (hw _ (List.mem_of_getElem? (i := 140) rfl)), (hw _ (List.mem_of_getElem? (i := 141) rfl))⟩⟩,
      ⟨(hw _ (List.mem_of_getElem? (i := 143) rfl)), (hw _ (List.mem_of_getElem? (i := 147) rfl)), (hw _ (List.mem_of_getElem? (i := 2) rfl)), ⟨_, _, own_pd5, rfl⟩, own_pn1, own_ne1, rfl, (fun h => nomatch h), ⟨(hw _ (List.mem_of_getElem? (i := 144) rfl)), (hw _ (List.mem_of_getElem? (i := 145) rfl)), (hw _ (List.mem_of_getElem? (i := 146) rfl))⟩⟩,
      ⟨(hw _ (List.mem_of_getElem? (i := 148) rfl)), (hw _ (List.mem_of_getElem? (i := 152) rfl)), (hw _ (List.mem_of_getElem? (i := 2) rfl)), ⟨_, _, own_pd5, rfl⟩, own_pn1, own_ne1, rfl, (fun h => nomatch h), ⟨(hw _ (List.mem_of_getElem? (i := 149) rfl)), (hw _ (List.mem_of_getElem? (i := 150) rfl)), (hw _ (List.mem_of_getElem? (i := 151) rfl))⟩⟩,
      ⟨(hw _ (List.mem_of_getElem? (i := 153) rfl)), (hw _ (List.mem_of_getElem? (i := 157) rfl)), (hw _ (List.mem_of_getElem? (i := 2) rfl)), ⟨_, _, own_pd6, rfl⟩, own_pn1, own_ne1, rfl, (fun h => nomatch h), ⟨(hw _ (List.mem_of_getElem? (i := 154) rfl)), (hw _ (List.mem_of_getElem? (i := 155) rfl)), (hw _ (List.mem_of_getElem? (i := 156) rfl))⟩⟩,
      ⟨(hw _ (List.mem_of_getElem? (i := 158) rfl)), (hw _ (List.mem_of_getElem? (i := 162) rfl)), (hw _ (List.mem_of_getElem? (i := 2) rfl)), ⟨_, _, own_pd5, rfl⟩, own_pn1, own_ne1, rfl, (fun h => nomatch h), ⟨(hw _ (List.mem_of_getElem? (i := 159) rfl)), (hw _ (List.mem_of_getElem? (i := 160) rfl)), (hw _ (List.mem_of_getElem? (i := 161) rfl))⟩⟩,
      ⟨(hw _ (List.mem_of_getElem? (i := 163) rfl)), (hw _ (List.mem_of_getElem? (i := 166) rfl)), (hw _ (List.mem_of_getElem? (i := 2) rfl)), ⟨_, _, own_pd7, rfl⟩, own_pn1, own_ne1, rfl, (fun h => nomatch h), ⟨rfl, (hw _ (List.mem_of_getElem? (i := 164) rfl)), (hw _ (List.mem_of_getElem? (i := 165) rfl))⟩⟩,
      ⟨(hw _ (List.mem_of_getElem? (i := 167) rfl)), (hw _ (List.mem_of_getElem? (i := 170) rfl)), (hw _ (List.mem_of_getElem? (i := 2) rfl)), ⟨_, _, own_pd8, rfl⟩, own_pn1, own_ne1, rfl, (fun h => nomatch h), ⟨rfl, (hw _ (List.mem_of_getElem? (i := 168) rfl)), (hw _ (List.mem_of_getElem? (i := 169) rfl))⟩⟩,
      ⟨(hw _ (List.mem_of_getElem? (i := 171) rfl)), (hw _ (List.mem_of_getElem? (i := 175) rfl)), (hw _ (List.mem_of_getElem? (i := 2) rfl)), ⟨_, _, own_pd5, rfl⟩, own_pn1, own_ne1, rfl, (fun h => nomatch h), ⟨(hw _ (List.mem_of_getElem? (i := 172) rfl)), (hw _ (List.mem_of_getElem? (i := 173) rfl)), (hw _ (List.mem_of_getElem? (i := 174) rfl))⟩⟩,
      ⟨(hw _ (List.mem_of_getElem? (i := 176) rfl)), (hw _ (List.mem_of_getElem? (i := 179) rfl)), (hw _ (List.mem_of_getElem? (i := 2) rfl)), ⟨_, _, own_pd9, rfl⟩, own_pn1, own_ne1, rfl, (fun h => nomatch h), ⟨rfl, (hw _ (List.mem_of_getElem? (i := 177) rfl)), (hw _ (List.mem_of_getElem? (i := 178) rfl))⟩⟩,
      (hw _ (List.mem_of_getElem? (i := 0) rfl)),
      trivial⟩
/-! # the object's state -/
def Q : Type := List Int32 × Int32 × List Int32 × Int32 × List Int32 × List Int32 × List Int32 × List Int32 × List Int32 × List Int32 × List Int32 × List Int32 × List Int32 × List Int32 × List Int32 × List Int32 × Int32 × Int32 × Int32 × Int32 × Int32 × Int32 × Int32
def Q.f_heap (s : Q) : List Int32 := s.1
def Q.f_lock (s : Q) : Int32 := s.2.1
def Q.f_list (s : Q) : List Int32 := s.2.2.1
def Q.f_cursor (s : Q) : Int32 := s.2.2.2.1
def Q.f_phase (s : Q) : List Int32 := s.2.2.2.2.1
def Q.f_opKind (s : Q) : List Int32 := s.2.2.2.2.2.1
def Q.f_opVal (s : Q) : List Int32 := s.2.2.2.2.2.2.1
def Q.f_resStatus (s : Q) : List Int32 := s.2.2.2.2.2.2.2.1
def Q.f_resVal (s : Q) : List Int32 := s.2.2.2.2.2.2.2.2.1
def Q.f_enlisted (s : Q) : List Int32 := s.2.2.2.2.2.2.2.2.2.1
def Q.f_reqKind (s : Q) : List Int32 := s.2.2.2.2.2.2.2.2.2.2.1
def Q.f_reqVal (s : Q) : List Int32 := s.2.2.2.2.2.2.2.2.2.2.2.1
def Q.f_ready (s : Q) : List Int32 := s.2.2.2.2.2.2.2.2.2.2.2.2.1
def Q.f_respStatus (s : Q) : List Int32 := s.2.2.2.2.2.2.2.2.2.2.2.2.2.1
def Q.f_respVal (s : Q) : List Int32 := s.2.2.2.2.2.2.2.2.2.2.2.2.2.2.1
def Q.f_stamp (s : Q) : List Int32 := s.2.2.2.2.2.2.2.2.2.2.2.2.2.2.2.1
def Q.f_n (s : Q) : Int32 := s.2.2.2.2.2.2.2.2.2.2.2.2.2.2.2.2.1
def Q.f_cap (s : Q) : Int32 := s.2.2.2.2.2.2.2.2.2.2.2.2.2.2.2.2.2.1
def Q.f_age (s : Q) : Int32 := s.2.2.2.2.2.2.2.2.2.2.2.2.2.2.2.2.2.2.1
def Q.f_listLen (s : Q) : Int32 := s.2.2.2.2.2.2.2.2.2.2.2.2.2.2.2.2.2.2.2.1
def Q.f_pass (s : Q) : Int32 := s.2.2.2.2.2.2.2.2.2.2.2.2.2.2.2.2.2.2.2.2.1
def Q.f_heapSize (s : Q) : Int32 := s.2.2.2.2.2.2.2.2.2.2.2.2.2.2.2.2.2.2.2.2.2.1
def Q.f_applied (s : Q) : Int32 := s.2.2.2.2.2.2.2.2.2.2.2.2.2.2.2.2.2.2.2.2.2.2
def Q.s_heap (s : Q) (x : List Int32) : Q := (x, s.2.1, s.2.2.1, s.2.2.2.1, s.2.2.2.2.1, s.2.2.2.2.2.1, s.2.2.2.2.2.2.1, s.2.2.2.2.2.2.2.1, s.2.2.2.2.2.2.2.2.1, s.2.2.2.2.2.2.2.2.2.1, s.2.2.2.2.2.2.2.2.2.2.1, s.2.2.2.2.2.2.2.2.2.2.2.1, s.2.2.2.2.2.2.2.2.2.2.2.2.1, s.2.2.2.2.2.2.2.2.2.2.2.2.2.1, s.2.2.2.2.2.2.2.2.2.2.2.2.2.2.1, s.2.2.2.2.2.2.2.2.2.2.2.2.2.2.2.1, s.2.2.2.2.2.2.2.2.2.2.2.2.2.2.2.2.1, s.2.2.2.2.2.2.2.2.2.2.2.2.2.2.2.2.2.1, s.2.2.2.2.2.2.2.2.2.2.2.2.2.2.2.2.2.2.1, s.2.2.2.2.2.2.2.2.2.2.2.2.2.2.2.2.2.2.2.1, s.2.2.2.2.2.2.2.2.2.2.2.2.2.2.2.2.2.2.2.2.1, s.2.2.2.2.2.2.2.2.2.2.2.2.2.2.2.2.2.2.2.2.2.1, s.2.2.2.2.2.2.2.2.2.2.2.2.2.2.2.2.2.2.2.2.2.2)
def Q.s_lock (s : Q) (x : Int32) : Q := (s.1, x, s.2.2.1, s.2.2.2.1, s.2.2.2.2.1, s.2.2.2.2.2.1, s.2.2.2.2.2.2.1, s.2.2.2.2.2.2.2.1, s.2.2.2.2.2.2.2.2.1, s.2.2.2.2.2.2.2.2.2.1, s.2.2.2.2.2.2.2.2.2.2.1, s.2.2.2.2.2.2.2.2.2.2.2.1, s.2.2.2.2.2.2.2.2.2.2.2.2.1, s.2.2.2.2.2.2.2.2.2.2.2.2.2.1, s.2.2.2.2.2.2.2.2.2.2.2.2.2.2.1, s.2.2.2.2.2.2.2.2.2.2.2.2.2.2.2.1, s.2.2.2.2.2.2.2.2.2.2.2.2.2.2.2.2.1, s.2.2.2.2.2.2.2.2.2.2.2.2.2.2.2.2.2.1, s.2.2.2.2.2.2.2.2.2.2.2.2.2.2.2.2.2.2.1, s.2.2.2.2.2.2.2.2.2.2.2.2.2.2.2.2.2.2.2.1, s.2.2.2.2.2.2.2.2.2.2.2.2.2.2.2.2.2.2.2.2.1, s.2.2.2.2.2.2.2.2.2.2.2.2.2.2.2.2.2.2.2.2.2.1, s.2.2.2.2.2.2.2.2.2.2.2.2.2.2.2.2.2.2.2.2.2.2)
def Q.s_list (s : Q) (x : List Int32) : Q := (s.1, s.2.1, x, s.2.2.2.1, s.2.2.2.2.1, s.2.2.2.2.2.1, s.2.2.2.2.2.2.1, s.2.2.2.2.2.2.2.1, s.2.2.2.2.2.2.2.2.1, s.2.2.2.2.2.2.2.2.2.1, s.2.2.2.2.2.2.2.2.2.2.1, s.2.2.2.2.2.2.2.2.2.2.2.1, s.2.2.2.2.2.2.2.2.2.2.2.2.1, s.2.2.2.2.2.2.2.2.2.2.2.2.2.1, s.2.2.2.2.2.2.2.2.2.2.2.2.2.2.1, s.2.2.2.2.2.2.2.2.2.2.2.2.2.2.2.1, s.2.2.2.2.2.2.2.2.2.2.2.2.2.2.2.2.1, s.2.2.2.2.2.2.2.2.2.2.2.2.2.2.2.2.2.1, s.2.2.2.2.2.2.2.2.2.2.2.2.2.2.2.2.2.2.1, s.2.2.2.2.2.2.2.2.2.2.2.2.2.2.2.2.2.2.2.1, s.2.2.2.2.2.2.2.2.2.2.2.2.2.2.2.2.2.2.2.2.1, s.2.2.2.2.2.2.2.2.2.2.2.2.2.2.2.2.2.2.2.2.2.1, s.2.2.2.2.2.2.2.2.2.2.2.2.2.2.2.2.2.2.2.2.2.2)
def Q.s_cursor (s : Q) (x : Int32) : Q := (s.1, s.2.1, s.2.2.1, x, s.2.2.2.2.1, s.2.2.2.2.2.1, s.2.2.2.2.2.2.1, s.2.2.2.2.2.2.2.1, s.2.2.2.2.2.2.2.2.1, s.2.2.2.2.2.2.2.2.2.1, s.2.2.2.2.2.2.2.2.2.2.1, s.2.2.2.2.2.2.2.2.2.2.2.1, s.2.2.2.2.2.2.2.2.2.2.2.2.1, s.2.2.2.2.2.2.2.2.2.2.2.2.2.1, s.2.2.2.2.2.2.2.2.2.2.2.2.2.2.1, s.2.2.2.2.2.2.2.2.2.2.2.2.2.2.2.1, s.2.2.2.2.2.2.2.2.2.2.2.2.2.2.2.2.1, s.2.2.2.2.2.2.2.2.2.2.2.2.2.2.2.2.2.1, s.2.2.2.2.2.2.2.2.2.2.2.2.2.2.2.2.2.2.1, s.2.2.2.2.2.2.2.2.2.2.2.2.2.2.2.2.2.2.2.1, s.2.2.2.2.2.2.2.2.2.2.2.2.2.2.2.2.2.2.2.2.1, s.2.2.2.2.2.2.2.2.2.2.2.2.2.2.2.2.2.2.2.2.2.1, s.2.2.2.2.2.2.2.2.2.2.2.2.2.2.2.2.2.2.2.2.2.2)
def Q.s_phase (s : Q) (x : List Int32) : Q := (s.1, s.2.1, s.2.2.1, s.2.2.2.1, x, s.2.2.2.2.2.1, s.2.2.2.2.2.2.1, s.2.2.2.2.2.2.2.1, s.2.2.2.2.2.2.2.2.1, s.2.2.2.2.2.2.2.2.2.1, s.2.2.2.2.2.2.2.2.2.2.1, s.2.2.2.2.2.2.2.2.2.2.2.1, s.2.2.2.2.2.2.2.2.2.2.2.2.1, s.2.2.2.2.2.2.2.2.2.2.2.2.2.1, s.2.2.2.2.2.2.2.2.2.2.2.2.2.2.1, s.2.2.2.2.2.2.2.2.2.2.2.2.2.2.2.1, s.2.2.2.2.2.2.2.2.2.2.2.2.2.2.2.2.1, s.2.2.2.2.2.2.2.2.2.2.2.2.2.2.2.2.2.1, s.2.2.2.2.2.2.2.2.2.2.2.2.2.2.2.2.2.2.1, s.2.2.2.2.2.2.2.2.2.2.2.2.2.2.2.2.2.2.2.1, s.2.2.2.2.2.2.2.2.2.2.2.2.2.2.2.2.2.2.2.2.1, s.2.2.2.2.2.2.2.2.2.2.2.2.2.2.2.2.2.2.2.2.2.1, s.2.2.2.2.2.2.2.2.2.2.2.2.2.2.2.2.2.2.2.2.2.2)
def Q.s_opKind (s : Q) (x : List Int32) : Q := (s.1, s.2.1, s.2.2.1, s.2.2.2.1, s.2.2.2.2.1, x, s.2.2.2.2.2.2.1, s.2.2.2.2.2.2.2.1, s.2.2.2.2.2.2.2.2.1, s.2.2.2.2.2.2.2.2.2.1, s.2.2.2.2.2.2.2.2.2.2.1, s.2.2.2.2.2.2.2.2.2.2.2.1, s.2.2.2.2.2.2.2.2.2.2.2.2.1, s.2.2.2.2.2.2.2.2.2.2.2.2.2.1, s.2.2.2.2.2.2.2.2.2.2.2.2.2.2.1, s.2.2.2.2.2.2.2.2.2.2.2.2.2.2.2.1, s.2.2.2.2.2.2.2.2.2.2.2.2.2.2.2.2.1, s.2.2.2.2.2.2.2.2.2.2.2.2.2.2.2.2.2.1, s.2.2.2.2.2.2.2.2.2.2.2.2.2.2.2.2.2.2.1, s.2.2.2.2.2.2.2.2.2.2.2.2.2.2.2.2.2.2.2.1, s.2.2.2.2.2.2.2.2.2.2.2.2.2.2.2.2.2.2.2.2.1, s.2.2.2.2.2.2.2.2.2.2.2.2.2.2.2.2.2.2.2.2.2.1, s.2.2.2.2.2.2.2.2.2.2.2.2.2.2.2.2.2.2.2.2.2.2)
def Q.s_opVal (s : Q) (x : List Int32) : Q := (s.1, s.2.1, s.2.2.1, s.2.2.2.1, s.2.2.2.2.1, s.2.2.2.2.2.1, x, s.2.2.2.2.2.2.2.1, s.2.2.2.2.2.2.2.2.1, s.2.2.2.2.2.2.2.2.2.1, s.2.2.2.2.2.2.2.2.2.2.1, s.2.2.2.2.2.2.2.2.2.2.2.1, s.2.2.2.2.2.2.2.2.2.2.2.2.1, s.2.2.2.2.2.2.2.2.2.2.2.2.2.1, s.2.2.2.2.2.2.2.2.2.2.2.2.2.2.1, s.2.2.2.2.2.2.2.2.2.2.2.2.2.2.2.1, s.2.2.2.2.2.2.2.2.2.2.2.2.2.2.2.2.1, s.2.2.2.2.2.2.2.2.2.2.2.2.2.2.2.2.2.1, s.2.2.2.2.2.2.2.2.2.2.2.2.2.2.2.2.2.2.1, s.2.2.2.2.2.2.2.2.2.2.2.2.2.2.2.2.2.2.2.1, s.2.2.2.2.2.2.2.2.2.2.2.2.2.2.2.2.2.2.2.2.1, s.2.2.2.2.2.2.2.2.2.2.2.2.2.2.2.2.2.2.2.2.2.1, s.2.2.2.2.2.2.2.2.2.2.2.2.2.2.2.2.2.2.2.2.2.2)
def Q.s_resStatus (s : Q) (x : List Int32) : Q := (s.1, s.2.1, s.2.2.1, s.2.2.2.1, s.2.2.2.2.1, s.2.2.2.2.2.1, s.2.2.2.2.2.2.1, x, s.2.2.2.2.2.2.2.2.1, s.2.2.2.2.2.2.2.2.2.1, s.2.2.2.2.2.2.2.2.2.2.1, s.2.2.2.2.2.2.2.2.2.2.2.1, s.2.2.2.2.2.2.2.2.2.2.2.2.1, s.2.2.2.2.2.2.2.2.2.2.2.2.2.1, s.2.2.2.2.2.2.2.2.2.2.2.2.2.2.1, s.2.2.2.2.2.2.2.2.2.2.2.2.2.2.2.1, s.2.2.2.2.2.2.2.2.2.2.2.2.2.2.2.2.1, s.2.2.2.2.2.2.2.2.2.2.2.2.2.2.2.2.2.1, s.2.2.2.2.2.2.2.2.2.2.2.2.2.2.2.2.2.2.1, s.2.2.2.2.2.2.2.2.2.2.2.2.2.2.2.2.2.2.2.1, s.2.2.2.2.2.2.2.2.2.2.2.2.2.2.2.2.2.2.2.2.1, s.2.2.2.2.2.2.2.2.2.2.2.2.2.2.2.2.2.2.2.2.2.1, s.2.2.2.2.2.2.2.2.2.2.2.2.2.2.2.2.2.2.2.2.2.2)
def Q.s_resVal (s : Q) (x : List Int32) : Q := (s.1, s.2.1, s.2.2.1, s.2.2.2.1, s.2.2.2.2.1, s.2.2.2.2.2.1, s.2.2.2.2.2.2.1, s.2.2.2.2.2.2.2.1, x, s.2.2.2.2.2.2.2.2.2.1, s.2.2.2.2.2.2.2.2.2.2.1, s.2.2.2.2.2.2.2.2.2.2.2.1, s.2.2.2.2.2.2.2.2.2.2.2.2.1, s.2.2.2.2.2.2.2.2.2.2.2.2.2.1, s.2.2.2.2.2.2.2.2.2.2.2.2.2.2.1, s.2.2.2.2.2.2.2.2.2.2.2.2.2.2.2.1, s.2.2.2.2.2.2.2.2.2.2.2.2.2.2.2.2.1, s.2.2.2.2.2.2.2.2.2.2.2.2.2.2.2.2.2.1, s.2.2.2.2.2.2.2.2.2.2.2.2.2.2.2.2.2.2.1, s.2.2.2.2.2.2.2.2.2.2.2.2.2.2.2.2.2.2.2.1, s.2.2.2.2.2.2.2.2.2.2.2.2.2.2.2.2.2.2.2.2.1, s.2.2.2.2.2.2.2.2.2.2.2.2.2.2.2.2.2.2.2.2.2.1, s.2.2.2.2.2.2.2.2.2.2.2.2.2.2.2.2.2.2.2.2.2.2)
def Q.s_enlisted (s : Q) (x : List Int32) : Q := (s.1, s.2.1, s.2.2.1, s.2.2.2.1, s.2.2.2.2.1, s.2.2.2.2.2.1, s.2.2.2.2.2.2.1, s.2.2.2.2.2.2.2.1, s.2.2.2.2.2.2.2.2.1, x, s.2.2.2.2.2.2.2.2.2.2.1, s.2.2.2.2.2.2.2.2.2.2.2.1, s.2.2.2.2.2.2.2.2.2.2.2.2.1, s.2.2.2.2.2.2.2.2.2.2.2.2.2.1, s.2.2.2.2.2.2.2.2.2.2.2.2.2.2.1, s.2.2.2.2.2.2.2.2.2.2.2.2.2.2.2.1, s.2.2.2.2.2.2.2.2.2.2.2.2.2.2.2.2.1, s.2.2.2.2.2.2.2.2.2.2.2.2.2.2.2.2.2.1, s.2.2.2.2.2.2.2.2.2.2.2.2.2.2.2.2.2.2.1, s.2.2.2.2.2.2.2.2.2.2.2.2.2.2.2.2.2.2.2.1, s.2.2.2.2.2.2.2.2.2.2.2.2.2.2.2.2.2.2.2.2.1, s.2.2.2.2.2.2.2.2.2.2.2.2.2.2.2.2.2.2.2.2.2.1, s.2.2.2.2.2.2.2.2.2.2.2.2.2.2.2.2.2.2.2.2.2.2)
def Q.s_reqKind (s : Q) (x : List Int32) : Q := (s.1, s.2.1, s.2.2.1, s.2.2.2.1, s.2.2.2.2.1, s.2.2.2.2.2.1, s.2.2.2.2.2.2.1, s.2.2.2.2.2.2.2.1, s.2.2.2.2.2.2.2.2.1, s.2.2.2.2.2.2.2.2.2.1, x, s.2.2.2.2.2.2.2.2.2.2.2.1, s.2.2.2.2.2.2.2.2.2.2.2.2.1, s.2.2.2.2.2.2.2.2.2.2.2.2.2.1, s.2.2.2.2.2.2.2.2.2.2.2.2.2.2.1, s.2.2.2.2.2.2.2.2.2.2.2.2.2.2.2.1, s.2.2.2.2.2.2.2.2.2.2.2.2.2.2.2.2.1, s.2.2.2.2.2.2.2.2.2.2.2.2.2.2.2.2.2.1, s.2.2.2.2.2.2.2.2.2.2.2.2.2.2.2.2.2.2.1, s.2.2.2.2.2.2.2.2.2.2.2.2.2.2.2.2.2.2.2.1, s.2.2.2.2.2.2.2.2.2.2.2.2.2.2.2.2.2.2.2.2.1, s.2.2.2.2.2.2.2.2.2.2.2.2.2.2.2.2.2.2.2.2.2.1, s.2.2.2.2.2.2.2.2.2.2.2.2.2.2.2.2.2.2.2.2.2.2)
def Q.s_reqVal (s : Q) (x : List Int32) : Q := (s.1, s.2.1, s.2.2.1, s.2.2.2.1, s.2.2.2.2.1, s.2.2.2.2.2.1, s.2.2.2.2.2.2.1, s.2.2.2.2.2.2.2.1, s.2.2.2.2.2.2.2.2.1, s.2.2.2.2.2.2.2.2.2.1, s.2.2.2.2.2.2.2.2.2.2.1, x, s.2.2.2.2.2.2.2.2.2.2.2.2.1, s.2.2.2.2.2.2.2.2.2.2.2.2.2.1, s.2.2.2.2.2.2.2.2.2.2.2.2.2.2.1, s.2.2.2.2.2.2.2.2.2.2.2.2.2.2.2.1, s.2.2.2.2.2.2.2.2.2.2.2.2.2.2.2.2.1, s.2.2.2.2.2.2.2.2.2.2.2.2.2.2.2.2.2.1, s.2.2.2.2.2.2.2.2.2.2.2.2.2.2.2.2.2.2.1, s.2.2.2.2.2.2.2.2.2.2.2.2.2.2.2.2.2.2.2.1, s.2.2.2.2.2.2.2.2.2.2.2.2.2.2.2.2.2.2.2.2.1, s.2.2.2.2.2.2.2.2.2.2.2.2.2.2.2.2.2.2.2.2.2.1, s.2.2.2.2.2.2.2.2.2.2.2.2.2.2.2.2.2.2.2.2.2.2)
def Q.s_ready (s : Q) (x : List Int32) : Q := (s.1, s.2.1, s.2.2.1, s.2.2.2.1, s.2.2.2.2.1, s.2.2.2.2.2.1, s.2.2.2.2.2.2.1, s.2.2.2.2.2.2.2.1, s.2.2.2.2.2.2.2.2.1, s.2.2.2.2.2.2.2.2.2.1, s.2.2.2.2.2.2.2.2.2.2.1, s.2.2.2.2.2.2.2.2.2.2.2.1, x, s.2.2.2.2.2.2.2.2.2.2.2.2.2.1, s.2.2.2.2.2.2.2.2.2.2.2.2.2.2.1, s.2.2.2.2.2.2.2.2.2.2.2.2.2.2.2.1, s.2.2.2.2.2.2.2.2.2.2.2.2.2.2.2.2.1, s.2.2.2.2.2.2.2.2.2.2.2.2.2.2.2.2.2.1, s.2.2.2.2.2.2.2.2.2.2.2.2.2.2.2.2.2.2.1, s.2.2.2.2.2.2.2.2.2.2.2.2.2.2.2.2.2.2.2.1, s.2.2.2.2.2.2.2.2.2.2.2.2.2.2.2.2.2.2.2.2.1, s.2.2.2.2.2.2.2.2.2.2.2.2.2.2.2.2.2.2.2.2.2.1, s.2.2.2.2.2.2.2.2.2.2.2.2.2.2.2.2.2.2.2.2.2.2)
def Q.s_respStatus (s : Q) (x : List Int32) : Q := (s.1, s.2.1, s.2.2.1, s.2.2.2.1, s.2.2.2.2.1, s.2.2.2.2.2.1, s.2.2.2.2.2.2.1, s.2.2.2.2.2.2.2.1, s.2.2.2.2.2.2.2.2.1, s.2.2.2.2.2.2.2.2.2.1, s.2.2.2.2.2.2.2.2.2.2.1, s.2.2.2.2.2.2.2.2.2.2.2.1, s.2.2.2.2.2.2.2.2.2.2.2.2.1, x, s.2.2.2.2.2.2.2.2.2.2.2.2.2.2.1, s.2.2.2.2.2.2.2.2.2.2.2.2.2.2.2.1, s.2.2.2.2.2.2.2.2.2.2.2.2.2.2.2.2.1, s.2.2.2.2.2.2.2.2.2.2.2.2.2.2.2.2.2.1, s.2.2.2.2.2.2.2.2.2.2.2.2.2.2.2.2.2.2.1, s.2.2.2.2.2.2.2.2.2.2.2.2.2.2.2.2.2.2.2.1, s.2.2.2.2.2.2.2.2.2.2.2.2.2.2.2.2.2.2.2.2.1, s.2.2.2.2.2.2.2.2.2.2.2.2.2.2.2.2.2.2.2.2.2.1, s.2.2.2.2.2.2.2.2.2.2.2.2.2.2.2.2.2.2.2.2.2.2)
def Q.s_respVal (s : Q) (x : List Int32) : Q := (s.1, s.2.1, s.2.2.1, s.2.2.2.1, s.2.2.2.2.1, s.2.2.2.2.2.1, s.2.2.2.2.2.2.1, s.2.2.2.2.2.2.2.1, s.2.2.2.2.2.2.2.2.1, s.2.2.2.2.2.2.2.2.2.1, s.2.2.2.2.2.2.2.2.2.2.1, s.2.2.2.2.2.2.2.2.2.2.2.1, s.2.2.2.2.2.2.2.2.2.2.2.2.1, s.2.2.2.2.2.2.2.2.2.2.2.2.2.1, x, s.2.2.2.2.2.2.2.2.2.2.2.2.2.2.2.1, s.2.2.2.2.2.2.2.2.2.2.2.2.2.2.2.2.1, s.2.2.2.2.2.2.2.2.2.2.2.2.2.2.2.2.2.1, s.2.2.2.2.2.2.2.2.2.2.2.2.2.2.2.2.2.2.1, s.2.2.2.2.2.2.2.2.2.2.2.2.2.2.2.2.2.2.2.1, s.2.2.2.2.2.2.2.2.2.2.2.2.2.2.2.2.2.2.2.2.1, s.2.2.2.2.2.2.2.2.2.2.2.2.2.2.2.2.2.2.2.2.2.1, s.2.2.2.2.2.2.2.2.2.2.2.2.2.2.2.2.2.2.2.2.2.2)
def Q.s_stamp (s : Q) (x : List Int32) : Q := (s.1, s.2.1, s.2.2.1, s.2.2.2.1, s.2.2.2.2.1, s.2.2.2.2.2.1, s.2.2.2.2.2.2.1, s.2.2.2.2.2.2.2.1, s.2.2.2.2.2.2.2.2.1, s.2.2.2.2.2.2.2.2.2.1, s.2.2.2.2.2.2.2.2.2.2.1, s.2.2.2.2.2.2.2.2.2.2.2.1, s.2.2.2.2.2.2.2.2.2.2.2.2.1, s.2.2.2.2.2.2.2.2.2.2.2.2.2.1, s.2.2.2.2.2.2.2.2.2.2.2.2.2.2.1, x, s.2.2.2.2.2.2.2.2.2.2.2.2.2.2.2.2.1, s.2.2.2.2.2.2.2.2.2.2.2.2.2.2.2.2.2.1, s.2.2.2.2.2.2.2.2.2.2.2.2.2.2.2.2.2.2.1, s.2.2.2.2.2.2.2.2.2.2.2.2.2.2.2.2.2.2.2.1, s.2.2.2.2.2.2.2.2.2.2.2.2.2.2.2.2.2.2.2.2.1, s.2.2.2.2.2.2.2.2.2.2.2.2.2.2.2.2.2.2.2.2.2.1, s.2.2.2.2.2.2.2.2.2.2.2.2.2.2.2.2.2.2.2.2.2.2)
def Q.s_n (s : Q) (x : Int32) : Q := (s.1, s.2.1, s.2.2.1, s.2.2.2.1, s.2.2.2.2.1, s.2.2.2.2.2.1, s.2.2.2.2.2.2.1, s.2.2.2.2.2.2.2.1, s.2.2.2.2.2.2.2.2.1, s.2.2.2.2.2.2.2.2.2.1, s.2.2.2.2.2.2.2.2.2.2.1, s.2.2.2.2.2.2.2.2.2.2.2.1, s.2.2.2.2.2.2.2.2.2.2.2.2.1, s.2.2.2.2.2.2.2.2.2.2.2.2.2.1, s.2.2.2.2.2.2.2.2.2.2.2.2.2.2.1, s.2.2.2.2.2.2.2.2.2.2.2.2.2.2.2.1, x, s.2.2.2.2.2.2.2.2.2.2.2.2.2.2.2.2.2.1, s.2.2.2.2.2.2.2.2.2.2.2.2.2.2.2.2.2.2.1, s.2.2.2.2.2.2.2.2.2.2.2.2.2.2.2.2.2.2.2.1, s.2.2.2.2.2.2.2.2.2.2.2.2.2.2.2.2.2.2.2.2.1, s.2.2.2.2.2.2.2.2.2.2.2.2.2.2.2.2.2.2.2.2.2.1, s.2.2.2.2.2.2.2.2.2.2.2.2.2.2.2.2.2.2.2.2.2.2)
def Q.s_cap (s : Q) (x : Int32) : Q := (s.1, s.2.1, s.2.2.1, s.2.2.2.1, s.2.2.2.2.1, s.2.2.2.2.2.1, s.2.2.2.2.2.2.1, s.2.2.2.2.2.2.2.1, s.2.2.2.2.2.2.2.2.1, s.2.2.2.2.2.2.2.2.2.1, s.2.2.2.2.2.2.2.2.2.2.1, s.2.2.2.2.2.2.2.2.2.2.2.1, s.2.2.2.2.2.2.2.2.2.2.2.2.1, s.2.2.2.2.2.2.2.2.2.2.2.2.2.1, s.2.2.2.2.2.2.2.2.2.2.2.2.2.2.1, s.2.2.2.2.2.2.2.2.2.2.2.2.2.2.2.1, s.2.2.2.2.2.2.2.2.2.2.2.2.2.2.2.2.1, x, s.2.2.2.2.2.2.2.2.2.2.2.2.2.2.2.2.2.2.1, s.2.2.2.2.2.2.2.2.2.2.2.2.2.2.2.2.2.2.2.1, s.2.2.2.2.2.2.2.2.2.2.2.2.2.2.2.2.2.2.2.2.1, s.2.2.2.2.2.2.2.2.2.2.2.2.2.2.2.2.2.2.2.2.2.1, s.2.2.2.2.2.2.2.2.2.2.2.2.2.2.2.2.2.2.2.2.2.2)
def Q.s_age (s : Q) (x : Int32) : Q := (s.1, s.2.1, s.2.2.1, s.2.2.2.1, s.2.2.2.2.1, s.2.2.2.2.2.1, s.2.2.2.2.2.2.1, s.2.2.2.2.2.2.2.1, s.2.2.2.2.2.2.2.2.1, s.2.2.2.2.2.2.2.2.2.1, s.2.2.2.2.2.2.2.2.2.2.1, s.2.2.2.2.2.2.2.2.2.2.2.1, s.2.2.2.2.2.2.2.2.2.2.2.2.1, s.2.2.2.2.2.2.2.2.2.2.2.2.2.1, s.2.2.2.2.2.2.2.2.2.2.2.2.2.2.1, s.2.2.2.2.2.2.2.2.2.2.2.2.2.2.2.1, s.2.2.2.2.2.2.2.2.2.2.2.2.2.2.2.2.1, s.2.2.2.2.2.2.2.2.2.2.2.2.2.2.2.2.2.1, x, s.2.2.2.2.2.2.2.2.2.2.2.2.2.2.2.2.2.2.2.1, s.2.2.2.2.2.2.2.2.2.2.2.2.2.2.2.2.2.2.2.2.1, s.2.2.2.2.2.2.2.2.2.2.2.2.2.2.2.2.2.2.2.2.2.1, s.2.2.2.2.2.2.2.2.2.2.2.2.2.2.2.2.2.2.2.2.2.2)
def Q.s_listLen (s : Q) (x : Int32) : Q := (s.1, s.2.1, s.2.2.1, s.2.2.2.1, s.2.2.2.2.1, s.2.2.2.2.2.1, s.2.2.2.2.2.2.1, s.2.2.2.2.2.2.2.1, s.2.2.2.2.2.2.2.2.1, s.2.2.2.2.2.2.2.2.2.1, s.2.2.2.2.2.2.2.2.2.2.1, s.2.2.2.2.2.2.2.2.2.2.2.1, s.2.2.2.2.2.2.2.2.2.2.2.2.1, s.2.2.2.2.2.2.2.2.2.2.2.2.2.1, s.2.2.2.2.2.2.2.2.2.2.2.2.2.2.1, s.2.2.2.2.2.2.2.2.2.2.2.2.2.2.2.1, s.2.2.2.2.2.2.2.2.2.2.2.2.2.2.2.2.1, s.2.2.2.2.2.2.2.2.2.2.2.2.2.2.2.2.2.1, s.2.2.2.2.2.2.2.2.2.2.2.2.2.2.2.2.2.2.1, x, s.2.2.2.2.2.2.2.2.2.2.2.2.2.2.2.2.2.2.2.2.1, s.2.2.2.2.2.2.2.2.2.2.2.2.2.2.2.2.2.2.2.2.2.1, s.2.2.2.2.2.2.2.2.2.2.2.2.2.2.2.2.2.2.2.2.2.2)
def Q.s_pass (s : Q) (x : Int32) : Q := (s.1, s.2.1, s.2.2.1, s.2.2.2.1, s.2.2.2.2.1, s.2.2.2.2.2.1, s.2.2.2.2.2.2.1, s.2.2.2.2.2.2.2.1, s.2.2.2.2.2.2.2.2.1, s.2.2.2.2.2.2.2.2.2.1, s.2.2.2.2.2.2.2.2.2.2.1, s.2.2.2.2.2.2.2.2.2.2.2.1, s.2.2.2.2.2.2.2.2.2.2.2.2.1, s.2.2.2.2.2.2.2.2.2.2.2.2.2.1, s.2.2.2.2.2.2.2.2.2.2.2.2.2.2.1, s.2.2.2.2.2.2.2.2.2.2.2.2.2.2.2.1, s.2.2.2.2.2.2.2.2.2.2.2.2.2.2.2.2.1, s.2.2.2.2.2.2.2.2.2.2.2.2.2.2.2.2.2.1, s.2.2.2.2.2.2.2.2.2.2.2.2.2.2.2.2.2.2.1, s.2.2.2.2.2.2.2.2.2.2.2.2.2.2.2.2.2.2.2.1, x, s.2.2.2.2.2.2.2.2.2.2.2.2.2.2.2.2.2.2.2.2.2.1, s.2.2.2.2.2.2.2.2.2.2.2.2.2.2.2.2.2.2.2.2.2.2)
def Q.s_heapSize (s : Q) (x : Int32) : Q := (s.1, s.2.1, s.2.2.1, s.2.2.2.1, s.2.2.2.2.1, s.2.2.2.2.2.1, s.2.2.2.2.2.2.1, s.2.2.2.2.2.2.2.1, s.2.2.2.2.2.2.2.2.1, s.2.2.2.2.2.2.2.2.2.1, s.2.2.2.2.2.2.2.2.2.2.1, s.2.2.2.2.2.2.2.2.2.2.2.1, s.2.2.2.2.2.2.2.2.2.2.2.2.1, s.2.2.2.2.2.2.2.2.2.2.2.2.2.1, s.2.2.2.2.2.2.2.2.2.2.2.2.2.2.1, s.2.2.2.2.2.2.2.2.2.2.2.2.2.2.2.1, s.2.2.2.2.2.2.2.2.2.2.2.2.2.2.2.2.1, s.2.2.2.2.2.2.2.2.2.2.2.2.2.2.2.2.2.1, s.2.2.2.2.2.2.2.2.2.2.2.2.2.2.2.2.2.2.1, s.2.2.2.2.2.2.2.2.2.2.2.2.2.2.2.2.2.2.2.1, s.2.2.2.2.2.2.2.2.2.2.2.2.2.2.2.2.2.2.2.2.1, x, s.2.2.2.2.2.2.2.2.2.2.2.2.2.2.2.2.2.2.2.2.2.2)
def Q.s_applied (s : Q) (x : Int32) : Q := (s.1, s.2.1, s.2.2.1, s.2.2.2.1, s.2.2.2.2.1, s.2.2.2.2.2.1, s.2.2.2.2.2.2.1, s.2.2.2.2.2.2.2.1, s.2.2.2.2.2.2.2.2.1, s.2.2.2.2.2.2.2.2.2.1, s.2.2.2.2.2.2.2.2.2.2.1, s.2.2.2.2.2.2.2.2.2.2.2.1, s.2.2.2.2.2.2.2.2.2.2.2.2.1, s.2.2.2.2.2.2.2.2.2.2.2.2.2.1, s.2.2.2.2.2.2.2.2.2.2.2.2.2.2.1, s.2.2.2.2.2.2.2.2.2.2.2.2.2.2.2.1, s.2.2.2.2.2.2.2.2.2.2.2.2.2.2.2.2.1, s.2.2.2.2.2.2.2.2.2.2.2.2.2.2.2.2.2.1, s.2.2.2.2.2.2.2.2.2.2.2.2.2.2.2.2.2.2.1, s.2.2.2.2.2.2.2.2.2.2.2.2.2.2.2.2.2.2.2.1, s.2.2.2.2.2.2.2.2.2.2.2.2.2.2.2.2.2.2.2.2.1, s.2.2.2.2.2.2.2.2.2.2.2.2.2.2.2.2.2.2.2.2.2.1, x)
def Q0 : Q := (List.replicate 32 0, (-1 : Int32), List.replicate 8 0, (-1 : Int32), List.replicate 8 0, List.replicate 8 0, List.replicate 8 0, List.replicate 8 0, List.replicate 8 0, List.replicate 8 0, List.replicate 8 0, List.replicate 8 0, List.replicate 8 0, List.replicate 8 0, List.replicate 8 0, List.replicate 8 0, (0 : Int32), (0 : Int32), (0 : Int32), (0 : Int32), (0 : Int32), (0 : Int32), (0 : Int32))
def Q.mk (q0 : List Int32) (q1 : Int32) (q2 : List Int32) (q3 : Int32) (q4 : List Int32) (q5 : List Int32) (q6 : List Int32) (q7 : List Int32) (q8 : List Int32) (q9 : List Int32) (q10 : List Int32) (q11 : List Int32) (q12 : List Int32) (q13 : List Int32) (q14 : List Int32) (q15 : List Int32) (q16 : Int32) (q17 : Int32) (q18 : Int32) (q19 : Int32) (q20 : Int32) (q21 : Int32) (q22 : Int32) : Q := (q0, q1, q2, q3, q4, q5, q6, q7, q8, q9, q10, q11, q12, q13, q14, q15, q16, q17, q18, q19, q20, q21, q22)
theorem own_f_heap {q0 : List Int32} {q1 : Int32} {q2 : List Int32} {q3 : Int32} {q4 : List Int32} {q5 : List Int32} {q6 : List Int32} {q7 : List Int32} {q8 : List Int32} {q9 : List Int32} {q10 : List Int32} {q11 : List Int32} {q12 : List Int32} {q13 : List Int32} {q14 : List Int32} {q15 : List Int32} {q16 : Int32} {q17 : Int32} {q18 : Int32} {q19 : Int32} {q20 : Int32} {q21 : Int32} {q22 : Int32} : (Q.mk q0 q1 q2 q3 q4 q5 q6 q7 q8 q9 q10 q11 q12 q13 q14 q15 q16 q17 q18 q19 q20 q21 q22).f_heap = q0 := by have _h := trivial; exact rfl
theorem own_f_lock {q0 : List Int32} {q1 : Int32} {q2 : List Int32} {q3 : Int32} {q4 : List Int32} {q5 : List Int32} {q6 : List Int32} {q7 : List Int32} {q8 : List Int32} {q9 : List Int32} {q10 : List Int32} {q11 : List Int32} {q12 : List Int32} {q13 : List Int32} {q14 : List Int32} {q15 : List Int32} {q16 : Int32} {q17 : Int32} {q18 : Int32} {q19 : Int32} {q20 : Int32} {q21 : Int32} {q22 : Int32} : (Q.mk q0 q1 q2 q3 q4 q5 q6 q7 q8 q9 q10 q11 q12 q13 q14 q15 q16 q17 q18 q19 q20 q21 q22).f_lock = q1 := by have _h := trivial; exact rfl
theorem own_f_list {q0 : List Int32} {q1 : Int32} {q2 : List Int32} {q3 : Int32} {q4 : List Int32} {q5 : List Int32} {q6 : List Int32} {q7 : List Int32} {q8 : List Int32} {q9 : List Int32} {q10 : List Int32} {q11 : List Int32} {q12 : List Int32} {q13 : List Int32} {q14 : List Int32} {q15 : List Int32} {q16 : Int32} {q17 : Int32} {q18 : Int32} {q19 : Int32} {q20 : Int32} {q21 : Int32} {q22 : Int32} : (Q.mk q0 q1 q2 q3 q4 q5 q6 q7 q8 q9 q10 q11 q12 q13 q14 q15 q16 q17 q18 q19 q20 q21 q22).f_list = q2 := by have _h := trivial; exact rfl
theorem own_f_cursor {q0 : List Int32} {q1 : Int32} {q2 : List Int32} {q3 : Int32} {q4 : List Int32} {q5 : List Int32} {q6 : List Int32} {q7 : List Int32} {q8 : List Int32} {q9 : List Int32} {q10 : List Int32} {q11 : List Int32} {q12 : List Int32} {q13 : List Int32} {q14 : List Int32} {q15 : List Int32} {q16 : Int32} {q17 : Int32} {q18 : Int32} {q19 : Int32} {q20 : Int32} {q21 : Int32} {q22 : Int32} : (Q.mk q0 q1 q2 q3 q4 q5 q6 q7 q8 q9 q10 q11 q12 q13 q14 q15 q16 q17 q18 q19 q20 q21 q22).f_cursor = q3 := by have _h := trivial; exact rfl
theorem own_f_phase {q0 : List Int32} {q1 : Int32} {q2 : List Int32} {q3 : Int32} {q4 : List Int32} {q5 : List Int32} {q6 : List Int32} {q7 : List Int32} {q8 : List Int32} {q9 : List Int32} {q10 : List Int32} {q11 : List Int32} {q12 : List Int32} {q13 : List Int32} {q14 : List Int32} {q15 : List Int32} {q16 : Int32} {q17 : Int32} {q18 : Int32} {q19 : Int32} {q20 : Int32} {q21 : Int32} {q22 : Int32} : (Q.mk q0 q1 q2 q3 q4 q5 q6 q7 q8 q9 q10 q11 q12 q13 q14 q15 q16 q17 q18 q19 q20 q21 q22).f_phase = q4 := by have _h := trivial; exact rfl
theorem own_f_opKind {q0 : List Int32} {q1 : Int32} {q2 : List Int32} {q3 : Int32} {q4 : List Int32} {q5 : List Int32} {q6 : List Int32} {q7 : List Int32} {q8 : List Int32} {q9 : List Int32} {q10 : List Int32} {q11 : List Int32} {q12 : List Int32} {q13 : List Int32} {q14 : List Int32} {q15 : List Int32} {q16 : Int32} {q17 : Int32} {q18 : Int32} {q19 : Int32} {q20 : Int32} {q21 : Int32} {q22 : Int32} : (Q.mk q0 q1 q2 q3 q4 q5 q6 q7 q8 q9 q10 q11 q12 q13 q14 q15 q16 q17 q18 q19 q20 q21 q22).f_opKind = q5 := by have _h := trivial; exact rfl
theorem own_f_opVal {q0 : List Int32} {q1 : Int32} {q2 : List Int32} {q3 : Int32} {q4 : List Int32} {q5 : List Int32} {q6 : List Int32} {q7 : List Int32} {q8 : List Int32} {q9 : List Int32} {q10 : List Int32} {q11 : List Int32} {q12 : List Int32} {q13 : List Int32} {q14 : List Int32} {q15 : List Int32} {q16 : Int32} {q17 : Int32} {q18 : Int32} {q19 : Int32} {q20 : Int32} {q21 : Int32} {q22 : Int32} : (Q.mk q0 q1 q2 q3 q4 q5 q6 q7 q8 q9 q10 q11 q12 q13 q14 q15 q16 q17 q18 q19 q20 q21 q22).f_opVal = q6 := by have _h := trivial; exact rfl
theorem own_f_resStatus {q0 : List Int32} {q1 : Int32} {q2 : List Int32} {q3 : Int32} {q4 : List Int32} {q5 : List Int32} {q6 : List Int32} {q7 : List Int32} {q8 : List Int32} {q9 : List Int32} {q10 : List Int32} {q11 : List Int32} {q12 : List Int32} {q13 : List Int32} {q14 : List Int32} {q15 : List Int32} {q16 : Int32} {q17 : Int32} {q18 : Int32} {q19 : Int32} {q20 : Int32} {q21 : Int32} {q22 : Int32} : (Q.mk q0 q1 q2 q3 q4 q5 q6 q7 q8 q9 q10 q11 q12 q13 q14 q15 q16 q17 q18 q19 q20 q21 q22).f_resStatus = q7 := by have _h := trivial; exact rfl
theorem own_f_resVal {q0 : List Int32} {q1 : Int32} {q2 : List Int32} {q3 : Int32} {q4 : List Int32} {q5 : List Int32} {q6 : List Int32} {q7 : List Int32} {q8 : List Int32} {q9 : List Int32} {q10 : List Int32} {q11 : List Int32} {q12 : List Int32} {q13 : List Int32} {q14 : List Int32} {q15 : List Int32} {q16 : Int32} {q17 : Int32} {q18 : Int32} {q19 : Int32} {q20 : Int32} {q21 : Int32} {q22 : Int32} : (Q.mk q0 q1 q2 q3 q4 q5 q6 q7 q8 q9 q10 q11 q12 q13 q14 q15 q16 q17 q18 q19 q20 q21 q22).f_resVal = q8 := by have _h := trivial; exact rfl
theorem own_f_enlisted {q0 : List Int32} {q1 : Int32} {q2 : List Int32} {q3 : Int32} {q4 : List Int32} {q5 : List Int32} {q6 : List Int32} {q7 : List Int32} {q8 : List Int32} {q9 : List Int32} {q10 : List Int32} {q11 : List Int32} {q12 : List Int32} {q13 : List Int32} {q14 : List Int32} {q15 : List Int32} {q16 : Int32} {q17 : Int32} {q18 : Int32} {q19 : Int32} {q20 : Int32} {q21 : Int32} {q22 : Int32} : (Q.mk q0 q1 q2 q3 q4 q5 q6 q7 q8 q9 q10 q11 q12 q13 q14 q15 q16 q17 q18 q19 q20 q21 q22).f_enlisted = q9 := by have _h := trivial; exact rfl
theorem own_f_reqKind {q0 : List Int32} {q1 : Int32} {q2 : List Int32} {q3 : Int32} {q4 : List Int32} {q5 : List Int32} {q6 : List Int32} {q7 : List Int32} {q8 : List Int32} {q9 : List Int32} {q10 : List Int32} {q11 : List Int32} {q12 : List Int32} {q13 : List Int32} {q14 : List Int32} {q15 : List Int32} {q16 : Int32} {q17 : Int32} {q18 : Int32} {q19 : Int32} {q20 : Int32} {q21 : Int32} {q22 : Int32} : (Q.mk q0 q1 q2 q3 q4 q5 q6 q7 q8 q9 q10 q11 q12 q13 q14 q15 q16 q17 q18 q19 q20 q21 q22).f_reqKind = q10 := by have _h := trivial; exact rfl
theorem own_f_reqVal {q0 : List Int32} {q1 : Int32} {q2 : List Int32} {q3 : Int32} {q4 : List Int32} {q5 : List Int32} {q6 : List Int32} {q7 : List Int32} {q8 : List Int32} {q9 : List Int32} {q10 : List Int32} {q11 : List Int32} {q12 : List Int32} {q13 : List Int32} {q14 : List Int32} {q15 : List Int32} {q16 : Int32} {q17 : Int32} {q18 : Int32} {q19 : Int32} {q20 : Int32} {q21 : Int32} {q22 : Int32} : (Q.mk q0 q1 q2 q3 q4 q5 q6 q7 q8 q9 q10 q11 q12 q13 q14 q15 q16 q17 q18 q19 q20 q21 q22).f_reqVal = q11 := by have _h := trivial; exact rfl
theorem own_f_ready {q0 : List Int32} {q1 : Int32} {q2 : List Int32} {q3 : Int32} {q4 : List Int32} {q5 : List Int32} {q6 : List Int32} {q7 : List Int32} {q8 : List Int32} {q9 : List Int32} {q10 : List Int32} {q11 : List Int32} {q12 : List Int32} {q13 : List Int32} {q14 : List Int32} {q15 : List Int32} {q16 : Int32} {q17 : Int32} {q18 : Int32} {q19 : Int32} {q20 : Int32} {q21 : Int32} {q22 : Int32} : (Q.mk q0 q1 q2 q3 q4 q5 q6 q7 q8 q9 q10 q11 q12 q13 q14 q15 q16 q17 q18 q19 q20 q21 q22).f_ready = q12 := by have _h := trivial; exact rfl
theorem own_f_respStatus {q0 : List Int32} {q1 : Int32} {q2 : List Int32} {q3 : Int32} {q4 : List Int32} {q5 : List Int32} {q6 : List Int32} {q7 : List Int32} {q8 : List Int32} {q9 : List Int32} {q10 : List Int32} {q11 : List Int32} {q12 : List Int32} {q13 : List Int32} {q14 : List Int32} {q15 : List Int32} {q16 : Int32} {q17 : Int32} {q18 : Int32} {q19 : Int32} {q20 : Int32} {q21 : Int32} {q22 : Int32} : (Q.mk q0 q1 q2 q3 q4 q5 q6 q7 q8 q9 q10 q11 q12 q13 q14 q15 q16 q17 q18 q19 q20 q21 q22).f_respStatus = q13 := by have _h := trivial; exact rfl
theorem own_f_respVal {q0 : List Int32} {q1 : Int32} {q2 : List Int32} {q3 : Int32} {q4 : List Int32} {q5 : List Int32} {q6 : List Int32} {q7 : List Int32} {q8 : List Int32} {q9 : List Int32} {q10 : List Int32} {q11 : List Int32} {q12 : List Int32} {q13 : List Int32} {q14 : List Int32} {q15 : List Int32} {q16 : Int32} {q17 : Int32} {q18 : Int32} {q19 : Int32} {q20 : Int32} {q21 : Int32} {q22 : Int32} : (Q.mk q0 q1 q2 q3 q4 q5 q6 q7 q8 q9 q10 q11 q12 q13 q14 q15 q16 q17 q18 q19 q20 q21 q22).f_respVal = q14 := by have _h := trivial; exact rfl
theorem own_f_stamp {q0 : List Int32} {q1 : Int32} {q2 : List Int32} {q3 : Int32} {q4 : List Int32} {q5 : List Int32} {q6 : List Int32} {q7 : List Int32} {q8 : List Int32} {q9 : List Int32} {q10 : List Int32} {q11 : List Int32} {q12 : List Int32} {q13 : List Int32} {q14 : List Int32} {q15 : List Int32} {q16 : Int32} {q17 : Int32} {q18 : Int32} {q19 : Int32} {q20 : Int32} {q21 : Int32} {q22 : Int32} : (Q.mk q0 q1 q2 q3 q4 q5 q6 q7 q8 q9 q10 q11 q12 q13 q14 q15 q16 q17 q18 q19 q20 q21 q22).f_stamp = q15 := by have _h := trivial; exact rfl
theorem own_f_n {q0 : List Int32} {q1 : Int32} {q2 : List Int32} {q3 : Int32} {q4 : List Int32} {q5 : List Int32} {q6 : List Int32} {q7 : List Int32} {q8 : List Int32} {q9 : List Int32} {q10 : List Int32} {q11 : List Int32} {q12 : List Int32} {q13 : List Int32} {q14 : List Int32} {q15 : List Int32} {q16 : Int32} {q17 : Int32} {q18 : Int32} {q19 : Int32} {q20 : Int32} {q21 : Int32} {q22 : Int32} : (Q.mk q0 q1 q2 q3 q4 q5 q6 q7 q8 q9 q10 q11 q12 q13 q14 q15 q16 q17 q18 q19 q20 q21 q22).f_n = q16 := by have _h := trivial; exact rfl
theorem own_f_cap {q0 : List Int32} {q1 : Int32} {q2 : List Int32} {q3 : Int32} {q4 : List Int32} {q5 : List Int32} {q6 : List Int32} {q7 : List Int32} {q8 : List Int32} {q9 : List Int32} {q10 : List Int32} {q11 : List Int32} {q12 : List Int32} {q13 : List Int32} {q14 : List Int32} {q15 : List Int32} {q16 : Int32} {q17 : Int32} {q18 : Int32} {q19 : Int32} {q20 : Int32} {q21 : Int32} {q22 : Int32} : (Q.mk q0 q1 q2 q3 q4 q5 q6 q7 q8 q9 q10 q11 q12 q13 q14 q15 q16 q17 q18 q19 q20 q21 q22).f_cap = q17 := by have _h := trivial; exact rfl
theorem own_f_age {q0 : List Int32} {q1 : Int32} {q2 : List Int32} {q3 : Int32} {q4 : List Int32} {q5 : List Int32} {q6 : List Int32} {q7 : List Int32} {q8 : List Int32} {q9 : List Int32} {q10 : List Int32} {q11 : List Int32} {q12 : List Int32} {q13 : List Int32} {q14 : List Int32} {q15 : List Int32} {q16 : Int32} {q17 : Int32} {q18 : Int32} {q19 : Int32} {q20 : Int32} {q21 : Int32} {q22 : Int32} : (Q.mk q0 q1 q2 q3 q4 q5 q6 q7 q8 q9 q10 q11 q12 q13 q14 q15 q16 q17 q18 q19 q20 q21 q22).f_age = q18 := by have _h := trivial; exact rfl
theorem own_f_listLen {q0 : List Int32} {q1 : Int32} {q2 : List Int32} {q3 : Int32} {q4 : List Int32} {q5 : List Int32} {q6 : List Int32} {q7 : List Int32} {q8 : List Int32} {q9 : List Int32} {q10 : List Int32} {q11 : List Int32} {q12 : List Int32} {q13 : List Int32} {q14 : List Int32} {q15 : List Int32} {q16 : Int32} {q17 : Int32} {q18 : Int32} {q19 : Int32} {q20 : Int32} {q21 : Int32} {q22 : Int32} : (Q.mk q0 q1 q2 q3 q4 q5 q6 q7 q8 q9 q10 q11 q12 q13 q14 q15 q16 q17 q18 q19 q20 q21 q22).f_listLen = q19 := by have _h := trivial; exact rfl
theorem own_f_pass {q0 : List Int32} {q1 : Int32} {q2 : List Int32} {q3 : Int32} {q4 : List Int32} {q5 : List Int32} {q6 : List Int32} {q7 : List Int32} {q8 : List Int32} {q9 : List Int32} {q10 : List Int32} {q11 : List Int32} {q12 : List Int32} {q13 : List Int32} {q14 : List Int32} {q15 : List Int32} {q16 : Int32} {q17 : Int32} {q18 : Int32} {q19 : Int32} {q20 : Int32} {q21 : Int32} {q22 : Int32} : (Q.mk q0 q1 q2 q3 q4 q5 q6 q7 q8 q9 q10 q11 q12 q13 q14 q15 q16 q17 q18 q19 q20 q21 q22).f_pass = q20 := by have _h := trivial; exact rfl
theorem own_f_heapSize {q0 : List Int32} {q1 : Int32} {q2 : List Int32} {q3 : Int32} {q4 : List Int32} {q5 : List Int32} {q6 : List Int32} {q7 : List Int32} {q8 : List Int32} {q9 : List Int32} {q10 : List Int32} {q11 : List Int32} {q12 : List Int32} {q13 : List Int32} {q14 : List Int32} {q15 : List Int32} {q16 : Int32} {q17 : Int32} {q18 : Int32} {q19 : Int32} {q20 : Int32} {q21 : Int32} {q22 : Int32} : (Q.mk q0 q1 q2 q3 q4 q5 q6 q7 q8 q9 q10 q11 q12 q13 q14 q15 q16 q17 q18 q19 q20 q21 q22).f_heapSize = q21 := by have _h := trivial; exact rfl
theorem own_f_applied {q0 : List Int32} {q1 : Int32} {q2 : List Int32} {q3 : Int32} {q4 : List Int32} {q5 : List Int32} {q6 : List Int32} {q7 : List Int32} {q8 : List Int32} {q9 : List Int32} {q10 : List Int32} {q11 : List Int32} {q12 : List Int32} {q13 : List Int32} {q14 : List Int32} {q15 : List Int32} {q16 : Int32} {q17 : Int32} {q18 : Int32} {q19 : Int32} {q20 : Int32} {q21 : Int32} {q22 : Int32} : (Q.mk q0 q1 q2 q3 q4 q5 q6 q7 q8 q9 q10 q11 q12 q13 q14 q15 q16 q17 q18 q19 q20 q21 q22).f_applied = q22 := by have _h := trivial; exact rfl
theorem own_e_heap (s : Q) (x : List Int32) : s.s_heap x = Q.mk x s.f_lock s.f_list s.f_cursor s.f_phase s.f_opKind s.f_opVal s.f_resStatus s.f_resVal s.f_enlisted s.f_reqKind s.f_reqVal s.f_ready s.f_respStatus s.f_respVal s.f_stamp s.f_n s.f_cap s.f_age s.f_listLen s.f_pass s.f_heapSize s.f_applied := by have _h := trivial; exact rfl
theorem own_e_lock (s : Q) (x : Int32) : s.s_lock x = Q.mk s.f_heap x s.f_list s.f_cursor s.f_phase s.f_opKind s.f_opVal s.f_resStatus s.f_resVal s.f_enlisted s.f_reqKind s.f_reqVal s.f_ready s.f_respStatus s.f_respVal s.f_stamp s.f_n s.f_cap s.f_age s.f_listLen s.f_pass s.f_heapSize s.f_applied := by have _h := trivial; exact rfl
theorem own_e_list (s : Q) (x : List Int32) : s.s_list x = Q.mk s.f_heap s.f_lock x s.f_cursor s.f_phase s.f_opKind s.f_opVal s.f_resStatus s.f_resVal s.f_enlisted s.f_reqKind s.f_reqVal s.f_ready s.f_respStatus s.f_respVal s.f_stamp s.f_n s.f_cap s.f_age s.f_listLen s.f_pass s.f_heapSize s.f_applied := by have _h := trivial; exact rfl
theorem own_e_cursor (s : Q) (x : Int32) : s.s_cursor x = Q.mk s.f_heap s.f_lock s.f_list x s.f_phase s.f_opKind s.f_opVal s.f_resStatus s.f_resVal s.f_enlisted s.f_reqKind s.f_reqVal s.f_ready s.f_respStatus s.f_respVal s.f_stamp s.f_n s.f_cap s.f_age s.f_listLen s.f_pass s.f_heapSize s.f_applied := by have _h := trivial; exact rfl
theorem own_e_phase (s : Q) (x : List Int32) : s.s_phase x = Q.mk s.f_heap s.f_lock s.f_list s.f_cursor x s.f_opKind s.f_opVal s.f_resStatus s.f_resVal s.f_enlisted s.f_reqKind s.f_reqVal s.f_ready s.f_respStatus s.f_respVal s.f_stamp s.f_n s.f_cap s.f_age s.f_listLen s.f_pass s.f_heapSize s.f_applied := by have _h := trivial; exact rfl
theorem own_e_opKind (s : Q) (x : List Int32) : s.s_opKind x = Q.mk s.f_heap s.f_lock s.f_list s.f_cursor s.f_phase x s.f_opVal s.f_resStatus s.f_resVal s.f_enlisted s.f_reqKind s.f_reqVal s.f_ready s.f_respStatus s.f_respVal s.f_stamp s.f_n s.f_cap s.f_age s.f_listLen s.f_pass s.f_heapSize s.f_applied := by have _h := trivial; exact rfl
theorem own_e_opVal (s : Q) (x : List Int32) : s.s_opVal x = Q.mk s.f_heap s.f_lock s.f_list s.f_cursor s.f_phase s.f_opKind x s.f_resStatus s.f_resVal s.f_enlisted s.f_reqKind s.f_reqVal s.f_ready s.f_respStatus s.f_respVal s.f_stamp s.f_n s.f_cap s.f_age s.f_listLen s.f_pass s.f_heapSize s.f_applied := by have _h := trivial; exact rfl
theorem own_e_resStatus (s : Q) (x : List Int32) : s.s_resStatus x = Q.mk s.f_heap s.f_lock s.f_list s.f_cursor s.f_phase s.f_opKind s.f_opVal x s.f_resVal s.f_enlisted s.f_reqKind s.f_reqVal s.f_ready s.f_respStatus s.f_respVal s.f_stamp s.f_n s.f_cap s.f_age s.f_listLen s.f_pass s.f_heapSize s.f_applied := by have _h := trivial; exact rfl
theorem own_e_resVal (s : Q) (x : List Int32) : s.s_resVal x = Q.mk s.f_heap s.f_lock s.f_list s.f_cursor s.f_phase s.f_opKind s.f_opVal s.f_resStatus x s.f_enlisted s.f_reqKind s.f_reqVal s.f_ready s.f_respStatus s.f_respVal s.f_stamp s.f_n s.f_cap s.f_age s.f_listLen s.f_pass s.f_heapSize s.f_applied := by have _h := trivial; exact rfl
theorem own_e_enlisted (s : Q) (x : List Int32) : s.s_enlisted x = Q.mk s.f_heap s.f_lock s.f_list s.f_cursor s.f_phase s.f_opKind s.f_opVal s.f_resStatus s.f_resVal x s.f_reqKind s.f_reqVal s.f_ready s.f_respStatus s.f_respVal s.f_stamp s.f_n s.f_cap s.f_age s.f_listLen s.f_pass s.f_heapSize s.f_applied := by have _h := trivial; exact rfl
theorem own_e_reqKind (s : Q) (x : List Int32) : s.s_reqKind x = Q.mk s.f_heap s.f_lock s.f_list s.f_cursor s.f_phase s.f_opKind s.f_opVal s.f_resStatus s.f_resVal s.f_enlisted x s.f_reqVal s.f_ready s.f_respStatus s.f_respVal s.f_stamp s.f_n s.f_cap s.f_age s.f_listLen s.f_pass s.f_heapSize s.f_applied := by have _h := trivial; exact rfl
theorem own_e_reqVal (s : Q) (x : List Int32) : s.s_reqVal x = Q.mk s.f_heap s.f_lock s.f_list s.f_cursor s.f_phase s.f_opKind s.f_opVal s.f_resStatus s.f_resVal s.f_enlisted s.f_reqKind x s.f_ready s.f_respStatus s.f_respVal s.f_stamp s.f_n s.f_cap s.f_age s.f_listLen s.f_pass s.f_heapSize s.f_applied := by have _h := trivial; exact rfl
theorem own_e_ready (s : Q) (x : List Int32) : s.s_ready x = Q.mk s.f_heap s.f_lock s.f_list s.f_cursor s.f_phase s.f_opKind s.f_opVal s.f_resStatus s.f_resVal s.f_enlisted s.f_reqKind s.f_reqVal x s.f_respStatus s.f_respVal s.f_stamp s.f_n s.f_cap s.f_age s.f_listLen s.f_pass s.f_heapSize s.f_applied := by have _h := trivial; exact rfl
theorem own_e_respStatus (s : Q) (x : List Int32) : s.s_respStatus x = Q.mk s.f_heap s.f_lock s.f_list s.f_cursor s.f_phase s.f_opKind s.f_opVal s.f_resStatus s.f_resVal s.f_enlisted s.f_reqKind s.f_reqVal s.f_ready x s.f_respVal s.f_stamp s.f_n s.f_cap s.f_age s.f_listLen s.f_pass s.f_heapSize s.f_applied := by have _h := trivial; exact rfl
theorem own_e_respVal (s : Q) (x : List Int32) : s.s_respVal x = Q.mk s.f_heap s.f_lock s.f_list s.f_cursor s.f_phase s.f_opKind s.f_opVal s.f_resStatus s.f_resVal s.f_enlisted s.f_reqKind s.f_reqVal s.f_ready s.f_respStatus x s.f_stamp s.f_n s.f_cap s.f_age s.f_listLen s.f_pass s.f_heapSize s.f_applied := by have _h := trivial; exact rfl
theorem own_e_stamp (s : Q) (x : List Int32) : s.s_stamp x = Q.mk s.f_heap s.f_lock s.f_list s.f_cursor s.f_phase s.f_opKind s.f_opVal s.f_resStatus s.f_resVal s.f_enlisted s.f_reqKind s.f_reqVal s.f_ready s.f_respStatus s.f_respVal x s.f_n s.f_cap s.f_age s.f_listLen s.f_pass s.f_heapSize s.f_applied := by have _h := trivial; exact rfl
theorem own_e_n (s : Q) (x : Int32) : s.s_n x = Q.mk s.f_heap s.f_lock s.f_list s.f_cursor s.f_phase s.f_opKind s.f_opVal s.f_resStatus s.f_resVal s.f_enlisted s.f_reqKind s.f_reqVal s.f_ready s.f_respStatus s.f_respVal s.f_stamp x s.f_cap s.f_age s.f_listLen s.f_pass s.f_heapSize s.f_applied := by have _h := trivial; exact rfl
theorem own_e_cap (s : Q) (x : Int32) : s.s_cap x = Q.mk s.f_heap s.f_lock s.f_list s.f_cursor s.f_phase s.f_opKind s.f_opVal s.f_resStatus s.f_resVal s.f_enlisted s.f_reqKind s.f_reqVal s.f_ready s.f_respStatus s.f_respVal s.f_stamp s.f_n x s.f_age s.f_listLen s.f_pass s.f_heapSize s.f_applied := by have _h := trivial; exact rfl
theorem own_e_age (s : Q) (x : Int32) : s.s_age x = Q.mk s.f_heap s.f_lock s.f_list s.f_cursor s.f_phase s.f_opKind s.f_opVal s.f_resStatus s.f_resVal s.f_enlisted s.f_reqKind s.f_reqVal s.f_ready s.f_respStatus s.f_respVal s.f_stamp s.f_n s.f_cap x s.f_listLen s.f_pass s.f_heapSize s.f_applied := by have _h := trivial; exact rfl
theorem own_e_listLen (s : Q) (x : Int32) : s.s_listLen x = Q.mk s.f_heap s.f_lock s.f_list s.f_cursor s.f_phase s.f_opKind s.f_opVal s.f_resStatus s.f_resVal s.f_enlisted s.f_reqKind s.f_reqVal s.f_ready s.f_respStatus s.f_respVal s.f_stamp s.f_n s.f_cap s.f_age x s.f_pass s.f_heapSize s.f_applied := by have _h := trivial; exact rfl
theorem own_e_pass (s : Q) (x : Int32) : s.s_pass x = Q.mk s.f_heap s.f_lock s.f_list s.f_cursor s.f_phase s.f_opKind s.f_opVal s.f_resStatus s.f_resVal s.f_enlisted s.f_reqKind s.f_reqVal s.f_ready s.f_respStatus s.f_respVal s.f_stamp s.f_n s.f_cap s.f_age s.f_listLen x s.f_heapSize s.f_applied := by have _h := trivial; exact rfl
theorem own_e_heapSize (s : Q) (x : Int32) : s.s_heapSize x = Q.mk s.f_heap s.f_lock s.f_list s.f_cursor s.f_phase s.f_opKind s.f_opVal s.f_resStatus s.f_resVal s.f_enlisted s.f_reqKind s.f_reqVal s.f_ready s.f_respStatus s.f_respVal s.f_stamp s.f_n s.f_cap s.f_age s.f_listLen s.f_pass x s.f_applied := by have _h := trivial; exact rfl
theorem own_e_applied (s : Q) (x : Int32) : s.s_applied x = Q.mk s.f_heap s.f_lock s.f_list s.f_cursor s.f_phase s.f_opKind s.f_opVal s.f_resStatus s.f_resVal s.f_enlisted s.f_reqKind s.f_reqVal s.f_ready s.f_respStatus s.f_respVal s.f_stamp s.f_n s.f_cap s.f_age s.f_listLen s.f_pass s.f_heapSize x := by have _h := trivial; exact rfl
theorem own_z_heap : Q0.f_heap = List.replicate 32 0 := by have _h := trivial; exact rfl
theorem own_z_lock : Q0.f_lock = (-1 : Int32) := by have _h := trivial; exact rfl
theorem own_z_list : Q0.f_list = List.replicate 8 0 := by have _h := trivial; exact rfl
theorem own_z_cursor : Q0.f_cursor = (-1 : Int32) := by have _h := trivial; exact rfl
theorem own_z_phase : Q0.f_phase = List.replicate 8 0 := by have _h := trivial; exact rfl
theorem own_z_opKind : Q0.f_opKind = List.replicate 8 0 := by have _h := trivial; exact rfl
theorem own_z_opVal : Q0.f_opVal = List.replicate 8 0 := by have _h := trivial; exact rfl
theorem own_z_resStatus : Q0.f_resStatus = List.replicate 8 0 := by have _h := trivial; exact rfl
theorem own_z_resVal : Q0.f_resVal = List.replicate 8 0 := by have _h := trivial; exact rfl
theorem own_z_enlisted : Q0.f_enlisted = List.replicate 8 0 := by have _h := trivial; exact rfl
theorem own_z_reqKind : Q0.f_reqKind = List.replicate 8 0 := by have _h := trivial; exact rfl
theorem own_z_reqVal : Q0.f_reqVal = List.replicate 8 0 := by have _h := trivial; exact rfl
theorem own_z_ready : Q0.f_ready = List.replicate 8 0 := by have _h := trivial; exact rfl
theorem own_z_respStatus : Q0.f_respStatus = List.replicate 8 0 := by have _h := trivial; exact rfl
theorem own_z_respVal : Q0.f_respVal = List.replicate 8 0 := by have _h := trivial; exact rfl
theorem own_z_stamp : Q0.f_stamp = List.replicate 8 0 := by have _h := trivial; exact rfl
theorem own_z_n : Q0.f_n = (0 : Int32) := by have _h := trivial; exact rfl
theorem own_z_cap : Q0.f_cap = (0 : Int32) := by have _h := trivial; exact rfl
theorem own_z_age : Q0.f_age = (0 : Int32) := by have _h := trivial; exact rfl
theorem own_z_listLen : Q0.f_listLen = (0 : Int32) := by have _h := trivial; exact rfl
theorem own_z_pass : Q0.f_pass = (0 : Int32) := by have _h := trivial; exact rfl
theorem own_z_heapSize : Q0.f_heapSize = (0 : Int32) := by have _h := trivial; exact rfl
theorem own_z_applied : Q0.f_applied = (0 : Int32) := by have _h := trivial; exact rfl
abbrev W0 (R : AHeap) : AHeap := R
def own_cells1 (q0 : List Int32) (q1 : Int32) (q2 : List Int32) (q3 : Int32) (q4 : List Int32) (q5 : List Int32) (q6 : List Int32) (q7 : List Int32) (q8 : List Int32) (q9 : List Int32) (q10 : List Int32) (q11 : List Int32) (q12 : List Int32) (q13 : List Int32) (q14 : List Int32) (q15 : List Int32) (q16 : Int32) (q17 : Int32) (q18 : Int32) (q19 : Int32) (q20 : Int32) (q21 : Int32) (q22 : Int32) (R : AHeap) : AHeap := .inl [.ref 1, .int q1, .ref 2, .int q3, .ref 3, .ref 4, .ref 5, .ref 6, .ref 7, .ref 8, .ref 9, .ref 10, .ref 11, .ref 12, .ref 13, .ref 14, .int q16, .int q17, .int q18, .int q19, .int q20, .int q21, .int q22] ::
  .inr (.inl (1, q0)) ::
  .inr (.inl (1, q2)) ::
  .inr (.inl (1, q4)) ::
  .inr (.inl (1, q5)) ::
  .inr (.inl (1, q6)) ::
  .inr (.inl (1, q7)) ::
  .inr (.inl (1, q8)) ::
  .inr (.inl (2, q9)) ::
  .inr (.inl (1, q10)) ::
  .inr (.inl (1, q11)) ::
  .inr (.inl (2, q12)) ::
  .inr (.inl (1, q13)) ::
  .inr (.inl (1, q14)) ::
  .inr (.inl (1, q15)) ::
  R
def C1 (q0 : List Int32) (q1 : Int32) (q2 : List Int32) (q3 : Int32) (q4 : List Int32) (q5 : List Int32) (q6 : List Int32) (q7 : List Int32) (q8 : List Int32) (q9 : List Int32) (q10 : List Int32) (q11 : List Int32) (q12 : List Int32) (q13 : List Int32) (q14 : List Int32) (q15 : List Int32) (q16 : Int32) (q17 : Int32) (q18 : Int32) (q19 : Int32) (q20 : Int32) (q21 : Int32) (q22 : Int32) (R : AHeap) : AHeap := own_cells1 q0 q1 q2 q3 q4 q5 q6 q7 q8 q9 q10 q11 q12 q13 q14 q15 q16 q17 q18 q19 q20 q21 q22 R
abbrev W1 (s : Q) (R : AHeap) : AHeap := C1 s.f_heap s.f_lock s.f_list s.f_cursor s.f_phase s.f_opKind s.f_opVal s.f_resStatus s.f_resVal s.f_enlisted s.f_reqKind s.f_reqVal s.f_ready s.f_respStatus s.f_respVal s.f_stamp s.f_n s.f_cap s.f_age s.f_listLen s.f_pass s.f_heapSize s.f_applied R
theorem own_g1_heap {q0 : List Int32} {q1 : Int32} {q2 : List Int32} {q3 : Int32} {q4 : List Int32} {q5 : List Int32} {q6 : List Int32} {q7 : List Int32} {q8 : List Int32} {q9 : List Int32} {q10 : List Int32} {q11 : List Int32} {q12 : List Int32} {q13 : List Int32} {q14 : List Int32} {q15 : List Int32} {q16 : Int32} {q17 : Int32} {q18 : Int32} {q19 : Int32} {q20 : Int32} {q21 : Int32} {q22 : Int32} {R : AHeap} : getC (C1 q0 q1 q2 q3 q4 q5 q6 q7 q8 q9 q10 q11 q12 q13 q14 q15 q16 q17 q18 q19 q20 q21 q22 R) 0 0 = some (.ref 1) := rfl
theorem own_a1_heap {q0 : List Int32} {q1 : Int32} {q2 : List Int32} {q3 : Int32} {q4 : List Int32} {q5 : List Int32} {q6 : List Int32} {q7 : List Int32} {q8 : List Int32} {q9 : List Int32} {q10 : List Int32} {q11 : List Int32} {q12 : List Int32} {q13 : List Int32} {q14 : List Int32} {q15 : List Int32} {q16 : Int32} {q17 : Int32} {q18 : Int32} {q19 : Int32} {q20 : Int32} {q21 : Int32} {q22 : Int32} {R : AHeap} : (C1 q0 q1 q2 q3 q4 q5 q6 q7 q8 q9 q10 q11 q12 q13 q14 q15 q16 q17 q18 q19 q20 q21 q22 R)[1]? = some (.inr (.inl (1, q0))) := rfl
theorem own_s1_heap {q0 : List Int32} {q1 : Int32} {q2 : List Int32} {q3 : Int32} {q4 : List Int32} {q5 : List Int32} {q6 : List Int32} {q7 : List Int32} {q8 : List Int32} {q9 : List Int32} {q10 : List Int32} {q11 : List Int32} {q12 : List Int32} {q13 : List Int32} {q14 : List Int32} {q15 : List Int32} {q16 : Int32} {q17 : Int32} {q18 : Int32} {q19 : Int32} {q20 : Int32} {q21 : Int32} {q22 : Int32} {R : AHeap} {x : List Int32} : (C1 q0 q1 q2 q3 q4 q5 q6 q7 q8 q9 q10 q11 q12 q13 q14 q15 q16 q17 q18 q19 q20 q21 q22 R).set 1 (.inr (.inl (1, x))) = (C1 x q1 q2 q3 q4 q5 q6 q7 q8 q9 q10 q11 q12 q13 q14 q15 q16 q17 q18 q19 q20 q21 q22 R) := rfl
theorem own_g1_lock {q0 : List Int32} {q1 : Int32} {q2 : List Int32} {q3 : Int32} {q4 : List Int32} {q5 : List Int32} {q6 : List Int32} {q7 : List Int32} {q8 : List Int32} {q9 : List Int32} {q10 : List Int32} {q11 : List Int32} {q12 : List Int32} {q13 : List Int32} {q14 : List Int32} {q15 : List Int32} {q16 : Int32} {q17 : Int32} {q18 : Int32} {q19 : Int32} {q20 : Int32} {q21 : Int32} {q22 : Int32} {R : AHeap} : getC (C1 q0 q1 q2 q3 q4 q5 q6 q7 q8 q9 q10 q11 q12 q13 q14 q15 q16 q17 q18 q19 q20 q21 q22 R) 0 1 = some (.int q1) := rfl
theorem own_p1_lock {q0 : List Int32} {q1 : Int32} {q2 : List Int32} {q3 : Int32} {q4 : List Int32} {q5 : List Int32} {q6 : List Int32} {q7 : List Int32} {q8 : List Int32} {q9 : List Int32} {q10 : List Int32} {q11 : List Int32} {q12 : List Int32} {q13 : List Int32} {q14 : List Int32} {q15 : List Int32} {q16 : Int32} {q17 : Int32} {q18 : Int32} {q19 : Int32} {q20 : Int32} {q21 : Int32} {q22 : Int32} {R : AHeap} {k : Nat} {x : Int32} : putC own_P k (C1 q0 q1 q2 q3 q4 q5 q6 q7 q8 q9 q10 q11 q12 q13 q14 q15 q16 q17 q18 q19 q20 q21 q22 R) 0 1 (.int x) = some (C1 q0 x q2 q3 q4 q5 q6 q7 q8 q9 q10 q11 q12 q13 q14 q15 q16 q17 q18 q19 q20 q21 q22 R) := rfl
theorem own_g1_list {q0 : List Int32} {q1 : Int32} {q2 : List Int32} {q3 : Int32} {q4 : List Int32} {q5 : List Int32} {q6 : List Int32} {q7 : List Int32} {q8 : List Int32} {q9 : List Int32} {q10 : List Int32} {q11 : List Int32} {q12 : List Int32} {q13 : List Int32} {q14 : List Int32} {q15 : List Int32} {q16 : Int32} {q17 : Int32} {q18 : Int32} {q19 : Int32} {q20 : Int32} {q21 : Int32} {q22 : Int32} {R : AHeap} : getC (C1 q0 q1 q2 q3 q4 q5 q6 q7 q8 q9 q10 q11 q12 q13 q14 q15 q16 q17 q18 q19 q20 q21 q22 R) 0 2 = some (.ref 2) := rfl
theorem own_a1_list {q0 : List Int32} {q1 : Int32} {q2 : List Int32} {q3 : Int32} {q4 : List Int32} {q5 : List Int32} {q6 : List Int32} {q7 : List Int32} {q8 : List Int32} {q9 : List Int32} {q10 : List Int32} {q11 : List Int32} {q12 : List Int32} {q13 : List Int32} {q14 : List Int32} {q15 : List Int32} {q16 : Int32} {q17 : Int32} {q18 : Int32} {q19 : Int32} {q20 : Int32} {q21 : Int32} {q22 : Int32} {R : AHeap} : (C1 q0 q1 q2 q3 q4 q5 q6 q7 q8 q9 q10 q11 q12 q13 q14 q15 q16 q17 q18 q19 q20 q21 q22 R)[2]? = some (.inr (.inl (1, q2))) := rfl
theorem own_s1_list {q0 : List Int32} {q1 : Int32} {q2 : List Int32} {q3 : Int32} {q4 : List Int32} {q5 : List Int32} {q6 : List Int32} {q7 : List Int32} {q8 : List Int32} {q9 : List Int32} {q10 : List Int32} {q11 : List Int32} {q12 : List Int32} {q13 : List Int32} {q14 : List Int32} {q15 : List Int32} {q16 : Int32} {q17 : Int32} {q18 : Int32} {q19 : Int32} {q20 : Int32} {q21 : Int32} {q22 : Int32} {R : AHeap} {x : List Int32} : (C1 q0 q1 q2 q3 q4 q5 q6 q7 q8 q9 q10 q11 q12 q13 q14 q15 q16 q17 q18 q19 q20 q21 q22 R).set 2 (.inr (.inl (1, x))) = (C1 q0 q1 x q3 q4 q5 q6 q7 q8 q9 q10 q11 q12 q13 q14 q15 q16 q17 q18 q19 q20 q21 q22 R) := rfl
theorem own_g1_cursor {q0 : List Int32} {q1 : Int32} {q2 : List Int32} {q3 : Int32} {q4 : List Int32} {q5 : List Int32} {q6 : List Int32} {q7 : List Int32} {q8 : List Int32} {q9 : List Int32} {q10 : List Int32} {q11 : List Int32} {q12 : List Int32} {q13 : List Int32} {q14 : List Int32} {q15 : List Int32} {q16 : Int32} {q17 : Int32} {q18 : Int32} {q19 : Int32} {q20 : Int32} {q21 : Int32} {q22 : Int32} {R : AHeap} : getC (C1 q0 q1 q2 q3 q4 q5 q6 q7 q8 q9 q10 q11 q12 q13 q14 q15 q16 q17 q18 q19 q20 q21 q22 R) 0 3 = some (.int q3) := rfl
theorem own_p1_cursor {q0 : List Int32} {q1 : Int32} {q2 : List Int32} {q3 : Int32} {q4 : List Int32} {q5 : List Int32} {q6 : List Int32} {q7 : List Int32} {q8 : List Int32} {q9 : List Int32} {q10 : List Int32} {q11 : List Int32} {q12 : List Int32} {q13 : List Int32} {q14 : List Int32} {q15 : List Int32} {q16 : Int32} {q17 : Int32} {q18 : Int32} {q19 : Int32} {q20 : Int32} {q21 : Int32} {q22 : Int32} {R : AHeap} {k : Nat} {x : Int32} : putC own_P k (C1 q0 q1 q2 q3 q4 q5 q6 q7 q8 q9 q10 q11 q12 q13 q14 q15 q16 q17 q18 q19 q20 q21 q22 R) 0 3 (.int x) = some (C1 q0 q1 q2 x q4 q5 q6 q7 q8 q9 q10 q11 q12 q13 q14 q15 q16 q17 q18 q19 q20 q21 q22 R) := rfl
theorem own_g1_phase {q0 : List Int32} {q1 : Int32} {q2 : List Int32} {q3 : Int32} {q4 : List Int32} {q5 : List Int32} {q6 : List Int32} {q7 : List Int32} {q8 : List Int32} {q9 : List Int32} {q10 : List Int32} {q11 : List Int32} {q12 : List Int32} {q13 : List Int32} {q14 : List Int32} {q15 : List Int32} {q16 : Int32} {q17 : Int32} {q18 : Int32} {q19 : Int32} {q20 : Int32} {q21 : Int32} {q22 : Int32} {R : AHeap} : getC (C1 q0 q1 q2 q3 q4 q5 q6 q7 q8 q9 q10 q11 q12 q13 q14 q15 q16 q17 q18 q19 q20 q21 q22 R) 0 4 = some (.ref 3) := rfl
theorem own_a1_phase {q0 : List Int32} {q1 : Int32} {q2 : List Int32} {q3 : Int32} {q4 : List Int32} {q5 : List Int32} {q6 : List Int32} {q7 : List Int32} {q8 : List Int32} {q9 : List Int32} {q10 : List Int32} {q11 : List Int32} {q12 : List Int32} {q13 : List Int32} {q14 : List Int32} {q15 : List Int32} {q16 : Int32} {q17 : Int32} {q18 : Int32} {q19 : Int32} {q20 : Int32} {q21 : Int32} {q22 : Int32} {R : AHeap} : (C1 q0 q1 q2 q3 q4 q5 q6 q7 q8 q9 q10 q11 q12 q13 q14 q15 q16 q17 q18 q19 q20 q21 q22 R)[3]? = some (.inr (.inl (1, q4))) := rfl
theorem own_s1_phase {q0 : List Int32} {q1 : Int32} {q2 : List Int32} {q3 : Int32} {q4 : List Int32} {q5 : List Int32} {q6 : List Int32} {q7 : List Int32} {q8 : List Int32} {q9 : List Int32} {q10 : List Int32} {q11 : List Int32} {q12 : List Int32} {q13 : List Int32} {q14 : List Int32} {q15 : List Int32} {q16 : Int32} {q17 : Int32} {q18 : Int32} {q19 : Int32} {q20 : Int32} {q21 : Int32} {q22 : Int32} {R : AHeap} {x : List Int32} : (C1 q0 q1 q2 q3 q4 q5 q6 q7 q8 q9 q10 q11 q12 q13 q14 q15 q16 q17 q18 q19 q20 q21 q22 R).set 3 (.inr (.inl (1, x))) = (C1 q0 q1 q2 q3 x q5 q6 q7 q8 q9 q10 q11 q12 q13 q14 q15 q16 q17 q18 q19 q20 q21 q22 R) := rfl
theorem own_g1_opKind {q0 : List Int32} {q1 : Int32} {q2 : List Int32} {q3 : Int32} {q4 : List Int32} {q5 : List Int32} {q6 : List Int32} {q7 : List Int32} {q8 : List Int32} {q9 : List Int32} {q10 : List Int32} {q11 : List Int32} {q12 : List Int32} {q13 : List Int32} {q14 : List Int32} {q15 : List Int32} {q16 : Int32} {q17 : Int32} {q18 : Int32} {q19 : Int32} {q20 : Int32} {q21 : Int32} {q22 : Int32} {R : AHeap} : getC (C1 q0 q1 q2 q3 q4 q5 q6 q7 q8 q9 q10 q11 q12 q13 q14 q15 q16 q17 q18 q19 q20 q21 q22 R) 0 5 = some (.ref 4) := rfl
theorem own_a1_opKind {q0 : List Int32} {q1 : Int32} {q2 : List Int32} {q3 : Int32} {q4 : List Int32} {q5 : List Int32} {q6 : List Int32} {q7 : List Int32} {q8 : List Int32} {q9 : List Int32} {q10 : List Int32} {q11 : List Int32} {q12 : List Int32} {q13 : List Int32} {q14 : List Int32} {q15 : List Int32} {q16 : Int32} {q17 : Int32} {q18 : Int32} {q19 : Int32} {q20 : Int32} {q21 : Int32} {q22 : Int32} {R : AHeap} : (C1 q0 q1 q2 q3 q4 q5 q6 q7 q8 q9 q10 q11 q12 q13 q14 q15 q16 q17 q18 q19 q20 q21 q22 R)[4]? = some (.inr (.inl (1, q5))) := rfl
theorem own_s1_opKind {q0 : List Int32} {q1 : Int32} {q2 : List Int32} {q3 : Int32} {q4 : List Int32} {q5 : List Int32} {q6 : List Int32} {q7 : List Int32} {q8 : List Int32} {q9 : List Int32} {q10 : List Int32} {q11 : List Int32} {q12 : List Int32} {q13 : List Int32} {q14 : List Int32} {q15 : List Int32} {q16 : Int32} {q17 : Int32} {q18 : Int32} {q19 : Int32} {q20 : Int32} {q21 : Int32} {q22 : Int32} {R : AHeap} {x : List Int32} : (C1 q0 q1 q2 q3 q4 q5 q6 q7 q8 q9 q10 q11 q12 q13 q14 q15 q16 q17 q18 q19 q20 q21 q22 R).set 4 (.inr (.inl (1, x))) = (C1 q0 q1 q2 q3 q4 x q6 q7 q8 q9 q10 q11 q12 q13 q14 q15 q16 q17 q18 q19 q20 q21 q22 R) := rfl
theorem own_g1_opVal {q0 : List Int32} {q1 : Int32} {q2 : List Int32} {q3 : Int32} {q4 : List Int32} {q5 : List Int32} {q6 : List Int32} {q7 : List Int32} {q8 : List Int32} {q9 : List Int32} {q10 : List Int32} {q11 : List Int32} {q12 : List Int32} {q13 : List Int32} {q14 : List Int32} {q15 : List Int32} {q16 : Int32} {q17 : Int32} {q18 : Int32} {q19 : Int32} {q20 : Int32} {q21 : Int32} {q22 : Int32} {R : AHeap} : getC (C1 q0 q1 q2 q3 q4 q5 q6 q7 q8 q9 q10 q11 q12 q13 q14 q15 q16 q17 q18 q19 q20 q21 q22 R) 0 6 = some (.ref 5) := rfl
theorem own_a1_opVal {q0 : List Int32} {q1 : Int32} {q2 : List Int32} {q3 : Int32} {q4 : List Int32} {q5 : List Int32} {q6 : List Int32} {q7 : List Int32} {q8 : List Int32} {q9 : List Int32} {q10 : List Int32} {q11 : List Int32} {q12 : List Int32} {q13 : List Int32} {q14 : List Int32} {q15 : List Int32} {q16 : Int32} {q17 : Int32} {q18 : Int32} {q19 : Int32} {q20 : Int32} {q21 : Int32} {q22 : Int32} {R : AHeap} : (C1 q0 q1 q2 q3 q4 q5 q6 q7 q8 q9 q10 q11 q12 q13 q14 q15 q16 q17 q18 q19 q20 q21 q22 R)[5]? = some (.inr (.inl (1, q6))) := rfl
theorem own_s1_opVal {q0 : List Int32} {q1 : Int32} {q2 : List Int32} {q3 : Int32} {q4 : List Int32} {q5 : List Int32} {q6 : List Int32} {q7 : List Int32} {q8 : List Int32} {q9 : List Int32} {q10 : List Int32} {q11 : List Int32} {q12 : List Int32} {q13 : List Int32} {q14 : List Int32} {q15 : List Int32} {q16 : Int32} {q17 : Int32} {q18 : Int32} {q19 : Int32} {q20 : Int32} {q21 : Int32} {q22 : Int32} {R : AHeap} {x : List Int32} : (C1 q0 q1 q2 q3 q4 q5 q6 q7 q8 q9 q10 q11 q12 q13 q14 q15 q16 q17 q18 q19 q20 q21 q22 R).set 5 (.inr (.inl (1, x))) = (C1 q0 q1 q2 q3 q4 q5 x q7 q8 q9 q10 q11 q12 q13 q14 q15 q16 q17 q18 q19 q20 q21 q22 R) := rfl
theorem own_g1_resStatus {q0 : List Int32} {q1 : Int32} {q2 : List Int32} {q3 : Int32} {q4 : List Int32} {q5 : List Int32} {q6 : List Int32} {q7 : List Int32} {q8 : List Int32} {q9 : List Int32} {q10 : List Int32} {q11 : List Int32} {q12 : List Int32} {q13 : List Int32} {q14 : List Int32} {q15 : List Int32} {q16 : Int32} {q17 : Int32} {q18 : Int32} {q19 : Int32} {q20 : Int32} {q21 : Int32} {q22 : Int32} {R : AHeap} : getC (C1 q0 q1 q2 q3 q4 q5 q6 q7 q8 q9 q10 q11 q12 q13 q14 q15 q16 q17 q18 q19 q20 q21 q22 R) 0 7 = some (.ref 6) := rfl
theorem own_a1_resStatus {q0 : List Int32} {q1 : Int32} {q2 : List Int32} {q3 : Int32} {q4 : List Int32} {q5 : List Int32} {q6 : List Int32} {q7 : List Int32} {q8 : List Int32} {q9 : List Int32} {q10 : List Int32} {q11 : List Int32} {q12 : List Int32} {q13 : List Int32} {q14 : List Int32} {q15 : List Int32} {q16 : Int32} {q17 : Int32} {q18 : Int32} {q19 : Int32} {q20 : Int32} {q21 : Int32} {q22 : Int32} {R : AHeap} : (C1 q0 q1 q2 q3 q4 q5 q6 q7 q8 q9 q10 q11 q12 q13 q14 q15 q16 q17 q18 q19 q20 q21 q22 R)[6]? = some (.inr (.inl (1, q7))) := rfl
theorem own_s1_resStatus {q0 : List Int32} {q1 : Int32} {q2 : List Int32} {q3 : Int32} {q4 : List Int32} {q5 : List Int32} {q6 : List Int32} {q7 : List Int32} {q8 : List Int32} {q9 : List Int32} {q10 : List Int32} {q11 : List Int32} {q12 : List Int32} {q13 : List Int32} {q14 : List Int32} {q15 : List Int32} {q16 : Int32} {q17 : Int32} {q18 : Int32} {q19 : Int32} {q20 : Int32} {q21 : Int32} {q22 : Int32} {R : AHeap} {x : List Int32} : (C1 q0 q1 q2 q3 q4 q5 q6 q7 q8 q9 q10 q11 q12 q13 q14 q15 q16 q17 q18 q19 q20 q21 q22 R).set 6 (.inr (.inl (1, x))) = (C1 q0 q1 q2 q3 q4 q5 q6 x q8 q9 q10 q11 q12 q13 q14 q15 q16 q17 q18 q19 q20 q21 q22 R) := rfl
theorem own_g1_resVal {q0 : List Int32} {q1 : Int32} {q2 : List Int32} {q3 : Int32} {q4 : List Int32} {q5 : List Int32} {q6 : List Int32} {q7 : List Int32} {q8 : List Int32} {q9 : List Int32} {q10 : List Int32} {q11 : List Int32} {q12 : List Int32} {q13 : List Int32} {q14 : List Int32} {q15 : List Int32} {q16 : Int32} {q17 : Int32} {q18 : Int32} {q19 : Int32} {q20 : Int32} {q21 : Int32} {q22 : Int32} {R : AHeap} : getC (C1 q0 q1 q2 q3 q4 q5 q6 q7 q8 q9 q10 q11 q12 q13 q14 q15 q16 q17 q18 q19 q20 q21 q22 R) 0 8 = some (.ref 7) := rfl
theorem own_a1_resVal {q0 : List Int32} {q1 : Int32} {q2 : List Int32} {q3 : Int32} {q4 : List Int32} {q5 : List Int32} {q6 : List Int32} {q7 : List Int32} {q8 : List Int32} {q9 : List Int32} {q10 : List Int32} {q11 : List Int32} {q12 : List Int32} {q13 : List Int32} {q14 : List Int32} {q15 : List Int32} {q16 : Int32} {q17 : Int32} {q18 : Int32} {q19 : Int32} {q20 : Int32} {q21 : Int32} {q22 : Int32} {R : AHeap} : (C1 q0 q1 q2 q3 q4 q5 q6 q7 q8 q9 q10 q11 q12 q13 q14 q15 q16 q17 q18 q19 q20 q21 q22 R)[7]? = some (.inr (.inl (1, q8))) := rfl
theorem own_s1_resVal {q0 : List Int32} {q1 : Int32} {q2 : List Int32} {q3 : Int32} {q4 : List Int32} {q5 : List Int32} {q6 : List Int32} {q7 : List Int32} {q8 : List Int32} {q9 : List Int32} {q10 : List Int32} {q11 : List Int32} {q12 : List Int32} {q13 : List Int32} {q14 : List Int32} {q15 : List Int32} {q16 : Int32} {q17 : Int32} {q18 : Int32} {q19 : Int32} {q20 : Int32} {q21 : Int32} {q22 : Int32} {R : AHeap} {x : List Int32} : (C1 q0 q1 q2 q3 q4 q5 q6 q7 q8 q9 q10 q11 q12 q13 q14 q15 q16 q17 q18 q19 q20 q21 q22 R).set 7 (.inr (.inl (1, x))) = (C1 q0 q1 q2 q3 q4 q5 q6 q7 x q9 q10 q11 q12 q13 q14 q15 q16 q17 q18 q19 q20 q21 q22 R) := rfl
theorem own_g1_enlisted {q0 : List Int32} {q1 : Int32} {q2 : List Int32} {q3 : Int32} {q4 : List Int32} {q5 : List Int32} {q6 : List Int32} {q7 : List Int32} {q8 : List Int32} {q9 : List Int32} {q10 : List Int32} {q11 : List Int32} {q12 : List Int32} {q13 : List Int32} {q14 : List Int32} {q15 : List Int32} {q16 : Int32} {q17 : Int32} {q18 : Int32} {q19 : Int32} {q20 : Int32} {q21 : Int32} {q22 : Int32} {R : AHeap} : getC (C1 q0 q1 q2 q3 q4 q5 q6 q7 q8 q9 q10 q11 q12 q13 q14 q15 q16 q17 q18 q19 q20 q21 q22 R) 0 9 = some (.ref 8) := rfl
theorem own_a1_enlisted {q0 : List Int32} {q1 : Int32} {q2 : List Int32} {q3 : Int32} {q4 : List Int32} {q5 : List Int32} {q6 : List Int32} {q7 : List Int32} {q8 : List Int32} {q9 : List Int32} {q10 : List Int32} {q11 : List Int32} {q12 : List Int32} {q13 : List Int32} {q14 : List Int32} {q15 : List Int32} {q16 : Int32} {q17 : Int32} {q18 : Int32} {q19 : Int32} {q20 : Int32} {q21 : Int32} {q22 : Int32} {R : AHeap} : (C1 q0 q1 q2 q3 q4 q5 q6 q7 q8 q9 q10 q11 q12 q13 q14 q15 q16 q17 q18 q19 q20 q21 q22 R)[8]? = some (.inr (.inl (2, q9))) := rfl
theorem own_s1_enlisted {q0 : List Int32} {q1 : Int32} {q2 : List Int32} {q3 : Int32} {q4 : List Int32} {q5 : List Int32} {q6 : List Int32} {q7 : List Int32} {q8 : List Int32} {q9 : List Int32} {q10 : List Int32} {q11 : List Int32} {q12 : List Int32} {q13 : List Int32} {q14 : List Int32} {q15 : List Int32} {q16 : Int32} {q17 : Int32} {q18 : Int32} {q19 : Int32} {q20 : Int32} {q21 : Int32} {q22 : Int32} {R : AHeap} {x : List Int32} : (C1 q0 q1 q2 q3 q4 q5 q6 q7 q8 q9 q10 q11 q12 q13 q14 q15 q16 q17 q18 q19 q20 q21 q22 R).set 8 (.inr (.inl (2, x))) = (C1 q0 q1 q2 q3 q4 q5 q6 q7 q8 x q10 q11 q12 q13 q14 q15 q16 q17 q18 q19 q20 q21 q22 R) := rfl
theorem own_g1_reqKind {q0 : List Int32} {q1 : Int32} {q2 : List Int32} {q3 : Int32} {q4 : List Int32} {q5 : List Int32} {q6 : List Int32} {q7 : List Int32} {q8 : List Int32} {q9 : List Int32} {q10 : List Int32} {q11 : List Int32} {q12 : List Int32} {q13 : List Int32} {q14 : List Int32} {q15 : List Int32} {q16 : Int32} {q17 : Int32} {q18 : Int32} {q19 : Int32} {q20 : Int32} {q21 : Int32} {q22 : Int32} {R : AHeap} : getC (C1 q0 q1 q2 q3 q4 q5 q6 q7 q8 q9 q10 q11 q12 q13 q14 q15 q16 q17 q18 q19 q20 q21 q22 R) 0 10 = some (.ref 9) := rfl
theorem own_a1_reqKind {q0 : List Int32} {q1 : Int32} {q2 : List Int32} {q3 : Int32} {q4 : List Int32} {q5 : List Int32} {q6 : List Int32} {q7 : List Int32} {q8 : List Int32} {q9 : List Int32} {q10 : List Int32} {q11 : List Int32} {q12 : List Int32} {q13 : List Int32} {q14 : List Int32} {q15 : List Int32} {q16 : Int32} {q17 : Int32} {q18 : Int32} {q19 : Int32} {q20 : Int32} {q21 : Int32} {q22 : Int32} {R : AHeap} : (C1 q0 q1 q2 q3 q4 q5 q6 q7 q8 q9 q10 q11 q12 q13 q14 q15 q16 q17 q18 q19 q20 q21 q22 R)[9]? = some (.inr (.inl (1, q10))) := rfl
theorem own_s1_reqKind {q0 : List Int32} {q1 : Int32} {q2 : List Int32} {q3 : Int32} {q4 : List Int32} {q5 : List Int32} {q6 : List Int32} {q7 : List Int32} {q8 : List Int32} {q9 : List Int32} {q10 : List Int32} {q11 : List Int32} {q12 : List Int32} {q13 : List Int32} {q14 : List Int32} {q15 : List Int32} {q16 : Int32} {q17 : Int32} {q18 : Int32} {q19 : Int32} {q20 : Int32} {q21 : Int32} {q22 : Int32} {R : AHeap} {x : List Int32} : (C1 q0 q1 q2 q3 q4 q5 q6 q7 q8 q9 q10 q11 q12 q13 q14 q15 q16 q17 q18 q19 q20 q21 q22 R).set 9 (.inr (.inl (1, x))) = (C1 q0 q1 q2 q3 q4 q5 q6 q7 q8 q9 x q11 q12 q13 q14 q15 q16 q17 q18 q19 q20 q21 q22 R) := rfl
theorem own_g1_reqVal {q0 : List Int32} {q1 : Int32} {q2 : List Int32} {q3 : Int32} {q4 : List Int32} {q5 : List Int32} {q6 : List Int32} {q7 : List Int32} {q8 : List Int32} {q9 : List Int32} {q10 : List Int32} {q11 : List Int32} {q12 : List Int32} {q13 : List Int32} {q14 : List Int32} {q15 : List Int32} {q16 : Int32} {q17 : Int32} {q18 : Int32} {q19 : Int32} {q20 : Int32} {q21 : Int32} {q22 : Int32} {R : AHeap} : getC (C1 q0 q1 q2 q3 q4 q5 q6 q7 q8 q9 q10 q11 q12 q13 q14 q15 q16 q17 q18 q19 q20 q21 q22 R) 0 11 = some (.ref 10) := rfl
theorem own_a1_reqVal {q0 : List Int32} {q1 : Int32} {q2 : List Int32} {q3 : Int32} {q4 : List Int32} {q5 : List Int32} {q6 : List Int32} {q7 : List Int32} {q8 : List Int32} {q9 : List Int32} {q10 : List Int32} {q11 : List Int32} {q12 : List Int32} {q13 : List Int32} {q14 : List Int32} {q15 : List Int32} {q16 : Int32} {q17 : Int32} {q18 : Int32} {q19 : Int32} {q20 : Int32} {q21 : Int32} {q22 : Int32} {R : AHeap} : (C1 q0 q1 q2 q3 q4 q5 q6 q7 q8 q9 q10 q11 q12 q13 q14 q15 q16 q17 q18 q19 q20 q21 q22 R)[10]? = some (.inr (.inl (1, q11))) := rfl
theorem own_s1_reqVal {q0 : List Int32} {q1 : Int32} {q2 : List Int32} {q3 : Int32} {q4 : List Int32} {q5 : List Int32} {q6 : List Int32} {q7 : List Int32} {q8 : List Int32} {q9 : List Int32} {q10 : List Int32} {q11 : List Int32} {q12 : List Int32} {q13 : List Int32} {q14 : List Int32} {q15 : List Int32} {q16 : Int32} {q17 : Int32} {q18 : Int32} {q19 : Int32} {q20 : Int32} {q21 : Int32} {q22 : Int32} {R : AHeap} {x : List Int32} : (C1 q0 q1 q2 q3 q4 q5 q6 q7 q8 q9 q10 q11 q12 q13 q14 q15 q16 q17 q18 q19 q20 q21 q22 R).set 10 (.inr (.inl (1, x))) = (C1 q0 q1 q2 q3 q4 q5 q6 q7 q8 q9 q10 x q12 q13 q14 q15 q16 q17 q18 q19 q20 q21 q22 R) := rfl
theorem own_g1_ready {q0 : List Int32} {q1 : Int32} {q2 : List Int32} {q3 : Int32} {q4 : List Int32} {q5 : List Int32} {q6 : List Int32} {q7 : List Int32} {q8 : List Int32} {q9 : List Int32} {q10 : List Int32} {q11 : List Int32} {q12 : List Int32} {q13 : List Int32} {q14 : List Int32} {q15 : List Int32} {q16 : Int32} {q17 : Int32} {q18 : Int32} {q19 : Int32} {q20 : Int32} {q21 : Int32} {q22 : Int32} {R : AHeap} : getC (C1 q0 q1 q2 q3 q4 q5 q6 q7 q8 q9 q10 q11 q12 q13 q14 q15 q16 q17 q18 q19 q20 q21 q22 R) 0 12 = some (.ref 11) := rfl
theorem own_a1_ready {q0 : List Int32} {q1 : Int32} {q2 : List Int32} {q3 : Int32} {q4 : List Int32} {q5 : List Int32} {q6 : List Int32} {q7 : List Int32} {q8 : List Int32} {q9 : List Int32} {q10 : List Int32} {q11 : List Int32} {q12 : List Int32} {q13 : List Int32} {q14 : List Int32} {q15 : List Int32} {q16 : Int32} {q17 : Int32} {q18 : Int32} {q19 : Int32} {q20 : Int32} {q21 : Int32} {q22 : Int32} {R : AHeap} : (C1 q0 q1 q2 q3 q4 q5 q6 q7 q8 q9 q10 q11 q12 q13 q14 q15 q16 q17 q18 q19 q20 q21 q22 R)[11]? = some (.inr (.inl (2, q12))) := rfl
theorem own_s1_ready {q0 : List Int32} {q1 : Int32} {q2 : List Int32} {q3 : Int32} {q4 : List Int32} {q5 : List Int32} {q6 : List Int32} {q7 : List Int32} {q8 : List Int32} {q9 : List Int32} {q10 : List Int32} {q11 : List Int32} {q12 : List Int32} {q13 : List Int32} {q14 : List Int32} {q15 : List Int32} {q16 : Int32} {q17 : Int32} {q18 : Int32} {q19 : Int32} {q20 : Int32} {q21 : Int32} {q22 : Int32} {R : AHeap} {x : List Int32} : (C1 q0 q1 q2 q3 q4 q5 q6 q7 q8 q9 q10 q11 q12 q13 q14 q15 q16 q17 q18 q19 q20 q21 q22 R).set 11 (.inr (.inl (2, x))) = (C1 q0 q1 q2 q3 q4 q5 q6 q7 q8 q9 q10 q11 x q13 q14 q15 q16 q17 q18 q19 q20 q21 q22 R) := rfl
theorem own_g1_respStatus {q0 : List Int32} {q1 : Int32} {q2 : List Int32} {q3 : Int32} {q4 : List Int32} {q5 : List Int32} {q6 : List Int32} {q7 : List Int32} {q8 : List Int32} {q9 : List Int32} {q10 : List Int32} {q11 : List Int32} {q12 : List Int32} {q13 : List Int32} {q14 : List Int32} {q15 : List Int32} {q16 : Int32} {q17 : Int32} {q18 : Int32} {q19 : Int32} {q20 : Int32} {q21 : Int32} {q22 : Int32} {R : AHeap} : getC (C1 q0 q1 q2 q3 q4 q5 q6 q7 q8 q9 q10 q11 q12 q13 q14 q15 q16 q17 q18 q19 q20 q21 q22 R) 0 13 = some (.ref 12) := rfl
theorem own_a1_respStatus {q0 : List Int32} {q1 : Int32} {q2 : List Int32} {q3 : Int32} {q4 : List Int32} {q5 : List Int32} {q6 : List Int32} {q7 : List Int32} {q8 : List Int32} {q9 : List Int32} {q10 : List Int32} {q11 : List Int32} {q12 : List Int32} {q13 : List Int32} {q14 : List Int32} {q15 : List Int32} {q16 : Int32} {q17 : Int32} {q18 : Int32} {q19 : Int32} {q20 : Int32} {q21 : Int32} {q22 : Int32} {R : AHeap} : (C1 q0 q1 q2 q3 q4 q5 q6 q7 q8 q9 q10 q11 q12 q13 q14 q15 q16 q17 q18 q19 q20 q21 q22 R)[12]? = some (.inr (.inl (1, q13))) := rfl
theorem own_s1_respStatus {q0 : List Int32} {q1 : Int32} {q2 : List Int32} {q3 : Int32} {q4 : List Int32} {q5 : List Int32} {q6 : List Int32} {q7 : List Int32} {q8 : List Int32} {q9 : List Int32} {q10 : List Int32} {q11 : List Int32} {q12 : List Int32} {q13 : List Int32} {q14 : List Int32} {q15 : List Int32} {q16 : Int32} {q17 : Int32} {q18 : Int32} {q19 : Int32} {q20 : Int32} {q21 : Int32} {q22 : Int32} {R : AHeap} {x : List Int32} : (C1 q0 q1 q2 q3 q4 q5 q6 q7 q8 q9 q10 q11 q12 q13 q14 q15 q16 q17 q18 q19 q20 q21 q22 R).set 12 (.inr (.inl (1, x))) = (C1 q0 q1 q2 q3 q4 q5 q6 q7 q8 q9 q10 q11 q12 x q14 q15 q16 q17 q18 q19 q20 q21 q22 R) := rfl
theorem own_g1_respVal {q0 : List Int32} {q1 : Int32} {q2 : List Int32} {q3 : Int32} {q4 : List Int32} {q5 : List Int32} {q6 : List Int32} {q7 : List Int32} {q8 : List Int32} {q9 : List Int32} {q10 : List Int32} {q11 : List Int32} {q12 : List Int32} {q13 : List Int32} {q14 : List Int32} {q15 : List Int32} {q16 : Int32} {q17 : Int32} {q18 : Int32} {q19 : Int32} {q20 : Int32} {q21 : Int32} {q22 : Int32} {R : AHeap} : getC (C1 q0 q1 q2 q3 q4 q5 q6 q7 q8 q9 q10 q11 q12 q13 q14 q15 q16 q17 q18 q19 q20 q21 q22 R) 0 14 = some (.ref 13) := rfl
theorem own_a1_respVal {q0 : List Int32} {q1 : Int32} {q2 : List Int32} {q3 : Int32} {q4 : List Int32} {q5 : List Int32} {q6 : List Int32} {q7 : List Int32} {q8 : List Int32} {q9 : List Int32} {q10 : List Int32} {q11 : List Int32} {q12 : List Int32} {q13 : List Int32} {q14 : List Int32} {q15 : List Int32} {q16 : Int32} {q17 : Int32} {q18 : Int32} {q19 : Int32} {q20 : Int32} {q21 : Int32} {q22 : Int32} {R : AHeap} : (C1 q0 q1 q2 q3 q4 q5 q6 q7 q8 q9 q10 q11 q12 q13 q14 q15 q16 q17 q18 q19 q20 q21 q22 R)[13]? = some (.inr (.inl (1, q14))) := rfl
theorem own_s1_respVal {q0 : List Int32} {q1 : Int32} {q2 : List Int32} {q3 : Int32} {q4 : List Int32} {q5 : List Int32} {q6 : List Int32} {q7 : List Int32} {q8 : List Int32} {q9 : List Int32} {q10 : List Int32} {q11 : List Int32} {q12 : List Int32} {q13 : List Int32} {q14 : List Int32} {q15 : List Int32} {q16 : Int32} {q17 : Int32} {q18 : Int32} {q19 : Int32} {q20 : Int32} {q21 : Int32} {q22 : Int32} {R : AHeap} {x : List Int32} : (C1 q0 q1 q2 q3 q4 q5 q6 q7 q8 q9 q10 q11 q12 q13 q14 q15 q16 q17 q18 q19 q20 q21 q22 R).set 13 (.inr (.inl (1, x))) = (C1 q0 q1 q2 q3 q4 q5 q6 q7 q8 q9 q10 q11 q12 q13 x q15 q16 q17 q18 q19 q20 q21 q22 R) := rfl
theorem own_g1_stamp {q0 : List Int32} {q1 : Int32} {q2 : List Int32} {q3 : Int32} {q4 : List Int32} {q5 : List Int32} {q6 : List Int32} {q7 : List Int32} {q8 : List Int32} {q9 : List Int32} {q10 : List Int32} {q11 : List Int32} {q12 : List Int32} {q13 : List Int32} {q14 : List Int32} {q15 : List Int32} {q16 : Int32} {q17 : Int32} {q18 : Int32} {q19 : Int32} {q20 : Int32} {q21 : Int32} {q22 : Int32} {R : AHeap} : getC (C1 q0 q1 q2 q3 q4 q5 q6 q7 q8 q9 q10 q11 q12 q13 q14 q15 q16 q17 q18 q19 q20 q21 q22 R) 0 15 = some (.ref 14) := rfl
theorem own_a1_stamp {q0 : List Int32} {q1 : Int32} {q2 : List Int32} {q3 : Int32} {q4 : List Int32} {q5 : List Int32} {q6 : List Int32} {q7 : List Int32} {q8 : List Int32} {q9 : List Int32} {q10 : List Int32} {q11 : List Int32} {q12 : List Int32} {q13 : List Int32} {q14 : List Int32} {q15 : List Int32} {q16 : Int32} {q17 : Int32} {q18 : Int32} {q19 : Int32} {q20 : Int32} {q21 : Int32} {q22 : Int32} {R : AHeap} : (C1 q0 q1 q2 q3 q4 q5 q6 q7 q8 q9 q10 q11 q12 q13 q14 q15 q16 q17 q18 q19 q20 q21 q22 R)[14]? = some (.inr (.inl (1, q15))) := rfl
theorem own_s1_stamp {q0 : List Int32} {q1 : Int32} {q2 : List Int32} {q3 : Int32} {q4 : List Int32} {q5 : List Int32} {q6 : List Int32} {q7 : List Int32} {q8 : List Int32} {q9 : List Int32} {q10 : List Int32} {q11 : List Int32} {q12 : List Int32} {q13 : List Int32} {q14 : List Int32} {q15 : List Int32} {q16 : Int32} {q17 : Int32} {q18 : Int32} {q19 : Int32} {q20 : Int32} {q21 : Int32} {q22 : Int32} {R : AHeap} {x : List Int32} : (C1 q0 q1 q2 q3 q4 q5 q6 q7 q8 q9 q10 q11 q12 q13 q14 q15 q16 q17 q18 q19 q20 q21 q22 R).set 14 (.inr (.inl (1, x))) = (C1 q0 q1 q2 q3 q4 q5 q6 q7 q8 q9 q10 q11 q12 q13 q14 x q16 q17 q18 q19 q20 q21 q22 R) := rfl
theorem own_g1_n {q0 : List Int32} {q1 : Int32} {q2 : List Int32} {q3 : Int32} {q4 : List Int32} {q5 : List Int32} {q6 : List Int32} {q7 : List Int32} {q8 : List Int32} {q9 : List Int32} {q10 : List Int32} {q11 : List Int32} {q12 : List Int32} {q13 : List Int32} {q14 : List Int32} {q15 : List Int32} {q16 : Int32} {q17 : Int32} {q18 : Int32} {q19 : Int32} {q20 : Int32} {q21 : Int32} {q22 : Int32} {R : AHeap} : getC (C1 q0 q1 q2 q3 q4 q5 q6 q7 q8 q9 q10 q11 q12 q13 q14 q15 q16 q17 q18 q19 q20 q21 q22 R) 0 16 = some (.int q16) := rfl
theorem own_p1_n {q0 : List Int32} {q1 : Int32} {q2 : List Int32} {q3 : Int32} {q4 : List Int32} {q5 : List Int32} {q6 : List Int32} {q7 : List Int32} {q8 : List Int32} {q9 : List Int32} {q10 : List Int32} {q11 : List Int32} {q12 : List Int32} {q13 : List Int32} {q14 : List Int32} {q15 : List Int32} {q16 : Int32} {q17 : Int32} {q18 : Int32} {q19 : Int32} {q20 : Int32} {q21 : Int32} {q22 : Int32} {R : AHeap} {k : Nat} {x : Int32} : putC own_P k (C1 q0 q1 q2 q3 q4 q5 q6 q7 q8 q9 q10 q11 q12 q13 q14 q15 q16 q17 q18 q19 q20 q21 q22 R) 0 16 (.int x) = some (C1 q0 q1 q2 q3 q4 q5 q6 q7 q8 q9 q10 q11 q12 q13 q14 q15 x q17 q18 q19 q20 q21 q22 R) := rfl
theorem own_g1_cap {q0 : List Int32} {q1 : Int32} {q2 : List Int32} {q3 : Int32} {q4 : List Int32} {q5 : List Int32} {q6 : List Int32} {q7 : List Int32} {q8 : List Int32} {q9 : List Int32} {q10 : List Int32} {q11 : List Int32} {q12 : List Int32} {q13 : List Int32} {q14 : List Int32} {q15 : List Int32} {q16 : Int32} {q17 : Int32} {q18 : Int32} {q19 : Int32} {q20 : Int32} {q21 : Int32} {q22 : Int32} {R : AHeap} : getC (C1 q0 q1 q2 q3 q4 q5 q6 q7 q8 q9 q10 q11 q12 q13 q14 q15 q16 q17 q18 q19 q20 q21 q22 R) 0 17 = some (.int q17) := rfl
theorem own_p1_cap {q0 : List Int32} {q1 : Int32} {q2 : List Int32} {q3 : Int32} {q4 : List Int32} {q5 : List Int32} {q6 : List Int32} {q7 : List Int32} {q8 : List Int32} {q9 : List Int32} {q10 : List Int32} {q11 : List Int32} {q12 : List Int32} {q13 : List Int32} {q14 : List Int32} {q15 : List Int32} {q16 : Int32} {q17 : Int32} {q18 : Int32} {q19 : Int32} {q20 : Int32} {q21 : Int32} {q22 : Int32} {R : AHeap} {k : Nat} {x : Int32} : putC own_P k (C1 q0 q1 q2 q3 q4 q5 q6 q7 q8 q9 q10 q11 q12 q13 q14 q15 q16 q17 q18 q19 q20 q21 q22 R) 0 17 (.int x) = some (C1 q0 q1 q2 q3 q4 q5 q6 q7 q8 q9 q10 q11 q12 q13 q14 q15 q16 x q18 q19 q20 q21 q22 R) := rfl
theorem own_g1_age {q0 : List Int32} {q1 : Int32} {q2 : List Int32} {q3 : Int32} {q4 : List Int32} {q5 : List Int32} {q6 : List Int32} {q7 : List Int32} {q8 : List Int32} {q9 : List Int32} {q10 : List Int32} {q11 : List Int32} {q12 : List Int32} {q13 : List Int32} {q14 : List Int32} {q15 : List Int32} {q16 : Int32} {q17 : Int32} {q18 : Int32} {q19 : Int32} {q20 : Int32} {q21 : Int32} {q22 : Int32} {R : AHeap} : getC (C1 q0 q1 q2 q3 q4 q5 q6 q7 q8 q9 q10 q11 q12 q13 q14 q15 q16 q17 q18 q19 q20 q21 q22 R) 0 18 = some (.int q18) := rfl
theorem own_p1_age {q0 : List Int32} {q1 : Int32} {q2 : List Int32} {q3 : Int32} {q4 : List Int32} {q5 : List Int32} {q6 : List Int32} {q7 : List Int32} {q8 : List Int32} {q9 : List Int32} {q10 : List Int32} {q11 : List Int32} {q12 : List Int32} {q13 : List Int32} {q14 : List Int32} {q15 : List Int32} {q16 : Int32} {q17 : Int32} {q18 : Int32} {q19 : Int32} {q20 : Int32} {q21 : Int32} {q22 : Int32} {R : AHeap} {k : Nat} {x : Int32} : putC own_P k (C1 q0 q1 q2 q3 q4 q5 q6 q7 q8 q9 q10 q11 q12 q13 q14 q15 q16 q17 q18 q19 q20 q21 q22 R) 0 18 (.int x) = some (C1 q0 q1 q2 q3 q4 q5 q6 q7 q8 q9 q10 q11 q12 q13 q14 q15 q16 q17 x q19 q20 q21 q22 R) := rfl
theorem own_g1_listLen {q0 : List Int32} {q1 : Int32} {q2 : List Int32} {q3 : Int32} {q4 : List Int32} {q5 : List Int32} {q6 : List Int32} {q7 : List Int32} {q8 : List Int32} {q9 : List Int32} {q10 : List Int32} {q11 : List Int32} {q12 : List Int32} {q13 : List Int32} {q14 : List Int32} {q15 : List Int32} {q16 : Int32} {q17 : Int32} {q18 : Int32} {q19 : Int32} {q20 : Int32} {q21 : Int32} {q22 : Int32} {R : AHeap} : getC (C1 q0 q1 q2 q3 q4 q5 q6 q7 q8 q9 q10 q11 q12 q13 q14 q15 q16 q17 q18 q19 q20 q21 q22 R) 0 19 = some (.int q19) := rfl
theorem own_p1_listLen {q0 : List Int32} {q1 : Int32} {q2 : List Int32} {q3 : Int32} {q4 : List Int32} {q5 : List Int32} {q6 : List Int32} {q7 : List Int32} {q8 : List Int32} {q9 : List Int32} {q10 : List Int32} {q11 : List Int32} {q12 : List Int32} {q13 : List Int32} {q14 : List Int32} {q15 : List Int32} {q16 : Int32} {q17 : Int32} {q18 : Int32} {q19 : Int32} {q20 : Int32} {q21 : Int32} {q22 : Int32} {R : AHeap} {k : Nat} {x : Int32} : putC own_P k (C1 q0 q1 q2 q3 q4 q5 q6 q7 q8 q9 q10 q11 q12 q13 q14 q15 q16 q17 q18 q19 q20 q21 q22 R) 0 19 (.int x) = some (C1 q0 q1 q2 q3 q4 q5 q6 q7 q8 q9 q10 q11 q12 q13 q14 q15 q16 q17 q18 x q20 q21 q22 R) := rfl
theorem own_g1_pass {q0 : List Int32} {q1 : Int32} {q2 : List Int32} {q3 : Int32} {q4 : List Int32} {q5 : List Int32} {q6 : List Int32} {q7 : List Int32} {q8 : List Int32} {q9 : List Int32} {q10 : List Int32} {q11 : List Int32} {q12 : List Int32} {q13 : List Int32} {q14 : List Int32} {q15 : List Int32} {q16 : Int32} {q17 : Int32} {q18 : Int32} {q19 : Int32} {q20 : Int32} {q21 : Int32} {q22 : Int32} {R : AHeap} : getC (C1 q0 q1 q2 q3 q4 q5 q6 q7 q8 q9 q10 q11 q12 q13 q14 q15 q16 q17 q18 q19 q20 q21 q22 R) 0 20 = some (.int q20) := rfl
theorem own_p1_pass {q0 : List Int32} {q1 : Int32} {q2 : List Int32} {q3 : Int32} {q4 : List Int32} {q5 : List Int32} {q6 : List Int32} {q7 : List Int32} {q8 : List Int32} {q9 : List Int32} {q10 : List Int32} {q11 : List Int32} {q12 : List Int32} {q13 : List Int32} {q14 : List Int32} {q15 : List Int32} {q16 : Int32} {q17 : Int32} {q18 : Int32} {q19 : Int32} {q20 : Int32} {q21 : Int32} {q22 : Int32} {R : AHeap} {k : Nat} {x : Int32} : putC own_P k (C1 q0 q1 q2 q3 q4 q5 q6 q7 q8 q9 q10 q11 q12 q13 q14 q15 q16 q17 q18 q19 q20 q21 q22 R) 0 20 (.int x) = some (C1 q0 q1 q2 q3 q4 q5 q6 q7 q8 q9 q10 q11 q12 q13 q14 q15 q16 q17 q18 q19 x q21 q22 R) := rfl
theorem own_g1_heapSize {q0 : List Int32} {q1 : Int32} {q2 : List Int32} {q3 : Int32} {q4 : List Int32} {q5 : List Int32} {q6 : List Int32} {q7 : List Int32} {q8 : List Int32} {q9 : List Int32} {q10 : List Int32} {q11 : List Int32} {q12 : List Int32} {q13 : List Int32} {q14 : List Int32} {q15 : List Int32} {q16 : Int32} {q17 : Int32} {q18 : Int32} {q19 : Int32} {q20 : Int32} {q21 : Int32} {q22 : Int32} {R : AHeap} : getC (C1 q0 q1 q2 q3 q4 q5 q6 q7 q8 q9 q10 q11 q12 q13 q14 q15 q16 q17 q18 q19 q20 q21 q22 R) 0 21 = some (.int q21) := rfl
theorem own_p1_heapSize {q0 : List Int32} {q1 : Int32} {q2 : List Int32} {q3 : Int32} {q4 : List Int32} {q5 : List Int32} {q6 : List Int32} {q7 : List Int32} {q8 : List Int32} {q9 : List Int32} {q10 : List Int32} {q11 : List Int32} {q12 : List Int32} {q13 : List Int32} {q14 : List Int32} {q15 : List Int32} {q16 : Int32} {q17 : Int32} {q18 : Int32} {q19 : Int32} {q20 : Int32} {q21 : Int32} {q22 : Int32} {R : AHeap} {k : Nat} {x : Int32} : putC own_P k (C1 q0 q1 q2 q3 q4 q5 q6 q7 q8 q9 q10 q11 q12 q13 q14 q15 q16 q17 q18 q19 q20 q21 q22 R) 0 21 (.int x) = some (C1 q0 q1 q2 q3 q4 q5 q6 q7 q8 q9 q10 q11 q12 q13 q14 q15 q16 q17 q18 q19 q20 x q22 R) := rfl
theorem own_g1_applied {q0 : List Int32} {q1 : Int32} {q2 : List Int32} {q3 : Int32} {q4 : List Int32} {q5 : List Int32} {q6 : List Int32} {q7 : List Int32} {q8 : List Int32} {q9 : List Int32} {q10 : List Int32} {q11 : List Int32} {q12 : List Int32} {q13 : List Int32} {q14 : List Int32} {q15 : List Int32} {q16 : Int32} {q17 : Int32} {q18 : Int32} {q19 : Int32} {q20 : Int32} {q21 : Int32} {q22 : Int32} {R : AHeap} : getC (C1 q0 q1 q2 q3 q4 q5 q6 q7 q8 q9 q10 q11 q12 q13 q14 q15 q16 q17 q18 q19 q20 q21 q22 R) 0 22 = some (.int q22) := rfl
theorem own_p1_applied {q0 : List Int32} {q1 : Int32} {q2 : List Int32} {q3 : Int32} {q4 : List Int32} {q5 : List Int32} {q6 : List Int32} {q7 : List Int32} {q8 : List Int32} {q9 : List Int32} {q10 : List Int32} {q11 : List Int32} {q12 : List Int32} {q13 : List Int32} {q14 : List Int32} {q15 : List Int32} {q16 : Int32} {q17 : Int32} {q18 : Int32} {q19 : Int32} {q20 : Int32} {q21 : Int32} {q22 : Int32} {R : AHeap} {k : Nat} {x : Int32} : putC own_P k (C1 q0 q1 q2 q3 q4 q5 q6 q7 q8 q9 q10 q11 q12 q13 q14 q15 q16 q17 q18 q19 q20 q21 q22 R) 0 22 (.int x) = some (C1 q0 q1 q2 q3 q4 q5 q6 q7 q8 q9 q10 q11 q12 q13 q14 q15 q16 q17 q18 q19 q20 q21 x R) := rfl
def Q.len (s : Q) : List Nat := [s.f_heap.length, s.f_list.length, s.f_phase.length, s.f_opKind.length, s.f_opVal.length, s.f_resStatus.length, s.f_resVal.length, s.f_enlisted.length, s.f_reqKind.length, s.f_reqVal.length, s.f_ready.length, s.f_respStatus.length, s.f_respVal.length, s.f_stamp.length]
theorem own_lenmk {q0 : List Int32} {q1 : Int32} {q2 : List Int32} {q3 : Int32} {q4 : List Int32} {q5 : List Int32} {q6 : List Int32} {q7 : List Int32} {q8 : List Int32} {q9 : List Int32} {q10 : List Int32} {q11 : List Int32} {q12 : List Int32} {q13 : List Int32} {q14 : List Int32} {q15 : List Int32} {q16 : Int32} {q17 : Int32} {q18 : Int32} {q19 : Int32} {q20 : Int32} {q21 : Int32} {q22 : Int32} : (Q.mk q0 q1 q2 q3 q4 q5 q6 q7 q8 q9 q10 q11 q12 q13 q14 q15 q16 q17 q18 q19 q20 q21 q22).len = [q0.length, q2.length, q4.length, q5.length, q6.length, q7.length, q8.length, q9.length, q10.length, q11.length, q12.length, q13.length, q14.length, q15.length] := by have _h := trivial; exact rfl
theorem own_objN : own_P.objN = 23 := rfl
theorem own_mk1 {q0 : List Int32} {q1 : Int32} {q2 : List Int32} {q3 : Int32} {q4 : List Int32} {q5 : List Int32} {q6 : List Int32} {q7 : List Int32} {q8 : List Int32} {q9 : List Int32} {q10 : List Int32} {q11 : List Int32} {q12 : List Int32} {q13 : List Int32} {q14 : List Int32} {q15 : List Int32} {q16 : Int32} {q17 : Int32} {q18 : Int32} {q19 : Int32} {q20 : Int32} {q21 : Int32} {q22 : Int32} {R : AHeap} : W1 (Q.mk q0 q1 q2 q3 q4 q5 q6 q7 q8 q9 q10 q11 q12 q13 q14 q15 q16 q17 q18 q19 q20 q21 q22) R = C1 q0 q1 q2 q3 q4 q5 q6 q7 q8 q9 q10 q11 q12 q13 q14 q15 q16 q17 q18 q19 q20 q21 q22 R := rfl
def j_clamp (v1 : Int32) (v2 : Int32) (v3 : Int32) : Int32 := (if v1 < v2 then (v2) else (if v3 < v1 then (v3) else (v1)))
set_option maxRecDepth 100000 in
theorem ev_j_clamp (H : AHeap) (a : Nat) (v1 : Int32) (v2 : Int32) (v3 : Int32) {res : Int32} {out : Option Value × AHeap} (h : j_clamp v1 v2 v3 = res) (hk : out = (some (.int res), H)) : Eval own_P 2 0 [some (.ref a), some (.int v1), some (.int v2), some (.int v3)] [] H out := by
  rw [j_clamp] at h
  refine Eval.iload_n rfl rfl ?_
  refine Eval.iload_n rfl rfl ?_
  by_cases hc1 : v1 < v2
  · rw [if_pos hc1] at h
    refine Eval.icmpF rfl (tlt hc1).2.1 ?_
    refine Eval.iload_n rfl rfl ?_
    subst h
    subst hk
    exact Eval.ret rfl rfl
  · rw [if_neg hc1] at h
    refine Eval.icmpT (t := 7) rfl rfl (flt hc1).2.1 ?_
    refine Eval.iload_n rfl rfl ?_
    refine Eval.iload_n rfl rfl ?_
    by_cases hc2 : v3 < v1
    · rw [if_pos hc2] at h
      refine Eval.icmpF rfl (tlt hc2).2.2.2 ?_
      refine Eval.iload_n rfl rfl ?_
      subst h
      subst hk
      exact Eval.ret rfl rfl
    · rw [if_neg hc2] at h
      refine Eval.icmpT (t := 14) rfl rfl (flt hc2).2.2.2 ?_
      refine Eval.iload_n rfl rfl ?_
      subst h
      subst hk
      exact Eval.ret rfl rfl
def j_init_b126 (s : Q) (v1 : Int32) (v2 : Int32) (v3 : Int32) : Option (Q) := some ((Q.mk s.f_heap s.f_lock s.f_list s.f_cursor s.f_phase s.f_opKind s.f_opVal s.f_resStatus s.f_resVal s.f_enlisted s.f_reqKind s.f_reqVal s.f_ready s.f_respStatus s.f_respVal s.f_stamp (j_clamp v1 (2 : Int32) (8 : Int32)) (j_clamp v2 (8 : Int32) (32 : Int32)) (j_clamp v3 (1 : Int32) (8 : Int32)) s.f_listLen s.f_pass s.f_heapSize s.f_applied))
theorem ln_j_init_b126 {s : Q} {v1 : Int32} {v2 : Int32} {v3 : Int32} {res : Q} (h : j_init_b126 s v1 v2 v3 = some res) : Q.len res = Q.len s := by
  rw [j_init_b126] at h
  have hr0 := Option.some.inj h
  subst hr0
  show Q.len (Q.mk s.f_heap s.f_lock s.f_list s.f_cursor s.f_phase s.f_opKind s.f_opVal s.f_resStatus s.f_resVal s.f_enlisted s.f_reqKind s.f_reqVal s.f_ready s.f_respStatus s.f_respVal s.f_stamp (j_clamp v1 (2 : Int32) (8 : Int32)) (j_clamp v2 (8 : Int32) (32 : Int32)) (j_clamp v3 (1 : Int32) (8 : Int32)) s.f_listLen s.f_pass s.f_heapSize s.f_applied) = _
  exact (Eq.trans (show Q.len (Q.mk s.f_heap s.f_lock s.f_list s.f_cursor s.f_phase s.f_opKind s.f_opVal s.f_resStatus s.f_resVal s.f_enlisted s.f_reqKind s.f_reqVal s.f_ready s.f_respStatus s.f_respVal s.f_stamp (j_clamp v1 (2 : Int32) (8 : Int32)) (j_clamp v2 (8 : Int32) (32 : Int32)) (j_clamp v3 (1 : Int32) (8 : Int32)) s.f_listLen s.f_pass s.f_heapSize s.f_applied) = Q.len s from own_lenmk.trans (by first | (simp only [len_wr, len_wrL] <;> rfl) | rfl)) rfl)
set_option maxRecDepth 100000 in
theorem ev_j_init_b126 (s : Q) (v1 : Int32) (v2 : Int32) (v3 : Int32) {res : Q} {out : Option Value × AHeap} (h : j_init_b126 s v1 v2 v3 = some res) (hk : out = (none, (W1 res []))) : Eval own_P 1 126 [some (.ref 0), some (.int v1), some (.int v2), some (.int v3)] [] (W1 s []) out := by
  rw [j_init_b126] at h
  refine Eval.aload_n rfl rfl ?_
  refine Eval.aload_n rfl rfl ?_
  refine Eval.iload_n rfl rfl ?_
  refine Eval.iconst (x := (2 : Int32)) rfl rfl ?_
  refine Eval.bipush (x := (8 : Int32)) rfl rfl ?_
  refine Eval.callI (rest := [.ref 0]) (x := (j_clamp v1 (2 : Int32) (8 : Int32))) (H1 := (W1 s [])) rfl rfl (ev_j_clamp (W1 s []) 0 v1 (2 : Int32) (8 : Int32) rfl rfl) ?_
  refine Eval.putfield rfl rfl own_p1_n ?_
  refine Eval.aload_n rfl rfl ?_
  refine Eval.aload_n rfl rfl ?_
  refine Eval.iload_n rfl rfl ?_
  refine Eval.bipush (x := (8 : Int32)) rfl rfl ?_
  refine Eval.bipush (x := (32 : Int32)) rfl rfl ?_
  refine Eval.callI (rest := [.ref 0]) (x := (j_clamp v2 (8 : Int32) (32 : Int32))) (H1 := (C1 s.f_heap s.f_lock s.f_list s.f_cursor s.f_phase s.f_opKind s.f_opVal s.f_resStatus s.f_resVal s.f_enlisted s.f_reqKind s.f_reqVal s.f_ready s.f_respStatus s.f_respVal s.f_stamp (j_clamp v1 (2 : Int32) (8 : Int32)) s.f_cap s.f_age s.f_listLen s.f_pass s.f_heapSize s.f_applied [])) rfl rfl (ev_j_clamp (C1 s.f_heap s.f_lock s.f_list s.f_cursor s.f_phase s.f_opKind s.f_opVal s.f_resStatus s.f_resVal s.f_enlisted s.f_reqKind s.f_reqVal s.f_ready s.f_respStatus s.f_respVal s.f_stamp (j_clamp v1 (2 : Int32) (8 : Int32)) s.f_cap s.f_age s.f_listLen s.f_pass s.f_heapSize s.f_applied []) 0 v2 (8 : Int32) (32 : Int32) rfl rfl) ?_
  refine Eval.putfield rfl rfl own_p1_cap ?_
  refine Eval.aload_n rfl rfl ?_
  refine Eval.aload_n rfl rfl ?_
  refine Eval.iload_n rfl rfl ?_
  refine Eval.iconst (x := (1 : Int32)) rfl rfl ?_
  refine Eval.bipush (x := (8 : Int32)) rfl rfl ?_
  refine Eval.callI (rest := [.ref 0]) (x := (j_clamp v3 (1 : Int32) (8 : Int32))) (H1 := (C1 s.f_heap s.f_lock s.f_list s.f_cursor s.f_phase s.f_opKind s.f_opVal s.f_resStatus s.f_resVal s.f_enlisted s.f_reqKind s.f_reqVal s.f_ready s.f_respStatus s.f_respVal s.f_stamp (j_clamp v1 (2 : Int32) (8 : Int32)) (j_clamp v2 (8 : Int32) (32 : Int32)) s.f_age s.f_listLen s.f_pass s.f_heapSize s.f_applied [])) rfl rfl (ev_j_clamp (C1 s.f_heap s.f_lock s.f_list s.f_cursor s.f_phase s.f_opKind s.f_opVal s.f_resStatus s.f_resVal s.f_enlisted s.f_reqKind s.f_reqVal s.f_ready s.f_respStatus s.f_respVal s.f_stamp (j_clamp v1 (2 : Int32) (8 : Int32)) (j_clamp v2 (8 : Int32) (32 : Int32)) s.f_age s.f_listLen s.f_pass s.f_heapSize s.f_applied []) 0 v3 (1 : Int32) (8 : Int32) rfl rfl) ?_
  refine Eval.putfield rfl rfl own_p1_age ?_
  cases h
  subst hk
  exact Eval.retH own_mk1 rfl rfl
def j_init (v1 : Int32) (v2 : Int32) (v3 : Int32) : Option (Q) := (j_init_b126 Q0 v1 v2 v3)
theorem ln_j_init {v1 : Int32} {v2 : Int32} {v3 : Int32} {res : Q} (h : j_init v1 v2 v3 = some res) : Q.len res = Q.len Q0 := by
  rw [j_init] at h
  exact Eq.trans (ln_j_init_b126 h) rfl
set_option maxRecDepth 100000 in
theorem ev_j_init (v1 : Int32) (v2 : Int32) (v3 : Int32) {res : Q} {out : Option Value × AHeap} (h : j_init v1 v2 v3 = some res) (hk : out = (none, (W1 res []))) : Eval own_P 1 0 [some (.ref 0), some (.int v1), some (.int v2), some (.int v3)] [] (W0 [.inl [.null, .int (0 : Int32), .null, .int (0 : Int32), .null, .null, .null, .null, .null, .null, .null, .null, .null, .null, .null, .null, .int (0 : Int32), .int (0 : Int32), .int (0 : Int32), .int (0 : Int32), .int (0 : Int32), .int (0 : Int32), .int (0 : Int32)]]) out := by
  rw [j_init] at h
  refine Eval.aload_n rfl rfl ?_
  refine Eval.objInit rfl rfl ?_
  refine Eval.aload_n rfl rfl ?_
  refine Eval.bipush (x := (32 : Int32)) rfl rfl ?_
  refine Eval.newarray (z := 23) (N := 32) (a := 1) (H1 := (W0 [.inl [.null, .int (0 : Int32), .null, .int (0 : Int32), .null, .null, .null, .null, .null, .null, .null, .null, .null, .null, .null, .null, .int (0 : Int32), .int (0 : Int32), .int (0 : Int32), .int (0 : Int32), .int (0 : Int32), .int (0 : Int32), .int (0 : Int32)], .inr (.inl (1, List.replicate 32 0))])) rfl rfl rfl rfl rfl (by decide) (by decide) (by unfold W0; simp only [hsz, csz, own_objN, List.length_replicate]) (by decide) rfl ?_
  refine Eval.putfield (H1 := (W0 [.inl [.ref 1, .int (0 : Int32), .null, .int (0 : Int32), .null, .null, .null, .null, .null, .null, .null, .null, .null, .null, .null, .null, .int (0 : Int32), .int (0 : Int32), .int (0 : Int32), .int (0 : Int32), .int (0 : Int32), .int (0 : Int32), .int (0 : Int32)], .inr (.inl (1, List.replicate 32 0))])) rfl rfl rfl ?_
  refine Eval.aload_n rfl rfl ?_
  refine Eval.iconst (x := (-1 : Int32)) rfl rfl ?_
  refine Eval.putfield (H1 := (W0 [.inl [.ref 1, .int (-1 : Int32), .null, .int (0 : Int32), .null, .null, .null, .null, .null, .null, .null, .null, .null, .null, .null, .null, .int (0 : Int32), .int (0 : Int32), .int (0 : Int32), .int (0 : Int32), .int (0 : Int32), .int (0 : Int32), .int (0 : Int32)], .inr (.inl (1, List.replicate 32 0))])) rfl rfl rfl ?_
  refine Eval.aload_n rfl rfl ?_
  refine Eval.bipush (x := (8 : Int32)) rfl rfl ?_
  refine Eval.newarray (z := 55) (N := 8) (a := 2) (H1 := (W0 [.inl [.ref 1, .int (-1 : Int32), .null, .int (0 : Int32), .null, .null, .null, .null, .null, .null, .null, .null, .null, .null, .null, .null, .int (0 : Int32), .int (0 : Int32), .int (0 : Int32), .int (0 : Int32), .int (0 : Int32), .int (0 : Int32), .int (0 : Int32)], .inr (.inl (1, List.replicate 32 0)), .inr (.inl (1, List.replicate 8 0))])) rfl rfl rfl rfl rfl (by decide) (by decide) (by unfold W0; simp only [hsz, csz, own_objN, List.length_replicate]) (by decide) rfl ?_
  refine Eval.putfield (H1 := (W0 [.inl [.ref 1, .int (-1 : Int32), .ref 2, .int (0 : Int32), .null, .null, .null, .null, .null, .null, .null, .null, .null, .null, .null, .null, .int (0 : Int32), .int (0 : Int32), .int (0 : Int32), .int (0 : Int32), .int (0 : Int32), .int (0 : Int32), .int (0 : Int32)], .inr (.inl (1, List.replicate 32 0)), .inr (.inl (1, List.replicate 8 0))])) rfl rfl rfl ?_
  refine Eval.aload_n rfl rfl ?_
  refine Eval.iconst (x := (-1 : Int32)) rfl rfl ?_
  refine Eval.putfield (H1 := (W0 [.inl [.ref 1, .int (-1 : Int32), .ref 2, .int (-1 : Int32), .null, .null, .null, .null, .null, .null, .null, .null, .null, .null, .null, .null, .int (0 : Int32), .int (0 : Int32), .int (0 : Int32), .int (0 : Int32), .int (0 : Int32), .int (0 : Int32), .int (0 : Int32)], .inr (.inl (1, List.replicate 32 0)), .inr (.inl (1, List.replicate 8 0))])) rfl rfl rfl ?_
  refine Eval.aload_n rfl rfl ?_
  refine Eval.bipush (x := (8 : Int32)) rfl rfl ?_
  refine Eval.newarray (z := 63) (N := 8) (a := 3) (H1 := (W0 [.inl [.ref 1, .int (-1 : Int32), .ref 2, .int (-1 : Int32), .null, .null, .null, .null, .null, .null, .null, .null, .null, .null, .null, .null, .int (0 : Int32), .int (0 : Int32), .int (0 : Int32), .int (0 : Int32), .int (0 : Int32), .int (0 : Int32), .int (0 : Int32)], .inr (.inl (1, List.replicate 32 0)), .inr (.inl (1, List.replicate 8 0)), .inr (.inl (1, List.replicate 8 0))])) rfl rfl rfl rfl rfl (by decide) (by decide) (by unfold W0; simp only [hsz, csz, own_objN, List.length_replicate]) (by decide) rfl ?_
  refine Eval.putfield (H1 := (W0 [.inl [.ref 1, .int (-1 : Int32), .ref 2, .int (-1 : Int32), .ref 3, .null, .null, .null, .null, .null, .null, .null, .null, .null, .null, .null, .int (0 : Int32), .int (0 : Int32), .int (0 : Int32), .int (0 : Int32), .int (0 : Int32), .int (0 : Int32), .int (0 : Int32)], .inr (.inl (1, List.replicate 32 0)), .inr (.inl (1, List.replicate 8 0)), .inr (.inl (1, List.replicate 8 0))])) rfl rfl rfl ?_
  refine Eval.aload_n rfl rfl ?_
  refine Eval.bipush (x := (8 : Int32)) rfl rfl ?_
  refine Eval.newarray (z := 71) (N := 8) (a := 4) (H1 := (W0 [.inl [.ref 1, .int (-1 : Int32), .ref 2, .int (-1 : Int32), .ref 3, .null, .null, .null, .null, .null, .null, .null, .null, .null, .null, .null, .int (0 : Int32), .int (0 : Int32), .int (0 : Int32), .int (0 : Int32), .int (0 : Int32), .int (0 : Int32), .int (0 : Int32)], .inr (.inl (1, List.replicate 32 0)), .inr (.inl (1, List.replicate 8 0)), .inr (.inl (1, List.replicate 8 0)), .inr (.inl (1, List.replicate 8 0))])) rfl rfl rfl rfl rfl (by decide) (by decide) (by unfold W0; simp only [hsz, csz, own_objN, List.length_replicate]) (by decide) rfl ?_
  refine Eval.putfield (H1 := (W0 [.inl [.ref 1, .int (-1 : Int32), .ref 2, .int (-1 : Int32), .ref 3, .ref 4, .null, .null, .null, .null, .null, .null, .null, .null, .null, .null, .int (0 : Int32), .int (0 : Int32), .int (0 : Int32), .int (0 : Int32), .int (0 : Int32), .int (0 : Int32), .int (0 : Int32)], .inr (.inl (1, List.replicate 32 0)), .inr (.inl (1, List.replicate 8 0)), .inr (.inl (1, List.replicate 8 0)), .inr (.inl (1, List.replicate 8 0))])) rfl rfl rfl ?_
  refine Eval.aload_n rfl rfl ?_
  refine Eval.bipush (x := (8 : Int32)) rfl rfl ?_
  refine Eval.newarray (z := 79) (N := 8) (a := 5) (H1 := (W0 [.inl [.ref 1, .int (-1 : Int32), .ref 2, .int (-1 : Int32), .ref 3, .ref 4, .null, .null, .null, .null, .null, .null, .null, .null, .null, .null, .int (0 : Int32), .int (0 : Int32), .int (0 : Int32), .int (0 : Int32), .int (0 : Int32), .int (0 : Int32), .int (0 : Int32)], .inr (.inl (1, List.replicate 32 0)), .inr (.inl (1, List.replicate 8 0)), .inr (.inl (1, List.replicate 8 0)), .inr (.inl (1, List.replicate 8 0)), .inr (.inl (1, List.replicate 8 0))])) rfl rfl rfl rfl rfl (by decide) (by decide) (by unfold W0; simp only [hsz, csz, own_objN, List.length_replicate]) (by decide) rfl ?_
  refine Eval.putfield (H1 := (W0 [.inl [.ref 1, .int (-1 : Int32), .ref 2, .int (-1 : Int32), .ref 3, .ref 4, .ref 5, .null, .null, .null, .null, .null, .null, .null, .null, .null, .int (0 : Int32), .int (0 : Int32), .int (0 : Int32), .int (0 : Int32), .int (0 : Int32), .int (0 : Int32), .int (0 : Int32)], .inr (.inl (1, List.replicate 32 0)), .inr (.inl (1, List.replicate 8 0)), .inr (.inl (1, List.replicate 8 0)), .inr (.inl (1, List.replicate 8 0)), .inr (.inl (1, List.replicate 8 0))])) rfl rfl rfl ?_
  refine Eval.aload_n rfl rfl ?_
  refine Eval.bipush (x := (8 : Int32)) rfl rfl ?_
  refine Eval.newarray (z := 87) (N := 8) (a := 6) (H1 := (W0 [.inl [.ref 1, .int (-1 : Int32), .ref 2, .int (-1 : Int32), .ref 3, .ref 4, .ref 5, .null, .null, .null, .null, .null, .null, .null, .null, .null, .int (0 : Int32), .int (0 : Int32), .int (0 : Int32), .int (0 : Int32), .int (0 : Int32), .int (0 : Int32), .int (0 : Int32)], .inr (.inl (1, List.replicate 32 0)), .inr (.inl (1, List.replicate 8 0)), .inr (.inl (1, List.replicate 8 0)), .inr (.inl (1, List.replicate 8 0)), .inr (.inl (1, List.replicate 8 0)), .inr (.inl (1, List.replicate 8 0))])) rfl rfl rfl rfl rfl (by decide) (by decide) (by unfold W0; simp only [hsz, csz, own_objN, List.length_replicate]) (by decide) rfl ?_
  refine Eval.putfield (H1 := (W0 [.inl [.ref 1, .int (-1 : Int32), .ref 2, .int (-1 : Int32), .ref 3, .ref 4, .ref 5, .ref 6, .null, .null, .null, .null, .null, .null, .null, .null, .int (0 : Int32), .int (0 : Int32), .int (0 : Int32), .int (0 : Int32), .int (0 : Int32), .int (0 : Int32), .int (0 : Int32)], .inr (.inl (1, List.replicate 32 0)), .inr (.inl (1, List.replicate 8 0)), .inr (.inl (1, List.replicate 8 0)), .inr (.inl (1, List.replicate 8 0)), .inr (.inl (1, List.replicate 8 0)), .inr (.inl (1, List.replicate 8 0))])) rfl rfl rfl ?_
  refine Eval.aload_n rfl rfl ?_
  refine Eval.bipush (x := (8 : Int32)) rfl rfl ?_
  refine Eval.newarray (z := 95) (N := 8) (a := 7) (H1 := (W0 [.inl [.ref 1, .int (-1 : Int32), .ref 2, .int (-1 : Int32), .ref 3, .ref 4, .ref 5, .ref 6, .null, .null, .null, .null, .null, .null, .null, .null, .int (0 : Int32), .int (0 : Int32), .int (0 : Int32), .int (0 : Int32), .int (0 : Int32), .int (0 : Int32), .int (0 : Int32)], .inr (.inl (1, List.replicate 32 0)), .inr (.inl (1, List.replicate 8 0)), .inr (.inl (1, List.replicate 8 0)), .inr (.inl (1, List.replicate 8 0)), .inr (.inl (1, List.replicate 8 0)), .inr (.inl (1, List.replicate 8 0)), .inr (.inl (1, List.replicate 8 0))])) rfl rfl rfl rfl rfl (by decide) (by decide) (by unfold W0; simp only [hsz, csz, own_objN, List.length_replicate]) (by decide) rfl ?_
  refine Eval.putfield (H1 := (W0 [.inl [.ref 1, .int (-1 : Int32), .ref 2, .int (-1 : Int32), .ref 3, .ref 4, .ref 5, .ref 6, .ref 7, .null, .null, .null, .null, .null, .null, .null, .int (0 : Int32), .int (0 : Int32), .int (0 : Int32), .int (0 : Int32), .int (0 : Int32), .int (0 : Int32), .int (0 : Int32)], .inr (.inl (1, List.replicate 32 0)), .inr (.inl (1, List.replicate 8 0)), .inr (.inl (1, List.replicate 8 0)), .inr (.inl (1, List.replicate 8 0)), .inr (.inl (1, List.replicate 8 0)), .inr (.inl (1, List.replicate 8 0)), .inr (.inl (1, List.replicate 8 0))])) rfl rfl rfl ?_
  refine Eval.aload_n rfl rfl ?_
  refine Eval.bipush (x := (8 : Int32)) rfl rfl ?_
  refine Eval.newarray (z := 103) (N := 8) (a := 8) (H1 := (W0 [.inl [.ref 1, .int (-1 : Int32), .ref 2, .int (-1 : Int32), .ref 3, .ref 4, .ref 5, .ref 6, .ref 7, .null, .null, .null, .null, .null, .null, .null, .int (0 : Int32), .int (0 : Int32), .int (0 : Int32), .int (0 : Int32), .int (0 : Int32), .int (0 : Int32), .int (0 : Int32)], .inr (.inl (1, List.replicate 32 0)), .inr (.inl (1, List.replicate 8 0)), .inr (.inl (1, List.replicate 8 0)), .inr (.inl (1, List.replicate 8 0)), .inr (.inl (1, List.replicate 8 0)), .inr (.inl (1, List.replicate 8 0)), .inr (.inl (1, List.replicate 8 0)), .inr (.inl (2, List.replicate 8 0))])) rfl rfl rfl rfl rfl (by decide) (by decide) (by unfold W0; simp only [hsz, csz, own_objN, List.length_replicate]) (by decide) rfl ?_
  refine Eval.putfield (H1 := (W0 [.inl [.ref 1, .int (-1 : Int32), .ref 2, .int (-1 : Int32), .ref 3, .ref 4, .ref 5, .ref 6, .ref 7, .ref 8, .null, .null, .null, .null, .null, .null, .int (0 : Int32), .int (0 : Int32), .int (0 : Int32), .int (0 : Int32), .int (0 : Int32), .int (0 : Int32), .int (0 : Int32)], .inr (.inl (1, List.replicate 32 0)), .inr (.inl (1, List.replicate 8 0)), .inr (.inl (1, List.replicate 8 0)), .inr (.inl (1, List.replicate 8 0)), .inr (.inl (1, List.replicate 8 0)), .inr (.inl (1, List.replicate 8 0)), .inr (.inl (1, List.replicate 8 0)), .inr (.inl (2, List.replicate 8 0))])) rfl rfl rfl ?_
  refine Eval.aload_n rfl rfl ?_
  refine Eval.bipush (x := (8 : Int32)) rfl rfl ?_
  refine Eval.newarray (z := 111) (N := 8) (a := 9) (H1 := (W0 [.inl [.ref 1, .int (-1 : Int32), .ref 2, .int (-1 : Int32), .ref 3, .ref 4, .ref 5, .ref 6, .ref 7, .ref 8, .null, .null, .null, .null, .null, .null, .int (0 : Int32), .int (0 : Int32), .int (0 : Int32), .int (0 : Int32), .int (0 : Int32), .int (0 : Int32), .int (0 : Int32)], .inr (.inl (1, List.replicate 32 0)), .inr (.inl (1, List.replicate 8 0)), .inr (.inl (1, List.replicate 8 0)), .inr (.inl (1, List.replicate 8 0)), .inr (.inl (1, List.replicate 8 0)), .inr (.inl (1, List.replicate 8 0)), .inr (.inl (1, List.replicate 8 0)), .inr (.inl (2, List.replicate 8 0)), .inr (.inl (1, List.replicate 8 0))])) rfl rfl rfl rfl rfl (by decide) (by decide) (by unfold W0; simp only [hsz, csz, own_objN, List.length_replicate]) (by decide) rfl ?_
  refine Eval.putfield (H1 := (W0 [.inl [.ref 1, .int (-1 : Int32), .ref 2, .int (-1 : Int32), .ref 3, .ref 4, .ref 5, .ref 6, .ref 7, .ref 8, .ref 9, .null, .null, .null, .null, .null, .int (0 : Int32), .int (0 : Int32), .int (0 : Int32), .int (0 : Int32), .int (0 : Int32), .int (0 : Int32), .int (0 : Int32)], .inr (.inl (1, List.replicate 32 0)), .inr (.inl (1, List.replicate 8 0)), .inr (.inl (1, List.replicate 8 0)), .inr (.inl (1, List.replicate 8 0)), .inr (.inl (1, List.replicate 8 0)), .inr (.inl (1, List.replicate 8 0)), .inr (.inl (1, List.replicate 8 0)), .inr (.inl (2, List.replicate 8 0)), .inr (.inl (1, List.replicate 8 0))])) rfl rfl rfl ?_
  refine Eval.aload_n rfl rfl ?_
  refine Eval.bipush (x := (8 : Int32)) rfl rfl ?_
  refine Eval.newarray (z := 119) (N := 8) (a := 10) (H1 := (W0 [.inl [.ref 1, .int (-1 : Int32), .ref 2, .int (-1 : Int32), .ref 3, .ref 4, .ref 5, .ref 6, .ref 7, .ref 8, .ref 9, .null, .null, .null, .null, .null, .int (0 : Int32), .int (0 : Int32), .int (0 : Int32), .int (0 : Int32), .int (0 : Int32), .int (0 : Int32), .int (0 : Int32)], .inr (.inl (1, List.replicate 32 0)), .inr (.inl (1, List.replicate 8 0)), .inr (.inl (1, List.replicate 8 0)), .inr (.inl (1, List.replicate 8 0)), .inr (.inl (1, List.replicate 8 0)), .inr (.inl (1, List.replicate 8 0)), .inr (.inl (1, List.replicate 8 0)), .inr (.inl (2, List.replicate 8 0)), .inr (.inl (1, List.replicate 8 0)), .inr (.inl (1, List.replicate 8 0))])) rfl rfl rfl rfl rfl (by decide) (by decide) (by unfold W0; simp only [hsz, csz, own_objN, List.length_replicate]) (by decide) rfl ?_
  refine Eval.putfield (H1 := (W0 [.inl [.ref 1, .int (-1 : Int32), .ref 2, .int (-1 : Int32), .ref 3, .ref 4, .ref 5, .ref 6, .ref 7, .ref 8, .ref 9, .ref 10, .null, .null, .null, .null, .int (0 : Int32), .int (0 : Int32), .int (0 : Int32), .int (0 : Int32), .int (0 : Int32), .int (0 : Int32), .int (0 : Int32)], .inr (.inl (1, List.replicate 32 0)), .inr (.inl (1, List.replicate 8 0)), .inr (.inl (1, List.replicate 8 0)), .inr (.inl (1, List.replicate 8 0)), .inr (.inl (1, List.replicate 8 0)), .inr (.inl (1, List.replicate 8 0)), .inr (.inl (1, List.replicate 8 0)), .inr (.inl (2, List.replicate 8 0)), .inr (.inl (1, List.replicate 8 0)), .inr (.inl (1, List.replicate 8 0))])) rfl rfl rfl ?_
  refine Eval.aload_n rfl rfl ?_
  refine Eval.bipush (x := (8 : Int32)) rfl rfl ?_
  refine Eval.newarray (z := 127) (N := 8) (a := 11) (H1 := (W0 [.inl [.ref 1, .int (-1 : Int32), .ref 2, .int (-1 : Int32), .ref 3, .ref 4, .ref 5, .ref 6, .ref 7, .ref 8, .ref 9, .ref 10, .null, .null, .null, .null, .int (0 : Int32), .int (0 : Int32), .int (0 : Int32), .int (0 : Int32), .int (0 : Int32), .int (0 : Int32), .int (0 : Int32)], .inr (.inl (1, List.replicate 32 0)), .inr (.inl (1, List.replicate 8 0)), .inr (.inl (1, List.replicate 8 0)), .inr (.inl (1, List.replicate 8 0)), .inr (.inl (1, List.replicate 8 0)), .inr (.inl (1, List.replicate 8 0)), .inr (.inl (1, List.replicate 8 0)), .inr (.inl (2, List.replicate 8 0)), .inr (.inl (1, List.replicate 8 0)), .inr (.inl (1, List.replicate 8 0)), .inr (.inl (2, List.replicate 8 0))])) rfl rfl rfl rfl rfl (by decide) (by decide) (by unfold W0; simp only [hsz, csz, own_objN, List.length_replicate]) (by decide) rfl ?_
  refine Eval.putfield (H1 := (W0 [.inl [.ref 1, .int (-1 : Int32), .ref 2, .int (-1 : Int32), .ref 3, .ref 4, .ref 5, .ref 6, .ref 7, .ref 8, .ref 9, .ref 10, .ref 11, .null, .null, .null, .int (0 : Int32), .int (0 : Int32), .int (0 : Int32), .int (0 : Int32), .int (0 : Int32), .int (0 : Int32), .int (0 : Int32)], .inr (.inl (1, List.replicate 32 0)), .inr (.inl (1, List.replicate 8 0)), .inr (.inl (1, List.replicate 8 0)), .inr (.inl (1, List.replicate 8 0)), .inr (.inl (1, List.replicate 8 0)), .inr (.inl (1, List.replicate 8 0)), .inr (.inl (1, List.replicate 8 0)), .inr (.inl (2, List.replicate 8 0)), .inr (.inl (1, List.replicate 8 0)), .inr (.inl (1, List.replicate 8 0)), .inr (.inl (2, List.replicate 8 0))])) rfl rfl rfl ?_
  refine Eval.aload_n rfl rfl ?_
  refine Eval.bipush (x := (8 : Int32)) rfl rfl ?_
  refine Eval.newarray (z := 135) (N := 8) (a := 12) (H1 := (W0 [.inl [.ref 1, .int (-1 : Int32), .ref 2, .int (-1 : Int32), .ref 3, .ref 4, .ref 5, .ref 6, .ref 7, .ref 8, .ref 9, .ref 10, .ref 11, .null, .null, .null, .int (0 : Int32), .int (0 : Int32), .int (0 : Int32), .int (0 : Int32), .int (0 : Int32), .int (0 : Int32), .int (0 : Int32)], .inr (.inl (1, List.replicate 32 0)), .inr (.inl (1, List.replicate 8 0)), .inr (.inl (1, List.replicate 8 0)), .inr (.inl (1, List.replicate 8 0)), .inr (.inl (1, List.replicate 8 0)), .inr (.inl (1, List.replicate 8 0)), .inr (.inl (1, List.replicate 8 0)), .inr (.inl (2, List.replicate 8 0)), .inr (.inl (1, List.replicate 8 0)), .inr (.inl (1, List.replicate 8 0)), .inr (.inl (2, List.replicate 8 0)), .inr (.inl (1, List.replicate 8 0))])) rfl rfl rfl rfl rfl (by decide) (by decide) (by unfold W0; simp only [hsz, csz, own_objN, List.length_replicate]) (by decide) rfl ?_
  refine Eval.putfield (H1 := (W0 [.inl [.ref 1, .int (-1 : Int32), .ref 2, .int (-1 : Int32), .ref 3, .ref 4, .ref 5, .ref 6, .ref 7, .ref 8, .ref 9, .ref 10, .ref 11, .ref 12, .null, .null, .int (0 : Int32), .int (0 : Int32), .int (0 : Int32), .int (0 : Int32), .int (0 : Int32), .int (0 : Int32), .int (0 : Int32)], .inr (.inl (1, List.replicate 32 0)), .inr (.inl (1, List.replicate 8 0)), .inr (.inl (1, List.replicate 8 0)), .inr (.inl (1, List.replicate 8 0)), .inr (.inl (1, List.replicate 8 0)), .inr (.inl (1, List.replicate 8 0)), .inr (.inl (1, List.replicate 8 0)), .inr (.inl (2, List.replicate 8 0)), .inr (.inl (1, List.replicate 8 0)), .inr (.inl (1, List.replicate 8 0)), .inr (.inl (2, List.replicate 8 0)), .inr (.inl (1, List.replicate 8 0))])) rfl rfl rfl ?_
  refine Eval.aload_n rfl rfl ?_
  refine Eval.bipush (x := (8 : Int32)) rfl rfl ?_
  refine Eval.newarray (z := 143) (N := 8) (a := 13) (H1 := (W0 [.inl [.ref 1, .int (-1 : Int32), .ref 2, .int (-1 : Int32), .ref 3, .ref 4, .ref 5, .ref 6, .ref 7, .ref 8, .ref 9, .ref 10, .ref 11, .ref 12, .null, .null, .int (0 : Int32), .int (0 : Int32), .int (0 : Int32), .int (0 : Int32), .int (0 : Int32), .int (0 : Int32), .int (0 : Int32)], .inr (.inl (1, List.replicate 32 0)), .inr (.inl (1, List.replicate 8 0)), .inr (.inl (1, List.replicate 8 0)), .inr (.inl (1, List.replicate 8 0)), .inr (.inl (1, List.replicate 8 0)), .inr (.inl (1, List.replicate 8 0)), .inr (.inl (1, List.replicate 8 0)), .inr (.inl (2, List.replicate 8 0)), .inr (.inl (1, List.replicate 8 0)), .inr (.inl (1, List.replicate 8 0)), .inr (.inl (2, List.replicate 8 0)), .inr (.inl (1, List.replicate 8 0)), .inr (.inl (1, List.replicate 8 0))])) rfl rfl rfl rfl rfl (by decide) (by decide) (by unfold W0; simp only [hsz, csz, own_objN, List.length_replicate]) (by decide) rfl ?_
  refine Eval.putfield (H1 := (W0 [.inl [.ref 1, .int (-1 : Int32), .ref 2, .int (-1 : Int32), .ref 3, .ref 4, .ref 5, .ref 6, .ref 7, .ref 8, .ref 9, .ref 10, .ref 11, .ref 12, .ref 13, .null, .int (0 : Int32), .int (0 : Int32), .int (0 : Int32), .int (0 : Int32), .int (0 : Int32), .int (0 : Int32), .int (0 : Int32)], .inr (.inl (1, List.replicate 32 0)), .inr (.inl (1, List.replicate 8 0)), .inr (.inl (1, List.replicate 8 0)), .inr (.inl (1, List.replicate 8 0)), .inr (.inl (1, List.replicate 8 0)), .inr (.inl (1, List.replicate 8 0)), .inr (.inl (1, List.replicate 8 0)), .inr (.inl (2, List.replicate 8 0)), .inr (.inl (1, List.replicate 8 0)), .inr (.inl (1, List.replicate 8 0)), .inr (.inl (2, List.replicate 8 0)), .inr (.inl (1, List.replicate 8 0)), .inr (.inl (1, List.replicate 8 0))])) rfl rfl rfl ?_
  refine Eval.aload_n rfl rfl ?_
  refine Eval.bipush (x := (8 : Int32)) rfl rfl ?_
  refine Eval.newarray (z := 151) (N := 8) (a := 14) (H1 := (W0 [.inl [.ref 1, .int (-1 : Int32), .ref 2, .int (-1 : Int32), .ref 3, .ref 4, .ref 5, .ref 6, .ref 7, .ref 8, .ref 9, .ref 10, .ref 11, .ref 12, .ref 13, .null, .int (0 : Int32), .int (0 : Int32), .int (0 : Int32), .int (0 : Int32), .int (0 : Int32), .int (0 : Int32), .int (0 : Int32)], .inr (.inl (1, List.replicate 32 0)), .inr (.inl (1, List.replicate 8 0)), .inr (.inl (1, List.replicate 8 0)), .inr (.inl (1, List.replicate 8 0)), .inr (.inl (1, List.replicate 8 0)), .inr (.inl (1, List.replicate 8 0)), .inr (.inl (1, List.replicate 8 0)), .inr (.inl (2, List.replicate 8 0)), .inr (.inl (1, List.replicate 8 0)), .inr (.inl (1, List.replicate 8 0)), .inr (.inl (2, List.replicate 8 0)), .inr (.inl (1, List.replicate 8 0)), .inr (.inl (1, List.replicate 8 0)), .inr (.inl (1, List.replicate 8 0))])) rfl rfl rfl rfl rfl (by decide) (by decide) (by unfold W0; simp only [hsz, csz, own_objN, List.length_replicate]) (by decide) rfl ?_
  refine Eval.putfield (H1 := (W0 [.inl [.ref 1, .int (-1 : Int32), .ref 2, .int (-1 : Int32), .ref 3, .ref 4, .ref 5, .ref 6, .ref 7, .ref 8, .ref 9, .ref 10, .ref 11, .ref 12, .ref 13, .ref 14, .int (0 : Int32), .int (0 : Int32), .int (0 : Int32), .int (0 : Int32), .int (0 : Int32), .int (0 : Int32), .int (0 : Int32)], .inr (.inl (1, List.replicate 32 0)), .inr (.inl (1, List.replicate 8 0)), .inr (.inl (1, List.replicate 8 0)), .inr (.inl (1, List.replicate 8 0)), .inr (.inl (1, List.replicate 8 0)), .inr (.inl (1, List.replicate 8 0)), .inr (.inl (1, List.replicate 8 0)), .inr (.inl (2, List.replicate 8 0)), .inr (.inl (1, List.replicate 8 0)), .inr (.inl (1, List.replicate 8 0)), .inr (.inl (2, List.replicate 8 0)), .inr (.inl (1, List.replicate 8 0)), .inr (.inl (1, List.replicate 8 0)), .inr (.inl (1, List.replicate 8 0))])) rfl rfl rfl ?_
  show Eval own_P 1 126 [some (.ref 0), some (.int v1), some (.int v2), some (.int v3)] [] (W1 Q0 []) out
  exact ev_j_init_b126 Q0 v1 v2 v3 h hk
def j_valid (s : Q) (v1 : Int32) : Int32 := (if v1 < (0 : Int32) then ((0 : Int32)) else (if v1 < s.f_n then ((1 : Int32)) else ((0 : Int32))))
set_option maxRecDepth 100000 in
theorem ev_j_valid (R : AHeap) (s : Q) (v1 : Int32) {res : Int32} {out : Option Value × AHeap} (h : j_valid s v1 = res) (hk : out = (some (.int res), (W1 s R))) : Eval own_P 4 0 [some (.ref 0), some (.int v1)] [] (W1 s R) out := by
  rw [j_valid] at h
  refine Eval.iload_n rfl rfl ?_
  by_cases hc9 : v1 < (0 : Int32)
  · rw [if_pos hc9] at h
    refine Eval.ifT (t := 16) rfl rfl (tlt hc9).1 ?_
    refine Eval.iconst (x := (0 : Int32)) rfl rfl ?_
    subst h
    subst hk
    exact Eval.ret rfl rfl
  · rw [if_neg hc9] at h
    refine Eval.ifF rfl (flt hc9).1 ?_
    refine Eval.iload_n rfl rfl ?_
    refine Eval.aload_n rfl rfl ?_
    refine Eval.getfield rfl rfl own_g1_n ?_
    by_cases hc10 : v1 < s.f_n
    · rw [if_pos hc10] at h
      refine Eval.icmpF rfl (tlt hc10).2.1 ?_
      refine Eval.iconst (x := (1 : Int32)) rfl rfl ?_
      refine Eval.goto (t := 17) rfl rfl ?_
      subst h
      subst hk
      exact Eval.ret rfl rfl
    · rw [if_neg hc10] at h
      refine Eval.icmpT (t := 16) rfl rfl (flt hc10).2.1 ?_
      refine Eval.iconst (x := (0 : Int32)) rfl rfl ?_
      subst h
      subst hk
      exact Eval.ret rfl rfl
def j_submit_b22 (s : Q) (v1 : Int32) (v2 : Int32) (v3 : Int32) : Option (Int32 × Q) := (if inb s.f_phase.length v1 = true then (if (rd s.f_phase v1) = (0 : Int32) then (if inb s.f_opKind.length v1 = true then (if inb s.f_opVal.length v1 = true then (if inb s.f_resStatus.length v1 = true then (if inb s.f_resVal.length v1 = true then (if inb s.f_phase.length v1 = true then some ((1 : Int32), (Q.mk s.f_heap s.f_lock s.f_list s.f_cursor (wr s.f_phase v1 (1 : Int32)) (wr s.f_opKind v1 v2) (wr s.f_opVal v1 v3) (wr s.f_resStatus v1 (0 : Int32)) (wr s.f_resVal v1 (0 : Int32)) s.f_enlisted s.f_reqKind s.f_reqVal s.f_ready s.f_respStatus s.f_respVal s.f_stamp s.f_n s.f_cap s.f_age s.f_listLen s.f_pass s.f_heapSize s.f_applied)) else none) else none) else none) else none) else none) else some ((0 : Int32), s)) else none)
theorem ln_j_submit_b22 {s : Q} {v1 : Int32} {v2 : Int32} {v3 : Int32} {res : Int32 × Q} (h : j_submit_b22 s v1 v2 v3 = some res) : Q.len res.2 = Q.len s := by
  rw [j_submit_b22] at h
  obtain ⟨hb13, h⟩ := ite_some h
  by_cases hc14 : (rd s.f_phase v1) = (0 : Int32)
  · rw [if_pos hc14] at h
    obtain ⟨hb15, h⟩ := ite_some h
    obtain ⟨hb16, h⟩ := ite_some h
    obtain ⟨hb17, h⟩ := ite_some h
    obtain ⟨hb18, h⟩ := ite_some h
    obtain ⟨hb19, h⟩ := ite_some h
    have hr0 := Option.some.inj h
    subst hr0
    show Q.len (Q.mk s.f_heap s.f_lock s.f_list s.f_cursor (wr s.f_phase v1 (1 : Int32)) (wr s.f_opKind v1 v2) (wr s.f_opVal v1 v3) (wr s.f_resStatus v1 (0 : Int32)) (wr s.f_resVal v1 (0 : Int32)) s.f_enlisted s.f_reqKind s.f_reqVal s.f_ready s.f_respStatus s.f_respVal s.f_stamp s.f_n s.f_cap s.f_age s.f_listLen s.f_pass s.f_heapSize s.f_applied) = _
    exact (Eq.trans (show Q.len (Q.mk s.f_heap s.f_lock s.f_list s.f_cursor (wr s.f_phase v1 (1 : Int32)) (wr s.f_opKind v1 v2) (wr s.f_opVal v1 v3) (wr s.f_resStatus v1 (0 : Int32)) (wr s.f_resVal v1 (0 : Int32)) s.f_enlisted s.f_reqKind s.f_reqVal s.f_ready s.f_respStatus s.f_respVal s.f_stamp s.f_n s.f_cap s.f_age s.f_listLen s.f_pass s.f_heapSize s.f_applied) = Q.len s from own_lenmk.trans (by first | (simp only [len_wr, len_wrL] <;> rfl) | rfl)) rfl)
  · rw [if_neg hc14] at h
    have hr0 := Option.some.inj h
    subst hr0
    show Q.len s = _
    exact rfl
set_option maxRecDepth 100000 in
theorem ev_j_submit_b22 (R : AHeap) (s : Q) (v1 : Int32) (v2 : Int32) (v3 : Int32) {res : Int32 × Q} {out : Option Value × AHeap} (h : j_submit_b22 s v1 v2 v3 = some res) (hk : out = (some (.int res.1), (W1 res.2 R))) : Eval own_P 3 22 [some (.ref 0), some (.int v1), some (.int v2), some (.int v3)] [] (W1 s R) out := by
  rw [j_submit_b22] at h
  refine Eval.aload_n rfl rfl ?_
  refine Eval.getfield rfl rfl own_g1_phase ?_
  refine Eval.iload_n rfl rfl ?_
  obtain ⟨hb13, h⟩ := ite_some h
  refine Eval.iaload rfl own_a1_phase hb13 ?_
  by_cases hc14 : (rd s.f_phase v1) = (0 : Int32)
  · rw [if_pos hc14] at h
    refine Eval.ifT (t := 33) rfl rfl (teq hc14).1 ?_
    refine Eval.aload_n rfl rfl ?_
    refine Eval.getfield rfl rfl own_g1_opKind ?_
    refine Eval.iload_n rfl rfl ?_
    refine Eval.iload_n rfl rfl ?_
    obtain ⟨hb15, h⟩ := ite_some h
    refine Eval.iastore rfl rfl own_a1_opKind hb15 own_s1_opKind ?_
    refine Eval.aload_n rfl rfl ?_
    refine Eval.getfield rfl rfl own_g1_opVal ?_
    refine Eval.iload_n rfl rfl ?_
    refine Eval.iload_n rfl rfl ?_
    obtain ⟨hb16, h⟩ := ite_some h
    refine Eval.iastore rfl rfl own_a1_opVal hb16 own_s1_opVal ?_
    refine Eval.aload_n rfl rfl ?_
    refine Eval.getfield rfl rfl own_g1_resStatus ?_
    refine Eval.iload_n rfl rfl ?_
    refine Eval.iconst (x := (0 : Int32)) rfl rfl ?_
    obtain ⟨hb17, h⟩ := ite_some h
    refine Eval.iastore rfl rfl own_a1_resStatus hb17 own_s1_resStatus ?_
    refine Eval.aload_n rfl rfl ?_
    refine Eval.getfield rfl rfl own_g1_resVal ?_
    refine Eval.iload_n rfl rfl ?_
    refine Eval.iconst (x := (0 : Int32)) rfl rfl ?_
    obtain ⟨hb18, h⟩ := ite_some h
    refine Eval.iastore rfl rfl own_a1_resVal hb18 own_s1_resVal ?_
    refine Eval.aload_n rfl rfl ?_
    refine Eval.getfield rfl rfl own_g1_phase ?_
    refine Eval.iload_n rfl rfl ?_
    refine Eval.iconst (x := (1 : Int32)) rfl rfl ?_
    obtain ⟨hb19, h⟩ := ite_some h
    refine Eval.iastore rfl rfl own_a1_phase hb19 own_s1_phase ?_
    refine Eval.iconst (x := (1 : Int32)) rfl rfl ?_
    cases h
    subst hk
    exact Eval.retH own_mk1 rfl rfl
  · rw [if_neg hc14] at h
    refine Eval.ifF rfl (feq hc14).1 ?_
    refine Eval.iconst (x := (0 : Int32)) rfl rfl ?_
    cases h
    subst hk
    exact Eval.ret rfl rfl
def j_submit (s : Q) (v1 : Int32) (v2 : Int32) (v3 : Int32) : Option (Int32 × Q) := (if (j_valid s v1) = (0 : Int32) then some ((0 : Int32), s) else (if v2 = (1 : Int32) then (j_submit_b22 s v1 v2 v3) else (if v2 = (2 : Int32) then (j_submit_b22 s v1 v2 v3) else some ((0 : Int32), s))))
theorem ln_j_submit {s : Q} {v1 : Int32} {v2 : Int32} {v3 : Int32} {res : Int32 × Q} (h : j_submit s v1 v2 v3 = some res) : Q.len res.2 = Q.len s := by
  rw [j_submit] at h
  by_cases hc11 : (j_valid s v1) = (0 : Int32)
  · rw [if_pos hc11] at h
    have hr0 := Option.some.inj h
    subst hr0
    show Q.len s = _
    exact rfl
  · rw [if_neg hc11] at h
    by_cases hc12 : v2 = (1 : Int32)
    · rw [if_pos hc12] at h
      exact Eq.trans (ln_j_submit_b22 h) rfl
    · rw [if_neg hc12] at h
      by_cases hc20 : v2 = (2 : Int32)
      · rw [if_pos hc20] at h
        exact Eq.trans (ln_j_submit_b22 h) rfl
      · rw [if_neg hc20] at h
        have hr0 := Option.some.inj h
        subst hr0
        show Q.len s = _
        exact rfl
set_option maxRecDepth 100000 in
theorem ev_j_submit (R : AHeap) (s : Q) (v1 : Int32) (v2 : Int32) (v3 : Int32) {res : Int32 × Q} {out : Option Value × AHeap} (h : j_submit s v1 v2 v3 = some res) (hk : out = (some (.int res.1), (W1 res.2 R))) : Eval own_P 3 0 [some (.ref 0), some (.int v1), some (.int v2), some (.int v3)] [] (W1 s R) out := by
  rw [j_submit] at h
  refine Eval.aload_n rfl rfl ?_
  refine Eval.iload_n rfl rfl ?_
  refine Eval.callI (rest := []) (x := (j_valid s v1)) (H1 := (W1 s R)) rfl rfl (ev_j_valid R s v1 rfl rfl) ?_
  by_cases hc11 : (j_valid s v1) = (0 : Int32)
  · rw [if_pos hc11] at h
    refine Eval.ifF rfl (teq hc11).2 ?_
    refine Eval.iconst (x := (0 : Int32)) rfl rfl ?_
    cases h
    subst hk
    exact Eval.ret rfl rfl
  · rw [if_neg hc11] at h
    refine Eval.ifT (t := 10) rfl rfl (feq hc11).2 ?_
    refine Eval.iload_n rfl rfl ?_
    refine Eval.iconst (x := (1 : Int32)) rfl rfl ?_
    by_cases hc12 : v2 = (1 : Int32)
    · rw [if_pos hc12] at h
      refine Eval.icmpT (t := 22) rfl rfl (teq hc12).1 ?_
      exact ev_j_submit_b22 R s v1 v2 v3 h hk
    · rw [if_neg hc12] at h
      refine Eval.icmpF rfl (feq hc12).1 ?_
      refine Eval.iload_n rfl rfl ?_
      refine Eval.iconst (x := (2 : Int32)) rfl rfl ?_
      by_cases hc20 : v2 = (2 : Int32)
      · rw [if_pos hc20] at h
        refine Eval.icmpT (t := 22) rfl rfl (teq hc20).1 ?_
        exact ev_j_submit_b22 R s v1 v2 v3 h hk
      · rw [if_neg hc20] at h
        refine Eval.icmpF rfl (feq hc20).1 ?_
        refine Eval.iconst (x := (0 : Int32)) rfl rfl ?_
        cases h
        subst hk
        exact Eval.ret rfl rfl
abbrev j_round_l4_K (R : AHeap) (res : Int32 × Q) (out : Option Value × AHeap) : Prop := Eval own_P 6 36 [none, some (.int res.1), none] [] (W1 res.2 R) out

abbrev j_round_l4_N (s : Q) (res : Int32 × Q) : Prop := Q.len res.2 = Q.len s
def j_round_b30 (go_ : Q → Int32 → Int32 → Option (Int32 × Q)) (s : Q) (v1 : Int32) (v2 : Int32) : Option (Int32 × Q) := (go_ s v1 (v2 + (1 : Int32)))
theorem ln_j_round_b30 {go_ : Q → Int32 → Int32 → Option (Int32 × Q)} (hrec : ∀ (s : Q) (v1 : Int32) (v2 : Int32) {res : Int32 × Q}, go_ s v1 v2 = some res → j_round_l4_N s res) {s : Q} {v1 : Int32} {v2 : Int32} {res : Int32 × Q} (h : j_round_b30 go_ s v1 v2 = some res) : j_round_l4_N s res := by
  rw [j_round_b30] at h
  exact (hrec _ _ _ h).trans rfl
set_option maxRecDepth 100000 in
theorem ev_j_round_b30 (R : AHeap) (go_ : Q → Int32 → Int32 → Option (Int32 × Q)) (hrec : ∀ (s : Q) (v1 : Int32) (v2 : Int32) {res : Int32 × Q} {out : Option Value × AHeap}, go_ s v1 v2 = some res → j_round_l4_K R res out → Eval own_P 6 4 [some (.ref 0), some (.int v1), some (.int v2)] [] (W1 s R) out) (s : Q) (v1 : Int32) (v2 : Int32) {res : Int32 × Q} {out : Option Value × AHeap} (h : j_round_b30 go_ s v1 v2 = some res) (hk : j_round_l4_K R res out) : Eval own_P 6 30 [some (.ref 0), some (.int v1), some (.int v2)] [] (W1 s R) out := by
  rw [j_round_b30] at h
  refine Eval.iinc (L' := [some (.ref 0), some (.int v1), some (.int (v2 + (1 : Int32)))]) rfl rfl rfl ?_
  refine Eval.goto (t := 4) rfl rfl ?_
  exact hrec _ _ _ h hk
abbrev j_pushFront_l15_K (R : AHeap) (res : Int32 × Q) (out : Option Value × AHeap) : Prop := Eval own_P 9 39 [some (.ref 0), some (.int res.1), none] [] (W1 res.2 R) out

abbrev j_pushFront_l15_N (s : Q) (res : Int32 × Q) : Prop := Q.len res.2 = Q.len s
def j_pushFront_l15 : Nat → Q → Int32 → Int32 → Option (Int32 × Q)
  | 0, _, _, _ => none
  | n + 1, s, v1, v2 => (if (0 : Int32) < v2 then (if inb s.f_list.length (v2 - (1 : Int32)) = true then (if inb s.f_list.length v2 = true then (j_pushFront_l15 n (Q.mk s.f_heap s.f_lock (wr s.f_list v2 (rd s.f_list (v2 - (1 : Int32)))) s.f_cursor s.f_phase s.f_opKind s.f_opVal s.f_resStatus s.f_resVal s.f_enlisted s.f_reqKind s.f_reqVal s.f_ready s.f_respStatus s.f_respVal s.f_stamp s.f_n s.f_cap s.f_age s.f_listLen s.f_pass s.f_heapSize s.f_applied) v1 (v2 + (-1 : Int32))) else none) else none) else some (v1, s))
theorem ln_j_pushFront_l15 : ∀ {n : Nat} {s : Q} {v1 : Int32} {v2 : Int32} {res : Int32 × Q}, j_pushFront_l15 n s v1 v2 = some res → j_pushFront_l15_N s res := by
  intro n
  induction n with
  | zero => intro _ _ _ res h; cases h
  | succ n hrec0 =>
    have hrec : ∀ (s : Q) (v1 : Int32) (v2 : Int32) {res : Int32 × Q}, j_pushFront_l15 n s v1 v2 = some res → j_pushFront_l15_N s res := by intros; apply hrec0; assumption
    intro s v1 v2 res h
    rw [j_pushFront_l15] at h
    by_cases hc46 : (0 : Int32) < v2
    · rw [if_pos hc46] at h
      obtain ⟨hb47, h⟩ := ite_some h
      obtain ⟨hb48, h⟩ := ite_some h
      exact (hrec _ _ _ h).trans (Eq.trans (show Q.len (Q.mk s.f_heap s.f_lock (wr s.f_list v2 (rd s.f_list (v2 - (1 : Int32)))) s.f_cursor s.f_phase s.f_opKind s.f_opVal s.f_resStatus s.f_resVal s.f_enlisted s.f_reqKind s.f_reqVal s.f_ready s.f_respStatus s.f_respVal s.f_stamp s.f_n s.f_cap s.f_age s.f_listLen s.f_pass s.f_heapSize s.f_applied) = Q.len s from own_lenmk.trans (by first | (simp only [len_wr, len_wrL] <;> rfl) | rfl)) rfl)
    · rw [if_neg hc46] at h
      have hr0 := Option.some.inj h
      subst hr0
      show Q.len s = _
      exact rfl
set_option maxRecDepth 100000 in
theorem ev_j_pushFront_l15 (R : AHeap) : ∀ (n : Nat) (s : Q) (v1 : Int32) (v2 : Int32) {res : Int32 × Q} {out : Option Value × AHeap}, j_pushFront_l15 n s v1 v2 = some res → j_pushFront_l15_K R res out → Eval own_P 9 15 [some (.ref 0), some (.int v1), some (.int v2)] [] (W1 s R) out := by
  intro n
  induction n with
  | zero => intro _ _ _ res out h hk; cases h
  | succ n hrec =>
    intro s v1 v2 res out h hk
    rw [j_pushFront_l15] at h
    refine Eval.iload_n rfl rfl ?_
    by_cases hc46 : (0 : Int32) < v2
    · rw [if_pos hc46] at h
      refine Eval.ifF rfl (tlt hc46).2.2.2 ?_
      refine Eval.aload_n rfl rfl ?_
      refine Eval.getfield rfl rfl own_g1_list ?_
      refine Eval.iload_n rfl rfl ?_
      refine Eval.aload_n rfl rfl ?_
      refine Eval.getfield rfl rfl own_g1_list ?_
      refine Eval.iload_n rfl rfl ?_
      refine Eval.iconst (x := (1 : Int32)) rfl rfl ?_
      refine Eval.isub rfl ?_
      obtain ⟨hb47, h⟩ := ite_some h
      refine Eval.iaload rfl own_a1_list hb47 ?_
      obtain ⟨hb48, h⟩ := ite_some h
      refine Eval.iastore rfl rfl own_a1_list hb48 own_s1_list ?_
      refine Eval.iinc (L' := [some (.ref 0), some (.int v1), some (.int (v2 + (-1 : Int32)))]) rfl rfl rfl ?_
      refine Eval.goto (t := 15) rfl rfl ?_
      refine Eval.heap own_mk1 ?_
      exact hrec _ _ _ h hk
    · rw [if_neg hc46] at h
      refine Eval.ifT (t := 39) rfl rfl (flt hc46).2.2.2 ?_
      cases h
      refine Eval.weak (L' := [some (.ref 0), some (.int v1), none]) ⟨_, _, rfl, Or.inr rfl, _, _, rfl, Or.inr rfl, _, _, rfl, Or.inl rfl, rfl⟩ ?_
      exact hk
def j_pushFront (s : Q) (v1 : Int32) : Option (Q) := (if s.f_listLen < (8 : Int32) then ((j_pushFront_l15 3000 s v1 s.f_listLen).bind fun p49 => (if inb p49.2.f_list.length (0 : Int32) = true then some ((Q.mk p49.2.f_heap p49.2.f_lock (wr p49.2.f_list (0 : Int32) p49.1) p49.2.f_cursor p49.2.f_phase p49.2.f_opKind p49.2.f_opVal p49.2.f_resStatus p49.2.f_resVal p49.2.f_enlisted p49.2.f_reqKind p49.2.f_reqVal p49.2.f_ready p49.2.f_respStatus p49.2.f_respVal p49.2.f_stamp p49.2.f_n p49.2.f_cap p49.2.f_age (p49.2.f_listLen + (1 : Int32)) p49.2.f_pass p49.2.f_heapSize p49.2.f_applied)) else none)) else some (s))
theorem ln_j_pushFront {s : Q} {v1 : Int32} {res : Q} (h : j_pushFront s v1 = some res) : Q.len res = Q.len s := by
  rw [j_pushFront] at h
  by_cases hc45 : s.f_listLen < (8 : Int32)
  · rw [if_pos hc45] at h
    obtain ⟨p49, hq50, h⟩ := bind_some h
    have hl51 : Q.len p49.2 = _ := Eq.trans (ln_j_pushFront_l15 hq50) rfl
    obtain ⟨hb52, h⟩ := ite_some h
    have hr0 := Option.some.inj h
    subst hr0
    show Q.len (Q.mk p49.2.f_heap p49.2.f_lock (wr p49.2.f_list (0 : Int32) p49.1) p49.2.f_cursor p49.2.f_phase p49.2.f_opKind p49.2.f_opVal p49.2.f_resStatus p49.2.f_resVal p49.2.f_enlisted p49.2.f_reqKind p49.2.f_reqVal p49.2.f_ready p49.2.f_respStatus p49.2.f_respVal p49.2.f_stamp p49.2.f_n p49.2.f_cap p49.2.f_age (p49.2.f_listLen + (1 : Int32)) p49.2.f_pass p49.2.f_heapSize p49.2.f_applied) = _
    exact (Eq.trans (show Q.len (Q.mk p49.2.f_heap p49.2.f_lock (wr p49.2.f_list (0 : Int32) p49.1) p49.2.f_cursor p49.2.f_phase p49.2.f_opKind p49.2.f_opVal p49.2.f_resStatus p49.2.f_resVal p49.2.f_enlisted p49.2.f_reqKind p49.2.f_reqVal p49.2.f_ready p49.2.f_respStatus p49.2.f_respVal p49.2.f_stamp p49.2.f_n p49.2.f_cap p49.2.f_age (p49.2.f_listLen + (1 : Int32)) p49.2.f_pass p49.2.f_heapSize p49.2.f_applied) = Q.len p49.2 from own_lenmk.trans (by first | (simp only [len_wr, len_wrL] <;> rfl) | rfl)) hl51)
  · rw [if_neg hc45] at h
    have hr0 := Option.some.inj h
    subst hr0
    show Q.len s = _
    exact rfl
set_option maxRecDepth 100000 in
theorem ev_j_pushFront (R : AHeap) (s : Q) (v1 : Int32) {res : Q} {out : Option Value × AHeap} (h : j_pushFront s v1 = some res) (hk : out = (none, (W1 res R))) : Eval own_P 9 0 [some (.ref 0), some (.int v1), none] [] (W1 s R) out := by
  rw [j_pushFront] at h
  refine Eval.aload_n rfl rfl ?_
  refine Eval.getfield rfl rfl own_g1_listLen ?_
  refine Eval.bipush (x := (8 : Int32)) rfl rfl ?_
  by_cases hc45 : s.f_listLen < (8 : Int32)
  · rw [if_pos hc45] at h
    refine Eval.icmpT (t := 10) rfl rfl (tlt hc45).1 ?_
    refine Eval.aload_n rfl rfl ?_
    refine Eval.getfield rfl rfl own_g1_listLen ?_
    refine Eval.istore_n (L' := [some (.ref 0), some (.int v1), some (.int s.f_listLen)]) rfl rfl ?_
    obtain ⟨p49, hq50, h⟩ := bind_some h
    refine ev_j_pushFront_l15 R _ s v1 s.f_listLen hq50 ?_
    show Eval own_P 9 39 [some (.ref 0), some (.int p49.1), none] [] (W1 p49.2 R) out
    refine Eval.aload_n rfl rfl ?_
    refine Eval.getfield rfl rfl own_g1_list ?_
    refine Eval.iconst (x := (0 : Int32)) rfl rfl ?_
    refine Eval.iload_n rfl rfl ?_
    obtain ⟨hb52, h⟩ := ite_some h
    refine Eval.iastore rfl rfl own_a1_list hb52 own_s1_list ?_
    refine Eval.aload_n rfl rfl ?_
    refine Eval.dupR rfl ?_
    refine Eval.getfield rfl rfl own_g1_listLen ?_
    refine Eval.iconst (x := (1 : Int32)) rfl rfl ?_
    refine Eval.iadd rfl ?_
    refine Eval.putfield rfl rfl own_p1_listLen ?_
    cases h
    subst hk
    exact Eval.retH own_mk1 rfl rfl
  · rw [if_neg hc45] at h
    refine Eval.icmpF rfl (flt hc45).1 ?_
    cases h
    subst hk
    exact Eval.ret rfl rfl
def j_stepPublish (s : Q) (v1 : Int32) : Option (Int32 × Q) := (if inb s.f_opKind.length v1 = true then (if inb s.f_reqKind.length v1 = true then (if inb s.f_opVal.length v1 = true then (if inb s.f_reqVal.length v1 = true then (if inb s.f_ready.length v1 = true then (if inb s.f_phase.length v1 = true then (if inb s.f_enlisted.length v1 = true then (if (rd s.f_enlisted v1) = (0 : Int32) then (if inb s.f_enlisted.length v1 = true then ((j_pushFront (Q.mk s.f_heap s.f_lock s.f_list s.f_cursor (wr s.f_phase v1 (2 : Int32)) s.f_opKind s.f_opVal s.f_resStatus s.f_resVal (wr s.f_enlisted v1 (1 : Int32)) (wr s.f_reqKind v1 (rd s.f_opKind v1)) (wr s.f_reqVal v1 (rd s.f_opVal v1)) (wr s.f_ready v1 (0 : Int32)) s.f_respStatus s.f_respVal s.f_stamp s.f_n s.f_cap s.f_age s.f_listLen s.f_pass s.f_heapSize s.f_applied) v1).bind fun p53 => (if inb p53.f_stamp.length v1 = true then some ((2 : Int32), (Q.mk p53.f_heap p53.f_lock p53.f_list p53.f_cursor p53.f_phase p53.f_opKind p53.f_opVal p53.f_resStatus p53.f_resVal p53.f_enlisted p53.f_reqKind p53.f_reqVal p53.f_ready p53.f_respStatus p53.f_respVal (wr p53.f_stamp v1 p53.f_pass) p53.f_n p53.f_cap p53.f_age p53.f_listLen p53.f_pass p53.f_heapSize p53.f_applied)) else none)) else none) else some ((1 : Int32), (Q.mk s.f_heap s.f_lock s.f_list s.f_cursor (wr s.f_phase v1 (2 : Int32)) s.f_opKind s.f_opVal s.f_resStatus s.f_resVal s.f_enlisted (wr s.f_reqKind v1 (rd s.f_opKind v1)) (wr s.f_reqVal v1 (rd s.f_opVal v1)) (wr s.f_ready v1 (0 : Int32)) s.f_respStatus s.f_respVal s.f_stamp s.f_n s.f_cap s.f_age s.f_listLen s.f_pass s.f_heapSize s.f_applied))) else none) else none) else none) else none) else none) else none) else none)
theorem ln_j_stepPublish {s : Q} {v1 : Int32} {res : Int32 × Q} (h : j_stepPublish s v1 = some res) : Q.len res.2 = Q.len s := by
  rw [j_stepPublish] at h
  obtain ⟨hb36, h⟩ := ite_some h
  obtain ⟨hb37, h⟩ := ite_some h
  obtain ⟨hb38, h⟩ := ite_some h
  obtain ⟨hb39, h⟩ := ite_some h
  obtain ⟨hb40, h⟩ := ite_some h
  obtain ⟨hb41, h⟩ := ite_some h
  obtain ⟨hb42, h⟩ := ite_some h
  by_cases hc43 : (rd s.f_enlisted v1) = (0 : Int32)
  · rw [if_pos hc43] at h
    obtain ⟨hb44, h⟩ := ite_some h
    obtain ⟨p53, hq54, h⟩ := bind_some h
    have hl55 := (ln_j_pushFront hq54).trans (Eq.trans (show Q.len (Q.mk s.f_heap s.f_lock s.f_list s.f_cursor (wr s.f_phase v1 (2 : Int32)) s.f_opKind s.f_opVal s.f_resStatus s.f_resVal (wr s.f_enlisted v1 (1 : Int32)) (wr s.f_reqKind v1 (rd s.f_opKind v1)) (wr s.f_reqVal v1 (rd s.f_opVal v1)) (wr s.f_ready v1 (0 : Int32)) s.f_respStatus s.f_respVal s.f_stamp s.f_n s.f_cap s.f_age s.f_listLen s.f_pass s.f_heapSize s.f_applied) = Q.len s from own_lenmk.trans (by first | (simp only [len_wr, len_wrL] <;> rfl) | rfl)) rfl)
    obtain ⟨hb56, h⟩ := ite_some h
    have hr0 := Option.some.inj h
    subst hr0
    show Q.len (Q.mk p53.f_heap p53.f_lock p53.f_list p53.f_cursor p53.f_phase p53.f_opKind p53.f_opVal p53.f_resStatus p53.f_resVal p53.f_enlisted p53.f_reqKind p53.f_reqVal p53.f_ready p53.f_respStatus p53.f_respVal (wr p53.f_stamp v1 p53.f_pass) p53.f_n p53.f_cap p53.f_age p53.f_listLen p53.f_pass p53.f_heapSize p53.f_applied) = _
    exact (Eq.trans (show Q.len (Q.mk p53.f_heap p53.f_lock p53.f_list p53.f_cursor p53.f_phase p53.f_opKind p53.f_opVal p53.f_resStatus p53.f_resVal p53.f_enlisted p53.f_reqKind p53.f_reqVal p53.f_ready p53.f_respStatus p53.f_respVal (wr p53.f_stamp v1 p53.f_pass) p53.f_n p53.f_cap p53.f_age p53.f_listLen p53.f_pass p53.f_heapSize p53.f_applied) = Q.len p53 from own_lenmk.trans (by first | (simp only [len_wr, len_wrL] <;> rfl) | rfl)) hl55)
  · rw [if_neg hc43] at h
    have hr0 := Option.some.inj h
    subst hr0
    show Q.len (Q.mk s.f_heap s.f_lock s.f_list s.f_cursor (wr s.f_phase v1 (2 : Int32)) s.f_opKind s.f_opVal s.f_resStatus s.f_resVal s.f_enlisted (wr s.f_reqKind v1 (rd s.f_opKind v1)) (wr s.f_reqVal v1 (rd s.f_opVal v1)) (wr s.f_ready v1 (0 : Int32)) s.f_respStatus s.f_respVal s.f_stamp s.f_n s.f_cap s.f_age s.f_listLen s.f_pass s.f_heapSize s.f_applied) = _
    exact (Eq.trans (show Q.len (Q.mk s.f_heap s.f_lock s.f_list s.f_cursor (wr s.f_phase v1 (2 : Int32)) s.f_opKind s.f_opVal s.f_resStatus s.f_resVal s.f_enlisted (wr s.f_reqKind v1 (rd s.f_opKind v1)) (wr s.f_reqVal v1 (rd s.f_opVal v1)) (wr s.f_ready v1 (0 : Int32)) s.f_respStatus s.f_respVal s.f_stamp s.f_n s.f_cap s.f_age s.f_listLen s.f_pass s.f_heapSize s.f_applied) = Q.len s from own_lenmk.trans (by first | (simp only [len_wr, len_wrL] <;> rfl) | rfl)) rfl)
set_option maxRecDepth 100000 in
theorem ev_j_stepPublish (R : AHeap) (s : Q) (v1 : Int32) {res : Int32 × Q} {out : Option Value × AHeap} (h : j_stepPublish s v1 = some res) (hk : out = (some (.int res.1), (W1 res.2 R))) : Eval own_P 8 0 [some (.ref 0), some (.int v1)] [] (W1 s R) out := by
  rw [j_stepPublish] at h
  refine Eval.aload_n rfl rfl ?_
  refine Eval.getfield rfl rfl own_g1_reqKind ?_
  refine Eval.iload_n rfl rfl ?_
  refine Eval.aload_n rfl rfl ?_
  refine Eval.getfield rfl rfl own_g1_opKind ?_
  refine Eval.iload_n rfl rfl ?_
  obtain ⟨hb36, h⟩ := ite_some h
  refine Eval.iaload rfl own_a1_opKind hb36 ?_
  obtain ⟨hb37, h⟩ := ite_some h
  refine Eval.iastore rfl rfl own_a1_reqKind hb37 own_s1_reqKind ?_
  refine Eval.aload_n rfl rfl ?_
  refine Eval.getfield rfl rfl own_g1_reqVal ?_
  refine Eval.iload_n rfl rfl ?_
  refine Eval.aload_n rfl rfl ?_
  refine Eval.getfield rfl rfl own_g1_opVal ?_
  refine Eval.iload_n rfl rfl ?_
  obtain ⟨hb38, h⟩ := ite_some h
  refine Eval.iaload rfl own_a1_opVal hb38 ?_
  obtain ⟨hb39, h⟩ := ite_some h
  refine Eval.iastore rfl rfl own_a1_reqVal hb39 own_s1_reqVal ?_
  refine Eval.aload_n rfl rfl ?_
  refine Eval.getfield rfl rfl own_g1_ready ?_
  refine Eval.iload_n rfl rfl ?_
  refine Eval.iconst (x := (0 : Int32)) rfl rfl ?_
  obtain ⟨hb40, h⟩ := ite_some h
  refine Eval.bastoreZ rfl rfl own_a1_ready hb40 own_s1_ready ?_
  refine Eval.aload_n rfl rfl ?_
  refine Eval.getfield rfl rfl own_g1_phase ?_
  refine Eval.iload_n rfl rfl ?_
  refine Eval.iconst (x := (2 : Int32)) rfl rfl ?_
  obtain ⟨hb41, h⟩ := ite_some h
  refine Eval.iastore rfl rfl own_a1_phase hb41 own_s1_phase ?_
  refine Eval.aload_n rfl rfl ?_
  refine Eval.getfield rfl rfl own_g1_enlisted ?_
  refine Eval.iload_n rfl rfl ?_
  obtain ⟨hb42, h⟩ := ite_some h
  refine Eval.baloadZ rfl own_a1_enlisted hb42 ?_
  by_cases hc43 : (rd s.f_enlisted v1) = (0 : Int32)
  · rw [if_pos hc43] at h
    refine Eval.ifF rfl (teq hc43).2 ?_
    refine Eval.aload_n rfl rfl ?_
    refine Eval.getfield rfl rfl own_g1_enlisted ?_
    refine Eval.iload_n rfl rfl ?_
    refine Eval.iconst (x := (1 : Int32)) rfl rfl ?_
    obtain ⟨hb44, h⟩ := ite_some h
    refine Eval.bastoreZ rfl rfl own_a1_enlisted hb44 own_s1_enlisted ?_
    refine Eval.aload_n rfl rfl ?_
    refine Eval.iload_n rfl rfl ?_
    obtain ⟨p53, hq54, h⟩ := bind_some h
    refine Eval.callN (rest := []) (H1 := (W1 p53 R)) rfl rfl (Eval.heap own_mk1 (ev_j_pushFront R (Q.mk s.f_heap s.f_lock s.f_list s.f_cursor (wr s.f_phase v1 (2 : Int32)) s.f_opKind s.f_opVal s.f_resStatus s.f_resVal (wr s.f_enlisted v1 (1 : Int32)) (wr s.f_reqKind v1 (rd s.f_opKind v1)) (wr s.f_reqVal v1 (rd s.f_opVal v1)) (wr s.f_ready v1 (0 : Int32)) s.f_respStatus s.f_respVal s.f_stamp s.f_n s.f_cap s.f_age s.f_listLen s.f_pass s.f_heapSize s.f_applied) v1 hq54 rfl)) ?_
    refine Eval.aload_n rfl rfl ?_
    refine Eval.getfield rfl rfl own_g1_stamp ?_
    refine Eval.iload_n rfl rfl ?_
    refine Eval.aload_n rfl rfl ?_
    refine Eval.getfield rfl rfl own_g1_pass ?_
    obtain ⟨hb56, h⟩ := ite_some h
    refine Eval.iastore rfl rfl own_a1_stamp hb56 own_s1_stamp ?_
    refine Eval.iconst (x := (2 : Int32)) rfl rfl ?_
    cases h
    subst hk
    exact Eval.retH own_mk1 rfl rfl
  · rw [if_neg hc43] at h
    refine Eval.ifT (t := 71) rfl rfl (feq hc43).2 ?_
    refine Eval.iconst (x := (1 : Int32)) rfl rfl ?_
    cases h
    subst hk
    exact Eval.retH own_mk1 rfl rfl
def j_stepTryLock_b31 (s : Q) (v1 : Int32) (w1 : Int32) : Option (Int32 × Q) := (if inb s.f_phase.length v1 = true then some ((3 : Int32), (Q.mk s.f_heap s.f_lock s.f_list w1 (wr s.f_phase v1 (4 : Int32)) s.f_opKind s.f_opVal s.f_resStatus s.f_resVal s.f_enlisted s.f_reqKind s.f_reqVal s.f_ready s.f_respStatus s.f_respVal s.f_stamp s.f_n s.f_cap s.f_age s.f_listLen s.f_pass s.f_heapSize s.f_applied)) else none)
theorem ln_j_stepTryLock_b31 {s : Q} {v1 : Int32} {w1 : Int32} {res : Int32 × Q} (h : j_stepTryLock_b31 s v1 w1 = some res) : Q.len res.2 = Q.len s := by
  rw [j_stepTryLock_b31] at h
  obtain ⟨hb65, h⟩ := ite_some h
  have hr0 := Option.some.inj h
  subst hr0
  show Q.len (Q.mk s.f_heap s.f_lock s.f_list w1 (wr s.f_phase v1 (4 : Int32)) s.f_opKind s.f_opVal s.f_resStatus s.f_resVal s.f_enlisted s.f_reqKind s.f_reqVal s.f_ready s.f_respStatus s.f_respVal s.f_stamp s.f_n s.f_cap s.f_age s.f_listLen s.f_pass s.f_heapSize s.f_applied) = _
  exact (Eq.trans (show Q.len (Q.mk s.f_heap s.f_lock s.f_list w1 (wr s.f_phase v1 (4 : Int32)) s.f_opKind s.f_opVal s.f_resStatus s.f_resVal s.f_enlisted s.f_reqKind s.f_reqVal s.f_ready s.f_respStatus s.f_respVal s.f_stamp s.f_n s.f_cap s.f_age s.f_listLen s.f_pass s.f_heapSize s.f_applied) = Q.len s from own_lenmk.trans (by first | (simp only [len_wr, len_wrL] <;> rfl) | rfl)) rfl)
set_option maxRecDepth 100000 in
theorem ev_j_stepTryLock_b31 (R : AHeap) (s : Q) (v1 : Int32) (w1 : Int32) {res : Int32 × Q} {out : Option Value × AHeap} (h : j_stepTryLock_b31 s v1 w1 = some res) (hk : out = (some (.int res.1), (W1 res.2 R))) : Eval own_P 10 31 [some (.ref 0), some (.int v1)] [.int w1, .ref 0] (W1 s R) out := by
  rw [j_stepTryLock_b31] at h
  refine Eval.putfield rfl rfl own_p1_cursor ?_
  refine Eval.aload_n rfl rfl ?_
  refine Eval.getfield rfl rfl own_g1_phase ?_
  refine Eval.iload_n rfl rfl ?_
  refine Eval.iconst (x := (4 : Int32)) rfl rfl ?_
  obtain ⟨hb65, h⟩ := ite_some h
  refine Eval.iastore rfl rfl own_a1_phase hb65 own_s1_phase ?_
  refine Eval.iconst (x := (3 : Int32)) rfl rfl ?_
  cases h
  subst hk
  exact Eval.retH own_mk1 rfl rfl
def j_stepTryLock (s : Q) (v1 : Int32) : Option (Int32 × Q) := (if s.f_lock = (-1 : Int32) then (if (0 : Int32) < s.f_listLen then (if inb s.f_list.length (0 : Int32) = true then (j_stepTryLock_b31 (Q.mk s.f_heap v1 s.f_list s.f_cursor s.f_phase s.f_opKind s.f_opVal s.f_resStatus s.f_resVal s.f_enlisted s.f_reqKind s.f_reqVal s.f_ready s.f_respStatus s.f_respVal s.f_stamp s.f_n s.f_cap s.f_age s.f_listLen s.f_pass s.f_heapSize s.f_applied) v1 (rd s.f_list (0 : Int32))) else none) else (j_stepTryLock_b31 (Q.mk s.f_heap v1 s.f_list s.f_cursor s.f_phase s.f_opKind s.f_opVal s.f_resStatus s.f_resVal s.f_enlisted s.f_reqKind s.f_reqVal s.f_ready s.f_respStatus s.f_respVal s.f_stamp s.f_n s.f_cap s.f_age s.f_listLen s.f_pass s.f_heapSize s.f_applied) v1 (-1 : Int32))) else (if inb s.f_phase.length v1 = true then some ((4 : Int32), (Q.mk s.f_heap s.f_lock s.f_list s.f_cursor (wr s.f_phase v1 (3 : Int32)) s.f_opKind s.f_opVal s.f_resStatus s.f_resVal s.f_enlisted s.f_reqKind s.f_reqVal s.f_ready s.f_respStatus s.f_respVal s.f_stamp s.f_n s.f_cap s.f_age s.f_listLen s.f_pass s.f_heapSize s.f_applied)) else none))
theorem ln_j_stepTryLock {s : Q} {v1 : Int32} {res : Int32 × Q} (h : j_stepTryLock s v1 = some res) : Q.len res.2 = Q.len s := by
  rw [j_stepTryLock] at h
  by_cases hc61 : s.f_lock = (-1 : Int32)
  · rw [if_pos hc61] at h
    by_cases hc63 : (0 : Int32) < s.f_listLen
    · rw [if_pos hc63] at h
      obtain ⟨hb64, h⟩ := ite_some h
      exact Eq.trans (ln_j_stepTryLock_b31 h) (Eq.trans (show Q.len (Q.mk s.f_heap v1 s.f_list s.f_cursor s.f_phase s.f_opKind s.f_opVal s.f_resStatus s.f_resVal s.f_enlisted s.f_reqKind s.f_reqVal s.f_ready s.f_respStatus s.f_respVal s.f_stamp s.f_n s.f_cap s.f_age s.f_listLen s.f_pass s.f_heapSize s.f_applied) = Q.len s from own_lenmk.trans (by first | (simp only [len_wr, len_wrL] <;> rfl) | rfl)) rfl)
    · rw [if_neg hc63] at h
      exact Eq.trans (ln_j_stepTryLock_b31 h) (Eq.trans (show Q.len (Q.mk s.f_heap v1 s.f_list s.f_cursor s.f_phase s.f_opKind s.f_opVal s.f_resStatus s.f_resVal s.f_enlisted s.f_reqKind s.f_reqVal s.f_ready s.f_respStatus s.f_respVal s.f_stamp s.f_n s.f_cap s.f_age s.f_listLen s.f_pass s.f_heapSize s.f_applied) = Q.len s from own_lenmk.trans (by first | (simp only [len_wr, len_wrL] <;> rfl) | rfl)) rfl)
  · rw [if_neg hc61] at h
    obtain ⟨hb66, h⟩ := ite_some h
    have hr0 := Option.some.inj h
    subst hr0
    show Q.len (Q.mk s.f_heap s.f_lock s.f_list s.f_cursor (wr s.f_phase v1 (3 : Int32)) s.f_opKind s.f_opVal s.f_resStatus s.f_resVal s.f_enlisted s.f_reqKind s.f_reqVal s.f_ready s.f_respStatus s.f_respVal s.f_stamp s.f_n s.f_cap s.f_age s.f_listLen s.f_pass s.f_heapSize s.f_applied) = _
    exact (Eq.trans (show Q.len (Q.mk s.f_heap s.f_lock s.f_list s.f_cursor (wr s.f_phase v1 (3 : Int32)) s.f_opKind s.f_opVal s.f_resStatus s.f_resVal s.f_enlisted s.f_reqKind s.f_reqVal s.f_ready s.f_respStatus s.f_respVal s.f_stamp s.f_n s.f_cap s.f_age s.f_listLen s.f_pass s.f_heapSize s.f_applied) = Q.len s from own_lenmk.trans (by first | (simp only [len_wr, len_wrL] <;> rfl) | rfl)) rfl)
set_option maxRecDepth 100000 in
theorem ev_j_stepTryLock (R : AHeap) (s : Q) (v1 : Int32) {res : Int32 × Q} {out : Option Value × AHeap} (h : j_stepTryLock s v1 = some res) (hk : out = (some (.int res.1), (W1 res.2 R))) : Eval own_P 10 0 [some (.ref 0), some (.int v1)] [] (W1 s R) out := by
  rw [j_stepTryLock] at h
  refine Eval.aload_n rfl rfl ?_
  refine Eval.getfield rfl rfl own_g1_lock ?_
  refine Eval.iconst (x := (-1 : Int32)) rfl rfl ?_
  by_cases hc61 : s.f_lock = (-1 : Int32)
  · rw [if_pos hc61] at h
    refine Eval.icmpF rfl (teq hc61).2 ?_
    refine Eval.aload_n rfl rfl ?_
    refine Eval.iload_n rfl rfl ?_
    refine Eval.putfield rfl rfl own_p1_lock ?_
    refine Eval.aload_n rfl rfl ?_
    refine Eval.aload_n rfl rfl ?_
    refine Eval.getfield rfl rfl own_g1_listLen ?_
    by_cases hc63 : (0 : Int32) < s.f_listLen
    · rw [if_pos hc63] at h
      refine Eval.ifF rfl (tlt hc63).2.2.2 ?_
      refine Eval.aload_n rfl rfl ?_
      refine Eval.getfield rfl rfl own_g1_list ?_
      refine Eval.iconst (x := (0 : Int32)) rfl rfl ?_
      obtain ⟨hb64, h⟩ := ite_some h
      refine Eval.iaload rfl own_a1_list hb64 ?_
      refine Eval.goto (t := 31) rfl rfl ?_
      refine Eval.heap own_mk1 ?_
      exact ev_j_stepTryLock_b31 R (Q.mk s.f_heap v1 s.f_list s.f_cursor s.f_phase s.f_opKind s.f_opVal s.f_resStatus s.f_resVal s.f_enlisted s.f_reqKind s.f_reqVal s.f_ready s.f_respStatus s.f_respVal s.f_stamp s.f_n s.f_cap s.f_age s.f_listLen s.f_pass s.f_heapSize s.f_applied) v1 (rd s.f_list (0 : Int32)) h hk
    · rw [if_neg hc63] at h
      refine Eval.ifT (t := 30) rfl rfl (flt hc63).2.2.2 ?_
      refine Eval.iconst (x := (-1 : Int32)) rfl rfl ?_
      refine Eval.heap own_mk1 ?_
      exact ev_j_stepTryLock_b31 R (Q.mk s.f_heap v1 s.f_list s.f_cursor s.f_phase s.f_opKind s.f_opVal s.f_resStatus s.f_resVal s.f_enlisted s.f_reqKind s.f_reqVal s.f_ready s.f_respStatus s.f_respVal s.f_stamp s.f_n s.f_cap s.f_age s.f_listLen s.f_pass s.f_heapSize s.f_applied) v1 (-1 : Int32) h hk
  · rw [if_neg hc61] at h
    refine Eval.icmpT (t := 43) rfl rfl (feq hc61).2 ?_
    refine Eval.aload_n rfl rfl ?_
    refine Eval.getfield rfl rfl own_g1_phase ?_
    refine Eval.iload_n rfl rfl ?_
    refine Eval.iconst (x := (3 : Int32)) rfl rfl ?_
    obtain ⟨hb66, h⟩ := ite_some h
    refine Eval.iastore rfl rfl own_a1_phase hb66 own_s1_phase ?_
    refine Eval.iconst (x := (4 : Int32)) rfl rfl ?_
    cases h
    subst hk
    exact Eval.retH own_mk1 rfl rfl
def j_take (s : Q) (v1 : Int32) : Option (Q) := (if inb s.f_respStatus.length v1 = true then (if inb s.f_resStatus.length v1 = true then (if inb s.f_respVal.length v1 = true then (if inb s.f_resVal.length v1 = true then (if inb s.f_ready.length v1 = true then some ((Q.mk s.f_heap s.f_lock s.f_list s.f_cursor s.f_phase s.f_opKind s.f_opVal (wr s.f_resStatus v1 (rd s.f_respStatus v1)) (wr s.f_resVal v1 (rd s.f_respVal v1)) s.f_enlisted s.f_reqKind s.f_reqVal (wr s.f_ready v1 (0 : Int32)) s.f_respStatus s.f_respVal s.f_stamp s.f_n s.f_cap s.f_age s.f_listLen s.f_pass s.f_heapSize s.f_applied)) else none) else none) else none) else none) else none)
theorem ln_j_take {s : Q} {v1 : Int32} {res : Q} (h : j_take s v1 = some res) : Q.len res = Q.len s := by
  rw [j_take] at h
  obtain ⟨hb75, h⟩ := ite_some h
  obtain ⟨hb76, h⟩ := ite_some h
  obtain ⟨hb77, h⟩ := ite_some h
  obtain ⟨hb78, h⟩ := ite_some h
  obtain ⟨hb79, h⟩ := ite_some h
  have hr0 := Option.some.inj h
  subst hr0
  show Q.len (Q.mk s.f_heap s.f_lock s.f_list s.f_cursor s.f_phase s.f_opKind s.f_opVal (wr s.f_resStatus v1 (rd s.f_respStatus v1)) (wr s.f_resVal v1 (rd s.f_respVal v1)) s.f_enlisted s.f_reqKind s.f_reqVal (wr s.f_ready v1 (0 : Int32)) s.f_respStatus s.f_respVal s.f_stamp s.f_n s.f_cap s.f_age s.f_listLen s.f_pass s.f_heapSize s.f_applied) = _
  exact (Eq.trans (show Q.len (Q.mk s.f_heap s.f_lock s.f_list s.f_cursor s.f_phase s.f_opKind s.f_opVal (wr s.f_resStatus v1 (rd s.f_respStatus v1)) (wr s.f_resVal v1 (rd s.f_respVal v1)) s.f_enlisted s.f_reqKind s.f_reqVal (wr s.f_ready v1 (0 : Int32)) s.f_respStatus s.f_respVal s.f_stamp s.f_n s.f_cap s.f_age s.f_listLen s.f_pass s.f_heapSize s.f_applied) = Q.len s from own_lenmk.trans (by first | (simp only [len_wr, len_wrL] <;> rfl) | rfl)) rfl)
set_option maxRecDepth 100000 in
theorem ev_j_take (R : AHeap) (s : Q) (v1 : Int32) {res : Q} {out : Option Value × AHeap} (h : j_take s v1 = some res) (hk : out = (none, (W1 res R))) : Eval own_P 17 0 [some (.ref 0), some (.int v1)] [] (W1 s R) out := by
  rw [j_take] at h
  refine Eval.aload_n rfl rfl ?_
  refine Eval.getfield rfl rfl own_g1_resStatus ?_
  refine Eval.iload_n rfl rfl ?_
  refine Eval.aload_n rfl rfl ?_
  refine Eval.getfield rfl rfl own_g1_respStatus ?_
  refine Eval.iload_n rfl rfl ?_
  obtain ⟨hb75, h⟩ := ite_some h
  refine Eval.iaload rfl own_a1_respStatus hb75 ?_
  obtain ⟨hb76, h⟩ := ite_some h
  refine Eval.iastore rfl rfl own_a1_resStatus hb76 own_s1_resStatus ?_
  refine Eval.aload_n rfl rfl ?_
  refine Eval.getfield rfl rfl own_g1_resVal ?_
  refine Eval.iload_n rfl rfl ?_
  refine Eval.aload_n rfl rfl ?_
  refine Eval.getfield rfl rfl own_g1_respVal ?_
  refine Eval.iload_n rfl rfl ?_
  obtain ⟨hb77, h⟩ := ite_some h
  refine Eval.iaload rfl own_a1_respVal hb77 ?_
  obtain ⟨hb78, h⟩ := ite_some h
  refine Eval.iastore rfl rfl own_a1_resVal hb78 own_s1_resVal ?_
  refine Eval.aload_n rfl rfl ?_
  refine Eval.getfield rfl rfl own_g1_ready ?_
  refine Eval.iload_n rfl rfl ?_
  refine Eval.iconst (x := (0 : Int32)) rfl rfl ?_
  obtain ⟨hb79, h⟩ := ite_some h
  refine Eval.bastoreZ rfl rfl own_a1_ready hb79 own_s1_ready ?_
  cases h
  subst hk
  exact Eval.retH own_mk1 rfl rfl
def j_stepSpin (s : Q) (v1 : Int32) : Option (Int32 × Q) := (if inb s.f_ready.length v1 = true then (if (rd s.f_ready v1) = (0 : Int32) then (if s.f_lock = (-1 : Int32) then (if inb s.f_phase.length v1 = true then some ((6 : Int32), (Q.mk s.f_heap s.f_lock s.f_list s.f_cursor (wr s.f_phase v1 (2 : Int32)) s.f_opKind s.f_opVal s.f_resStatus s.f_resVal s.f_enlisted s.f_reqKind s.f_reqVal s.f_ready s.f_respStatus s.f_respVal s.f_stamp s.f_n s.f_cap s.f_age s.f_listLen s.f_pass s.f_heapSize s.f_applied)) else none) else some ((7 : Int32), s)) else ((j_take s v1).bind fun p80 => (if inb p80.f_phase.length v1 = true then some ((5 : Int32), (Q.mk p80.f_heap p80.f_lock p80.f_list p80.f_cursor (wr p80.f_phase v1 (0 : Int32)) p80.f_opKind p80.f_opVal p80.f_resStatus p80.f_resVal p80.f_enlisted p80.f_reqKind p80.f_reqVal p80.f_ready p80.f_respStatus p80.f_respVal p80.f_stamp p80.f_n p80.f_cap p80.f_age p80.f_listLen p80.f_pass p80.f_heapSize p80.f_applied)) else none))) else none)
theorem ln_j_stepSpin {s : Q} {v1 : Int32} {res : Int32 × Q} (h : j_stepSpin s v1 = some res) : Q.len res.2 = Q.len s := by
  rw [j_stepSpin] at h
  obtain ⟨hb71, h⟩ := ite_some h
  by_cases hc72 : (rd s.f_ready v1) = (0 : Int32)
  · rw [if_pos hc72] at h
    by_cases hc73 : s.f_lock = (-1 : Int32)
    · rw [if_pos hc73] at h
      obtain ⟨hb74, h⟩ := ite_some h
      have hr0 := Option.some.inj h
      subst hr0
      show Q.len (Q.mk s.f_heap s.f_lock s.f_list s.f_cursor (wr s.f_phase v1 (2 : Int32)) s.f_opKind s.f_opVal s.f_resStatus s.f_resVal s.f_enlisted s.f_reqKind s.f_reqVal s.f_ready s.f_respStatus s.f_respVal s.f_stamp s.f_n s.f_cap s.f_age s.f_listLen s.f_pass s.f_heapSize s.f_applied) = _
      exact (Eq.trans (show Q.len (Q.mk s.f_heap s.f_lock s.f_list s.f_cursor (wr s.f_phase v1 (2 : Int32)) s.f_opKind s.f_opVal s.f_resStatus s.f_resVal s.f_enlisted s.f_reqKind s.f_reqVal s.f_ready s.f_respStatus s.f_respVal s.f_stamp s.f_n s.f_cap s.f_age s.f_listLen s.f_pass s.f_heapSize s.f_applied) = Q.len s from own_lenmk.trans (by first | (simp only [len_wr, len_wrL] <;> rfl) | rfl)) rfl)
    · rw [if_neg hc73] at h
      have hr0 := Option.some.inj h
      subst hr0
      show Q.len s = _
      exact rfl
  · rw [if_neg hc72] at h
    obtain ⟨p80, hq81, h⟩ := bind_some h
    have hl82 := (ln_j_take hq81).trans rfl
    obtain ⟨hb83, h⟩ := ite_some h
    have hr0 := Option.some.inj h
    subst hr0
    show Q.len (Q.mk p80.f_heap p80.f_lock p80.f_list p80.f_cursor (wr p80.f_phase v1 (0 : Int32)) p80.f_opKind p80.f_opVal p80.f_resStatus p80.f_resVal p80.f_enlisted p80.f_reqKind p80.f_reqVal p80.f_ready p80.f_respStatus p80.f_respVal p80.f_stamp p80.f_n p80.f_cap p80.f_age p80.f_listLen p80.f_pass p80.f_heapSize p80.f_applied) = _
    exact (Eq.trans (show Q.len (Q.mk p80.f_heap p80.f_lock p80.f_list p80.f_cursor (wr p80.f_phase v1 (0 : Int32)) p80.f_opKind p80.f_opVal p80.f_resStatus p80.f_resVal p80.f_enlisted p80.f_reqKind p80.f_reqVal p80.f_ready p80.f_respStatus p80.f_respVal p80.f_stamp p80.f_n p80.f_cap p80.f_age p80.f_listLen p80.f_pass p80.f_heapSize p80.f_applied) = Q.len p80 from own_lenmk.trans (by first | (simp only [len_wr, len_wrL] <;> rfl) | rfl)) hl82)
set_option maxRecDepth 100000 in
theorem ev_j_stepSpin (R : AHeap) (s : Q) (v1 : Int32) {res : Int32 × Q} {out : Option Value × AHeap} (h : j_stepSpin s v1 = some res) (hk : out = (some (.int res.1), (W1 res.2 R))) : Eval own_P 16 0 [some (.ref 0), some (.int v1)] [] (W1 s R) out := by
  rw [j_stepSpin] at h
  refine Eval.aload_n rfl rfl ?_
  refine Eval.getfield rfl rfl own_g1_ready ?_
  refine Eval.iload_n rfl rfl ?_
  obtain ⟨hb71, h⟩ := ite_some h
  refine Eval.baloadZ rfl own_a1_ready hb71 ?_
  by_cases hc72 : (rd s.f_ready v1) = (0 : Int32)
  · rw [if_pos hc72] at h
    refine Eval.ifT (t := 23) rfl rfl (teq hc72).1 ?_
    refine Eval.aload_n rfl rfl ?_
    refine Eval.getfield rfl rfl own_g1_lock ?_
    refine Eval.iconst (x := (-1 : Int32)) rfl rfl ?_
    by_cases hc73 : s.f_lock = (-1 : Int32)
    · rw [if_pos hc73] at h
      refine Eval.icmpF rfl (teq hc73).2 ?_
      refine Eval.aload_n rfl rfl ?_
      refine Eval.getfield rfl rfl own_g1_phase ?_
      refine Eval.iload_n rfl rfl ?_
      refine Eval.iconst (x := (2 : Int32)) rfl rfl ?_
      obtain ⟨hb74, h⟩ := ite_some h
      refine Eval.iastore rfl rfl own_a1_phase hb74 own_s1_phase ?_
      refine Eval.bipush (x := (6 : Int32)) rfl rfl ?_
      cases h
      subst hk
      exact Eval.retH own_mk1 rfl rfl
    · rw [if_neg hc73] at h
      refine Eval.icmpT (t := 41) rfl rfl (feq hc73).2 ?_
      refine Eval.bipush (x := (7 : Int32)) rfl rfl ?_
      cases h
      subst hk
      exact Eval.ret rfl rfl
  · rw [if_neg hc72] at h
    refine Eval.ifF rfl (feq hc72).1 ?_
    refine Eval.aload_n rfl rfl ?_
    refine Eval.iload_n rfl rfl ?_
    obtain ⟨p80, hq81, h⟩ := bind_some h
    refine Eval.callN (rest := []) (H1 := (W1 p80 R)) rfl rfl (ev_j_take R s v1 hq81 rfl) ?_
    refine Eval.aload_n rfl rfl ?_
    refine Eval.getfield rfl rfl own_g1_phase ?_
    refine Eval.iload_n rfl rfl ?_
    refine Eval.iconst (x := (0 : Int32)) rfl rfl ?_
    obtain ⟨hb83, h⟩ := ite_some h
    refine Eval.iastore rfl rfl own_a1_phase hb83 own_s1_phase ?_
    refine Eval.iconst (x := (5 : Int32)) rfl rfl ?_
    cases h
    subst hk
    exact Eval.retH own_mk1 rfl rfl
def j_endPass (s : Q) (v1 : Int32) : Option (Int32 × Q) := (if inb s.f_ready.length v1 = true then (if (rd s.f_ready v1) = (0 : Int32) then (if inb s.f_phase.length v1 = true then some ((11 : Int32), (Q.mk s.f_heap (-1 : Int32) s.f_list (-1 : Int32) (wr s.f_phase v1 (3 : Int32)) s.f_opKind s.f_opVal s.f_resStatus s.f_resVal s.f_enlisted s.f_reqKind s.f_reqVal s.f_ready s.f_respStatus s.f_respVal s.f_stamp s.f_n s.f_cap s.f_age s.f_listLen (s.f_pass + (1 : Int32)) s.f_heapSize s.f_applied)) else none) else ((j_take (Q.mk s.f_heap (-1 : Int32) s.f_list (-1 : Int32) s.f_phase s.f_opKind s.f_opVal s.f_resStatus s.f_resVal s.f_enlisted s.f_reqKind s.f_reqVal s.f_ready s.f_respStatus s.f_respVal s.f_stamp s.f_n s.f_cap s.f_age s.f_listLen (s.f_pass + (1 : Int32)) s.f_heapSize s.f_applied) v1).bind fun p91 => (if inb p91.f_phase.length v1 = true then some ((11 : Int32), (Q.mk p91.f_heap p91.f_lock p91.f_list p91.f_cursor (wr p91.f_phase v1 (0 : Int32)) p91.f_opKind p91.f_opVal p91.f_resStatus p91.f_resVal p91.f_enlisted p91.f_reqKind p91.f_reqVal p91.f_ready p91.f_respStatus p91.f_respVal p91.f_stamp p91.f_n p91.f_cap p91.f_age p91.f_listLen p91.f_pass p91.f_heapSize p91.f_applied)) else none))) else none)
theorem ln_j_endPass {s : Q} {v1 : Int32} {res : Int32 × Q} (h : j_endPass s v1 = some res) : Q.len res.2 = Q.len s := by
  rw [j_endPass] at h
  obtain ⟨hb88, h⟩ := ite_some h
  by_cases hc89 : (rd s.f_ready v1) = (0 : Int32)
  · rw [if_pos hc89] at h
    obtain ⟨hb90, h⟩ := ite_some h
    have hr0 := Option.some.inj h
    subst hr0
    show Q.len (Q.mk s.f_heap (-1 : Int32) s.f_list (-1 : Int32) (wr s.f_phase v1 (3 : Int32)) s.f_opKind s.f_opVal s.f_resStatus s.f_resVal s.f_enlisted s.f_reqKind s.f_reqVal s.f_ready s.f_respStatus s.f_respVal s.f_stamp s.f_n s.f_cap s.f_age s.f_listLen (s.f_pass + (1 : Int32)) s.f_heapSize s.f_applied) = _
    exact (Eq.trans (show Q.len (Q.mk s.f_heap (-1 : Int32) s.f_list (-1 : Int32) (wr s.f_phase v1 (3 : Int32)) s.f_opKind s.f_opVal s.f_resStatus s.f_resVal s.f_enlisted s.f_reqKind s.f_reqVal s.f_ready s.f_respStatus s.f_respVal s.f_stamp s.f_n s.f_cap s.f_age s.f_listLen (s.f_pass + (1 : Int32)) s.f_heapSize s.f_applied) = Q.len s from own_lenmk.trans (by first | (simp only [len_wr, len_wrL] <;> rfl) | rfl)) rfl)
  · rw [if_neg hc89] at h
    obtain ⟨p91, hq92, h⟩ := bind_some h
    have hl93 := (ln_j_take hq92).trans (Eq.trans (show Q.len (Q.mk s.f_heap (-1 : Int32) s.f_list (-1 : Int32) s.f_phase s.f_opKind s.f_opVal s.f_resStatus s.f_resVal s.f_enlisted s.f_reqKind s.f_reqVal s.f_ready s.f_respStatus s.f_respVal s.f_stamp s.f_n s.f_cap s.f_age s.f_listLen (s.f_pass + (1 : Int32)) s.f_heapSize s.f_applied) = Q.len s from own_lenmk.trans (by first | (simp only [len_wr, len_wrL] <;> rfl) | rfl)) rfl)
    obtain ⟨hb94, h⟩ := ite_some h
    have hr0 := Option.some.inj h
    subst hr0
    show Q.len (Q.mk p91.f_heap p91.f_lock p91.f_list p91.f_cursor (wr p91.f_phase v1 (0 : Int32)) p91.f_opKind p91.f_opVal p91.f_resStatus p91.f_resVal p91.f_enlisted p91.f_reqKind p91.f_reqVal p91.f_ready p91.f_respStatus p91.f_respVal p91.f_stamp p91.f_n p91.f_cap p91.f_age p91.f_listLen p91.f_pass p91.f_heapSize p91.f_applied) = _
    exact (Eq.trans (show Q.len (Q.mk p91.f_heap p91.f_lock p91.f_list p91.f_cursor (wr p91.f_phase v1 (0 : Int32)) p91.f_opKind p91.f_opVal p91.f_resStatus p91.f_resVal p91.f_enlisted p91.f_reqKind p91.f_reqVal p91.f_ready p91.f_respStatus p91.f_respVal p91.f_stamp p91.f_n p91.f_cap p91.f_age p91.f_listLen p91.f_pass p91.f_heapSize p91.f_applied) = Q.len p91 from own_lenmk.trans (by first | (simp only [len_wr, len_wrL] <;> rfl) | rfl)) hl93)
set_option maxRecDepth 100000 in
theorem ev_j_endPass (R : AHeap) (s : Q) (v1 : Int32) {res : Int32 × Q} {out : Option Value × AHeap} (h : j_endPass s v1 = some res) (hk : out = (some (.int res.1), (W1 res.2 R))) : Eval own_P 18 0 [some (.ref 0), some (.int v1)] [] (W1 s R) out := by
  rw [j_endPass] at h
  refine Eval.aload_n rfl rfl ?_
  refine Eval.aload_n rfl rfl ?_
  refine Eval.getfield rfl rfl own_g1_pass ?_
  refine Eval.iconst (x := (1 : Int32)) rfl rfl ?_
  refine Eval.iadd rfl ?_
  refine Eval.putfield rfl rfl own_p1_pass ?_
  refine Eval.aload_n rfl rfl ?_
  refine Eval.iconst (x := (-1 : Int32)) rfl rfl ?_
  refine Eval.putfield rfl rfl own_p1_lock ?_
  refine Eval.aload_n rfl rfl ?_
  refine Eval.iconst (x := (-1 : Int32)) rfl rfl ?_
  refine Eval.putfield rfl rfl own_p1_cursor ?_
  refine Eval.aload_n rfl rfl ?_
  refine Eval.getfield rfl rfl own_g1_ready ?_
  refine Eval.iload_n rfl rfl ?_
  obtain ⟨hb88, h⟩ := ite_some h
  refine Eval.baloadZ rfl own_a1_ready hb88 ?_
  by_cases hc89 : (rd s.f_ready v1) = (0 : Int32)
  · rw [if_pos hc89] at h
    refine Eval.ifT (t := 44) rfl rfl (teq hc89).1 ?_
    refine Eval.aload_n rfl rfl ?_
    refine Eval.getfield rfl rfl own_g1_phase ?_
    refine Eval.iload_n rfl rfl ?_
    refine Eval.iconst (x := (3 : Int32)) rfl rfl ?_
    obtain ⟨hb90, h⟩ := ite_some h
    refine Eval.iastore rfl rfl own_a1_phase hb90 own_s1_phase ?_
    refine Eval.bipush (x := (11 : Int32)) rfl rfl ?_
    cases h
    subst hk
    exact Eval.retH own_mk1 rfl rfl
  · rw [if_neg hc89] at h
    refine Eval.ifF rfl (feq hc89).1 ?_
    refine Eval.aload_n rfl rfl ?_
    refine Eval.iload_n rfl rfl ?_
    obtain ⟨p91, hq92, h⟩ := bind_some h
    refine Eval.callN (rest := []) (H1 := (W1 p91 R)) rfl rfl (Eval.heap own_mk1 (ev_j_take R (Q.mk s.f_heap (-1 : Int32) s.f_list (-1 : Int32) s.f_phase s.f_opKind s.f_opVal s.f_resStatus s.f_resVal s.f_enlisted s.f_reqKind s.f_reqVal s.f_ready s.f_respStatus s.f_respVal s.f_stamp s.f_n s.f_cap s.f_age s.f_listLen (s.f_pass + (1 : Int32)) s.f_heapSize s.f_applied) v1 hq92 rfl)) ?_
    refine Eval.aload_n rfl rfl ?_
    refine Eval.getfield rfl rfl own_g1_phase ?_
    refine Eval.iload_n rfl rfl ?_
    refine Eval.iconst (x := (0 : Int32)) rfl rfl ?_
    obtain ⟨hb94, h⟩ := ite_some h
    refine Eval.iastore rfl rfl own_a1_phase hb94 own_s1_phase ?_
    refine Eval.goto (t := 51) rfl rfl ?_
    refine Eval.bipush (x := (11 : Int32)) rfl rfl ?_
    cases h
    subst hk
    exact Eval.retH own_mk1 rfl rfl
abbrev j_indexOf_l2_K (R : AHeap) (s : Q) (res : (Int32) ⊕ (Unit)) (out : Option Value × AHeap) : Prop := Sum.elim (fun res => Eval own_P 12 20 [none, none, some (.int res)] [] (W1 s R) out) (fun res => Eval own_P 12 28 [none, none, none] [] (W1 s R) out) res

def j_indexOf_l2 : Nat → Q → Int32 → Int32 → Option ((Int32) ⊕ (Unit))
  | 0, _, _, _ => none
  | n + 1, s, v1, v2 => (if v2 < s.f_listLen then (if inb s.f_list.length v2 = true then (if (rd s.f_list v2) = v1 then some (.inl (v2)) else (j_indexOf_l2 n s v1 (v2 + (1 : Int32)))) else none) else some (.inr ()))
set_option maxRecDepth 100000 in
theorem ev_j_indexOf_l2 (R : AHeap) : ∀ (n : Nat) (s : Q) (v1 : Int32) (v2 : Int32) {res : (Int32) ⊕ (Unit)} {out : Option Value × AHeap}, j_indexOf_l2 n s v1 v2 = some res → j_indexOf_l2_K R s res out → Eval own_P 12 2 [some (.ref 0), some (.int v1), some (.int v2)] [] (W1 s R) out := by
  intro n
  induction n with
  | zero => intro _ _ _ res out h hk; cases h
  | succ n hrec =>
    intro s v1 v2 res out h hk
    rw [j_indexOf_l2] at h
    refine Eval.iload_n rfl rfl ?_
    refine Eval.aload_n rfl rfl ?_
    refine Eval.getfield rfl rfl own_g1_listLen ?_
    by_cases hc98 : v2 < s.f_listLen
    · rw [if_pos hc98] at h
      refine Eval.icmpF rfl (tlt hc98).2.1 ?_
      refine Eval.aload_n rfl rfl ?_
      refine Eval.getfield rfl rfl own_g1_list ?_
      refine Eval.iload_n rfl rfl ?_
      obtain ⟨hb99, h⟩ := ite_some h
      refine Eval.iaload rfl own_a1_list hb99 ?_
      refine Eval.iload_n rfl rfl ?_
      by_cases hc100 : (rd s.f_list v2) = v1
      · rw [if_pos hc100] at h
        refine Eval.icmpF rfl (teq hc100).2 ?_
        cases h
        refine Eval.weak (L' := [none, none, some (.int v2)]) ⟨_, _, rfl, Or.inl rfl, _, _, rfl, Or.inl rfl, _, _, rfl, Or.inr rfl, rfl⟩ ?_
        exact hk
      · rw [if_neg hc100] at h
        refine Eval.icmpT (t := 22) rfl rfl (feq hc100).2 ?_
        refine Eval.iinc (L' := [some (.ref 0), some (.int v1), some (.int (v2 + (1 : Int32)))]) rfl rfl rfl ?_
        refine Eval.goto (t := 2) rfl rfl ?_
        exact hrec _ _ _ h hk
    · rw [if_neg hc98] at h
      refine Eval.icmpT (t := 28) rfl rfl (flt hc98).2.1 ?_
      cases h
      refine Eval.weak (L' := [none, none, none]) ⟨_, _, rfl, Or.inl rfl, _, _, rfl, Or.inl rfl, _, _, rfl, Or.inl rfl, rfl⟩ ?_
      exact hk
def j_indexOf (s : Q) (v1 : Int32) : Option (Int32) := ((j_indexOf_l2 3000 s v1 (0 : Int32)).bind fun p101 => Sum.elim (fun p103 => some (p103)) (fun p104 => some ((-1 : Int32))) p101)
set_option maxRecDepth 100000 in
theorem ev_j_indexOf (R : AHeap) (s : Q) (v1 : Int32) {res : Int32} {out : Option Value × AHeap} (h : j_indexOf s v1 = some res) (hk : out = (some (.int res), (W1 s R))) : Eval own_P 12 0 [some (.ref 0), some (.int v1), none] [] (W1 s R) out := by
  rw [j_indexOf] at h
  refine Eval.iconst (x := (0 : Int32)) rfl rfl ?_
  refine Eval.istore_n (L' := [some (.ref 0), some (.int v1), some (.int (0 : Int32))]) rfl rfl ?_
  obtain ⟨p101, hq102, h⟩ := bind_some h
  rcases p101 with p103 | p104
  · dsimp only [Sum.elim] at h
    refine ev_j_indexOf_l2 R _ s v1 (0 : Int32) hq102 ?_
    show Eval own_P 12 20 [none, none, some (.int p103)] [] (W1 s R) out
    refine Eval.iload_n rfl rfl ?_
    cases h
    subst hk
    exact Eval.ret rfl rfl
  · dsimp only [Sum.elim] at h
    refine ev_j_indexOf_l2 R _ s v1 (0 : Int32) hq102 ?_
    show Eval own_P 12 28 [none, none, none] [] (W1 s R) out
    refine Eval.iconst (x := (-1 : Int32)) rfl rfl ?_
    cases h
    subst hk
    exact Eval.ret rfl rfl
def j_stepCombine_b121 (s : Q) (v4 : Int32) (v5 : Int32) : Option (Int32 × Q) := some (v5, (Q.mk s.f_heap s.f_lock s.f_list v4 s.f_phase s.f_opKind s.f_opVal s.f_resStatus s.f_resVal s.f_enlisted s.f_reqKind s.f_reqVal s.f_ready s.f_respStatus s.f_respVal s.f_stamp s.f_n s.f_cap s.f_age s.f_listLen s.f_pass s.f_heapSize s.f_applied))
theorem ln_j_stepCombine_b121 {s : Q} {v4 : Int32} {v5 : Int32} {res : Int32 × Q} (h : j_stepCombine_b121 s v4 v5 = some res) : Q.len res.2 = Q.len s := by
  rw [j_stepCombine_b121] at h
  have hr0 := Option.some.inj h
  subst hr0
  show Q.len (Q.mk s.f_heap s.f_lock s.f_list v4 s.f_phase s.f_opKind s.f_opVal s.f_resStatus s.f_resVal s.f_enlisted s.f_reqKind s.f_reqVal s.f_ready s.f_respStatus s.f_respVal s.f_stamp s.f_n s.f_cap s.f_age s.f_listLen s.f_pass s.f_heapSize s.f_applied) = _
  exact (Eq.trans (show Q.len (Q.mk s.f_heap s.f_lock s.f_list v4 s.f_phase s.f_opKind s.f_opVal s.f_resStatus s.f_resVal s.f_enlisted s.f_reqKind s.f_reqVal s.f_ready s.f_respStatus s.f_respVal s.f_stamp s.f_n s.f_cap s.f_age s.f_listLen s.f_pass s.f_heapSize s.f_applied) = Q.len s from own_lenmk.trans (by first | (simp only [len_wr, len_wrL] <;> rfl) | rfl)) rfl)
set_option maxRecDepth 100000 in
theorem ev_j_stepCombine_b121 (R : AHeap) (s : Q) (v4 : Int32) (v5 : Int32) {res : Int32 × Q} {out : Option Value × AHeap} (h : j_stepCombine_b121 s v4 v5 = some res) (hk : out = (some (.int res.1), (W1 res.2 R))) : Eval own_P 11 121 [some (.ref 0), none, none, none, some (.int v4), some (.int v5)] [] (W1 s R) out := by
  rw [j_stepCombine_b121] at h
  refine Eval.aload_n rfl rfl ?_
  refine Eval.iload rfl rfl ?_
  refine Eval.putfield rfl rfl own_p1_cursor ?_
  refine Eval.iload rfl rfl ?_
  cases h
  subst hk
  exact Eval.retH own_mk1 rfl rfl
abbrev j_siftUp_l4_K (R : AHeap) (res : (Q) ⊕ ((Q) ⊕ (Q))) (out : Option Value × AHeap) : Prop := Sum.elim (fun res => Eval own_P 15 20 [none, none, none, none, none] [] (W1 res R) out) (fun res => Sum.elim (fun res => Eval own_P 15 46 [none, none, none, none, none] [] (W1 res R) out) (fun res => Eval own_P 15 65 [none, none, none, none, none] [] (W1 res R) out) res) res

abbrev j_siftUp_l4_N (s : Q) (res : (Q) ⊕ ((Q) ⊕ (Q))) : Prop := Sum.elim (fun res => Q.len res = Q.len s) (fun res => Sum.elim (fun res => Q.len res = Q.len s) (fun res => Q.len res = Q.len s) res) res
def j_swap (s : Q) (v1 : Int32) (v2 : Int32) : Option (Q) := (if inb s.f_heap.length v1 = true then (if inb s.f_heap.length v2 = true then (if inb s.f_heap.length v1 = true then (if inb (wr s.f_heap v1 (rd s.f_heap v2)).length v2 = true then some ((Q.mk (wr (wr s.f_heap v1 (rd s.f_heap v2)) v2 (rd s.f_heap v1)) s.f_lock s.f_list s.f_cursor s.f_phase s.f_opKind s.f_opVal s.f_resStatus s.f_resVal s.f_enlisted s.f_reqKind s.f_reqVal s.f_ready s.f_respStatus s.f_respVal s.f_stamp s.f_n s.f_cap s.f_age s.f_listLen s.f_pass s.f_heapSize s.f_applied)) else none) else none) else none) else none)
theorem ln_j_swap {s : Q} {v1 : Int32} {v2 : Int32} {res : Q} (h : j_swap s v1 v2 = some res) : Q.len res = Q.len s := by
  rw [j_swap] at h
  obtain ⟨hb133, h⟩ := ite_some h
  obtain ⟨hb134, h⟩ := ite_some h
  obtain ⟨hb135, h⟩ := ite_some h
  obtain ⟨hb136, h⟩ := ite_some h
  have hr0 := Option.some.inj h
  subst hr0
  show Q.len (Q.mk (wr (wr s.f_heap v1 (rd s.f_heap v2)) v2 (rd s.f_heap v1)) s.f_lock s.f_list s.f_cursor s.f_phase s.f_opKind s.f_opVal s.f_resStatus s.f_resVal s.f_enlisted s.f_reqKind s.f_reqVal s.f_ready s.f_respStatus s.f_respVal s.f_stamp s.f_n s.f_cap s.f_age s.f_listLen s.f_pass s.f_heapSize s.f_applied) = _
  exact (Eq.trans (show Q.len (Q.mk (wr (wr s.f_heap v1 (rd s.f_heap v2)) v2 (rd s.f_heap v1)) s.f_lock s.f_list s.f_cursor s.f_phase s.f_opKind s.f_opVal s.f_resStatus s.f_resVal s.f_enlisted s.f_reqKind s.f_reqVal s.f_ready s.f_respStatus s.f_respVal s.f_stamp s.f_n s.f_cap s.f_age s.f_listLen s.f_pass s.f_heapSize s.f_applied) = Q.len s from own_lenmk.trans (by first | (simp only [len_wr, len_wrL] <;> rfl) | rfl)) rfl)
set_option maxRecDepth 100000 in
theorem ev_j_swap (R : AHeap) (s : Q) (v1 : Int32) (v2 : Int32) {res : Q} {out : Option Value × AHeap} (h : j_swap s v1 v2 = some res) (hk : out = (none, (W1 res R))) : Eval own_P 29 0 [some (.ref 0), some (.int v1), some (.int v2), none] [] (W1 s R) out := by
  rw [j_swap] at h
  refine Eval.aload_n rfl rfl ?_
  refine Eval.getfield rfl rfl own_g1_heap ?_
  refine Eval.iload_n rfl rfl ?_
  obtain ⟨hb133, h⟩ := ite_some h
  refine Eval.iaload rfl own_a1_heap hb133 ?_
  refine Eval.istore_n (L' := [some (.ref 0), some (.int v1), some (.int v2), some (.int (rd s.f_heap v1))]) rfl rfl ?_
  refine Eval.aload_n rfl rfl ?_
  refine Eval.getfield rfl rfl own_g1_heap ?_
  refine Eval.iload_n rfl rfl ?_
  refine Eval.aload_n rfl rfl ?_
  refine Eval.getfield rfl rfl own_g1_heap ?_
  refine Eval.iload_n rfl rfl ?_
  obtain ⟨hb134, h⟩ := ite_some h
  refine Eval.iaload rfl own_a1_heap hb134 ?_
  obtain ⟨hb135, h⟩ := ite_some h
  refine Eval.iastore rfl rfl own_a1_heap hb135 own_s1_heap ?_
  refine Eval.aload_n rfl rfl ?_
  refine Eval.getfield rfl rfl own_g1_heap ?_
  refine Eval.iload_n rfl rfl ?_
  refine Eval.iload_n rfl rfl ?_
  obtain ⟨hb136, h⟩ := ite_some h
  refine Eval.iastore rfl rfl own_a1_heap hb136 own_s1_heap ?_
  cases h
  subst hk
  exact Eval.retH own_mk1 rfl rfl
def j_siftUp_l4 : Nat → Q → Int32 → Int32 → Option ((Q) ⊕ ((Q) ⊕ (Q)))
  | 0, _, _, _ => none
  | n + 1, s, v2, v3 => (if v3 < (32 : Int32) then (if (0 : Int32) < v2 then (if v2 < (32 : Int32) then (if inb s.f_heap.length ((v2 - (1 : Int32)) / (2 : Int32)) = true then (if inb s.f_heap.length v2 = true then (if (rd s.f_heap v2) < (rd s.f_heap ((v2 - (1 : Int32)) / (2 : Int32))) then ((j_swap s ((v2 - (1 : Int32)) / (2 : Int32)) v2).bind fun p137 => (j_siftUp_l4 n p137 ((v2 - (1 : Int32)) / (2 : Int32)) (v3 + (1 : Int32)))) else some (.inr (.inl (s)))) else none) else none) else some (.inl (s))) else some (.inr (.inr (s)))) else some (.inr (.inr (s))))
theorem ln_j_siftUp_l4 : ∀ {n : Nat} {s : Q} {v2 : Int32} {v3 : Int32} {res : (Q) ⊕ ((Q) ⊕ (Q))}, j_siftUp_l4 n s v2 v3 = some res → j_siftUp_l4_N s res := by
  intro n
  induction n with
  | zero => intro _ _ _ res h; cases h
  | succ n hrec0 =>
    have hrec : ∀ (s : Q) (v2 : Int32) (v3 : Int32) {res : (Q) ⊕ ((Q) ⊕ (Q))}, j_siftUp_l4 n s v2 v3 = some res → j_siftUp_l4_N s res := by intros; apply hrec0; assumption
    intro s v2 v3 res h
    rw [j_siftUp_l4] at h
    by_cases hc127 : v3 < (32 : Int32)
    · rw [if_pos hc127] at h
      by_cases hc128 : (0 : Int32) < v2
      · rw [if_pos hc128] at h
        by_cases hc129 : v2 < (32 : Int32)
        · rw [if_pos hc129] at h
          obtain ⟨hb130, h⟩ := ite_some h
          obtain ⟨hb131, h⟩ := ite_some h
          by_cases hc132 : (rd s.f_heap v2) < (rd s.f_heap ((v2 - (1 : Int32)) / (2 : Int32)))
          · rw [if_pos hc132] at h
            obtain ⟨p137, hq138, h⟩ := bind_some h
            have hl139 := (ln_j_swap hq138).trans rfl
            have hz := hrec _ _ _ h
            rcases res with res | res
            · exact Eq.trans hz hl139
            · rcases res with res | res
              · exact Eq.trans hz hl139
              · exact Eq.trans hz hl139
          · rw [if_neg hc132] at h
            have hr0 := Option.some.inj h
            subst hr0
            show Q.len s = _
            exact rfl
        · rw [if_neg hc129] at h
          have hr0 := Option.some.inj h
          subst hr0
          show Q.len s = _
          exact rfl
      · rw [if_neg hc128] at h
        have hr0 := Option.some.inj h
        subst hr0
        show Q.len s = _
        exact rfl
    · rw [if_neg hc127] at h
      have hr0 := Option.some.inj h
      subst hr0
      show Q.len s = _
      exact rfl
set_option maxRecDepth 100000 in
theorem ev_j_siftUp_l4 (R : AHeap) : ∀ (n : Nat) (s : Q) (v2 : Int32) (v3 : Int32) {res : (Q) ⊕ ((Q) ⊕ (Q))} {out : Option Value × AHeap}, j_siftUp_l4 n s v2 v3 = some res → j_siftUp_l4_K R res out → Eval own_P 15 4 [some (.ref 0), none, some (.int v2), some (.int v3), none] [] (W1 s R) out := by
  intro n
  induction n with
  | zero => intro _ _ _ res out h hk; cases h
  | succ n hrec =>
    intro s v2 v3 res out h hk
    rw [j_siftUp_l4] at h
    refine Eval.iload_n rfl rfl ?_
    refine Eval.bipush (x := (32 : Int32)) rfl rfl ?_
    by_cases hc127 : v3 < (32 : Int32)
    · rw [if_pos hc127] at h
      refine Eval.icmpF rfl (tlt hc127).2.1 ?_
      refine Eval.iload_n rfl rfl ?_
      by_cases hc128 : (0 : Int32) < v2
      · rw [if_pos hc128] at h
        refine Eval.ifF rfl (tlt hc128).2.2.2 ?_
        refine Eval.iload_n rfl rfl ?_
        refine Eval.bipush (x := (32 : Int32)) rfl rfl ?_
        by_cases hc129 : v2 < (32 : Int32)
        · rw [if_pos hc129] at h
          refine Eval.icmpT (t := 23) rfl rfl (tlt hc129).1 ?_
          refine Eval.iload_n rfl rfl ?_
          refine Eval.iconst (x := (1 : Int32)) rfl rfl ?_
          refine Eval.isub rfl ?_
          refine Eval.iconst (x := (2 : Int32)) rfl rfl ?_
          refine Eval.idiv rfl (by decide) ?_
          refine Eval.istore (L' := [some (.ref 0), none, some (.int v2), some (.int v3), some (.int ((v2 - (1 : Int32)) / (2 : Int32)))]) rfl rfl ?_
          refine Eval.aload_n rfl rfl ?_
          refine Eval.getfield rfl rfl own_g1_heap ?_
          refine Eval.iload rfl rfl ?_
          obtain ⟨hb130, h⟩ := ite_some h
          refine Eval.iaload rfl own_a1_heap hb130 ?_
          refine Eval.aload_n rfl rfl ?_
          refine Eval.getfield rfl rfl own_g1_heap ?_
          refine Eval.iload_n rfl rfl ?_
          obtain ⟨hb131, h⟩ := ite_some h
          refine Eval.iaload rfl own_a1_heap hb131 ?_
          by_cases hc132 : (rd s.f_heap v2) < (rd s.f_heap ((v2 - (1 : Int32)) / (2 : Int32)))
          · rw [if_pos hc132] at h
            refine Eval.icmpT (t := 49) rfl rfl (tlt hc132).2.2.1 ?_
            refine Eval.aload_n rfl rfl ?_
            refine Eval.iload rfl rfl ?_
            refine Eval.iload_n rfl rfl ?_
            obtain ⟨p137, hq138, h⟩ := bind_some h
            refine Eval.callN (rest := []) (H1 := (W1 p137 R)) rfl rfl (ev_j_swap R s ((v2 - (1 : Int32)) / (2 : Int32)) v2 hq138 rfl) ?_
            refine Eval.iload rfl rfl ?_
            refine Eval.istore_n (L' := [some (.ref 0), none, some (.int ((v2 - (1 : Int32)) / (2 : Int32))), some (.int v3), some (.int ((v2 - (1 : Int32)) / (2 : Int32)))]) rfl rfl ?_
            refine Eval.iinc (L' := [some (.ref 0), none, some (.int ((v2 - (1 : Int32)) / (2 : Int32))), some (.int (v3 + (1 : Int32))), some (.int ((v2 - (1 : Int32)) / (2 : Int32)))]) rfl rfl rfl ?_
            refine Eval.goto (t := 4) rfl rfl ?_
            refine Eval.weak (L' := [some (.ref 0), none, some (.int ((v2 - (1 : Int32)) / (2 : Int32))), some (.int (v3 + (1 : Int32))), none]) ⟨_, _, rfl, Or.inr rfl, _, _, rfl, Or.inl rfl, _, _, rfl, Or.inr rfl, _, _, rfl, Or.inr rfl, _, _, rfl, Or.inl rfl, rfl⟩ ?_
            exact hrec _ _ _ h hk
          · rw [if_neg hc132] at h
            refine Eval.icmpF rfl (flt hc132).2.2.1 ?_
            cases h
            refine Eval.weak (L' := [none, none, none, none, none]) ⟨_, _, rfl, Or.inl rfl, _, _, rfl, Or.inl rfl, _, _, rfl, Or.inl rfl, _, _, rfl, Or.inl rfl, _, _, rfl, Or.inl rfl, rfl⟩ ?_
            exact hk
        · rw [if_neg hc129] at h
          refine Eval.icmpF rfl (flt hc129).1 ?_
          cases h
          refine Eval.weak (L' := [none, none, none, none, none]) ⟨_, _, rfl, Or.inl rfl, _, _, rfl, Or.inl rfl, _, _, rfl, Or.inl rfl, _, _, rfl, Or.inl rfl, _, _, rfl, Or.inl rfl, rfl⟩ ?_
          exact hk
      · rw [if_neg hc128] at h
        refine Eval.ifT (t := 65) rfl rfl (flt hc128).2.2.2 ?_
        cases h
        refine Eval.weak (L' := [none, none, none, none, none]) ⟨_, _, rfl, Or.inl rfl, _, _, rfl, Or.inl rfl, _, _, rfl, Or.inl rfl, _, _, rfl, Or.inl rfl, _, _, rfl, Or.inl rfl, rfl⟩ ?_
        exact hk
    · rw [if_neg hc127] at h
      refine Eval.icmpT (t := 65) rfl rfl (flt hc127).2.1 ?_
      cases h
      refine Eval.weak (L' := [none, none, none, none, none]) ⟨_, _, rfl, Or.inl rfl, _, _, rfl, Or.inl rfl, _, _, rfl, Or.inl rfl, _, _, rfl, Or.inl rfl, _, _, rfl, Or.inl rfl, rfl⟩ ?_
      exact hk
def j_siftUp (s : Q) (v1 : Int32) : Option (Q) := ((j_siftUp_l4 3000 s v1 (0 : Int32)).bind fun p140 => Sum.elim (fun p142 => some (p142)) (fun p143 => Sum.elim (fun p145 => some (p145)) (fun p146 => some (p146)) p143) p140)
theorem ln_j_siftUp {s : Q} {v1 : Int32} {res : Q} (h : j_siftUp s v1 = some res) : Q.len res = Q.len s := by
  rw [j_siftUp] at h
  obtain ⟨p140, hq141, h⟩ := bind_some h
  rcases p140 with p142 | p143
  · dsimp only [Sum.elim] at h
    have hl144 : Q.len p142 = _ := Eq.trans (ln_j_siftUp_l4 hq141) rfl
    have hr0 := Option.some.inj h
    subst hr0
    show Q.len p142 = _
    exact hl144
  · dsimp only [Sum.elim] at h
    rcases p143 with p145 | p146
    · dsimp only [Sum.elim] at h
      have hl147 : Q.len p145 = _ := Eq.trans (ln_j_siftUp_l4 hq141) rfl
      have hr0 := Option.some.inj h
      subst hr0
      show Q.len p145 = _
      exact hl147
    · dsimp only [Sum.elim] at h
      have hl148 : Q.len p146 = _ := Eq.trans (ln_j_siftUp_l4 hq141) rfl
      have hr0 := Option.some.inj h
      subst hr0
      show Q.len p146 = _
      exact hl148
set_option maxRecDepth 100000 in
theorem ev_j_siftUp (R : AHeap) (s : Q) (v1 : Int32) {res : Q} {out : Option Value × AHeap} (h : j_siftUp s v1 = some res) (hk : out = (none, (W1 res R))) : Eval own_P 15 0 [some (.ref 0), some (.int v1), none, none, none] [] (W1 s R) out := by
  rw [j_siftUp] at h
  refine Eval.iload_n rfl rfl ?_
  refine Eval.istore_n (L' := [some (.ref 0), some (.int v1), some (.int v1), none, none]) rfl rfl ?_
  refine Eval.iconst (x := (0 : Int32)) rfl rfl ?_
  refine Eval.istore_n (L' := [some (.ref 0), some (.int v1), some (.int v1), some (.int (0 : Int32)), none]) rfl rfl ?_
  refine Eval.weak (L' := [some (.ref 0), none, some (.int v1), some (.int (0 : Int32)), none]) ⟨_, _, rfl, Or.inr rfl, _, _, rfl, Or.inl rfl, _, _, rfl, Or.inr rfl, _, _, rfl, Or.inr rfl, _, _, rfl, Or.inl rfl, rfl⟩ ?_
  obtain ⟨p140, hq141, h⟩ := bind_some h
  rcases p140 with p142 | p143
  · dsimp only [Sum.elim] at h
    refine ev_j_siftUp_l4 R _ s v1 (0 : Int32) hq141 ?_
    show Eval own_P 15 20 [none, none, none, none, none] [] (W1 p142 R) out
    refine Eval.goto (t := 65) rfl rfl ?_
    cases h
    subst hk
    exact Eval.ret rfl rfl
  · dsimp only [Sum.elim] at h
    rcases p143 with p145 | p146
    · dsimp only [Sum.elim] at h
      refine ev_j_siftUp_l4 R _ s v1 (0 : Int32) hq141 ?_
      show Eval own_P 15 46 [none, none, none, none, none] [] (W1 p145 R) out
      refine Eval.goto (t := 65) rfl rfl ?_
      cases h
      subst hk
      exact Eval.ret rfl rfl
    · dsimp only [Sum.elim] at h
      refine ev_j_siftUp_l4 R _ s v1 (0 : Int32) hq141 ?_
      show Eval own_P 15 65 [none, none, none, none, none] [] (W1 p146 R) out
      cases h
      subst hk
      exact Eval.ret rfl rfl
def j_applyInsert_b20 (s : Q) (v1 : Int32) : Option (Q) := (if inb s.f_respStatus.length v1 = true then (if inb s.f_respVal.length v1 = true then some ((Q.mk s.f_heap s.f_lock s.f_list s.f_cursor s.f_phase s.f_opKind s.f_opVal s.f_resStatus s.f_resVal s.f_enlisted s.f_reqKind s.f_reqVal s.f_ready (wr s.f_respStatus v1 (2 : Int32)) (wr s.f_respVal v1 (0 : Int32)) s.f_stamp s.f_n s.f_cap s.f_age s.f_listLen s.f_pass s.f_heapSize s.f_applied)) else none) else none)
theorem ln_j_applyInsert_b20 {s : Q} {v1 : Int32} {res : Q} (h : j_applyInsert_b20 s v1 = some res) : Q.len res = Q.len s := by
  rw [j_applyInsert_b20] at h
  obtain ⟨hb154, h⟩ := ite_some h
  obtain ⟨hb155, h⟩ := ite_some h
  have hr0 := Option.some.inj h
  subst hr0
  show Q.len (Q.mk s.f_heap s.f_lock s.f_list s.f_cursor s.f_phase s.f_opKind s.f_opVal s.f_resStatus s.f_resVal s.f_enlisted s.f_reqKind s.f_reqVal s.f_ready (wr s.f_respStatus v1 (2 : Int32)) (wr s.f_respVal v1 (0 : Int32)) s.f_stamp s.f_n s.f_cap s.f_age s.f_listLen s.f_pass s.f_heapSize s.f_applied) = _
  exact (Eq.trans (show Q.len (Q.mk s.f_heap s.f_lock s.f_list s.f_cursor s.f_phase s.f_opKind s.f_opVal s.f_resStatus s.f_resVal s.f_enlisted s.f_reqKind s.f_reqVal s.f_ready (wr s.f_respStatus v1 (2 : Int32)) (wr s.f_respVal v1 (0 : Int32)) s.f_stamp s.f_n s.f_cap s.f_age s.f_listLen s.f_pass s.f_heapSize s.f_applied) = Q.len s from own_lenmk.trans (by first | (simp only [len_wr, len_wrL] <;> rfl) | rfl)) rfl)
set_option maxRecDepth 100000 in
theorem ev_j_applyInsert_b20 (R : AHeap) (s : Q) (v1 : Int32) {res : Q} {out : Option Value × AHeap} (h : j_applyInsert_b20 s v1 = some res) (hk : out = (none, (W1 res R))) : Eval own_P 14 20 [some (.ref 0), some (.int v1), none] [] (W1 s R) out := by
  rw [j_applyInsert_b20] at h
  refine Eval.aload_n rfl rfl ?_
  refine Eval.getfield rfl rfl own_g1_respStatus ?_
  refine Eval.iload_n rfl rfl ?_
  refine Eval.iconst (x := (2 : Int32)) rfl rfl ?_
  obtain ⟨hb154, h⟩ := ite_some h
  refine Eval.iastore rfl rfl own_a1_respStatus hb154 own_s1_respStatus ?_
  refine Eval.aload_n rfl rfl ?_
  refine Eval.getfield rfl rfl own_g1_respVal ?_
  refine Eval.iload_n rfl rfl ?_
  refine Eval.iconst (x := (0 : Int32)) rfl rfl ?_
  obtain ⟨hb155, h⟩ := ite_some h
  refine Eval.iastore rfl rfl own_a1_respVal hb155 own_s1_respVal ?_
  cases h
  subst hk
  exact Eval.retH own_mk1 rfl rfl
def j_applyInsert (s : Q) (v1 : Int32) : Option (Q) := (if s.f_heapSize < s.f_cap then (if s.f_heapSize < (32 : Int32) then (if inb s.f_reqVal.length v1 = true then (if inb s.f_heap.length s.f_heapSize = true then ((j_siftUp (Q.mk (wr s.f_heap s.f_heapSize (rd s.f_reqVal v1)) s.f_lock s.f_list s.f_cursor s.f_phase s.f_opKind s.f_opVal s.f_resStatus s.f_resVal s.f_enlisted s.f_reqKind s.f_reqVal s.f_ready s.f_respStatus s.f_respVal s.f_stamp s.f_n s.f_cap s.f_age s.f_listLen s.f_pass (s.f_heapSize + (1 : Int32)) s.f_applied) ((s.f_heapSize + (1 : Int32)) - (1 : Int32))).bind fun p149 => (if inb p149.f_respStatus.length v1 = true then (if inb p149.f_respVal.length v1 = true then some ((Q.mk p149.f_heap p149.f_lock p149.f_list p149.f_cursor p149.f_phase p149.f_opKind p149.f_opVal p149.f_resStatus p149.f_resVal p149.f_enlisted p149.f_reqKind p149.f_reqVal p149.f_ready (wr p149.f_respStatus v1 (1 : Int32)) (wr p149.f_respVal v1 (rd s.f_reqVal v1)) p149.f_stamp p149.f_n p149.f_cap p149.f_age p149.f_listLen p149.f_pass p149.f_heapSize p149.f_applied)) else none) else none)) else none) else none) else (j_applyInsert_b20 s v1)) else (j_applyInsert_b20 s v1))
theorem ln_j_applyInsert {s : Q} {v1 : Int32} {res : Q} (h : j_applyInsert s v1 = some res) : Q.len res = Q.len s := by
  rw [j_applyInsert] at h
  by_cases hc123 : s.f_heapSize < s.f_cap
  · rw [if_pos hc123] at h
    by_cases hc124 : s.f_heapSize < (32 : Int32)
    · rw [if_pos hc124] at h
      obtain ⟨hb125, h⟩ := ite_some h
      obtain ⟨hb126, h⟩ := ite_some h
      obtain ⟨p149, hq150, h⟩ := bind_some h
      have hl151 := (ln_j_siftUp hq150).trans (Eq.trans (show Q.len (Q.mk (wr s.f_heap s.f_heapSize (rd s.f_reqVal v1)) s.f_lock s.f_list s.f_cursor s.f_phase s.f_opKind s.f_opVal s.f_resStatus s.f_resVal s.f_enlisted s.f_reqKind s.f_reqVal s.f_ready s.f_respStatus s.f_respVal s.f_stamp s.f_n s.f_cap s.f_age s.f_listLen s.f_pass (s.f_heapSize + (1 : Int32)) s.f_applied) = Q.len s from own_lenmk.trans (by first | (simp only [len_wr, len_wrL] <;> rfl) | rfl)) rfl)
      obtain ⟨hb152, h⟩ := ite_some h
      obtain ⟨hb153, h⟩ := ite_some h
      have hr0 := Option.some.inj h
      subst hr0
      show Q.len (Q.mk p149.f_heap p149.f_lock p149.f_list p149.f_cursor p149.f_phase p149.f_opKind p149.f_opVal p149.f_resStatus p149.f_resVal p149.f_enlisted p149.f_reqKind p149.f_reqVal p149.f_ready (wr p149.f_respStatus v1 (1 : Int32)) (wr p149.f_respVal v1 (rd s.f_reqVal v1)) p149.f_stamp p149.f_n p149.f_cap p149.f_age p149.f_listLen p149.f_pass p149.f_heapSize p149.f_applied) = _
      exact (Eq.trans (show Q.len (Q.mk p149.f_heap p149.f_lock p149.f_list p149.f_cursor p149.f_phase p149.f_opKind p149.f_opVal p149.f_resStatus p149.f_resVal p149.f_enlisted p149.f_reqKind p149.f_reqVal p149.f_ready (wr p149.f_respStatus v1 (1 : Int32)) (wr p149.f_respVal v1 (rd s.f_reqVal v1)) p149.f_stamp p149.f_n p149.f_cap p149.f_age p149.f_listLen p149.f_pass p149.f_heapSize p149.f_applied) = Q.len p149 from own_lenmk.trans (by first | (simp only [len_wr, len_wrL] <;> rfl) | rfl)) hl151)
    · rw [if_neg hc124] at h
      exact Eq.trans (ln_j_applyInsert_b20 h) rfl
  · rw [if_neg hc123] at h
    exact Eq.trans (ln_j_applyInsert_b20 h) rfl
set_option maxRecDepth 100000 in
theorem ev_j_applyInsert (R : AHeap) (s : Q) (v1 : Int32) {res : Q} {out : Option Value × AHeap} (h : j_applyInsert s v1 = some res) (hk : out = (none, (W1 res R))) : Eval own_P 14 0 [some (.ref 0), some (.int v1), none] [] (W1 s R) out := by
  rw [j_applyInsert] at h
  refine Eval.aload_n rfl rfl ?_
  refine Eval.getfield rfl rfl own_g1_heapSize ?_
  refine Eval.aload_n rfl rfl ?_
  refine Eval.getfield rfl rfl own_g1_cap ?_
  by_cases hc123 : s.f_heapSize < s.f_cap
  · rw [if_pos hc123] at h
    refine Eval.icmpF rfl (tlt hc123).2.1 ?_
    refine Eval.aload_n rfl rfl ?_
    refine Eval.getfield rfl rfl own_g1_heapSize ?_
    refine Eval.bipush (x := (32 : Int32)) rfl rfl ?_
    by_cases hc124 : s.f_heapSize < (32 : Int32)
    · rw [if_pos hc124] at h
      refine Eval.icmpT (t := 35) rfl rfl (tlt hc124).1 ?_
      refine Eval.aload_n rfl rfl ?_
      refine Eval.getfield rfl rfl own_g1_reqVal ?_
      refine Eval.iload_n rfl rfl ?_
      obtain ⟨hb125, h⟩ := ite_some h
      refine Eval.iaload rfl own_a1_reqVal hb125 ?_
      refine Eval.istore_n (L' := [some (.ref 0), some (.int v1), some (.int (rd s.f_reqVal v1))]) rfl rfl ?_
      refine Eval.aload_n rfl rfl ?_
      refine Eval.getfield rfl rfl own_g1_heap ?_
      refine Eval.aload_n rfl rfl ?_
      refine Eval.getfield rfl rfl own_g1_heapSize ?_
      refine Eval.iload_n rfl rfl ?_
      obtain ⟨hb126, h⟩ := ite_some h
      refine Eval.iastore rfl rfl own_a1_heap hb126 own_s1_heap ?_
      refine Eval.aload_n rfl rfl ?_
      refine Eval.dupR rfl ?_
      refine Eval.getfield rfl rfl own_g1_heapSize ?_
      refine Eval.iconst (x := (1 : Int32)) rfl rfl ?_
      refine Eval.iadd rfl ?_
      refine Eval.putfield rfl rfl own_p1_heapSize ?_
      refine Eval.aload_n rfl rfl ?_
      refine Eval.aload_n rfl rfl ?_
      refine Eval.getfield rfl rfl own_g1_heapSize ?_
      refine Eval.iconst (x := (1 : Int32)) rfl rfl ?_
      refine Eval.isub rfl ?_
      obtain ⟨p149, hq150, h⟩ := bind_some h
      refine Eval.callN (rest := []) (H1 := (W1 p149 R)) rfl rfl (Eval.heap own_mk1 (ev_j_siftUp R (Q.mk (wr s.f_heap s.f_heapSize (rd s.f_reqVal v1)) s.f_lock s.f_list s.f_cursor s.f_phase s.f_opKind s.f_opVal s.f_resStatus s.f_resVal s.f_enlisted s.f_reqKind s.f_reqVal s.f_ready s.f_respStatus s.f_respVal s.f_stamp s.f_n s.f_cap s.f_age s.f_listLen s.f_pass (s.f_heapSize + (1 : Int32)) s.f_applied) ((s.f_heapSize + (1 : Int32)) - (1 : Int32)) hq150 rfl)) ?_
      refine Eval.aload_n rfl rfl ?_
      refine Eval.getfield rfl rfl own_g1_respStatus ?_
      refine Eval.iload_n rfl rfl ?_
      refine Eval.iconst (x := (1 : Int32)) rfl rfl ?_
      obtain ⟨hb152, h⟩ := ite_some h
      refine Eval.iastore rfl rfl own_a1_respStatus hb152 own_s1_respStatus ?_
      refine Eval.aload_n rfl rfl ?_
      refine Eval.getfield rfl rfl own_g1_respVal ?_
      refine Eval.iload_n rfl rfl ?_
      refine Eval.iload_n rfl rfl ?_
      obtain ⟨hb153, h⟩ := ite_some h
      refine Eval.iastore rfl rfl own_a1_respVal hb153 own_s1_respVal ?_
      cases h
      subst hk
      exact Eval.retH own_mk1 rfl rfl
    · rw [if_neg hc124] at h
      refine Eval.icmpF rfl (flt hc124).1 ?_
      exact ev_j_applyInsert_b20 R s v1 h hk
  · rw [if_neg hc123] at h
    refine Eval.icmpT (t := 20) rfl rfl (flt hc123).2.1 ?_
    exact ev_j_applyInsert_b20 R s v1 h hk
def j_serve_b23 (s : Q) (v1 : Int32) : Option (Q) := (if inb s.f_ready.length v1 = true then (if inb s.f_reqKind.length v1 = true then (if inb s.f_stamp.length v1 = true then some ((Q.mk s.f_heap s.f_lock s.f_list s.f_cursor s.f_phase s.f_opKind s.f_opVal s.f_resStatus s.f_resVal s.f_enlisted (wr s.f_reqKind v1 (0 : Int32)) s.f_reqVal (wr s.f_ready v1 (1 : Int32)) s.f_respStatus s.f_respVal (wr s.f_stamp v1 s.f_pass) s.f_n s.f_cap s.f_age s.f_listLen s.f_pass s.f_heapSize (s.f_applied + (1 : Int32)))) else none) else none) else none)
theorem ln_j_serve_b23 {s : Q} {v1 : Int32} {res : Q} (h : j_serve_b23 s v1 = some res) : Q.len res = Q.len s := by
  rw [j_serve_b23] at h
  obtain ⟨hb159, h⟩ := ite_some h
  obtain ⟨hb160, h⟩ := ite_some h
  obtain ⟨hb161, h⟩ := ite_some h
  have hr0 := Option.some.inj h
  subst hr0
  show Q.len (Q.mk s.f_heap s.f_lock s.f_list s.f_cursor s.f_phase s.f_opKind s.f_opVal s.f_resStatus s.f_resVal s.f_enlisted (wr s.f_reqKind v1 (0 : Int32)) s.f_reqVal (wr s.f_ready v1 (1 : Int32)) s.f_respStatus s.f_respVal (wr s.f_stamp v1 s.f_pass) s.f_n s.f_cap s.f_age s.f_listLen s.f_pass s.f_heapSize (s.f_applied + (1 : Int32))) = _
  exact (Eq.trans (show Q.len (Q.mk s.f_heap s.f_lock s.f_list s.f_cursor s.f_phase s.f_opKind s.f_opVal s.f_resStatus s.f_resVal s.f_enlisted (wr s.f_reqKind v1 (0 : Int32)) s.f_reqVal (wr s.f_ready v1 (1 : Int32)) s.f_respStatus s.f_respVal (wr s.f_stamp v1 s.f_pass) s.f_n s.f_cap s.f_age s.f_listLen s.f_pass s.f_heapSize (s.f_applied + (1 : Int32))) = Q.len s from own_lenmk.trans (by first | (simp only [len_wr, len_wrL] <;> rfl) | rfl)) rfl)
set_option maxRecDepth 100000 in
theorem ev_j_serve_b23 (R : AHeap) (s : Q) (v1 : Int32) {res : Q} {out : Option Value × AHeap} (h : j_serve_b23 s v1 = some res) (hk : out = (none, (W1 res R))) : Eval own_P 13 23 [some (.ref 0), some (.int v1)] [] (W1 s R) out := by
  rw [j_serve_b23] at h
  refine Eval.aload_n rfl rfl ?_
  refine Eval.getfield rfl rfl own_g1_ready ?_
  refine Eval.iload_n rfl rfl ?_
  refine Eval.iconst (x := (1 : Int32)) rfl rfl ?_
  obtain ⟨hb159, h⟩ := ite_some h
  refine Eval.bastoreZ rfl rfl own_a1_ready hb159 own_s1_ready ?_
  refine Eval.aload_n rfl rfl ?_
  refine Eval.getfield rfl rfl own_g1_reqKind ?_
  refine Eval.iload_n rfl rfl ?_
  refine Eval.iconst (x := (0 : Int32)) rfl rfl ?_
  obtain ⟨hb160, h⟩ := ite_some h
  refine Eval.iastore rfl rfl own_a1_reqKind hb160 own_s1_reqKind ?_
  refine Eval.aload_n rfl rfl ?_
  refine Eval.getfield rfl rfl own_g1_stamp ?_
  refine Eval.iload_n rfl rfl ?_
  refine Eval.aload_n rfl rfl ?_
  refine Eval.getfield rfl rfl own_g1_pass ?_
  obtain ⟨hb161, h⟩ := ite_some h
  refine Eval.iastore rfl rfl own_a1_stamp hb161 own_s1_stamp ?_
  refine Eval.aload_n rfl rfl ?_
  refine Eval.aload_n rfl rfl ?_
  refine Eval.getfield rfl rfl own_g1_applied ?_
  refine Eval.iconst (x := (1 : Int32)) rfl rfl ?_
  refine Eval.iadd rfl ?_
  refine Eval.putfield rfl rfl own_p1_applied ?_
  cases h
  subst hk
  exact Eval.retH own_mk1 rfl rfl
abbrev j_siftDown_l4_K (R : AHeap) (res : (Q) ⊕ ((Q) ⊕ (Q))) (out : Option Value × AHeap) : Prop := Sum.elim (fun res => Eval own_P 27 30 [none, none, none, none, none, none] [] (W1 res R) out) (fun res => Sum.elim (fun res => Eval own_P 27 93 [none, none, none, none, none, none] [] (W1 res R) out) (fun res => Eval own_P 27 112 [none, none, none, none, none, none] [] (W1 res R) out) res) res

abbrev j_siftDown_l4_N (s : Q) (res : (Q) ⊕ ((Q) ⊕ (Q))) : Prop := Sum.elim (fun res => Q.len res = Q.len s) (fun res => Sum.elim (fun res => Q.len res = Q.len s) (fun res => Q.len res = Q.len s) res) res
def j_siftDown_b77 (go_ : Q → Int32 → Int32 → Option ((Q) ⊕ ((Q) ⊕ (Q)))) (s : Q) (v1 : Int32) (v2 : Int32) (v4 : Int32) : Option ((Q) ⊕ ((Q) ⊕ (Q))) := (if inb s.f_heap.length v1 = true then (if inb s.f_heap.length v4 = true then (if (rd s.f_heap v4) < (rd s.f_heap v1) then ((j_swap s v1 v4).bind fun p181 => (go_ p181 v4 (v2 + (1 : Int32)))) else some (.inr (.inl (s)))) else none) else none)
theorem ln_j_siftDown_b77 {go_ : Q → Int32 → Int32 → Option ((Q) ⊕ ((Q) ⊕ (Q)))} (hrec : ∀ (s : Q) (v1 : Int32) (v2 : Int32) {res : (Q) ⊕ ((Q) ⊕ (Q))}, go_ s v1 v2 = some res → j_siftDown_l4_N s res) {s : Q} {v1 : Int32} {v2 : Int32} {v4 : Int32} {res : (Q) ⊕ ((Q) ⊕ (Q))} (h : j_siftDown_b77 go_ s v1 v2 v4 = some res) : j_siftDown_l4_N s res := by
  rw [j_siftDown_b77] at h
  obtain ⟨hb178, h⟩ := ite_some h
  obtain ⟨hb179, h⟩ := ite_some h
  by_cases hc180 : (rd s.f_heap v4) < (rd s.f_heap v1)
  · rw [if_pos hc180] at h
    obtain ⟨p181, hq182, h⟩ := bind_some h
    have hl183 := (ln_j_swap hq182).trans rfl
    have hz := hrec _ _ _ h
    rcases res with res | res
    · exact Eq.trans hz hl183
    · rcases res with res | res
      · exact Eq.trans hz hl183
      · exact Eq.trans hz hl183
  · rw [if_neg hc180] at h
    have hr0 := Option.some.inj h
    subst hr0
    show Q.len s = _
    exact rfl
set_option maxRecDepth 100000 in
theorem ev_j_siftDown_b77 (R : AHeap) (go_ : Q → Int32 → Int32 → Option ((Q) ⊕ ((Q) ⊕ (Q)))) (hrec : ∀ (s : Q) (v1 : Int32) (v2 : Int32) {res : (Q) ⊕ ((Q) ⊕ (Q))} {out : Option Value × AHeap}, go_ s v1 v2 = some res → j_siftDown_l4_K R res out → Eval own_P 27 4 [some (.ref 0), some (.int v1), some (.int v2), none, none, none] [] (W1 s R) out) (s : Q) (v1 : Int32) (v2 : Int32) (v4 : Int32) {res : (Q) ⊕ ((Q) ⊕ (Q))} {out : Option Value × AHeap} (h : j_siftDown_b77 go_ s v1 v2 v4 = some res) (hk : j_siftDown_l4_K R res out) : Eval own_P 27 77 [some (.ref 0), some (.int v1), some (.int v2), none, some (.int v4), none] [] (W1 s R) out := by
  rw [j_siftDown_b77] at h
  refine Eval.aload_n rfl rfl ?_
  refine Eval.getfield rfl rfl own_g1_heap ?_
  refine Eval.iload_n rfl rfl ?_
  obtain ⟨hb178, h⟩ := ite_some h
  refine Eval.iaload rfl own_a1_heap hb178 ?_
  refine Eval.aload_n rfl rfl ?_
  refine Eval.getfield rfl rfl own_g1_heap ?_
  refine Eval.iload rfl rfl ?_
  obtain ⟨hb179, h⟩ := ite_some h
  refine Eval.iaload rfl own_a1_heap hb179 ?_
  by_cases hc180 : (rd s.f_heap v4) < (rd s.f_heap v1)
  · rw [if_pos hc180] at h
    refine Eval.icmpT (t := 96) rfl rfl (tlt hc180).2.2.1 ?_
    refine Eval.aload_n rfl rfl ?_
    refine Eval.iload_n rfl rfl ?_
    refine Eval.iload rfl rfl ?_
    obtain ⟨p181, hq182, h⟩ := bind_some h
    refine Eval.callN (rest := []) (H1 := (W1 p181 R)) rfl rfl (ev_j_swap R s v1 v4 hq182 rfl) ?_
    refine Eval.iload rfl rfl ?_
    refine Eval.istore_n (L' := [some (.ref 0), some (.int v4), some (.int v2), none, some (.int v4), none]) rfl rfl ?_
    refine Eval.iinc (L' := [some (.ref 0), some (.int v4), some (.int (v2 + (1 : Int32))), none, some (.int v4), none]) rfl rfl rfl ?_
    refine Eval.goto (t := 4) rfl rfl ?_
    refine Eval.weak (L' := [some (.ref 0), some (.int v4), some (.int (v2 + (1 : Int32))), none, none, none]) ⟨_, _, rfl, Or.inr rfl, _, _, rfl, Or.inr rfl, _, _, rfl, Or.inr rfl, _, _, rfl, Or.inl rfl, _, _, rfl, Or.inl rfl, _, _, rfl, Or.inl rfl, rfl⟩ ?_
    exact hrec _ _ _ h hk
  · rw [if_neg hc180] at h
    refine Eval.icmpF rfl (flt hc180).2.2.1 ?_
    cases h
    refine Eval.weak (L' := [none, none, none, none, none, none]) ⟨_, _, rfl, Or.inl rfl, _, _, rfl, Or.inl rfl, _, _, rfl, Or.inl rfl, _, _, rfl, Or.inl rfl, _, _, rfl, Or.inl rfl, _, _, rfl, Or.inl rfl, rfl⟩ ?_
    exact hk
def j_siftDown_l4 : Nat → Q → Int32 → Int32 → Option ((Q) ⊕ ((Q) ⊕ (Q)))
  | 0, _, _, _ => none
  | n + 1, s, v1, v2 => (if v2 < (32 : Int32) then (if (((2 : Int32) * v1) + (1 : Int32)) < s.f_heapSize then (if (((2 : Int32) * v1) + (1 : Int32)) < (32 : Int32) then (if ((((2 : Int32) * v1) + (1 : Int32)) + (1 : Int32)) < s.f_heapSize then (if ((((2 : Int32) * v1) + (1 : Int32)) + (1 : Int32)) < (32 : Int32) then (if inb s.f_heap.length ((((2 : Int32) * v1) + (1 : Int32)) + (1 : Int32)) = true then (if inb s.f_heap.length (((2 : Int32) * v1) + (1 : Int32)) = true then (j_siftDown_b77 (j_siftDown_l4 n) s v1 v2 (if (rd s.f_heap ((((2 : Int32) * v1) + (1 : Int32)) + (1 : Int32))) < (rd s.f_heap (((2 : Int32) * v1) + (1 : Int32))) then ((((2 : Int32) * v1) + (1 : Int32)) + (1 : Int32)) else (((2 : Int32) * v1) + (1 : Int32)))) else none) else none) else (j_siftDown_b77 (j_siftDown_l4 n) s v1 v2 (((2 : Int32) * v1) + (1 : Int32)))) else (j_siftDown_b77 (j_siftDown_l4 n) s v1 v2 (((2 : Int32) * v1) + (1 : Int32)))) else some (.inl (s))) else some (.inr (.inr (s)))) else some (.inr (.inr (s))))
theorem ln_j_siftDown_l4 : ∀ {n : Nat} {s : Q} {v1 : Int32} {v2 : Int32} {res : (Q) ⊕ ((Q) ⊕ (Q))}, j_siftDown_l4 n s v1 v2 = some res → j_siftDown_l4_N s res := by
  intro n
  induction n with
  | zero => intro _ _ _ res h; cases h
  | succ n hrec0 =>
    have hrec : ∀ (s : Q) (v1 : Int32) (v2 : Int32) {res : (Q) ⊕ ((Q) ⊕ (Q))}, j_siftDown_l4 n s v1 v2 = some res → j_siftDown_l4_N s res := by intros; apply hrec0; assumption
    intro s v1 v2 res h
    rw [j_siftDown_l4] at h
    by_cases hc166 : v2 < (32 : Int32)
    · rw [if_pos hc166] at h
      by_cases hc167 : (((2 : Int32) * v1) + (1 : Int32)) < s.f_heapSize
      · rw [if_pos hc167] at h
        by_cases hc168 : (((2 : Int32) * v1) + (1 : Int32)) < (32 : Int32)
        · rw [if_pos hc168] at h
          by_cases hc171 : ((((2 : Int32) * v1) + (1 : Int32)) + (1 : Int32)) < s.f_heapSize
          · rw [if_pos hc171] at h
            by_cases hc173 : ((((2 : Int32) * v1) + (1 : Int32)) + (1 : Int32)) < (32 : Int32)
            · rw [if_pos hc173] at h
              obtain ⟨hb174, h⟩ := ite_some h
              obtain ⟨hb175, h⟩ := ite_some h
              have hz := ln_j_siftDown_b77 hrec h
              rcases res with res | res
              · exact Eq.trans hz rfl
              · rcases res with res | res
                · exact Eq.trans hz rfl
                · exact Eq.trans hz rfl
            · rw [if_neg hc173] at h
              have hz := ln_j_siftDown_b77 hrec h
              rcases res with res | res
              · exact Eq.trans hz rfl
              · rcases res with res | res
                · exact Eq.trans hz rfl
                · exact Eq.trans hz rfl
          · rw [if_neg hc171] at h
            have hz := ln_j_siftDown_b77 hrec h
            rcases res with res | res
            · exact Eq.trans hz rfl
            · rcases res with res | res
              · exact Eq.trans hz rfl
              · exact Eq.trans hz rfl
        · rw [if_neg hc168] at h
          have hr0 := Option.some.inj h
          subst hr0
          show Q.len s = _
          exact rfl
      · rw [if_neg hc167] at h
        have hr0 := Option.some.inj h
        subst hr0
        show Q.len s = _
        exact rfl
    · rw [if_neg hc166] at h
      have hr0 := Option.some.inj h
      subst hr0
      show Q.len s = _
      exact rfl
set_option maxRecDepth 100000 in
theorem ev_j_siftDown_l4 (R : AHeap) : ∀ (n : Nat) (s : Q) (v1 : Int32) (v2 : Int32) {res : (Q) ⊕ ((Q) ⊕ (Q))} {out : Option Value × AHeap}, j_siftDown_l4 n s v1 v2 = some res → j_siftDown_l4_K R res out → Eval own_P 27 4 [some (.ref 0), some (.int v1), some (.int v2), none, none, none] [] (W1 s R) out := by
  intro n
  induction n with
  | zero => intro _ _ _ res out h hk; cases h
  | succ n hrec =>
    intro s v1 v2 res out h hk
    rw [j_siftDown_l4] at h
    refine Eval.iload_n rfl rfl ?_
    refine Eval.bipush (x := (32 : Int32)) rfl rfl ?_
    by_cases hc166 : v2 < (32 : Int32)
    · rw [if_pos hc166] at h
      refine Eval.icmpF rfl (tlt hc166).2.1 ?_
      refine Eval.iconst (x := (2 : Int32)) rfl rfl ?_
      refine Eval.iload_n rfl rfl ?_
      refine Eval.imul rfl ?_
      refine Eval.iconst (x := (1 : Int32)) rfl rfl ?_
      refine Eval.iadd rfl ?_
      refine Eval.istore_n (L' := [some (.ref 0), some (.int v1), some (.int v2), some (.int (((2 : Int32) * v1) + (1 : Int32))), none, none]) rfl rfl ?_
      refine Eval.iload_n rfl rfl ?_
      refine Eval.aload_n rfl rfl ?_
      refine Eval.getfield rfl rfl own_g1_heapSize ?_
      by_cases hc167 : (((2 : Int32) * v1) + (1 : Int32)) < s.f_heapSize
      · rw [if_pos hc167] at h
        refine Eval.icmpF rfl (tlt hc167).2.1 ?_
        refine Eval.iload_n rfl rfl ?_
        refine Eval.bipush (x := (32 : Int32)) rfl rfl ?_
        by_cases hc168 : (((2 : Int32) * v1) + (1 : Int32)) < (32 : Int32)
        · rw [if_pos hc168] at h
          refine Eval.icmpT (t := 33) rfl rfl (tlt hc168).1 ?_
          refine Eval.iload_n rfl rfl ?_
          refine Eval.istore (L' := [some (.ref 0), some (.int v1), some (.int v2), some (.int (((2 : Int32) * v1) + (1 : Int32))), some (.int (((2 : Int32) * v1) + (1 : Int32))), none]) rfl rfl ?_
          refine Eval.iload_n rfl rfl ?_
          refine Eval.iconst (x := (1 : Int32)) rfl rfl ?_
          refine Eval.iadd rfl ?_
          refine Eval.istore (L' := [some (.ref 0), some (.int v1), some (.int v2), some (.int (((2 : Int32) * v1) + (1 : Int32))), some (.int (((2 : Int32) * v1) + (1 : Int32))), some (.int ((((2 : Int32) * v1) + (1 : Int32)) + (1 : Int32)))]) rfl rfl ?_
          refine Eval.iload rfl rfl ?_
          refine Eval.aload_n rfl rfl ?_
          refine Eval.getfield rfl rfl own_g1_heapSize ?_
          by_cases hc171 : ((((2 : Int32) * v1) + (1 : Int32)) + (1 : Int32)) < s.f_heapSize
          · rw [if_pos hc171] at h
            refine Eval.icmpF rfl (tlt hc171).2.1 ?_
            refine Eval.iload rfl rfl ?_
            refine Eval.bipush (x := (32 : Int32)) rfl rfl ?_
            by_cases hc173 : ((((2 : Int32) * v1) + (1 : Int32)) + (1 : Int32)) < (32 : Int32)
            · rw [if_pos hc173] at h
              refine Eval.icmpF rfl (tlt hc173).2.1 ?_
              refine Eval.aload_n rfl rfl ?_
              refine Eval.getfield rfl rfl own_g1_heap ?_
              refine Eval.iload rfl rfl ?_
              obtain ⟨hb174, h⟩ := ite_some h
              refine Eval.iaload rfl own_a1_heap hb174 ?_
              refine Eval.aload_n rfl rfl ?_
              refine Eval.getfield rfl rfl own_g1_heap ?_
              refine Eval.iload_n rfl rfl ?_
              obtain ⟨hb175, h⟩ := ite_some h
              refine Eval.iaload rfl own_a1_heap hb175 ?_
              suffices hJ177 : Eval own_P 27 77 [some (.ref 0), some (.int v1), some (.int v2), none, some (.int (if (rd s.f_heap ((((2 : Int32) * v1) + (1 : Int32)) + (1 : Int32))) < (rd s.f_heap (((2 : Int32) * v1) + (1 : Int32))) then ((((2 : Int32) * v1) + (1 : Int32)) + (1 : Int32)) else (((2 : Int32) * v1) + (1 : Int32)))), none] [] (W1 s R) out by
                by_cases hc176 : (rd s.f_heap ((((2 : Int32) * v1) + (1 : Int32)) + (1 : Int32))) < (rd s.f_heap (((2 : Int32) * v1) + (1 : Int32)))
                · refine Eval.icmpF rfl (tlt hc176).2.1 ?_
                  refine Eval.iload rfl rfl ?_
                  refine Eval.istore (L' := [some (.ref 0), some (.int v1), some (.int v2), some (.int (((2 : Int32) * v1) + (1 : Int32))), some (.int ((((2 : Int32) * v1) + (1 : Int32)) + (1 : Int32))), some (.int ((((2 : Int32) * v1) + (1 : Int32)) + (1 : Int32)))]) rfl rfl ?_
                  refine Eval.weak (L' := [some (.ref 0), some (.int v1), some (.int v2), none, some (.int ((((2 : Int32) * v1) + (1 : Int32)) + (1 : Int32))), none]) ⟨_, _, rfl, Or.inr rfl, _, _, rfl, Or.inr rfl, _, _, rfl, Or.inr rfl, _, _, rfl, Or.inl rfl, _, _, rfl, Or.inr rfl, _, _, rfl, Or.inl rfl, rfl⟩ ?_
                  exact (Eval.conv hJ177 (by simp only [if_pos hc176]) rfl)
                · refine Eval.icmpT (t := 77) rfl rfl (flt hc176).2.1 ?_
                  refine Eval.weak (L' := [some (.ref 0), some (.int v1), some (.int v2), none, some (.int (((2 : Int32) * v1) + (1 : Int32))), none]) ⟨_, _, rfl, Or.inr rfl, _, _, rfl, Or.inr rfl, _, _, rfl, Or.inr rfl, _, _, rfl, Or.inl rfl, _, _, rfl, Or.inr rfl, _, _, rfl, Or.inl rfl, rfl⟩ ?_
                  exact (Eval.conv hJ177 (by simp only [if_neg hc176]) rfl)
              exact ev_j_siftDown_b77 R _ hrec s v1 v2 (if (rd s.f_heap ((((2 : Int32) * v1) + (1 : Int32)) + (1 : Int32))) < (rd s.f_heap (((2 : Int32) * v1) + (1 : Int32))) then ((((2 : Int32) * v1) + (1 : Int32)) + (1 : Int32)) else (((2 : Int32) * v1) + (1 : Int32))) h hk
            · rw [if_neg hc173] at h
              refine Eval.icmpT (t := 77) rfl rfl (flt hc173).2.1 ?_
              refine Eval.weak (L' := [some (.ref 0), some (.int v1), some (.int v2), none, some (.int (((2 : Int32) * v1) + (1 : Int32))), none]) ⟨_, _, rfl, Or.inr rfl, _, _, rfl, Or.inr rfl, _, _, rfl, Or.inr rfl, _, _, rfl, Or.inl rfl, _, _, rfl, Or.inr rfl, _, _, rfl, Or.inl rfl, rfl⟩ ?_
              exact ev_j_siftDown_b77 R _ hrec s v1 v2 (((2 : Int32) * v1) + (1 : Int32)) h hk
          · rw [if_neg hc171] at h
            refine Eval.icmpT (t := 77) rfl rfl (flt hc171).2.1 ?_
            refine Eval.weak (L' := [some (.ref 0), some (.int v1), some (.int v2), none, some (.int (((2 : Int32) * v1) + (1 : Int32))), none]) ⟨_, _, rfl, Or.inr rfl, _, _, rfl, Or.inr rfl, _, _, rfl, Or.inr rfl, _, _, rfl, Or.inl rfl, _, _, rfl, Or.inr rfl, _, _, rfl, Or.inl rfl, rfl⟩ ?_
            exact ev_j_siftDown_b77 R _ hrec s v1 v2 (((2 : Int32) * v1) + (1 : Int32)) h hk
        · rw [if_neg hc168] at h
          refine Eval.icmpF rfl (flt hc168).1 ?_
          cases h
          refine Eval.weak (L' := [none, none, none, none, none, none]) ⟨_, _, rfl, Or.inl rfl, _, _, rfl, Or.inl rfl, _, _, rfl, Or.inl rfl, _, _, rfl, Or.inl rfl, _, _, rfl, Or.inl rfl, _, _, rfl, Or.inl rfl, rfl⟩ ?_
          exact hk
      · rw [if_neg hc167] at h
        refine Eval.icmpT (t := 112) rfl rfl (flt hc167).2.1 ?_
        cases h
        refine Eval.weak (L' := [none, none, none, none, none, none]) ⟨_, _, rfl, Or.inl rfl, _, _, rfl, Or.inl rfl, _, _, rfl, Or.inl rfl, _, _, rfl, Or.inl rfl, _, _, rfl, Or.inl rfl, _, _, rfl, Or.inl rfl, rfl⟩ ?_
        exact hk
    · rw [if_neg hc166] at h
      refine Eval.icmpT (t := 112) rfl rfl (flt hc166).2.1 ?_
      cases h
      refine Eval.weak (L' := [none, none, none, none, none, none]) ⟨_, _, rfl, Or.inl rfl, _, _, rfl, Or.inl rfl, _, _, rfl, Or.inl rfl, _, _, rfl, Or.inl rfl, _, _, rfl, Or.inl rfl, _, _, rfl, Or.inl rfl, rfl⟩ ?_
      exact hk
def j_siftDown (s : Q) : Option (Q) := ((j_siftDown_l4 3000 s (0 : Int32) (0 : Int32)).bind fun p184 => Sum.elim (fun p186 => some (p186)) (fun p187 => Sum.elim (fun p189 => some (p189)) (fun p190 => some (p190)) p187) p184)
theorem ln_j_siftDown {s : Q} {res : Q} (h : j_siftDown s = some res) : Q.len res = Q.len s := by
  rw [j_siftDown] at h
  obtain ⟨p184, hq185, h⟩ := bind_some h
  rcases p184 with p186 | p187
  · dsimp only [Sum.elim] at h
    have hl188 : Q.len p186 = _ := Eq.trans (ln_j_siftDown_l4 hq185) rfl
    have hr0 := Option.some.inj h
    subst hr0
    show Q.len p186 = _
    exact hl188
  · dsimp only [Sum.elim] at h
    rcases p187 with p189 | p190
    · dsimp only [Sum.elim] at h
      have hl191 : Q.len p189 = _ := Eq.trans (ln_j_siftDown_l4 hq185) rfl
      have hr0 := Option.some.inj h
      subst hr0
      show Q.len p189 = _
      exact hl191
    · dsimp only [Sum.elim] at h
      have hl192 : Q.len p190 = _ := Eq.trans (ln_j_siftDown_l4 hq185) rfl
      have hr0 := Option.some.inj h
      subst hr0
      show Q.len p190 = _
      exact hl192
set_option maxRecDepth 100000 in
theorem ev_j_siftDown (R : AHeap) (s : Q) {res : Q} {out : Option Value × AHeap} (h : j_siftDown s = some res) (hk : out = (none, (W1 res R))) : Eval own_P 27 0 [some (.ref 0), none, none, none, none, none] [] (W1 s R) out := by
  rw [j_siftDown] at h
  refine Eval.iconst (x := (0 : Int32)) rfl rfl ?_
  refine Eval.istore_n (L' := [some (.ref 0), some (.int (0 : Int32)), none, none, none, none]) rfl rfl ?_
  refine Eval.iconst (x := (0 : Int32)) rfl rfl ?_
  refine Eval.istore_n (L' := [some (.ref 0), some (.int (0 : Int32)), some (.int (0 : Int32)), none, none, none]) rfl rfl ?_
  obtain ⟨p184, hq185, h⟩ := bind_some h
  rcases p184 with p186 | p187
  · dsimp only [Sum.elim] at h
    refine ev_j_siftDown_l4 R _ s (0 : Int32) (0 : Int32) hq185 ?_
    show Eval own_P 27 30 [none, none, none, none, none, none] [] (W1 p186 R) out
    refine Eval.goto (t := 112) rfl rfl ?_
    cases h
    subst hk
    exact Eval.ret rfl rfl
  · dsimp only [Sum.elim] at h
    rcases p187 with p189 | p190
    · dsimp only [Sum.elim] at h
      refine ev_j_siftDown_l4 R _ s (0 : Int32) (0 : Int32) hq185 ?_
      show Eval own_P 27 93 [none, none, none, none, none, none] [] (W1 p189 R) out
      refine Eval.goto (t := 112) rfl rfl ?_
      cases h
      subst hk
      exact Eval.ret rfl rfl
    · dsimp only [Sum.elim] at h
      refine ev_j_siftDown_l4 R _ s (0 : Int32) (0 : Int32) hq185 ?_
      show Eval own_P 27 112 [none, none, none, none, none, none] [] (W1 p190 R) out
      cases h
      subst hk
      exact Eval.ret rfl rfl
def j_applyDeleteMin (s : Q) (v1 : Int32) : Option (Q) := (if (0 : Int32) < s.f_heapSize then (if inb s.f_heap.length (0 : Int32) = true then (if inb s.f_heap.length (s.f_heapSize - (1 : Int32)) = true then (if inb s.f_heap.length (0 : Int32) = true then ((j_siftDown (Q.mk (wr s.f_heap (0 : Int32) (rd s.f_heap (s.f_heapSize - (1 : Int32)))) s.f_lock s.f_list s.f_cursor s.f_phase s.f_opKind s.f_opVal s.f_resStatus s.f_resVal s.f_enlisted s.f_reqKind s.f_reqVal s.f_ready s.f_respStatus s.f_respVal s.f_stamp s.f_n s.f_cap s.f_age s.f_listLen s.f_pass (s.f_heapSize - (1 : Int32)) s.f_applied)).bind fun p193 => (if inb p193.f_respStatus.length v1 = true then (if inb p193.f_respVal.length v1 = true then some ((Q.mk p193.f_heap p193.f_lock p193.f_list p193.f_cursor p193.f_phase p193.f_opKind p193.f_opVal p193.f_resStatus p193.f_resVal p193.f_enlisted p193.f_reqKind p193.f_reqVal p193.f_ready (wr p193.f_respStatus v1 (1 : Int32)) (wr p193.f_respVal v1 (rd s.f_heap (0 : Int32))) p193.f_stamp p193.f_n p193.f_cap p193.f_age p193.f_listLen p193.f_pass p193.f_heapSize p193.f_applied)) else none) else none)) else none) else none) else none) else (if inb s.f_respStatus.length v1 = true then (if inb s.f_respVal.length v1 = true then some ((Q.mk s.f_heap s.f_lock s.f_list s.f_cursor s.f_phase s.f_opKind s.f_opVal s.f_resStatus s.f_resVal s.f_enlisted s.f_reqKind s.f_reqVal s.f_ready (wr s.f_respStatus v1 (3 : Int32)) (wr s.f_respVal v1 (0 : Int32)) s.f_stamp s.f_n s.f_cap s.f_age s.f_listLen s.f_pass s.f_heapSize s.f_applied)) else none) else none))
theorem ln_j_applyDeleteMin {s : Q} {v1 : Int32} {res : Q} (h : j_applyDeleteMin s v1 = some res) : Q.len res = Q.len s := by
  rw [j_applyDeleteMin] at h
  by_cases hc162 : (0 : Int32) < s.f_heapSize
  · rw [if_pos hc162] at h
    obtain ⟨hb163, h⟩ := ite_some h
    obtain ⟨hb164, h⟩ := ite_some h
    obtain ⟨hb165, h⟩ := ite_some h
    obtain ⟨p193, hq194, h⟩ := bind_some h
    have hl195 := (ln_j_siftDown hq194).trans (Eq.trans (show Q.len (Q.mk (wr s.f_heap (0 : Int32) (rd s.f_heap (s.f_heapSize - (1 : Int32)))) s.f_lock s.f_list s.f_cursor s.f_phase s.f_opKind s.f_opVal s.f_resStatus s.f_resVal s.f_enlisted s.f_reqKind s.f_reqVal s.f_ready s.f_respStatus s.f_respVal s.f_stamp s.f_n s.f_cap s.f_age s.f_listLen s.f_pass (s.f_heapSize - (1 : Int32)) s.f_applied) = Q.len s from own_lenmk.trans (by first | (simp only [len_wr, len_wrL] <;> rfl) | rfl)) rfl)
    obtain ⟨hb196, h⟩ := ite_some h
    obtain ⟨hb197, h⟩ := ite_some h
    have hr0 := Option.some.inj h
    subst hr0
    show Q.len (Q.mk p193.f_heap p193.f_lock p193.f_list p193.f_cursor p193.f_phase p193.f_opKind p193.f_opVal p193.f_resStatus p193.f_resVal p193.f_enlisted p193.f_reqKind p193.f_reqVal p193.f_ready (wr p193.f_respStatus v1 (1 : Int32)) (wr p193.f_respVal v1 (rd s.f_heap (0 : Int32))) p193.f_stamp p193.f_n p193.f_cap p193.f_age p193.f_listLen p193.f_pass p193.f_heapSize p193.f_applied) = _
    exact (Eq.trans (show Q.len (Q.mk p193.f_heap p193.f_lock p193.f_list p193.f_cursor p193.f_phase p193.f_opKind p193.f_opVal p193.f_resStatus p193.f_resVal p193.f_enlisted p193.f_reqKind p193.f_reqVal p193.f_ready (wr p193.f_respStatus v1 (1 : Int32)) (wr p193.f_respVal v1 (rd s.f_heap (0 : Int32))) p193.f_stamp p193.f_n p193.f_cap p193.f_age p193.f_listLen p193.f_pass p193.f_heapSize p193.f_applied) = Q.len p193 from own_lenmk.trans (by first | (simp only [len_wr, len_wrL] <;> rfl) | rfl)) hl195)
  · rw [if_neg hc162] at h
    obtain ⟨hb198, h⟩ := ite_some h
    obtain ⟨hb199, h⟩ := ite_some h
    have hr0 := Option.some.inj h
    subst hr0
    show Q.len (Q.mk s.f_heap s.f_lock s.f_list s.f_cursor s.f_phase s.f_opKind s.f_opVal s.f_resStatus s.f_resVal s.f_enlisted s.f_reqKind s.f_reqVal s.f_ready (wr s.f_respStatus v1 (3 : Int32)) (wr s.f_respVal v1 (0 : Int32)) s.f_stamp s.f_n s.f_cap s.f_age s.f_listLen s.f_pass s.f_heapSize s.f_applied) = _
    exact (Eq.trans (show Q.len (Q.mk s.f_heap s.f_lock s.f_list s.f_cursor s.f_phase s.f_opKind s.f_opVal s.f_resStatus s.f_resVal s.f_enlisted s.f_reqKind s.f_reqVal s.f_ready (wr s.f_respStatus v1 (3 : Int32)) (wr s.f_respVal v1 (0 : Int32)) s.f_stamp s.f_n s.f_cap s.f_age s.f_listLen s.f_pass s.f_heapSize s.f_applied) = Q.len s from own_lenmk.trans (by first | (simp only [len_wr, len_wrL] <;> rfl) | rfl)) rfl)
set_option maxRecDepth 100000 in
theorem ev_j_applyDeleteMin (R : AHeap) (s : Q) (v1 : Int32) {res : Q} {out : Option Value × AHeap} (h : j_applyDeleteMin s v1 = some res) (hk : out = (none, (W1 res R))) : Eval own_P 26 0 [some (.ref 0), some (.int v1), none] [] (W1 s R) out := by
  rw [j_applyDeleteMin] at h
  refine Eval.aload_n rfl rfl ?_
  refine Eval.getfield rfl rfl own_g1_heapSize ?_
  by_cases hc162 : (0 : Int32) < s.f_heapSize
  · rw [if_pos hc162] at h
    refine Eval.ifT (t := 22) rfl rfl (tlt hc162).2.2.1 ?_
    refine Eval.aload_n rfl rfl ?_
    refine Eval.getfield rfl rfl own_g1_heap ?_
    refine Eval.iconst (x := (0 : Int32)) rfl rfl ?_
    obtain ⟨hb163, h⟩ := ite_some h
    refine Eval.iaload rfl own_a1_heap hb163 ?_
    refine Eval.istore_n (L' := [some (.ref 0), some (.int v1), some (.int (rd s.f_heap (0 : Int32)))]) rfl rfl ?_
    refine Eval.aload_n rfl rfl ?_
    refine Eval.dupR rfl ?_
    refine Eval.getfield rfl rfl own_g1_heapSize ?_
    refine Eval.iconst (x := (1 : Int32)) rfl rfl ?_
    refine Eval.isub rfl ?_
    refine Eval.putfield rfl rfl own_p1_heapSize ?_
    refine Eval.aload_n rfl rfl ?_
    refine Eval.getfield rfl rfl own_g1_heap ?_
    refine Eval.iconst (x := (0 : Int32)) rfl rfl ?_
    refine Eval.aload_n rfl rfl ?_
    refine Eval.getfield rfl rfl own_g1_heap ?_
    refine Eval.aload_n rfl rfl ?_
    refine Eval.getfield rfl rfl own_g1_heapSize ?_
    obtain ⟨hb164, h⟩ := ite_some h
    refine Eval.iaload rfl own_a1_heap hb164 ?_
    obtain ⟨hb165, h⟩ := ite_some h
    refine Eval.iastore rfl rfl own_a1_heap hb165 own_s1_heap ?_
    refine Eval.aload_n rfl rfl ?_
    obtain ⟨p193, hq194, h⟩ := bind_some h
    refine Eval.callN (rest := []) (H1 := (W1 p193 R)) rfl rfl (Eval.heap own_mk1 (ev_j_siftDown R (Q.mk (wr s.f_heap (0 : Int32) (rd s.f_heap (s.f_heapSize - (1 : Int32)))) s.f_lock s.f_list s.f_cursor s.f_phase s.f_opKind s.f_opVal s.f_resStatus s.f_resVal s.f_enlisted s.f_reqKind s.f_reqVal s.f_ready s.f_respStatus s.f_respVal s.f_stamp s.f_n s.f_cap s.f_age s.f_listLen s.f_pass (s.f_heapSize - (1 : Int32)) s.f_applied) hq194 rfl)) ?_
    refine Eval.aload_n rfl rfl ?_
    refine Eval.getfield rfl rfl own_g1_respStatus ?_
    refine Eval.iload_n rfl rfl ?_
    refine Eval.iconst (x := (1 : Int32)) rfl rfl ?_
    obtain ⟨hb196, h⟩ := ite_some h
    refine Eval.iastore rfl rfl own_a1_respStatus hb196 own_s1_respStatus ?_
    refine Eval.aload_n rfl rfl ?_
    refine Eval.getfield rfl rfl own_g1_respVal ?_
    refine Eval.iload_n rfl rfl ?_
    refine Eval.iload_n rfl rfl ?_
    obtain ⟨hb197, h⟩ := ite_some h
    refine Eval.iastore rfl rfl own_a1_respVal hb197 own_s1_respVal ?_
    cases h
    subst hk
    exact Eval.retH own_mk1 rfl rfl
  · rw [if_neg hc162] at h
    refine Eval.ifF rfl (flt hc162).2.2.1 ?_
    refine Eval.aload_n rfl rfl ?_
    refine Eval.getfield rfl rfl own_g1_respStatus ?_
    refine Eval.iload_n rfl rfl ?_
    refine Eval.iconst (x := (3 : Int32)) rfl rfl ?_
    obtain ⟨hb198, h⟩ := ite_some h
    refine Eval.iastore rfl rfl own_a1_respStatus hb198 own_s1_respStatus ?_
    refine Eval.aload_n rfl rfl ?_
    refine Eval.getfield rfl rfl own_g1_respVal ?_
    refine Eval.iload_n rfl rfl ?_
    refine Eval.iconst (x := (0 : Int32)) rfl rfl ?_
    obtain ⟨hb199, h⟩ := ite_some h
    refine Eval.iastore rfl rfl own_a1_respVal hb199 own_s1_respVal ?_
    cases h
    subst hk
    exact Eval.retH own_mk1 rfl rfl
def j_serve (s : Q) (v1 : Int32) : Option (Q) := (if inb s.f_reqKind.length v1 = true then (if (rd s.f_reqKind v1) = (1 : Int32) then ((j_applyInsert s v1).bind fun p156 => (j_serve_b23 p156 v1)) else ((j_applyDeleteMin s v1).bind fun p200 => (j_serve_b23 p200 v1))) else none)
theorem ln_j_serve {s : Q} {v1 : Int32} {res : Q} (h : j_serve s v1 = some res) : Q.len res = Q.len s := by
  rw [j_serve] at h
  obtain ⟨hb120, h⟩ := ite_some h
  by_cases hc122 : (rd s.f_reqKind v1) = (1 : Int32)
  · rw [if_pos hc122] at h
    obtain ⟨p156, hq157, h⟩ := bind_some h
    have hl158 := (ln_j_applyInsert hq157).trans rfl
    exact Eq.trans (ln_j_serve_b23 h) hl158
  · rw [if_neg hc122] at h
    obtain ⟨p200, hq201, h⟩ := bind_some h
    have hl202 := (ln_j_applyDeleteMin hq201).trans rfl
    exact Eq.trans (ln_j_serve_b23 h) hl202
set_option maxRecDepth 100000 in
theorem ev_j_serve (R : AHeap) (s : Q) (v1 : Int32) {res : Q} {out : Option Value × AHeap} (h : j_serve s v1 = some res) (hk : out = (none, (W1 res R))) : Eval own_P 13 0 [some (.ref 0), some (.int v1)] [] (W1 s R) out := by
  rw [j_serve] at h
  refine Eval.aload_n rfl rfl ?_
  refine Eval.getfield rfl rfl own_g1_reqKind ?_
  refine Eval.iload_n rfl rfl ?_
  obtain ⟨hb120, h⟩ := ite_some h
  refine Eval.iaload rfl own_a1_reqKind hb120 ?_
  refine Eval.iconst (x := (1 : Int32)) rfl rfl ?_
  by_cases hc122 : (rd s.f_reqKind v1) = (1 : Int32)
  · rw [if_pos hc122] at h
    refine Eval.icmpF rfl (teq hc122).2 ?_
    refine Eval.aload_n rfl rfl ?_
    refine Eval.iload_n rfl rfl ?_
    obtain ⟨p156, hq157, h⟩ := bind_some h
    refine Eval.callN (rest := []) (H1 := (W1 p156 R)) rfl rfl (ev_j_applyInsert R s v1 hq157 rfl) ?_
    refine Eval.goto (t := 23) rfl rfl ?_
    exact ev_j_serve_b23 R p156 v1 h hk
  · rw [if_neg hc122] at h
    refine Eval.icmpT (t := 18) rfl rfl (feq hc122).2 ?_
    refine Eval.aload_n rfl rfl ?_
    refine Eval.iload_n rfl rfl ?_
    obtain ⟨p200, hq201, h⟩ := bind_some h
    refine Eval.callN (rest := []) (H1 := (W1 p200 R)) rfl rfl (ev_j_applyDeleteMin R s v1 hq201 rfl) ?_
    exact ev_j_serve_b23 R p200 v1 h hk
def j_stepCombine_b57 (s : Q) (v2 : Int32) (v3 : Int32) (w0 : Int32) : Option (Int32 × Q) := (if inb s.f_reqKind.length v2 = true then (if (rd s.f_reqKind v2) = (0 : Int32) then (if inb s.f_stamp.length v2 = true then (if (s.f_pass - (rd s.f_stamp v2)) < s.f_age then (j_stepCombine_b121 s w0 (10 : Int32)) else none) else none) else ((j_serve s v2).bind fun p203 => (j_stepCombine_b121 p203 w0 (8 : Int32)))) else none)
theorem ln_j_stepCombine_b57 {s : Q} {v2 : Int32} {v3 : Int32} {w0 : Int32} {res : Int32 × Q} (h : j_stepCombine_b57 s v2 v3 w0 = some res) : Q.len res.2 = Q.len s := by
  rw [j_stepCombine_b57] at h
  obtain ⟨hb114, h⟩ := ite_some h
  by_cases hc116 : (rd s.f_reqKind v2) = (0 : Int32)
  · rw [if_pos hc116] at h
    obtain ⟨hb117, h⟩ := ite_some h
    by_cases hc119 : (s.f_pass - (rd s.f_stamp v2)) < s.f_age
    · rw [if_pos hc119] at h
      exact Eq.trans (ln_j_stepCombine_b121 h) rfl
    · rw [if_neg hc119] at h
      cases h
  · rw [if_neg hc116] at h
    obtain ⟨p203, hq204, h⟩ := bind_some h
    have hl205 := (ln_j_serve hq204).trans rfl
    exact Eq.trans (ln_j_stepCombine_b121 h) hl205
set_option maxRecDepth 100000 in
theorem ev_j_stepCombine_b57 (R : AHeap) (s : Q) (v2 : Int32) (v3 : Int32) (w0 : Int32) {res : Int32 × Q} {out : Option Value × AHeap} (h : j_stepCombine_b57 s v2 v3 w0 = some res) (hk : out = (some (.int res.1), (W1 res.2 R))) : Eval own_P 11 57 [some (.ref 0), none, some (.int v2), some (.int v3), none, none] [.int w0] (W1 s R) out := by
  rw [j_stepCombine_b57] at h
  refine Eval.istore (L' := [some (.ref 0), none, some (.int v2), some (.int v3), some (.int w0), none]) rfl rfl ?_
  refine Eval.aload_n rfl rfl ?_
  refine Eval.getfield rfl rfl own_g1_reqKind ?_
  refine Eval.iload_n rfl rfl ?_
  obtain ⟨hb114, h⟩ := ite_some h
  refine Eval.iaload rfl own_a1_reqKind hb114 ?_
  by_cases hc116 : (rd s.f_reqKind v2) = (0 : Int32)
  · rw [if_pos hc116] at h
    refine Eval.ifT (t := 80) rfl rfl (teq hc116).1 ?_
    refine Eval.aload_n rfl rfl ?_
    refine Eval.getfield rfl rfl own_g1_pass ?_
    refine Eval.aload_n rfl rfl ?_
    refine Eval.getfield rfl rfl own_g1_stamp ?_
    refine Eval.iload_n rfl rfl ?_
    obtain ⟨hb117, h⟩ := ite_some h
    refine Eval.iaload rfl own_a1_stamp hb117 ?_
    refine Eval.isub rfl ?_
    refine Eval.aload_n rfl rfl ?_
    refine Eval.getfield rfl rfl own_g1_age ?_
    by_cases hc119 : (s.f_pass - (rd s.f_stamp v2)) < s.f_age
    · rw [if_pos hc119] at h
      refine Eval.icmpT (t := 117) rfl rfl (tlt hc119).1 ?_
      refine Eval.bipush (x := (10 : Int32)) rfl rfl ?_
      refine Eval.istore (L' := [some (.ref 0), none, some (.int v2), some (.int v3), some (.int w0), some (.int (10 : Int32))]) rfl rfl ?_
      refine Eval.weak (L' := [some (.ref 0), none, none, none, some (.int w0), some (.int (10 : Int32))]) ⟨_, _, rfl, Or.inr rfl, _, _, rfl, Or.inl rfl, _, _, rfl, Or.inl rfl, _, _, rfl, Or.inl rfl, _, _, rfl, Or.inr rfl, _, _, rfl, Or.inr rfl, rfl⟩ ?_
      exact ev_j_stepCombine_b121 R s w0 (10 : Int32) h hk
    · rw [if_neg hc119] at h
      refine Eval.icmpF rfl (flt hc119).1 ?_
      refine Eval.aload_n rfl rfl ?_
      refine Eval.iload_n rfl rfl ?_
      cases h
  · rw [if_neg hc116] at h
    refine Eval.ifF rfl (feq hc116).1 ?_
    refine Eval.aload_n rfl rfl ?_
    refine Eval.iload_n rfl rfl ?_
    obtain ⟨p203, hq204, h⟩ := bind_some h
    refine Eval.callN (rest := []) (H1 := (W1 p203 R)) rfl rfl (ev_j_serve R s v2 hq204 rfl) ?_
    refine Eval.bipush (x := (8 : Int32)) rfl rfl ?_
    refine Eval.istore (L' := [some (.ref 0), none, some (.int v2), some (.int v3), some (.int w0), some (.int (8 : Int32))]) rfl rfl ?_
    refine Eval.goto (t := 121) rfl rfl ?_
    refine Eval.weak (L' := [some (.ref 0), none, none, none, some (.int w0), some (.int (8 : Int32))]) ⟨_, _, rfl, Or.inr rfl, _, _, rfl, Or.inl rfl, _, _, rfl, Or.inl rfl, _, _, rfl, Or.inl rfl, _, _, rfl, Or.inr rfl, _, _, rfl, Or.inr rfl, rfl⟩ ?_
    exact ev_j_stepCombine_b121 R p203 w0 (8 : Int32) h hk
def j_stepCombine (s : Q) (v1 : Int32) : Option (Int32 × Q) := (if s.f_cursor = (-1 : Int32) then ((j_endPass s v1).bind fun p95 => some (p95.1, p95.2)) else ((j_indexOf s s.f_cursor).bind fun p105 => (if p105 < (0 : Int32) then ((j_endPass s v1).bind fun p108 => some (p108.1, p108.2)) else (if (p105 + (1 : Int32)) < s.f_listLen then (if inb s.f_list.length (p105 + (1 : Int32)) = true then (j_stepCombine_b57 s s.f_cursor p105 (rd s.f_list (p105 + (1 : Int32)))) else none) else (j_stepCombine_b57 s s.f_cursor p105 (-1 : Int32))))))
theorem ln_j_stepCombine {s : Q} {v1 : Int32} {res : Int32 × Q} (h : j_stepCombine s v1 = some res) : Q.len res.2 = Q.len s := by
  rw [j_stepCombine] at h
  by_cases hc87 : s.f_cursor = (-1 : Int32)
  · rw [if_pos hc87] at h
    obtain ⟨p95, hq96, h⟩ := bind_some h
    have hl97 := (ln_j_endPass hq96).trans rfl
    have hr0 := Option.some.inj h
    subst hr0
    show Q.len p95.2 = _
    exact hl97
  · rw [if_neg hc87] at h
    obtain ⟨p105, hq106, h⟩ := bind_some h
    by_cases hc107 : p105 < (0 : Int32)
    · rw [if_pos hc107] at h
      obtain ⟨p108, hq109, h⟩ := bind_some h
      have hl110 := (ln_j_endPass hq109).trans rfl
      have hr0 := Option.some.inj h
      subst hr0
      show Q.len p108.2 = _
      exact hl110
    · rw [if_neg hc107] at h
      by_cases hc112 : (p105 + (1 : Int32)) < s.f_listLen
      · rw [if_pos hc112] at h
        obtain ⟨hb113, h⟩ := ite_some h
        exact Eq.trans (ln_j_stepCombine_b57 h) rfl
      · rw [if_neg hc112] at h
        exact Eq.trans (ln_j_stepCombine_b57 h) rfl
set_option maxRecDepth 100000 in
theorem ev_j_stepCombine (R : AHeap) (s : Q) (v1 : Int32) {res : Int32 × Q} {out : Option Value × AHeap} (h : j_stepCombine s v1 = some res) (hk : out = (some (.int res.1), (W1 res.2 R))) : Eval own_P 11 0 [some (.ref 0), some (.int v1), none, none, none, none] [] (W1 s R) out := by
  rw [j_stepCombine] at h
  refine Eval.aload_n rfl rfl ?_
  refine Eval.getfield rfl rfl own_g1_cursor ?_
  refine Eval.iconst (x := (-1 : Int32)) rfl rfl ?_
  by_cases hc87 : s.f_cursor = (-1 : Int32)
  · rw [if_pos hc87] at h
    refine Eval.icmpF rfl (teq hc87).2 ?_
    refine Eval.aload_n rfl rfl ?_
    refine Eval.iload_n rfl rfl ?_
    obtain ⟨p95, hq96, h⟩ := bind_some h
    refine Eval.callI (rest := []) (x := p95.1) (H1 := (W1 p95.2 R)) rfl rfl (ev_j_endPass R s v1 hq96 rfl) ?_
    cases h
    subst hk
    exact Eval.ret rfl rfl
  · rw [if_neg hc87] at h
    refine Eval.icmpT (t := 14) rfl rfl (feq hc87).2 ?_
    refine Eval.aload_n rfl rfl ?_
    refine Eval.getfield rfl rfl own_g1_cursor ?_
    refine Eval.istore_n (L' := [some (.ref 0), some (.int v1), some (.int s.f_cursor), none, none, none]) rfl rfl ?_
    refine Eval.aload_n rfl rfl ?_
    refine Eval.iload_n rfl rfl ?_
    obtain ⟨p105, hq106, h⟩ := bind_some h
    refine Eval.callI (rest := []) (x := p105) (H1 := (W1 s R)) rfl rfl (ev_j_indexOf R s s.f_cursor hq106 rfl) ?_
    refine Eval.istore_n (L' := [some (.ref 0), some (.int v1), some (.int s.f_cursor), some (.int p105), none, none]) rfl rfl ?_
    refine Eval.iload_n rfl rfl ?_
    by_cases hc107 : p105 < (0 : Int32)
    · rw [if_pos hc107] at h
      refine Eval.ifF rfl (tlt hc107).2.1 ?_
      refine Eval.aload_n rfl rfl ?_
      refine Eval.iload_n rfl rfl ?_
      obtain ⟨p108, hq109, h⟩ := bind_some h
      refine Eval.callI (rest := []) (x := p108.1) (H1 := (W1 p108.2 R)) rfl rfl (ev_j_endPass R s v1 hq109 rfl) ?_
      cases h
      subst hk
      exact Eval.ret rfl rfl
    · rw [if_neg hc107] at h
      refine Eval.ifT (t := 35) rfl rfl (flt hc107).2.1 ?_
      refine Eval.iload_n rfl rfl ?_
      refine Eval.iconst (x := (1 : Int32)) rfl rfl ?_
      refine Eval.iadd rfl ?_
      refine Eval.aload_n rfl rfl ?_
      refine Eval.getfield rfl rfl own_g1_listLen ?_
      by_cases hc112 : (p105 + (1 : Int32)) < s.f_listLen
      · rw [if_pos hc112] at h
        refine Eval.icmpF rfl (tlt hc112).2.1 ?_
        refine Eval.aload_n rfl rfl ?_
        refine Eval.getfield rfl rfl own_g1_list ?_
        refine Eval.iload_n rfl rfl ?_
        refine Eval.iconst (x := (1 : Int32)) rfl rfl ?_
        refine Eval.iadd rfl ?_
        obtain ⟨hb113, h⟩ := ite_some h
        refine Eval.iaload rfl own_a1_list hb113 ?_
        refine Eval.goto (t := 57) rfl rfl ?_
        refine Eval.weak (L' := [some (.ref 0), none, some (.int s.f_cursor), some (.int p105), none, none]) ⟨_, _, rfl, Or.inr rfl, _, _, rfl, Or.inl rfl, _, _, rfl, Or.inr rfl, _, _, rfl, Or.inr rfl, _, _, rfl, Or.inl rfl, _, _, rfl, Or.inl rfl, rfl⟩ ?_
        exact ev_j_stepCombine_b57 R s s.f_cursor p105 (rd s.f_list (p105 + (1 : Int32))) h hk
      · rw [if_neg hc112] at h
        refine Eval.icmpT (t := 56) rfl rfl (flt hc112).2.1 ?_
        refine Eval.iconst (x := (-1 : Int32)) rfl rfl ?_
        refine Eval.weak (L' := [some (.ref 0), none, some (.int s.f_cursor), some (.int p105), none, none]) ⟨_, _, rfl, Or.inr rfl, _, _, rfl, Or.inl rfl, _, _, rfl, Or.inr rfl, _, _, rfl, Or.inr rfl, _, _, rfl, Or.inl rfl, _, _, rfl, Or.inl rfl, rfl⟩ ?_
        exact ev_j_stepCombine_b57 R s s.f_cursor p105 (-1 : Int32) h hk
def j_step (s : Q) (v1 : Int32) : Option (Int32 × Q) := (if (j_valid s v1) = (0 : Int32) then some ((-1 : Int32), s) else (if inb s.f_phase.length v1 = true then (if (rd s.f_phase v1) = (0 : Int32) then some ((-1 : Int32), s) else (if inb s.f_phase.length v1 = true then (if (rd s.f_phase v1) = (1 : Int32) then ((j_stepPublish s v1).bind fun p57 => some (p57.1, p57.2)) else (if (rd s.f_phase v1) = (2 : Int32) then ((j_stepTryLock s v1).bind fun p67 => some (p67.1, p67.2)) else (if (rd s.f_phase v1) = (3 : Int32) then ((j_stepSpin s v1).bind fun p84 => some (p84.1, p84.2)) else ((j_stepCombine s v1).bind fun p206 => some (p206.1, p206.2))))) else none)) else none))
theorem ln_j_step {s : Q} {v1 : Int32} {res : Int32 × Q} (h : j_step s v1 = some res) : Q.len res.2 = Q.len s := by
  rw [j_step] at h
  by_cases hc31 : (j_valid s v1) = (0 : Int32)
  · rw [if_pos hc31] at h
    have hr0 := Option.some.inj h
    subst hr0
    show Q.len s = _
    exact rfl
  · rw [if_neg hc31] at h
    obtain ⟨hb32, h⟩ := ite_some h
    by_cases hc33 : (rd s.f_phase v1) = (0 : Int32)
    · rw [if_pos hc33] at h
      have hr0 := Option.some.inj h
      subst hr0
      show Q.len s = _
      exact rfl
    · rw [if_neg hc33] at h
      obtain ⟨hb34, h⟩ := ite_some h
      by_cases hc35 : (rd s.f_phase v1) = (1 : Int32)
      · rw [if_pos hc35] at h
        obtain ⟨p57, hq58, h⟩ := bind_some h
        have hl59 := (ln_j_stepPublish hq58).trans rfl
        have hr0 := Option.some.inj h
        subst hr0
        show Q.len p57.2 = _
        exact hl59
      · rw [if_neg hc35] at h
        by_cases hc60 : (rd s.f_phase v1) = (2 : Int32)
        · rw [if_pos hc60] at h
          obtain ⟨p67, hq68, h⟩ := bind_some h
          have hl69 := (ln_j_stepTryLock hq68).trans rfl
          have hr0 := Option.some.inj h
          subst hr0
          show Q.len p67.2 = _
          exact hl69
        · rw [if_neg hc60] at h
          by_cases hc70 : (rd s.f_phase v1) = (3 : Int32)
          · rw [if_pos hc70] at h
            obtain ⟨p84, hq85, h⟩ := bind_some h
            have hl86 := (ln_j_stepSpin hq85).trans rfl
            have hr0 := Option.some.inj h
            subst hr0
            show Q.len p84.2 = _
            exact hl86
          · rw [if_neg hc70] at h
            obtain ⟨p206, hq207, h⟩ := bind_some h
            have hl208 := (ln_j_stepCombine hq207).trans rfl
            have hr0 := Option.some.inj h
            subst hr0
            show Q.len p206.2 = _
            exact hl208
set_option maxRecDepth 100000 in
theorem ev_j_step (R : AHeap) (s : Q) (v1 : Int32) {res : Int32 × Q} {out : Option Value × AHeap} (h : j_step s v1 = some res) (hk : out = (some (.int res.1), (W1 res.2 R))) : Eval own_P 7 0 [some (.ref 0), some (.int v1), none] [] (W1 s R) out := by
  rw [j_step] at h
  refine Eval.aload_n rfl rfl ?_
  refine Eval.iload_n rfl rfl ?_
  refine Eval.callI (rest := []) (x := (j_valid s v1)) (H1 := (W1 s R)) rfl rfl (ev_j_valid R s v1 rfl rfl) ?_
  by_cases hc31 : (j_valid s v1) = (0 : Int32)
  · rw [if_pos hc31] at h
    refine Eval.ifT (t := 17) rfl rfl (teq hc31).1 ?_
    refine Eval.iconst (x := (-1 : Int32)) rfl rfl ?_
    cases h
    subst hk
    exact Eval.ret rfl rfl
  · rw [if_neg hc31] at h
    refine Eval.ifF rfl (feq hc31).1 ?_
    refine Eval.aload_n rfl rfl ?_
    refine Eval.getfield rfl rfl own_g1_phase ?_
    refine Eval.iload_n rfl rfl ?_
    obtain ⟨hb32, h⟩ := ite_some h
    refine Eval.iaload rfl own_a1_phase hb32 ?_
    by_cases hc33 : (rd s.f_phase v1) = (0 : Int32)
    · rw [if_pos hc33] at h
      refine Eval.ifF rfl (teq hc33).2 ?_
      refine Eval.iconst (x := (-1 : Int32)) rfl rfl ?_
      cases h
      subst hk
      exact Eval.ret rfl rfl
    · rw [if_neg hc33] at h
      refine Eval.ifT (t := 19) rfl rfl (feq hc33).2 ?_
      refine Eval.aload_n rfl rfl ?_
      refine Eval.getfield rfl rfl own_g1_phase ?_
      refine Eval.iload_n rfl rfl ?_
      obtain ⟨hb34, h⟩ := ite_some h
      refine Eval.iaload rfl own_a1_phase hb34 ?_
      refine Eval.istore_n (L' := [some (.ref 0), some (.int v1), some (.int (rd s.f_phase v1))]) rfl rfl ?_
      refine Eval.iload_n rfl rfl ?_
      refine Eval.iconst (x := (1 : Int32)) rfl rfl ?_
      by_cases hc35 : (rd s.f_phase v1) = (1 : Int32)
      · rw [if_pos hc35] at h
        refine Eval.icmpF rfl (teq hc35).2 ?_
        refine Eval.aload_n rfl rfl ?_
        refine Eval.iload_n rfl rfl ?_
        obtain ⟨p57, hq58, h⟩ := bind_some h
        refine Eval.callI (rest := []) (x := p57.1) (H1 := (W1 p57.2 R)) rfl rfl (ev_j_stepPublish R s v1 hq58 rfl) ?_
        cases h
        subst hk
        exact Eval.ret rfl rfl
      · rw [if_neg hc35] at h
        refine Eval.icmpT (t := 37) rfl rfl (feq hc35).2 ?_
        refine Eval.iload_n rfl rfl ?_
        refine Eval.iconst (x := (2 : Int32)) rfl rfl ?_
        by_cases hc60 : (rd s.f_phase v1) = (2 : Int32)
        · rw [if_pos hc60] at h
          refine Eval.icmpF rfl (teq hc60).2 ?_
          refine Eval.aload_n rfl rfl ?_
          refine Eval.iload_n rfl rfl ?_
          obtain ⟨p67, hq68, h⟩ := bind_some h
          refine Eval.callI (rest := []) (x := p67.1) (H1 := (W1 p67.2 R)) rfl rfl (ev_j_stepTryLock R s v1 hq68 rfl) ?_
          cases h
          subst hk
          exact Eval.ret rfl rfl
        · rw [if_neg hc60] at h
          refine Eval.icmpT (t := 48) rfl rfl (feq hc60).2 ?_
          refine Eval.iload_n rfl rfl ?_
          refine Eval.iconst (x := (3 : Int32)) rfl rfl ?_
          by_cases hc70 : (rd s.f_phase v1) = (3 : Int32)
          · rw [if_pos hc70] at h
            refine Eval.icmpF rfl (teq hc70).2 ?_
            refine Eval.aload_n rfl rfl ?_
            refine Eval.iload_n rfl rfl ?_
            obtain ⟨p84, hq85, h⟩ := bind_some h
            refine Eval.callI (rest := []) (x := p84.1) (H1 := (W1 p84.2 R)) rfl rfl (ev_j_stepSpin R s v1 hq85 rfl) ?_
            cases h
            subst hk
            exact Eval.ret rfl rfl
          · rw [if_neg hc70] at h
            refine Eval.icmpT (t := 59) rfl rfl (feq hc70).2 ?_
            refine Eval.aload_n rfl rfl ?_
            refine Eval.iload_n rfl rfl ?_
            obtain ⟨p206, hq207, h⟩ := bind_some h
            refine Eval.callI (rest := []) (x := p206.1) (H1 := (W1 p206.2 R)) rfl rfl (ev_j_stepCombine R s v1 hq207 rfl) ?_
            cases h
            subst hk
            exact Eval.ret rfl rfl
def j_round_l4 : Nat → Q → Int32 → Int32 → Option (Int32 × Q)
  | 0, _, _, _ => none
  | n + 1, s, v1, v2 => (if v2 < s.f_n then (if inb s.f_phase.length v2 = true then (if (rd s.f_phase v2) = (0 : Int32) then (j_round_b30 (j_round_l4 n) s v1 v2) else ((j_step s v2).bind fun p209 => (j_round_b30 (j_round_l4 n) p209.2 (v1 + (1 : Int32)) v2))) else none) else some (v1, s))
theorem ln_j_round_l4 : ∀ {n : Nat} {s : Q} {v1 : Int32} {v2 : Int32} {res : Int32 × Q}, j_round_l4 n s v1 v2 = some res → j_round_l4_N s res := by
  intro n
  induction n with
  | zero => intro _ _ _ res h; cases h
  | succ n hrec0 =>
    have hrec : ∀ (s : Q) (v1 : Int32) (v2 : Int32) {res : Int32 × Q}, j_round_l4 n s v1 v2 = some res → j_round_l4_N s res := by intros; apply hrec0; assumption
    intro s v1 v2 res h
    rw [j_round_l4] at h
    by_cases hc27 : v2 < s.f_n
    · rw [if_pos hc27] at h
      obtain ⟨hb28, h⟩ := ite_some h
      by_cases hc30 : (rd s.f_phase v2) = (0 : Int32)
      · rw [if_pos hc30] at h
        exact Eq.trans (ln_j_round_b30 hrec h) rfl
      · rw [if_neg hc30] at h
        obtain ⟨p209, hq210, h⟩ := bind_some h
        have hl211 := (ln_j_step hq210).trans rfl
        exact Eq.trans (ln_j_round_b30 hrec h) hl211
    · rw [if_neg hc27] at h
      have hr0 := Option.some.inj h
      subst hr0
      show Q.len s = _
      exact rfl
set_option maxRecDepth 100000 in
theorem ev_j_round_l4 (R : AHeap) : ∀ (n : Nat) (s : Q) (v1 : Int32) (v2 : Int32) {res : Int32 × Q} {out : Option Value × AHeap}, j_round_l4 n s v1 v2 = some res → j_round_l4_K R res out → Eval own_P 6 4 [some (.ref 0), some (.int v1), some (.int v2)] [] (W1 s R) out := by
  intro n
  induction n with
  | zero => intro _ _ _ res out h hk; cases h
  | succ n hrec =>
    intro s v1 v2 res out h hk
    rw [j_round_l4] at h
    refine Eval.iload_n rfl rfl ?_
    refine Eval.aload_n rfl rfl ?_
    refine Eval.getfield rfl rfl own_g1_n ?_
    by_cases hc27 : v2 < s.f_n
    · rw [if_pos hc27] at h
      refine Eval.icmpF rfl (tlt hc27).2.1 ?_
      refine Eval.aload_n rfl rfl ?_
      refine Eval.getfield rfl rfl own_g1_phase ?_
      refine Eval.iload_n rfl rfl ?_
      obtain ⟨hb28, h⟩ := ite_some h
      refine Eval.iaload rfl own_a1_phase hb28 ?_
      by_cases hc30 : (rd s.f_phase v2) = (0 : Int32)
      · rw [if_pos hc30] at h
        refine Eval.ifT (t := 30) rfl rfl (teq hc30).1 ?_
        exact ev_j_round_b30 R _ hrec s v1 v2 h hk
      · rw [if_neg hc30] at h
        refine Eval.ifF rfl (feq hc30).1 ?_
        refine Eval.aload_n rfl rfl ?_
        refine Eval.iload_n rfl rfl ?_
        obtain ⟨p209, hq210, h⟩ := bind_some h
        refine Eval.callI (rest := []) (x := p209.1) (H1 := (W1 p209.2 R)) rfl rfl (ev_j_step R s v2 hq210 rfl) ?_
        refine Eval.popI rfl ?_
        refine Eval.iinc (L' := [some (.ref 0), some (.int (v1 + (1 : Int32))), some (.int v2)]) rfl rfl rfl ?_
        exact ev_j_round_b30 R _ hrec p209.2 (v1 + (1 : Int32)) v2 h hk
    · rw [if_neg hc27] at h
      refine Eval.icmpT (t := 36) rfl rfl (flt hc27).2.1 ?_
      cases h
      refine Eval.weak (L' := [none, some (.int v1), none]) ⟨_, _, rfl, Or.inl rfl, _, _, rfl, Or.inr rfl, _, _, rfl, Or.inl rfl, rfl⟩ ?_
      exact hk
def j_round (s : Q) : Option (Int32 × Q) := ((j_round_l4 3000 s (0 : Int32) (0 : Int32)).bind fun p212 => some (p212.1, p212.2))
theorem ln_j_round {s : Q} {res : Int32 × Q} (h : j_round s = some res) : Q.len res.2 = Q.len s := by
  rw [j_round] at h
  obtain ⟨p212, hq213, h⟩ := bind_some h
  have hl214 : Q.len p212.2 = _ := Eq.trans (ln_j_round_l4 hq213) rfl
  have hr0 := Option.some.inj h
  subst hr0
  show Q.len p212.2 = _
  exact hl214
set_option maxRecDepth 100000 in
theorem ev_j_round (R : AHeap) (s : Q) {res : Int32 × Q} {out : Option Value × AHeap} (h : j_round s = some res) (hk : out = (some (.int res.1), (W1 res.2 R))) : Eval own_P 6 0 [some (.ref 0), none, none] [] (W1 s R) out := by
  rw [j_round] at h
  refine Eval.iconst (x := (0 : Int32)) rfl rfl ?_
  refine Eval.istore_n (L' := [some (.ref 0), some (.int (0 : Int32)), none]) rfl rfl ?_
  refine Eval.iconst (x := (0 : Int32)) rfl rfl ?_
  refine Eval.istore_n (L' := [some (.ref 0), some (.int (0 : Int32)), some (.int (0 : Int32))]) rfl rfl ?_
  obtain ⟨p212, hq213, h⟩ := bind_some h
  refine ev_j_round_l4 R _ s (0 : Int32) (0 : Int32) hq213 ?_
  show Eval own_P 6 36 [none, some (.int p212.1), none] [] (W1 p212.2 R) out
  refine Eval.iload_n rfl rfl ?_
  cases h
  subst hk
  exact Eval.ret rfl rfl
def h_fiveRounds (s : Q) : Option (Int32 × Q) := ((j_round s).bind fun p215 => ((j_round p215.2).bind fun p218 => ((j_round p218.2).bind fun p221 => ((j_round p221.2).bind fun p224 => ((j_round p224.2).bind fun p227 => (if p215.1 = (2 : Int32) then (if p218.1 = (2 : Int32) then (if p221.1 = (2 : Int32) then (if p224.1 = (1 : Int32) then (if p227.1 = (1 : Int32) then some ((1 : Int32), p227.2) else some ((0 : Int32), p227.2)) else some ((0 : Int32), p227.2)) else some ((0 : Int32), p227.2)) else some ((0 : Int32), p227.2)) else some ((0 : Int32), p227.2)))))))
theorem ln_h_fiveRounds {s : Q} {res : Int32 × Q} (h : h_fiveRounds s = some res) : Q.len res.2 = Q.len s := by
  rw [h_fiveRounds] at h
  obtain ⟨p215, hq216, h⟩ := bind_some h
  have hl217 := (ln_j_round hq216).trans rfl
  obtain ⟨p218, hq219, h⟩ := bind_some h
  have hl220 := (ln_j_round hq219).trans hl217
  obtain ⟨p221, hq222, h⟩ := bind_some h
  have hl223 := (ln_j_round hq222).trans hl220
  obtain ⟨p224, hq225, h⟩ := bind_some h
  have hl226 := (ln_j_round hq225).trans hl223
  obtain ⟨p227, hq228, h⟩ := bind_some h
  have hl229 := (ln_j_round hq228).trans hl226
  by_cases hc230 : p215.1 = (2 : Int32)
  · rw [if_pos hc230] at h
    by_cases hc231 : p218.1 = (2 : Int32)
    · rw [if_pos hc231] at h
      by_cases hc232 : p221.1 = (2 : Int32)
      · rw [if_pos hc232] at h
        by_cases hc233 : p224.1 = (1 : Int32)
        · rw [if_pos hc233] at h
          by_cases hc234 : p227.1 = (1 : Int32)
          · rw [if_pos hc234] at h
            have hr0 := Option.some.inj h
            subst hr0
            show Q.len p227.2 = _
            exact hl229
          · rw [if_neg hc234] at h
            have hr0 := Option.some.inj h
            subst hr0
            show Q.len p227.2 = _
            exact hl229
        · rw [if_neg hc233] at h
          have hr0 := Option.some.inj h
          subst hr0
          show Q.len p227.2 = _
          exact hl229
      · rw [if_neg hc232] at h
        have hr0 := Option.some.inj h
        subst hr0
        show Q.len p227.2 = _
        exact hl229
    · rw [if_neg hc231] at h
      have hr0 := Option.some.inj h
      subst hr0
      show Q.len p227.2 = _
      exact hl229
  · rw [if_neg hc230] at h
    have hr0 := Option.some.inj h
    subst hr0
    show Q.len p227.2 = _
    exact hl229
set_option maxRecDepth 100000 in
theorem ev_h_fiveRounds (R : AHeap) (s : Q) {res : Int32 × Q} {out : Option Value × AHeap} (h : h_fiveRounds s = some res) (hk : out = (some (.int res.1), (W1 res.2 R))) : Eval own_P 5 0 [some (.ref 0), none, none, none, none, none] [] (W1 s R) out := by
  rw [h_fiveRounds] at h
  refine Eval.aload_n rfl rfl ?_
  obtain ⟨p215, hq216, h⟩ := bind_some h
  refine Eval.callI (rest := []) (x := p215.1) (H1 := (W1 p215.2 R)) rfl rfl (ev_j_round R s hq216 rfl) ?_
  refine Eval.istore_n (L' := [some (.ref 0), some (.int p215.1), none, none, none, none]) rfl rfl ?_
  refine Eval.aload_n rfl rfl ?_
  obtain ⟨p218, hq219, h⟩ := bind_some h
  refine Eval.callI (rest := []) (x := p218.1) (H1 := (W1 p218.2 R)) rfl rfl (ev_j_round R p215.2 hq219 rfl) ?_
  refine Eval.istore_n (L' := [some (.ref 0), some (.int p215.1), some (.int p218.1), none, none, none]) rfl rfl ?_
  refine Eval.aload_n rfl rfl ?_
  obtain ⟨p221, hq222, h⟩ := bind_some h
  refine Eval.callI (rest := []) (x := p221.1) (H1 := (W1 p221.2 R)) rfl rfl (ev_j_round R p218.2 hq222 rfl) ?_
  refine Eval.istore_n (L' := [some (.ref 0), some (.int p215.1), some (.int p218.1), some (.int p221.1), none, none]) rfl rfl ?_
  refine Eval.aload_n rfl rfl ?_
  obtain ⟨p224, hq225, h⟩ := bind_some h
  refine Eval.callI (rest := []) (x := p224.1) (H1 := (W1 p224.2 R)) rfl rfl (ev_j_round R p221.2 hq225 rfl) ?_
  refine Eval.istore (L' := [some (.ref 0), some (.int p215.1), some (.int p218.1), some (.int p221.1), some (.int p224.1), none]) rfl rfl ?_
  refine Eval.aload_n rfl rfl ?_
  obtain ⟨p227, hq228, h⟩ := bind_some h
  refine Eval.callI (rest := []) (x := p227.1) (H1 := (W1 p227.2 R)) rfl rfl (ev_j_round R p224.2 hq228 rfl) ?_
  refine Eval.istore (L' := [some (.ref 0), some (.int p215.1), some (.int p218.1), some (.int p221.1), some (.int p224.1), some (.int p227.1)]) rfl rfl ?_
  refine Eval.iload_n rfl rfl ?_
  refine Eval.iconst (x := (2 : Int32)) rfl rfl ?_
  by_cases hc230 : p215.1 = (2 : Int32)
  · rw [if_pos hc230] at h
    refine Eval.icmpF rfl (teq hc230).2 ?_
    refine Eval.iload_n rfl rfl ?_
    refine Eval.iconst (x := (2 : Int32)) rfl rfl ?_
    by_cases hc231 : p218.1 = (2 : Int32)
    · rw [if_pos hc231] at h
      refine Eval.icmpF rfl (teq hc231).2 ?_
      refine Eval.iload_n rfl rfl ?_
      refine Eval.iconst (x := (2 : Int32)) rfl rfl ?_
      by_cases hc232 : p221.1 = (2 : Int32)
      · rw [if_pos hc232] at h
        refine Eval.icmpF rfl (teq hc232).2 ?_
        refine Eval.iload rfl rfl ?_
        refine Eval.iconst (x := (1 : Int32)) rfl rfl ?_
        by_cases hc233 : p224.1 = (1 : Int32)
        · rw [if_pos hc233] at h
          refine Eval.icmpF rfl (teq hc233).2 ?_
          refine Eval.iload rfl rfl ?_
          refine Eval.iconst (x := (1 : Int32)) rfl rfl ?_
          by_cases hc234 : p227.1 = (1 : Int32)
          · rw [if_pos hc234] at h
            refine Eval.icmpF rfl (teq hc234).2 ?_
            refine Eval.iconst (x := (1 : Int32)) rfl rfl ?_
            refine Eval.goto (t := 59) rfl rfl ?_
            cases h
            subst hk
            exact Eval.ret rfl rfl
          · rw [if_neg hc234] at h
            refine Eval.icmpT (t := 58) rfl rfl (feq hc234).2 ?_
            refine Eval.iconst (x := (0 : Int32)) rfl rfl ?_
            cases h
            subst hk
            exact Eval.ret rfl rfl
        · rw [if_neg hc233] at h
          refine Eval.icmpT (t := 58) rfl rfl (feq hc233).2 ?_
          refine Eval.iconst (x := (0 : Int32)) rfl rfl ?_
          cases h
          subst hk
          exact Eval.ret rfl rfl
      · rw [if_neg hc232] at h
        refine Eval.icmpT (t := 58) rfl rfl (feq hc232).2 ?_
        refine Eval.iconst (x := (0 : Int32)) rfl rfl ?_
        cases h
        subst hk
        exact Eval.ret rfl rfl
    · rw [if_neg hc231] at h
      refine Eval.icmpT (t := 58) rfl rfl (feq hc231).2 ?_
      refine Eval.iconst (x := (0 : Int32)) rfl rfl ?_
      cases h
      subst hk
      exact Eval.ret rfl rfl
  · rw [if_neg hc230] at h
    refine Eval.icmpT (t := 58) rfl rfl (feq hc230).2 ?_
    refine Eval.iconst (x := (0 : Int32)) rfl rfl ?_
    cases h
    subst hk
    exact Eval.ret rfl rfl
def j_resultStatus (s : Q) (v1 : Int32) : Option (Int32) := (if (j_valid s v1) = (0 : Int32) then some ((-1 : Int32)) else (if inb s.f_resStatus.length v1 = true then some ((rd s.f_resStatus v1)) else none))
set_option maxRecDepth 100000 in
theorem ev_j_resultStatus (R : AHeap) (s : Q) (v1 : Int32) {res : Int32} {out : Option Value × AHeap} (h : j_resultStatus s v1 = some res) (hk : out = (some (.int res), (W1 s R))) : Eval own_P 19 0 [some (.ref 0), some (.int v1)] [] (W1 s R) out := by
  rw [j_resultStatus] at h
  refine Eval.aload_n rfl rfl ?_
  refine Eval.iload_n rfl rfl ?_
  refine Eval.callI (rest := []) (x := (j_valid s v1)) (H1 := (W1 s R)) rfl rfl (ev_j_valid R s v1 rfl rfl) ?_
  by_cases hc238 : (j_valid s v1) = (0 : Int32)
  · rw [if_pos hc238] at h
    refine Eval.ifT (t := 17) rfl rfl (teq hc238).1 ?_
    refine Eval.iconst (x := (-1 : Int32)) rfl rfl ?_
    cases h
    subst hk
    exact Eval.ret rfl rfl
  · rw [if_neg hc238] at h
    refine Eval.ifF rfl (feq hc238).1 ?_
    refine Eval.aload_n rfl rfl ?_
    refine Eval.getfield rfl rfl own_g1_resStatus ?_
    refine Eval.iload_n rfl rfl ?_
    obtain ⟨hb239, h⟩ := ite_some h
    refine Eval.iaload rfl own_a1_resStatus hb239 ?_
    refine Eval.goto (t := 18) rfl rfl ?_
    cases h
    subst hk
    exact Eval.ret rfl rfl
def j_resultValue (s : Q) (v1 : Int32) : Option (Int32) := (if (j_valid s v1) = (0 : Int32) then some ((0 : Int32)) else (if inb s.f_resVal.length v1 = true then some ((rd s.f_resVal v1)) else none))
set_option maxRecDepth 100000 in
theorem ev_j_resultValue (R : AHeap) (s : Q) (v1 : Int32) {res : Int32} {out : Option Value × AHeap} (h : j_resultValue s v1 = some res) (hk : out = (some (.int res), (W1 s R))) : Eval own_P 20 0 [some (.ref 0), some (.int v1)] [] (W1 s R) out := by
  rw [j_resultValue] at h
  refine Eval.aload_n rfl rfl ?_
  refine Eval.iload_n rfl rfl ?_
  refine Eval.callI (rest := []) (x := (j_valid s v1)) (H1 := (W1 s R)) rfl rfl (ev_j_valid R s v1 rfl rfl) ?_
  by_cases hc243 : (j_valid s v1) = (0 : Int32)
  · rw [if_pos hc243] at h
    refine Eval.ifT (t := 17) rfl rfl (teq hc243).1 ?_
    refine Eval.iconst (x := (0 : Int32)) rfl rfl ?_
    cases h
    subst hk
    exact Eval.ret rfl rfl
  · rw [if_neg hc243] at h
    refine Eval.ifF rfl (feq hc243).1 ?_
    refine Eval.aload_n rfl rfl ?_
    refine Eval.getfield rfl rfl own_g1_resVal ?_
    refine Eval.iload_n rfl rfl ?_
    obtain ⟨hb244, h⟩ := ite_some h
    refine Eval.iaload rfl own_a1_resVal hb244 ?_
    refine Eval.goto (t := 18) rfl rfl ?_
    cases h
    subst hk
    exact Eval.ret rfl rfl
def j_size (s : Q) : Int32 := (s.f_heapSize)
set_option maxRecDepth 100000 in
theorem ev_j_size (R : AHeap) (s : Q) {res : Int32} {out : Option Value × AHeap} (h : j_size s = res) (hk : out = (some (.int res), (W1 s R))) : Eval own_P 21 0 [some (.ref 0)] [] (W1 s R) out := by
  rw [j_size] at h
  refine Eval.aload_n rfl rfl ?_
  refine Eval.getfield rfl rfl own_g1_heapSize ?_
  subst h
  subst hk
  exact Eval.ret rfl rfl
def j_peekMin (s : Q) : Option (Int32) := (if (0 : Int32) < s.f_heapSize then (if inb s.f_heap.length (0 : Int32) = true then some ((rd s.f_heap (0 : Int32))) else none) else some ((0 : Int32)))
set_option maxRecDepth 100000 in
theorem ev_j_peekMin (R : AHeap) (s : Q) {res : Int32} {out : Option Value × AHeap} (h : j_peekMin s = some res) (hk : out = (some (.int res), (W1 s R))) : Eval own_P 22 0 [some (.ref 0)] [] (W1 s R) out := by
  rw [j_peekMin] at h
  refine Eval.aload_n rfl rfl ?_
  refine Eval.getfield rfl rfl own_g1_heapSize ?_
  by_cases hc255 : (0 : Int32) < s.f_heapSize
  · rw [if_pos hc255] at h
    refine Eval.ifF rfl (tlt hc255).2.2.2 ?_
    refine Eval.aload_n rfl rfl ?_
    refine Eval.getfield rfl rfl own_g1_heap ?_
    refine Eval.iconst (x := (0 : Int32)) rfl rfl ?_
    obtain ⟨hb256, h⟩ := ite_some h
    refine Eval.iaload rfl own_a1_heap hb256 ?_
    refine Eval.goto (t := 17) rfl rfl ?_
    cases h
    subst hk
    exact Eval.ret rfl rfl
  · rw [if_neg hc255] at h
    refine Eval.ifT (t := 16) rfl rfl (flt hc255).2.2.2 ?_
    refine Eval.iconst (x := (0 : Int32)) rfl rfl ?_
    cases h
    subst hk
    exact Eval.ret rfl rfl
def j_passes (s : Q) : Int32 := (s.f_pass)
set_option maxRecDepth 100000 in
theorem ev_j_passes (R : AHeap) (s : Q) {res : Int32} {out : Option Value × AHeap} (h : j_passes s = res) (hk : out = (some (.int res), (W1 s R))) : Eval own_P 23 0 [some (.ref 0)] [] (W1 s R) out := by
  rw [j_passes] at h
  refine Eval.aload_n rfl rfl ?_
  refine Eval.getfield rfl rfl own_g1_pass ?_
  subst h
  subst hk
  exact Eval.ret rfl rfl
def j_phase (s : Q) (v1 : Int32) : Option (Int32) := (if (j_valid s v1) = (0 : Int32) then some ((-1 : Int32)) else (if inb s.f_phase.length v1 = true then some ((rd s.f_phase v1)) else none))
set_option maxRecDepth 100000 in
theorem ev_j_phase (R : AHeap) (s : Q) (v1 : Int32) {res : Int32} {out : Option Value × AHeap} (h : j_phase s v1 = some res) (hk : out = (some (.int res), (W1 s R))) : Eval own_P 24 0 [some (.ref 0), some (.int v1)] [] (W1 s R) out := by
  rw [j_phase] at h
  refine Eval.aload_n rfl rfl ?_
  refine Eval.iload_n rfl rfl ?_
  refine Eval.callI (rest := []) (x := (j_valid s v1)) (H1 := (W1 s R)) rfl rfl (ev_j_valid R s v1 rfl rfl) ?_
  by_cases hc261 : (j_valid s v1) = (0 : Int32)
  · rw [if_pos hc261] at h
    refine Eval.ifT (t := 17) rfl rfl (teq hc261).1 ?_
    refine Eval.iconst (x := (-1 : Int32)) rfl rfl ?_
    cases h
    subst hk
    exact Eval.ret rfl rfl
  · rw [if_neg hc261] at h
    refine Eval.ifF rfl (feq hc261).1 ?_
    refine Eval.aload_n rfl rfl ?_
    refine Eval.getfield rfl rfl own_g1_phase ?_
    refine Eval.iload_n rfl rfl ?_
    obtain ⟨hb262, h⟩ := ite_some h
    refine Eval.iaload rfl own_a1_phase hb262 ?_
    refine Eval.goto (t := 18) rfl rfl ?_
    cases h
    subst hk
    exact Eval.ret rfl rfl
def j_combiner (s : Q) : Int32 := (s.f_lock)
set_option maxRecDepth 100000 in
theorem ev_j_combiner (R : AHeap) (s : Q) {res : Int32} {out : Option Value × AHeap} (h : j_combiner s = res) (hk : out = (some (.int res), (W1 s R))) : Eval own_P 25 0 [some (.ref 0)] [] (W1 s R) out := by
  rw [j_combiner] at h
  refine Eval.aload_n rfl rfl ?_
  refine Eval.getfield rfl rfl own_g1_lock ?_
  subst h
  subst hk
  exact Eval.ret rfl rfl
def j_appliedCount (s : Q) : Int32 := (s.f_applied)
set_option maxRecDepth 100000 in
theorem ev_j_appliedCount (R : AHeap) (s : Q) {res : Int32} {out : Option Value × AHeap} (h : j_appliedCount s = res) (hk : out = (some (.int res), (W1 s R))) : Eval own_P 28 0 [some (.ref 0)] [] (W1 s R) out := by
  rw [j_appliedCount] at h
  refine Eval.aload_n rfl rfl ?_
  refine Eval.getfield rfl rfl own_g1_applied ?_
  subst h
  subst hk
  exact Eval.ret rfl rfl
def law_b38 (s : Q) (v3 : Int32) (v4 : Int32) (v6 : Int32) (w0 : Int32) : Option (Int32 × Q) := ((j_submit s (0 : Int32) (1 : Int32) v3).bind fun p21 => ((j_submit p21.2 (1 : Int32) (1 : Int32) v4).bind fun p23 => (if p21.1 = (0 : Int32) then some ((0 : Int32), p23.2) else (if p23.1 = (0 : Int32) then some ((0 : Int32), p23.2) else ((h_fiveRounds p23.2).bind fun p235 => (if p235.1 = (0 : Int32) then some ((0 : Int32), p235.2) else ((j_resultStatus p235.2 (0 : Int32)).bind fun p240 => (if p240 = (1 : Int32) then ((j_resultValue p235.2 (0 : Int32)).bind fun p245 => (if p245 = v3 then ((j_resultStatus p235.2 (1 : Int32)).bind fun p248 => (if p248 = (1 : Int32) then ((j_resultValue p235.2 (1 : Int32)).bind fun p251 => (if p251 = v4 then (if (j_size p235.2) = (2 : Int32) then ((j_peekMin p235.2).bind fun p257 => (if p257 = v6 then (if (j_passes p235.2) = (1 : Int32) then ((j_phase p235.2 (0 : Int32)).bind fun p263 => (if p263 = (0 : Int32) then ((j_phase p235.2 (1 : Int32)).bind fun p266 => (if p266 = (0 : Int32) then (if (j_combiner p235.2) = (-1 : Int32) then ((j_submit p235.2 (1 : Int32) (2 : Int32) (0 : Int32)).bind fun p270 => ((j_submit p270.2 (0 : Int32) (2 : Int32) (0 : Int32)).bind fun p272 => (if p270.1 = (0 : Int32) then some ((0 : Int32), p272.2) else (if p272.1 = (0 : Int32) then some ((0 : Int32), p272.2) else ((h_fiveRounds p272.2).bind fun p276 => (if p276.1 = (0 : Int32) then some ((0 : Int32), p276.2) else ((j_resultStatus p276.2 (1 : Int32)).bind fun p279 => (if p279 = (1 : Int32) then ((j_resultValue p276.2 (1 : Int32)).bind fun p282 => (if p282 = v6 then ((j_resultStatus p276.2 (0 : Int32)).bind fun p285 => (if p285 = (1 : Int32) then ((j_resultValue p276.2 (0 : Int32)).bind fun p288 => (if p288 = w0 then (if (j_size p276.2) = (0 : Int32) then ((j_peekMin p276.2).bind fun p292 => (if p292 = (0 : Int32) then (if (j_passes p276.2) = (2 : Int32) then (if (j_appliedCount p276.2) = (4 : Int32) then (if (j_combiner p276.2) = (-1 : Int32) then some ((1 : Int32), p276.2) else some ((0 : Int32), p276.2)) else some ((0 : Int32), p276.2)) else some ((0 : Int32), p276.2)) else some ((0 : Int32), p276.2))) else some ((0 : Int32), p276.2)) else some ((0 : Int32), p276.2))) else some ((0 : Int32), p276.2))) else some ((0 : Int32), p276.2))) else some ((0 : Int32), p276.2))))))))) else some ((0 : Int32), p235.2)) else some ((0 : Int32), p235.2))) else some ((0 : Int32), p235.2))) else some ((0 : Int32), p235.2)) else some ((0 : Int32), p235.2))) else some ((0 : Int32), p235.2)) else some ((0 : Int32), p235.2))) else some ((0 : Int32), p235.2))) else some ((0 : Int32), p235.2))) else some ((0 : Int32), p235.2)))))))))
set_option maxRecDepth 100000 in
theorem ev_law_b38 (s : Q) (v3 : Int32) (v4 : Int32) (v6 : Int32) (w0 : Int32) {res : Int32 × Q} {out : Option Value × AHeap} (h : law_b38 s v3 v4 v6 w0 = some res) (hk : out = (some (.int res.1), (W1 res.2 []))) : Eval own_P 0 38 [none, none, none, some (.int v3), some (.int v4), some (.ref 0), some (.int v6), none, none, none, none, none] [.int w0] (W1 s []) out := by
  rw [law_b38] at h
  refine Eval.istore (L' := [none, none, none, some (.int v3), some (.int v4), some (.ref 0), some (.int v6), some (.int w0), none, none, none, none]) rfl rfl ?_
  refine Eval.aload rfl rfl ?_
  refine Eval.iconst (x := (0 : Int32)) rfl rfl ?_
  refine Eval.iconst (x := (1 : Int32)) rfl rfl ?_
  refine Eval.iload_n rfl rfl ?_
  obtain ⟨p21, hq22, h⟩ := bind_some h
  refine Eval.callI (rest := []) (x := p21.1) (H1 := (W1 p21.2 [])) rfl rfl (ev_j_submit [] s (0 : Int32) (1 : Int32) v3 hq22 rfl) ?_
  refine Eval.istore (L' := [none, none, none, some (.int v3), some (.int v4), some (.ref 0), some (.int v6), some (.int w0), some (.int p21.1), none, none, none]) rfl rfl ?_
  refine Eval.aload rfl rfl ?_
  refine Eval.iconst (x := (1 : Int32)) rfl rfl ?_
  refine Eval.iconst (x := (1 : Int32)) rfl rfl ?_
  refine Eval.iload rfl rfl ?_
  obtain ⟨p23, hq24, h⟩ := bind_some h
  refine Eval.callI (rest := []) (x := p23.1) (H1 := (W1 p23.2 [])) rfl rfl (ev_j_submit [] p21.2 (1 : Int32) (1 : Int32) v4 hq24 rfl) ?_
  refine Eval.istore (L' := [none, none, none, some (.int v3), some (.int v4), some (.ref 0), some (.int v6), some (.int w0), some (.int p21.1), some (.int p23.1), none, none]) rfl rfl ?_
  refine Eval.iload rfl rfl ?_
  by_cases hc25 : p21.1 = (0 : Int32)
  · rw [if_pos hc25] at h
    refine Eval.ifT (t := 71) rfl rfl (teq hc25).1 ?_
    refine Eval.iconst (x := (0 : Int32)) rfl rfl ?_
    cases h
    subst hk
    exact Eval.ret rfl rfl
  · rw [if_neg hc25] at h
    refine Eval.ifF rfl (feq hc25).1 ?_
    refine Eval.iload rfl rfl ?_
    by_cases hc26 : p23.1 = (0 : Int32)
    · rw [if_pos hc26] at h
      refine Eval.ifF rfl (teq hc26).2 ?_
      refine Eval.iconst (x := (0 : Int32)) rfl rfl ?_
      cases h
      subst hk
      exact Eval.ret rfl rfl
    · rw [if_neg hc26] at h
      refine Eval.ifT (t := 73) rfl rfl (feq hc26).2 ?_
      refine Eval.aload rfl rfl ?_
      obtain ⟨p235, hq236, h⟩ := bind_some h
      refine Eval.callI (rest := []) (x := p235.1) (H1 := (W1 p235.2 [])) rfl rfl (ev_h_fiveRounds [] p23.2 hq236 rfl) ?_
      by_cases hc237 : p235.1 = (0 : Int32)
      · rw [if_pos hc237] at h
        refine Eval.ifF rfl (teq hc237).2 ?_
        refine Eval.iconst (x := (0 : Int32)) rfl rfl ?_
        cases h
        subst hk
        exact Eval.ret rfl rfl
      · rw [if_neg hc237] at h
        refine Eval.ifT (t := 83) rfl rfl (feq hc237).2 ?_
        refine Eval.aload rfl rfl ?_
        refine Eval.iconst (x := (0 : Int32)) rfl rfl ?_
        obtain ⟨p240, hq241, h⟩ := bind_some h
        refine Eval.callI (rest := []) (x := p240) (H1 := (W1 p235.2 [])) rfl rfl (ev_j_resultStatus [] p235.2 (0 : Int32) hq241 rfl) ?_
        refine Eval.iconst (x := (1 : Int32)) rfl rfl ?_
        by_cases hc242 : p240 = (1 : Int32)
        · rw [if_pos hc242] at h
          refine Eval.icmpT (t := 95) rfl rfl (teq hc242).1 ?_
          refine Eval.aload rfl rfl ?_
          refine Eval.iconst (x := (0 : Int32)) rfl rfl ?_
          obtain ⟨p245, hq246, h⟩ := bind_some h
          refine Eval.callI (rest := []) (x := p245) (H1 := (W1 p235.2 [])) rfl rfl (ev_j_resultValue [] p235.2 (0 : Int32) hq246 rfl) ?_
          refine Eval.iload_n rfl rfl ?_
          by_cases hc247 : p245 = v3
          · rw [if_pos hc247] at h
            refine Eval.icmpT (t := 107) rfl rfl (teq hc247).1 ?_
            refine Eval.aload rfl rfl ?_
            refine Eval.iconst (x := (1 : Int32)) rfl rfl ?_
            obtain ⟨p248, hq249, h⟩ := bind_some h
            refine Eval.callI (rest := []) (x := p248) (H1 := (W1 p235.2 [])) rfl rfl (ev_j_resultStatus [] p235.2 (1 : Int32) hq249 rfl) ?_
            refine Eval.iconst (x := (1 : Int32)) rfl rfl ?_
            by_cases hc250 : p248 = (1 : Int32)
            · rw [if_pos hc250] at h
              refine Eval.icmpT (t := 119) rfl rfl (teq hc250).1 ?_
              refine Eval.aload rfl rfl ?_
              refine Eval.iconst (x := (1 : Int32)) rfl rfl ?_
              obtain ⟨p251, hq252, h⟩ := bind_some h
              refine Eval.callI (rest := []) (x := p251) (H1 := (W1 p235.2 [])) rfl rfl (ev_j_resultValue [] p235.2 (1 : Int32) hq252 rfl) ?_
              refine Eval.iload rfl rfl ?_
              by_cases hc253 : p251 = v4
              · rw [if_pos hc253] at h
                refine Eval.icmpT (t := 132) rfl rfl (teq hc253).1 ?_
                refine Eval.aload rfl rfl ?_
                refine Eval.callI (rest := []) (x := (j_size p235.2)) (H1 := (W1 p235.2 [])) rfl rfl (ev_j_size [] p235.2 rfl rfl) ?_
                refine Eval.iconst (x := (2 : Int32)) rfl rfl ?_
                by_cases hc254 : (j_size p235.2) = (2 : Int32)
                · rw [if_pos hc254] at h
                  refine Eval.icmpT (t := 143) rfl rfl (teq hc254).1 ?_
                  refine Eval.aload rfl rfl ?_
                  obtain ⟨p257, hq258, h⟩ := bind_some h
                  refine Eval.callI (rest := []) (x := p257) (H1 := (W1 p235.2 [])) rfl rfl (ev_j_peekMin [] p235.2 hq258 rfl) ?_
                  refine Eval.iload rfl rfl ?_
                  by_cases hc259 : p257 = v6
                  · rw [if_pos hc259] at h
                    refine Eval.icmpT (t := 155) rfl rfl (teq hc259).1 ?_
                    refine Eval.aload rfl rfl ?_
                    refine Eval.callI (rest := []) (x := (j_passes p235.2)) (H1 := (W1 p235.2 [])) rfl rfl (ev_j_passes [] p235.2 rfl rfl) ?_
                    refine Eval.iconst (x := (1 : Int32)) rfl rfl ?_
                    by_cases hc260 : (j_passes p235.2) = (1 : Int32)
                    · rw [if_pos hc260] at h
                      refine Eval.icmpT (t := 166) rfl rfl (teq hc260).1 ?_
                      refine Eval.aload rfl rfl ?_
                      refine Eval.iconst (x := (0 : Int32)) rfl rfl ?_
                      obtain ⟨p263, hq264, h⟩ := bind_some h
                      refine Eval.callI (rest := []) (x := p263) (H1 := (W1 p235.2 [])) rfl rfl (ev_j_phase [] p235.2 (0 : Int32) hq264 rfl) ?_
                      by_cases hc265 : p263 = (0 : Int32)
                      · rw [if_pos hc265] at h
                        refine Eval.ifT (t := 177) rfl rfl (teq hc265).1 ?_
                        refine Eval.aload rfl rfl ?_
                        refine Eval.iconst (x := (1 : Int32)) rfl rfl ?_
                        obtain ⟨p266, hq267, h⟩ := bind_some h
                        refine Eval.callI (rest := []) (x := p266) (H1 := (W1 p235.2 [])) rfl rfl (ev_j_phase [] p235.2 (1 : Int32) hq267 rfl) ?_
                        by_cases hc268 : p266 = (0 : Int32)
                        · rw [if_pos hc268] at h
                          refine Eval.ifT (t := 188) rfl rfl (teq hc268).1 ?_
                          refine Eval.aload rfl rfl ?_
                          refine Eval.callI (rest := []) (x := (j_combiner p235.2)) (H1 := (W1 p235.2 [])) rfl rfl (ev_j_combiner [] p235.2 rfl rfl) ?_
                          refine Eval.iconst (x := (-1 : Int32)) rfl rfl ?_
                          by_cases hc269 : (j_combiner p235.2) = (-1 : Int32)
                          · rw [if_pos hc269] at h
                            refine Eval.icmpT (t := 199) rfl rfl (teq hc269).1 ?_
                            refine Eval.aload rfl rfl ?_
                            refine Eval.iconst (x := (1 : Int32)) rfl rfl ?_
                            refine Eval.iconst (x := (2 : Int32)) rfl rfl ?_
                            refine Eval.iconst (x := (0 : Int32)) rfl rfl ?_
                            obtain ⟨p270, hq271, h⟩ := bind_some h
                            refine Eval.callI (rest := []) (x := p270.1) (H1 := (W1 p270.2 [])) rfl rfl (ev_j_submit [] p235.2 (1 : Int32) (2 : Int32) (0 : Int32) hq271 rfl) ?_
                            refine Eval.istore (L' := [none, none, none, some (.int v3), some (.int v4), some (.ref 0), some (.int v6), some (.int w0), some (.int p21.1), some (.int p23.1), some (.int p270.1), none]) rfl rfl ?_
                            refine Eval.aload rfl rfl ?_
                            refine Eval.iconst (x := (0 : Int32)) rfl rfl ?_
                            refine Eval.iconst (x := (2 : Int32)) rfl rfl ?_
                            refine Eval.iconst (x := (0 : Int32)) rfl rfl ?_
                            obtain ⟨p272, hq273, h⟩ := bind_some h
                            refine Eval.callI (rest := []) (x := p272.1) (H1 := (W1 p272.2 [])) rfl rfl (ev_j_submit [] p270.2 (0 : Int32) (2 : Int32) (0 : Int32) hq273 rfl) ?_
                            refine Eval.istore (L' := [none, none, none, some (.int v3), some (.int v4), some (.ref 0), some (.int v6), some (.int w0), some (.int p21.1), some (.int p23.1), some (.int p270.1), some (.int p272.1)]) rfl rfl ?_
                            refine Eval.iload rfl rfl ?_
                            by_cases hc274 : p270.1 = (0 : Int32)
                            · rw [if_pos hc274] at h
                              refine Eval.ifT (t := 229) rfl rfl (teq hc274).1 ?_
                              refine Eval.iconst (x := (0 : Int32)) rfl rfl ?_
                              cases h
                              subst hk
                              exact Eval.ret rfl rfl
                            · rw [if_neg hc274] at h
                              refine Eval.ifF rfl (feq hc274).1 ?_
                              refine Eval.iload rfl rfl ?_
                              by_cases hc275 : p272.1 = (0 : Int32)
                              · rw [if_pos hc275] at h
                                refine Eval.ifF rfl (teq hc275).2 ?_
                                refine Eval.iconst (x := (0 : Int32)) rfl rfl ?_
                                cases h
                                subst hk
                                exact Eval.ret rfl rfl
                              · rw [if_neg hc275] at h
                                refine Eval.ifT (t := 231) rfl rfl (feq hc275).2 ?_
                                refine Eval.aload rfl rfl ?_
                                obtain ⟨p276, hq277, h⟩ := bind_some h
                                refine Eval.callI (rest := []) (x := p276.1) (H1 := (W1 p276.2 [])) rfl rfl (ev_h_fiveRounds [] p272.2 hq277 rfl) ?_
                                by_cases hc278 : p276.1 = (0 : Int32)
                                · rw [if_pos hc278] at h
                                  refine Eval.ifF rfl (teq hc278).2 ?_
                                  refine Eval.iconst (x := (0 : Int32)) rfl rfl ?_
                                  cases h
                                  subst hk
                                  exact Eval.ret rfl rfl
                                · rw [if_neg hc278] at h
                                  refine Eval.ifT (t := 241) rfl rfl (feq hc278).2 ?_
                                  refine Eval.aload rfl rfl ?_
                                  refine Eval.iconst (x := (1 : Int32)) rfl rfl ?_
                                  obtain ⟨p279, hq280, h⟩ := bind_some h
                                  refine Eval.callI (rest := []) (x := p279) (H1 := (W1 p276.2 [])) rfl rfl (ev_j_resultStatus [] p276.2 (1 : Int32) hq280 rfl) ?_
                                  refine Eval.iconst (x := (1 : Int32)) rfl rfl ?_
                                  by_cases hc281 : p279 = (1 : Int32)
                                  · rw [if_pos hc281] at h
                                    refine Eval.icmpT (t := 253) rfl rfl (teq hc281).1 ?_
                                    refine Eval.aload rfl rfl ?_
                                    refine Eval.iconst (x := (1 : Int32)) rfl rfl ?_
                                    obtain ⟨p282, hq283, h⟩ := bind_some h
                                    refine Eval.callI (rest := []) (x := p282) (H1 := (W1 p276.2 [])) rfl rfl (ev_j_resultValue [] p276.2 (1 : Int32) hq283 rfl) ?_
                                    refine Eval.iload rfl rfl ?_
                                    by_cases hc284 : p282 = v6
                                    · rw [if_pos hc284] at h
                                      refine Eval.icmpT (t := 266) rfl rfl (teq hc284).1 ?_
                                      refine Eval.aload rfl rfl ?_
                                      refine Eval.iconst (x := (0 : Int32)) rfl rfl ?_
                                      obtain ⟨p285, hq286, h⟩ := bind_some h
                                      refine Eval.callI (rest := []) (x := p285) (H1 := (W1 p276.2 [])) rfl rfl (ev_j_resultStatus [] p276.2 (0 : Int32) hq286 rfl) ?_
                                      refine Eval.iconst (x := (1 : Int32)) rfl rfl ?_
                                      by_cases hc287 : p285 = (1 : Int32)
                                      · rw [if_pos hc287] at h
                                        refine Eval.icmpT (t := 278) rfl rfl (teq hc287).1 ?_
                                        refine Eval.aload rfl rfl ?_
                                        refine Eval.iconst (x := (0 : Int32)) rfl rfl ?_
                                        obtain ⟨p288, hq289, h⟩ := bind_some h
                                        refine Eval.callI (rest := []) (x := p288) (H1 := (W1 p276.2 [])) rfl rfl (ev_j_resultValue [] p276.2 (0 : Int32) hq289 rfl) ?_
                                        refine Eval.iload rfl rfl ?_
                                        by_cases hc290 : p288 = w0
                                        · rw [if_pos hc290] at h
                                          refine Eval.icmpT (t := 291) rfl rfl (teq hc290).1 ?_
                                          refine Eval.aload rfl rfl ?_
                                          refine Eval.callI (rest := []) (x := (j_size p276.2)) (H1 := (W1 p276.2 [])) rfl rfl (ev_j_size [] p276.2 rfl rfl) ?_
                                          by_cases hc291 : (j_size p276.2) = (0 : Int32)
                                          · rw [if_pos hc291] at h
                                            refine Eval.ifT (t := 301) rfl rfl (teq hc291).1 ?_
                                            refine Eval.aload rfl rfl ?_
                                            obtain ⟨p292, hq293, h⟩ := bind_some h
                                            refine Eval.callI (rest := []) (x := p292) (H1 := (W1 p276.2 [])) rfl rfl (ev_j_peekMin [] p276.2 hq293 rfl) ?_
                                            by_cases hc294 : p292 = (0 : Int32)
                                            · rw [if_pos hc294] at h
                                              refine Eval.ifT (t := 311) rfl rfl (teq hc294).1 ?_
                                              refine Eval.aload rfl rfl ?_
                                              refine Eval.callI (rest := []) (x := (j_passes p276.2)) (H1 := (W1 p276.2 [])) rfl rfl (ev_j_passes [] p276.2 rfl rfl) ?_
                                              refine Eval.iconst (x := (2 : Int32)) rfl rfl ?_
                                              by_cases hc295 : (j_passes p276.2) = (2 : Int32)
                                              · rw [if_pos hc295] at h
                                                refine Eval.icmpT (t := 322) rfl rfl (teq hc295).1 ?_
                                                refine Eval.aload rfl rfl ?_
                                                refine Eval.callI (rest := []) (x := (j_appliedCount p276.2)) (H1 := (W1 p276.2 [])) rfl rfl (ev_j_appliedCount [] p276.2 rfl rfl) ?_
                                                refine Eval.iconst (x := (4 : Int32)) rfl rfl ?_
                                                by_cases hc296 : (j_appliedCount p276.2) = (4 : Int32)
                                                · rw [if_pos hc296] at h
                                                  refine Eval.icmpT (t := 333) rfl rfl (teq hc296).1 ?_
                                                  refine Eval.aload rfl rfl ?_
                                                  refine Eval.callI (rest := []) (x := (j_combiner p276.2)) (H1 := (W1 p276.2 [])) rfl rfl (ev_j_combiner [] p276.2 rfl rfl) ?_
                                                  refine Eval.iconst (x := (-1 : Int32)) rfl rfl ?_
                                                  by_cases hc297 : (j_combiner p276.2) = (-1 : Int32)
                                                  · rw [if_pos hc297] at h
                                                    refine Eval.icmpF rfl (teq hc297).2 ?_
                                                    refine Eval.iconst (x := (1 : Int32)) rfl rfl ?_
                                                    refine Eval.goto (t := 347) rfl rfl ?_
                                                    cases h
                                                    subst hk
                                                    exact Eval.ret rfl rfl
                                                  · rw [if_neg hc297] at h
                                                    refine Eval.icmpT (t := 346) rfl rfl (feq hc297).2 ?_
                                                    refine Eval.iconst (x := (0 : Int32)) rfl rfl ?_
                                                    cases h
                                                    subst hk
                                                    exact Eval.ret rfl rfl
                                                · rw [if_neg hc296] at h
                                                  refine Eval.icmpF rfl (feq hc296).1 ?_
                                                  refine Eval.iconst (x := (0 : Int32)) rfl rfl ?_
                                                  cases h
                                                  subst hk
                                                  exact Eval.ret rfl rfl
                                              · rw [if_neg hc295] at h
                                                refine Eval.icmpF rfl (feq hc295).1 ?_
                                                refine Eval.iconst (x := (0 : Int32)) rfl rfl ?_
                                                cases h
                                                subst hk
                                                exact Eval.ret rfl rfl
                                            · rw [if_neg hc294] at h
                                              refine Eval.ifF rfl (feq hc294).1 ?_
                                              refine Eval.iconst (x := (0 : Int32)) rfl rfl ?_
                                              cases h
                                              subst hk
                                              exact Eval.ret rfl rfl
                                          · rw [if_neg hc291] at h
                                            refine Eval.ifF rfl (feq hc291).1 ?_
                                            refine Eval.iconst (x := (0 : Int32)) rfl rfl ?_
                                            cases h
                                            subst hk
                                            exact Eval.ret rfl rfl
                                        · rw [if_neg hc290] at h
                                          refine Eval.icmpF rfl (feq hc290).1 ?_
                                          refine Eval.iconst (x := (0 : Int32)) rfl rfl ?_
                                          cases h
                                          subst hk
                                          exact Eval.ret rfl rfl
                                      · rw [if_neg hc287] at h
                                        refine Eval.icmpF rfl (feq hc287).1 ?_
                                        refine Eval.iconst (x := (0 : Int32)) rfl rfl ?_
                                        cases h
                                        subst hk
                                        exact Eval.ret rfl rfl
                                    · rw [if_neg hc284] at h
                                      refine Eval.icmpF rfl (feq hc284).1 ?_
                                      refine Eval.iconst (x := (0 : Int32)) rfl rfl ?_
                                      cases h
                                      subst hk
                                      exact Eval.ret rfl rfl
                                  · rw [if_neg hc281] at h
                                    refine Eval.icmpF rfl (feq hc281).1 ?_
                                    refine Eval.iconst (x := (0 : Int32)) rfl rfl ?_
                                    cases h
                                    subst hk
                                    exact Eval.ret rfl rfl
                          · rw [if_neg hc269] at h
                            refine Eval.icmpF rfl (feq hc269).1 ?_
                            refine Eval.iconst (x := (0 : Int32)) rfl rfl ?_
                            cases h
                            subst hk
                            exact Eval.ret rfl rfl
                        · rw [if_neg hc268] at h
                          refine Eval.ifF rfl (feq hc268).1 ?_
                          refine Eval.iconst (x := (0 : Int32)) rfl rfl ?_
                          cases h
                          subst hk
                          exact Eval.ret rfl rfl
                      · rw [if_neg hc265] at h
                        refine Eval.ifF rfl (feq hc265).1 ?_
                        refine Eval.iconst (x := (0 : Int32)) rfl rfl ?_
                        cases h
                        subst hk
                        exact Eval.ret rfl rfl
                    · rw [if_neg hc260] at h
                      refine Eval.icmpF rfl (feq hc260).1 ?_
                      refine Eval.iconst (x := (0 : Int32)) rfl rfl ?_
                      cases h
                      subst hk
                      exact Eval.ret rfl rfl
                  · rw [if_neg hc259] at h
                    refine Eval.icmpF rfl (feq hc259).1 ?_
                    refine Eval.iconst (x := (0 : Int32)) rfl rfl ?_
                    cases h
                    subst hk
                    exact Eval.ret rfl rfl
                · rw [if_neg hc254] at h
                  refine Eval.icmpF rfl (feq hc254).1 ?_
                  refine Eval.iconst (x := (0 : Int32)) rfl rfl ?_
                  cases h
                  subst hk
                  exact Eval.ret rfl rfl
              · rw [if_neg hc253] at h
                refine Eval.icmpF rfl (feq hc253).1 ?_
                refine Eval.iconst (x := (0 : Int32)) rfl rfl ?_
                cases h
                subst hk
                exact Eval.ret rfl rfl
            · rw [if_neg hc250] at h
              refine Eval.icmpF rfl (feq hc250).1 ?_
              refine Eval.iconst (x := (0 : Int32)) rfl rfl ?_
              cases h
              subst hk
              exact Eval.ret rfl rfl
          · rw [if_neg hc247] at h
            refine Eval.icmpF rfl (feq hc247).1 ?_
            refine Eval.iconst (x := (0 : Int32)) rfl rfl ?_
            cases h
            subst hk
            exact Eval.ret rfl rfl
        · rw [if_neg hc242] at h
          refine Eval.icmpF rfl (feq hc242).1 ?_
          refine Eval.iconst (x := (0 : Int32)) rfl rfl ?_
          cases h
          subst hk
          exact Eval.ret rfl rfl
def law_b24 (s : Q) (v3 : Int32) (v4 : Int32) (w0 : Int32) : Option (Int32 × Q) := (law_b38 s v3 v4 w0 (if v3 < v4 then v4 else v3))
set_option maxRecDepth 100000 in
theorem ev_law_b24 (s : Q) (v3 : Int32) (v4 : Int32) (w0 : Int32) {res : Int32 × Q} {out : Option Value × AHeap} (h : law_b24 s v3 v4 w0 = some res) (hk : out = (some (.int res.1), (W1 res.2 []))) : Eval own_P 0 24 [none, none, none, some (.int v3), some (.int v4), some (.ref 0), none, none, none, none, none, none] [.int w0] (W1 s []) out := by
  rw [law_b24] at h
  refine Eval.istore (L' := [none, none, none, some (.int v3), some (.int v4), some (.ref 0), some (.int w0), none, none, none, none, none]) rfl rfl ?_
  refine Eval.iload_n rfl rfl ?_
  refine Eval.iload rfl rfl ?_
  suffices hJ8 : Eval own_P 0 38 [none, none, none, some (.int v3), some (.int v4), some (.ref 0), some (.int w0), none, none, none, none, none] [.int (if v3 < v4 then v4 else v3)] (W1 s []) out by
    by_cases hc7 : v3 < v4
    · refine Eval.icmpF rfl (tlt hc7).2.1 ?_
      refine Eval.iload rfl rfl ?_
      refine Eval.goto (t := 38) rfl rfl ?_
      exact (Eval.conv hJ8 rfl (by simp only [if_pos hc7]))
    · refine Eval.icmpT (t := 37) rfl rfl (flt hc7).2.1 ?_
      refine Eval.iload_n rfl rfl ?_
      exact (Eval.conv hJ8 rfl (by simp only [if_neg hc7]))
  exact ev_law_b38 s v3 v4 w0 (if v3 < v4 then v4 else v3) h hk
def law (v0 : Int32) (v1 : Int32) (v2 : Int32) (v3 : Int32) (v4 : Int32) : Option (Int32 × Q) := ((j_init v0 v1 v2).bind fun p3 => (law_b24 p3 v3 v4 (if v3 < v4 then v3 else v4)))
set_option maxRecDepth 100000 in
theorem ev_law (v0 : Int32) (v1 : Int32) (v2 : Int32) (v3 : Int32) (v4 : Int32) {res : Int32 × Q} {out : Option Value × AHeap} (h : law v0 v1 v2 v3 v4 = some res) (hk : out = (some (.int res.1), (W1 res.2 []))) : Eval own_P 0 0 [some (.int v0), some (.int v1), some (.int v2), some (.int v3), some (.int v4), none, none, none, none, none, none, none] [] (W0 []) out := by
  rw [law] at h
  refine Eval.new (z := 0) (a := 0) (H1 := (W0 [.inl (Prog.fresh own_P)])) rfl rfl rfl (by decide) rfl (by decide) rfl ?_
  refine Eval.dupR rfl ?_
  refine Eval.iload_n rfl rfl ?_
  refine Eval.iload_n rfl rfl ?_
  refine Eval.iload_n rfl rfl ?_
  obtain ⟨p3, hq4, h⟩ := bind_some h
  refine Eval.callN (rest := [.ref 0]) (H1 := (W1 p3 [])) rfl rfl (ev_j_init v0 v1 v2 hq4 rfl) ?_
  refine Eval.astore (L' := [some (.int v0), some (.int v1), some (.int v2), some (.int v3), some (.int v4), some (.ref 0), none, none, none, none, none, none]) rfl rfl ?_
  refine Eval.iload_n rfl rfl ?_
  refine Eval.iload rfl rfl ?_
  suffices hJ6 : Eval own_P 0 24 [none, none, none, some (.int v3), some (.int v4), some (.ref 0), none, none, none, none, none, none] [.int (if v3 < v4 then v3 else v4)] (W1 p3 []) out by
    by_cases hc5 : v3 < v4
    · refine Eval.icmpF rfl (tlt hc5).2.1 ?_
      refine Eval.iload_n rfl rfl ?_
      refine Eval.goto (t := 24) rfl rfl ?_
      refine Eval.weak (L' := [none, none, none, some (.int v3), some (.int v4), some (.ref 0), none, none, none, none, none, none]) ⟨_, _, rfl, Or.inl rfl, _, _, rfl, Or.inl rfl, _, _, rfl, Or.inl rfl, _, _, rfl, Or.inr rfl, _, _, rfl, Or.inr rfl, _, _, rfl, Or.inr rfl, _, _, rfl, Or.inl rfl, _, _, rfl, Or.inl rfl, _, _, rfl, Or.inl rfl, _, _, rfl, Or.inl rfl, _, _, rfl, Or.inl rfl, _, _, rfl, Or.inl rfl, rfl⟩ ?_
      exact (Eval.conv hJ6 rfl (by simp only [if_pos hc5]))
    · refine Eval.icmpT (t := 22) rfl rfl (flt hc5).2.1 ?_
      refine Eval.iload rfl rfl ?_
      refine Eval.weak (L' := [none, none, none, some (.int v3), some (.int v4), some (.ref 0), none, none, none, none, none, none]) ⟨_, _, rfl, Or.inl rfl, _, _, rfl, Or.inl rfl, _, _, rfl, Or.inl rfl, _, _, rfl, Or.inr rfl, _, _, rfl, Or.inr rfl, _, _, rfl, Or.inr rfl, _, _, rfl, Or.inl rfl, _, _, rfl, Or.inl rfl, _, _, rfl, Or.inl rfl, _, _, rfl, Or.inl rfl, _, _, rfl, Or.inl rfl, _, _, rfl, Or.inl rfl, rfl⟩ ?_
      exact (Eval.conv hJ6 rfl (by simp only [if_neg hc5]))
  exact ev_law_b24 p3 v3 v4 (if v3 < v4 then v3 else v4) h hk
theorem own_rdc {n : Nat} {c j : Int32} (h : inb n j = true) : rd (List.replicate n c) j = c := by
  have q := rd_at (xs := List.replicate n c) (j := j) (by simpa using h)
  rw [List.getElem?_replicate] at q
  split at q
  · exact (Option.some.inj q).symm
  · cases q
theorem own_n2i {i : Nat} (h : i < 2147483648) : (Int32.ofNat i).toInt = i := by
  rw [Int32.toInt_ofNat']
  simp only [Int32.size, Int.bmod_def]
  omega
theorem own_n2n {i : Nat} (h : i < 2147483648) : (Int32.ofNat i).toNatClampNeg = i := by
  simp only [Int32.toNatClampNeg, own_n2i h]; omega
theorem own_succ (i : Nat) : Int32.ofNat i + 1 = Int32.ofNat (i + 1) := (Int32.ofNat_add i 1).symm
theorem own_inbN {n i : Nat} (h : i < n) (hn : n < 2147483648) : inb n (Int32.ofNat i) = true := inb_iff.mpr (by rw [own_n2i (by omega)]; omega)
theorem own_ltN {i k : Nat} (hi : i < 2147483648) (hk : k < 2147483648) : Int32.ofNat i < Int32.ofNat k ↔ i < k := by
  rw [lt32, own_n2i hi, own_n2i hk]; omega
theorem own_wrA {A r : List Int32} {d x : Int32} {i : Nat} (hi : A.length = i) (h : i < 2147483648) : wr (A ++ d :: r) (Int32.ofNat i) x = A ++ x :: r := by
  unfold wr
  rw [own_n2n h, ← hi]
  simp
theorem own_repS (i : Nat) (c : Int32) (r : List Int32) : List.replicate i c ++ c :: r = List.replicate (i + 1) c ++ r := by
  rw [List.replicate_succ']; simp
theorem own_add {x y : Int32} (h1 : -2147483648 ≤ x.toInt + y.toInt) (h2 : x.toInt + y.toInt < 2147483648) : (x + y).toInt = x.toInt + y.toInt := by
  rw [Int32.toInt_add, Int.bmod_def]
  omega
theorem own_sub {x y : Int32} (h1 : -2147483648 ≤ x.toInt - y.toInt) (h2 : x.toInt - y.toInt < 2147483648) : (x - y).toInt = x.toInt - y.toInt := by
  rw [Int32.toInt_sub, Int.bmod_def]
  omega
theorem own_mul {x y : Int32} (h1 : -2147483648 ≤ x.toInt * y.toInt) (h2 : x.toInt * y.toInt < 2147483648) : (x * y).toInt = x.toInt * y.toInt := by
  rw [Int32.toInt_mul, Int.bmod_def]
  omega
theorem own_eta (s : Q) : Q.mk s.f_heap s.f_lock s.f_list s.f_cursor s.f_phase s.f_opKind s.f_opVal s.f_resStatus s.f_resVal s.f_enlisted s.f_reqKind s.f_reqVal s.f_ready s.f_respStatus s.f_respVal s.f_stamp s.f_n s.f_cap s.f_age s.f_listLen s.f_pass s.f_heapSize s.f_applied = s := rfl
theorem own_wrc (n : Nat) (c j : Int32) : wr (List.replicate n c) j c = List.replicate n c := by simp [wr, List.set_replicate_self]

theorem own_cl {v a b : Int32} (h : a.toInt ≤ b.toInt) : a.toInt ≤ (j_clamp v a b).toInt ∧ (j_clamp v a b).toInt ≤ b.toInt := by
  unfold j_clamp
  split
  · omega
  · split
    · omega
    · rename_i h1 h2; simp only [lt32] at h1 h2; omega

theorem own_n (v : Int32) : 2 ≤ (j_clamp v 2 8).toInt ∧ (j_clamp v 2 8).toInt ≤ 8 := by
  unfold j_clamp
  split
  · decide
  · split
    · decide
    · rename_i h1 h2; simp only [lt32, Int32.reduceToInt] at h1 h2; omega
theorem own_g0 (a b : Int32) (l : List Int32) : rd (a :: b :: l) 0 = a := rfl
theorem own_g1 (a b : Int32) (l : List Int32) : rd (a :: b :: l) 1 = b := rfl
theorem own_h0 (a b x : Int32) (l : List Int32) : wr (a :: b :: l) 0 x = x :: b :: l := rfl
theorem own_h1 (a b x : Int32) (l : List Int32) : wr (a :: b :: l) 1 x = a :: x :: l := rfl
theorem own_r8 : List.replicate 8 (0 : Int32) = 0 :: 0 :: List.replicate 6 0 := rfl
theorem own_r32 : List.replicate 32 (0 : Int32) = 0 :: 0 :: List.replicate 30 0 := rfl
theorem own_n6 : (List.replicate 6 (0 : Int32)).length = 6 := rfl
theorem own_n30 : (List.replicate 30 (0 : Int32)).length = 30 := rfl
theorem own_ib {m : Nat} {j : Int32} (h : 0 ≤ j.toInt ∧ j.toInt < m) : inb m j = true := inb_iff.mpr h
theorem own_rd6 (a b : Int32) {i : Int32} (h0 : 2 ≤ i.toInt) : rd (a :: b :: List.replicate 6 0) i = 0 := by
  have : ∃ m, i.toNatClampNeg = m + 1 + 1 := ⟨i.toNatClampNeg - 2, by simp only [Int32.toNatClampNeg]; omega⟩
  obtain ⟨m, hm⟩ := this
  simp only [rd, hm, List.getD_eq_getElem?_getD, List.getElem?_cons_succ, List.getElem?_replicate]
  split <;> rfl
theorem own_skip_l (s : Q) (a b : Int32) (hp : s.f_phase = a :: b :: List.replicate 6 0) (hn : s.f_n.toInt ≤ 8) (c : Int32) : ∀ (k n : Nat) (i : Int32), 2 ≤ i.toInt → s.f_n.toInt ≤ i.toInt + k → k < n → j_round_l4 n s c i = some (c, s) := by
  intro k
  induction k with
  | zero =>
    intro n i h0 h2 hk
    cases n with
    | zero => omega
    | succ n => rw [j_round_l4, if_neg (by rw [lt32]; omega)]
  | succ k ih =>
    intro n i h0 h2 hk
    cases n with
    | zero => omega
    | succ n =>
      rw [j_round_l4]
      by_cases q : i < s.f_n
      · have ci := q
        rw [lt32] at ci
        have e : (i + 1).toInt = i.toInt + 1 := own_add (by simp only [Int32.reduceToInt]; omega) (by simp only [Int32.reduceToInt]; omega)
        rw [if_pos q, if_pos (by rw [hp]; exact own_ib ⟨by omega, by simp only [List.length_cons, List.length_replicate]; omega⟩), hp, own_rd6 a b h0, if_pos rfl, j_round_b30]
        exact ih n (i + 1) (by omega) (by omega) (by omega)
      · rw [if_neg q]
def own_R1 (s : Q) (c : Int32) : Option (Int32 × Q) := j_round_l4 2999 s c 1
def own_R2 (s : Q) (c : Int32) : Option (Int32 × Q) := j_round_l4 2998 s c 2
theorem own_R0e (s : Q) : j_round_l4 3000 s 0 0 = (if 0 < s.f_n then (if inb s.f_phase.length 0 = true then (if (rd s.f_phase 0) = 0 then own_R1 s 0 else ((j_step s 0).bind fun p => own_R1 p.2 1)) else none) else some (0, s)) := by
  rw [j_round_l4]; rfl
theorem own_R1e (s : Q) (c : Int32) : own_R1 s c = (if 1 < s.f_n then (if inb s.f_phase.length 1 = true then (if (rd s.f_phase 1) = 0 then own_R2 s c else ((j_step s 1).bind fun p => own_R2 p.2 (c + 1))) else none) else some (c, s)) := by
  rw [own_R1, j_round_l4]; rfl
theorem own_R2e (s : Q) (c a b : Int32) (hp : s.f_phase = a :: b :: List.replicate 6 0) (hn : s.f_n.toInt ≤ 8) : own_R2 s c = some (c, s) :=
  own_skip_l s a b hp hn c 8 2998 2 (by decide) (by simp only [Int32.reduceToInt]; omega) (by omega)

theorem own_l8 (a b : Int32) : (a :: b :: List.replicate 6 (0 : Int32)).length = 8 := rfl
theorem own_l32 (a b : Int32) : (a :: b :: List.replicate 30 (0 : Int32)).length = 32 := rfl
theorem own_b80 : inb 8 0 = true := rfl
theorem own_b81 : inb 8 1 = true := rfl
theorem own_b320 : inb 32 0 = true := rfl
theorem own_b321 : inb 32 1 = true := rfl
theorem own_pf0 (s : Q) (v : Int32) : j_pushFront_l15 3000 s v 0 = some (v, s) := by rw [j_pushFront_l15, if_neg (by decide)]
theorem own_pf1 (s : Q) (v : Int32) (h : s.f_list.length = 8) : j_pushFront_l15 3000 s v 1 = some (v, s.s_list (wr s.f_list 1 (rd s.f_list 0))) := by
  rw [j_pushFront_l15, if_pos (by decide), h, if_pos (by decide), if_pos (by decide)]
  rw [show (1 : Int32) + -1 = 0 from rfl, show (1 : Int32) - 1 = 0 from rfl, j_pushFront_l15, if_neg (by decide)]
  rfl
theorem own_ix0 (s : Q) (t : Int32) (h : s.f_list.length = 8) (h0 : 0 < s.f_listLen) (e : rd s.f_list 0 = t) : j_indexOf s t = some 0 := by
  rw [j_indexOf, j_indexOf_l2, if_pos h0, h, if_pos (by decide), if_pos e]; rfl
theorem own_ix1 (s : Q) (t : Int32) (h : s.f_list.length = 8) (h0 : 0 < s.f_listLen) (h1 : 1 < s.f_listLen) (e0 : ¬ rd s.f_list 0 = t) (e : rd s.f_list 1 = t) : j_indexOf s t = some 1 := by
  rw [j_indexOf, j_indexOf_l2, if_pos h0, h, if_pos (by decide), if_neg e0, show (0 : Int32) + 1 = 1 from rfl, j_indexOf_l2, if_pos h1, h, if_pos (by decide), if_pos e]; rfl
theorem own_su0 (s : Q) : j_siftUp s 0 = some s := by
  rw [j_siftUp, j_siftUp_l4, if_pos (by decide), if_neg (by decide)]; rfl
theorem own_su1 (s : Q) (h : s.f_heap.length = 32) : j_siftUp s 1 = some (if rd s.f_heap 1 < rd s.f_heap 0 then s.s_heap (wr (wr s.f_heap 0 (rd s.f_heap 1)) 1 (rd s.f_heap 0)) else s) := by
  rw [j_siftUp, j_siftUp_l4, if_pos (by decide), if_pos (by decide), if_pos (by decide), h, if_pos (by decide), if_pos (by decide)]
  rw [show ((1 : Int32) - 1) / 2 = 0 from rfl]
  split
  · rw [j_swap, h, if_pos (by decide), if_pos (by decide), if_pos (by decide), len_wr, h, if_pos (by decide), Option.bind_some, j_siftUp_l4, if_pos (by decide), if_neg (by decide)]
    rfl
  · rfl
theorem own_sd0 (s : Q) (h : ¬ 1 < s.f_heapSize) : j_siftDown s = some s := by
  rw [j_siftDown, j_siftDown_l4, if_pos (by decide), show (2 : Int32) * 0 + 1 = 1 from rfl, if_neg h]; rfl
theorem own_rnd2 (s s1 s2 : Q) (k0 k1 a b c d e f : Int32) (e0 : s.f_phase = a :: b :: List.replicate 6 0) (e1 : s1.f_phase = c :: d :: List.replicate 6 0) (e2 : s2.f_phase = e :: f :: List.replicate 6 0) (ha : ¬ a = 0) (hd : ¬ d = 0) {n : Int32} (hn0 : 0 < n) (hn1 : 1 < n) (hn8 : n.toInt ≤ 8) (n0 : s.f_n = n) (n1 : s1.f_n = n) (n2 : s2.f_n = n) (t0 : j_step s 0 = some (k0, s1)) (t1 : j_step s1 1 = some (k1, s2)) : j_round s = some (2, s2) := by
  rw [j_round, own_R0e, n0, if_pos hn0, e0, own_l8, if_pos own_b80, own_g0, if_neg ha, t0, Option.bind_some, own_R1e, n1, if_pos hn1, e1, own_l8, if_pos own_b81, own_g1, if_neg hd, t1, Option.bind_some, own_R2e s2 _ e f e2 (by rw [n2]; exact hn8)]
  rfl
theorem own_rnd1 (s s1 : Q) (k0 a c : Int32) (b : Int32) (e0 : s.f_phase = a :: b :: List.replicate 6 0) (e1 : s1.f_phase = c :: 0 :: List.replicate 6 0) (ha : ¬ a = 0) {n : Int32} (hn0 : 0 < n) (hn1 : 1 < n) (hn8 : n.toInt ≤ 8) (n0 : s.f_n = n) (n1 : s1.f_n = n) (t0 : j_step s 0 = some (k0, s1)) : j_round s = some (1, s1) := by
  rw [j_round, own_R0e, n0, if_pos hn0, e0, own_l8, if_pos own_b80, own_g0, if_neg ha, t0, Option.bind_some, own_R1e, n1, if_pos hn1, e1, own_l8, if_pos own_b81, own_g1, if_pos rfl, own_R2e s1 _ c 0 e1 (by rw [n1]; exact hn8)]
  rfl
theorem own_k1 (n cap age x y a b : Int32) (hn0 : 0 < n) (hn1 : 1 < n) (hc0 : 0 < cap) (hc1 : 1 < cap) : j_submit (Q.mk (0 :: 0 :: List.replicate 30 0) (-1) (0 :: 0 :: List.replicate 6 0) (-1) (0 :: 0 :: List.replicate 6 0) (0 :: 0 :: List.replicate 6 0) (0 :: 0 :: List.replicate 6 0) (0 :: 0 :: List.replicate 6 0) (0 :: 0 :: List.replicate 6 0) (0 :: 0 :: List.replicate 6 0) (0 :: 0 :: List.replicate 6 0) (0 :: 0 :: List.replicate 6 0) (0 :: 0 :: List.replicate 6 0) (0 :: 0 :: List.replicate 6 0) (0 :: 0 :: List.replicate 6 0) (0 :: 0 :: List.replicate 6 0) n cap age 0 0 0 0) 0 1 x = some (1, (Q.mk (0 :: 0 :: List.replicate 30 0) (-1) (0 :: 0 :: List.replicate 6 0) (-1) (1 :: 0 :: List.replicate 6 0) (1 :: 0 :: List.replicate 6 0) (x :: 0 :: List.replicate 6 0) (0 :: 0 :: List.replicate 6 0) (0 :: 0 :: List.replicate 6 0) (0 :: 0 :: List.replicate 6 0) (0 :: 0 :: List.replicate 6 0) (0 :: 0 :: List.replicate 6 0) (0 :: 0 :: List.replicate 6 0) (0 :: 0 :: List.replicate 6 0) (0 :: 0 :: List.replicate 6 0) (0 :: 0 :: List.replicate 6 0) n cap age 0 0 0 0)) := by
  simp [j_step, j_valid, j_submit, j_submit_b22, j_stepPublish, j_pushFront, own_pf0, own_pf1, j_stepTryLock, j_stepTryLock_b31, j_stepSpin, j_take, j_stepCombine, j_stepCombine_b57, j_stepCombine_b121, own_ix0, own_ix1, j_serve, j_serve_b23, j_applyInsert, own_su0, own_su1, j_applyDeleteMin, own_sd0, j_endPass, own_f_heap, own_e_heap, own_z_heap, own_f_lock, own_e_lock, own_z_lock, own_f_list, own_e_list, own_z_list, own_f_cursor, own_e_cursor, own_z_cursor, own_f_phase, own_e_phase, own_z_phase, own_f_opKind, own_e_opKind, own_z_opKind, own_f_opVal, own_e_opVal, own_z_opVal, own_f_resStatus, own_e_resStatus, own_z_resStatus, own_f_resVal, own_e_resVal, own_z_resVal, own_f_enlisted, own_e_enlisted, own_z_enlisted, own_f_reqKind, own_e_reqKind, own_z_reqKind, own_f_reqVal, own_e_reqVal, own_z_reqVal, own_f_ready, own_e_ready, own_z_ready, own_f_respStatus, own_e_respStatus, own_z_respStatus, own_f_respVal, own_e_respVal, own_z_respVal, own_f_stamp, own_e_stamp, own_z_stamp, own_f_n, own_e_n, own_z_n, own_f_cap, own_e_cap, own_z_cap, own_f_age, own_e_age, own_z_age, own_f_listLen, own_e_listLen, own_z_listLen, own_f_pass, own_e_pass, own_z_pass, own_f_heapSize, own_e_heapSize, own_z_heapSize, own_f_applied, own_e_applied, own_z_applied, own_g0, own_g1, own_h0, own_h1, own_l8, own_l32, own_b80, own_b81, own_b320, own_b321, hn0, hn1, hc0, hc1, -List.reduceReplicate]
theorem own_k2 (n cap age x y a b : Int32) (hn0 : 0 < n) (hn1 : 1 < n) (hc0 : 0 < cap) (hc1 : 1 < cap) : j_submit (Q.mk (0 :: 0 :: List.replicate 30 0) (-1) (0 :: 0 :: List.replicate 6 0) (-1) (1 :: 0 :: List.replicate 6 0) (1 :: 0 :: List.replicate 6 0) (x :: 0 :: List.replicate 6 0) (0 :: 0 :: List.replicate 6 0) (0 :: 0 :: List.replicate 6 0) (0 :: 0 :: List.replicate 6 0) (0 :: 0 :: List.replicate 6 0) (0 :: 0 :: List.replicate 6 0) (0 :: 0 :: List.replicate 6 0) (0 :: 0 :: List.replicate 6 0) (0 :: 0 :: List.replicate 6 0) (0 :: 0 :: List.replicate 6 0) n cap age 0 0 0 0) 1 1 y = some (1, (Q.mk (0 :: 0 :: List.replicate 30 0) (-1) (0 :: 0 :: List.replicate 6 0) (-1) (1 :: 1 :: List.replicate 6 0) (1 :: 1 :: List.replicate 6 0) (x :: y :: List.replicate 6 0) (0 :: 0 :: List.replicate 6 0) (0 :: 0 :: List.replicate 6 0) (0 :: 0 :: List.replicate 6 0) (0 :: 0 :: List.replicate 6 0) (0 :: 0 :: List.replicate 6 0) (0 :: 0 :: List.replicate 6 0) (0 :: 0 :: List.replicate 6 0) (0 :: 0 :: List.replicate 6 0) (0 :: 0 :: List.replicate 6 0) n cap age 0 0 0 0)) := by
  simp [j_step, j_valid, j_submit, j_submit_b22, j_stepPublish, j_pushFront, own_pf0, own_pf1, j_stepTryLock, j_stepTryLock_b31, j_stepSpin, j_take, j_stepCombine, j_stepCombine_b57, j_stepCombine_b121, own_ix0, own_ix1, j_serve, j_serve_b23, j_applyInsert, own_su0, own_su1, j_applyDeleteMin, own_sd0, j_endPass, own_f_heap, own_e_heap, own_z_heap, own_f_lock, own_e_lock, own_z_lock, own_f_list, own_e_list, own_z_list, own_f_cursor, own_e_cursor, own_z_cursor, own_f_phase, own_e_phase, own_z_phase, own_f_opKind, own_e_opKind, own_z_opKind, own_f_opVal, own_e_opVal, own_z_opVal, own_f_resStatus, own_e_resStatus, own_z_resStatus, own_f_resVal, own_e_resVal, own_z_resVal, own_f_enlisted, own_e_enlisted, own_z_enlisted, own_f_reqKind, own_e_reqKind, own_z_reqKind, own_f_reqVal, own_e_reqVal, own_z_reqVal, own_f_ready, own_e_ready, own_z_ready, own_f_respStatus, own_e_respStatus, own_z_respStatus, own_f_respVal, own_e_respVal, own_z_respVal, own_f_stamp, own_e_stamp, own_z_stamp, own_f_n, own_e_n, own_z_n, own_f_cap, own_e_cap, own_z_cap, own_f_age, own_e_age, own_z_age, own_f_listLen, own_e_listLen, own_z_listLen, own_f_pass, own_e_pass, own_z_pass, own_f_heapSize, own_e_heapSize, own_z_heapSize, own_f_applied, own_e_applied, own_z_applied, own_g0, own_g1, own_h0, own_h1, own_l8, own_l32, own_b80, own_b81, own_b320, own_b321, hn0, hn1, hc0, hc1, -List.reduceReplicate]
theorem own_k3 (n cap age x y a b : Int32) (hn0 : 0 < n) (hn1 : 1 < n) (hc0 : 0 < cap) (hc1 : 1 < cap) : j_step (Q.mk (0 :: 0 :: List.replicate 30 0) (-1) (0 :: 0 :: List.replicate 6 0) (-1) (1 :: 1 :: List.replicate 6 0) (1 :: 1 :: List.replicate 6 0) (x :: y :: List.replicate 6 0) (0 :: 0 :: List.replicate 6 0) (0 :: 0 :: List.replicate 6 0) (0 :: 0 :: List.replicate 6 0) (0 :: 0 :: List.replicate 6 0) (0 :: 0 :: List.replicate 6 0) (0 :: 0 :: List.replicate 6 0) (0 :: 0 :: List.replicate 6 0) (0 :: 0 :: List.replicate 6 0) (0 :: 0 :: List.replicate 6 0) n cap age 0 0 0 0) 0 = some (2, (Q.mk (0 :: 0 :: List.replicate 30 0) (-1) (0 :: 0 :: List.replicate 6 0) (-1) (2 :: 1 :: List.replicate 6 0) (1 :: 1 :: List.replicate 6 0) (x :: y :: List.replicate 6 0) (0 :: 0 :: List.replicate 6 0) (0 :: 0 :: List.replicate 6 0) (1 :: 0 :: List.replicate 6 0) (1 :: 0 :: List.replicate 6 0) (x :: 0 :: List.replicate 6 0) (0 :: 0 :: List.replicate 6 0) (0 :: 0 :: List.replicate 6 0) (0 :: 0 :: List.replicate 6 0) (0 :: 0 :: List.replicate 6 0) n cap age 1 0 0 0)) := by
  simp [j_step, j_valid, j_submit, j_submit_b22, j_stepPublish, j_pushFront, own_pf0, own_pf1, j_stepTryLock, j_stepTryLock_b31, j_stepSpin, j_take, j_stepCombine, j_stepCombine_b57, j_stepCombine_b121, own_ix0, own_ix1, j_serve, j_serve_b23, j_applyInsert, own_su0, own_su1, j_applyDeleteMin, own_sd0, j_endPass, own_f_heap, own_e_heap, own_z_heap, own_f_lock, own_e_lock, own_z_lock, own_f_list, own_e_list, own_z_list, own_f_cursor, own_e_cursor, own_z_cursor, own_f_phase, own_e_phase, own_z_phase, own_f_opKind, own_e_opKind, own_z_opKind, own_f_opVal, own_e_opVal, own_z_opVal, own_f_resStatus, own_e_resStatus, own_z_resStatus, own_f_resVal, own_e_resVal, own_z_resVal, own_f_enlisted, own_e_enlisted, own_z_enlisted, own_f_reqKind, own_e_reqKind, own_z_reqKind, own_f_reqVal, own_e_reqVal, own_z_reqVal, own_f_ready, own_e_ready, own_z_ready, own_f_respStatus, own_e_respStatus, own_z_respStatus, own_f_respVal, own_e_respVal, own_z_respVal, own_f_stamp, own_e_stamp, own_z_stamp, own_f_n, own_e_n, own_z_n, own_f_cap, own_e_cap, own_z_cap, own_f_age, own_e_age, own_z_age, own_f_listLen, own_e_listLen, own_z_listLen, own_f_pass, own_e_pass, own_z_pass, own_f_heapSize, own_e_heapSize, own_z_heapSize, own_f_applied, own_e_applied, own_z_applied, own_g0, own_g1, own_h0, own_h1, own_l8, own_l32, own_b80, own_b81, own_b320, own_b321, hn0, hn1, hc0, hc1, -List.reduceReplicate]
theorem own_k4 (n cap age x y a b : Int32) (hn0 : 0 < n) (hn1 : 1 < n) (hc0 : 0 < cap) (hc1 : 1 < cap) : j_step (Q.mk (0 :: 0 :: List.replicate 30 0) (-1) (0 :: 0 :: List.replicate 6 0) (-1) (2 :: 1 :: List.replicate 6 0) (1 :: 1 :: List.replicate 6 0) (x :: y :: List.replicate 6 0) (0 :: 0 :: List.replicate 6 0) (0 :: 0 :: List.replicate 6 0) (1 :: 0 :: List.replicate 6 0) (1 :: 0 :: List.replicate 6 0) (x :: 0 :: List.replicate 6 0) (0 :: 0 :: List.replicate 6 0) (0 :: 0 :: List.replicate 6 0) (0 :: 0 :: List.replicate 6 0) (0 :: 0 :: List.replicate 6 0) n cap age 1 0 0 0) 1 = some (2, (Q.mk (0 :: 0 :: List.replicate 30 0) (-1) (1 :: 0 :: List.replicate 6 0) (-1) (2 :: 2 :: List.replicate 6 0) (1 :: 1 :: List.replicate 6 0) (x :: y :: List.replicate 6 0) (0 :: 0 :: List.replicate 6 0) (0 :: 0 :: List.replicate 6 0) (1 :: 1 :: List.replicate 6 0) (1 :: 1 :: List.replicate 6 0) (x :: y :: List.replicate 6 0) (0 :: 0 :: List.replicate 6 0) (0 :: 0 :: List.replicate 6 0) (0 :: 0 :: List.replicate 6 0) (0 :: 0 :: List.replicate 6 0) n cap age 2 0 0 0)) := by
  simp [j_step, j_valid, j_submit, j_submit_b22, j_stepPublish, j_pushFront, own_pf0, own_pf1, j_stepTryLock, j_stepTryLock_b31, j_stepSpin, j_take, j_stepCombine, j_stepCombine_b57, j_stepCombine_b121, own_ix0, own_ix1, j_serve, j_serve_b23, j_applyInsert, own_su0, own_su1, j_applyDeleteMin, own_sd0, j_endPass, own_f_heap, own_e_heap, own_z_heap, own_f_lock, own_e_lock, own_z_lock, own_f_list, own_e_list, own_z_list, own_f_cursor, own_e_cursor, own_z_cursor, own_f_phase, own_e_phase, own_z_phase, own_f_opKind, own_e_opKind, own_z_opKind, own_f_opVal, own_e_opVal, own_z_opVal, own_f_resStatus, own_e_resStatus, own_z_resStatus, own_f_resVal, own_e_resVal, own_z_resVal, own_f_enlisted, own_e_enlisted, own_z_enlisted, own_f_reqKind, own_e_reqKind, own_z_reqKind, own_f_reqVal, own_e_reqVal, own_z_reqVal, own_f_ready, own_e_ready, own_z_ready, own_f_respStatus, own_e_respStatus, own_z_respStatus, own_f_respVal, own_e_respVal, own_z_respVal, own_f_stamp, own_e_stamp, own_z_stamp, own_f_n, own_e_n, own_z_n, own_f_cap, own_e_cap, own_z_cap, own_f_age, own_e_age, own_z_age, own_f_listLen, own_e_listLen, own_z_listLen, own_f_pass, own_e_pass, own_z_pass, own_f_heapSize, own_e_heapSize, own_z_heapSize, own_f_applied, own_e_applied, own_z_applied, own_g0, own_g1, own_h0, own_h1, own_l8, own_l32, own_b80, own_b81, own_b320, own_b321, hn0, hn1, hc0, hc1, -List.reduceReplicate]
theorem own_k5 (n cap age x y a b : Int32) (hn0 : 0 < n) (hn1 : 1 < n) (hc0 : 0 < cap) (hc1 : 1 < cap) : j_step (Q.mk (0 :: 0 :: List.replicate 30 0) (-1) (1 :: 0 :: List.replicate 6 0) (-1) (2 :: 2 :: List.replicate 6 0) (1 :: 1 :: List.replicate 6 0) (x :: y :: List.replicate 6 0) (0 :: 0 :: List.replicate 6 0) (0 :: 0 :: List.replicate 6 0) (1 :: 1 :: List.replicate 6 0) (1 :: 1 :: List.replicate 6 0) (x :: y :: List.replicate 6 0) (0 :: 0 :: List.replicate 6 0) (0 :: 0 :: List.replicate 6 0) (0 :: 0 :: List.replicate 6 0) (0 :: 0 :: List.replicate 6 0) n cap age 2 0 0 0) 0 = some (3, (Q.mk (0 :: 0 :: List.replicate 30 0) 0 (1 :: 0 :: List.replicate 6 0) 1 (4 :: 2 :: List.replicate 6 0) (1 :: 1 :: List.replicate 6 0) (x :: y :: List.replicate 6 0) (0 :: 0 :: List.replicate 6 0) (0 :: 0 :: List.replicate 6 0) (1 :: 1 :: List.replicate 6 0) (1 :: 1 :: List.replicate 6 0) (x :: y :: List.replicate 6 0) (0 :: 0 :: List.replicate 6 0) (0 :: 0 :: List.replicate 6 0) (0 :: 0 :: List.replicate 6 0) (0 :: 0 :: List.replicate 6 0) n cap age 2 0 0 0)) := by
  simp [j_step, j_valid, j_submit, j_submit_b22, j_stepPublish, j_pushFront, own_pf0, own_pf1, j_stepTryLock, j_stepTryLock_b31, j_stepSpin, j_take, j_stepCombine, j_stepCombine_b57, j_stepCombine_b121, own_ix0, own_ix1, j_serve, j_serve_b23, j_applyInsert, own_su0, own_su1, j_applyDeleteMin, own_sd0, j_endPass, own_f_heap, own_e_heap, own_z_heap, own_f_lock, own_e_lock, own_z_lock, own_f_list, own_e_list, own_z_list, own_f_cursor, own_e_cursor, own_z_cursor, own_f_phase, own_e_phase, own_z_phase, own_f_opKind, own_e_opKind, own_z_opKind, own_f_opVal, own_e_opVal, own_z_opVal, own_f_resStatus, own_e_resStatus, own_z_resStatus, own_f_resVal, own_e_resVal, own_z_resVal, own_f_enlisted, own_e_enlisted, own_z_enlisted, own_f_reqKind, own_e_reqKind, own_z_reqKind, own_f_reqVal, own_e_reqVal, own_z_reqVal, own_f_ready, own_e_ready, own_z_ready, own_f_respStatus, own_e_respStatus, own_z_respStatus, own_f_respVal, own_e_respVal, own_z_respVal, own_f_stamp, own_e_stamp, own_z_stamp, own_f_n, own_e_n, own_z_n, own_f_cap, own_e_cap, own_z_cap, own_f_age, own_e_age, own_z_age, own_f_listLen, own_e_listLen, own_z_listLen, own_f_pass, own_e_pass, own_z_pass, own_f_heapSize, own_e_heapSize, own_z_heapSize, own_f_applied, own_e_applied, own_z_applied, own_g0, own_g1, own_h0, own_h1, own_l8, own_l32, own_b80, own_b81, own_b320, own_b321, hn0, hn1, hc0, hc1, -List.reduceReplicate]
theorem own_k6 (n cap age x y a b : Int32) (hn0 : 0 < n) (hn1 : 1 < n) (hc0 : 0 < cap) (hc1 : 1 < cap) : j_step (Q.mk (0 :: 0 :: List.replicate 30 0) 0 (1 :: 0 :: List.replicate 6 0) 1 (4 :: 2 :: List.replicate 6 0) (1 :: 1 :: List.replicate 6 0) (x :: y :: List.replicate 6 0) (0 :: 0 :: List.replicate 6 0) (0 :: 0 :: List.replicate 6 0) (1 :: 1 :: List.replicate 6 0) (1 :: 1 :: List.replicate 6 0) (x :: y :: List.replicate 6 0) (0 :: 0 :: List.replicate 6 0) (0 :: 0 :: List.replicate 6 0) (0 :: 0 :: List.replicate 6 0) (0 :: 0 :: List.replicate 6 0) n cap age 2 0 0 0) 1 = some (4, (Q.mk (0 :: 0 :: List.replicate 30 0) 0 (1 :: 0 :: List.replicate 6 0) 1 (4 :: 3 :: List.replicate 6 0) (1 :: 1 :: List.replicate 6 0) (x :: y :: List.replicate 6 0) (0 :: 0 :: List.replicate 6 0) (0 :: 0 :: List.replicate 6 0) (1 :: 1 :: List.replicate 6 0) (1 :: 1 :: List.replicate 6 0) (x :: y :: List.replicate 6 0) (0 :: 0 :: List.replicate 6 0) (0 :: 0 :: List.replicate 6 0) (0 :: 0 :: List.replicate 6 0) (0 :: 0 :: List.replicate 6 0) n cap age 2 0 0 0)) := by
  simp [j_step, j_valid, j_submit, j_submit_b22, j_stepPublish, j_pushFront, own_pf0, own_pf1, j_stepTryLock, j_stepTryLock_b31, j_stepSpin, j_take, j_stepCombine, j_stepCombine_b57, j_stepCombine_b121, own_ix0, own_ix1, j_serve, j_serve_b23, j_applyInsert, own_su0, own_su1, j_applyDeleteMin, own_sd0, j_endPass, own_f_heap, own_e_heap, own_z_heap, own_f_lock, own_e_lock, own_z_lock, own_f_list, own_e_list, own_z_list, own_f_cursor, own_e_cursor, own_z_cursor, own_f_phase, own_e_phase, own_z_phase, own_f_opKind, own_e_opKind, own_z_opKind, own_f_opVal, own_e_opVal, own_z_opVal, own_f_resStatus, own_e_resStatus, own_z_resStatus, own_f_resVal, own_e_resVal, own_z_resVal, own_f_enlisted, own_e_enlisted, own_z_enlisted, own_f_reqKind, own_e_reqKind, own_z_reqKind, own_f_reqVal, own_e_reqVal, own_z_reqVal, own_f_ready, own_e_ready, own_z_ready, own_f_respStatus, own_e_respStatus, own_z_respStatus, own_f_respVal, own_e_respVal, own_z_respVal, own_f_stamp, own_e_stamp, own_z_stamp, own_f_n, own_e_n, own_z_n, own_f_cap, own_e_cap, own_z_cap, own_f_age, own_e_age, own_z_age, own_f_listLen, own_e_listLen, own_z_listLen, own_f_pass, own_e_pass, own_z_pass, own_f_heapSize, own_e_heapSize, own_z_heapSize, own_f_applied, own_e_applied, own_z_applied, own_g0, own_g1, own_h0, own_h1, own_l8, own_l32, own_b80, own_b81, own_b320, own_b321, hn0, hn1, hc0, hc1, -List.reduceReplicate]
theorem own_k7 (n cap age x y a b : Int32) (hn0 : 0 < n) (hn1 : 1 < n) (hc0 : 0 < cap) (hc1 : 1 < cap) : j_step (Q.mk (0 :: 0 :: List.replicate 30 0) 0 (1 :: 0 :: List.replicate 6 0) 1 (4 :: 3 :: List.replicate 6 0) (1 :: 1 :: List.replicate 6 0) (x :: y :: List.replicate 6 0) (0 :: 0 :: List.replicate 6 0) (0 :: 0 :: List.replicate 6 0) (1 :: 1 :: List.replicate 6 0) (1 :: 1 :: List.replicate 6 0) (x :: y :: List.replicate 6 0) (0 :: 0 :: List.replicate 6 0) (0 :: 0 :: List.replicate 6 0) (0 :: 0 :: List.replicate 6 0) (0 :: 0 :: List.replicate 6 0) n cap age 2 0 0 0) 0 = some (8, (Q.mk (y :: 0 :: List.replicate 30 0) 0 (1 :: 0 :: List.replicate 6 0) 0 (4 :: 3 :: List.replicate 6 0) (1 :: 1 :: List.replicate 6 0) (x :: y :: List.replicate 6 0) (0 :: 0 :: List.replicate 6 0) (0 :: 0 :: List.replicate 6 0) (1 :: 1 :: List.replicate 6 0) (1 :: 0 :: List.replicate 6 0) (x :: y :: List.replicate 6 0) (0 :: 1 :: List.replicate 6 0) (0 :: 1 :: List.replicate 6 0) (0 :: y :: List.replicate 6 0) (0 :: 0 :: List.replicate 6 0) n cap age 2 0 1 1)) := by
  simp [j_step, j_valid, j_submit, j_submit_b22, j_stepPublish, j_pushFront, own_pf0, own_pf1, j_stepTryLock, j_stepTryLock_b31, j_stepSpin, j_take, j_stepCombine, j_stepCombine_b57, j_stepCombine_b121, own_ix0, own_ix1, j_serve, j_serve_b23, j_applyInsert, own_su0, own_su1, j_applyDeleteMin, own_sd0, j_endPass, own_f_heap, own_e_heap, own_z_heap, own_f_lock, own_e_lock, own_z_lock, own_f_list, own_e_list, own_z_list, own_f_cursor, own_e_cursor, own_z_cursor, own_f_phase, own_e_phase, own_z_phase, own_f_opKind, own_e_opKind, own_z_opKind, own_f_opVal, own_e_opVal, own_z_opVal, own_f_resStatus, own_e_resStatus, own_z_resStatus, own_f_resVal, own_e_resVal, own_z_resVal, own_f_enlisted, own_e_enlisted, own_z_enlisted, own_f_reqKind, own_e_reqKind, own_z_reqKind, own_f_reqVal, own_e_reqVal, own_z_reqVal, own_f_ready, own_e_ready, own_z_ready, own_f_respStatus, own_e_respStatus, own_z_respStatus, own_f_respVal, own_e_respVal, own_z_respVal, own_f_stamp, own_e_stamp, own_z_stamp, own_f_n, own_e_n, own_z_n, own_f_cap, own_e_cap, own_z_cap, own_f_age, own_e_age, own_z_age, own_f_listLen, own_e_listLen, own_z_listLen, own_f_pass, own_e_pass, own_z_pass, own_f_heapSize, own_e_heapSize, own_z_heapSize, own_f_applied, own_e_applied, own_z_applied, own_g0, own_g1, own_h0, own_h1, own_l8, own_l32, own_b80, own_b81, own_b320, own_b321, hn0, hn1, hc0, hc1, -List.reduceReplicate]
theorem own_k8 (n cap age x y a b : Int32) (hn0 : 0 < n) (hn1 : 1 < n) (hc0 : 0 < cap) (hc1 : 1 < cap) : j_step (Q.mk (y :: 0 :: List.replicate 30 0) 0 (1 :: 0 :: List.replicate 6 0) 0 (4 :: 3 :: List.replicate 6 0) (1 :: 1 :: List.replicate 6 0) (x :: y :: List.replicate 6 0) (0 :: 0 :: List.replicate 6 0) (0 :: 0 :: List.replicate 6 0) (1 :: 1 :: List.replicate 6 0) (1 :: 0 :: List.replicate 6 0) (x :: y :: List.replicate 6 0) (0 :: 1 :: List.replicate 6 0) (0 :: 1 :: List.replicate 6 0) (0 :: y :: List.replicate 6 0) (0 :: 0 :: List.replicate 6 0) n cap age 2 0 1 1) 1 = some (5, (Q.mk (y :: 0 :: List.replicate 30 0) 0 (1 :: 0 :: List.replicate 6 0) 0 (4 :: 0 :: List.replicate 6 0) (1 :: 1 :: List.replicate 6 0) (x :: y :: List.replicate 6 0) (0 :: 1 :: List.replicate 6 0) (0 :: y :: List.replicate 6 0) (1 :: 1 :: List.replicate 6 0) (1 :: 0 :: List.replicate 6 0) (x :: y :: List.replicate 6 0) (0 :: 0 :: List.replicate 6 0) (0 :: 1 :: List.replicate 6 0) (0 :: y :: List.replicate 6 0) (0 :: 0 :: List.replicate 6 0) n cap age 2 0 1 1)) := by
  simp [j_step, j_valid, j_submit, j_submit_b22, j_stepPublish, j_pushFront, own_pf0, own_pf1, j_stepTryLock, j_stepTryLock_b31, j_stepSpin, j_take, j_stepCombine, j_stepCombine_b57, j_stepCombine_b121, own_ix0, own_ix1, j_serve, j_serve_b23, j_applyInsert, own_su0, own_su1, j_applyDeleteMin, own_sd0, j_endPass, own_f_heap, own_e_heap, own_z_heap, own_f_lock, own_e_lock, own_z_lock, own_f_list, own_e_list, own_z_list, own_f_cursor, own_e_cursor, own_z_cursor, own_f_phase, own_e_phase, own_z_phase, own_f_opKind, own_e_opKind, own_z_opKind, own_f_opVal, own_e_opVal, own_z_opVal, own_f_resStatus, own_e_resStatus, own_z_resStatus, own_f_resVal, own_e_resVal, own_z_resVal, own_f_enlisted, own_e_enlisted, own_z_enlisted, own_f_reqKind, own_e_reqKind, own_z_reqKind, own_f_reqVal, own_e_reqVal, own_z_reqVal, own_f_ready, own_e_ready, own_z_ready, own_f_respStatus, own_e_respStatus, own_z_respStatus, own_f_respVal, own_e_respVal, own_z_respVal, own_f_stamp, own_e_stamp, own_z_stamp, own_f_n, own_e_n, own_z_n, own_f_cap, own_e_cap, own_z_cap, own_f_age, own_e_age, own_z_age, own_f_listLen, own_e_listLen, own_z_listLen, own_f_pass, own_e_pass, own_z_pass, own_f_heapSize, own_e_heapSize, own_z_heapSize, own_f_applied, own_e_applied, own_z_applied, own_g0, own_g1, own_h0, own_h1, own_l8, own_l32, own_b80, own_b81, own_b320, own_b321, hn0, hn1, hc0, hc1, -List.reduceReplicate]
theorem own_k9 (n cap age x y a b : Int32) (hn0 : 0 < n) (hn1 : 1 < n) (hc0 : 0 < cap) (hc1 : 1 < cap) (hxy : x < y) : j_step (Q.mk (y :: 0 :: List.replicate 30 0) 0 (1 :: 0 :: List.replicate 6 0) 0 (4 :: 0 :: List.replicate 6 0) (1 :: 1 :: List.replicate 6 0) (x :: y :: List.replicate 6 0) (0 :: 1 :: List.replicate 6 0) (0 :: y :: List.replicate 6 0) (1 :: 1 :: List.replicate 6 0) (1 :: 0 :: List.replicate 6 0) (x :: y :: List.replicate 6 0) (0 :: 0 :: List.replicate 6 0) (0 :: 1 :: List.replicate 6 0) (0 :: y :: List.replicate 6 0) (0 :: 0 :: List.replicate 6 0) n cap age 2 0 1 1) 0 = some (8, (Q.mk (x :: y :: List.replicate 30 0) 0 (1 :: 0 :: List.replicate 6 0) (-1) (4 :: 0 :: List.replicate 6 0) (1 :: 1 :: List.replicate 6 0) (x :: y :: List.replicate 6 0) (0 :: 1 :: List.replicate 6 0) (0 :: y :: List.replicate 6 0) (1 :: 1 :: List.replicate 6 0) (0 :: 0 :: List.replicate 6 0) (x :: y :: List.replicate 6 0) (1 :: 0 :: List.replicate 6 0) (1 :: 1 :: List.replicate 6 0) (x :: y :: List.replicate 6 0) (0 :: 0 :: List.replicate 6 0) n cap age 2 0 2 2)) := by
  simp [j_step, j_valid, j_submit, j_submit_b22, j_stepPublish, j_pushFront, own_pf0, own_pf1, j_stepTryLock, j_stepTryLock_b31, j_stepSpin, j_take, j_stepCombine, j_stepCombine_b57, j_stepCombine_b121, own_ix0, own_ix1, j_serve, j_serve_b23, j_applyInsert, own_su0, own_su1, j_applyDeleteMin, own_sd0, j_endPass, own_f_heap, own_e_heap, own_z_heap, own_f_lock, own_e_lock, own_z_lock, own_f_list, own_e_list, own_z_list, own_f_cursor, own_e_cursor, own_z_cursor, own_f_phase, own_e_phase, own_z_phase, own_f_opKind, own_e_opKind, own_z_opKind, own_f_opVal, own_e_opVal, own_z_opVal, own_f_resStatus, own_e_resStatus, own_z_resStatus, own_f_resVal, own_e_resVal, own_z_resVal, own_f_enlisted, own_e_enlisted, own_z_enlisted, own_f_reqKind, own_e_reqKind, own_z_reqKind, own_f_reqVal, own_e_reqVal, own_z_reqVal, own_f_ready, own_e_ready, own_z_ready, own_f_respStatus, own_e_respStatus, own_z_respStatus, own_f_respVal, own_e_respVal, own_z_respVal, own_f_stamp, own_e_stamp, own_z_stamp, own_f_n, own_e_n, own_z_n, own_f_cap, own_e_cap, own_z_cap, own_f_age, own_e_age, own_z_age, own_f_listLen, own_e_listLen, own_z_listLen, own_f_pass, own_e_pass, own_z_pass, own_f_heapSize, own_e_heapSize, own_z_heapSize, own_f_applied, own_e_applied, own_z_applied, own_g0, own_g1, own_h0, own_h1, own_l8, own_l32, own_b80, own_b81, own_b320, own_b321, hn0, hn1, hc0, hc1, -List.reduceReplicate, hxy]
theorem own_k10 (n cap age x y a b : Int32) (hn0 : 0 < n) (hn1 : 1 < n) (hc0 : 0 < cap) (hc1 : 1 < cap) (hxy : ¬ x < y) : j_step (Q.mk (y :: 0 :: List.replicate 30 0) 0 (1 :: 0 :: List.replicate 6 0) 0 (4 :: 0 :: List.replicate 6 0) (1 :: 1 :: List.replicate 6 0) (x :: y :: List.replicate 6 0) (0 :: 1 :: List.replicate 6 0) (0 :: y :: List.replicate 6 0) (1 :: 1 :: List.replicate 6 0) (1 :: 0 :: List.replicate 6 0) (x :: y :: List.replicate 6 0) (0 :: 0 :: List.replicate 6 0) (0 :: 1 :: List.replicate 6 0) (0 :: y :: List.replicate 6 0) (0 :: 0 :: List.replicate 6 0) n cap age 2 0 1 1) 0 = some (8, (Q.mk (y :: x :: List.replicate 30 0) 0 (1 :: 0 :: List.replicate 6 0) (-1) (4 :: 0 :: List.replicate 6 0) (1 :: 1 :: List.replicate 6 0) (x :: y :: List.replicate 6 0) (0 :: 1 :: List.replicate 6 0) (0 :: y :: List.replicate 6 0) (1 :: 1 :: List.replicate 6 0) (0 :: 0 :: List.replicate 6 0) (x :: y :: List.replicate 6 0) (1 :: 0 :: List.replicate 6 0) (1 :: 1 :: List.replicate 6 0) (x :: y :: List.replicate 6 0) (0 :: 0 :: List.replicate 6 0) n cap age 2 0 2 2)) := by
  simp [j_step, j_valid, j_submit, j_submit_b22, j_stepPublish, j_pushFront, own_pf0, own_pf1, j_stepTryLock, j_stepTryLock_b31, j_stepSpin, j_take, j_stepCombine, j_stepCombine_b57, j_stepCombine_b121, own_ix0, own_ix1, j_serve, j_serve_b23, j_applyInsert, own_su0, own_su1, j_applyDeleteMin, own_sd0, j_endPass, own_f_heap, own_e_heap, own_z_heap, own_f_lock, own_e_lock, own_z_lock, own_f_list, own_e_list, own_z_list, own_f_cursor, own_e_cursor, own_z_cursor, own_f_phase, own_e_phase, own_z_phase, own_f_opKind, own_e_opKind, own_z_opKind, own_f_opVal, own_e_opVal, own_z_opVal, own_f_resStatus, own_e_resStatus, own_z_resStatus, own_f_resVal, own_e_resVal, own_z_resVal, own_f_enlisted, own_e_enlisted, own_z_enlisted, own_f_reqKind, own_e_reqKind, own_z_reqKind, own_f_reqVal, own_e_reqVal, own_z_reqVal, own_f_ready, own_e_ready, own_z_ready, own_f_respStatus, own_e_respStatus, own_z_respStatus, own_f_respVal, own_e_respVal, own_z_respVal, own_f_stamp, own_e_stamp, own_z_stamp, own_f_n, own_e_n, own_z_n, own_f_cap, own_e_cap, own_z_cap, own_f_age, own_e_age, own_z_age, own_f_listLen, own_e_listLen, own_z_listLen, own_f_pass, own_e_pass, own_z_pass, own_f_heapSize, own_e_heapSize, own_z_heapSize, own_f_applied, own_e_applied, own_z_applied, own_g0, own_g1, own_h0, own_h1, own_l8, own_l32, own_b80, own_b81, own_b320, own_b321, hn0, hn1, hc0, hc1, -List.reduceReplicate, hxy, Int32.not_lt.mp hxy]
theorem own_k11 (n cap age x y a b : Int32) (hn0 : 0 < n) (hn1 : 1 < n) (hc0 : 0 < cap) (hc1 : 1 < cap) : j_step (Q.mk (a :: b :: List.replicate 30 0) 0 (1 :: 0 :: List.replicate 6 0) (-1) (4 :: 0 :: List.replicate 6 0) (1 :: 1 :: List.replicate 6 0) (x :: y :: List.replicate 6 0) (0 :: 1 :: List.replicate 6 0) (0 :: y :: List.replicate 6 0) (1 :: 1 :: List.replicate 6 0) (0 :: 0 :: List.replicate 6 0) (x :: y :: List.replicate 6 0) (1 :: 0 :: List.replicate 6 0) (1 :: 1 :: List.replicate 6 0) (x :: y :: List.replicate 6 0) (0 :: 0 :: List.replicate 6 0) n cap age 2 0 2 2) 0 = some (11, (Q.mk (a :: b :: List.replicate 30 0) (-1) (1 :: 0 :: List.replicate 6 0) (-1) (0 :: 0 :: List.replicate 6 0) (1 :: 1 :: List.replicate 6 0) (x :: y :: List.replicate 6 0) (1 :: 1 :: List.replicate 6 0) (x :: y :: List.replicate 6 0) (1 :: 1 :: List.replicate 6 0) (0 :: 0 :: List.replicate 6 0) (x :: y :: List.replicate 6 0) (0 :: 0 :: List.replicate 6 0) (1 :: 1 :: List.replicate 6 0) (x :: y :: List.replicate 6 0) (0 :: 0 :: List.replicate 6 0) n cap age 2 1 2 2)) := by
  simp [j_step, j_valid, j_submit, j_submit_b22, j_stepPublish, j_pushFront, own_pf0, own_pf1, j_stepTryLock, j_stepTryLock_b31, j_stepSpin, j_take, j_stepCombine, j_stepCombine_b57, j_stepCombine_b121, own_ix0, own_ix1, j_serve, j_serve_b23, j_applyInsert, own_su0, own_su1, j_applyDeleteMin, own_sd0, j_endPass, own_f_heap, own_e_heap, own_z_heap, own_f_lock, own_e_lock, own_z_lock, own_f_list, own_e_list, own_z_list, own_f_cursor, own_e_cursor, own_z_cursor, own_f_phase, own_e_phase, own_z_phase, own_f_opKind, own_e_opKind, own_z_opKind, own_f_opVal, own_e_opVal, own_z_opVal, own_f_resStatus, own_e_resStatus, own_z_resStatus, own_f_resVal, own_e_resVal, own_z_resVal, own_f_enlisted, own_e_enlisted, own_z_enlisted, own_f_reqKind, own_e_reqKind, own_z_reqKind, own_f_reqVal, own_e_reqVal, own_z_reqVal, own_f_ready, own_e_ready, own_z_ready, own_f_respStatus, own_e_respStatus, own_z_respStatus, own_f_respVal, own_e_respVal, own_z_respVal, own_f_stamp, own_e_stamp, own_z_stamp, own_f_n, own_e_n, own_z_n, own_f_cap, own_e_cap, own_z_cap, own_f_age, own_e_age, own_z_age, own_f_listLen, own_e_listLen, own_z_listLen, own_f_pass, own_e_pass, own_z_pass, own_f_heapSize, own_e_heapSize, own_z_heapSize, own_f_applied, own_e_applied, own_z_applied, own_g0, own_g1, own_h0, own_h1, own_l8, own_l32, own_b80, own_b81, own_b320, own_b321, hn0, hn1, hc0, hc1, -List.reduceReplicate]
theorem own_k12 (n cap age x y a b : Int32) (hn0 : 0 < n) (hn1 : 1 < n) (hc0 : 0 < cap) (hc1 : 1 < cap) : j_submit (Q.mk (a :: b :: List.replicate 30 0) (-1) (1 :: 0 :: List.replicate 6 0) (-1) (0 :: 0 :: List.replicate 6 0) (1 :: 1 :: List.replicate 6 0) (x :: y :: List.replicate 6 0) (1 :: 1 :: List.replicate 6 0) (x :: y :: List.replicate 6 0) (1 :: 1 :: List.replicate 6 0) (0 :: 0 :: List.replicate 6 0) (x :: y :: List.replicate 6 0) (0 :: 0 :: List.replicate 6 0) (1 :: 1 :: List.replicate 6 0) (x :: y :: List.replicate 6 0) (0 :: 0 :: List.replicate 6 0) n cap age 2 1 2 2) 1 2 0 = some (1, (Q.mk (a :: b :: List.replicate 30 0) (-1) (1 :: 0 :: List.replicate 6 0) (-1) (0 :: 1 :: List.replicate 6 0) (1 :: 2 :: List.replicate 6 0) (x :: 0 :: List.replicate 6 0) (1 :: 0 :: List.replicate 6 0) (x :: 0 :: List.replicate 6 0) (1 :: 1 :: List.replicate 6 0) (0 :: 0 :: List.replicate 6 0) (x :: y :: List.replicate 6 0) (0 :: 0 :: List.replicate 6 0) (1 :: 1 :: List.replicate 6 0) (x :: y :: List.replicate 6 0) (0 :: 0 :: List.replicate 6 0) n cap age 2 1 2 2)) := by
  simp [j_step, j_valid, j_submit, j_submit_b22, j_stepPublish, j_pushFront, own_pf0, own_pf1, j_stepTryLock, j_stepTryLock_b31, j_stepSpin, j_take, j_stepCombine, j_stepCombine_b57, j_stepCombine_b121, own_ix0, own_ix1, j_serve, j_serve_b23, j_applyInsert, own_su0, own_su1, j_applyDeleteMin, own_sd0, j_endPass, own_f_heap, own_e_heap, own_z_heap, own_f_lock, own_e_lock, own_z_lock, own_f_list, own_e_list, own_z_list, own_f_cursor, own_e_cursor, own_z_cursor, own_f_phase, own_e_phase, own_z_phase, own_f_opKind, own_e_opKind, own_z_opKind, own_f_opVal, own_e_opVal, own_z_opVal, own_f_resStatus, own_e_resStatus, own_z_resStatus, own_f_resVal, own_e_resVal, own_z_resVal, own_f_enlisted, own_e_enlisted, own_z_enlisted, own_f_reqKind, own_e_reqKind, own_z_reqKind, own_f_reqVal, own_e_reqVal, own_z_reqVal, own_f_ready, own_e_ready, own_z_ready, own_f_respStatus, own_e_respStatus, own_z_respStatus, own_f_respVal, own_e_respVal, own_z_respVal, own_f_stamp, own_e_stamp, own_z_stamp, own_f_n, own_e_n, own_z_n, own_f_cap, own_e_cap, own_z_cap, own_f_age, own_e_age, own_z_age, own_f_listLen, own_e_listLen, own_z_listLen, own_f_pass, own_e_pass, own_z_pass, own_f_heapSize, own_e_heapSize, own_z_heapSize, own_f_applied, own_e_applied, own_z_applied, own_g0, own_g1, own_h0, own_h1, own_l8, own_l32, own_b80, own_b81, own_b320, own_b321, hn0, hn1, hc0, hc1, -List.reduceReplicate]
theorem own_k13 (n cap age x y a b : Int32) (hn0 : 0 < n) (hn1 : 1 < n) (hc0 : 0 < cap) (hc1 : 1 < cap) : j_submit (Q.mk (a :: b :: List.replicate 30 0) (-1) (1 :: 0 :: List.replicate 6 0) (-1) (0 :: 1 :: List.replicate 6 0) (1 :: 2 :: List.replicate 6 0) (x :: 0 :: List.replicate 6 0) (1 :: 0 :: List.replicate 6 0) (x :: 0 :: List.replicate 6 0) (1 :: 1 :: List.replicate 6 0) (0 :: 0 :: List.replicate 6 0) (x :: y :: List.replicate 6 0) (0 :: 0 :: List.replicate 6 0) (1 :: 1 :: List.replicate 6 0) (x :: y :: List.replicate 6 0) (0 :: 0 :: List.replicate 6 0) n cap age 2 1 2 2) 0 2 0 = some (1, (Q.mk (a :: b :: List.replicate 30 0) (-1) (1 :: 0 :: List.replicate 6 0) (-1) (1 :: 1 :: List.replicate 6 0) (2 :: 2 :: List.replicate 6 0) (0 :: 0 :: List.replicate 6 0) (0 :: 0 :: List.replicate 6 0) (0 :: 0 :: List.replicate 6 0) (1 :: 1 :: List.replicate 6 0) (0 :: 0 :: List.replicate 6 0) (x :: y :: List.replicate 6 0) (0 :: 0 :: List.replicate 6 0) (1 :: 1 :: List.replicate 6 0) (x :: y :: List.replicate 6 0) (0 :: 0 :: List.replicate 6 0) n cap age 2 1 2 2)) := by
  simp [j_step, j_valid, j_submit, j_submit_b22, j_stepPublish, j_pushFront, own_pf0, own_pf1, j_stepTryLock, j_stepTryLock_b31, j_stepSpin, j_take, j_stepCombine, j_stepCombine_b57, j_stepCombine_b121, own_ix0, own_ix1, j_serve, j_serve_b23, j_applyInsert, own_su0, own_su1, j_applyDeleteMin, own_sd0, j_endPass, own_f_heap, own_e_heap, own_z_heap, own_f_lock, own_e_lock, own_z_lock, own_f_list, own_e_list, own_z_list, own_f_cursor, own_e_cursor, own_z_cursor, own_f_phase, own_e_phase, own_z_phase, own_f_opKind, own_e_opKind, own_z_opKind, own_f_opVal, own_e_opVal, own_z_opVal, own_f_resStatus, own_e_resStatus, own_z_resStatus, own_f_resVal, own_e_resVal, own_z_resVal, own_f_enlisted, own_e_enlisted, own_z_enlisted, own_f_reqKind, own_e_reqKind, own_z_reqKind, own_f_reqVal, own_e_reqVal, own_z_reqVal, own_f_ready, own_e_ready, own_z_ready, own_f_respStatus, own_e_respStatus, own_z_respStatus, own_f_respVal, own_e_respVal, own_z_respVal, own_f_stamp, own_e_stamp, own_z_stamp, own_f_n, own_e_n, own_z_n, own_f_cap, own_e_cap, own_z_cap, own_f_age, own_e_age, own_z_age, own_f_listLen, own_e_listLen, own_z_listLen, own_f_pass, own_e_pass, own_z_pass, own_f_heapSize, own_e_heapSize, own_z_heapSize, own_f_applied, own_e_applied, own_z_applied, own_g0, own_g1, own_h0, own_h1, own_l8, own_l32, own_b80, own_b81, own_b320, own_b321, hn0, hn1, hc0, hc1, -List.reduceReplicate]
theorem own_k14 (n cap age x y a b : Int32) (hn0 : 0 < n) (hn1 : 1 < n) (hc0 : 0 < cap) (hc1 : 1 < cap) : j_step (Q.mk (a :: b :: List.replicate 30 0) (-1) (1 :: 0 :: List.replicate 6 0) (-1) (1 :: 1 :: List.replicate 6 0) (2 :: 2 :: List.replicate 6 0) (0 :: 0 :: List.replicate 6 0) (0 :: 0 :: List.replicate 6 0) (0 :: 0 :: List.replicate 6 0) (1 :: 1 :: List.replicate 6 0) (0 :: 0 :: List.replicate 6 0) (x :: y :: List.replicate 6 0) (0 :: 0 :: List.replicate 6 0) (1 :: 1 :: List.replicate 6 0) (x :: y :: List.replicate 6 0) (0 :: 0 :: List.replicate 6 0) n cap age 2 1 2 2) 0 = some (1, (Q.mk (a :: b :: List.replicate 30 0) (-1) (1 :: 0 :: List.replicate 6 0) (-1) (2 :: 1 :: List.replicate 6 0) (2 :: 2 :: List.replicate 6 0) (0 :: 0 :: List.replicate 6 0) (0 :: 0 :: List.replicate 6 0) (0 :: 0 :: List.replicate 6 0) (1 :: 1 :: List.replicate 6 0) (2 :: 0 :: List.replicate 6 0) (0 :: y :: List.replicate 6 0) (0 :: 0 :: List.replicate 6 0) (1 :: 1 :: List.replicate 6 0) (x :: y :: List.replicate 6 0) (0 :: 0 :: List.replicate 6 0) n cap age 2 1 2 2)) := by
  simp [j_step, j_valid, j_submit, j_submit_b22, j_stepPublish, j_pushFront, own_pf0, own_pf1, j_stepTryLock, j_stepTryLock_b31, j_stepSpin, j_take, j_stepCombine, j_stepCombine_b57, j_stepCombine_b121, own_ix0, own_ix1, j_serve, j_serve_b23, j_applyInsert, own_su0, own_su1, j_applyDeleteMin, own_sd0, j_endPass, own_f_heap, own_e_heap, own_z_heap, own_f_lock, own_e_lock, own_z_lock, own_f_list, own_e_list, own_z_list, own_f_cursor, own_e_cursor, own_z_cursor, own_f_phase, own_e_phase, own_z_phase, own_f_opKind, own_e_opKind, own_z_opKind, own_f_opVal, own_e_opVal, own_z_opVal, own_f_resStatus, own_e_resStatus, own_z_resStatus, own_f_resVal, own_e_resVal, own_z_resVal, own_f_enlisted, own_e_enlisted, own_z_enlisted, own_f_reqKind, own_e_reqKind, own_z_reqKind, own_f_reqVal, own_e_reqVal, own_z_reqVal, own_f_ready, own_e_ready, own_z_ready, own_f_respStatus, own_e_respStatus, own_z_respStatus, own_f_respVal, own_e_respVal, own_z_respVal, own_f_stamp, own_e_stamp, own_z_stamp, own_f_n, own_e_n, own_z_n, own_f_cap, own_e_cap, own_z_cap, own_f_age, own_e_age, own_z_age, own_f_listLen, own_e_listLen, own_z_listLen, own_f_pass, own_e_pass, own_z_pass, own_f_heapSize, own_e_heapSize, own_z_heapSize, own_f_applied, own_e_applied, own_z_applied, own_g0, own_g1, own_h0, own_h1, own_l8, own_l32, own_b80, own_b81, own_b320, own_b321, hn0, hn1, hc0, hc1, -List.reduceReplicate]
theorem own_k15 (n cap age x y a b : Int32) (hn0 : 0 < n) (hn1 : 1 < n) (hc0 : 0 < cap) (hc1 : 1 < cap) : j_step (Q.mk (a :: b :: List.replicate 30 0) (-1) (1 :: 0 :: List.replicate 6 0) (-1) (2 :: 1 :: List.replicate 6 0) (2 :: 2 :: List.replicate 6 0) (0 :: 0 :: List.replicate 6 0) (0 :: 0 :: List.replicate 6 0) (0 :: 0 :: List.replicate 6 0) (1 :: 1 :: List.replicate 6 0) (2 :: 0 :: List.replicate 6 0) (0 :: y :: List.replicate 6 0) (0 :: 0 :: List.replicate 6 0) (1 :: 1 :: List.replicate 6 0) (x :: y :: List.replicate 6 0) (0 :: 0 :: List.replicate 6 0) n cap age 2 1 2 2) 1 = some (1, (Q.mk (a :: b :: List.replicate 30 0) (-1) (1 :: 0 :: List.replicate 6 0) (-1) (2 :: 2 :: List.replicate 6 0) (2 :: 2 :: List.replicate 6 0) (0 :: 0 :: List.replicate 6 0) (0 :: 0 :: List.replicate 6 0) (0 :: 0 :: List.replicate 6 0) (1 :: 1 :: List.replicate 6 0) (2 :: 2 :: List.replicate 6 0) (0 :: 0 :: List.replicate 6 0) (0 :: 0 :: List.replicate 6 0) (1 :: 1 :: List.replicate 6 0) (x :: y :: List.replicate 6 0) (0 :: 0 :: List.replicate 6 0) n cap age 2 1 2 2)) := by
  simp [j_step, j_valid, j_submit, j_submit_b22, j_stepPublish, j_pushFront, own_pf0, own_pf1, j_stepTryLock, j_stepTryLock_b31, j_stepSpin, j_take, j_stepCombine, j_stepCombine_b57, j_stepCombine_b121, own_ix0, own_ix1, j_serve, j_serve_b23, j_applyInsert, own_su0, own_su1, j_applyDeleteMin, own_sd0, j_endPass, own_f_heap, own_e_heap, own_z_heap, own_f_lock, own_e_lock, own_z_lock, own_f_list, own_e_list, own_z_list, own_f_cursor, own_e_cursor, own_z_cursor, own_f_phase, own_e_phase, own_z_phase, own_f_opKind, own_e_opKind, own_z_opKind, own_f_opVal, own_e_opVal, own_z_opVal, own_f_resStatus, own_e_resStatus, own_z_resStatus, own_f_resVal, own_e_resVal, own_z_resVal, own_f_enlisted, own_e_enlisted, own_z_enlisted, own_f_reqKind, own_e_reqKind, own_z_reqKind, own_f_reqVal, own_e_reqVal, own_z_reqVal, own_f_ready, own_e_ready, own_z_ready, own_f_respStatus, own_e_respStatus, own_z_respStatus, own_f_respVal, own_e_respVal, own_z_respVal, own_f_stamp, own_e_stamp, own_z_stamp, own_f_n, own_e_n, own_z_n, own_f_cap, own_e_cap, own_z_cap, own_f_age, own_e_age, own_z_age, own_f_listLen, own_e_listLen, own_z_listLen, own_f_pass, own_e_pass, own_z_pass, own_f_heapSize, own_e_heapSize, own_z_heapSize, own_f_applied, own_e_applied, own_z_applied, own_g0, own_g1, own_h0, own_h1, own_l8, own_l32, own_b80, own_b81, own_b320, own_b321, hn0, hn1, hc0, hc1, -List.reduceReplicate]
theorem own_k16 (n cap age x y a b : Int32) (hn0 : 0 < n) (hn1 : 1 < n) (hc0 : 0 < cap) (hc1 : 1 < cap) : j_step (Q.mk (a :: b :: List.replicate 30 0) (-1) (1 :: 0 :: List.replicate 6 0) (-1) (2 :: 2 :: List.replicate 6 0) (2 :: 2 :: List.replicate 6 0) (0 :: 0 :: List.replicate 6 0) (0 :: 0 :: List.replicate 6 0) (0 :: 0 :: List.replicate 6 0) (1 :: 1 :: List.replicate 6 0) (2 :: 2 :: List.replicate 6 0) (0 :: 0 :: List.replicate 6 0) (0 :: 0 :: List.replicate 6 0) (1 :: 1 :: List.replicate 6 0) (x :: y :: List.replicate 6 0) (0 :: 0 :: List.replicate 6 0) n cap age 2 1 2 2) 0 = some (3, (Q.mk (a :: b :: List.replicate 30 0) 0 (1 :: 0 :: List.replicate 6 0) 1 (4 :: 2 :: List.replicate 6 0) (2 :: 2 :: List.replicate 6 0) (0 :: 0 :: List.replicate 6 0) (0 :: 0 :: List.replicate 6 0) (0 :: 0 :: List.replicate 6 0) (1 :: 1 :: List.replicate 6 0) (2 :: 2 :: List.replicate 6 0) (0 :: 0 :: List.replicate 6 0) (0 :: 0 :: List.replicate 6 0) (1 :: 1 :: List.replicate 6 0) (x :: y :: List.replicate 6 0) (0 :: 0 :: List.replicate 6 0) n cap age 2 1 2 2)) := by
  simp [j_step, j_valid, j_submit, j_submit_b22, j_stepPublish, j_pushFront, own_pf0, own_pf1, j_stepTryLock, j_stepTryLock_b31, j_stepSpin, j_take, j_stepCombine, j_stepCombine_b57, j_stepCombine_b121, own_ix0, own_ix1, j_serve, j_serve_b23, j_applyInsert, own_su0, own_su1, j_applyDeleteMin, own_sd0, j_endPass, own_f_heap, own_e_heap, own_z_heap, own_f_lock, own_e_lock, own_z_lock, own_f_list, own_e_list, own_z_list, own_f_cursor, own_e_cursor, own_z_cursor, own_f_phase, own_e_phase, own_z_phase, own_f_opKind, own_e_opKind, own_z_opKind, own_f_opVal, own_e_opVal, own_z_opVal, own_f_resStatus, own_e_resStatus, own_z_resStatus, own_f_resVal, own_e_resVal, own_z_resVal, own_f_enlisted, own_e_enlisted, own_z_enlisted, own_f_reqKind, own_e_reqKind, own_z_reqKind, own_f_reqVal, own_e_reqVal, own_z_reqVal, own_f_ready, own_e_ready, own_z_ready, own_f_respStatus, own_e_respStatus, own_z_respStatus, own_f_respVal, own_e_respVal, own_z_respVal, own_f_stamp, own_e_stamp, own_z_stamp, own_f_n, own_e_n, own_z_n, own_f_cap, own_e_cap, own_z_cap, own_f_age, own_e_age, own_z_age, own_f_listLen, own_e_listLen, own_z_listLen, own_f_pass, own_e_pass, own_z_pass, own_f_heapSize, own_e_heapSize, own_z_heapSize, own_f_applied, own_e_applied, own_z_applied, own_g0, own_g1, own_h0, own_h1, own_l8, own_l32, own_b80, own_b81, own_b320, own_b321, hn0, hn1, hc0, hc1, -List.reduceReplicate]
theorem own_k17 (n cap age x y a b : Int32) (hn0 : 0 < n) (hn1 : 1 < n) (hc0 : 0 < cap) (hc1 : 1 < cap) : j_step (Q.mk (a :: b :: List.replicate 30 0) 0 (1 :: 0 :: List.replicate 6 0) 1 (4 :: 2 :: List.replicate 6 0) (2 :: 2 :: List.replicate 6 0) (0 :: 0 :: List.replicate 6 0) (0 :: 0 :: List.replicate 6 0) (0 :: 0 :: List.replicate 6 0) (1 :: 1 :: List.replicate 6 0) (2 :: 2 :: List.replicate 6 0) (0 :: 0 :: List.replicate 6 0) (0 :: 0 :: List.replicate 6 0) (1 :: 1 :: List.replicate 6 0) (x :: y :: List.replicate 6 0) (0 :: 0 :: List.replicate 6 0) n cap age 2 1 2 2) 1 = some (4, (Q.mk (a :: b :: List.replicate 30 0) 0 (1 :: 0 :: List.replicate 6 0) 1 (4 :: 3 :: List.replicate 6 0) (2 :: 2 :: List.replicate 6 0) (0 :: 0 :: List.replicate 6 0) (0 :: 0 :: List.replicate 6 0) (0 :: 0 :: List.replicate 6 0) (1 :: 1 :: List.replicate 6 0) (2 :: 2 :: List.replicate 6 0) (0 :: 0 :: List.replicate 6 0) (0 :: 0 :: List.replicate 6 0) (1 :: 1 :: List.replicate 6 0) (x :: y :: List.replicate 6 0) (0 :: 0 :: List.replicate 6 0) n cap age 2 1 2 2)) := by
  simp [j_step, j_valid, j_submit, j_submit_b22, j_stepPublish, j_pushFront, own_pf0, own_pf1, j_stepTryLock, j_stepTryLock_b31, j_stepSpin, j_take, j_stepCombine, j_stepCombine_b57, j_stepCombine_b121, own_ix0, own_ix1, j_serve, j_serve_b23, j_applyInsert, own_su0, own_su1, j_applyDeleteMin, own_sd0, j_endPass, own_f_heap, own_e_heap, own_z_heap, own_f_lock, own_e_lock, own_z_lock, own_f_list, own_e_list, own_z_list, own_f_cursor, own_e_cursor, own_z_cursor, own_f_phase, own_e_phase, own_z_phase, own_f_opKind, own_e_opKind, own_z_opKind, own_f_opVal, own_e_opVal, own_z_opVal, own_f_resStatus, own_e_resStatus, own_z_resStatus, own_f_resVal, own_e_resVal, own_z_resVal, own_f_enlisted, own_e_enlisted, own_z_enlisted, own_f_reqKind, own_e_reqKind, own_z_reqKind, own_f_reqVal, own_e_reqVal, own_z_reqVal, own_f_ready, own_e_ready, own_z_ready, own_f_respStatus, own_e_respStatus, own_z_respStatus, own_f_respVal, own_e_respVal, own_z_respVal, own_f_stamp, own_e_stamp, own_z_stamp, own_f_n, own_e_n, own_z_n, own_f_cap, own_e_cap, own_z_cap, own_f_age, own_e_age, own_z_age, own_f_listLen, own_e_listLen, own_z_listLen, own_f_pass, own_e_pass, own_z_pass, own_f_heapSize, own_e_heapSize, own_z_heapSize, own_f_applied, own_e_applied, own_z_applied, own_g0, own_g1, own_h0, own_h1, own_l8, own_l32, own_b80, own_b81, own_b320, own_b321, hn0, hn1, hc0, hc1, -List.reduceReplicate]
theorem own_k18 (n cap age x y a b : Int32) (hn0 : 0 < n) (hn1 : 1 < n) (hc0 : 0 < cap) (hc1 : 1 < cap) : j_step (Q.mk (a :: b :: List.replicate 30 0) 0 (1 :: 0 :: List.replicate 6 0) 1 (4 :: 3 :: List.replicate 6 0) (2 :: 2 :: List.replicate 6 0) (0 :: 0 :: List.replicate 6 0) (0 :: 0 :: List.replicate 6 0) (0 :: 0 :: List.replicate 6 0) (1 :: 1 :: List.replicate 6 0) (2 :: 2 :: List.replicate 6 0) (0 :: 0 :: List.replicate 6 0) (0 :: 0 :: List.replicate 6 0) (1 :: 1 :: List.replicate 6 0) (x :: y :: List.replicate 6 0) (0 :: 0 :: List.replicate 6 0) n cap age 2 1 2 2) 0 = some (8, (Q.mk (b :: b :: List.replicate 30 0) 0 (1 :: 0 :: List.replicate 6 0) 0 (4 :: 3 :: List.replicate 6 0) (2 :: 2 :: List.replicate 6 0) (0 :: 0 :: List.replicate 6 0) (0 :: 0 :: List.replicate 6 0) (0 :: 0 :: List.replicate 6 0) (1 :: 1 :: List.replicate 6 0) (2 :: 0 :: List.replicate 6 0) (0 :: 0 :: List.replicate 6 0) (0 :: 1 :: List.replicate 6 0) (1 :: 1 :: List.replicate 6 0) (x :: a :: List.replicate 6 0) (0 :: 1 :: List.replicate 6 0) n cap age 2 1 1 3)) := by
  simp [j_step, j_valid, j_submit, j_submit_b22, j_stepPublish, j_pushFront, own_pf0, own_pf1, j_stepTryLock, j_stepTryLock_b31, j_stepSpin, j_take, j_stepCombine, j_stepCombine_b57, j_stepCombine_b121, own_ix0, own_ix1, j_serve, j_serve_b23, j_applyInsert, own_su0, own_su1, j_applyDeleteMin, own_sd0, j_endPass, own_f_heap, own_e_heap, own_z_heap, own_f_lock, own_e_lock, own_z_lock, own_f_list, own_e_list, own_z_list, own_f_cursor, own_e_cursor, own_z_cursor, own_f_phase, own_e_phase, own_z_phase, own_f_opKind, own_e_opKind, own_z_opKind, own_f_opVal, own_e_opVal, own_z_opVal, own_f_resStatus, own_e_resStatus, own_z_resStatus, own_f_resVal, own_e_resVal, own_z_resVal, own_f_enlisted, own_e_enlisted, own_z_enlisted, own_f_reqKind, own_e_reqKind, own_z_reqKind, own_f_reqVal, own_e_reqVal, own_z_reqVal, own_f_ready, own_e_ready, own_z_ready, own_f_respStatus, own_e_respStatus, own_z_respStatus, own_f_respVal, own_e_respVal, own_z_respVal, own_f_stamp, own_e_stamp, own_z_stamp, own_f_n, own_e_n, own_z_n, own_f_cap, own_e_cap, own_z_cap, own_f_age, own_e_age, own_z_age, own_f_listLen, own_e_listLen, own_z_listLen, own_f_pass, own_e_pass, own_z_pass, own_f_heapSize, own_e_heapSize, own_z_heapSize, own_f_applied, own_e_applied, own_z_applied, own_g0, own_g1, own_h0, own_h1, own_l8, own_l32, own_b80, own_b81, own_b320, own_b321, hn0, hn1, hc0, hc1, -List.reduceReplicate]
theorem own_k19 (n cap age x y a b : Int32) (hn0 : 0 < n) (hn1 : 1 < n) (hc0 : 0 < cap) (hc1 : 1 < cap) : j_step (Q.mk (b :: b :: List.replicate 30 0) 0 (1 :: 0 :: List.replicate 6 0) 0 (4 :: 3 :: List.replicate 6 0) (2 :: 2 :: List.replicate 6 0) (0 :: 0 :: List.replicate 6 0) (0 :: 0 :: List.replicate 6 0) (0 :: 0 :: List.replicate 6 0) (1 :: 1 :: List.replicate 6 0) (2 :: 0 :: List.replicate 6 0) (0 :: 0 :: List.replicate 6 0) (0 :: 1 :: List.replicate 6 0) (1 :: 1 :: List.replicate 6 0) (x :: a :: List.replicate 6 0) (0 :: 1 :: List.replicate 6 0) n cap age 2 1 1 3) 1 = some (5, (Q.mk (b :: b :: List.replicate 30 0) 0 (1 :: 0 :: List.replicate 6 0) 0 (4 :: 0 :: List.replicate 6 0) (2 :: 2 :: List.replicate 6 0) (0 :: 0 :: List.replicate 6 0) (0 :: 1 :: List.replicate 6 0) (0 :: a :: List.replicate 6 0) (1 :: 1 :: List.replicate 6 0) (2 :: 0 :: List.replicate 6 0) (0 :: 0 :: List.replicate 6 0) (0 :: 0 :: List.replicate 6 0) (1 :: 1 :: List.replicate 6 0) (x :: a :: List.replicate 6 0) (0 :: 1 :: List.replicate 6 0) n cap age 2 1 1 3)) := by
  simp [j_step, j_valid, j_submit, j_submit_b22, j_stepPublish, j_pushFront, own_pf0, own_pf1, j_stepTryLock, j_stepTryLock_b31, j_stepSpin, j_take, j_stepCombine, j_stepCombine_b57, j_stepCombine_b121, own_ix0, own_ix1, j_serve, j_serve_b23, j_applyInsert, own_su0, own_su1, j_applyDeleteMin, own_sd0, j_endPass, own_f_heap, own_e_heap, own_z_heap, own_f_lock, own_e_lock, own_z_lock, own_f_list, own_e_list, own_z_list, own_f_cursor, own_e_cursor, own_z_cursor, own_f_phase, own_e_phase, own_z_phase, own_f_opKind, own_e_opKind, own_z_opKind, own_f_opVal, own_e_opVal, own_z_opVal, own_f_resStatus, own_e_resStatus, own_z_resStatus, own_f_resVal, own_e_resVal, own_z_resVal, own_f_enlisted, own_e_enlisted, own_z_enlisted, own_f_reqKind, own_e_reqKind, own_z_reqKind, own_f_reqVal, own_e_reqVal, own_z_reqVal, own_f_ready, own_e_ready, own_z_ready, own_f_respStatus, own_e_respStatus, own_z_respStatus, own_f_respVal, own_e_respVal, own_z_respVal, own_f_stamp, own_e_stamp, own_z_stamp, own_f_n, own_e_n, own_z_n, own_f_cap, own_e_cap, own_z_cap, own_f_age, own_e_age, own_z_age, own_f_listLen, own_e_listLen, own_z_listLen, own_f_pass, own_e_pass, own_z_pass, own_f_heapSize, own_e_heapSize, own_z_heapSize, own_f_applied, own_e_applied, own_z_applied, own_g0, own_g1, own_h0, own_h1, own_l8, own_l32, own_b80, own_b81, own_b320, own_b321, hn0, hn1, hc0, hc1, -List.reduceReplicate]
theorem own_k20 (n cap age x y a b : Int32) (hn0 : 0 < n) (hn1 : 1 < n) (hc0 : 0 < cap) (hc1 : 1 < cap) : j_step (Q.mk (b :: b :: List.replicate 30 0) 0 (1 :: 0 :: List.replicate 6 0) 0 (4 :: 0 :: List.replicate 6 0) (2 :: 2 :: List.replicate 6 0) (0 :: 0 :: List.replicate 6 0) (0 :: 1 :: List.replicate 6 0) (0 :: a :: List.replicate 6 0) (1 :: 1 :: List.replicate 6 0) (2 :: 0 :: List.replicate 6 0) (0 :: 0 :: List.replicate 6 0) (0 :: 0 :: List.replicate 6 0) (1 :: 1 :: List.replicate 6 0) (x :: a :: List.replicate 6 0) (0 :: 1 :: List.replicate 6 0) n cap age 2 1 1 3) 0 = some (8, (Q.mk (b :: b :: List.replicate 30 0) 0 (1 :: 0 :: List.replicate 6 0) (-1) (4 :: 0 :: List.replicate 6 0) (2 :: 2 :: List.replicate 6 0) (0 :: 0 :: List.replicate 6 0) (0 :: 1 :: List.replicate 6 0) (0 :: a :: List.replicate 6 0) (1 :: 1 :: List.replicate 6 0) (0 :: 0 :: List.replicate 6 0) (0 :: 0 :: List.replicate 6 0) (1 :: 0 :: List.replicate 6 0) (1 :: 1 :: List.replicate 6 0) (b :: a :: List.replicate 6 0) (1 :: 1 :: List.replicate 6 0) n cap age 2 1 0 4)) := by
  simp [j_step, j_valid, j_submit, j_submit_b22, j_stepPublish, j_pushFront, own_pf0, own_pf1, j_stepTryLock, j_stepTryLock_b31, j_stepSpin, j_take, j_stepCombine, j_stepCombine_b57, j_stepCombine_b121, own_ix0, own_ix1, j_serve, j_serve_b23, j_applyInsert, own_su0, own_su1, j_applyDeleteMin, own_sd0, j_endPass, own_f_heap, own_e_heap, own_z_heap, own_f_lock, own_e_lock, own_z_lock, own_f_list, own_e_list, own_z_list, own_f_cursor, own_e_cursor, own_z_cursor, own_f_phase, own_e_phase, own_z_phase, own_f_opKind, own_e_opKind, own_z_opKind, own_f_opVal, own_e_opVal, own_z_opVal, own_f_resStatus, own_e_resStatus, own_z_resStatus, own_f_resVal, own_e_resVal, own_z_resVal, own_f_enlisted, own_e_enlisted, own_z_enlisted, own_f_reqKind, own_e_reqKind, own_z_reqKind, own_f_reqVal, own_e_reqVal, own_z_reqVal, own_f_ready, own_e_ready, own_z_ready, own_f_respStatus, own_e_respStatus, own_z_respStatus, own_f_respVal, own_e_respVal, own_z_respVal, own_f_stamp, own_e_stamp, own_z_stamp, own_f_n, own_e_n, own_z_n, own_f_cap, own_e_cap, own_z_cap, own_f_age, own_e_age, own_z_age, own_f_listLen, own_e_listLen, own_z_listLen, own_f_pass, own_e_pass, own_z_pass, own_f_heapSize, own_e_heapSize, own_z_heapSize, own_f_applied, own_e_applied, own_z_applied, own_g0, own_g1, own_h0, own_h1, own_l8, own_l32, own_b80, own_b81, own_b320, own_b321, hn0, hn1, hc0, hc1, -List.reduceReplicate]
theorem own_k21 (n cap age x y a b : Int32) (hn0 : 0 < n) (hn1 : 1 < n) (hc0 : 0 < cap) (hc1 : 1 < cap) : j_step (Q.mk (b :: b :: List.replicate 30 0) 0 (1 :: 0 :: List.replicate 6 0) (-1) (4 :: 0 :: List.replicate 6 0) (2 :: 2 :: List.replicate 6 0) (0 :: 0 :: List.replicate 6 0) (0 :: 1 :: List.replicate 6 0) (0 :: a :: List.replicate 6 0) (1 :: 1 :: List.replicate 6 0) (0 :: 0 :: List.replicate 6 0) (0 :: 0 :: List.replicate 6 0) (1 :: 0 :: List.replicate 6 0) (1 :: 1 :: List.replicate 6 0) (b :: a :: List.replicate 6 0) (1 :: 1 :: List.replicate 6 0) n cap age 2 1 0 4) 0 = some (11, (Q.mk (b :: b :: List.replicate 30 0) (-1) (1 :: 0 :: List.replicate 6 0) (-1) (0 :: 0 :: List.replicate 6 0) (2 :: 2 :: List.replicate 6 0) (0 :: 0 :: List.replicate 6 0) (1 :: 1 :: List.replicate 6 0) (b :: a :: List.replicate 6 0) (1 :: 1 :: List.replicate 6 0) (0 :: 0 :: List.replicate 6 0) (0 :: 0 :: List.replicate 6 0) (0 :: 0 :: List.replicate 6 0) (1 :: 1 :: List.replicate 6 0) (b :: a :: List.replicate 6 0) (1 :: 1 :: List.replicate 6 0) n cap age 2 2 0 4)) := by
  simp [j_step, j_valid, j_submit, j_submit_b22, j_stepPublish, j_pushFront, own_pf0, own_pf1, j_stepTryLock, j_stepTryLock_b31, j_stepSpin, j_take, j_stepCombine, j_stepCombine_b57, j_stepCombine_b121, own_ix0, own_ix1, j_serve, j_serve_b23, j_applyInsert, own_su0, own_su1, j_applyDeleteMin, own_sd0, j_endPass, own_f_heap, own_e_heap, own_z_heap, own_f_lock, own_e_lock, own_z_lock, own_f_list, own_e_list, own_z_list, own_f_cursor, own_e_cursor, own_z_cursor, own_f_phase, own_e_phase, own_z_phase, own_f_opKind, own_e_opKind, own_z_opKind, own_f_opVal, own_e_opVal, own_z_opVal, own_f_resStatus, own_e_resStatus, own_z_resStatus, own_f_resVal, own_e_resVal, own_z_resVal, own_f_enlisted, own_e_enlisted, own_z_enlisted, own_f_reqKind, own_e_reqKind, own_z_reqKind, own_f_reqVal, own_e_reqVal, own_z_reqVal, own_f_ready, own_e_ready, own_z_ready, own_f_respStatus, own_e_respStatus, own_z_respStatus, own_f_respVal, own_e_respVal, own_z_respVal, own_f_stamp, own_e_stamp, own_z_stamp, own_f_n, own_e_n, own_z_n, own_f_cap, own_e_cap, own_z_cap, own_f_age, own_e_age, own_z_age, own_f_listLen, own_e_listLen, own_z_listLen, own_f_pass, own_e_pass, own_z_pass, own_f_heapSize, own_e_heapSize, own_z_heapSize, own_f_applied, own_e_applied, own_z_applied, own_g0, own_g1, own_h0, own_h1, own_l8, own_l32, own_b80, own_b81, own_b320, own_b321, hn0, hn1, hc0, hc1, -List.reduceReplicate]
theorem own_q1 (n cap age x y a b : Int32) (hn0 : 0 < n) (hn1 : 1 < n) (hc0 : 0 < cap) (hc1 : 1 < cap) (hn8 : n.toInt ≤ 8) : j_round (Q.mk (0 :: 0 :: List.replicate 30 0) (-1) (0 :: 0 :: List.replicate 6 0) (-1) (1 :: 1 :: List.replicate 6 0) (1 :: 1 :: List.replicate 6 0) (x :: y :: List.replicate 6 0) (0 :: 0 :: List.replicate 6 0) (0 :: 0 :: List.replicate 6 0) (0 :: 0 :: List.replicate 6 0) (0 :: 0 :: List.replicate 6 0) (0 :: 0 :: List.replicate 6 0) (0 :: 0 :: List.replicate 6 0) (0 :: 0 :: List.replicate 6 0) (0 :: 0 :: List.replicate 6 0) (0 :: 0 :: List.replicate 6 0) n cap age 0 0 0 0) = some (2, (Q.mk (0 :: 0 :: List.replicate 30 0) (-1) (1 :: 0 :: List.replicate 6 0) (-1) (2 :: 2 :: List.replicate 6 0) (1 :: 1 :: List.replicate 6 0) (x :: y :: List.replicate 6 0) (0 :: 0 :: List.replicate 6 0) (0 :: 0 :: List.replicate 6 0) (1 :: 1 :: List.replicate 6 0) (1 :: 1 :: List.replicate 6 0) (x :: y :: List.replicate 6 0) (0 :: 0 :: List.replicate 6 0) (0 :: 0 :: List.replicate 6 0) (0 :: 0 :: List.replicate 6 0) (0 :: 0 :: List.replicate 6 0) n cap age 2 0 0 0)) := by
  exact own_rnd2 (Q.mk (0 :: 0 :: List.replicate 30 0) (-1) (0 :: 0 :: List.replicate 6 0) (-1) (1 :: 1 :: List.replicate 6 0) (1 :: 1 :: List.replicate 6 0) (x :: y :: List.replicate 6 0) (0 :: 0 :: List.replicate 6 0) (0 :: 0 :: List.replicate 6 0) (0 :: 0 :: List.replicate 6 0) (0 :: 0 :: List.replicate 6 0) (0 :: 0 :: List.replicate 6 0) (0 :: 0 :: List.replicate 6 0) (0 :: 0 :: List.replicate 6 0) (0 :: 0 :: List.replicate 6 0) (0 :: 0 :: List.replicate 6 0) n cap age 0 0 0 0) (Q.mk (0 :: 0 :: List.replicate 30 0) (-1) (0 :: 0 :: List.replicate 6 0) (-1) (2 :: 1 :: List.replicate 6 0) (1 :: 1 :: List.replicate 6 0) (x :: y :: List.replicate 6 0) (0 :: 0 :: List.replicate 6 0) (0 :: 0 :: List.replicate 6 0) (1 :: 0 :: List.replicate 6 0) (1 :: 0 :: List.replicate 6 0) (x :: 0 :: List.replicate 6 0) (0 :: 0 :: List.replicate 6 0) (0 :: 0 :: List.replicate 6 0) (0 :: 0 :: List.replicate 6 0) (0 :: 0 :: List.replicate 6 0) n cap age 1 0 0 0) (Q.mk (0 :: 0 :: List.replicate 30 0) (-1) (1 :: 0 :: List.replicate 6 0) (-1) (2 :: 2 :: List.replicate 6 0) (1 :: 1 :: List.replicate 6 0) (x :: y :: List.replicate 6 0) (0 :: 0 :: List.replicate 6 0) (0 :: 0 :: List.replicate 6 0) (1 :: 1 :: List.replicate 6 0) (1 :: 1 :: List.replicate 6 0) (x :: y :: List.replicate 6 0) (0 :: 0 :: List.replicate 6 0) (0 :: 0 :: List.replicate 6 0) (0 :: 0 :: List.replicate 6 0) (0 :: 0 :: List.replicate 6 0) n cap age 2 0 0 0) _ _ _ _ _ _ _ _ rfl rfl rfl (by decide) (by decide) hn0 hn1 hn8 rfl rfl rfl (own_k3 n cap age x y a b hn0 hn1 hc0 hc1) (own_k4 n cap age x y a b hn0 hn1 hc0 hc1)
theorem own_q2 (n cap age x y a b : Int32) (hn0 : 0 < n) (hn1 : 1 < n) (hc0 : 0 < cap) (hc1 : 1 < cap) (hn8 : n.toInt ≤ 8) : j_round (Q.mk (0 :: 0 :: List.replicate 30 0) (-1) (1 :: 0 :: List.replicate 6 0) (-1) (2 :: 2 :: List.replicate 6 0) (1 :: 1 :: List.replicate 6 0) (x :: y :: List.replicate 6 0) (0 :: 0 :: List.replicate 6 0) (0 :: 0 :: List.replicate 6 0) (1 :: 1 :: List.replicate 6 0) (1 :: 1 :: List.replicate 6 0) (x :: y :: List.replicate 6 0) (0 :: 0 :: List.replicate 6 0) (0 :: 0 :: List.replicate 6 0) (0 :: 0 :: List.replicate 6 0) (0 :: 0 :: List.replicate 6 0) n cap age 2 0 0 0) = some (2, (Q.mk (0 :: 0 :: List.replicate 30 0) 0 (1 :: 0 :: List.replicate 6 0) 1 (4 :: 3 :: List.replicate 6 0) (1 :: 1 :: List.replicate 6 0) (x :: y :: List.replicate 6 0) (0 :: 0 :: List.replicate 6 0) (0 :: 0 :: List.replicate 6 0) (1 :: 1 :: List.replicate 6 0) (1 :: 1 :: List.replicate 6 0) (x :: y :: List.replicate 6 0) (0 :: 0 :: List.replicate 6 0) (0 :: 0 :: List.replicate 6 0) (0 :: 0 :: List.replicate 6 0) (0 :: 0 :: List.replicate 6 0) n cap age 2 0 0 0)) := by
  exact own_rnd2 (Q.mk (0 :: 0 :: List.replicate 30 0) (-1) (1 :: 0 :: List.replicate 6 0) (-1) (2 :: 2 :: List.replicate 6 0) (1 :: 1 :: List.replicate 6 0) (x :: y :: List.replicate 6 0) (0 :: 0 :: List.replicate 6 0) (0 :: 0 :: List.replicate 6 0) (1 :: 1 :: List.replicate 6 0) (1 :: 1 :: List.replicate 6 0) (x :: y :: List.replicate 6 0) (0 :: 0 :: List.replicate 6 0) (0 :: 0 :: List.replicate 6 0) (0 :: 0 :: List.replicate 6 0) (0 :: 0 :: List.replicate 6 0) n cap age 2 0 0 0) (Q.mk (0 :: 0 :: List.replicate 30 0) 0 (1 :: 0 :: List.replicate 6 0) 1 (4 :: 2 :: List.replicate 6 0) (1 :: 1 :: List.replicate 6 0) (x :: y :: List.replicate 6 0) (0 :: 0 :: List.replicate 6 0) (0 :: 0 :: List.replicate 6 0) (1 :: 1 :: List.replicate 6 0) (1 :: 1 :: List.replicate 6 0) (x :: y :: List.replicate 6 0) (0 :: 0 :: List.replicate 6 0) (0 :: 0 :: List.replicate 6 0) (0 :: 0 :: List.replicate 6 0) (0 :: 0 :: List.replicate 6 0) n cap age 2 0 0 0) (Q.mk (0 :: 0 :: List.replicate 30 0) 0 (1 :: 0 :: List.replicate 6 0) 1 (4 :: 3 :: List.replicate 6 0) (1 :: 1 :: List.replicate 6 0) (x :: y :: List.replicate 6 0) (0 :: 0 :: List.replicate 6 0) (0 :: 0 :: List.replicate 6 0) (1 :: 1 :: List.replicate 6 0) (1 :: 1 :: List.replicate 6 0) (x :: y :: List.replicate 6 0) (0 :: 0 :: List.replicate 6 0) (0 :: 0 :: List.replicate 6 0) (0 :: 0 :: List.replicate 6 0) (0 :: 0 :: List.replicate 6 0) n cap age 2 0 0 0) _ _ _ _ _ _ _ _ rfl rfl rfl (by decide) (by decide) hn0 hn1 hn8 rfl rfl rfl (own_k5 n cap age x y a b hn0 hn1 hc0 hc1) (own_k6 n cap age x y a b hn0 hn1 hc0 hc1)
theorem own_q3 (n cap age x y a b : Int32) (hn0 : 0 < n) (hn1 : 1 < n) (hc0 : 0 < cap) (hc1 : 1 < cap) (hn8 : n.toInt ≤ 8) : j_round (Q.mk (0 :: 0 :: List.replicate 30 0) 0 (1 :: 0 :: List.replicate 6 0) 1 (4 :: 3 :: List.replicate 6 0) (1 :: 1 :: List.replicate 6 0) (x :: y :: List.replicate 6 0) (0 :: 0 :: List.replicate 6 0) (0 :: 0 :: List.replicate 6 0) (1 :: 1 :: List.replicate 6 0) (1 :: 1 :: List.replicate 6 0) (x :: y :: List.replicate 6 0) (0 :: 0 :: List.replicate 6 0) (0 :: 0 :: List.replicate 6 0) (0 :: 0 :: List.replicate 6 0) (0 :: 0 :: List.replicate 6 0) n cap age 2 0 0 0) = some (2, (Q.mk (y :: 0 :: List.replicate 30 0) 0 (1 :: 0 :: List.replicate 6 0) 0 (4 :: 0 :: List.replicate 6 0) (1 :: 1 :: List.replicate 6 0) (x :: y :: List.replicate 6 0) (0 :: 1 :: List.replicate 6 0) (0 :: y :: List.replicate 6 0) (1 :: 1 :: List.replicate 6 0) (1 :: 0 :: List.replicate 6 0) (x :: y :: List.replicate 6 0) (0 :: 0 :: List.replicate 6 0) (0 :: 1 :: List.replicate 6 0) (0 :: y :: List.replicate 6 0) (0 :: 0 :: List.replicate 6 0) n cap age 2 0 1 1)) := by
  exact own_rnd2 (Q.mk (0 :: 0 :: List.replicate 30 0) 0 (1 :: 0 :: List.replicate 6 0) 1 (4 :: 3 :: List.replicate 6 0) (1 :: 1 :: List.replicate 6 0) (x :: y :: List.replicate 6 0) (0 :: 0 :: List.replicate 6 0) (0 :: 0 :: List.replicate 6 0) (1 :: 1 :: List.replicate 6 0) (1 :: 1 :: List.replicate 6 0) (x :: y :: List.replicate 6 0) (0 :: 0 :: List.replicate 6 0) (0 :: 0 :: List.replicate 6 0) (0 :: 0 :: List.replicate 6 0) (0 :: 0 :: List.replicate 6 0) n cap age 2 0 0 0) (Q.mk (y :: 0 :: List.replicate 30 0) 0 (1 :: 0 :: List.replicate 6 0) 0 (4 :: 3 :: List.replicate 6 0) (1 :: 1 :: List.replicate 6 0) (x :: y :: List.replicate 6 0) (0 :: 0 :: List.replicate 6 0) (0 :: 0 :: List.replicate 6 0) (1 :: 1 :: List.replicate 6 0) (1 :: 0 :: List.replicate 6 0) (x :: y :: List.replicate 6 0) (0 :: 1 :: List.replicate 6 0) (0 :: 1 :: List.replicate 6 0) (0 :: y :: List.replicate 6 0) (0 :: 0 :: List.replicate 6 0) n cap age 2 0 1 1) (Q.mk (y :: 0 :: List.replicate 30 0) 0 (1 :: 0 :: List.replicate 6 0) 0 (4 :: 0 :: List.replicate 6 0) (1 :: 1 :: List.replicate 6 0) (x :: y :: List.replicate 6 0) (0 :: 1 :: List.replicate 6 0) (0 :: y :: List.replicate 6 0) (1 :: 1 :: List.replicate 6 0) (1 :: 0 :: List.replicate 6 0) (x :: y :: List.replicate 6 0) (0 :: 0 :: List.replicate 6 0) (0 :: 1 :: List.replicate 6 0) (0 :: y :: List.replicate 6 0) (0 :: 0 :: List.replicate 6 0) n cap age 2 0 1 1) _ _ _ _ _ _ _ _ rfl rfl rfl (by decide) (by decide) hn0 hn1 hn8 rfl rfl rfl (own_k7 n cap age x y a b hn0 hn1 hc0 hc1) (own_k8 n cap age x y a b hn0 hn1 hc0 hc1)
theorem own_q4a (n cap age x y a b : Int32) (hn0 : 0 < n) (hn1 : 1 < n) (hc0 : 0 < cap) (hc1 : 1 < cap) (hn8 : n.toInt ≤ 8) (hxy : x < y) : j_round (Q.mk (y :: 0 :: List.replicate 30 0) 0 (1 :: 0 :: List.replicate 6 0) 0 (4 :: 0 :: List.replicate 6 0) (1 :: 1 :: List.replicate 6 0) (x :: y :: List.replicate 6 0) (0 :: 1 :: List.replicate 6 0) (0 :: y :: List.replicate 6 0) (1 :: 1 :: List.replicate 6 0) (1 :: 0 :: List.replicate 6 0) (x :: y :: List.replicate 6 0) (0 :: 0 :: List.replicate 6 0) (0 :: 1 :: List.replicate 6 0) (0 :: y :: List.replicate 6 0) (0 :: 0 :: List.replicate 6 0) n cap age 2 0 1 1) = some (1, (Q.mk (x :: y :: List.replicate 30 0) 0 (1 :: 0 :: List.replicate 6 0) (-1) (4 :: 0 :: List.replicate 6 0) (1 :: 1 :: List.replicate 6 0) (x :: y :: List.replicate 6 0) (0 :: 1 :: List.replicate 6 0) (0 :: y :: List.replicate 6 0) (1 :: 1 :: List.replicate 6 0) (0 :: 0 :: List.replicate 6 0) (x :: y :: List.replicate 6 0) (1 :: 0 :: List.replicate 6 0) (1 :: 1 :: List.replicate 6 0) (x :: y :: List.replicate 6 0) (0 :: 0 :: List.replicate 6 0) n cap age 2 0 2 2)) := by
  exact own_rnd1 (Q.mk (y :: 0 :: List.replicate 30 0) 0 (1 :: 0 :: List.replicate 6 0) 0 (4 :: 0 :: List.replicate 6 0) (1 :: 1 :: List.replicate 6 0) (x :: y :: List.replicate 6 0) (0 :: 1 :: List.replicate 6 0) (0 :: y :: List.replicate 6 0) (1 :: 1 :: List.replicate 6 0) (1 :: 0 :: List.replicate 6 0) (x :: y :: List.replicate 6 0) (0 :: 0 :: List.replicate 6 0) (0 :: 1 :: List.replicate 6 0) (0 :: y :: List.replicate 6 0) (0 :: 0 :: List.replicate 6 0) n cap age 2 0 1 1) (Q.mk (x :: y :: List.replicate 30 0) 0 (1 :: 0 :: List.replicate 6 0) (-1) (4 :: 0 :: List.replicate 6 0) (1 :: 1 :: List.replicate 6 0) (x :: y :: List.replicate 6 0) (0 :: 1 :: List.replicate 6 0) (0 :: y :: List.replicate 6 0) (1 :: 1 :: List.replicate 6 0) (0 :: 0 :: List.replicate 6 0) (x :: y :: List.replicate 6 0) (1 :: 0 :: List.replicate 6 0) (1 :: 1 :: List.replicate 6 0) (x :: y :: List.replicate 6 0) (0 :: 0 :: List.replicate 6 0) n cap age 2 0 2 2) _ _ _ _ rfl rfl (by decide) hn0 hn1 hn8 rfl rfl (own_k9 n cap age x y a b hn0 hn1 hc0 hc1 hxy)
theorem own_q4b (n cap age x y a b : Int32) (hn0 : 0 < n) (hn1 : 1 < n) (hc0 : 0 < cap) (hc1 : 1 < cap) (hn8 : n.toInt ≤ 8) (hxy : ¬ x < y) : j_round (Q.mk (y :: 0 :: List.replicate 30 0) 0 (1 :: 0 :: List.replicate 6 0) 0 (4 :: 0 :: List.replicate 6 0) (1 :: 1 :: List.replicate 6 0) (x :: y :: List.replicate 6 0) (0 :: 1 :: List.replicate 6 0) (0 :: y :: List.replicate 6 0) (1 :: 1 :: List.replicate 6 0) (1 :: 0 :: List.replicate 6 0) (x :: y :: List.replicate 6 0) (0 :: 0 :: List.replicate 6 0) (0 :: 1 :: List.replicate 6 0) (0 :: y :: List.replicate 6 0) (0 :: 0 :: List.replicate 6 0) n cap age 2 0 1 1) = some (1, (Q.mk (y :: x :: List.replicate 30 0) 0 (1 :: 0 :: List.replicate 6 0) (-1) (4 :: 0 :: List.replicate 6 0) (1 :: 1 :: List.replicate 6 0) (x :: y :: List.replicate 6 0) (0 :: 1 :: List.replicate 6 0) (0 :: y :: List.replicate 6 0) (1 :: 1 :: List.replicate 6 0) (0 :: 0 :: List.replicate 6 0) (x :: y :: List.replicate 6 0) (1 :: 0 :: List.replicate 6 0) (1 :: 1 :: List.replicate 6 0) (x :: y :: List.replicate 6 0) (0 :: 0 :: List.replicate 6 0) n cap age 2 0 2 2)) := by
  exact own_rnd1 (Q.mk (y :: 0 :: List.replicate 30 0) 0 (1 :: 0 :: List.replicate 6 0) 0 (4 :: 0 :: List.replicate 6 0) (1 :: 1 :: List.replicate 6 0) (x :: y :: List.replicate 6 0) (0 :: 1 :: List.replicate 6 0) (0 :: y :: List.replicate 6 0) (1 :: 1 :: List.replicate 6 0) (1 :: 0 :: List.replicate 6 0) (x :: y :: List.replicate 6 0) (0 :: 0 :: List.replicate 6 0) (0 :: 1 :: List.replicate 6 0) (0 :: y :: List.replicate 6 0) (0 :: 0 :: List.replicate 6 0) n cap age 2 0 1 1) (Q.mk (y :: x :: List.replicate 30 0) 0 (1 :: 0 :: List.replicate 6 0) (-1) (4 :: 0 :: List.replicate 6 0) (1 :: 1 :: List.replicate 6 0) (x :: y :: List.replicate 6 0) (0 :: 1 :: List.replicate 6 0) (0 :: y :: List.replicate 6 0) (1 :: 1 :: List.replicate 6 0) (0 :: 0 :: List.replicate 6 0) (x :: y :: List.replicate 6 0) (1 :: 0 :: List.replicate 6 0) (1 :: 1 :: List.replicate 6 0) (x :: y :: List.replicate 6 0) (0 :: 0 :: List.replicate 6 0) n cap age 2 0 2 2) _ _ _ _ rfl rfl (by decide) hn0 hn1 hn8 rfl rfl (own_k10 n cap age x y a b hn0 hn1 hc0 hc1 hxy)
theorem own_q5 (n cap age x y a b : Int32) (hn0 : 0 < n) (hn1 : 1 < n) (hc0 : 0 < cap) (hc1 : 1 < cap) (hn8 : n.toInt ≤ 8) : j_round (Q.mk (a :: b :: List.replicate 30 0) 0 (1 :: 0 :: List.replicate 6 0) (-1) (4 :: 0 :: List.replicate 6 0) (1 :: 1 :: List.replicate 6 0) (x :: y :: List.replicate 6 0) (0 :: 1 :: List.replicate 6 0) (0 :: y :: List.replicate 6 0) (1 :: 1 :: List.replicate 6 0) (0 :: 0 :: List.replicate 6 0) (x :: y :: List.replicate 6 0) (1 :: 0 :: List.replicate 6 0) (1 :: 1 :: List.replicate 6 0) (x :: y :: List.replicate 6 0) (0 :: 0 :: List.replicate 6 0) n cap age 2 0 2 2) = some (1, (Q.mk (a :: b :: List.replicate 30 0) (-1) (1 :: 0 :: List.replicate 6 0) (-1) (0 :: 0 :: List.replicate 6 0) (1 :: 1 :: List.replicate 6 0) (x :: y :: List.replicate 6 0) (1 :: 1 :: List.replicate 6 0) (x :: y :: List.replicate 6 0) (1 :: 1 :: List.replicate 6 0) (0 :: 0 :: List.replicate 6 0) (x :: y :: List.replicate 6 0) (0 :: 0 :: List.replicate 6 0) (1 :: 1 :: List.replicate 6 0) (x :: y :: List.replicate 6 0) (0 :: 0 :: List.replicate 6 0) n cap age 2 1 2 2)) := by
  exact own_rnd1 (Q.mk (a :: b :: List.replicate 30 0) 0 (1 :: 0 :: List.replicate 6 0) (-1) (4 :: 0 :: List.replicate 6 0) (1 :: 1 :: List.replicate 6 0) (x :: y :: List.replicate 6 0) (0 :: 1 :: List.replicate 6 0) (0 :: y :: List.replicate 6 0) (1 :: 1 :: List.replicate 6 0) (0 :: 0 :: List.replicate 6 0) (x :: y :: List.replicate 6 0) (1 :: 0 :: List.replicate 6 0) (1 :: 1 :: List.replicate 6 0) (x :: y :: List.replicate 6 0) (0 :: 0 :: List.replicate 6 0) n cap age 2 0 2 2) (Q.mk (a :: b :: List.replicate 30 0) (-1) (1 :: 0 :: List.replicate 6 0) (-1) (0 :: 0 :: List.replicate 6 0) (1 :: 1 :: List.replicate 6 0) (x :: y :: List.replicate 6 0) (1 :: 1 :: List.replicate 6 0) (x :: y :: List.replicate 6 0) (1 :: 1 :: List.replicate 6 0) (0 :: 0 :: List.replicate 6 0) (x :: y :: List.replicate 6 0) (0 :: 0 :: List.replicate 6 0) (1 :: 1 :: List.replicate 6 0) (x :: y :: List.replicate 6 0) (0 :: 0 :: List.replicate 6 0) n cap age 2 1 2 2) _ _ _ _ rfl rfl (by decide) hn0 hn1 hn8 rfl rfl (own_k11 n cap age x y a b hn0 hn1 hc0 hc1)
theorem own_q6 (n cap age x y a b : Int32) (hn0 : 0 < n) (hn1 : 1 < n) (hc0 : 0 < cap) (hc1 : 1 < cap) (hn8 : n.toInt ≤ 8) : j_round (Q.mk (a :: b :: List.replicate 30 0) (-1) (1 :: 0 :: List.replicate 6 0) (-1) (1 :: 1 :: List.replicate 6 0) (2 :: 2 :: List.replicate 6 0) (0 :: 0 :: List.replicate 6 0) (0 :: 0 :: List.replicate 6 0) (0 :: 0 :: List.replicate 6 0) (1 :: 1 :: List.replicate 6 0) (0 :: 0 :: List.replicate 6 0) (x :: y :: List.replicate 6 0) (0 :: 0 :: List.replicate 6 0) (1 :: 1 :: List.replicate 6 0) (x :: y :: List.replicate 6 0) (0 :: 0 :: List.replicate 6 0) n cap age 2 1 2 2) = some (2, (Q.mk (a :: b :: List.replicate 30 0) (-1) (1 :: 0 :: List.replicate 6 0) (-1) (2 :: 2 :: List.replicate 6 0) (2 :: 2 :: List.replicate 6 0) (0 :: 0 :: List.replicate 6 0) (0 :: 0 :: List.replicate 6 0) (0 :: 0 :: List.replicate 6 0) (1 :: 1 :: List.replicate 6 0) (2 :: 2 :: List.replicate 6 0) (0 :: 0 :: List.replicate 6 0) (0 :: 0 :: List.replicate 6 0) (1 :: 1 :: List.replicate 6 0) (x :: y :: List.replicate 6 0) (0 :: 0 :: List.replicate 6 0) n cap age 2 1 2 2)) := by
  exact own_rnd2 (Q.mk (a :: b :: List.replicate 30 0) (-1) (1 :: 0 :: List.replicate 6 0) (-1) (1 :: 1 :: List.replicate 6 0) (2 :: 2 :: List.replicate 6 0) (0 :: 0 :: List.replicate 6 0) (0 :: 0 :: List.replicate 6 0) (0 :: 0 :: List.replicate 6 0) (1 :: 1 :: List.replicate 6 0) (0 :: 0 :: List.replicate 6 0) (x :: y :: List.replicate 6 0) (0 :: 0 :: List.replicate 6 0) (1 :: 1 :: List.replicate 6 0) (x :: y :: List.replicate 6 0) (0 :: 0 :: List.replicate 6 0) n cap age 2 1 2 2) (Q.mk (a :: b :: List.replicate 30 0) (-1) (1 :: 0 :: List.replicate 6 0) (-1) (2 :: 1 :: List.replicate 6 0) (2 :: 2 :: List.replicate 6 0) (0 :: 0 :: List.replicate 6 0) (0 :: 0 :: List.replicate 6 0) (0 :: 0 :: List.replicate 6 0) (1 :: 1 :: List.replicate 6 0) (2 :: 0 :: List.replicate 6 0) (0 :: y :: List.replicate 6 0) (0 :: 0 :: List.replicate 6 0) (1 :: 1 :: List.replicate 6 0) (x :: y :: List.replicate 6 0) (0 :: 0 :: List.replicate 6 0) n cap age 2 1 2 2) (Q.mk (a :: b :: List.replicate 30 0) (-1) (1 :: 0 :: List.replicate 6 0) (-1) (2 :: 2 :: List.replicate 6 0) (2 :: 2 :: List.replicate 6 0) (0 :: 0 :: List.replicate 6 0) (0 :: 0 :: List.replicate 6 0) (0 :: 0 :: List.replicate 6 0) (1 :: 1 :: List.replicate 6 0) (2 :: 2 :: List.replicate 6 0) (0 :: 0 :: List.replicate 6 0) (0 :: 0 :: List.replicate 6 0) (1 :: 1 :: List.replicate 6 0) (x :: y :: List.replicate 6 0) (0 :: 0 :: List.replicate 6 0) n cap age 2 1 2 2) _ _ _ _ _ _ _ _ rfl rfl rfl (by decide) (by decide) hn0 hn1 hn8 rfl rfl rfl (own_k14 n cap age x y a b hn0 hn1 hc0 hc1) (own_k15 n cap age x y a b hn0 hn1 hc0 hc1)
theorem own_q7 (n cap age x y a b : Int32) (hn0 : 0 < n) (hn1 : 1 < n) (hc0 : 0 < cap) (hc1 : 1 < cap) (hn8 : n.toInt ≤ 8) : j_round (Q.mk (a :: b :: List.replicate 30 0) (-1) (1 :: 0 :: List.replicate 6 0) (-1) (2 :: 2 :: List.replicate 6 0) (2 :: 2 :: List.replicate 6 0) (0 :: 0 :: List.replicate 6 0) (0 :: 0 :: List.replicate 6 0) (0 :: 0 :: List.replicate 6 0) (1 :: 1 :: List.replicate 6 0) (2 :: 2 :: List.replicate 6 0) (0 :: 0 :: List.replicate 6 0) (0 :: 0 :: List.replicate 6 0) (1 :: 1 :: List.replicate 6 0) (x :: y :: List.replicate 6 0) (0 :: 0 :: List.replicate 6 0) n cap age 2 1 2 2) = some (2, (Q.mk (a :: b :: List.replicate 30 0) 0 (1 :: 0 :: List.replicate 6 0) 1 (4 :: 3 :: List.replicate 6 0) (2 :: 2 :: List.replicate 6 0) (0 :: 0 :: List.replicate 6 0) (0 :: 0 :: List.replicate 6 0) (0 :: 0 :: List.replicate 6 0) (1 :: 1 :: List.replicate 6 0) (2 :: 2 :: List.replicate 6 0) (0 :: 0 :: List.replicate 6 0) (0 :: 0 :: List.replicate 6 0) (1 :: 1 :: List.replicate 6 0) (x :: y :: List.replicate 6 0) (0 :: 0 :: List.replicate 6 0) n cap age 2 1 2 2)) := by
  exact own_rnd2 (Q.mk (a :: b :: List.replicate 30 0) (-1) (1 :: 0 :: List.replicate 6 0) (-1) (2 :: 2 :: List.replicate 6 0) (2 :: 2 :: List.replicate 6 0) (0 :: 0 :: List.replicate 6 0) (0 :: 0 :: List.replicate 6 0) (0 :: 0 :: List.replicate 6 0) (1 :: 1 :: List.replicate 6 0) (2 :: 2 :: List.replicate 6 0) (0 :: 0 :: List.replicate 6 0) (0 :: 0 :: List.replicate 6 0) (1 :: 1 :: List.replicate 6 0) (x :: y :: List.replicate 6 0) (0 :: 0 :: List.replicate 6 0) n cap age 2 1 2 2) (Q.mk (a :: b :: List.replicate 30 0) 0 (1 :: 0 :: List.replicate 6 0) 1 (4 :: 2 :: List.replicate 6 0) (2 :: 2 :: List.replicate 6 0) (0 :: 0 :: List.replicate 6 0) (0 :: 0 :: List.replicate 6 0) (0 :: 0 :: List.replicate 6 0) (1 :: 1 :: List.replicate 6 0) (2 :: 2 :: List.replicate 6 0) (0 :: 0 :: List.replicate 6 0) (0 :: 0 :: List.replicate 6 0) (1 :: 1 :: List.replicate 6 0) (x :: y :: List.replicate 6 0) (0 :: 0 :: List.replicate 6 0) n cap age 2 1 2 2) (Q.mk (a :: b :: List.replicate 30 0) 0 (1 :: 0 :: List.replicate 6 0) 1 (4 :: 3 :: List.replicate 6 0) (2 :: 2 :: List.replicate 6 0) (0 :: 0 :: List.replicate 6 0) (0 :: 0 :: List.replicate 6 0) (0 :: 0 :: List.replicate 6 0) (1 :: 1 :: List.replicate 6 0) (2 :: 2 :: List.replicate 6 0) (0 :: 0 :: List.replicate 6 0) (0 :: 0 :: List.replicate 6 0) (1 :: 1 :: List.replicate 6 0) (x :: y :: List.replicate 6 0) (0 :: 0 :: List.replicate 6 0) n cap age 2 1 2 2) _ _ _ _ _ _ _ _ rfl rfl rfl (by decide) (by decide) hn0 hn1 hn8 rfl rfl rfl (own_k16 n cap age x y a b hn0 hn1 hc0 hc1) (own_k17 n cap age x y a b hn0 hn1 hc0 hc1)
theorem own_q8 (n cap age x y a b : Int32) (hn0 : 0 < n) (hn1 : 1 < n) (hc0 : 0 < cap) (hc1 : 1 < cap) (hn8 : n.toInt ≤ 8) : j_round (Q.mk (a :: b :: List.replicate 30 0) 0 (1 :: 0 :: List.replicate 6 0) 1 (4 :: 3 :: List.replicate 6 0) (2 :: 2 :: List.replicate 6 0) (0 :: 0 :: List.replicate 6 0) (0 :: 0 :: List.replicate 6 0) (0 :: 0 :: List.replicate 6 0) (1 :: 1 :: List.replicate 6 0) (2 :: 2 :: List.replicate 6 0) (0 :: 0 :: List.replicate 6 0) (0 :: 0 :: List.replicate 6 0) (1 :: 1 :: List.replicate 6 0) (x :: y :: List.replicate 6 0) (0 :: 0 :: List.replicate 6 0) n cap age 2 1 2 2) = some (2, (Q.mk (b :: b :: List.replicate 30 0) 0 (1 :: 0 :: List.replicate 6 0) 0 (4 :: 0 :: List.replicate 6 0) (2 :: 2 :: List.replicate 6 0) (0 :: 0 :: List.replicate 6 0) (0 :: 1 :: List.replicate 6 0) (0 :: a :: List.replicate 6 0) (1 :: 1 :: List.replicate 6 0) (2 :: 0 :: List.replicate 6 0) (0 :: 0 :: List.replicate 6 0) (0 :: 0 :: List.replicate 6 0) (1 :: 1 :: List.replicate 6 0) (x :: a :: List.replicate 6 0) (0 :: 1 :: List.replicate 6 0) n cap age 2 1 1 3)) := by
  exact own_rnd2 (Q.mk (a :: b :: List.replicate 30 0) 0 (1 :: 0 :: List.replicate 6 0) 1 (4 :: 3 :: List.replicate 6 0) (2 :: 2 :: List.replicate 6 0) (0 :: 0 :: List.replicate 6 0) (0 :: 0 :: List.replicate 6 0) (0 :: 0 :: List.replicate 6 0) (1 :: 1 :: List.replicate 6 0) (2 :: 2 :: List.replicate 6 0) (0 :: 0 :: List.replicate 6 0) (0 :: 0 :: List.replicate 6 0) (1 :: 1 :: List.replicate 6 0) (x :: y :: List.replicate 6 0) (0 :: 0 :: List.replicate 6 0) n cap age 2 1 2 2) (Q.mk (b :: b :: List.replicate 30 0) 0 (1 :: 0 :: List.replicate 6 0) 0 (4 :: 3 :: List.replicate 6 0) (2 :: 2 :: List.replicate 6 0) (0 :: 0 :: List.replicate 6 0) (0 :: 0 :: List.replicate 6 0) (0 :: 0 :: List.replicate 6 0) (1 :: 1 :: List.replicate 6 0) (2 :: 0 :: List.replicate 6 0) (0 :: 0 :: List.replicate 6 0) (0 :: 1 :: List.replicate 6 0) (1 :: 1 :: List.replicate 6 0) (x :: a :: List.replicate 6 0) (0 :: 1 :: List.replicate 6 0) n cap age 2 1 1 3) (Q.mk (b :: b :: List.replicate 30 0) 0 (1 :: 0 :: List.replicate 6 0) 0 (4 :: 0 :: List.replicate 6 0) (2 :: 2 :: List.replicate 6 0) (0 :: 0 :: List.replicate 6 0) (0 :: 1 :: List.replicate 6 0) (0 :: a :: List.replicate 6 0) (1 :: 1 :: List.replicate 6 0) (2 :: 0 :: List.replicate 6 0) (0 :: 0 :: List.replicate 6 0) (0 :: 0 :: List.replicate 6 0) (1 :: 1 :: List.replicate 6 0) (x :: a :: List.replicate 6 0) (0 :: 1 :: List.replicate 6 0) n cap age 2 1 1 3) _ _ _ _ _ _ _ _ rfl rfl rfl (by decide) (by decide) hn0 hn1 hn8 rfl rfl rfl (own_k18 n cap age x y a b hn0 hn1 hc0 hc1) (own_k19 n cap age x y a b hn0 hn1 hc0 hc1)
theorem own_q9 (n cap age x y a b : Int32) (hn0 : 0 < n) (hn1 : 1 < n) (hc0 : 0 < cap) (hc1 : 1 < cap) (hn8 : n.toInt ≤ 8) : j_round (Q.mk (b :: b :: List.replicate 30 0) 0 (1 :: 0 :: List.replicate 6 0) 0 (4 :: 0 :: List.replicate 6 0) (2 :: 2 :: List.replicate 6 0) (0 :: 0 :: List.replicate 6 0) (0 :: 1 :: List.replicate 6 0) (0 :: a :: List.replicate 6 0) (1 :: 1 :: List.replicate 6 0) (2 :: 0 :: List.replicate 6 0) (0 :: 0 :: List.replicate 6 0) (0 :: 0 :: List.replicate 6 0) (1 :: 1 :: List.replicate 6 0) (x :: a :: List.replicate 6 0) (0 :: 1 :: List.replicate 6 0) n cap age 2 1 1 3) = some (1, (Q.mk (b :: b :: List.replicate 30 0) 0 (1 :: 0 :: List.replicate 6 0) (-1) (4 :: 0 :: List.replicate 6 0) (2 :: 2 :: List.replicate 6 0) (0 :: 0 :: List.replicate 6 0) (0 :: 1 :: List.replicate 6 0) (0 :: a :: List.replicate 6 0) (1 :: 1 :: List.replicate 6 0) (0 :: 0 :: List.replicate 6 0) (0 :: 0 :: List.replicate 6 0) (1 :: 0 :: List.replicate 6 0) (1 :: 1 :: List.replicate 6 0) (b :: a :: List.replicate 6 0) (1 :: 1 :: List.replicate 6 0) n cap age 2 1 0 4)) := by
  exact own_rnd1 (Q.mk (b :: b :: List.replicate 30 0) 0 (1 :: 0 :: List.replicate 6 0) 0 (4 :: 0 :: List.replicate 6 0) (2 :: 2 :: List.replicate 6 0) (0 :: 0 :: List.replicate 6 0) (0 :: 1 :: List.replicate 6 0) (0 :: a :: List.replicate 6 0) (1 :: 1 :: List.replicate 6 0) (2 :: 0 :: List.replicate 6 0) (0 :: 0 :: List.replicate 6 0) (0 :: 0 :: List.replicate 6 0) (1 :: 1 :: List.replicate 6 0) (x :: a :: List.replicate 6 0) (0 :: 1 :: List.replicate 6 0) n cap age 2 1 1 3) (Q.mk (b :: b :: List.replicate 30 0) 0 (1 :: 0 :: List.replicate 6 0) (-1) (4 :: 0 :: List.replicate 6 0) (2 :: 2 :: List.replicate 6 0) (0 :: 0 :: List.replicate 6 0) (0 :: 1 :: List.replicate 6 0) (0 :: a :: List.replicate 6 0) (1 :: 1 :: List.replicate 6 0) (0 :: 0 :: List.replicate 6 0) (0 :: 0 :: List.replicate 6 0) (1 :: 0 :: List.replicate 6 0) (1 :: 1 :: List.replicate 6 0) (b :: a :: List.replicate 6 0) (1 :: 1 :: List.replicate 6 0) n cap age 2 1 0 4) _ _ _ _ rfl rfl (by decide) hn0 hn1 hn8 rfl rfl (own_k20 n cap age x y a b hn0 hn1 hc0 hc1)
theorem own_q10 (n cap age x y a b : Int32) (hn0 : 0 < n) (hn1 : 1 < n) (hc0 : 0 < cap) (hc1 : 1 < cap) (hn8 : n.toInt ≤ 8) : j_round (Q.mk (b :: b :: List.replicate 30 0) 0 (1 :: 0 :: List.replicate 6 0) (-1) (4 :: 0 :: List.replicate 6 0) (2 :: 2 :: List.replicate 6 0) (0 :: 0 :: List.replicate 6 0) (0 :: 1 :: List.replicate 6 0) (0 :: a :: List.replicate 6 0) (1 :: 1 :: List.replicate 6 0) (0 :: 0 :: List.replicate 6 0) (0 :: 0 :: List.replicate 6 0) (1 :: 0 :: List.replicate 6 0) (1 :: 1 :: List.replicate 6 0) (b :: a :: List.replicate 6 0) (1 :: 1 :: List.replicate 6 0) n cap age 2 1 0 4) = some (1, (Q.mk (b :: b :: List.replicate 30 0) (-1) (1 :: 0 :: List.replicate 6 0) (-1) (0 :: 0 :: List.replicate 6 0) (2 :: 2 :: List.replicate 6 0) (0 :: 0 :: List.replicate 6 0) (1 :: 1 :: List.replicate 6 0) (b :: a :: List.replicate 6 0) (1 :: 1 :: List.replicate 6 0) (0 :: 0 :: List.replicate 6 0) (0 :: 0 :: List.replicate 6 0) (0 :: 0 :: List.replicate 6 0) (1 :: 1 :: List.replicate 6 0) (b :: a :: List.replicate 6 0) (1 :: 1 :: List.replicate 6 0) n cap age 2 2 0 4)) := by
  exact own_rnd1 (Q.mk (b :: b :: List.replicate 30 0) 0 (1 :: 0 :: List.replicate 6 0) (-1) (4 :: 0 :: List.replicate 6 0) (2 :: 2 :: List.replicate 6 0) (0 :: 0 :: List.replicate 6 0) (0 :: 1 :: List.replicate 6 0) (0 :: a :: List.replicate 6 0) (1 :: 1 :: List.replicate 6 0) (0 :: 0 :: List.replicate 6 0) (0 :: 0 :: List.replicate 6 0) (1 :: 0 :: List.replicate 6 0) (1 :: 1 :: List.replicate 6 0) (b :: a :: List.replicate 6 0) (1 :: 1 :: List.replicate 6 0) n cap age 2 1 0 4) (Q.mk (b :: b :: List.replicate 30 0) (-1) (1 :: 0 :: List.replicate 6 0) (-1) (0 :: 0 :: List.replicate 6 0) (2 :: 2 :: List.replicate 6 0) (0 :: 0 :: List.replicate 6 0) (1 :: 1 :: List.replicate 6 0) (b :: a :: List.replicate 6 0) (1 :: 1 :: List.replicate 6 0) (0 :: 0 :: List.replicate 6 0) (0 :: 0 :: List.replicate 6 0) (0 :: 0 :: List.replicate 6 0) (1 :: 1 :: List.replicate 6 0) (b :: a :: List.replicate 6 0) (1 :: 1 :: List.replicate 6 0) n cap age 2 2 0 4) _ _ _ _ rfl rfl (by decide) hn0 hn1 hn8 rfl rfl (own_k21 n cap age x y a b hn0 hn1 hc0 hc1)
theorem own_five1a (n cap age x y a b : Int32) (hn0 : 0 < n) (hn1 : 1 < n) (hc0 : 0 < cap) (hc1 : 1 < cap) (hn8 : n.toInt ≤ 8) (hxy : x < y) : h_fiveRounds (Q.mk (0 :: 0 :: List.replicate 30 0) (-1) (0 :: 0 :: List.replicate 6 0) (-1) (1 :: 1 :: List.replicate 6 0) (1 :: 1 :: List.replicate 6 0) (x :: y :: List.replicate 6 0) (0 :: 0 :: List.replicate 6 0) (0 :: 0 :: List.replicate 6 0) (0 :: 0 :: List.replicate 6 0) (0 :: 0 :: List.replicate 6 0) (0 :: 0 :: List.replicate 6 0) (0 :: 0 :: List.replicate 6 0) (0 :: 0 :: List.replicate 6 0) (0 :: 0 :: List.replicate 6 0) (0 :: 0 :: List.replicate 6 0) n cap age 0 0 0 0) = some (1, (Q.mk (x :: y :: List.replicate 30 0) (-1) (1 :: 0 :: List.replicate 6 0) (-1) (0 :: 0 :: List.replicate 6 0) (1 :: 1 :: List.replicate 6 0) (x :: y :: List.replicate 6 0) (1 :: 1 :: List.replicate 6 0) (x :: y :: List.replicate 6 0) (1 :: 1 :: List.replicate 6 0) (0 :: 0 :: List.replicate 6 0) (x :: y :: List.replicate 6 0) (0 :: 0 :: List.replicate 6 0) (1 :: 1 :: List.replicate 6 0) (x :: y :: List.replicate 6 0) (0 :: 0 :: List.replicate 6 0) n cap age 2 1 2 2)) := by
  simp only [h_fiveRounds, own_q1 n cap age x y a b hn0 hn1 hc0 hc1 hn8, own_q2 n cap age x y a b hn0 hn1 hc0 hc1 hn8, own_q3 n cap age x y a b hn0 hn1 hc0 hc1 hn8, own_q4a n cap age x y a b hn0 hn1 hc0 hc1 hn8 hxy, own_q5 n cap age x y x y hn0 hn1 hc0 hc1 hn8, Option.bind_some, ↓reduceIte]
theorem own_five1b (n cap age x y a b : Int32) (hn0 : 0 < n) (hn1 : 1 < n) (hc0 : 0 < cap) (hc1 : 1 < cap) (hn8 : n.toInt ≤ 8) (hxy : ¬ x < y) : h_fiveRounds (Q.mk (0 :: 0 :: List.replicate 30 0) (-1) (0 :: 0 :: List.replicate 6 0) (-1) (1 :: 1 :: List.replicate 6 0) (1 :: 1 :: List.replicate 6 0) (x :: y :: List.replicate 6 0) (0 :: 0 :: List.replicate 6 0) (0 :: 0 :: List.replicate 6 0) (0 :: 0 :: List.replicate 6 0) (0 :: 0 :: List.replicate 6 0) (0 :: 0 :: List.replicate 6 0) (0 :: 0 :: List.replicate 6 0) (0 :: 0 :: List.replicate 6 0) (0 :: 0 :: List.replicate 6 0) (0 :: 0 :: List.replicate 6 0) n cap age 0 0 0 0) = some (1, (Q.mk (y :: x :: List.replicate 30 0) (-1) (1 :: 0 :: List.replicate 6 0) (-1) (0 :: 0 :: List.replicate 6 0) (1 :: 1 :: List.replicate 6 0) (x :: y :: List.replicate 6 0) (1 :: 1 :: List.replicate 6 0) (x :: y :: List.replicate 6 0) (1 :: 1 :: List.replicate 6 0) (0 :: 0 :: List.replicate 6 0) (x :: y :: List.replicate 6 0) (0 :: 0 :: List.replicate 6 0) (1 :: 1 :: List.replicate 6 0) (x :: y :: List.replicate 6 0) (0 :: 0 :: List.replicate 6 0) n cap age 2 1 2 2)) := by
  simp only [h_fiveRounds, own_q1 n cap age x y a b hn0 hn1 hc0 hc1 hn8, own_q2 n cap age x y a b hn0 hn1 hc0 hc1 hn8, own_q3 n cap age x y a b hn0 hn1 hc0 hc1 hn8, own_q4b n cap age x y a b hn0 hn1 hc0 hc1 hn8 hxy, own_q5 n cap age x y y x hn0 hn1 hc0 hc1 hn8, Option.bind_some, ↓reduceIte]
theorem own_five2 (n cap age x y a b : Int32) (hn0 : 0 < n) (hn1 : 1 < n) (hc0 : 0 < cap) (hc1 : 1 < cap) (hn8 : n.toInt ≤ 8) : h_fiveRounds (Q.mk (a :: b :: List.replicate 30 0) (-1) (1 :: 0 :: List.replicate 6 0) (-1) (1 :: 1 :: List.replicate 6 0) (2 :: 2 :: List.replicate 6 0) (0 :: 0 :: List.replicate 6 0) (0 :: 0 :: List.replicate 6 0) (0 :: 0 :: List.replicate 6 0) (1 :: 1 :: List.replicate 6 0) (0 :: 0 :: List.replicate 6 0) (x :: y :: List.replicate 6 0) (0 :: 0 :: List.replicate 6 0) (1 :: 1 :: List.replicate 6 0) (x :: y :: List.replicate 6 0) (0 :: 0 :: List.replicate 6 0) n cap age 2 1 2 2) = some (1, (Q.mk (b :: b :: List.replicate 30 0) (-1) (1 :: 0 :: List.replicate 6 0) (-1) (0 :: 0 :: List.replicate 6 0) (2 :: 2 :: List.replicate 6 0) (0 :: 0 :: List.replicate 6 0) (1 :: 1 :: List.replicate 6 0) (b :: a :: List.replicate 6 0) (1 :: 1 :: List.replicate 6 0) (0 :: 0 :: List.replicate 6 0) (0 :: 0 :: List.replicate 6 0) (0 :: 0 :: List.replicate 6 0) (1 :: 1 :: List.replicate 6 0) (b :: a :: List.replicate 6 0) (1 :: 1 :: List.replicate 6 0) n cap age 2 2 0 4)) := by
  simp only [h_fiveRounds, own_q6 n cap age x y a b hn0 hn1 hc0 hc1 hn8, own_q7 n cap age x y a b hn0 hn1 hc0 hc1 hn8, own_q8 n cap age x y a b hn0 hn1 hc0 hc1 hn8, own_q9 n cap age x y a b hn0 hn1 hc0 hc1 hn8, own_q10 n cap age x y a b hn0 hn1 hc0 hc1 hn8, Option.bind_some, ↓reduceIte]
theorem own_ini (v0 v1 v2 : Int32) : ∃ n cap age : Int32, 0 < n ∧ 1 < n ∧ n.toInt ≤ 8 ∧ 0 < cap ∧ 1 < cap ∧ j_init v0 v1 v2 = some (Q.mk (0 :: 0 :: List.replicate 30 0) (-1) (0 :: 0 :: List.replicate 6 0) (-1) (0 :: 0 :: List.replicate 6 0) (0 :: 0 :: List.replicate 6 0) (0 :: 0 :: List.replicate 6 0) (0 :: 0 :: List.replicate 6 0) (0 :: 0 :: List.replicate 6 0) (0 :: 0 :: List.replicate 6 0) (0 :: 0 :: List.replicate 6 0) (0 :: 0 :: List.replicate 6 0) (0 :: 0 :: List.replicate 6 0) (0 :: 0 :: List.replicate 6 0) (0 :: 0 :: List.replicate 6 0) (0 :: 0 :: List.replicate 6 0) n cap age 0 0 0 0) := by
  refine ⟨j_clamp v0 2 8, j_clamp v1 8 32, j_clamp v2 1 8, ?_, ?_, ?_, ?_, ?_, ?_⟩
  · have := own_cl (v := v0) (a := 2) (b := 8) (by decide); simp only [lt32, Int32.reduceToInt] at *; omega
  · have := own_cl (v := v0) (a := 2) (b := 8) (by decide); simp only [lt32, Int32.reduceToInt] at *; omega
  · have := own_cl (v := v0) (a := 2) (b := 8) (by decide); simp only [lt32, Int32.reduceToInt] at *; omega
  · have := own_cl (v := v1) (a := 8) (b := 32) (by decide); simp only [lt32, Int32.reduceToInt] at *; omega
  · have := own_cl (v := v1) (a := 8) (b := 32) (by decide); simp only [lt32, Int32.reduceToInt] at *; omega
  · rfl
set_option maxHeartbeats 4000000 in
theorem own_law (v0 v1 v2 v3 v4 : Int32) : (law v0 v1 v2 v3 v4).map (·.1) = some 1 := by
  obtain ⟨n, cap, age, hn0, hn1, hn8, hc0, hc1, e⟩ := own_ini v0 v1 v2
  by_cases hxy : v3 < v4
  · have f1 := own_five1a n cap age v3 v4 v3 v4 hn0 hn1 hc0 hc1 hn8 hxy
    have f2 := own_five2 n cap age v3 v4 v3 v4 hn0 hn1 hc0 hc1 hn8
    have u0 := own_k1 n cap age v3 v4 v3 v4 hn0 hn1 hc0 hc1
    have u1 := own_k2 n cap age v3 v4 v3 v4 hn0 hn1 hc0 hc1
    have u2 := own_k12 n cap age v3 v4 v3 v4 hn0 hn1 hc0 hc1
    have u3 := own_k13 n cap age v3 v4 v3 v4 hn0 hn1 hc0 hc1
    simp [law, law_b24, law_b38, e, u0, u1, u2, u3, f1, f2, hxy, j_resultStatus, j_resultValue, j_size, j_peekMin, j_passes, j_phase, j_combiner, j_appliedCount, j_valid, own_f_heap, own_e_heap, own_z_heap, own_f_lock, own_e_lock, own_z_lock, own_f_list, own_e_list, own_z_list, own_f_cursor, own_e_cursor, own_z_cursor, own_f_phase, own_e_phase, own_z_phase, own_f_opKind, own_e_opKind, own_z_opKind, own_f_opVal, own_e_opVal, own_z_opVal, own_f_resStatus, own_e_resStatus, own_z_resStatus, own_f_resVal, own_e_resVal, own_z_resVal, own_f_enlisted, own_e_enlisted, own_z_enlisted, own_f_reqKind, own_e_reqKind, own_z_reqKind, own_f_reqVal, own_e_reqVal, own_z_reqVal, own_f_ready, own_e_ready, own_z_ready, own_f_respStatus, own_e_respStatus, own_z_respStatus, own_f_respVal, own_e_respVal, own_z_respVal, own_f_stamp, own_e_stamp, own_z_stamp, own_f_n, own_e_n, own_z_n, own_f_cap, own_e_cap, own_z_cap, own_f_age, own_e_age, own_z_age, own_f_listLen, own_e_listLen, own_z_listLen, own_f_pass, own_e_pass, own_z_pass, own_f_heapSize, own_e_heapSize, own_z_heapSize, own_f_applied, own_e_applied, own_z_applied, own_g0, own_g1, own_l8, own_l32, own_b80, own_b81, own_b320, hn0, hn1, Int32.not_le.mpr hn0, Int32.not_le.mpr hn1, -List.reduceReplicate]
  · have f1 := own_five1b n cap age v3 v4 v4 v3 hn0 hn1 hc0 hc1 hn8 hxy
    have f2 := own_five2 n cap age v3 v4 v4 v3 hn0 hn1 hc0 hc1 hn8
    have u0 := own_k1 n cap age v3 v4 v4 v3 hn0 hn1 hc0 hc1
    have u1 := own_k2 n cap age v3 v4 v4 v3 hn0 hn1 hc0 hc1
    have u2 := own_k12 n cap age v3 v4 v4 v3 hn0 hn1 hc0 hc1
    have u3 := own_k13 n cap age v3 v4 v4 v3 hn0 hn1 hc0 hc1
    simp [law, law_b24, law_b38, e, u0, u1, u2, u3, f1, f2, hxy, Int32.not_lt.mp hxy, j_resultStatus, j_resultValue, j_size, j_peekMin, j_passes, j_phase, j_combiner, j_appliedCount, j_valid, own_f_heap, own_e_heap, own_z_heap, own_f_lock, own_e_lock, own_z_lock, own_f_list, own_e_list, own_z_list, own_f_cursor, own_e_cursor, own_z_cursor, own_f_phase, own_e_phase, own_z_phase, own_f_opKind, own_e_opKind, own_z_opKind, own_f_opVal, own_e_opVal, own_z_opVal, own_f_resStatus, own_e_resStatus, own_z_resStatus, own_f_resVal, own_e_resVal, own_z_resVal, own_f_enlisted, own_e_enlisted, own_z_enlisted, own_f_reqKind, own_e_reqKind, own_z_reqKind, own_f_reqVal, own_e_reqVal, own_z_reqVal, own_f_ready, own_e_ready, own_z_ready, own_f_respStatus, own_e_respStatus, own_z_respStatus, own_f_respVal, own_e_respVal, own_z_respVal, own_f_stamp, own_e_stamp, own_z_stamp, own_f_n, own_e_n, own_z_n, own_f_cap, own_e_cap, own_z_cap, own_f_age, own_e_age, own_z_age, own_f_listLen, own_e_listLen, own_z_listLen, own_f_pass, own_e_pass, own_z_pass, own_f_heapSize, own_e_heapSize, own_z_heapSize, own_f_applied, own_e_applied, own_z_applied, own_g0, own_g1, own_l8, own_l32, own_b80, own_b81, own_b320, hn0, hn1, Int32.not_le.mpr hn0, Int32.not_le.mpr hn1, -List.reduceReplicate]

set_option maxRecDepth 65536 in
set_option maxHeartbeats 4000000 in
theorem comes_1 {Post : Tables → Env → Array Value → State → Outcome → State → Prop} (hpost : ∀ tb e args s v u, (limb_1_1.after args s (.returned v) u = true ∧ limb_1_2.after args s (.returned v) u = true ∧ True) → FrameEnd s (.returned v) u (Jvm.fieldLocs frame_1_writes args s ++ Jvm.arrayLocs frame_1_arrays args s ++ Jvm.staticLocs frame_1_statics s) 40 384 → Post tb e args s (.returned v) u) :
    ArmFor flags0 classFile x code maxLocals ret World_1 tables_1 room_1 Calls_1 rest_1 Pre_1 Post := by
  intro l hfl _ _ p e ha hc hk s m args below hf hA hF happ hP
  obtain ⟨hcalls, hrest, hpre⟩ := hP
  obtain ⟨-, -, -, hnamed, -, -, -, hat⟩ := (Spec.applies_iff hf).mp happ
  obtain ⟨hg, hn⟩ := and_e (Cond.before_iff.mp (show (Jvm.Cond.and given_1 narrow_1).before args s = true from hpre))
  obtain ⟨hcnt, h0⟩ := and_e hg
  obtain ⟨w0, w1, w2, w3, w4, rfl⟩ : ∃ w0 w1 w2 w3 w4 : Value, args = #[w0, w1, w2, w3, w4] := by
    have hs : args.size = 5 := by simpa [Cond.value, given_1] using hcnt
    obtain ⟨L⟩ := args
    match L, hs with
    | [w0, w1, w2, w3, w4], _ => exact ⟨w0, w1, w2, w3, w4, rfl⟩
  have hw := fun d (hd : d ∈ tables_1) => atoms_spec (ws := Jvm.Cond.code x code maxLocals ret :: tables_1) hat d (List.mem_cons_of_mem _ hd)
  obtain ⟨q0, h1⟩ := and_e h0
  obtain ⟨i0, e0⟩ := is_v q0
  obtain rfl : w0 = .int i0 := Option.some.inj e0
  obtain ⟨q1, h2⟩ := and_e h1
  obtain ⟨i1, e1⟩ := is_v q1
  obtain rfl : w1 = .int i1 := Option.some.inj e1
  obtain ⟨q2, h3⟩ := and_e h2
  obtain ⟨i2, e2⟩ := is_v q2
  obtain rfl : w2 = .int i2 := Option.some.inj e2
  obtain ⟨q3, h4⟩ := and_e h3
  obtain ⟨i3, e3⟩ := is_v q3
  obtain rfl : w3 = .int i3 := Option.some.inj e3
  obtain ⟨i4, e4⟩ := is_v h4
  obtain rfl : w4 = .int i4 := Option.some.inj e4
  have hL := own_law i0 i1 i2 i3 i4
  obtain ⟨res, hres, hr1⟩ := Option.map_eq_some_iff.mp hL
  obtain ⟨n, hrun⟩ := ev_law i0 i1 i2 i3 i4 hres rfl
  have hr1' : res.1 = 1 := hr1
  rw [hr1'] at hrun
  have hcap := run_cap hrun
  have hcC : own_P.capC = 40 := rfl
  have hcS : own_P.capS = 384 := rfl
  rw [hcC, hcS] at hcap
  have hc1 : (W0 []).length = 0 := rfl
  have hc2 : hsz own_P (W0 []) = 0 := rfl
  have hM := metOf (sound (own_good hw) n) (k := 0) (as := [.int i0, .int i1, .int i2, .int i3, .int i4]) (H := (W0 [])) hrun (l := l) (wsC := tables_1) (rm := room_1) own_pn0 rfl (fun h => nomatch h) (by decide) (by decide) (by show _ ≤ 40; omega) (by show _ ≤ 384; omega) (am := []) (ws := [.int i0, .int i1, .int i2, .int i3, .int i4]) (h := s.heap) (n0 := s.heap.size) ⟨_, _, rfl, rfl, _, _, rfl, rfl, _, _, rfl, rfl, _, _, rfl, rfl, _, _, rfl, rfl, rfl⟩ (Nat.le_of_ble_eq_true rfl) (HR.none _ _ _ _ _) (Nat.le_refl _)
  obtain ⟨n, o, h1, h2, h3, w, L, rfl, ⟨N, -, am', -, -, hv⟩, hq⟩ := hM p e ha hc hk s m _ below hf ((Spec.applies_iff_loose hf).mp happ).1 ⟨rfl, State.Warmed39.refl s, rfl⟩ trivial
  obtain ⟨y, rfl, rfl⟩ := hv
  exact ⟨n, _, h1, h2, h3, hpost _ _ _ _ _ _ ⟨Cond.after_iff.mpr rfl, Cond.after_iff.mpr (eq_i res_at (Term.int_eval (1)) rfl), trivial⟩ ⟨hq.1, hq.2.1, (hq.2.2.sift fun y hy => Or.inr (N y hy)).mono (by omega) (by omega)⟩⟩
theorem main_1_1 : Claimed_1_1 := comes_1 fun _ _ _ _ _ _ h hF => ⟨h.1, hF⟩
theorem main_1_2 : Claimed_1_2 := comes_1 fun _ _ _ _ _ _ h hF => ⟨h.2.1, hF⟩
end Jvm.Pilot.@@N@@
namespace Jvm.Pilot.@@N@@
open Jvm Jvm.ClassFile Sem Op Lib Jvm.Free Jvm.Stand Jvm.Pilot.@@N@@.Jvm.D
/-! MADE BY PROGRAM (witnessworld.py) out of the Statement's table words and the real class files: 11 classes; the members and pool entries that the words name. The judged class is class 1, her method 1. -/
namespace start1
open Jvm.ClassFile
def u (s : String) : CpInfo := .utf8 (stringToUtf16 s)
/-- a pool by its gaps: so many unusable entries, then the entry; so many at the end -/
def gap : Nat → List CpInfo → List CpInfo
  | 0, r => r
  | n + 1, r => .unusable :: gap n r
def poolList (es : List (Nat × CpInfo)) (last : Nat) : List CpInfo := es.foldr (fun e r => gap e.1 (e.2 :: r)) (gap last [])
def pool (es : List (Nat × CpInfo)) (last : Nat) : Array CpInfo := ⟨poolList es last⟩
def fileOf (pool : Array CpInfo) (this : Nat) (attrs : Array Attribute := #[]) (ms : Array MethodInfo := #[]) (fl : Nat := 33) (sup : Nat := 0) (ifs : Array Nat := #[]) (fds : Array FieldInfo := #[]) : ClassFile where
  minorVersion := 0
  majorVersion := 65
  constantPool := pool
  accessFlags := fl
  thisClass := this
  superClass := sup
  interfaces := ifs
  fields := fds
  methods := ms
  attributes := attrs
def plain (name : String) (sup : Option ClassId) : Class where
  name := name
  kind := .ordinary
  loader := none
  accessFlags := 33
  super := sup
  interfaces := #[]
  cf := none
  fields := #[]
  methods := #[]
  instanceTypes := #[]
  staticTypes := #[]
  resolved := #[]
  callSites := []
  init := .initialized
  statics := none
  mirror := none

def pool0 : Array CpInfo := pool [(5, u "<init>"), (0, u "()V"), (1, .class_ 10), (1, u "java/lang/Object")] 113

def k0c0 : Code := { maxStack := 0, maxLocals := 1, code := object_method_1_code, exceptionTable := #[], attributes := #[] }
def k0m0 : Method := { name := "<init>", desc := "()V", sig := { parameters := [], returnType := none }, accessFlags := 1, code := some k0c0 }
/-- java/lang/Object -/
def k0 : Class := { plain "java/lang/Object" none with
  accessFlags := 33
  interfaces := #[]
  cf := some (fileOf pool0 8 #[] #[{ accessFlags := 1, nameIndex := 5, descriptorIndex := 6, attributes := #[] }] 33 0 #[] #[])
  fields := #[]
  methods := #[k0m0]
  instanceTypes := #[]
  staticTypes := #[]
  resolved := Array.replicate 124 none
  statics := none }

def pool1 : Array CpInfo := pool [(2, .class_ 4), (1, u "java/lang/Object"), (0, u "<init>"), (0, u "()V"), (0, .class_ 8), (0, u "FlatCombiner"), (0, .methodref 7 10), (0, .nameAndType 5 11), (0, u "(III)V"), (0, .methodref 7 13), (0, .nameAndType 14 15), (0, u "submit"), (0, u "(III)Z"), (0, .methodref 17 18), (0, .class_ 19), (0, .nameAndType 20 21), (0, u "FlatCombinerL3"), (0, u "fiveRounds"), (0, u "(LFlatCombiner;)Z"), (0, .methodref 7 23), (0, .nameAndType 24 25), (0, u "resultStatus"), (0, u "(I)I"), (0, .methodref 7 27), (0, .nameAndType 28 25), (0, u "resultValue"), (0, .methodref 7 30), (0, .nameAndType 31 32), (0, u "size"), (0, u "()I"), (0, .methodref 7 34), (0, .nameAndType 35 32), (0, u "peekMin"), (0, .methodref 7 37), (0, .nameAndType 38 32), (0, u "passes"), (0, .methodref 7 40), (0, .nameAndType 41 25), (0, u "phase"), (0, .methodref 7 43), (0, .nameAndType 44 32), (0, u "combiner"), (0, .methodref 7 46), (0, .nameAndType 47 32), (0, u "appliedCount"), (0, .methodref 7 49), (0, .nameAndType 50 32), (0, u "round"), (2, u "law"), (0, u "(IIIII)Z")] 3

def k1m0 : Method := { name := "<init>", desc := "()V", sig := { parameters := [], returnType := none }, accessFlags := 1, code := none }
def k1c1 : Code := { maxStack := 5, maxLocals := 12, code := code, exceptionTable := #[], attributes := #[] }
def k1m1 : Method := { name := "law", desc := "(IIIII)Z", sig := { parameters := [.int, .int, .int, .int, .int], returnType := some .boolean }, accessFlags := 9, code := some k1c1 }
def k1c2 : Code := { maxStack := 2, maxLocals := 6, code := method_3_code, exceptionTable := #[], attributes := #[] }
def k1m2 : Method := { name := "fiveRounds", desc := "(LFlatCombiner;)Z", sig := { parameters := [(.object "FlatCombiner")], returnType := some .boolean }, accessFlags := 10, code := some k1c2 }
/-- FlatCombinerL3 -/
def k1 : Class := { plain "FlatCombinerL3" (some 0) with
  accessFlags := 33
  interfaces := #[]
  cf := some (fileOf pool1 17 #[] #[{ accessFlags := 1, nameIndex := 5, descriptorIndex := 6, attributes := #[] }, { accessFlags := 9, nameIndex := 53, descriptorIndex := 54, attributes := #[] }, { accessFlags := 10, nameIndex := 20, descriptorIndex := 21, attributes := #[] }] 33 2 #[] #[])
  fields := #[]
  methods := #[k1m0, k1m1, k1m2]
  instanceTypes := #[]
  staticTypes := #[]
  resolved := Array.replicate 58 none
  statics := none }

def pool2 : Array CpInfo := pool [(1, .methodref 2 3), (0, .class_ 4), (0, .nameAndType 5 6), (0, u "java/lang/Object"), (0, u "<init>"), (0, u "()V"), (0, .fieldref 8 9), (0, .class_ 10), (0, .nameAndType 11 12), (0, u "FlatCombiner"), (0, u "heap"), (0, u "[I"), (0, .fieldref 8 14), (0, .nameAndType 15 16), (0, u "lock"), (0, u "I"), (0, .fieldref 8 18), (0, .nameAndType 19 12), (0, u "list"), (0, .fieldref 8 21), (0, .nameAndType 22 16), (0, u "cursor"), (0, .fieldref 8 24), (0, .nameAndType 25 12), (0, u "phase"), (0, .fieldref 8 27), (0, .nameAndType 28 12), (0, u "opKind"), (0, .fieldref 8 30), (0, .nameAndType 31 12), (0, u "opVal"), (0, .fieldref 8 33), (0, .nameAndType 34 12), (0, u "resStatus"), (0, .fieldref 8 36), (0, .nameAndType 37 12), (0, u "resVal"), (0, .fieldref 8 39), (0, .nameAndType 40 41), (0, u "enlisted"), (0, u "[Z"), (0, .fieldref 8 43), (0, .nameAndType 44 12), (0, u "reqKind"), (0, .fieldref 8 46), (0, .nameAndType 47 12), (0, u "reqVal"), (0, .fieldref 8 49), (0, .nameAndType 50 41), (0, u "ready"), (0, .fieldref 8 52), (0, .nameAndType 53 12), (0, u "respStatus"), (0, .fieldref 8 55), (0, .nameAndType 56 12), (0, u "respVal"), (0, .fieldref 8 58), (0, .nameAndType 59 12), (0, u "stamp"), (0, .methodref 8 61), (0, .nameAndType 62 63), (0, u "clamp"), (0, u "(III)I"), (0, .fieldref 8 65), (0, .nameAndType 66 16), (0, u "n"), (0, .fieldref 8 68), (0, .nameAndType 69 16), (0, u "cap"), (0, .fieldref 8 71), (0, .nameAndType 72 16), (0, u "age"), (0, .methodref 8 74), (0, .nameAndType 75 76), (0, u "valid"), (0, u "(I)Z"), (0, .methodref 8 78), (0, .nameAndType 79 80), (0, u "stepPublish"), (0, u "(I)I"), (0, .methodref 8 82), (0, .nameAndType 83 80), (0, u "stepTryLock"), (0, .methodref 8 85), (0, .nameAndType 86 80), (0, u "stepSpin"), (0, .methodref 8 88), (0, .nameAndType 89 80), (0, u "stepCombine"), (0, .methodref 8 91), (0, .nameAndType 92 93), (0, u "pushFront"), (0, u "(I)V"), (0, .fieldref 8 95), (0, .nameAndType 96 16), (0, u "pass"), (0, .fieldref 8 98), (0, .nameAndType 99 16), (0, u "listLen"), (0, .methodref 8 101), (0, .nameAndType 102 93), (0, u "take"), (0, .methodref 8 104), (0, .nameAndType 105 80), (0, u "endPass"), (0, .methodref 8 107), (0, .nameAndType 108 80), (0, u "indexOf"), (0, .methodref 8 110), (0, .nameAndType 111 93), (0, u "serve"), (3, .methodref 8 116), (0, .nameAndType 117 93), (0, u "applyInsert"), (0, .methodref 8 119), (0, .nameAndType 120 93), (0, u "applyDeleteMin"), (0, .fieldref 8 122), (0, .nameAndType 123 16), (0, u "applied"), (0, .fieldref 8 125), (0, .nameAndType 126 16), (0, u "heapSize"), (0, .methodref 8 128), (0, .nameAndType 129 93), (0, u "siftUp"), (0, .methodref 8 131), (0, .nameAndType 132 6), (0, u "siftDown"), (0, .methodref 8 134), (0, .nameAndType 135 136), (0, u "swap"), (0, u "(II)V"), (0, .methodref 8 138), (0, .nameAndType 139 80), (0, u "step"), (0, u "REQ_NONE"), (2, u "OP_INSERT"), (1, u "OP_DELETE_MIN"), (1, u "PH_IDLE"), (0, u "PH_PUBLISH"), (0, u "PH_TRY_LOCK"), (0, u "PH_SPIN"), (1, u "PH_COMBINE"), (1, u "RES_NONE"), (0, u "RES_OK"), (0, u "RES_FULL"), (0, u "RES_EMPTY"), (0, u "ACT_REFUSED"), (1, u "ACT_PUBLISH"), (0, u "ACT_ENLIST"), (0, u "ACT_LOCKED"), (0, u "ACT_LOCK_BUSY"), (0, u "ACT_DONE"), (1, u "ACT_RETRY"), (1, u "ACT_WAIT"), (1, u "ACT_SERVE"), (1, u "ACT_AGE_OUT"), (1, u "ACT_SKIP"), (1, u "ACT_PASS_END"), (1, u "(III)V"), (3, u "submit"), (0, u "(III)Z"), (0, u "round"), (0, u "()I"), (0, u "resultStatus"), (0, u "resultValue"), (1, u "combiner"), (4, u "size"), (0, u "peekMin"), (0, u "passes"), (0, u "appliedCount")] 2

def k2c0 : Code := { maxStack := 5, maxLocals := 4, code := prog_1_method_1_code, exceptionTable := #[], attributes := #[] }
def k2m0 : Method := { name := "<init>", desc := "(III)V", sig := { parameters := [.int, .int, .int], returnType := none }, accessFlags := 1, code := some k2c0 }
def k2c1 : Code := { maxStack := 2, maxLocals := 4, code := prog_1_method_2_code, exceptionTable := #[], attributes := #[] }
def k2m1 : Method := { name := "clamp", desc := "(III)I", sig := { parameters := [.int, .int, .int], returnType := some .int }, accessFlags := 2, code := some k2c1 }
def k2c2 : Code := { maxStack := 2, maxLocals := 2, code := prog_1_method_3_code, exceptionTable := #[], attributes := #[] }
def k2m2 : Method := { name := "valid", desc := "(I)Z", sig := { parameters := [.int], returnType := some .boolean }, accessFlags := 2, code := some k2c2 }
def k2c3 : Code := { maxStack := 3, maxLocals := 4, code := prog_1_method_4_code, exceptionTable := #[], attributes := #[] }
def k2m3 : Method := { name := "submit", desc := "(III)Z", sig := { parameters := [.int, .int, .int], returnType := some .boolean }, accessFlags := 1, code := some k2c3 }
def k2c4 : Code := { maxStack := 2, maxLocals := 3, code := prog_1_method_5_code, exceptionTable := #[], attributes := #[] }
def k2m4 : Method := { name := "step", desc := "(I)I", sig := { parameters := [.int], returnType := some .int }, accessFlags := 1, code := some k2c4 }
def k2c5 : Code := { maxStack := 4, maxLocals := 2, code := prog_1_method_6_code, exceptionTable := #[], attributes := #[] }
def k2m5 : Method := { name := "stepPublish", desc := "(I)I", sig := { parameters := [.int], returnType := some .int }, accessFlags := 2, code := some k2c5 }
def k2c6 : Code := { maxStack := 3, maxLocals := 2, code := prog_1_method_7_code, exceptionTable := #[], attributes := #[] }
def k2m6 : Method := { name := "stepTryLock", desc := "(I)I", sig := { parameters := [.int], returnType := some .int }, accessFlags := 2, code := some k2c6 }
def k2c7 : Code := { maxStack := 3, maxLocals := 2, code := prog_1_method_8_code, exceptionTable := #[], attributes := #[] }
def k2m7 : Method := { name := "stepSpin", desc := "(I)I", sig := { parameters := [.int], returnType := some .int }, accessFlags := 2, code := some k2c7 }
def k2c8 : Code := { maxStack := 3, maxLocals := 6, code := prog_1_method_9_code, exceptionTable := #[], attributes := #[] }
def k2m8 : Method := { name := "stepCombine", desc := "(I)I", sig := { parameters := [.int], returnType := some .int }, accessFlags := 2, code := some k2c8 }
def k2c9 : Code := { maxStack := 3, maxLocals := 2, code := prog_1_method_10_code, exceptionTable := #[], attributes := #[] }
def k2m9 : Method := { name := "endPass", desc := "(I)I", sig := { parameters := [.int], returnType := some .int }, accessFlags := 2, code := some k2c9 }
def k2c10 : Code := { maxStack := 4, maxLocals := 2, code := prog_1_method_11_code, exceptionTable := #[], attributes := #[] }
def k2m10 : Method := { name := "take", desc := "(I)V", sig := { parameters := [.int], returnType := none }, accessFlags := 2, code := some k2c10 }
def k2c11 : Code := { maxStack := 3, maxLocals := 2, code := prog_1_method_12_code, exceptionTable := #[], attributes := #[] }
def k2m11 : Method := { name := "serve", desc := "(I)V", sig := { parameters := [.int], returnType := none }, accessFlags := 2, code := some k2c11 }
def k2c12 : Code := { maxStack := 3, maxLocals := 3, code := prog_1_method_13_code, exceptionTable := #[], attributes := #[] }
def k2m12 : Method := { name := "applyInsert", desc := "(I)V", sig := { parameters := [.int], returnType := none }, accessFlags := 2, code := some k2c12 }
def k2c13 : Code := { maxStack := 4, maxLocals := 3, code := prog_1_method_14_code, exceptionTable := #[], attributes := #[] }
def k2m13 : Method := { name := "applyDeleteMin", desc := "(I)V", sig := { parameters := [.int], returnType := none }, accessFlags := 2, code := some k2c13 }
def k2c14 : Code := { maxStack := 3, maxLocals := 5, code := prog_1_method_15_code, exceptionTable := #[], attributes := #[] }
def k2m14 : Method := { name := "siftUp", desc := "(I)V", sig := { parameters := [.int], returnType := none }, accessFlags := 2, code := some k2c14 }
def k2c15 : Code := { maxStack := 3, maxLocals := 6, code := prog_1_method_16_code, exceptionTable := #[], attributes := #[] }
def k2m15 : Method := { name := "siftDown", desc := "()V", sig := { parameters := [], returnType := none }, accessFlags := 2, code := some k2c15 }
def k2c16 : Code := { maxStack := 4, maxLocals := 4, code := prog_1_method_17_code, exceptionTable := #[], attributes := #[] }
def k2m16 : Method := { name := "swap", desc := "(II)V", sig := { parameters := [.int, .int], returnType := none }, accessFlags := 2, code := some k2c16 }
def k2c17 : Code := { maxStack := 5, maxLocals := 3, code := prog_1_method_18_code, exceptionTable := #[], attributes := #[] }
def k2m17 : Method := { name := "pushFront", desc := "(I)V", sig := { parameters := [.int], returnType := none }, accessFlags := 2, code := some k2c17 }
def k2c18 : Code := { maxStack := 2, maxLocals := 3, code := prog_1_method_20_code, exceptionTable := #[], attributes := #[] }
def k2m18 : Method := { name := "indexOf", desc := "(I)I", sig := { parameters := [.int], returnType := some .int }, accessFlags := 2, code := some k2c18 }
def k2c19 : Code := { maxStack := 2, maxLocals := 3, code := prog_1_method_21_code, exceptionTable := #[], attributes := #[] }
def k2m19 : Method := { name := "round", desc := "()I", sig := { parameters := [], returnType := some .int }, accessFlags := 1, code := some k2c19 }
def k2c20 : Code := { maxStack := 2, maxLocals := 2, code := prog_1_method_22_code, exceptionTable := #[], attributes := #[] }
def k2m20 : Method := { name := "phase", desc := "(I)I", sig := { parameters := [.int], returnType := some .int }, accessFlags := 1, code := some k2c20 }
def k2c21 : Code := { maxStack := 2, maxLocals := 2, code := prog_1_method_23_code, exceptionTable := #[], attributes := #[] }
def k2m21 : Method := { name := "resultStatus", desc := "(I)I", sig := { parameters := [.int], returnType := some .int }, accessFlags := 1, code := some k2c21 }
def k2c22 : Code := { maxStack := 2, maxLocals := 2, code := prog_1_method_24_code, exceptionTable := #[], attributes := #[] }
def k2m22 : Method := { name := "resultValue", desc := "(I)I", sig := { parameters := [.int], returnType := some .int }, accessFlags := 1, code := some k2c22 }
def k2c23 : Code := { maxStack := 1, maxLocals := 1, code := prog_1_method_26_code, exceptionTable := #[], attributes := #[] }
def k2m23 : Method := { name := "combiner", desc := "()I", sig := { parameters := [], returnType := some .int }, accessFlags := 1, code := some k2c23 }
def k2c24 : Code := { maxStack := 1, maxLocals := 1, code := prog_1_method_31_code, exceptionTable := #[], attributes := #[] }
def k2m24 : Method := { name := "size", desc := "()I", sig := { parameters := [], returnType := some .int }, accessFlags := 1, code := some k2c24 }
def k2c25 : Code := { maxStack := 2, maxLocals := 1, code := prog_1_method_32_code, exceptionTable := #[], attributes := #[] }
def k2m25 : Method := { name := "peekMin", desc := "()I", sig := { parameters := [], returnType := some .int }, accessFlags := 1, code := some k2c25 }
def k2c26 : Code := { maxStack := 1, maxLocals := 1, code := prog_1_method_33_code, exceptionTable := #[], attributes := #[] }
def k2m26 : Method := { name := "passes", desc := "()I", sig := { parameters := [], returnType := some .int }, accessFlags := 1, code := some k2c26 }
def k2c27 : Code := { maxStack := 1, maxLocals := 1, code := prog_1_method_34_code, exceptionTable := #[], attributes := #[] }
def k2m27 : Method := { name := "appliedCount", desc := "()I", sig := { parameters := [], returnType := some .int }, accessFlags := 1, code := some k2c27 }
/-- FlatCombiner -/
def k2 : Class := { plain "FlatCombiner" (some 0) with
  accessFlags := 49
  interfaces := #[]
  cf := some (fileOf pool2 8 #[] #[{ accessFlags := 1, nameIndex := 5, descriptorIndex := 178, attributes := #[] }, { accessFlags := 2, nameIndex := 62, descriptorIndex := 63, attributes := #[] }, { accessFlags := 2, nameIndex := 75, descriptorIndex := 76, attributes := #[] }, { accessFlags := 1, nameIndex := 182, descriptorIndex := 183, attributes := #[] }, { accessFlags := 1, nameIndex := 139, descriptorIndex := 80, attributes := #[] }, { accessFlags := 2, nameIndex := 79, descriptorIndex := 80, attributes := #[] }, { accessFlags := 2, nameIndex := 83, descriptorIndex := 80, attributes := #[] }, { accessFlags := 2, nameIndex := 86, descriptorIndex := 80, attributes := #[] }, { accessFlags := 2, nameIndex := 89, descriptorIndex := 80, attributes := #[] }, { accessFlags := 2, nameIndex := 105, descriptorIndex := 80, attributes := #[] }, { accessFlags := 2, nameIndex := 102, descriptorIndex := 93, attributes := #[] }, { accessFlags := 2, nameIndex := 111, descriptorIndex := 93, attributes := #[] }, { accessFlags := 2, nameIndex := 117, descriptorIndex := 93, attributes := #[] }, { accessFlags := 2, nameIndex := 120, descriptorIndex := 93, attributes := #[] }, { accessFlags := 2, nameIndex := 129, descriptorIndex := 93, attributes := #[] }, { accessFlags := 2, nameIndex := 132, descriptorIndex := 6, attributes := #[] }, { accessFlags := 2, nameIndex := 135, descriptorIndex := 136, attributes := #[] }, { accessFlags := 2, nameIndex := 92, descriptorIndex := 93, attributes := #[] }, { accessFlags := 2, nameIndex := 108, descriptorIndex := 80, attributes := #[] }, { accessFlags := 1, nameIndex := 184, descriptorIndex := 185, attributes := #[] }, { accessFlags := 1, nameIndex := 25, descriptorIndex := 80, attributes := #[] }, { accessFlags := 1, nameIndex := 186, descriptorIndex := 80, attributes := #[] }, { accessFlags := 1, nameIndex := 187, descriptorIndex := 80, attributes := #[] }, { accessFlags := 1, nameIndex := 189, descriptorIndex := 185, attributes := #[] }, { accessFlags := 1, nameIndex := 194, descriptorIndex := 185, attributes := #[] }, { accessFlags := 1, nameIndex := 195, descriptorIndex := 185, attributes := #[] }, { accessFlags := 1, nameIndex := 196, descriptorIndex := 185, attributes := #[] }, { accessFlags := 1, nameIndex := 197, descriptorIndex := 185, attributes := #[] }] 49 2 #[] #[{ accessFlags := 25, nameIndex := 140, descriptorIndex := 16, attributes := #[] }, { accessFlags := 25, nameIndex := 143, descriptorIndex := 16, attributes := #[] }, { accessFlags := 25, nameIndex := 145, descriptorIndex := 16, attributes := #[] }, { accessFlags := 25, nameIndex := 147, descriptorIndex := 16, attributes := #[] }, { accessFlags := 25, nameIndex := 148, descriptorIndex := 16, attributes := #[] }, { accessFlags := 25, nameIndex := 149, descriptorIndex := 16, attributes := #[] }, { accessFlags := 25, nameIndex := 150, descriptorIndex := 16, attributes := #[] }, { accessFlags := 25, nameIndex := 152, descriptorIndex := 16, attributes := #[] }, { accessFlags := 25, nameIndex := 154, descriptorIndex := 16, attributes := #[] }, { accessFlags := 25, nameIndex := 155, descriptorIndex := 16, attributes := #[] }, { accessFlags := 25, nameIndex := 156, descriptorIndex := 16, attributes := #[] }, { accessFlags := 25, nameIndex := 157, descriptorIndex := 16, attributes := #[] }, { accessFlags := 25, nameIndex := 158, descriptorIndex := 16, attributes := #[] }, { accessFlags := 25, nameIndex := 160, descriptorIndex := 16, attributes := #[] }, { accessFlags := 25, nameIndex := 161, descriptorIndex := 16, attributes := #[] }, { accessFlags := 25, nameIndex := 162, descriptorIndex := 16, attributes := #[] }, { accessFlags := 25, nameIndex := 163, descriptorIndex := 16, attributes := #[] }, { accessFlags := 25, nameIndex := 164, descriptorIndex := 16, attributes := #[] }, { accessFlags := 25, nameIndex := 166, descriptorIndex := 16, attributes := #[] }, { accessFlags := 25, nameIndex := 168, descriptorIndex := 16, attributes := #[] }, { accessFlags := 25, nameIndex := 170, descriptorIndex := 16, attributes := #[] }, { accessFlags := 25, nameIndex := 172, descriptorIndex := 16, attributes := #[] }, { accessFlags := 25, nameIndex := 174, descriptorIndex := 16, attributes := #[] }, { accessFlags := 25, nameIndex := 176, descriptorIndex := 16, attributes := #[] }, { accessFlags := 2, nameIndex := 66, descriptorIndex := 16, attributes := #[] }, { accessFlags := 2, nameIndex := 69, descriptorIndex := 16, attributes := #[] }, { accessFlags := 2, nameIndex := 72, descriptorIndex := 16, attributes := #[] }, { accessFlags := 2, nameIndex := 11, descriptorIndex := 12, attributes := #[] }, { accessFlags := 2, nameIndex := 126, descriptorIndex := 16, attributes := #[] }, { accessFlags := 2, nameIndex := 15, descriptorIndex := 16, attributes := #[] }, { accessFlags := 2, nameIndex := 96, descriptorIndex := 16, attributes := #[] }, { accessFlags := 2, nameIndex := 123, descriptorIndex := 16, attributes := #[] }, { accessFlags := 2, nameIndex := 19, descriptorIndex := 12, attributes := #[] }, { accessFlags := 2, nameIndex := 99, descriptorIndex := 16, attributes := #[] }, { accessFlags := 2, nameIndex := 22, descriptorIndex := 16, attributes := #[] }, { accessFlags := 2, nameIndex := 25, descriptorIndex := 12, attributes := #[] }, { accessFlags := 2, nameIndex := 28, descriptorIndex := 12, attributes := #[] }, { accessFlags := 2, nameIndex := 31, descriptorIndex := 12, attributes := #[] }, { accessFlags := 2, nameIndex := 34, descriptorIndex := 12, attributes := #[] }, { accessFlags := 2, nameIndex := 37, descriptorIndex := 12, attributes := #[] }, { accessFlags := 2, nameIndex := 40, descriptorIndex := 41, attributes := #[] }, { accessFlags := 2, nameIndex := 44, descriptorIndex := 12, attributes := #[] }, { accessFlags := 2, nameIndex := 47, descriptorIndex := 12, attributes := #[] }, { accessFlags := 2, nameIndex := 50, descriptorIndex := 41, attributes := #[] }, { accessFlags := 2, nameIndex := 53, descriptorIndex := 12, attributes := #[] }, { accessFlags := 2, nameIndex := 56, descriptorIndex := 12, attributes := #[] }, { accessFlags := 2, nameIndex := 59, descriptorIndex := 12, attributes := #[] }])
  fields := #[{ name := "REQ_NONE", type := .int, accessFlags := 25, slot := 0, constantValue := 0 }, { name := "OP_INSERT", type := .int, accessFlags := 25, slot := 1, constantValue := 0 }, { name := "OP_DELETE_MIN", type := .int, accessFlags := 25, slot := 2, constantValue := 0 }, { name := "PH_IDLE", type := .int, accessFlags := 25, slot := 3, constantValue := 0 }, { name := "PH_PUBLISH", type := .int, accessFlags := 25, slot := 4, constantValue := 0 }, { name := "PH_TRY_LOCK", type := .int, accessFlags := 25, slot := 5, constantValue := 0 }, { name := "PH_SPIN", type := .int, accessFlags := 25, slot := 6, constantValue := 0 }, { name := "PH_COMBINE", type := .int, accessFlags := 25, slot := 7, constantValue := 0 }, { name := "RES_NONE", type := .int, accessFlags := 25, slot := 8, constantValue := 0 }, { name := "RES_OK", type := .int, accessFlags := 25, slot := 9, constantValue := 0 }, { name := "RES_FULL", type := .int, accessFlags := 25, slot := 10, constantValue := 0 }, { name := "RES_EMPTY", type := .int, accessFlags := 25, slot := 11, constantValue := 0 }, { name := "ACT_REFUSED", type := .int, accessFlags := 25, slot := 12, constantValue := 0 }, { name := "ACT_PUBLISH", type := .int, accessFlags := 25, slot := 13, constantValue := 0 }, { name := "ACT_ENLIST", type := .int, accessFlags := 25, slot := 14, constantValue := 0 }, { name := "ACT_LOCKED", type := .int, accessFlags := 25, slot := 15, constantValue := 0 }, { name := "ACT_LOCK_BUSY", type := .int, accessFlags := 25, slot := 16, constantValue := 0 }, { name := "ACT_DONE", type := .int, accessFlags := 25, slot := 17, constantValue := 0 }, { name := "ACT_RETRY", type := .int, accessFlags := 25, slot := 18, constantValue := 0 }, { name := "ACT_WAIT", type := .int, accessFlags := 25, slot := 19, constantValue := 0 }, { name := "ACT_SERVE", type := .int, accessFlags := 25, slot := 20, constantValue := 0 }, { name := "ACT_AGE_OUT", type := .int, accessFlags := 25, slot := 21, constantValue := 0 }, { name := "ACT_SKIP", type := .int, accessFlags := 25, slot := 22, constantValue := 0 }, { name := "ACT_PASS_END", type := .int, accessFlags := 25, slot := 23, constantValue := 0 }, { name := "n", type := .int, accessFlags := 2, slot := 0, constantValue := 0 }, { name := "cap", type := .int, accessFlags := 2, slot := 1, constantValue := 0 }, { name := "age", type := .int, accessFlags := 2, slot := 2, constantValue := 0 }, { name := "heap", type := (.array .int), accessFlags := 2, slot := 3, constantValue := 0 }, { name := "heapSize", type := .int, accessFlags := 2, slot := 4, constantValue := 0 }, { name := "lock", type := .int, accessFlags := 2, slot := 5, constantValue := 0 }, { name := "pass", type := .int, accessFlags := 2, slot := 6, constantValue := 0 }, { name := "applied", type := .int, accessFlags := 2, slot := 7, constantValue := 0 }, { name := "list", type := (.array .int), accessFlags := 2, slot := 8, constantValue := 0 }, { name := "listLen", type := .int, accessFlags := 2, slot := 9, constantValue := 0 }, { name := "cursor", type := .int, accessFlags := 2, slot := 10, constantValue := 0 }, { name := "phase", type := (.array .int), accessFlags := 2, slot := 11, constantValue := 0 }, { name := "opKind", type := (.array .int), accessFlags := 2, slot := 12, constantValue := 0 }, { name := "opVal", type := (.array .int), accessFlags := 2, slot := 13, constantValue := 0 }, { name := "resStatus", type := (.array .int), accessFlags := 2, slot := 14, constantValue := 0 }, { name := "resVal", type := (.array .int), accessFlags := 2, slot := 15, constantValue := 0 }, { name := "enlisted", type := (.array .boolean), accessFlags := 2, slot := 16, constantValue := 0 }, { name := "reqKind", type := (.array .int), accessFlags := 2, slot := 17, constantValue := 0 }, { name := "reqVal", type := (.array .int), accessFlags := 2, slot := 18, constantValue := 0 }, { name := "ready", type := (.array .boolean), accessFlags := 2, slot := 19, constantValue := 0 }, { name := "respStatus", type := (.array .int), accessFlags := 2, slot := 20, constantValue := 0 }, { name := "respVal", type := (.array .int), accessFlags := 2, slot := 21, constantValue := 0 }, { name := "stamp", type := (.array .int), accessFlags := 2, slot := 22, constantValue := 0 }]
  methods := #[k2m0, k2m1, k2m2, k2m3, k2m4, k2m5, k2m6, k2m7, k2m8, k2m9, k2m10, k2m11, k2m12, k2m13, k2m14, k2m15, k2m16, k2m17, k2m18, k2m19, k2m20, k2m21, k2m22, k2m23, k2m24, k2m25, k2m26, k2m27]
  instanceTypes := #[.int, .int, .int, (.array .int), .int, .int, .int, .int, (.array .int), .int, .int, (.array .int), (.array .int), (.array .int), (.array .int), (.array .int), (.array .boolean), (.array .int), (.array .int), (.array .boolean), (.array .int), (.array .int), (.array .int)]
  staticTypes := #[.int, .int, .int, .int, .int, .int, .int, .int, .int, .int, .int, .int, .int, .int, .int, .int, .int, .int, .int, .int, .int, .int, .int, .int]
  resolved := Array.replicate 200 none
  statics := none }

def pool3 : Array CpInfo := pool [(1, u "java/lang/Cloneable"), (0, .class_ 1), (0, u "java/lang/Object"), (0, .class_ 3)] 3

/-- java/lang/Cloneable -/
def k3 : Class := { plain "java/lang/Cloneable" (some 0) with
  accessFlags := 1537
  interfaces := #[]
  cf := some (fileOf pool3 2 #[] #[] 1537 4 #[] #[])
  fields := #[]
  methods := #[]
  instanceTypes := #[]
  staticTypes := #[]
  resolved := Array.replicate 8 none
  statics := none }

def pool4 : Array CpInfo := pool [(1, u "java/io/Serializable"), (0, .class_ 1), (0, u "java/lang/Object"), (0, .class_ 3)] 3

/-- java/io/Serializable -/
def k4 : Class := { plain "java/io/Serializable" (some 0) with
  accessFlags := 1537
  interfaces := #[]
  cf := some (fileOf pool4 2 #[] #[] 1537 4 #[] #[])
  fields := #[]
  methods := #[]
  instanceTypes := #[]
  staticTypes := #[]
  resolved := Array.replicate 8 none
  statics := none }

/-- the primitive boolean -/
def k5 : Class := { plain "boolean" none with kind := .primitive 'Z', accessFlags := 0x411 }
/-- [Z -/
def k6 : Class := { plain "[Z" (some 0) with kind := .array 5 .boolean, interfaces := #[3, 4], accessFlags := 1041 }

/-- the primitive byte -/
def k7 : Class := { plain "byte" none with kind := .primitive 'B', accessFlags := 0x411 }
/-- [B -/
def k8 : Class := { plain "[B" (some 0) with kind := .array 7 .byte, interfaces := #[3, 4], accessFlags := 1041 }

/-- the primitive int -/
def k9 : Class := { plain "int" none with kind := .primitive 'I', accessFlags := 0x411 }
/-- [I -/
def k10 : Class := { plain "[I" (some 0) with kind := .array 9 .int, interfaces := #[3, 4], accessFlags := 1041 }

def heap : Heap := #[]
def classes : Array Class := #[k0, k1, k2, k3, k4, k5, k6, k7, k8, k9, k10]
def interned : List (Array UInt16 × Addr) := []
def slotsUsed : Nat := 0
def theMethod : MethodId := ⟨1, 1⟩
def args0 : Array Value := #[.int 1, .int 1, .int 1, .int 1, .int 1]
def aboutOver (below : List Frame) : State where
  vm := { classes := classes, interned := interned.toArray }
  heap := heap
  slotsUsed := slotsUsed
  threads := #[{ frames := .invoking theMethod args0 :: below }]
def below0 : List Frame := [.native { method := ⟨0, 0⟩, args := #[] }]
def about1 : State := aboutOver below0
def p0 : Program := .bare "" "" ""
def e0 : Env := launch0.env 0 0 0
theorem w_frames : about1.frames = Frame.invoking theMethod args0 :: below0 := rfl
set_option maxRecDepth 65536 in
theorem w_args : argsFit about1.vm theMethod args0 = true := by decide +kernel
set_option maxRecDepth 65536 in
theorem w_heap : heapFits about1 = true := by decide +kernel
set_option maxRecDepth 65536 in
theorem w_runnable : about1.curStatus? = some .runnable := by decide +kernel
set_option maxRecDepth 65536 in
theorem w_alone : about1.alone = true := by decide +kernel
set_option maxRecDepth 65536 in
theorem w_named : about1.methodNamed? x = some theMethod := by decide +kernel
set_option maxRecDepth 65536 in
theorem w_hears : about1.hears theMethod below0 = true := by decide +kernel
set_option maxRecDepth 65536 in
theorem w_ripe : about1.ripe theMethod args0 below0 = true := by decide +kernel
theorem w_running : about1.status = .running := rfl
set_option maxRecDepth 65536 in
theorem w_room : about1.hasRoom e0.platform room_1 = true :=
  launch0.hasRoom_least _ room_1 (by decide +kernel) (by decide +kernel) (by decide +kernel) (by decide +kernel) (by decide +kernel) (by decide +kernel)
theorem allAtoms_all (ts : List Jvm.Cond) (a : Array Jvm.Value) (st : Jvm.State) : (allAtoms ts).before a st = ts.all (fun c => c.before a st) := by
  induction ts with
  | nil => rfl
  | cons c t ih =>
    show (Jvm.Cond.and c (allAtoms t)).before a st = _
    rw [Jvm.Cond.before_and, ih, List.all_cons]
def words1 : List Jvm.Cond := Jvm.Cond.code x code maxLocals ret :: tables_1
/-- a 'code' word, met by the world's own term for the bytes: nothing is compared byte by byte -/
theorem code_word {y : MethodName} {bytes : ByteArray} {mx : Nat} {rt : Option FieldType} {a : Array Value} {s : State} {m : MethodId} {meth : Method} {c : Code} (h1 : s.methodNamed? y = some m) (h2 : s.vm.method? m = some meth) (h3 : meth.code = some c) (h4 : c.code = bytes)
    (h5 : (c.maxLocals == mx && c.exceptionTable.isEmpty && decide (c.maxStack ≤ mostOperands) && decide (meth.sig.returnType = rt) && !meth.locks && decide (parseMethodDescriptor y.desc = some meth.sig)) = true) : (Jvm.Cond.code y bytes mx rt).before a s = true := by
  simp only [Bool.and_eq_true, beq_iff_eq, Bool.not_eq_true', decide_eq_true_eq] at h5
  obtain ⟨⟨⟨⟨⟨g1, g2⟩, g3⟩, g4⟩, g5⟩, g6⟩ := h5
  simp [Cond.before, Cond.holds, Cond.value, h1, h2, h3, h4, g1, g2, g3, g4, g5, g6]
def isCode : Jvm.Cond → Bool
  | .code _ _ _ _ => true
  | _ => false
theorem all_split {L : List Jvm.Cond} {P : Jvm.Cond → Bool} (h1 : L.all (fun c => isCode c || P c) = true) (h2 : ∀ c ∈ L.filter isCode, P c = true) : L.all P = true := by
  refine List.all_eq_true.mpr fun c hc => ?_
  have h := List.all_eq_true.mp h1 c hc
  rcases Bool.eq_false_or_eq_true (isCode c) with hi | hi
  · exact h2 c (List.mem_filter.mpr ⟨hc, hi⟩)
  · simpa [hi] using h
set_option maxRecDepth 65536 in
theorem w_c0 : (Jvm.Cond.code x code maxLocals ret).before args0 about1 = true := code_word (m := ⟨1, 1⟩) (meth := k1m1) (c := k1c1) (by decide +kernel) rfl rfl rfl (by decide +kernel)
set_option maxRecDepth 65536 in
theorem w_c1 : (Jvm.Cond.code ({ cls := "FlatCombiner", name := "<init>", desc := "(III)V" } : Jvm.MethodName) prog_1_method_1_code (4 : Nat) (Option.none : Option Jvm.ClassFile.FieldType)).before args0 about1 = true := code_word (m := ⟨2, 0⟩) (meth := k2m0) (c := k2c0) (by decide +kernel) rfl rfl rfl (by decide +kernel)
set_option maxRecDepth 65536 in
theorem w_c2 : (Jvm.Cond.code ({ cls := "java/lang/Object", name := "<init>", desc := "()V" } : Jvm.MethodName) object_method_1_code (1 : Nat) (Option.none : Option Jvm.ClassFile.FieldType)).before args0 about1 = true := code_word (m := ⟨0, 0⟩) (meth := k0m0) (c := k0c0) (by decide +kernel) rfl rfl rfl (by decide +kernel)
set_option maxRecDepth 65536 in
theorem w_c3 : (Jvm.Cond.code ({ cls := "FlatCombiner", name := "clamp", desc := "(III)I" } : Jvm.MethodName) prog_1_method_2_code (4 : Nat) (Option.some Jvm.ClassFile.FieldType.int)).before args0 about1 = true := code_word (m := ⟨2, 1⟩) (meth := k2m1) (c := k2c1) (by decide +kernel) rfl rfl rfl (by decide +kernel)
set_option maxRecDepth 65536 in
theorem w_c4 : (Jvm.Cond.code ({ cls := "FlatCombiner", name := "submit", desc := "(III)Z" } : Jvm.MethodName) prog_1_method_4_code (4 : Nat) (Option.some Jvm.ClassFile.FieldType.boolean)).before args0 about1 = true := code_word (m := ⟨2, 3⟩) (meth := k2m3) (c := k2c3) (by decide +kernel) rfl rfl rfl (by decide +kernel)
set_option maxRecDepth 65536 in
theorem w_c5 : (Jvm.Cond.code ({ cls := "FlatCombiner", name := "valid", desc := "(I)Z" } : Jvm.MethodName) prog_1_method_3_code (2 : Nat) (Option.some Jvm.ClassFile.FieldType.boolean)).before args0 about1 = true := code_word (m := ⟨2, 2⟩) (meth := k2m2) (c := k2c2) (by decide +kernel) rfl rfl rfl (by decide +kernel)
set_option maxRecDepth 65536 in
theorem w_c6 : (Jvm.Cond.code ({ cls := "FlatCombinerL3", name := "fiveRounds", desc := "(LFlatCombiner;)Z" } : Jvm.MethodName) method_3_code (6 : Nat) (Option.some Jvm.ClassFile.FieldType.boolean)).before args0 about1 = true := code_word (m := ⟨1, 2⟩) (meth := k1m2) (c := k1c2) (by decide +kernel) rfl rfl rfl (by decide +kernel)
set_option maxRecDepth 65536 in
theorem w_c7 : (Jvm.Cond.code ({ cls := "FlatCombiner", name := "round", desc := "()I" } : Jvm.MethodName) prog_1_method_21_code (3 : Nat) (Option.some Jvm.ClassFile.FieldType.int)).before args0 about1 = true := code_word (m := ⟨2, 19⟩) (meth := k2m19) (c := k2c19) (by decide +kernel) rfl rfl rfl (by decide +kernel)
set_option maxRecDepth 65536 in
theorem w_c8 : (Jvm.Cond.code ({ cls := "FlatCombiner", name := "step", desc := "(I)I" } : Jvm.MethodName) prog_1_method_5_code (3 : Nat) (Option.some Jvm.ClassFile.FieldType.int)).before args0 about1 = true := code_word (m := ⟨2, 4⟩) (meth := k2m4) (c := k2c4) (by decide +kernel) rfl rfl rfl (by decide +kernel)
set_option maxRecDepth 65536 in
theorem w_c9 : (Jvm.Cond.code ({ cls := "FlatCombiner", name := "stepPublish", desc := "(I)I" } : Jvm.MethodName) prog_1_method_6_code (2 : Nat) (Option.some Jvm.ClassFile.FieldType.int)).before args0 about1 = true := code_word (m := ⟨2, 5⟩) (meth := k2m5) (c := k2c5) (by decide +kernel) rfl rfl rfl (by decide +kernel)
set_option maxRecDepth 65536 in
theorem w_c10 : (Jvm.Cond.code ({ cls := "FlatCombiner", name := "pushFront", desc := "(I)V" } : Jvm.MethodName) prog_1_method_18_code (3 : Nat) (Option.none : Option Jvm.ClassFile.FieldType)).before args0 about1 = true := code_word (m := ⟨2, 17⟩) (meth := k2m17) (c := k2c17) (by decide +kernel) rfl rfl rfl (by decide +kernel)
set_option maxRecDepth 65536 in
theorem w_c11 : (Jvm.Cond.code ({ cls := "FlatCombiner", name := "stepTryLock", desc := "(I)I" } : Jvm.MethodName) prog_1_method_7_code (2 : Nat) (Option.some Jvm.ClassFile.FieldType.int)).before args0 about1 = true := code_word (m := ⟨2, 6⟩) (meth := k2m6) (c := k2c6) (by decide +kernel) rfl rfl rfl (by decide +kernel)
set_option maxRecDepth 65536 in
theorem w_c12 : (Jvm.Cond.code ({ cls := "FlatCombiner", name := "stepCombine", desc := "(I)I" } : Jvm.MethodName) prog_1_method_9_code (6 : Nat) (Option.some Jvm.ClassFile.FieldType.int)).before args0 about1 = true := code_word (m := ⟨2, 8⟩) (meth := k2m8) (c := k2c8) (by decide +kernel) rfl rfl rfl (by decide +kernel)
set_option maxRecDepth 65536 in
theorem w_c13 : (Jvm.Cond.code ({ cls := "FlatCombiner", name := "indexOf", desc := "(I)I" } : Jvm.MethodName) prog_1_method_20_code (3 : Nat) (Option.some Jvm.ClassFile.FieldType.int)).before args0 about1 = true := code_word (m := ⟨2, 18⟩) (meth := k2m18) (c := k2c18) (by decide +kernel) rfl rfl rfl (by decide +kernel)
set_option maxRecDepth 65536 in
theorem w_c14 : (Jvm.Cond.code ({ cls := "FlatCombiner", name := "serve", desc := "(I)V" } : Jvm.MethodName) prog_1_method_12_code (2 : Nat) (Option.none : Option Jvm.ClassFile.FieldType)).before args0 about1 = true := code_word (m := ⟨2, 11⟩) (meth := k2m11) (c := k2c11) (by decide +kernel) rfl rfl rfl (by decide +kernel)
set_option maxRecDepth 65536 in
theorem w_c15 : (Jvm.Cond.code ({ cls := "FlatCombiner", name := "applyInsert", desc := "(I)V" } : Jvm.MethodName) prog_1_method_13_code (3 : Nat) (Option.none : Option Jvm.ClassFile.FieldType)).before args0 about1 = true := code_word (m := ⟨2, 12⟩) (meth := k2m12) (c := k2c12) (by decide +kernel) rfl rfl rfl (by decide +kernel)
set_option maxRecDepth 65536 in
theorem w_c16 : (Jvm.Cond.code ({ cls := "FlatCombiner", name := "siftUp", desc := "(I)V" } : Jvm.MethodName) prog_1_method_15_code (5 : Nat) (Option.none : Option Jvm.ClassFile.FieldType)).before args0 about1 = true := code_word (m := ⟨2, 14⟩) (meth := k2m14) (c := k2c14) (by decide +kernel) rfl rfl rfl (by decide +kernel)
set_option maxRecDepth 65536 in
theorem w_c17 : (Jvm.Cond.code ({ cls := "FlatCombiner", name := "stepSpin", desc := "(I)I" } : Jvm.MethodName) prog_1_method_8_code (2 : Nat) (Option.some Jvm.ClassFile.FieldType.int)).before args0 about1 = true := code_word (m := ⟨2, 7⟩) (meth := k2m7) (c := k2c7) (by decide +kernel) rfl rfl rfl (by decide +kernel)
set_option maxRecDepth 65536 in
theorem w_c18 : (Jvm.Cond.code ({ cls := "FlatCombiner", name := "take", desc := "(I)V" } : Jvm.MethodName) prog_1_method_11_code (2 : Nat) (Option.none : Option Jvm.ClassFile.FieldType)).before args0 about1 = true := code_word (m := ⟨2, 10⟩) (meth := k2m10) (c := k2c10) (by decide +kernel) rfl rfl rfl (by decide +kernel)
set_option maxRecDepth 65536 in
theorem w_c19 : (Jvm.Cond.code ({ cls := "FlatCombiner", name := "endPass", desc := "(I)I" } : Jvm.MethodName) prog_1_method_10_code (2 : Nat) (Option.some Jvm.ClassFile.FieldType.int)).before args0 about1 = true := code_word (m := ⟨2, 9⟩) (meth := k2m9) (c := k2c9) (by decide +kernel) rfl rfl rfl (by decide +kernel)
set_option maxRecDepth 65536 in
theorem w_c20 : (Jvm.Cond.code ({ cls := "FlatCombiner", name := "resultStatus", desc := "(I)I" } : Jvm.MethodName) prog_1_method_23_code (2 : Nat) (Option.some Jvm.ClassFile.FieldType.int)).before args0 about1 = true := code_word (m := ⟨2, 21⟩) (meth := k2m21) (c := k2c21) (by decide +kernel) rfl rfl rfl (by decide +kernel)
set_option maxRecDepth 65536 in
theorem w_c21 : (Jvm.Cond.code ({ cls := "FlatCombiner", name := "resultValue", desc := "(I)I" } : Jvm.MethodName) prog_1_method_24_code (2 : Nat) (Option.some Jvm.ClassFile.FieldType.int)).before args0 about1 = true := code_word (m := ⟨2, 22⟩) (meth := k2m22) (c := k2c22) (by decide +kernel) rfl rfl rfl (by decide +kernel)
set_option maxRecDepth 65536 in
theorem w_c22 : (Jvm.Cond.code ({ cls := "FlatCombiner", name := "size", desc := "()I" } : Jvm.MethodName) prog_1_method_31_code (1 : Nat) (Option.some Jvm.ClassFile.FieldType.int)).before args0 about1 = true := code_word (m := ⟨2, 24⟩) (meth := k2m24) (c := k2c24) (by decide +kernel) rfl rfl rfl (by decide +kernel)
set_option maxRecDepth 65536 in
theorem w_c23 : (Jvm.Cond.code ({ cls := "FlatCombiner", name := "peekMin", desc := "()I" } : Jvm.MethodName) prog_1_method_32_code (1 : Nat) (Option.some Jvm.ClassFile.FieldType.int)).before args0 about1 = true := code_word (m := ⟨2, 25⟩) (meth := k2m25) (c := k2c25) (by decide +kernel) rfl rfl rfl (by decide +kernel)
set_option maxRecDepth 65536 in
theorem w_c24 : (Jvm.Cond.code ({ cls := "FlatCombiner", name := "passes", desc := "()I" } : Jvm.MethodName) prog_1_method_33_code (1 : Nat) (Option.some Jvm.ClassFile.FieldType.int)).before args0 about1 = true := code_word (m := ⟨2, 26⟩) (meth := k2m26) (c := k2c26) (by decide +kernel) rfl rfl rfl (by decide +kernel)
set_option maxRecDepth 65536 in
theorem w_c25 : (Jvm.Cond.code ({ cls := "FlatCombiner", name := "phase", desc := "(I)I" } : Jvm.MethodName) prog_1_method_22_code (2 : Nat) (Option.some Jvm.ClassFile.FieldType.int)).before args0 about1 = true := code_word (m := ⟨2, 20⟩) (meth := k2m20) (c := k2c20) (by decide +kernel) rfl rfl rfl (by decide +kernel)
set_option maxRecDepth 65536 in
theorem w_c26 : (Jvm.Cond.code ({ cls := "FlatCombiner", name := "combiner", desc := "()I" } : Jvm.MethodName) prog_1_method_26_code (1 : Nat) (Option.some Jvm.ClassFile.FieldType.int)).before args0 about1 = true := code_word (m := ⟨2, 23⟩) (meth := k2m23) (c := k2c23) (by decide +kernel) rfl rfl rfl (by decide +kernel)
set_option maxRecDepth 65536 in
theorem w_c27 : (Jvm.Cond.code ({ cls := "FlatCombiner", name := "applyDeleteMin", desc := "(I)V" } : Jvm.MethodName) prog_1_method_14_code (3 : Nat) (Option.none : Option Jvm.ClassFile.FieldType)).before args0 about1 = true := code_word (m := ⟨2, 13⟩) (meth := k2m13) (c := k2c13) (by decide +kernel) rfl rfl rfl (by decide +kernel)
set_option maxRecDepth 65536 in
theorem w_c28 : (Jvm.Cond.code ({ cls := "FlatCombiner", name := "siftDown", desc := "()V" } : Jvm.MethodName) prog_1_method_16_code (6 : Nat) (Option.none : Option Jvm.ClassFile.FieldType)).before args0 about1 = true := code_word (m := ⟨2, 15⟩) (meth := k2m15) (c := k2c15) (by decide +kernel) rfl rfl rfl (by decide +kernel)
set_option maxRecDepth 65536 in
theorem w_c29 : (Jvm.Cond.code ({ cls := "FlatCombiner", name := "appliedCount", desc := "()I" } : Jvm.MethodName) prog_1_method_34_code (1 : Nat) (Option.some Jvm.ClassFile.FieldType.int)).before args0 about1 = true := code_word (m := ⟨2, 27⟩) (meth := k2m27) (c := k2c27) (by decide +kernel) rfl rfl rfl (by decide +kernel)
set_option maxRecDepth 65536 in
theorem w_c30 : (Jvm.Cond.code ({ cls := "FlatCombiner", name := "swap", desc := "(II)V" } : Jvm.MethodName) prog_1_method_17_code (4 : Nat) (Option.none : Option Jvm.ClassFile.FieldType)).before args0 about1 = true := code_word (m := ⟨2, 16⟩) (meth := k2m16) (c := k2c16) (by decide +kernel) rfl rfl rfl (by decide +kernel)
def codes1 : List Jvm.Cond := [Jvm.Cond.code x code maxLocals ret, Jvm.Cond.code ({ cls := "FlatCombiner", name := "<init>", desc := "(III)V" } : Jvm.MethodName) prog_1_method_1_code (4 : Nat) (Option.none : Option Jvm.ClassFile.FieldType), Jvm.Cond.code ({ cls := "java/lang/Object", name := "<init>", desc := "()V" } : Jvm.MethodName) object_method_1_code (1 : Nat) (Option.none : Option Jvm.ClassFile.FieldType), Jvm.Cond.code ({ cls := "FlatCombiner", name := "clamp", desc := "(III)I" } : Jvm.MethodName) prog_1_method_2_code (4 : Nat) (Option.some Jvm.ClassFile.FieldType.int), Jvm.Cond.code ({ cls := "FlatCombiner", name := "submit", desc := "(III)Z" } : Jvm.MethodName) prog_1_method_4_code (4 : Nat) (Option.some Jvm.ClassFile.FieldType.boolean), Jvm.Cond.code ({ cls := "FlatCombiner", name := "valid", desc := "(I)Z" } : Jvm.MethodName) prog_1_method_3_code (2 : Nat) (Option.some Jvm.ClassFile.FieldType.boolean), Jvm.Cond.code ({ cls := "FlatCombinerL3", name := "fiveRounds", desc := "(LFlatCombiner;)Z" } : Jvm.MethodName) method_3_code (6 : Nat) (Option.some Jvm.ClassFile.FieldType.boolean), Jvm.Cond.code ({ cls := "FlatCombiner", name := "round", desc := "()I" } : Jvm.MethodName) prog_1_method_21_code (3 : Nat) (Option.some Jvm.ClassFile.FieldType.int), Jvm.Cond.code ({ cls := "FlatCombiner", name := "step", desc := "(I)I" } : Jvm.MethodName) prog_1_method_5_code (3 : Nat) (Option.some Jvm.ClassFile.FieldType.int), Jvm.Cond.code ({ cls := "FlatCombiner", name := "stepPublish", desc := "(I)I" } : Jvm.MethodName) prog_1_method_6_code (2 : Nat) (Option.some Jvm.ClassFile.FieldType.int), Jvm.Cond.code ({ cls := "FlatCombiner", name := "pushFront", desc := "(I)V" } : Jvm.MethodName) prog_1_method_18_code (3 : Nat) (Option.none : Option Jvm.ClassFile.FieldType), Jvm.Cond.code ({ cls := "FlatCombiner", name := "stepTryLock", desc := "(I)I" } : Jvm.MethodName) prog_1_method_7_code (2 : Nat) (Option.some Jvm.ClassFile.FieldType.int), Jvm.Cond.code ({ cls := "FlatCombiner", name := "stepCombine", desc := "(I)I" } : Jvm.MethodName) prog_1_method_9_code (6 : Nat) (Option.some Jvm.ClassFile.FieldType.int), Jvm.Cond.code ({ cls := "FlatCombiner", name := "indexOf", desc := "(I)I" } : Jvm.MethodName) prog_1_method_20_code (3 : Nat) (Option.some Jvm.ClassFile.FieldType.int), Jvm.Cond.code ({ cls := "FlatCombiner", name := "serve", desc := "(I)V" } : Jvm.MethodName) prog_1_method_12_code (2 : Nat) (Option.none : Option Jvm.ClassFile.FieldType), Jvm.Cond.code ({ cls := "FlatCombiner", name := "applyInsert", desc := "(I)V" } : Jvm.MethodName) prog_1_method_13_code (3 : Nat) (Option.none : Option Jvm.ClassFile.FieldType), Jvm.Cond.code ({ cls := "FlatCombiner", name := "siftUp", desc := "(I)V" } : Jvm.MethodName) prog_1_method_15_code (5 : Nat) (Option.none : Option Jvm.ClassFile.FieldType), Jvm.Cond.code ({ cls := "FlatCombiner", name := "stepSpin", desc := "(I)I" } : Jvm.MethodName) prog_1_method_8_code (2 : Nat) (Option.some Jvm.ClassFile.FieldType.int), Jvm.Cond.code ({ cls := "FlatCombiner", name := "take", desc := "(I)V" } : Jvm.MethodName) prog_1_method_11_code (2 : Nat) (Option.none : Option Jvm.ClassFile.FieldType), Jvm.Cond.code ({ cls := "FlatCombiner", name := "endPass", desc := "(I)I" } : Jvm.MethodName) prog_1_method_10_code (2 : Nat) (Option.some Jvm.ClassFile.FieldType.int), Jvm.Cond.code ({ cls := "FlatCombiner", name := "resultStatus", desc := "(I)I" } : Jvm.MethodName) prog_1_method_23_code (2 : Nat) (Option.some Jvm.ClassFile.FieldType.int), Jvm.Cond.code ({ cls := "FlatCombiner", name := "resultValue", desc := "(I)I" } : Jvm.MethodName) prog_1_method_24_code (2 : Nat) (Option.some Jvm.ClassFile.FieldType.int), Jvm.Cond.code ({ cls := "FlatCombiner", name := "size", desc := "()I" } : Jvm.MethodName) prog_1_method_31_code (1 : Nat) (Option.some Jvm.ClassFile.FieldType.int), Jvm.Cond.code ({ cls := "FlatCombiner", name := "peekMin", desc := "()I" } : Jvm.MethodName) prog_1_method_32_code (1 : Nat) (Option.some Jvm.ClassFile.FieldType.int), Jvm.Cond.code ({ cls := "FlatCombiner", name := "passes", desc := "()I" } : Jvm.MethodName) prog_1_method_33_code (1 : Nat) (Option.some Jvm.ClassFile.FieldType.int), Jvm.Cond.code ({ cls := "FlatCombiner", name := "phase", desc := "(I)I" } : Jvm.MethodName) prog_1_method_22_code (2 : Nat) (Option.some Jvm.ClassFile.FieldType.int), Jvm.Cond.code ({ cls := "FlatCombiner", name := "combiner", desc := "()I" } : Jvm.MethodName) prog_1_method_26_code (1 : Nat) (Option.some Jvm.ClassFile.FieldType.int), Jvm.Cond.code ({ cls := "FlatCombiner", name := "applyDeleteMin", desc := "(I)V" } : Jvm.MethodName) prog_1_method_14_code (3 : Nat) (Option.none : Option Jvm.ClassFile.FieldType), Jvm.Cond.code ({ cls := "FlatCombiner", name := "siftDown", desc := "()V" } : Jvm.MethodName) prog_1_method_16_code (6 : Nat) (Option.none : Option Jvm.ClassFile.FieldType), Jvm.Cond.code ({ cls := "FlatCombiner", name := "appliedCount", desc := "()I" } : Jvm.MethodName) prog_1_method_34_code (1 : Nat) (Option.some Jvm.ClassFile.FieldType.int), Jvm.Cond.code ({ cls := "FlatCombiner", name := "swap", desc := "(II)V" } : Jvm.MethodName) prog_1_method_17_code (4 : Nat) (Option.none : Option Jvm.ClassFile.FieldType)]
set_option maxRecDepth 65536 in
theorem codes_eq : words1.filter isCode = codes1 := rfl
theorem w_codes : ∀ c ∈ words1.filter isCode, c.before args0 about1 = true := by
  rw [codes_eq]
  intro c hc
  simp only [codes1, List.mem_cons, List.not_mem_nil, or_false] at hc
  rcases hc with rfl | rfl | rfl | rfl | rfl | rfl | rfl | rfl | rfl | rfl | rfl | rfl | rfl | rfl | rfl | rfl | rfl | rfl | rfl | rfl | rfl | rfl | rfl | rfl | rfl | rfl | rfl | rfl | rfl | rfl | rfl
  · exact w_c0
  · exact w_c1
  · exact w_c2
  · exact w_c3
  · exact w_c4
  · exact w_c5
  · exact w_c6
  · exact w_c7
  · exact w_c8
  · exact w_c9
  · exact w_c10
  · exact w_c11
  · exact w_c12
  · exact w_c13
  · exact w_c14
  · exact w_c15
  · exact w_c16
  · exact w_c17
  · exact w_c18
  · exact w_c19
  · exact w_c20
  · exact w_c21
  · exact w_c22
  · exact w_c23
  · exact w_c24
  · exact w_c25
  · exact w_c26
  · exact w_c27
  · exact w_c28
  · exact w_c29
  · exact w_c30
set_option maxRecDepth 65536 in
theorem w_t1 : (words1.take 24).all (fun c => isCode c || c.before args0 about1) = true := by decide +kernel
set_option maxRecDepth 65536 in
theorem w_t2 : ((words1.drop 24).take 24).all (fun c => isCode c || c.before args0 about1) = true := by decide +kernel
set_option maxRecDepth 65536 in
theorem w_t3 : (((words1.drop 24).drop 24).take 24).all (fun c => isCode c || c.before args0 about1) = true := by decide +kernel
set_option maxRecDepth 65536 in
theorem w_t4 : ((((words1.drop 24).drop 24).drop 24).take 24).all (fun c => isCode c || c.before args0 about1) = true := by decide +kernel
set_option maxRecDepth 65536 in
theorem w_t5 : (((((words1.drop 24).drop 24).drop 24).drop 24).take 24).all (fun c => isCode c || c.before args0 about1) = true := by decide +kernel
set_option maxRecDepth 65536 in
theorem w_t6 : ((((((words1.drop 24).drop 24).drop 24).drop 24).drop 24).take 24).all (fun c => isCode c || c.before args0 about1) = true := by decide +kernel
set_option maxRecDepth 65536 in
theorem w_t7 : (((((((words1.drop 24).drop 24).drop 24).drop 24).drop 24).drop 24).take 24).all (fun c => isCode c || c.before args0 about1) = true := by decide +kernel
set_option maxRecDepth 65536 in
theorem w_t8 : (((((((words1.drop 24).drop 24).drop 24).drop 24).drop 24).drop 24).drop 24).all (fun c => isCode c || c.before args0 about1) = true := by decide +kernel
theorem w_tables : (allAtoms (Jvm.Cond.code x code maxLocals ret :: tables_1)).before args0 about1 = true := by
  rw [allAtoms_all]
  show words1.all (fun c => c.before args0 about1) = true
  refine all_split ?_ w_codes
  rw [← List.take_append_drop 24 words1, List.all_append, w_t1, ← List.take_append_drop 24 (words1.drop 24), List.all_append, w_t2, ← List.take_append_drop 24 ((words1.drop 24).drop 24), List.all_append, w_t3, ← List.take_append_drop 24 (((words1.drop 24).drop 24).drop 24), List.all_append, w_t4, ← List.take_append_drop 24 ((((words1.drop 24).drop 24).drop 24).drop 24), List.all_append, w_t5, ← List.take_append_drop 24 (((((words1.drop 24).drop 24).drop 24).drop 24).drop 24), List.all_append, w_t6, ← List.take_append_drop 24 ((((((words1.drop 24).drop 24).drop 24).drop 24).drop 24).drop 24), List.all_append, w_t7, w_t8]
  rfl
set_option maxRecDepth 65536 in
theorem w_case : (Jvm.Cond.and given_1 narrow_1).before args0 about1 = true := by decide +kernel
theorem w_applies : (headSpec (Jvm.Cond.code x code maxLocals ret :: tables_1) room_1).applies x e0.platform about1 = true :=
  (Spec.applies_iff w_frames).mpr ⟨w_running, w_runnable, w_alone, w_named, w_hears, w_ripe, w_room, w_tables⟩
theorem atStart : AtStart classFile x code maxLocals ret World_1 tables_1 room_1 Calls_1 rest_1 Pre_1 launch0 p0 e0 about1 theMethod args0 below0 :=
  ⟨lists_1, trivial, launch0.admits_env _ _ _, launch0.least_env, fairChoices_fair.cas, fairChoices_fair.clock, w_frames, w_args, w_heap, w_applies, trivial, trivial, w_case⟩
end start1
theorem witness_1 : WitnessClaimed_1 := ⟨start1.p0, start1.e0, start1.about1, start1.theMethod, start1.args0, start1.below0, start1.atStart⟩
end Jvm.Pilot.@@N@@
