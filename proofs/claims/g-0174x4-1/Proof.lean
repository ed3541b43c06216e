import JvmDerived
import JvmDerived.Pilot.@@N@@Statement
import JvmDerived.Pilot.@@N@@Code
set_option linter.unusedVariables false
set_option linter.unusedSimpArgs false
/-! # A small executor over an abstract heap, and that it is sound for the model (Stand's family). Same text in every claim. -/
namespace Jvm.OwnX
open Sem ClassFile Op Lib Jvm.Stand Jvm.Free Jvm.LawKit Jvm.RoadKit
/-- a cell: an object's fields; an array of ints (0: handed in; 1), booleans (2), bytes (3); an array of longs -/
abbrev ACell := Sum (List Value) (Sum (Nat × List Int32) (List Int64))
abbrev AHeap := List ACell
abbrev ALoc := List (Option Value)
/-- a method: class, maxLocals, how many it pops, what it returns, is it a constructor, frames, locals -/
abbrev MI := Nat × Nat × Nat × Option FieldType × Bool × Nat × Nat
/-- code | methods | method links (kind, callee) | field links | constants | fields (name, descriptor, kind, final) | slots of an object | read-only cells | cells at most | slots at most -/
def Prog : Type := (Nat → Nat → Option (Instr × Nat)) × (Nat → MI) × (Nat → Nat → Option (Nat × Nat)) × (Nat → Nat → Option Nat) × (Nat → Nat → Option Value) × List (String × String × Nat × Bool) × Nat × Nat × Nat × Nat
def Prog.code (P : Prog) : Nat → Nat → Option (Instr × Nat) := P.1
def Prog.mi (P : Prog) : Nat → MI := P.2.1
def Prog.link (P : Prog) : Nat → Nat → Option (Nat × Nat) := P.2.2.1
def Prog.fld (P : Prog) : Nat → Nat → Option Nat := P.2.2.2.1
def Prog.kon (P : Prog) : Nat → Nat → Option Value := P.2.2.2.2.1
def Prog.fields (P : Prog) : List (String × String × Nat × Bool) := P.2.2.2.2.2.1
def Prog.objN (P : Prog) : Nat := P.2.2.2.2.2.2.1
def Prog.ro (P : Prog) : Nat := P.2.2.2.2.2.2.2.1
def Prog.capC (P : Prog) : Nat := P.2.2.2.2.2.2.2.2.1
def Prog.capS (P : Prog) : Nat := P.2.2.2.2.2.2.2.2.2
def Prog.cls (P : Prog) (k : Nat) : Nat := (P.mi k).1
def Prog.maxL (P : Prog) (k : Nat) : Nat := (P.mi k).2.1
def Prog.pops (P : Prog) (k : Nat) : Nat := (P.mi k).2.2.1
def Prog.ret (P : Prog) (k : Nat) : Option FieldType := (P.mi k).2.2.2.1
def Prog.ini (P : Prog) (k : Nat) : Bool := (P.mi k).2.2.2.2.1
def Prog.rf (P : Prog) (k : Nat) : Nat := (P.mi k).2.2.2.2.2.1
def Prog.rl (P : Prog) (k : Nat) : Nat := (P.mi k).2.2.2.2.2.2
def dflt : Nat → Value
  | 0 => .int 0
  | 1 => .int 0
  | 2 => .long 0
  | _ => .null
def Prog.fresh (P : Prog) : List Value := P.fields.map fun f => dflt f.2.2.1
/-- is j a place of an array of n -/
def inb (n : Nat) (j : Int32) : Bool := !(decide (j < 0)) && Nat.ble (j.toNatClampNeg + 1) n
def rd (xs : List Int32) (j : Int32) : Int32 := xs.getD j.toNatClampNeg 0
def wr (xs : List Int32) (j : Int32) (v : Int32) : List Int32 := xs.set j.toNatClampNeg v
def rdL (xs : List Int64) (j : Int32) : Int64 := xs.getD j.toNatClampNeg 0
def wrL (xs : List Int64) (j : Int32) (v : Int64) : List Int64 := xs.set j.toNatClampNeg v
def kill1 (L : ALoc) (i : Nat) : ALoc :=
  match i with
  | 0 => L
  | i + 1 => match L[i]? with
    | some (some (.long _)) => L.set i none
    | _ => L
def lput (L : ALoc) (i : Nat) (v : Value) : Option ALoc := bif Nat.ble (i + 1) L.length then some ((kill1 L i).set i (some v)) else none
def lputL (L : ALoc) (i : Nat) (v : Int64) : Option ALoc := bif Nat.ble (i + 2) L.length then some (((kill1 L i).set i (some (.long v))).set (i + 1) none) else none
def entL : List Value → ALoc
  | [] => []
  | .long v :: r => some (.long v) :: none :: entL r
  | v :: r => some v :: entL r
def pad (n : Nat) (L : ALoc) : ALoc := L ++ List.replicate (n - L.length) none
def entry (P : Prog) (k : Nat) (as : List Value) : ALoc := pad (P.maxL k) (entL as)
def cat (v : Value) : Nat := match v with | .long _ => 2 | _ => 1
def cats : List Value → Nat
  | [] => 0
  | v :: r => cat v + cats r
def okV : Value → Bool
  | .int _ => true | .long _ => true | .ref _ => true | .null => true | _ => false
def csz : Nat → ACell → Nat
  | n, .inl _ => n
  | _, .inr (.inl (0, _)) => 0
  | _, .inr (.inl (_, x)) => x.length
  | _, .inr (.inr x) => x.length
def hsz (P : Prog) : AHeap → Nat
  | [] => 0
  | c :: r => csz P.objN c + hsz P r
/-- how long an instruction is (0: as decode says) -/
def ilen : Instr → Nat
  | .iload _ => 2 | .lload _ => 2 | .aload _ => 2 | .istore _ => 2 | .lstore _ => 2 | .astore _ => 2 | .bipush _ => 2 | .ldc _ => 2 | .newarray _ => 2
  | .iinc _ _ => 3 | .sipush _ => 3 | .goto _ => 3 | .ifCond _ _ => 3 | .if_icmp _ _ => 3 | .getfield _ => 3 | .putfield _ => 3 | .new _ => 3 | .invokespecial _ => 3 | .invokestatic _ => 3 | .invokevirtual _ => 3 | .ldc2_w _ => 3
  | .tableswitch _ _ _ _ => 0
  | _ => 1
def tgt (pc : Nat) (o : Int) : Option Nat := match (pc : Int) + o with | .ofNat n => some n | .negSucc _ => none
def ish (x y : Int32) : Int32 := x <<< (y &&& 31)
def isr (x y : Int32) : Int32 := x >>> (y &&& 31)
def ush (x y : Int32) : Int32 := (x.toUInt32 >>> (y &&& 31).toUInt32).toInt32
def lsh (x : Int64) (y : Int32) : Int64 := x <<< (y &&& 0x3f).toInt64
def lus (x : Int64) (y : Int32) : Int64 := (x.toUInt64 >>> (y &&& 0x3f).toInt64.toUInt64).toInt64
def lcm (x y : Int64) : Int32 := if x > y then 1 else if x = y then 0 else -1
def i8 (x : Int32) : Int32 := x.toInt8.toInt32
def aop : Instr → Option (Int32 → Int32 → Int32)
  | .iadd => some fun x y => x + y
  | .isub => some fun x y => x - y
  | .imul => some fun x y => x * y
  | .iand => some fun x y => x &&& y
  | .ior => some fun x y => x ||| y
  | .ixor => some fun x y => x ^^^ y
  | .ishl => some fun x y => x <<< (y &&& 31)
  | .ishr => some fun x y => x >>> (y &&& 31)
  | .iushr => some fun x y => (x.toUInt32 >>> (y &&& 31).toUInt32).toInt32
  | _ => none
def lop : Instr → Option (Int64 → Int64 → Int64)
  | .ladd => some fun x y => x + y
  | .lsub => some fun x y => x - y
  | .lmul => some fun x y => x * y
  | .land => some fun x y => x &&& y
  | .lor => some fun x y => x ||| y
  | .lxor => some fun x y => x ^^^ y
  | _ => none
def loadI (L : ALoc) (n : Nat) : Option Int32 := match L[n]? with | some (some (.int x)) => some x | _ => none
def loadJ (L : ALoc) (n : Nat) : Option Int64 := match L[n]? with | some (some (.long x)) => some x | _ => none
def loadA (L : ALoc) (n : Nat) : Option Nat := match L[n]? with | some (some (.ref a)) => some a | _ => none
def getC (H : AHeap) (a j : Nat) : Option Value := match H[a]? with | some (.inl fs) => fs[j]? | _ => none
def conv (t : Nat) (v : Value) : Option Value :=
  match t, v with
  | 0, .int x => some (.int x)
  | 1, .int x => some (.int (x &&& 1))
  | 2, .long x => some (.long x)
  | 3, .ref a => some (.ref a)
  | _, _ => none
/-- a step within one frame -/
abbrev St := Nat × ALoc × List Value × AHeap
def atyOf : ArrayType → Option Nat
  | .int => some 1 | .boolean => some 2 | .byte => some 3 | .long => some 4 | _ => none
def newC (t n : Nat) : ACell := match t with | 4 => .inr (.inr (List.replicate n 0)) | t => .inr (.inl (t, List.replicate n 0))
def isObjInit (P : Prog) (k j : Nat) : Bool := match P.link (P.cls k) j with | some (4, _) => true | _ => false
/-- what is stored into an array of that kind -/
def narA (t : Nat) (x : Int32) : Int32 := match t with | 2 => x &&& 1 | 3 => x.toInt8.toInt32 | _ => x
def step (P : Prog) (k : Nat) (i : Instr) (np pc : Nat) (L : ALoc) (S : List Value) (H : AHeap) : Option St :=
  match i with
  | .iload_n n => match loadI L n.val with | some x => some (np, L, .int x :: S, H) | none => none
  | .iload n => match loadI L n with | some x => some (np, L, .int x :: S, H) | none => none
  | .lload_n n => match loadJ L n.val with | some x => some (np, L, .long x :: S, H) | none => none
  | .lload n => match loadJ L n with | some x => some (np, L, .long x :: S, H) | none => none
  | .aload_n n => match loadA L n.val with | some x => some (np, L, .ref x :: S, H) | none => none
  | .aload n => match loadA L n with | some x => some (np, L, .ref x :: S, H) | none => none
  | .istore_n n => match S with | .int x :: r => (match lput L n.val (.int x) with | some L' => some (np, L', r, H) | none => none) | _ => none
  | .istore n => match S with | .int x :: r => (match lput L n (.int x) with | some L' => some (np, L', r, H) | none => none) | _ => none
  | .astore_n n => match S with | .ref x :: r => (match lput L n.val (.ref x) with | some L' => some (np, L', r, H) | none => none) | _ => none
  | .astore n => match S with | .ref x :: r => (match lput L n (.ref x) with | some L' => some (np, L', r, H) | none => none) | _ => none
  | .lstore_n n => match S with | .long x :: r => (match lputL L n.val x with | some L' => some (np, L', r, H) | none => none) | _ => none
  | .lstore n => match S with | .long x :: r => (match lputL L n x with | some L' => some (np, L', r, H) | none => none) | _ => none
  | .iinc n c => match loadI L n with | some x => (match lput L n (.int (x + Int32.ofInt c)) with | some L' => some (np, L', S, H) | none => none) | none => none
  | .iconst c => some (np, L, .int (Int32.ofInt c) :: S, H)
  | .bipush c => some (np, L, .int (Int8.ofInt c).toInt32 :: S, H)
  | .sipush c => some (np, L, .int (Int16.ofInt c).toInt32 :: S, H)
  | .lconst c => some (np, L, .long (Int64.ofNat c) :: S, H)
  | .ldc j => match P.kon (P.cls k) j with | some (.int x) => some (np, L, .int x :: S, H) | _ => none
  | .ldc2_w j => match P.kon (P.cls k) j with | some (.long x) => some (np, L, .long x :: S, H) | _ => none
  | .idiv => match S with | .int y :: .int x :: r => (bif decide (y = 0) then none else some (np, L, .int (x / y) :: r, H)) | _ => none
  | .irem => match S with | .int y :: .int x :: r => (bif decide (y = 0) then none else some (np, L, .int (x % y) :: r, H)) | _ => none
  | .lshl => match S with | .int y :: .long x :: r => some (np, L, .long (x <<< (y &&& 0x3f).toInt64) :: r, H) | _ => none
  | .lushr => match S with | .int y :: .long x :: r => some (np, L, .long ((x.toUInt64 >>> (y &&& 0x3f).toInt64.toUInt64).toInt64) :: r, H) | _ => none
  | .lcmp => match S with | .long y :: .long x :: r => some (np, L, .int (if x > y then 1 else if x = y then 0 else -1) :: r, H) | _ => none
  | .lneg => match S with | .long x :: r => some (np, L, .long (-x) :: r, H) | _ => none
  | .i2l => match S with | .int x :: r => some (np, L, .long x.toInt64 :: r, H) | _ => none
  | .l2i => match S with | .long x :: r => some (np, L, .int x.toInt32 :: r, H) | _ => none
  | .i2b => match S with | .int x :: r => some (np, L, .int x.toInt8.toInt32 :: r, H) | _ => none
  | .dup => match S with | .ref x :: r => some (np, L, .ref x :: .ref x :: r, H) | .int x :: r => some (np, L, .int x :: .int x :: r, H) | _ => none
  | .dup2 => match S with | .int x :: .ref y :: r => some (np, L, .int x :: .ref y :: .int x :: .ref y :: r, H) | _ => none
  | .pop => match S with | .int _ :: r => some (np, L, r, H) | .ref _ :: r => some (np, L, r, H) | _ => none
  | .goto o => match tgt pc o with | some t => some (t, L, S, H) | none => none
  | .ifCond cd o => match S with
    | .int x :: r => (bif if_icmp.holds cd x 0 then (match tgt pc o with | some t => some (t, L, r, H) | none => none) else some (np, L, r, H))
    | _ => none
  | .if_icmp cd o => match S with
    | .int y :: .int x :: r => (bif if_icmp.holds cd x y then (match tgt pc o with | some t => some (t, L, r, H) | none => none) else some (np, L, r, H))
    | _ => none
  | .tableswitch d lo hi offs => match S with
    | .int x :: r => (bif decide (x.toInt < lo) || decide (x.toInt > hi) then (match tgt pc d with | some t => some (t, L, r, H) | none => none)
        else (match offs.toList[(x.toInt - lo).toNat]? with | some o => (match tgt pc o with | some t => some (t, L, r, H) | none => none) | none => none))
    | _ => none
  | .getfield j => match S with
    | .ref a :: r => (match P.fld (P.cls k) j with | some f => (match getC H a f with | some v => some (np, L, v :: r, H) | none => none) | none => none)
    | _ => none
  | .putfield j => match S with
    | v :: .ref a :: r => (match P.fld (P.cls k) j with
      | some f => (match P.fields[f]? with
        | some (_, _, t, fin) => (bif (!fin || P.ini k) && Nat.ble P.ro a then (match conv t v with
          | some v' => (match H[a]? with
            | some (.inl fs) => (bif Nat.ble (f + 1) fs.length then some (np, L, r, H.set a (.inl (fs.set f v'))) else none)
            | _ => none)
          | none => none) else none)
        | none => none)
      | none => none)
    | _ => none
  | .iaload => match S with
    | .int j :: .ref a :: r => (match H[a]? with
      | some (.inr (.inl (1, xs))) => (bif inb xs.length j then some (np, L, .int (rd xs j) :: r, H) else none)
      | some (.inr (.inl (0, xs))) => (bif inb xs.length j then some (np, L, .int (rd xs j) :: r, H) else none)
      | _ => none)
    | _ => none
  | .baload => match S with
    | .int j :: .ref a :: r => (match H[a]? with
      | some (.inr (.inl (2, xs))) => (bif inb xs.length j then some (np, L, .int (rd xs j) :: r, H) else none)
      | some (.inr (.inl (3, xs))) => (bif inb xs.length j then some (np, L, .int (rd xs j) :: r, H) else none)
      | _ => none)
    | _ => none
  | .laload => match S with
    | .int j :: .ref a :: r => (match H[a]? with | some (.inr (.inr xs)) => (bif inb xs.length j then some (np, L, .long (rdL xs j) :: r, H) else none) | _ => none)
    | _ => none
  | .iastore => match S with
    | .int x :: .int j :: .ref a :: r => (bif Nat.ble P.ro a then (match H[a]? with | some (.inr (.inl (1, xs))) => (bif inb xs.length j then some (np, L, r, H.set a (.inr (.inl (1, wr xs j x)))) else none) | _ => none) else none)
    | _ => none
  | .bastore => match S with
    | .int x :: .int j :: .ref a :: r => (bif Nat.ble P.ro a then (match H[a]? with
      | some (.inr (.inl (2, xs))) => (bif inb xs.length j then some (np, L, r, H.set a (.inr (.inl (2, wr xs j (x &&& 1))))) else none)
      | some (.inr (.inl (3, xs))) => (bif inb xs.length j then some (np, L, r, H.set a (.inr (.inl (3, wr xs j x.toInt8.toInt32)))) else none)
      | _ => none) else none)
    | _ => none
  | .lastore => match S with
    | .long x :: .int j :: .ref a :: r => (bif Nat.ble P.ro a then (match H[a]? with | some (.inr (.inr xs)) => (bif inb xs.length j then some (np, L, r, H.set a (.inr (.inr (wrL xs j x)))) else none) | _ => none) else none)
    | _ => none
  | .arraylength => match S with
    | .ref a :: r => (match H[a]? with
      | some (.inr (.inl (_, xs))) => some (np, L, .int xs.length.toInt32 :: r, H)
      | some (.inr (.inr xs)) => some (np, L, .int xs.length.toInt32 :: r, H)
      | _ => none)
    | _ => none
  | .newarray t => match S with
    | .int n :: r => (match atyOf t with | some q => (bif !(decide (n < 0)) && Nat.ble n.toNatClampNeg 60000 && Nat.ble (H.length + 1) P.capC && Nat.ble (hsz P H + n.toNatClampNeg) P.capS then some (np, L, .ref H.length :: r, H ++ [newC q n.toNatClampNeg]) else none) | none => none)
    | _ => none
  | .new j => match P.link (P.cls k) j with | some (5, _) => (bif Nat.ble (H.length + 1) P.capC && Nat.ble (hsz P H + P.objN) P.capS then some (np, L, .ref H.length :: S, H ++ [.inl P.fresh]) else none) | _ => none
  | .invokespecial j => match S with
    | .ref _ :: r => (bif isObjInit P k j && Nat.ble 1 (P.rf k) && Nat.ble (cats r + 12) (P.rl k) then some (np, L, r, H) else none)
    | _ => none
  | i => match S with
    | .int y :: .int x :: r => (match aop i with | some f => some (np, L, .int (f x y) :: r, H) | none => none)
    | .long y :: .long x :: r => (match lop i with | some f => some (np, L, .long (f x y) :: r, H) | none => none)
    | _ => none
/-- what a return hands back -/
def retV (P : Prog) (k : Nat) (i : Instr) (S : List Value) : Option (Option Value) :=
  match i with
  | .return_ => match S, P.ret k with | [], none => some none | _, _ => none
  | .ireturn => match S with
    | .int x :: _ => (match P.ret k with | some .int => some (some (.int x)) | some .boolean => some (some (.int (x &&& 1))) | _ => none)
    | _ => none
  | .lreturn => match S with | .long x :: _ => (match P.ret k with | some .long => some (some (.long x)) | _ => none) | _ => none
  | _ => none
def kindOk : Instr → Nat → Bool
  | .invokestatic _, 0 => true
  | .invokespecial _, 1 => true
  | .invokevirtual _, 2 => true
  | .invokevirtual _, 3 => true
  | _, _ => false
def poolOf : Instr → Option Nat
  | .invokestatic j => some j
  | .invokespecial j => some j
  | .invokevirtual j => some j
  | _ => none
/-- the receiver is there -/
def recvOk (P : Prog) (H : AHeap) (q : Nat) (as : List Value) : Bool :=
  match q with
  | 0 => true
  | _ => match as with
    | .ref a :: _ => (match H[a]? with | some (.inl _) => true | _ => false)
    | _ => false
def callV (P : Prog) (k : Nat) (i : Instr) (S : List Value) (H : AHeap) : Option (Nat × List Value × List Value) :=
  match poolOf i with
  | none => none
  | some j => match P.link (P.cls k) j with
    | none => none
    | some (q, k') =>
      bif kindOk i q && Nat.ble (P.pops k') S.length && Nat.ble (P.rf k' + 1) (P.rf k) && Nat.ble (cats (S.drop (P.pops k')) + (P.maxL k' + 11) + P.rl k') (P.rl k) && recvOk P H q (S.take (P.pops k')).reverse && Nat.ble (entL (S.take (P.pops k')).reverse).length (P.maxL k') then
        some (k', (S.take (P.pops k')).reverse, S.drop (P.pops k'))
      else none
def run (P : Prog) : Nat → Nat → Nat → ALoc → List Value → AHeap → Option (Option Value × AHeap)
  | 0, _, _, _, _, _ => none
  | n + 1, k, pc, L, S, H =>
    match P.code k pc with
    | none => none
    | some (i, np) =>
      match retV P k i S with
      | some v => some (v, H)
      | none =>
        match callV P k i S H with
        | some (k', as, rest) =>
          (match run P n k' 0 (entry P k' as) [] H with
          | some (v, H1) => run P n k np L (v.toList ++ rest) H1
          | none => none)
        | none =>
          (match step P k i np pc L S H with
          | some (pc', L', S', H') => run P n k pc' L' S' H'
          | none => none)
def Eval (P : Prog) (k pc : Nat) (L : ALoc) (S : List Value) (H : AHeap) (out : Option Value × AHeap) : Prop := ∃ n, run P n k pc L S H = some out
end Jvm.OwnX
namespace Jvm.OwnX
open Sem ClassFile Op Lib Jvm.Stand Jvm.Free Jvm.LawKit Jvm.RoadKit
/-! ## values, stacks, local variables -/
def VR (am : List Addr) (v w : Value) : Prop := match v with
  | .ref i => ∃ a, am[i]? = some a ∧ w = .ref a
  | .int x => w = .int x
  | .long x => w = .long x
  | .null => w = .null
  | _ => False
def SR (am : List Addr) : List Value → List Value → Prop
  | [], ws => ws = []
  | v :: vs, ws => ∃ w ws', ws = w :: ws' ∧ VR am v w ∧ SR am vs ws'
def Pre (am am' : List Addr) : Prop := ∀ (i : Nat) (a : Addr), am[i]? = some a → am'[i]? = some a
theorem Pre.refl (am : List Addr) : Pre am am := fun _ _ h => h
theorem Pre.trans {a b c : List Addr} (h : Pre a b) (h' : Pre b c) : Pre a c := fun i x q => h' i x (h i x q)
theorem Pre.app (am : List Addr) (x : Addr) : Pre am (am ++ [x]) := fun i a h => by
  rw [List.getElem?_append_left (List.getElem?_eq_some_iff.mp h).1]; exact h
theorem VR.mono {am am' : List Addr} (h : Pre am am') {v w : Value} (r : VR am v w) : VR am' v w := by
  cases v <;> simp only [VR] at r ⊢ <;> try exact r
  obtain ⟨a, h1, h2⟩ := r; exact ⟨a, h _ _ h1, h2⟩
theorem SR.mono {am am' : List Addr} (h : Pre am am') : ∀ {S ws : List Value}, SR am S ws → SR am' S ws
  | [], _, r => r
  | _ :: _, _, ⟨w, ws', e, r1, r2⟩ => ⟨w, ws', e, r1.mono h, SR.mono h r2⟩
theorem VR.cat {am : List Addr} {v w : Value} (r : VR am v w) : w.category = OwnX.cat v := by
  cases v <;> simp only [VR] at r
  · subst r; rfl
  · subst r; rfl
  · subst r; rfl
  · obtain ⟨a, -, rfl⟩ := r; rfl
theorem SR.cats {am : List Addr} : ∀ {S ws : List Value}, SR am S ws → (ws.map fun v => v.category).sum = OwnX.cats S
  | [], _, r => by cases r; rfl
  | v :: vs, _, ⟨w, ws', e, r1, r2⟩ => by subst e; simp [OwnX.cats, r1.cat, SR.cats r2]
theorem SR.app {am : List Addr} : ∀ {S ws : List Value} (A B : List Value), SR am S ws → S = A ++ B → ∃ x y, ws = x ++ y ∧ SR am A x ∧ SR am B y
  | S, ws, [], B, r, e => ⟨[], ws, rfl, rfl, by rw [show B = S from by simpa using e.symm]; exact r⟩
  | S, ws, v :: A, B, r, e => by
    subst e
    obtain ⟨w, ws', rfl, r1, r2⟩ := r
    obtain ⟨x, y, rfl, h1, h2⟩ := SR.app A B r2 rfl
    exact ⟨w :: x, y, rfl, ⟨w, x, rfl, r1, h1⟩, h2⟩
theorem SR.join {am : List Addr} : ∀ {A x B y : List Value}, SR am A x → SR am B y → SR am (A ++ B) (x ++ y)
  | [], _, _, _, h, h' => by cases h; exact h'
  | _ :: _, _, _, _, ⟨w, ws', e, r1, r2⟩, h' => by subst e; exact ⟨w, _, rfl, r1, SR.join r2 h'⟩
theorem SR.rev {am : List Addr} : ∀ {A x : List Value}, SR am A x → SR am A.reverse x.reverse
  | [], _, h => by cases h; rfl
  | _ :: _, _, ⟨w, ws', e, r1, r2⟩ => by
    subst e
    rw [List.reverse_cons, List.reverse_cons]
    exact SR.join (SR.rev r2) ⟨w, [], rfl, r1, rfl⟩
theorem SR.len {am : List Addr} : ∀ {A x : List Value}, SR am A x → x.length = A.length
  | [], _, h => by cases h; rfl
  | _ :: _, _, ⟨w, ws', e, r1, r2⟩ => by subst e; simp [SR.len r2]
def WFL (l : Array Slot) : Prop := (∀ (i : Nat) w, l[i]? = some (.val w) → w.category = 2 → l[i + 1]? = some .second) ∧ (∀ (i : Nat), l[i]? = some .second → ∃ (j : Nat) (w : Value), i = j + 1 ∧ l[j]? = some (.val w) ∧ w.category = 2)
/-- the places of the variables behind a store of one word -/
def After1 (l l' : Array Slot) (i : Nat) (v : Value) : Prop := ∀ j : Nat, l'[j]? = if j = i then some (.val v) else if j + 1 = i ∧ l[i]? = some .second then some .unset else if j = i + 1 ∧ l[j]? = some .second then some .unset else l[j]?
theorem sib (l : Array Slot) (i j : Nat) (x : Slot) (hi : i < l.size) : (l.setIfInBounds i x)[j]? = if j = i then some x else l[j]? := by
  by_cases h : j = i
  · subst h; simp [hi]
  · simp [Array.getElem?_setIfInBounds_ne (Ne.symm h), h]
theorem store1w {l : Array Slot} {i : Nat} {v : Value} (hw : WFL l) (hi : i < l.size) (hv : v.category = 1) : ∃ l', storeLocals l i v = some l' ∧ l'.size = l.size ∧ After1 l l' i v := by
  have hv2 : ¬ v.category = 2 := by omega
  have hg : l[i]? = some l[i] := Array.getElem?_eq_getElem hi
  cases hq : l[i] with
  | unset =>
    rw [hq] at hg
    refine ⟨l.setIfInBounds i (.val v), by simp [storeLocals, storeSelf, setAt, hg, hq, hi, hv2], by simp, fun j => ?_⟩
    rw [sib _ _ _ _ hi, hg]
    by_cases h : j = i
    · simp [h]
    · simp only [h, if_false, reduceCtorEq, and_false, Option.some.injEq]
      by_cases h2 : j = i + 1 ∧ l[j]? = some .second
      · obtain ⟨j', w, e1, e2, e3⟩ := hw.2 _ h2.2
        have : j' = i := by omega
        subst this; rw [hg] at e2; cases e2
      · simp [h2]
  | second =>
    rw [hq] at hg
    obtain ⟨j0, w, e1, e2, e3⟩ := hw.2 _ hg
    subst e1
    have hj0 : j0 < l.size := by omega
    refine ⟨(l.setIfInBounds j0 .unset).setIfInBounds (j0 + 1) (.val v), by simp [storeLocals, storeSelf, setAt, hg, hq, hi, hv2, hj0], by simp, fun j => ?_⟩
    rw [sib _ _ _ _ (by simpa using hi), sib _ _ _ _ hj0, hg]
    by_cases h : j = j0 + 1
    · simp [h]
    · by_cases h3 : j = j0
      · subst h3; simp
      · have h4 : ¬ (j + 1 = j0 + 1) := by omega
        by_cases h2 : j = j0 + 1 + 1 ∧ l[j]? = some .second
        · obtain ⟨j', w', f1, f2, f3⟩ := hw.2 _ h2.2
          have : j' = j0 + 1 := by omega
          subst this; rw [hg] at f2; cases f2
        · simp [h, h3, h2]
  | val old =>
    rw [hq] at hg
    by_cases hc : old.category = 2
    · have h1 := hw.1 _ _ hg hc
      have h1' := (Array.getElem?_eq_some_iff.mp h1).1
      refine ⟨(l.setIfInBounds (i + 1) .unset).setIfInBounds i (.val v), by simp [storeLocals, storeSelf, setAt, hg, hq, hi, hv2, hc, h1'], by simp, fun j => ?_⟩
      rw [sib _ _ _ _ (by simpa using hi), sib _ _ _ _ h1', hg]
      by_cases h : j = i
      · simp [h]
      · by_cases h3 : j = i + 1
        · subst h3; simp [h1]
        · simp [h, h3]
    · refine ⟨l.setIfInBounds i (.val v), by simp [storeLocals, storeSelf, setAt, hg, hq, hi, hv2, hc], by simp, fun j => ?_⟩
      rw [sib _ _ _ _ hi, hg]
      by_cases h : j = i
      · simp [h]
      · simp only [h, if_false, reduceCtorEq, and_false, Option.some.injEq]
        by_cases h2 : j = i + 1 ∧ l[j]? = some .second
        · obtain ⟨j', w, e1, e2, e3⟩ := hw.2 _ h2.2
          have : j' = i := by omega
          subst this; rw [hg] at e2; cases e2; exact absurd e3 hc
        · simp [h2]
theorem After1.wf {l l' : Array Slot} {i : Nat} {v : Value} (hw : WFL l) (hv : v.category = 1) (A : After1 l l' i v) : WFL l' := by
  refine ⟨fun j w h1 h2 => ?_, fun j h1 => ?_⟩
  · rw [A j] at h1
    by_cases c1 : j = i
    · simp only [c1, if_true, Option.some.injEq, Slot.val.injEq] at h1; subst h1; omega
    · rw [if_neg c1] at h1
      by_cases c2 : j + 1 = i ∧ l[i]? = some .second
      · rw [if_pos c2] at h1; cases h1
      · rw [if_neg c2] at h1
        by_cases c3 : j = i + 1 ∧ l[j]? = some .second
        · rw [if_pos c3] at h1; cases h1
        · rw [if_neg c3] at h1
          have h3 := hw.1 _ _ h1 h2
          rw [A (j + 1)]
          have n1 : ¬ (j + 1 = i) := fun q => c2 ⟨q, q ▸ h3⟩
          have n2 : ¬ (j + 1 + 1 = i ∧ l[i]? = some .second) := fun ⟨q1, q2⟩ => by
            obtain ⟨j', w', f1, f2, f3⟩ := hw.2 _ q2
            have : j' = j + 1 := by omega
            subst this; rw [h3] at f2; cases f2
          have n3 : ¬ (j + 1 = i + 1 ∧ l[j + 1]? = some .second) := fun ⟨q1, _⟩ => c1 (by omega)
          rw [if_neg n1, if_neg n2, if_neg n3]; exact h3
  · rw [A j] at h1
    by_cases c1 : j = i
    · rw [if_pos c1] at h1; cases h1
    · rw [if_neg c1] at h1
      by_cases c2 : j + 1 = i ∧ l[i]? = some .second
      · rw [if_pos c2] at h1; cases h1
      · rw [if_neg c2] at h1
        by_cases c3 : j = i + 1 ∧ l[j]? = some .second
        · rw [if_pos c3] at h1; cases h1
        · rw [if_neg c3] at h1
          obtain ⟨j', w, e1, e2, e3⟩ := hw.2 _ h1
          refine ⟨j', w, e1, ?_, e3⟩
          rw [A j']
          have n1 : ¬ (j' = i) := fun q => c3 ⟨by omega, h1⟩
          have n2 : ¬ (j' + 1 = i ∧ l[i]? = some .second) := fun ⟨q, _⟩ => c1 (by omega)
          have n3 : ¬ (j' = i + 1 ∧ l[j']? = some .second) := fun ⟨_, q⟩ => by rw [e2] at q; cases q
          rw [if_neg n1, if_neg n2, if_neg n3]; exact e2
def lng (o : Option Slot) : Bool := match o with | some (.val w) => decide (w.category = 2) | _ => false
theorem lng_iff (o : Option Slot) : lng o = true ↔ ∃ w, o = some (.val w) ∧ w.category = 2 := by
  unfold lng
  split
  · rename_i w; simp
  · rename_i h; simp; intro w hw; exact absurd hw (h w)
/-- behind a store of a long -/
def After2 (l l' : Array Slot) (i : Nat) (v : Value) : Prop := ∀ j : Nat, l'[j]? = if j = i then some (.val v) else if j = i + 1 then some .second else if j + 1 = i ∧ l[i]? = some .second then some .unset else if j = i + 2 ∧ l[j]? = some .second then some .unset else l[j]?
theorem self2 {l : Array Slot} {i : Nat} {v : Value} (hi : i + 1 < l.size) (hv : v.category = 2) (hz : ∀ w, l[i + 1]? = some (.val w) → w.category = 2 → i + 2 < l.size) :
    ∃ l', storeSelf l i v = some l' ∧ l'.size = l.size ∧ ∀ j : Nat, l'[j]? = if j = i then some (.val v) else if j = i + 1 then some .second else if j = i + 2 ∧ lng l[i + 1]? = true then some .unset else l[j]? := by
  have hi0 : i < l.size := by omega
  have hg : l[i + 1]? = some l[i + 1] := Array.getElem?_eq_getElem hi
  have hne : (l.setIfInBounds i (.val v))[i + 1]? = l[i + 1]? := Array.getElem?_setIfInBounds_ne (by omega)
  have hplain : (∀ w, l[i + 1] = .val w → ¬ w.category = 2) → storeSelf l i v = some ((l.setIfInBounds i (.val v)).setIfInBounds (i + 1) .second) := fun hn => by
    cases hq : l[i + 1] with
    | val w => simp [storeSelf, setAt, hi0, hv, hne, hg, hq, hn _ hq, hi]
    | unset => simp [storeSelf, setAt, hi0, hv, hne, hg, hq, hi]
    | second => simp [storeSelf, setAt, hi0, hv, hne, hg, hq, hi]
  by_cases hx : ∃ w, l[i + 1] = .val w ∧ w.category = 2
  · obtain ⟨w, hw1, hw2⟩ := hx
    have h2 := hz w (by rw [hg, hw1]) hw2
    refine ⟨((l.setIfInBounds i (.val v)).setIfInBounds (i + 2) .unset).setIfInBounds (i + 1) .second, by simp [storeSelf, setAt, hi0, hv, hne, hg, hw1, hw2, hi, h2], by simp, fun j => ?_⟩
    rw [sib _ _ _ _ (by simpa using hi), sib _ _ _ _ (by simpa using h2), sib _ _ _ _ hi0]
    have hE : lng l[i + 1]? = true := (lng_iff _).mpr ⟨w, by rw [hg, hw1], hw2⟩
    by_cases c1 : j = i
    · subst c1; simp
    · by_cases c2 : j = i + 1
      · subst c2; simp
      · by_cases c3 : j = i + 2
        · subst c3; simp [hE]
        · simp [c1, c2, c3]
  · refine ⟨_, hplain fun w h1 h2 => hx ⟨w, h1, h2⟩, by simp, fun j => ?_⟩
    rw [sib _ _ _ _ (by simpa using hi), sib _ _ _ _ hi0]
    have hE : ¬ lng l[i + 1]? = true := fun q => by
      obtain ⟨w, q1, q2⟩ := (lng_iff _).mp q
      exact hx ⟨w, by rw [hg] at q1; exact Option.some.inj q1, q2⟩
    by_cases c1 : j = i
    · subst c1; simp
    · by_cases c2 : j = i + 1
      · subst c2; simp
      · simp [c1, c2, hE]
theorem store2w {l : Array Slot} {i : Nat} {v : Value} (hw : WFL l) (hi : i + 1 < l.size) (hv : v.category = 2) : ∃ l', storeLocals l i v = some l' ∧ l'.size = l.size ∧ After2 l l' i v := by
  have hi0 : i < l.size := by omega
  have hg : l[i]? = some l[i] := Array.getElem?_eq_getElem hi0
  have hz : ∀ w, l[i + 1]? = some (.val w) → w.category = 2 → i + 2 < l.size := fun w q1 q2 => (Array.getElem?_eq_some_iff.mp (hw.1 _ _ q1 q2)).1
  have hsec : ∀ j : Nat, (j = i + 2 ∧ lng l[i + 1]? = true) ↔ (j = i + 2 ∧ l[j]? = some .second) := fun j => by
    constructor
    · rintro ⟨rfl, q⟩
      obtain ⟨w, q1, q2⟩ := (lng_iff _).mp q
      exact ⟨rfl, hw.1 _ _ q1 q2⟩
    · rintro ⟨rfl, q⟩
      obtain ⟨j', w, e1, e2, e3⟩ := hw.2 _ q
      have : j' = i + 1 := by omega
      subst this; exact ⟨rfl, (lng_iff _).mpr ⟨w, e2, e3⟩⟩
  cases hq : l[i] with
  | unset =>
    rw [hq] at hg
    obtain ⟨l', h1, h2, h3⟩ := self2 hi hv hz
    refine ⟨l', by simp [storeLocals, hg, hq, hi0, h1], h2, fun j => ?_⟩
    rw [h3 j, hg]; simp only [hsec, reduceCtorEq, and_false, if_false, Option.some.injEq]
  | second =>
    rw [hq] at hg
    obtain ⟨j0, w, e1, e2, e3⟩ := hw.2 _ hg
    subst e1
    have hj0 : j0 < l.size := by omega
    have hi' : j0 + 1 + 1 < (l.setIfInBounds j0 .unset).size := by simpa using hi
    have hk : ∀ j : Nat, j ≠ j0 → (l.setIfInBounds j0 .unset)[j]? = l[j]? := fun j h => Array.getElem?_setIfInBounds_ne (Ne.symm h)
    obtain ⟨l', h1, h2, h3⟩ := self2 (l := l.setIfInBounds j0 .unset) hi' hv (fun w q1 q2 => by rw [hk _ (by omega)] at q1; simpa using hz w q1 q2)
    refine ⟨l', by simp [storeLocals, setAt, hg, hq, hi0, hj0, h1], by simpa using h2, fun j => ?_⟩
    rw [h3 j, hg, hk (j0 + 1 + 1) (by omega)]; simp only [hsec]
    by_cases c1 : j = j0 + 1
    · simp [c1]
    · by_cases c2 : j = j0 + 1 + 1
      · simp [c2]
      · by_cases c3 : j = j0
        · subst c3; simp [hj0]
        · rw [hk _ c3]
          have : ¬ (j + 1 = j0 + 1) := by omega
          simp [c1, c2, c3]
  | val old =>
    rw [hq] at hg
    by_cases hc : old.category = 2
    · have g1 := hw.1 _ _ hg hc
      have hi' : i + 1 < (l.setIfInBounds (i + 1) .unset).size := by simpa using hi
      have hk : ∀ j : Nat, j ≠ i + 1 → (l.setIfInBounds (i + 1) .unset)[j]? = l[j]? := fun j h => Array.getElem?_setIfInBounds_ne (Ne.symm h)
      have hk1 : (l.setIfInBounds (i + 1) .unset)[i + 1]? = some .unset := by simp [hi]
      obtain ⟨l', h1, h2, h3⟩ := self2 (l := l.setIfInBounds (i + 1) .unset) hi' hv (fun w q1 q2 => by rw [hk1] at q1; cases q1)
      refine ⟨l', by simp [storeLocals, setAt, hg, hq, hi0, hc, hi, h1], by simpa using h2, fun j => ?_⟩
      rw [h3 j, hg, hk1]
      by_cases c1 : j = i
      · simp [c1]
      · by_cases c2 : j = i + 1
        · simp [c2]
        · rw [hk _ c2]
          have c3 : ¬ (j = i + 2 ∧ l[j]? = some .second) := fun ⟨q1, q2⟩ => by
            subst q1
            obtain ⟨j', w, e1, e2, e3⟩ := hw.2 _ q2
            have : j' = i + 1 := by omega
            subst this; rw [g1] at e2; cases e2
          simp [c1, c2, c3, lng]
    · obtain ⟨l', h1, h2, h3⟩ := self2 hi hv hz
      refine ⟨l', by simp [storeLocals, hg, hq, hi0, hc, h1], h2, fun j => ?_⟩
      rw [h3 j, hg]; simp only [hsec, reduceCtorEq, and_false, if_false, Option.some.injEq]
theorem After2.wf {l l' : Array Slot} {i : Nat} {v : Value} (hw : WFL l) (hv : v.category = 2) (A : After2 l l' i v) : WFL l' := by
  refine ⟨fun j w h1 h2 => ?_, fun j h1 => ?_⟩
  · rw [A j] at h1
    by_cases c1 : j = i
    · subst c1; rw [A (j + 1)]; simp
    · rw [if_neg c1] at h1
      by_cases c0 : j = i + 1
      · rw [if_pos c0] at h1; cases h1
      · rw [if_neg c0] at h1
        by_cases c2 : j + 1 = i ∧ l[i]? = some .second
        · rw [if_pos c2] at h1; cases h1
        · rw [if_neg c2] at h1
          by_cases c3 : j = i + 2 ∧ l[j]? = some .second
          · rw [if_pos c3] at h1; cases h1
          · rw [if_neg c3] at h1
            have h3 := hw.1 _ _ h1 h2
            rw [A (j + 1)]
            have n1 : ¬ (j + 1 = i) := fun q => c2 ⟨q, q ▸ h3⟩
            have n0 : ¬ (j + 1 = i + 1) := by omega
            have n2 : ¬ (j + 1 + 1 = i ∧ l[i]? = some .second) := fun ⟨q1, q2⟩ => by
              obtain ⟨j', w', f1, f2, f3⟩ := hw.2 _ q2
              have : j' = j + 1 := by omega
              subst this; rw [h3] at f2; cases f2
            have n3 : ¬ (j + 1 = i + 2 ∧ l[j + 1]? = some .second) := fun ⟨q1, _⟩ => c0 (by omega)
            rw [if_neg n1, if_neg n0, if_neg n2, if_neg n3]; exact h3
  · rw [A j] at h1
    by_cases c1 : j = i
    · rw [if_pos c1] at h1; cases h1
    · rw [if_neg c1] at h1
      by_cases c0 : j = i + 1
      · subst c0; exact ⟨i, v, rfl, by rw [A i]; simp, hv⟩
      · rw [if_neg c0] at h1
        by_cases c2 : j + 1 = i ∧ l[i]? = some .second
        · rw [if_pos c2] at h1; cases h1
        · rw [if_neg c2] at h1
          by_cases c3 : j = i + 2 ∧ l[j]? = some .second
          · rw [if_pos c3] at h1; cases h1
          · rw [if_neg c3] at h1
            obtain ⟨j', w, e1, e2, e3⟩ := hw.2 _ h1
            refine ⟨j', w, e1, ?_, e3⟩
            rw [A j']
            have n1 : ¬ (j' = i) := fun q => c0 (by omega)
            have n0 : ¬ (j' = i + 1) := fun q => c3 ⟨by omega, h1⟩
            have n2 : ¬ (j' + 1 = i ∧ l[i]? = some .second) := fun ⟨q, _⟩ => c1 (by omega)
            have n3 : ¬ (j' = i + 2 ∧ l[j']? = some .second) := fun ⟨_, q⟩ => by rw [e2] at q; cases q
            rw [if_neg n1, if_neg n0, if_neg n2, if_neg n3]; exact e2
def LR (am : List Addr) (L : ALoc) (l : Array Slot) : Prop := L.length = l.size ∧ WFL l ∧ ∀ (i : Nat) v, L[i]? = some (some v) → ∃ w, l[i]? = some (.val w) ∧ VR am v w
theorem LR.mono {am am' : List Addr} (h : Pre am am') {L : ALoc} {l : Array Slot} (r : LR am L l) : LR am' L l :=
  ⟨r.1, r.2.1, fun i v q => by obtain ⟨w, h1, h2⟩ := r.2.2 i v q; exact ⟨w, h1, h2.mono h⟩⟩
theorem kill1_len (L : ALoc) (i : Nat) : (kill1 L i).length = L.length := by
  unfold kill1; split
  · rfl
  · split <;> simp
theorem kill1_get {L : ALoc} {i j : Nat} {v : Value} (h : (kill1 L i)[j]? = some (some v)) : L[j]? = some (some v) ∧ (j + 1 = i → ∀ x, v ≠ .long x) := by
  unfold kill1 at h
  split at h
  · exact ⟨h, fun q => by omega⟩
  · rename_i i
    split at h
    · rename_i x hx
      by_cases e : j = i
      · subst e
        rw [List.getElem?_set] at h
        split at h
        · split at h <;> simp at h
        · omega
      · rw [List.getElem?_set_ne (Ne.symm e)] at h
        exact ⟨h, fun q => absurd (by omega) e⟩
    · rename_i hn
      refine ⟨h, fun q x e => ?_⟩
      have : j = i := by omega
      subst this; subst e; exact hn x h
theorem LR.put {am : List Addr} {L L' : ALoc} {l : Array Slot} {i : Nat} {v w : Value} (r : LR am L l) (h : lput L i v = some L') (hv : VR am v w) (hc : w.category = 1) : ∃ l', storeLocals l i w = some l' ∧ l'.size = l.size ∧ LR am L' l' := by
  unfold lput at h
  cases hb : Nat.ble (i + 1) L.length
  · rw [hb] at h; cases h
  · rw [hb] at h
    have hi : i < L.length := Nat.le_of_ble_eq_true hb
    simp only [cond_true, Option.some.injEq] at h
    obtain ⟨l', h1, h2, h3⟩ := store1w (v := w) r.2.1 (by rw [← r.1]; exact hi) hc
    refine ⟨l', h1, h2, ?_, h3.wf r.2.1 hc, fun j u hu => ?_⟩
    · rw [← h]; simp [kill1_len, r.1, h2]
    · rw [← h, List.getElem?_set] at hu
      rw [h3 j]
      by_cases c : i = j
      · subst c
        simp only [if_true] at hu
        split at hu
        · cases hu; exact ⟨w, by simp, hv⟩
        · cases hu
      · rw [if_neg c] at hu
        obtain ⟨q1, q2⟩ := kill1_get hu
        obtain ⟨w', q3, q4⟩ := r.2.2 j u q1
        have n1 : ¬ (j = i) := fun q => c q.symm
        have n2 : ¬ (j + 1 = i ∧ l[i]? = some .second) := fun ⟨a1, a2⟩ => by
          obtain ⟨j', w2, e1, e2, e3⟩ := r.2.1.2 _ a2
          have : j' = j := by omega
          subst this; rw [q3] at e2; cases e2
          have q5 := q4.cat
          rw [e3] at q5
          cases u <;> simp [OwnX.cat] at q5
          exact q2 a1 _ rfl
        have n3 : ¬ (j = i + 1 ∧ l[j]? = some .second) := fun ⟨_, q⟩ => by rw [q3] at q; cases q
        exact ⟨w', by rw [if_neg n1, if_neg n2, if_neg n3]; exact q3, q4⟩
theorem LR.putL {am : List Addr} {L L' : ALoc} {l : Array Slot} {i : Nat} {x : Int64} (r : LR am L l) (h : lputL L i x = some L') : ∃ l', storeLocals l i (.long x) = some l' ∧ l'.size = l.size ∧ LR am L' l' := by
  unfold lputL at h
  cases hb : Nat.ble (i + 2) L.length
  · rw [hb] at h; cases h
  · rw [hb] at h
    have hi : i + 1 < L.length := Nat.le_of_ble_eq_true hb
    simp only [cond_true, Option.some.injEq] at h
    obtain ⟨l', h1, h2, h3⟩ := store2w (v := .long x) r.2.1 (by rw [← r.1]; exact hi) rfl
    refine ⟨l', h1, h2, ?_, h3.wf r.2.1 rfl, fun j u hu => ?_⟩
    · rw [← h]; simp [kill1_len, r.1, h2]
    · rw [← h, List.getElem?_set] at hu
      rw [h3 j]
      by_cases c0 : i + 1 = j
      · subst c0
        simp only [if_true] at hu
        split at hu <;> cases hu
      · rw [if_neg c0, List.getElem?_set] at hu
        by_cases c : i = j
        · subst c
          simp only [if_true] at hu
          split at hu
          · cases hu; exact ⟨.long x, by simp, rfl⟩
          · cases hu
        · rw [if_neg c] at hu
          obtain ⟨q1, q2⟩ := kill1_get hu
          obtain ⟨w', q3, q4⟩ := r.2.2 j u q1
          have n1 : ¬ (j = i) := fun q => c q.symm
          have n0 : ¬ (j = i + 1) := fun q => c0 q.symm
          have n2 : ¬ (j + 1 = i ∧ l[i]? = some .second) := fun ⟨a1, a2⟩ => by
            obtain ⟨j', w2, e1, e2, e3⟩ := r.2.1.2 _ a2
            have : j' = j := by omega
            subst this; rw [q3] at e2; cases e2
            have q5 := q4.cat
            rw [e3] at q5
            cases u <;> simp [OwnX.cat] at q5
            exact q2 a1 _ rfl
          have n3 : ¬ (j = i + 2 ∧ l[j]? = some .second) := fun ⟨_, q⟩ => by rw [q3] at q; cases q
          exact ⟨w', by rw [if_neg n1, if_neg n0, if_neg n2, if_neg n3]; exact q3, q4⟩
theorem LR.int {am : List Addr} {L : ALoc} {l : Array Slot} {i : Nat} {x : Int32} (r : LR am L l) (h : loadI L i = some x) : l[i]? = some (.val (.int x)) := by
  unfold loadI at h
  split at h
  · rename_i y hy
    cases h
    obtain ⟨w, h1, h2⟩ := r.2.2 _ _ hy
    cases h2; exact h1
  · cases h
theorem LR.long {am : List Addr} {L : ALoc} {l : Array Slot} {i : Nat} {x : Int64} (r : LR am L l) (h : loadJ L i = some x) : l[i]? = some (.val (.long x)) := by
  unfold loadJ at h
  split at h
  · rename_i y hy
    cases h
    obtain ⟨w, h1, h2⟩ := r.2.2 _ _ hy
    cases h2; exact h1
  · cases h
theorem LR.ref {am : List Addr} {L : ALoc} {l : Array Slot} {i x : Nat} (r : LR am L l) (h : loadA L i = some x) : ∃ a, am[x]? = some a ∧ l[i]? = some (.val (.ref a)) := by
  unfold loadA at h
  split at h
  · rename_i y hy
    cases h
    obtain ⟨w, h1, a, h2, rfl⟩ := r.2.2 _ _ hy
    exact ⟨a, h2, h1⟩
  · cases h
end Jvm.OwnX
namespace Jvm.OwnX
open Sem ClassFile Op Lib Jvm.Stand Jvm.Free Jvm.LawKit Jvm.RoadKit
/-! ## the entry's variables -/
def slotsL : List Value → List Slot
  | [] => []
  | v :: r => if v.category = 2 then .val v :: .second :: slotsL r else .val v :: slotsL r
theorem fold_slots : ∀ (ws : List Value) (acc : Array Slot), ws.foldl (fun acc v => if v.category = 2 then (acc.push (.val v)).push .second else acc.push (.val v)) acc = acc ++ (slotsL ws).toArray
  | [], acc => by simp [slotsL]
  | v :: r, acc => by
    rw [List.foldl_cons, fold_slots r]
    by_cases h : v.category = 2
    · simp only [h, if_true, slotsL]; apply Array.ext'; simp
    · simp only [h, if_false, slotsL]; apply Array.ext'; simp
theorem argsToLocals_eq (ws : List Value) (n : Nat) : argsToLocals ws.toArray n = (slotsL ws ++ List.replicate (n - (slotsL ws).length) Slot.unset).toArray := by
  unfold argsToLocals
  have h : Array.foldl (fun acc v => if v.category = 2 then (acc.push (.val v)).push .second else acc.push (.val v)) #[] ws.toArray = (slotsL ws).toArray := by
    rw [List.foldl_toArray, fold_slots]; simp
  simp only [h]
  apply Array.ext'; simp
def WFl (s : List Slot) : Prop := (∀ (i : Nat) (w : Value), s[i]? = some (Slot.val w) → w.category = 2 → s[i + 1]? = some Slot.second) ∧ (∀ (i : Nat), s[i]? = some Slot.second → ∃ (j : Nat) (w : Value), i = j + 1 ∧ s[j]? = some (Slot.val w) ∧ w.category = 2)
theorem WFl.nil : WFl [] := ⟨fun i w h => by simp at h, fun i h => by simp at h⟩
theorem WFl.one {s : List Slot} (h : WFl s) {v : Value} (hv : ¬ v.category = 2) : WFl (.val v :: s) := by
  refine ⟨fun i w h1 h2 => ?_, fun i h1 => ?_⟩
  · cases i with
    | zero => simp at h1; subst h1; exact absurd h2 hv
    | succ i => rw [List.getElem?_cons_succ] at h1 ⊢; exact h.1 _ _ h1 h2
  · cases i with
    | zero => simp at h1
    | succ i =>
      rw [List.getElem?_cons_succ] at h1
      obtain ⟨j, w, rfl, e2, e3⟩ := h.2 _ h1
      exact ⟨j + 1, w, rfl, by rw [List.getElem?_cons_succ]; exact e2, e3⟩
theorem WFl.two {s : List Slot} (h : WFl s) {v : Value} (hv : v.category = 2) : WFl (.val v :: .second :: s) := by
  refine ⟨fun i w h1 h2 => ?_, fun i h1 => ?_⟩
  · match i with
    | 0 => simp
    | 1 => simp at h1
    | i + 2 => simp only [List.getElem?_cons_succ] at h1 ⊢; exact h.1 _ _ h1 h2
  · match i with
    | 0 => simp at h1
    | 1 => exact ⟨0, v, rfl, by simp, hv⟩
    | i + 2 =>
      simp only [List.getElem?_cons_succ] at h1
      obtain ⟨j, w, rfl, e2, e3⟩ := h.2 _ h1
      exact ⟨j + 2, w, rfl, by simp only [List.getElem?_cons_succ]; exact e2, e3⟩
theorem WFl.pad {s : List Slot} (h : WFl s) (n : Nat) : WFl (s ++ List.replicate n Slot.unset) := by
  have hk : ∀ (i : Nat) (x : Slot), (s ++ List.replicate n Slot.unset)[i]? = some x → x ≠ Slot.unset → s[i]? = some x := fun i x q hx => by
    by_cases c : i < s.length
    · rw [List.getElem?_append_left c] at q; exact q
    · rw [List.getElem?_append_right (by omega), List.getElem?_replicate] at q
      split at q
      · cases q; exact absurd rfl hx
      · cases q
  have hl : ∀ (i : Nat) (x : Slot), s[i]? = some x → (s ++ List.replicate n Slot.unset)[i]? = some x := fun i x q => by
    rw [List.getElem?_append_left (List.getElem?_eq_some_iff.mp q).1]; exact q
  refine ⟨fun i w h1 h2 => hl _ _ (h.1 _ _ (hk _ _ h1 (by simp)) h2), fun i h1 => ?_⟩
  obtain ⟨j, w, e1, e2, e3⟩ := h.2 _ (hk _ _ h1 (by simp))
  exact ⟨j, w, e1, hl _ _ e2, e3⟩
theorem slotsL_ok {am : List Addr} : ∀ {as ws : List Value}, SR am as ws → (entL as).length = (slotsL ws).length ∧ WFl (slotsL ws) ∧ ∀ (i : Nat) (v : Value), (entL as)[i]? = some (some v) → ∃ w, (slotsL ws)[i]? = some (Slot.val w) ∧ VR am v w
  | [], _, h => by cases h; exact ⟨rfl, WFl.nil, fun i v q => by simp [entL] at q⟩
  | v :: r, _, ⟨w, ws', e, r1, r2⟩ => by
    subst e
    obtain ⟨i1, i2, i3⟩ := slotsL_ok r2
    have hc := r1.cat
    by_cases h2 : ∃ x, v = .long x
    · obtain ⟨x, rfl⟩ := h2
      have hc2 : w.category = 2 := hc
      refine ⟨by simp [entL, slotsL, hc2, i1], by simp only [slotsL, hc2, if_true]; exact i2.two hc2, fun i u q => ?_⟩
      simp only [slotsL, hc2, if_true, entL] at q ⊢
      match i with
      | 0 => simp at q; subst q; exact ⟨w, by simp, r1⟩
      | 1 => simp at q
      | i + 2 => simp only [List.getElem?_cons_succ] at q ⊢; exact i3 i u q
    · have hv1 : OwnX.cat v = 1 := by cases v <;> first | rfl | (exact absurd ⟨_, rfl⟩ h2)
      have hc2 : ¬ w.category = 2 := by rw [hc, hv1]; decide
      have he : entL (v :: r) = some v :: entL r := by cases v <;> first | rfl | (exact absurd ⟨_, rfl⟩ h2)
      refine ⟨by simp [he, slotsL, hc2, i1], by simp only [slotsL, hc2, if_false]; exact i2.one hc2, fun i u q => ?_⟩
      rw [he] at q
      simp only [slotsL, hc2, if_false]
      match i with
      | 0 => simp at q; subst q; exact ⟨w, by simp, r1⟩
      | i + 1 => simp only [List.getElem?_cons_succ] at q ⊢; exact i3 i u q
theorem LR.entry {am : List Addr} {as ws : List Value} {n : Nat} (h : SR am as ws) (hn : (entL as).length ≤ n) : LR am (pad n (entL as)) (argsToLocals ws.toArray n) := by
  obtain ⟨h1, h2, h3⟩ := slotsL_ok h
  rw [argsToLocals_eq]
  have hw := h2.pad (n - (slotsL ws).length)
  refine ⟨by simp [pad, h1], ⟨fun i w q1 q2 => ?_, fun i q1 => ?_⟩, fun i v q => ?_⟩
  · rw [List.getElem?_toArray] at q1 ⊢; exact hw.1 _ _ q1 q2
  · rw [List.getElem?_toArray] at q1
    obtain ⟨j, w, e1, e2, e3⟩ := hw.2 _ q1
    exact ⟨j, w, e1, by rw [List.getElem?_toArray]; exact e2, e3⟩
  · have hi : i < (entL as).length := by
      by_cases c : i < (entL as).length
      · exact c
      · unfold pad at q
        rw [List.getElem?_append_right (by omega), List.getElem?_replicate] at q
        split at q
        · cases q
        · cases q
    unfold pad at q
    rw [List.getElem?_append_left hi] at q
    obtain ⟨w, e1, e2⟩ := h3 i v q
    exact ⟨w, by rw [List.getElem?_toArray, List.getElem?_append_left (by omega)]; exact e1, e2⟩
theorem entry_size {ws : List Value} {n : Nat} (h : (slotsL ws).length ≤ n) : (argsToLocals ws.toArray n).size = n := by
  rw [argsToLocals_eq]; simp; omega
/-! ## the heap -/
def aty : Nat → FieldType
  | 0 => .int
  | 1 => .int
  | 2 => .boolean
  | 3 => .byte
  | _ => .long
def CR (P : Prog) (C : String) (Z : State) (am : List Addr) (c : ACell) (h : Heap) (a : Addr) : Prop := match c with
  | .inl fs => Exa Z h a C ∧ fs.length = P.fields.length ∧ ∀ (j : Nat) (v : Value) (n d : String) (t : Nat) (f : Bool), fs[j]? = some v → P.fields[j]? = some (n, d, t, f) → ∃ w, VR am v w ∧ Fld Z h a C n d w
  | .inr (.inl (t, xs)) => ∃ cl, Arr Z h a cl (aty t) ∧ cl.slots.size = xs.length ∧ ∀ (j : Nat) (x : Int32), xs[j]? = some x → cl.slots[j]? = some (.int x)
  | .inr (.inr xs) => ∃ cl, Arr Z h a cl .long ∧ cl.slots.size = xs.length ∧ ∀ (j : Nat) (x : Int64), xs[j]? = some x → cl.slots[j]? = some (.long x)
def HR (P : Prog) (C : String) (Z : State) (n0 : Nat) (am : List Addr) (H : AHeap) (h : Heap) : Prop :=
  am.length = H.length ∧ (∀ (i j : Nat) (a : Addr), am[i]? = some a → am[j]? = some a → i = j) ∧ (∀ (i : Nat) (a : Addr), am[i]? = some a → a < h.size ∧ (P.ro ≤ i → n0 ≤ a)) ∧ ∀ (i : Nat) (c : ACell), H[i]? = some c → ∃ a, am[i]? = some a ∧ CR P C Z am c h a
section Heap
variable {P : Prog} {C : String} {Z : State} {n0 : Nat} {am am' : List Addr} {H : AHeap} {h h' : Heap} {a b : Addr} {c : ACell}
theorem CR.ext (E : Ext h h') (hp : Pre am am') (r : CR P C Z am c h a) : CR P C Z am' c h' a := by
  match c, r with
  | .inl fs, ⟨r1, r2, r3⟩ => exact ⟨r1.ext E, r2, fun j v n d t f q1 q2 => by obtain ⟨w, e1, e2⟩ := r3 j v n d t f q1 q2; exact ⟨w, e1.mono hp, e2.ext E⟩⟩
  | .inr (.inl (t, xs)), ⟨cl, r1, r2⟩ => exact ⟨cl, r1.ext E, r2⟩
  | .inr (.inr xs), ⟨cl, r1, r2⟩ => exact ⟨cl, r1.ext E, r2⟩
theorem CR.other {sl : Nat} {v : Value} (W : Wr h h' b sl v) (hne : a ≠ b) (r : CR P C Z am c h a) : CR P C Z am c h' a := by
  match c, r with
  | .inl fs, ⟨r1, r2, r3⟩ => exact ⟨r1.wr W, r2, fun j v n d t f q1 q2 => by obtain ⟨w, e1, e2⟩ := r3 j v n d t f q1 q2; exact ⟨w, e1, e2.other W (Or.inl hne)⟩⟩
  | .inr (.inl (t, xs)), ⟨cl, r1, r2⟩ => exact ⟨cl, r1.other W hne, r2⟩
  | .inr (.inr xs), ⟨cl, r1, r2⟩ => exact ⟨cl, r1.other W hne, r2⟩
/-- a new cell -/
theorem HR.push (E : Ext h h') (r : HR P C Z n0 am H h) (hlt : h.size < h'.size) (hn : n0 ≤ h.size) (hc : CR P C Z (am ++ [h.size]) c h' h.size) : HR P C Z n0 (am ++ [h.size]) (H ++ [c]) h' := by
  obtain ⟨r1, r2, r3, r4⟩ := r
  have hin : ∀ (i : Nat) (x : Addr), (am ++ [h.size])[i]? = some x → (am[i]? = some x ∧ i < am.length) ∨ (i = am.length ∧ x = h.size) := fun i x q => by
    by_cases ci : i < am.length
    · rw [List.getElem?_append_left ci] at q; exact Or.inl ⟨q, ci⟩
    · rw [List.getElem?_append_right (by omega)] at q
      have : i - am.length = 0 := by
        by_cases z : i - am.length = 0
        · exact z
        · rw [List.getElem?_eq_none (by simp; omega)] at q; cases q
      rw [this] at q
      simp at q
      exact Or.inr ⟨by omega, q.symm⟩
  refine ⟨by simp [r1], fun i j x q1 q2 => ?_, fun i x q => ?_, fun i d q => ?_⟩
  · rcases hin i x q1 with ⟨u1, u2⟩ | ⟨u1, u2⟩ <;> rcases hin j x q2 with ⟨v1, v2⟩ | ⟨v1, v2⟩
    · exact r2 _ _ _ u1 v1
    · subst v2; exact absurd (r3 _ _ u1).1 (Nat.lt_irrefl _)
    · subst u2; exact absurd (r3 _ _ v1).1 (Nat.lt_irrefl _)
    · omega
  · rcases hin i x q with ⟨u1, u2⟩ | ⟨u1, u2⟩
    · have := r3 _ _ u1; exact ⟨Nat.lt_of_lt_of_le this.1 E.1, this.2⟩
    · subst u2; exact ⟨hlt, fun _ => hn⟩
  · by_cases ci : i < H.length
    · rw [List.getElem?_append_left ci] at q
      obtain ⟨x, e1, e2⟩ := r4 i d q
      exact ⟨x, Pre.app am _ _ _ e1, e2.ext E (Pre.app am _)⟩
    · rw [List.getElem?_append_right (by omega)] at q
      have : i - H.length = 0 := by
        by_cases z : i - H.length = 0
        · exact z
        · rw [List.getElem?_eq_none (by simp; omega)] at q; cases q
      rw [this] at q
      simp at q; subst q
      have e : i = am.length := by omega
      exact ⟨h.size, by rw [e]; simp, hc⟩
/-- a cell changed in place -/
theorem HR.upd {i sl : Nat} {v : Value} (W : Wr h h' a sl v) (r : HR P C Z n0 am H h) (hi : am[i]? = some a) (hc : CR P C Z am c h' a) : HR P C Z n0 am (H.set i c) h' := by
  obtain ⟨r1, r2, r3, r4⟩ := r
  refine ⟨by simp [r1], r2, fun j x q => by rw [W.size]; exact r3 _ _ q, fun j d q => ?_⟩
  rw [List.getElem?_set] at q
  by_cases e : i = j
  · subst e
    simp only [if_true] at q
    split at q
    · cases q; exact ⟨a, hi, hc⟩
    · cases q
  · rw [if_neg e] at q
    obtain ⟨x, e1, e2⟩ := r4 j d q
    exact ⟨x, e1, e2.other W fun q => e (r2 _ _ _ hi (q ▸ e1))⟩
theorem inb_spec {n : Nat} {j : Int32} (h : inb n j = true) : ¬ (j < 0 ∨ n ≤ j.toNatClampNeg) := by
  simp only [inb, Bool.and_eq_true, Bool.not_eq_true', decide_eq_false_iff_not] at h
  have h2 : j.toNatClampNeg < n := Nat.le_of_ble_eq_true h.2
  rintro (q | q)
  · exact h.1 q
  · omega
theorem inb_lt {n : Nat} {j : Int32} (h : inb n j = true) : j.toNatClampNeg < n := by
  have := inb_spec h; exact Nat.lt_of_not_le fun q => this (Or.inr q)
theorem rd_at {xs : List Int32} {j : Int32} (h : inb xs.length j = true) : xs[j.toNatClampNeg]? = some (rd xs j) := by
  rw [rd, List.getD_eq_getElem?_getD, List.getElem?_eq_getElem (inb_lt h)]; rfl
theorem rdL_at {xs : List Int64} {j : Int32} (h : inb xs.length j = true) : xs[j.toNatClampNeg]? = some (rdL xs j) := by
  rw [rdL, List.getD_eq_getElem?_getD, List.getElem?_eq_getElem (inb_lt h)]; rfl
theorem CR.wrI {t : Nat} {xs : List Int32} {j x : Int32} (W : Wr h h' a j.toNatClampNeg (.int x)) (r : CR P C Z am (.inr (.inl (t, xs))) h a) : CR P C Z am (.inr (.inl (t, wr xs j x))) h' a := by
  obtain ⟨cl, r1, r2, r3⟩ := r
  refine ⟨_, r1.same W, by rw [sz_set, r2]; simp [wr], fun i y q => ?_⟩
  unfold wr at q
  rw [List.getElem?_set] at q
  by_cases e : j.toNatClampNeg = i
  · rw [if_pos e] at q
    split at q
    · cases q; subst e
      have hs : j.toNatClampNeg < cl.slots.size := by omega
      simp [Cell.setSlot, hs]
    · cases q
  · rw [if_neg e] at q
    simp only [Cell.setSlot]
    rw [Array.getElem?_setIfInBounds_ne e]; exact r3 _ _ q
theorem CR.wrJ {xs : List Int64} {j : Int32} {x : Int64} (W : Wr h h' a j.toNatClampNeg (.long x)) (r : CR P C Z am (.inr (.inr xs)) h a) : CR P C Z am (.inr (.inr (wrL xs j x))) h' a := by
  obtain ⟨cl, r1, r2, r3⟩ := r
  refine ⟨_, r1.same W, by rw [sz_set, r2]; simp [wrL], fun i y q => ?_⟩
  unfold wrL at q
  rw [List.getElem?_set] at q
  by_cases e : j.toNatClampNeg = i
  · rw [if_pos e] at q
    split at q
    · cases q; subst e
      have hs : j.toNatClampNeg < cl.slots.size := by omega
      simp [Cell.setSlot, hs]
    · cases q
  · rw [if_neg e] at q
    simp only [Cell.setSlot]
    rw [Array.getElem?_setIfInBounds_ne e]; exact r3 _ _ q
end Heap
/-! ## what the sheet's words must say -/
def tyOk : Nat → FieldType → Bool
  | 0, .int => true
  | 1, .boolean => true
  | 2, .long => true
  | 3, .array _ => true
  | _, _ => false
def rcv (q : Nat) : Nat := match q with | 0 => 0 | _ => 1
def KindOk (P : Prog) (nm : Nat → MethodName) (C : String) (Z : State) (a0 : Array Value) (q k : Nat) : Prop := match q with
  | 0 => (Cond.static (nm k)).before a0 Z = true
  | 1 => (nm k).name = "<init>" ∧ (Cond.instanceMethod (nm k)).before a0 Z = true ∧ P.ret k = none
  | 2 => (Cond.declares (nm k)).before a0 Z = true ∧ (Cond.instanceMethod (nm k)).before a0 Z = true ∧ (Cond.selects C (nm k) (nm k)).before a0 Z = true
  | _ => (nm k).cls = C ∧ (Cond.instanceMethod (nm k)).before a0 Z = true ∧ (Cond.privateMethod (nm k)).before a0 Z = true
def CallOk (P : Prog) (nm : Nat → MethodName) (bc : Nat → ByteArray) (cn : Nat → String) (C : String) (Z : State) (a0 : Array Value) (c j q k : Nat) : Prop :=
  (Cond.methodLink (cn c) j (nm k)).before a0 Z = true ∧ (Cond.code (nm k) (bc k) (P.maxL k) (P.ret k)).before a0 Z = true ∧ (Cond.initialized (nm k).cls).before a0 Z = true ∧
      (∃ ps r, parseMethodDescriptor (nm k).desc = some ⟨ps, r⟩ ∧ P.pops k = ps.length + rcv q) ∧ plainName (nm k).cls = true ∧ ((nm k).cls ≠ "java/lang/invoke/MethodHandle" ∧ (nm k).cls ≠ "java/lang/invoke/VarHandle") ∧ (nm k).cls = cn (P.cls k) ∧ (P.ini k = true → (nm k).name = "<init>" ∧ (nm k).cls = C) ∧ KindOk P nm C Z a0 q k
def LinkOk (P : Prog) (nm : Nat → MethodName) (bc : Nat → ByteArray) (cn : Nat → String) (C : String) (Z : State) (a0 : Array Value) (c j q k : Nat) : Prop := match q with
  | 4 => (Cond.methodLink (cn c) j Lib.objectInit).before a0 Z = true ∧ (Cond.instanceMethod Lib.objectInit).before a0 Z = true ∧ (Cond.code Lib.objectInit ⟨#[0xb1]⟩ 1 none).before a0 Z = true
  | 5 => (Cond.classLink (cn c) j C).before a0 Z = true
  | q => CallOk P nm bc cn C Z a0 c j q k
def KonOk (cn : Nat → String) (Z : State) (a0 : Array Value) (c j : Nat) (v : Value) : Prop := match v with
  | .int x => (Cond.constant (cn c) j x).before a0 Z = true
  | .long x => (Cond.constantLong (cn c) j x).before a0 Z = true
  | _ => False
def Good (P : Prog) (nm : Nat → MethodName) (bc : Nat → ByteArray) (cn : Nat → String) (C : String) (Z : State) (a0 : Array Value) : Prop :=
  (∀ k pc i np, P.code k pc = some (i, np) → ∃ len, decode (bc k) pc = .ok (i, len) ∧ np = pc + len ∧ (ilen i = 0 ∨ len = ilen i)) ∧
  (∀ c j f, P.fld c j = some f → ∃ n d t fin, P.fields[f]? = some (n, d, t, fin) ∧ (Cond.fieldLink (cn c) j C n d).before a0 Z = true) ∧
  (∀ (f : Nat) n d t (fin : Bool), P.fields[f]? = some (n, d, t, fin) → (bif fin then (Cond.laysFinal C C n d).before a0 Z else (Cond.lays C C n d).before a0 Z) = true ∧ ∃ ty, parseFieldDescriptor d = some ty ∧ tyOk t ty = true ∧ defaultValue ty = dflt t) ∧
  (∀ (f g : Nat) n d t (fin : Bool) n' d' t' (fin' : Bool), P.fields[f]? = some (n, d, t, fin) → P.fields[g]? = some (n', d', t', fin') → f ≠ g → n ≠ n') ∧
  (∀ c j v, P.kon c j = some v → KonOk cn Z a0 c j v) ∧
  (Cond.instantiable C P.objN).before a0 Z = true ∧ (Cond.initialized C).before a0 Z = true ∧
  (∀ k pc t np, P.code k pc = some (.newarray t, np) → (Cond.arrayClass (newarray.typeOf t)).before a0 Z = true) ∧
  (∀ c j q k, P.link c j = some (q, k) → LinkOk P nm bc cn C Z a0 c j q k)
end Jvm.OwnX
namespace Jvm.OwnX
open Sem ClassFile Op Lib Jvm.Stand Jvm.Free Jvm.LawKit Jvm.RoadKit
section Sound
variable {p : Program} {l : Launch} {e : Env} {R : Room} {s : State} {m : MethodId} {args : Array Value} {below : List Frame} {meth : Method} {c : Code} {T : State} {locs : List Loc} {cells slots : Nat}
variable {P : Prog} {nm : Nat → MethodName} {bc : Nat → ByteArray} {cn : Nat → String} {C : String} {Z : State} {a0 : Array Value} {n0 : Nat}
/-- where the walk stands behind a step -/
def Behind (p : Program) (l : Launch) (e : Env) (R : Room) (s : State) (m : MethodId) (args : Array Value) (below : List Frame) (meth : Method) (c : Code) (P : Prog) (C : String) (Z : State) (n0 : Nat) (am : List Addr) (cells slots : Nat)
    (T : State) (pc : Nat) (ls : Array Slot) (st : List Value) (pc' : Nat) (L' : ALoc) (S' : List Value) (H' : AHeap) (dc ds : Nat) : Prop :=
  ∃ T' am' ls' st' locs', Stand p l e R s m args below meth c T' locs' (cells + dc) (slots + ds) ∧ LR am' L' ls' ∧ ls'.size = ls.size ∧ SR am' S' st' ∧ HR P C Z n0 am' H' T'.heap ∧ Pre am am' ∧ Fr n0 locs' ∧ n0 ≤ T'.heap.size ∧
    ∀ target, Steps p.tables e below (T'.setTop (mkF m pc' ls' st')) target → Steps p.tables e below (T.setTop (mkF m pc ls st)) target
theorem Behind.plain {am : List Addr} {H : AHeap} {pc pc' : Nat} {L' : ALoc} {S' : List Value} {ls ls' : Array Slot} {st st' : List Value} (X : Stand p l e R s m args below meth c T locs cells slots) (hL : LR am L' ls') (hz : ls'.size = ls.size) (hS : SR am S' st') (hH : HR P C Z n0 am H T.heap) (hF : Fr n0 locs) (hn : n0 ≤ T.heap.size)
    (hs : ∀ target, Steps p.tables e below (T.setTop (mkF m pc' ls' st')) target → Steps p.tables e below (T.setTop (mkF m pc ls st)) target) : Behind p l e R s m args below meth c P C Z n0 am cells slots T pc ls st pc' L' S' H (H.length - H.length) (hsz P H - hsz P H) :=
  ⟨T, am, ls', st', locs, by simpa using X, hL, hz, hS, hH, Pre.refl _, hF, hn, hs⟩
theorem Behind.plain' {T' : State} {am : List Addr} {H : AHeap} {pc pc' : Nat} {L' : ALoc} {S' : List Value} {ls ls' : Array Slot} {st st' : List Value} (X : Stand p l e R s m args below meth c T' locs cells slots) (eT : T'.heap = T.heap) (hL : LR am L' ls') (hz : ls'.size = ls.size) (hS : SR am S' st') (hH : HR P C Z n0 am H T.heap) (hF : Fr n0 locs) (hn : n0 ≤ T.heap.size)
    (hs : ∀ target, Steps p.tables e below (T'.setTop (mkF m pc' ls' st')) target → Steps p.tables e below (T.setTop (mkF m pc ls st)) target) : Behind p l e R s m args below meth c P C Z n0 am cells slots T pc ls st pc' L' S' H (H.length - H.length) (hsz P H - hsz P H) :=
  ⟨T', am, ls', st', locs, by simpa using X, hL, hz, hS, by rw [eT]; exact hH, Pre.refl _, hF, by rw [eT]; exact hn, hs⟩
theorem tgt_spec {pc t : Nat} {o : Int} (h : tgt pc o = some t) : 0 ≤ (pc : Int) + o ∧ ((pc : Int) + o).toNat = t := by
  unfold tgt at h
  split at h
  · rename_i n hn; cases h; rw [hn]; exact ⟨Int.natCast_nonneg _, rfl⟩
  · cases h
theorem hsz_app (P : Prog) : ∀ (H : AHeap) (c : ACell), hsz P (H ++ [c]) = hsz P H + csz P.objN c
  | [], c => by simp [hsz]
  | x :: r, c => by simp only [List.cons_append, hsz, hsz_app P r c]; omega
theorem hsz_append (P : Prog) : ∀ (H T : AHeap), hsz P (H ++ T) = hsz P H + hsz P T
  | [], T => by simp [hsz]
  | x :: r, T => by simp only [List.cons_append, hsz, hsz_append P r T]; omega
theorem hsz_set (P : Prog) : ∀ (H : AHeap) (i : Nat) (c c' : ACell), H[i]? = some c' → csz P.objN c = csz P.objN c' → hsz P (H.set i c) = hsz P H
  | [], i, c, c', h, _ => by simp at h
  | x :: r, 0, c, c', h, e => by simp at h; subst h; simp [hsz, e]
  | x :: r, i + 1, c, c', h, e => by simp only [List.set_cons_succ, hsz]; rw [List.getElem?_cons_succ] at h; rw [hsz_set P r i c c' h e]
/-- a write -/
theorem Behind.write {T' : State} {am : List Addr} {H : AHeap} {i sl : Nat} {cc cc' : ACell} {a : Addr} {w : Value} {h' : Heap} {pc pc' : Nat} {L' : ALoc} {S' : List Value} {ls : Array Slot} {st st' : List Value} (X : Stand p l e R s m args below meth c T' (locs ++ [⟨a, sl⟩]) cells slots) (eT : T'.heap = h') (W : Wr T.heap h' a sl w)
    (hL : LR am L' ls) (hS : SR am S' st') (hH : HR P C Z n0 am H T.heap) (hi : am[i]? = some a) (hro : P.ro ≤ i) (hc' : H[i]? = some cc') (hcs : csz P.objN cc = csz P.objN cc') (hC : CR P C Z am cc h' a) (hF : Fr n0 locs) (hn : n0 ≤ T.heap.size)
    (hs : ∀ target, Steps p.tables e below (T'.setTop (mkF m pc' ls st')) target → Steps p.tables e below (T.setTop (mkF m pc ls st)) target) :
    Behind p l e R s m args below meth c P C Z n0 am cells slots T pc ls st pc' L' S' (H.set i cc) ((H.set i cc).length - H.length) (hsz P (H.set i cc) - hsz P H) := by
  rw [hsz_set P H i cc cc' hc' hcs]
  refine ⟨T', am, ls, st', _, by simpa using X, hL, rfl, hS, by rw [eT]; exact hH.upd W hi hC, Pre.refl _, Fr.snoc X hF ((hH.2.2.1 _ _ hi).2 hro), by rw [eT, W.size]; exact hn, hs⟩
theorem arr_new {am : List Addr} {h h' : Heap} {cA : ClassId} {q : Nat} {n : Int32} {t : ArrayType} (ht : atyOf t = some q) (hn : ¬ n < 0) (A : Arr Z h' h.size (newA cA (newarray.typeOf t) n) (newarray.typeOf t)) : CR P C Z am (newC q n.toNatClampNeg) h' h.size := by
  have key : ∀ {d : Value}, ∀ j, (Array.replicate n.toNatClampNeg d)[j]? = if j < n.toNatClampNeg then some d else none := fun j => by rw [Array.getElem?_replicate]
  cases t <;> simp only [atyOf, Option.some.injEq, reduceCtorEq] at ht <;> subst ht
  · refine ⟨_, A, by simp [newA], fun j x q => ?_⟩
    rw [List.getElem?_replicate] at q
    split at q
    · cases q; simp only [newA]; rw [key, if_pos (by assumption)]; rfl
    · cases q
  · refine ⟨_, A, by simp [newA], fun j x q => ?_⟩
    rw [List.getElem?_replicate] at q
    split at q
    · cases q; simp only [newA]; rw [key, if_pos (by assumption)]; rfl
    · cases q
  · refine ⟨_, A, by simp [newA], fun j x q => ?_⟩
    rw [List.getElem?_replicate] at q
    split at q
    · cases q; simp only [newA]; rw [key, if_pos (by assumption)]; rfl
    · cases q
  · refine ⟨_, A, by simp [newA], fun j x q => ?_⟩
    rw [List.getElem?_replicate] at q
    split at q
    · cases q; simp only [newA]; rw [key, if_pos (by assumption)]; rfl
    · cases q
theorem csz_new {t : ArrayType} {q : Nat} (N n : Nat) (ht : atyOf t = some q) : csz N (newC q n) = n := by
  cases t <;> simp only [atyOf, Option.some.injEq, reduceCtorEq] at ht <;> subst ht <;> simp [newC, csz]
set_option maxHeartbeats 4000000 in
theorem step_sound (G : Good P nm bc cn C Z a0) {k pc np pc' : Nat} {i : Instr} {L L' : ALoc} {S S' : List Value} {H H' : AHeap} (hcode : P.code k pc = some (i, np)) (h : step P k i np pc L S H = some (pc', L', S', H'))
    (X : Stand p l e R s m args below meth c T locs cells slots) (hx : p.tables.exec = Jvm.exec) (hZ : Z.Warmed39 s.vm) (hby : c.code = bc k) (hml : c.maxLocals = P.maxL k) (hown : s.vm.findClass (cn (P.cls k)) = some m.cls) (hini : P.ini k = true → meth.name = "<init>" ∧ cn (P.cls k) = C)
    (hrf : P.rf k ≤ R.frames) (hrl : P.rl k ≤ R.locals) (hcells : cells + (H'.length - H.length) ≤ R.cells) (hslots : slots + (hsz P H' - hsz P H) ≤ R.slots) {am : List Addr} {ls : Array Slot} {st : List Value} (hlz : ls.size = P.maxL k) (hL : LR am L ls) (hS : SR am S st) (hH : HR P C Z n0 am H T.heap) (hF : Fr n0 locs) (hn : n0 ≤ T.heap.size) :
    Behind p l e R s m args below meth c P C Z n0 am cells slots T pc ls st pc' L' S' H' (H'.length - H.length) (hsz P H' - hsz P H) := by
  obtain ⟨G1, G2, G3, G4, G5, G6, G7, G8, G9⟩ := G
  obtain ⟨len, hdec, rfl, hlen⟩ := G1 _ _ _ _ hcode
  have hd : decode c.code pc = .ok (i, len) := by rw [hby]; exact hdec
  cases i
  case iload_n n =>
    simp only [step] at h
    obtain rfl := hlen.resolve_left (by simp [ilen])
    cases hl : loadI L n.val with
    | none => simp [hl] at h
    | some x =>
      simp only [hl, Option.some.injEq, Prod.mk.injEq] at h; obtain ⟨rfl, rfl, rfl, rfl⟩ := h
      exact Behind.plain X hL rfl ⟨_, _, rfl, rfl, hS⟩ hH hF hn fun target hr => XS.iloadN X.here hx rfl (g := mkF m pc ls st) hd (hL.int hl) hr
  case iload n =>
    simp only [step] at h
    obtain rfl := hlen.resolve_left (by simp [ilen])
    cases hl : loadI L n with
    | none => simp [hl] at h
    | some x =>
      simp only [hl, Option.some.injEq, Prod.mk.injEq] at h; obtain ⟨rfl, rfl, rfl, rfl⟩ := h
      exact Behind.plain X hL rfl ⟨_, _, rfl, rfl, hS⟩ hH hF hn fun target hr => XS.iload X.here hx rfl (g := mkF m pc ls st) hd (hL.int hl) hr
  case lload_n n =>
    simp only [step] at h
    obtain rfl := hlen.resolve_left (by simp [ilen])
    cases hl : loadJ L n.val with
    | none => simp [hl] at h
    | some x =>
      simp only [hl, Option.some.injEq, Prod.mk.injEq] at h; obtain ⟨rfl, rfl, rfl, rfl⟩ := h
      exact Behind.plain X hL rfl ⟨_, _, rfl, rfl, hS⟩ hH hF hn fun target hr => XS.lloadN X.here hx rfl (g := mkF m pc ls st) hd (hL.long hl) hr
  case lload n =>
    simp only [step] at h
    obtain rfl := hlen.resolve_left (by simp [ilen])
    cases hl : loadJ L n with
    | none => simp [hl] at h
    | some x =>
      simp only [hl, Option.some.injEq, Prod.mk.injEq] at h; obtain ⟨rfl, rfl, rfl, rfl⟩ := h
      exact Behind.plain X hL rfl ⟨_, _, rfl, rfl, hS⟩ hH hF hn fun target hr => XS.lload X.here hx rfl (g := mkF m pc ls st) hd (hL.long hl) hr
  case aload_n n =>
    simp only [step] at h
    obtain rfl := hlen.resolve_left (by simp [ilen])
    cases hl : loadA L n.val with
    | none => simp [hl] at h
    | some x =>
      simp only [hl, Option.some.injEq, Prod.mk.injEq] at h; obtain ⟨rfl, rfl, rfl, rfl⟩ := h
      obtain ⟨a, ha, hl'⟩ := hL.ref hl
      exact Behind.plain X hL rfl ⟨_, _, rfl, ⟨a, ha, rfl⟩, hS⟩ hH hF hn fun target hr => XS.aloadN X.here hx rfl (g := mkF m pc ls st) hd hl' rfl hr
  case aload n =>
    simp only [step] at h
    obtain rfl := hlen.resolve_left (by simp [ilen])
    cases hl : loadA L n with
    | none => simp [hl] at h
    | some x =>
      simp only [hl, Option.some.injEq, Prod.mk.injEq] at h; obtain ⟨rfl, rfl, rfl, rfl⟩ := h
      obtain ⟨a, ha, hl'⟩ := hL.ref hl
      exact Behind.plain X hL rfl ⟨_, _, rfl, ⟨a, ha, rfl⟩, hS⟩ hH hF hn fun target hr => XS.aload X.here hx rfl (g := mkF m pc ls st) hd hl' rfl hr
  case istore_n n =>
    simp only [step] at h
    obtain rfl := hlen.resolve_left (by simp [ilen])
    split at h
    · rename_i x r
      cases hl : lput L n.val (.int x) with
      | none => simp [hl] at h
      | some L2 =>
        simp only [hl, Option.some.injEq, Prod.mk.injEq] at h; obtain ⟨rfl, rfl, rfl, rfl⟩ := h
        obtain ⟨_, _, rfl, rfl, hr'⟩ := hS
        obtain ⟨l', h1, h2, h3⟩ := hL.put (w := .int x) hl rfl rfl
        exact Behind.plain X h3 h2 hr' hH hF hn fun target hr => XS.istoreN X.here hx rfl (g := mkF m pc ls _) hd rfl h1 hr
    · cases h
  case istore n =>
    simp only [step] at h
    obtain rfl := hlen.resolve_left (by simp [ilen])
    split at h
    · rename_i x r
      cases hl : lput L n (.int x) with
      | none => simp [hl] at h
      | some L2 =>
        simp only [hl, Option.some.injEq, Prod.mk.injEq] at h; obtain ⟨rfl, rfl, rfl, rfl⟩ := h
        obtain ⟨_, _, rfl, rfl, hr'⟩ := hS
        obtain ⟨l', h1, h2, h3⟩ := hL.put (w := .int x) hl rfl rfl
        exact Behind.plain X h3 h2 hr' hH hF hn fun target hr => XS.istore X.here hx rfl (g := mkF m pc ls _) hd rfl h1 hr
    · cases h
  case lstore_n n =>
    simp only [step] at h
    obtain rfl := hlen.resolve_left (by simp [ilen])
    split at h
    · rename_i x r
      cases hl : lputL L n.val x with
      | none => simp [hl] at h
      | some L2 =>
        simp only [hl, Option.some.injEq, Prod.mk.injEq] at h; obtain ⟨rfl, rfl, rfl, rfl⟩ := h
        obtain ⟨_, _, rfl, rfl, hr'⟩ := hS
        obtain ⟨l', h1, h2, h3⟩ := hL.putL hl
        exact Behind.plain X h3 h2 hr' hH hF hn fun target hr => XS.lstoreN X.here hx rfl (g := mkF m pc ls _) hd rfl h1 hr
    · cases h
  case lstore n =>
    simp only [step] at h
    obtain rfl := hlen.resolve_left (by simp [ilen])
    split at h
    · rename_i x r
      cases hl : lputL L n x with
      | none => simp [hl] at h
      | some L2 =>
        simp only [hl, Option.some.injEq, Prod.mk.injEq] at h; obtain ⟨rfl, rfl, rfl, rfl⟩ := h
        obtain ⟨_, _, rfl, rfl, hr'⟩ := hS
        obtain ⟨l', h1, h2, h3⟩ := hL.putL hl
        exact Behind.plain X h3 h2 hr' hH hF hn fun target hr => XS.lstore X.here hx rfl (g := mkF m pc ls _) hd rfl h1 hr
    · cases h
  case astore_n n =>
    simp only [step] at h
    obtain rfl := hlen.resolve_left (by simp [ilen])
    split at h
    · rename_i x r
      cases hl : lput L n.val (.ref x) with
      | none => simp [hl] at h
      | some L2 =>
        simp only [hl, Option.some.injEq, Prod.mk.injEq] at h; obtain ⟨rfl, rfl, rfl, rfl⟩ := h
        obtain ⟨_, _, rfl, ⟨a, ha, rfl⟩, hr'⟩ := hS
        obtain ⟨l', h1, h2, h3⟩ := hL.put (w := .ref a) hl ⟨a, ha, rfl⟩ rfl
        exact Behind.plain X h3 h2 hr' hH hF hn fun target hr => XS.astoreN X.here hx rfl (g := mkF m pc ls _) hd rfl rfl h1 hr
    · cases h
  case astore n =>
    simp only [step] at h
    obtain rfl := hlen.resolve_left (by simp [ilen])
    split at h
    · rename_i x r
      cases hl : lput L n (.ref x) with
      | none => simp [hl] at h
      | some L2 =>
        simp only [hl, Option.some.injEq, Prod.mk.injEq] at h; obtain ⟨rfl, rfl, rfl, rfl⟩ := h
        obtain ⟨_, _, rfl, ⟨a, ha, rfl⟩, hr'⟩ := hS
        obtain ⟨l', h1, h2, h3⟩ := hL.put (w := .ref a) hl ⟨a, ha, rfl⟩ rfl
        exact Behind.plain X h3 h2 hr' hH hF hn fun target hr => XS.astore X.here hx rfl (g := mkF m pc ls _) hd rfl rfl h1 hr
    · cases h
  case iinc n cst =>
    simp only [step] at h
    obtain rfl := hlen.resolve_left (by simp [ilen])
    cases hl : loadI L n with
    | none => simp [hl] at h
    | some x =>
      cases hp : lput L n (.int (x + Int32.ofInt cst)) with
      | none => simp [hl, hp] at h
      | some L2 =>
        simp only [hl, hp, Option.some.injEq, Prod.mk.injEq] at h; obtain ⟨rfl, rfl, rfl, rfl⟩ := h
        obtain ⟨l', h1, h2, h3⟩ := hL.put (w := .int (x + Int32.ofInt cst)) hp rfl rfl
        exact Behind.plain X h3 h2 hS hH hF hn fun target hr => XS.iinc X.here hx rfl (g := mkF m pc ls st) hd (hL.int hl) h1 hr
  case iconst q =>
    simp only [step] at h
    obtain rfl := hlen.resolve_left (by simp [ilen])
    simp only [Option.some.injEq, Prod.mk.injEq] at h; obtain ⟨rfl, rfl, rfl, rfl⟩ := h
    exact Behind.plain X hL rfl ⟨_, _, rfl, rfl, hS⟩ hH hF hn fun target hr => XS.iconst X.here hx rfl (g := mkF m pc ls st) hd hr
  case bipush q =>
    simp only [step] at h
    obtain rfl := hlen.resolve_left (by simp [ilen])
    simp only [Option.some.injEq, Prod.mk.injEq] at h; obtain ⟨rfl, rfl, rfl, rfl⟩ := h
    exact Behind.plain X hL rfl ⟨_, _, rfl, rfl, hS⟩ hH hF hn fun target hr => XS.bipush X.here hx rfl (g := mkF m pc ls st) hd hr
  case sipush q =>
    simp only [step] at h
    obtain rfl := hlen.resolve_left (by simp [ilen])
    simp only [Option.some.injEq, Prod.mk.injEq] at h; obtain ⟨rfl, rfl, rfl, rfl⟩ := h
    exact Behind.plain X hL rfl ⟨_, _, rfl, rfl, hS⟩ hH hF hn fun target hr => XS.sipush X.here hx rfl (g := mkF m pc ls st) hd hr
  case lconst q =>
    simp only [step] at h
    obtain rfl := hlen.resolve_left (by simp [ilen])
    simp only [Option.some.injEq, Prod.mk.injEq] at h; obtain ⟨rfl, rfl, rfl, rfl⟩ := h
    exact Behind.plain X hL rfl ⟨_, _, rfl, rfl, hS⟩ hH hF hn fun target hr => XS.lconst X.here hx rfl (g := mkF m pc ls st) hd hr
  case ldc j =>
    simp only [step] at h
    obtain rfl := hlen.resolve_left (by simp [ilen])
    split at h
    · rename_i x hk
      simp only [Option.some.injEq, Prod.mk.injEq] at h; obtain ⟨rfl, rfl, rfl, rfl⟩ := h
      have w := G5 _ _ _ hk
      exact Behind.plain X hL rfl ⟨_, _, rfl, rfl, hS⟩ hH hF hn fun target hr => X.ldcInt hx hown (mvT hZ w) (g := mkF m pc ls st) rfl hd _ hr
    · cases h
  case ldc2_w j =>
    simp only [step] at h
    obtain rfl := hlen.resolve_left (by simp [ilen])
    split at h
    · rename_i x hk
      simp only [Option.some.injEq, Prod.mk.injEq] at h; obtain ⟨rfl, rfl, rfl, rfl⟩ := h
      have w := G5 _ _ _ hk
      exact Behind.plain X hL rfl ⟨_, _, rfl, rfl, hS⟩ hH hF hn fun target hr => X.ldc2Long hx hown (mvT hZ w) (g := mkF m pc ls st) rfl hd _ hr
    · cases h
  case idiv =>
    simp only [step] at h
    obtain rfl := hlen.resolve_left (by simp [ilen])
    split at h
    · rename_i y x r
      by_cases hy : y = 0
      · simp [hy] at h
      · simp only [hy, decide_false, cond_false, Option.some.injEq, Prod.mk.injEq] at h; obtain ⟨rfl, rfl, rfl, rfl⟩ := h
        obtain ⟨_, _, rfl, rfl, _, _, rfl, rfl, hr'⟩ := hS
        exact Behind.plain X hL rfl ⟨_, _, rfl, rfl, hr'⟩ hH hF hn fun target hr => XS.idiv X.here hx rfl (g := mkF m pc ls _) hd rfl hy hr
    · cases h
  case irem =>
    simp only [step] at h
    obtain rfl := hlen.resolve_left (by simp [ilen])
    split at h
    · rename_i y x r
      by_cases hy : y = 0
      · simp [hy] at h
      · simp only [hy, decide_false, cond_false, Option.some.injEq, Prod.mk.injEq] at h; obtain ⟨rfl, rfl, rfl, rfl⟩ := h
        obtain ⟨_, _, rfl, rfl, _, _, rfl, rfl, hr'⟩ := hS
        exact Behind.plain X hL rfl ⟨_, _, rfl, rfl, hr'⟩ hH hF hn fun target hr => iremM X hx rfl (g := mkF m pc ls _) hd rfl hy hr
    · cases h
  case lshl =>
    simp only [step] at h
    obtain rfl := hlen.resolve_left (by simp [ilen])
    split at h
    · rename_i y x r
      simp only [Option.some.injEq, Prod.mk.injEq] at h; obtain ⟨rfl, rfl, rfl, rfl⟩ := h
      obtain ⟨_, _, rfl, rfl, _, _, rfl, rfl, hr'⟩ := hS
      exact Behind.plain X hL rfl ⟨_, _, rfl, rfl, hr'⟩ hH hF hn fun target hr => XS.lshl X.here hx rfl (g := mkF m pc ls _) hd rfl hr
    · cases h
  case lushr =>
    simp only [step] at h
    obtain rfl := hlen.resolve_left (by simp [ilen])
    split at h
    · rename_i y x r
      simp only [Option.some.injEq, Prod.mk.injEq] at h; obtain ⟨rfl, rfl, rfl, rfl⟩ := h
      obtain ⟨_, _, rfl, rfl, _, _, rfl, rfl, hr'⟩ := hS
      exact Behind.plain X hL rfl ⟨_, _, rfl, rfl, hr'⟩ hH hF hn fun target hr => XS.lushr X.here hx rfl (g := mkF m pc ls _) hd rfl hr
    · cases h
  case lcmp =>
    simp only [step] at h
    obtain rfl := hlen.resolve_left (by simp [ilen])
    split at h
    · rename_i y x r
      simp only [Option.some.injEq, Prod.mk.injEq] at h; obtain ⟨rfl, rfl, rfl, rfl⟩ := h
      obtain ⟨_, _, rfl, rfl, _, _, rfl, rfl, hr'⟩ := hS
      exact Behind.plain X hL rfl ⟨_, _, rfl, rfl, hr'⟩ hH hF hn fun target hr => XS.lcmp X.here hx rfl (g := mkF m pc ls _) hd rfl hr
    · cases h
  case lneg =>
    simp only [step] at h
    obtain rfl := hlen.resolve_left (by simp [ilen])
    split at h
    · rename_i x r
      simp only [Option.some.injEq, Prod.mk.injEq] at h; obtain ⟨rfl, rfl, rfl, rfl⟩ := h
      obtain ⟨_, _, rfl, rfl, hr'⟩ := hS
      exact Behind.plain X hL rfl ⟨_, _, rfl, rfl, hr'⟩ hH hF hn fun target hr => XS.lneg X.here hx rfl (g := mkF m pc ls _) hd rfl hr
    · cases h
  case i2l =>
    simp only [step] at h
    obtain rfl := hlen.resolve_left (by simp [ilen])
    split at h
    · rename_i x r
      simp only [Option.some.injEq, Prod.mk.injEq] at h; obtain ⟨rfl, rfl, rfl, rfl⟩ := h
      obtain ⟨_, _, rfl, rfl, hr'⟩ := hS
      exact Behind.plain X hL rfl ⟨_, _, rfl, rfl, hr'⟩ hH hF hn fun target hr => XS.i2l X.here hx rfl (g := mkF m pc ls _) hd rfl hr
    · cases h
  case l2i =>
    simp only [step] at h
    obtain rfl := hlen.resolve_left (by simp [ilen])
    split at h
    · rename_i x r
      simp only [Option.some.injEq, Prod.mk.injEq] at h; obtain ⟨rfl, rfl, rfl, rfl⟩ := h
      obtain ⟨_, _, rfl, rfl, hr'⟩ := hS
      exact Behind.plain X hL rfl ⟨_, _, rfl, rfl, hr'⟩ hH hF hn fun target hr => XS.l2i X.here hx rfl (g := mkF m pc ls _) hd rfl hr
    · cases h
  case i2b =>
    simp only [step] at h
    obtain rfl := hlen.resolve_left (by simp [ilen])
    split at h
    · rename_i x r
      simp only [Option.some.injEq, Prod.mk.injEq] at h; obtain ⟨rfl, rfl, rfl, rfl⟩ := h
      obtain ⟨_, _, rfl, rfl, hr'⟩ := hS
      exact Behind.plain X hL rfl ⟨_, _, rfl, rfl, hr'⟩ hH hF hn fun target hr => XS.i2b X.here hx rfl (g := mkF m pc ls _) hd rfl hr
    · cases h
  case dup =>
    simp only [step] at h
    obtain rfl := hlen.resolve_left (by simp [ilen])
    split at h
    · rename_i x r
      simp only [Option.some.injEq, Prod.mk.injEq] at h; obtain ⟨rfl, rfl, rfl, rfl⟩ := h
      obtain ⟨_, _, rfl, ⟨a, ha, rfl⟩, hr'⟩ := hS
      exact Behind.plain X hL rfl ⟨_, _, rfl, ⟨a, ha, rfl⟩, _, _, rfl, ⟨a, ha, rfl⟩, hr'⟩ hH hF hn fun target hr => XS.dup X.here hx rfl (g := mkF m pc ls _) hd rfl rfl hr
    · rename_i x r
      simp only [Option.some.injEq, Prod.mk.injEq] at h; obtain ⟨rfl, rfl, rfl, rfl⟩ := h
      obtain ⟨_, _, rfl, rfl, hr'⟩ := hS
      exact Behind.plain X hL rfl ⟨_, _, rfl, rfl, _, _, rfl, rfl, hr'⟩ hH hF hn fun target hr => XS.dup X.here hx rfl (g := mkF m pc ls _) hd rfl rfl hr
    · cases h
  case dup2 =>
    simp only [step] at h
    obtain rfl := hlen.resolve_left (by simp [ilen])
    split at h
    · rename_i x y r
      simp only [Option.some.injEq, Prod.mk.injEq] at h; obtain ⟨rfl, rfl, rfl, rfl⟩ := h
      obtain ⟨_, _, rfl, rfl, _, _, rfl, ⟨a, ha, rfl⟩, hr'⟩ := hS
      exact Behind.plain X hL rfl ⟨_, _, rfl, rfl, _, _, rfl, ⟨a, ha, rfl⟩, _, _, rfl, rfl, _, _, rfl, ⟨a, ha, rfl⟩, hr'⟩ hH hF hn fun target hr => XT.dup2 X.here hx rfl (g := mkF m pc ls _) hd rfl rfl rfl hr
    · cases h
  case pop =>
    simp only [step] at h
    obtain rfl := hlen.resolve_left (by simp [ilen])
    split at h
    · rename_i x r
      simp only [Option.some.injEq, Prod.mk.injEq] at h; obtain ⟨rfl, rfl, rfl, rfl⟩ := h
      obtain ⟨_, _, rfl, rfl, hr'⟩ := hS
      exact Behind.plain X hL rfl hr' hH hF hn fun target hr => XS.pop X.here hx rfl (g := mkF m pc ls _) hd rfl rfl hr
    · rename_i x r
      simp only [Option.some.injEq, Prod.mk.injEq] at h; obtain ⟨rfl, rfl, rfl, rfl⟩ := h
      obtain ⟨_, _, rfl, ⟨a, ha, rfl⟩, hr'⟩ := hS
      exact Behind.plain X hL rfl hr' hH hF hn fun target hr => XS.pop X.here hx rfl (g := mkF m pc ls _) hd rfl rfl hr
    · cases h
  case goto o =>
    simp only [step] at h
    obtain rfl := hlen.resolve_left (by simp [ilen])
    cases ht : tgt pc o with
    | none => simp [ht] at h
    | some t =>
      simp only [ht, Option.some.injEq, Prod.mk.injEq] at h; obtain ⟨rfl, rfl, rfl, rfl⟩ := h
      exact Behind.plain X hL rfl hS hH hF hn fun target hr => XS.goto X.here hx rfl (g := mkF m pc ls st) (pc0 := pc) rfl hd (tgt_spec ht).1 (tgt_spec ht).2 hr
  case ifCond cd o =>
    simp only [step] at h
    obtain rfl := hlen.resolve_left (by simp [ilen])
    split at h
    · rename_i x r
      obtain ⟨_, _, rfl, rfl, hr'⟩ := hS
      cases hc : if_icmp.holds cd x 0
      · simp only [hc, cond_false, Option.some.injEq, Prod.mk.injEq] at h; obtain ⟨rfl, rfl, rfl, rfl⟩ := h
        exact Behind.plain X hL rfl hr' hH hF hn fun target hr => XS.ifNo X.here hx rfl (g := mkF m pc ls _) hd rfl ((if0 _ _).trans hc) hr
      · cases ht : tgt pc o with
        | none => simp [hc, ht] at h
        | some t =>
          simp only [hc, ht, cond_true, Option.some.injEq, Prod.mk.injEq] at h; obtain ⟨rfl, rfl, rfl, rfl⟩ := h
          exact Behind.plain X hL rfl hr' hH hF hn fun target hr => XS.ifYes X.here hx rfl (g := mkF m pc ls _) (pc0 := pc) rfl hd rfl ((if0 _ _).trans hc) (tgt_spec ht).1 (tgt_spec ht).2 hr
    · cases h
  case if_icmp cd o =>
    simp only [step] at h
    obtain rfl := hlen.resolve_left (by simp [ilen])
    split at h
    · rename_i y x r
      obtain ⟨_, _, rfl, rfl, _, _, rfl, rfl, hr'⟩ := hS
      cases hc : if_icmp.holds cd x y
      · simp only [hc, cond_false, Option.some.injEq, Prod.mk.injEq] at h; obtain ⟨rfl, rfl, rfl, rfl⟩ := h
        exact Behind.plain X hL rfl hr' hH hF hn fun target hr => XS.icmpNo X.here hx rfl (g := mkF m pc ls _) hd rfl hc hr
      · cases ht : tgt pc o with
        | none => simp [hc, ht] at h
        | some t =>
          simp only [hc, ht, cond_true, Option.some.injEq, Prod.mk.injEq] at h; obtain ⟨rfl, rfl, rfl, rfl⟩ := h
          exact Behind.plain X hL rfl hr' hH hF hn fun target hr => XS.icmpYes X.here hx rfl (g := mkF m pc ls _) (pc0 := pc) rfl hd rfl hc (tgt_spec ht).1 (tgt_spec ht).2 hr
    · cases h
  case tableswitch d lo hi offs =>
    simp only [step] at h
    split at h
    · rename_i x r
      obtain ⟨_, _, rfl, rfl, hr'⟩ := hS
      by_cases ho : x.toInt < lo ∨ x.toInt > hi
      · have ho' : (decide (x.toInt < lo) || decide (x.toInt > hi)) = true := by simpa using ho
        cases ht : tgt pc d with
        | none => simp [ho', ht] at h
        | some t =>
          simp only [ho', ht, cond_true, Option.some.injEq, Prod.mk.injEq] at h; obtain ⟨rfl, rfl, rfl, rfl⟩ := h
          exact Behind.plain X hL rfl hr' hH hF hn fun target hr => XS.tswOut X.here hx rfl (g := mkF m pc ls _) (pc0 := pc) rfl hd rfl ho (tgt_spec ht).1 (tgt_spec ht).2 hr
      · have ho' : (decide (x.toInt < lo) || decide (x.toInt > hi)) = false := by simpa using ho
        cases hq : offs.toList[(x.toInt - lo).toNat]? with
        | none => simp [ho', hq] at h
        | some o =>
          cases ht : tgt pc o with
          | none => simp [ho', hq, ht] at h
          | some t =>
            simp only [ho', hq, ht, cond_false, Option.some.injEq, Prod.mk.injEq] at h; obtain ⟨rfl, rfl, rfl, rfl⟩ := h
            exact Behind.plain X hL rfl hr' hH hF hn fun target hr => XS.tswIn X.here hx rfl (g := mkF m pc ls _) (pc0 := pc) rfl hd rfl ho (by rw [← Array.getElem?_toList]; exact hq) (tgt_spec ht).1 (tgt_spec ht).2 hr
    · cases h
  case getfield j =>
    simp only [step] at h
    obtain rfl := hlen.resolve_left (by simp [ilen])
    split at h
    · rename_i a r
      obtain ⟨_, _, rfl, ⟨b, hb, rfl⟩, hr'⟩ := hS
      cases hf : P.fld (P.cls k) j with
      | none => simp [hf] at h
      | some f =>
        cases hg : getC H a f with
        | none => simp [hf, hg] at h
        | some v =>
          simp only [hf, hg, Option.some.injEq, Prod.mk.injEq] at h; obtain ⟨rfl, rfl, rfl, rfl⟩ := h
          obtain ⟨n, d, t, fin, g1, g2⟩ := G2 _ _ _ hf
          unfold getC at hg
          split at hg
          · rename_i fs hfs
            obtain ⟨b', e1, e2, e3, e4⟩ := hH.2.2.2 _ _ hfs
            cases hb.symm.trans e1
            obtain ⟨w, e5, e6⟩ := e4 _ _ _ _ _ _ hg g1
            obtain ⟨T2, X2, e7, s2⟩ := getF X hx hZ hown (host := "") (Or.inl g2) Via.refl rfl e6 (g := mkF m pc ls _) rfl rfl hd
            exact Behind.plain' X2 e7 hL rfl ⟨w, _, rfl, e5, hr'⟩ hH hF hn s2
          · cases hg
    · cases h
  case putfield j =>
    simp only [step] at h
    obtain rfl := hlen.resolve_left (by simp [ilen])
    split at h
    · rename_i v a r
      obtain ⟨w0, _, rfl, hv0, _, _, rfl, ⟨b, hb, rfl⟩, hr'⟩ := hS
      cases hf : P.fld (P.cls k) j with
      | none => simp [hf] at h
      | some f =>
        obtain ⟨n, d, t, fin, g1, g2⟩ := G2 _ _ _ hf
        simp only [hf, g1] at h
        cases hq : (!fin || P.ini k) && Nat.ble P.ro a
        · simp [hq] at h
        · simp only [hq, cond_true] at h
          cases hv : conv t v with
          | none => simp [hv] at h
          | some v' =>
            simp only [hv] at h
            split at h
            · rename_i fs hfs
              cases hz : Nat.ble (f + 1) fs.length
              · simp [hz] at h
              · simp only [hz, cond_true, Option.some.injEq, Prod.mk.injEq] at h; obtain ⟨rfl, rfl, rfl, rfl⟩ := h
                obtain ⟨b', e1, e2, e3, e4⟩ := hH.2.2.2 _ _ hfs
                cases hb.symm.trans e1
                simp only [Bool.and_eq_true, Bool.or_eq_true, Bool.not_eq_true'] at hq
                have hro : P.ro ≤ a := Nat.le_of_ble_eq_true hq.2
                have hfl : f < fs.length := Nat.le_of_ble_eq_true hz
                obtain ⟨l1, ty, l2, l3, l4⟩ := G3 _ _ _ _ _ g1
                obtain ⟨w, hw, hnw, hfw⟩ : ∃ w, VR am v' w ∧ narrow ty w0 = w ∧ fits ty w = true := by
                  unfold conv at hv
                  split at hv
                  · cases hv; cases hv0; cases ty <;> simp only [tyOk, Bool.false_eq_true] at l3; exact ⟨_, rfl, rfl, rfl⟩
                  · cases hv; cases hv0; cases ty <;> simp only [tyOk, Bool.false_eq_true] at l3; exact ⟨_, rfl, rfl, fits_nar_bool _⟩
                  · cases hv; cases hv0; cases ty <;> simp only [tyOk, Bool.false_eq_true] at l3; exact ⟨_, rfl, rfl, rfl⟩
                  · cases hv; obtain ⟨z, hz1, rfl⟩ := hv0; cases ty <;> simp only [tyOk, Bool.false_eq_true] at l3; exact ⟨_, ⟨z, hz1, rfl⟩, rfl, rfl⟩
                  · cases hv
                obtain ⟨old, o1, o2⟩ := e4 f _ _ _ _ _ (List.getElem?_eq_getElem hfl) g1
                have hfin : (Cond.lays C C n d).before a0 Z = true ∨ ((Cond.laysFinal C C n d).before a0 Z = true ∧ cn (P.cls k) = C ∧ meth.name = "<init>") := by
                  cases fin
                  · exact Or.inl l1
                  · obtain ⟨q1, q2⟩ := hini (by simpa using hq.1); exact Or.inr ⟨l1, q2, q1⟩
                obtain ⟨T2, h2, X2, e7, W2, s2⟩ := putFN X hx hZ hown g2 Via.refl rfl o2 e2 hfin G6 l2 hnw hfw (g := mkF m pc ls _) rfl rfl hd
                refine Behind.write (T' := T2) X2 e7 W2 hL hr' hH hb hro hfs rfl ?_ hF hn s2
                refine ⟨e2.wr W2, by rw [List.length_set]; exact e3, fun j' u n' d' t' f' q1 q2 => ?_⟩
                rw [List.getElem?_set] at q1
                by_cases ej : f = j'
                · subst ej
                  rw [if_pos rfl, if_pos hfl] at q1
                  cases q1
                  rw [g1] at q2; cases q2
                  exact ⟨w, hw, o2.same W2⟩
                · rw [if_neg ej] at q1
                  obtain ⟨w', y1, y2⟩ := e4 _ _ _ _ _ _ q1 q2
                  obtain ⟨l1', ty', l2', -, -⟩ := G3 _ _ _ _ _ q2
                  have hl1 : Laid Z a0 C C n d := by cases fin; exact Or.inl l1; exact Or.inr l1
                  have hl2 : Laid Z a0 C C n' d' := by cases f'; exact Or.inl l1'; exact Or.inr l1'
                  exact ⟨w', y1, y2.other W2 (Or.inr (slot_ne hl2 hl1 (G4 _ _ _ _ _ _ _ _ _ _ q2 g1 (Ne.symm ej)) l2' l2))⟩
            · cases h
    · cases h
  case iaload =>
    simp only [step] at h
    obtain rfl := hlen.resolve_left (by simp [ilen])
    split at h
    · rename_i j a r
      obtain ⟨_, _, rfl, rfl, _, _, rfl, ⟨b, hb, rfl⟩, hr'⟩ := hS
      split at h
      · rename_i xs hxs
        cases hj : inb xs.length j
        · simp [hj] at h
        · simp only [hj, cond_true, Option.some.injEq, Prod.mk.injEq] at h; obtain ⟨rfl, rfl, rfl, rfl⟩ := h
          obtain ⟨b', e1, cl, A1, A2, A3⟩ := hH.2.2.2 _ _ hxs
          cases hb.symm.trans e1
          have hin := inb_spec hj
          rw [← A2] at hin
          exact Behind.plain X hL rfl ⟨_, _, rfl, rfl, hr'⟩ hH hF hn fun target hr => X.iaload hx A1.1 (State.isArrayOf_alike hZ.alike A1.2.1) A1.2.2 hin (A3 _ _ (rd_at hj)) (g := mkF m pc ls _) rfl rfl hd _ hr
      · rename_i xs hxs
        cases hj : inb xs.length j
        · simp [hj] at h
        · simp only [hj, cond_true, Option.some.injEq, Prod.mk.injEq] at h; obtain ⟨rfl, rfl, rfl, rfl⟩ := h
          obtain ⟨b', e1, cl, A1, A2, A3⟩ := hH.2.2.2 _ _ hxs
          cases hb.symm.trans e1
          have hin := inb_spec hj
          rw [← A2] at hin
          exact Behind.plain X hL rfl ⟨_, _, rfl, rfl, hr'⟩ hH hF hn fun target hr => X.iaload hx A1.1 (State.isArrayOf_alike hZ.alike A1.2.1) A1.2.2 hin (A3 _ _ (rd_at hj)) (g := mkF m pc ls _) rfl rfl hd _ hr
      · cases h
    · cases h
  case baload =>
    simp only [step] at h
    obtain rfl := hlen.resolve_left (by simp [ilen])
    split at h
    · rename_i j a r
      obtain ⟨_, _, rfl, rfl, _, _, rfl, ⟨b, hb, rfl⟩, hr'⟩ := hS
      split at h
      · rename_i xs hxs
        cases hj : inb xs.length j
        · simp [hj] at h
        · simp only [hj, cond_true, Option.some.injEq, Prod.mk.injEq] at h; obtain ⟨rfl, rfl, rfl, rfl⟩ := h
          obtain ⟨b', e1, cl, A1, A2, A3⟩ := hH.2.2.2 _ _ hxs
          cases hb.symm.trans e1
          have hin := inb_spec hj
          rw [← A2] at hin
          exact Behind.plain X hL rfl ⟨_, _, rfl, rfl, hr'⟩ hH hF hn fun target hr => X.baloadBooleans hx A1.1 (State.isArrayOf_alike hZ.alike A1.2.1) A1.2.2 hin (A3 _ _ (rd_at hj)) (g := mkF m pc ls _) rfl rfl hd _ hr
      · rename_i xs hxs
        cases hj : inb xs.length j
        · simp [hj] at h
        · simp only [hj, cond_true, Option.some.injEq, Prod.mk.injEq] at h; obtain ⟨rfl, rfl, rfl, rfl⟩ := h
          obtain ⟨b', e1, cl, A1, A2, A3⟩ := hH.2.2.2 _ _ hxs
          cases hb.symm.trans e1
          have hin := inb_spec hj
          rw [← A2] at hin
          exact Behind.plain X hL rfl ⟨_, _, rfl, rfl, hr'⟩ hH hF hn fun target hr => X.baloadBytes hx A1.1 (State.isArrayOf_alike hZ.alike A1.2.1) A1.2.2 hin (A3 _ _ (rd_at hj)) (g := mkF m pc ls _) rfl rfl hd _ hr
      · cases h
    · cases h
  case laload =>
    simp only [step] at h
    obtain rfl := hlen.resolve_left (by simp [ilen])
    split at h
    · rename_i j a r
      obtain ⟨_, _, rfl, rfl, _, _, rfl, ⟨b, hb, rfl⟩, hr'⟩ := hS
      split at h
      · rename_i xs hxs
        cases hj : inb xs.length j
        · simp [hj] at h
        · simp only [hj, cond_true, Option.some.injEq, Prod.mk.injEq] at h; obtain ⟨rfl, rfl, rfl, rfl⟩ := h
          obtain ⟨b', e1, cl, A1, A2, A3⟩ := hH.2.2.2 _ _ hxs
          cases hb.symm.trans e1
          have hin := inb_spec hj
          rw [← A2] at hin
          exact Behind.plain X hL rfl ⟨_, _, rfl, rfl, hr'⟩ hH hF hn fun target hr => X.laload hx A1.1 (State.isArrayOf_alike hZ.alike A1.2.1) A1.2.2 hin (A3 _ _ (rdL_at hj)) (g := mkF m pc ls _) rfl rfl hd _ hr
      · cases h
    · cases h
  case iastore =>
    simp only [step] at h
    obtain rfl := hlen.resolve_left (by simp [ilen])
    split at h
    · rename_i x j a r
      obtain ⟨_, _, rfl, rfl, _, _, rfl, rfl, _, _, rfl, ⟨b, hb, rfl⟩, hr'⟩ := hS
      cases hq : Nat.ble P.ro a
      · simp [hq] at h
      · simp only [hq, cond_true] at h
        have hro : P.ro ≤ a := Nat.le_of_ble_eq_true hq
        split at h
        · rename_i xs hxs
          cases hj : inb xs.length j
          · simp [hj] at h
          · simp only [hj, cond_true, Option.some.injEq, Prod.mk.injEq] at h; obtain ⟨rfl, rfl, rfl, rfl⟩ := h
            obtain ⟨b', e1, hcr⟩ := hH.2.2.2 _ _ hxs
            cases hb.symm.trans e1
            have hcr0 := hcr
            obtain ⟨cl, A1, A2, A3⟩ := hcr0
            have hin := inb_spec hj
            rw [← A2] at hin
            obtain ⟨T2, h2, X2, e7, W2, s2⟩ := stI X hx hZ rfl A1 hin (g := mkF m pc ls _) rfl rfl hd
            exact Behind.write (T' := T2) X2 e7 W2 hL hr' hH hb hro hxs (by simp [csz, wr, wrL]) (CR.wrI W2 hcr) hF hn s2
        · cases h
    · cases h
  case bastore =>
    simp only [step] at h
    obtain rfl := hlen.resolve_left (by simp [ilen])
    split at h
    · rename_i x j a r
      obtain ⟨_, _, rfl, rfl, _, _, rfl, rfl, _, _, rfl, ⟨b, hb, rfl⟩, hr'⟩ := hS
      cases hq : Nat.ble P.ro a
      · simp [hq] at h
      · simp only [hq, cond_true] at h
        have hro : P.ro ≤ a := Nat.le_of_ble_eq_true hq
        split at h
        · rename_i xs hxs
          cases hj : inb xs.length j
          · simp [hj] at h
          · simp only [hj, cond_true, Option.some.injEq, Prod.mk.injEq] at h; obtain ⟨rfl, rfl, rfl, rfl⟩ := h
            obtain ⟨b', e1, hcr⟩ := hH.2.2.2 _ _ hxs
            cases hb.symm.trans e1
            have hcr0 := hcr
            obtain ⟨cl, A1, A2, A3⟩ := hcr0
            have hin := inb_spec hj
            rw [← A2] at hin
            obtain ⟨T2, h2, X2, e7, W2, s2⟩ := stZ X hx hZ rfl A1 hin (g := mkF m pc ls _) rfl rfl hd
            exact Behind.write (T' := T2) X2 e7 W2 hL hr' hH hb hro hxs (by simp [csz, wr, wrL]) (CR.wrI W2 hcr) hF hn s2
        · rename_i xs hxs
          cases hj : inb xs.length j
          · simp [hj] at h
          · simp only [hj, cond_true, Option.some.injEq, Prod.mk.injEq] at h; obtain ⟨rfl, rfl, rfl, rfl⟩ := h
            obtain ⟨b', e1, hcr⟩ := hH.2.2.2 _ _ hxs
            cases hb.symm.trans e1
            have hcr0 := hcr
            obtain ⟨cl, A1, A2, A3⟩ := hcr0
            have hin := inb_spec hj
            rw [← A2] at hin
            obtain ⟨T2, h2, X2, e7, W2, s2⟩ := stB X hx hZ rfl A1 hin (g := mkF m pc ls _) rfl rfl hd
            exact Behind.write (T' := T2) X2 e7 W2 hL hr' hH hb hro hxs (by simp [csz, wr, wrL]) (CR.wrI W2 hcr) hF hn s2
        · cases h
    · cases h
  case lastore =>
    simp only [step] at h
    obtain rfl := hlen.resolve_left (by simp [ilen])
    split at h
    · rename_i x j a r
      obtain ⟨_, _, rfl, rfl, _, _, rfl, rfl, _, _, rfl, ⟨b, hb, rfl⟩, hr'⟩ := hS
      cases hq : Nat.ble P.ro a
      · simp [hq] at h
      · simp only [hq, cond_true] at h
        have hro : P.ro ≤ a := Nat.le_of_ble_eq_true hq
        split at h
        · rename_i xs hxs
          cases hj : inb xs.length j
          · simp [hj] at h
          · simp only [hj, cond_true, Option.some.injEq, Prod.mk.injEq] at h; obtain ⟨rfl, rfl, rfl, rfl⟩ := h
            obtain ⟨b', e1, hcr⟩ := hH.2.2.2 _ _ hxs
            cases hb.symm.trans e1
            have hcr0 := hcr
            obtain ⟨cl, A1, A2, A3⟩ := hcr0
            have hin := inb_spec hj
            rw [← A2] at hin
            obtain ⟨T2, h2, X2, e7, W2, s2⟩ := stJ X hx hZ rfl A1 hin (g := mkF m pc ls _) rfl rfl hd
            exact Behind.write (T' := T2) X2 e7 W2 hL hr' hH hb hro hxs (by simp [csz, wr, wrL]) (CR.wrJ W2 hcr) hF hn s2
        · cases h
    · cases h
  case arraylength =>
    simp only [step] at h
    obtain rfl := hlen.resolve_left (by simp [ilen])
    split at h
    · rename_i a r
      obtain ⟨_, _, rfl, ⟨b, hb, rfl⟩, hr'⟩ := hS
      split at h
      · rename_i t xs hxs
        simp only [Option.some.injEq, Prod.mk.injEq] at h; obtain ⟨rfl, rfl, rfl, rfl⟩ := h
        obtain ⟨b', e1, cl, A1, A2, A3⟩ := hH.2.2.2 _ _ hxs
        cases hb.symm.trans e1
        exact Behind.plain X hL rfl ⟨_, _, rfl, rfl, hr'⟩ hH hF hn fun target hr => X.arraylength hx A1.1 (State.isArrayOf_alike hZ.alike A1.2.1) (g := mkF m pc ls _) rfl rfl hd _ (by rw [A2]; exact hr)
      · rename_i xs hxs
        simp only [Option.some.injEq, Prod.mk.injEq] at h; obtain ⟨rfl, rfl, rfl, rfl⟩ := h
        obtain ⟨b', e1, cl, A1, A2, A3⟩ := hH.2.2.2 _ _ hxs
        cases hb.symm.trans e1
        exact Behind.plain X hL rfl ⟨_, _, rfl, rfl, hr'⟩ hH hF hn fun target hr => X.arraylength hx A1.1 (State.isArrayOf_alike hZ.alike A1.2.1) (g := mkF m pc ls _) rfl rfl hd _ (by rw [A2]; exact hr)
      · cases h
    · cases h
  case newarray t =>
    simp only [step] at h
    obtain rfl := hlen.resolve_left (by simp [ilen])
    split at h
    · rename_i n r
      obtain ⟨_, _, rfl, rfl, hr'⟩ := hS
      cases ht : atyOf t with
      | none => simp [ht] at h
      | some q =>
        simp only [ht] at h
        cases hq : (!(decide (n < 0)) && Nat.ble n.toNatClampNeg 60000 && Nat.ble (H.length + 1) P.capC && Nat.ble (hsz P H + n.toNatClampNeg) P.capS)
        · simp [hq] at h
        · simp only [hq, cond_true, Option.some.injEq, Prod.mk.injEq] at h; obtain ⟨rfl, rfl, rfl, rfl⟩ := h
          simp only [Bool.and_eq_true, Bool.not_eq_true', decide_eq_false_iff_not] at hq
          have hcap : n.toNatClampNeg ≤ 60000 := Nat.le_of_ble_eq_true hq.1.1.2
          have hq1 := hq.1.1.1
          have d1 : (H ++ [newC q n.toNatClampNeg]).length - H.length = 1 := by simp
          have d2 : hsz P (H ++ [newC q n.toNatClampNeg]) - hsz P H = n.toNatClampNeg := by rw [hsz_app, csz_new _ _ ht]; omega
          rw [d1] at hcells ⊢; rw [d2] at hslots ⊢
          obtain ⟨T2, h2, cA, X2, e7, E2, A2, s2⟩ := newP X hx hZ (G8 _ _ _ _ hcode) rfl (g := mkF m pc ls _) rfl hd rfl hq1 (cap := n.toNatClampNeg) (Nat.le_refl _) (by omega) hcells hslots
          have hlt : T.heap.size < h2.size := A2.lt
          have hm' := hH.1
          refine ⟨T2, am ++ [T.heap.size], ls, _, locs, X2, hL.mono (Pre.app _ _), rfl, ⟨_, _, rfl, ⟨T.heap.size, by rw [← hm']; simp, rfl⟩, hr'.mono (Pre.app _ _)⟩, by rw [e7]; exact hH.push E2 hlt hn (arr_new ht hq1 A2), Pre.app _ _, hF, by rw [e7]; omega, s2⟩
    · cases h
  case new j =>
    simp only [step] at h
    obtain rfl := hlen.resolve_left (by simp [ilen])
    split at h
    · rename_i q hk
      rw [Bool.cond_eq_ite] at h
      split at h
      case isFalse => cases h
      simp only [Option.some.injEq, Prod.mk.injEq] at h; obtain ⟨rfl, rfl, rfl, rfl⟩ := h
      have w := G9 _ _ _ _ hk
      have d1 : (H ++ [Sum.inl P.fresh]).length - H.length = 1 := by simp
      have d2 : hsz P (H ++ [Sum.inl P.fresh]) - hsz P H = P.objN := by rw [hsz_app]; simp [csz]
      rw [d1] at hcells ⊢; rw [d2] at hslots ⊢
      obtain ⟨T2, h2, X2, e7, E2, A2, D2, -, s2⟩ := newO X hx hZ hown w G6 G7 rfl (g := mkF m pc ls st) rfl hd hcells hslots
      have hlt : T.heap.size < h2.size := A2.lt
      have hm' := hH.1
      refine ⟨T2, am ++ [T.heap.size], ls, _, locs, X2, hL.mono (Pre.app _ _), rfl, ⟨_, _, rfl, ⟨T.heap.size, by rw [← hm']; simp, rfl⟩, hS.mono (Pre.app _ _)⟩, ?_, Pre.app _ _, hF, by rw [e7]; omega, s2⟩
      rw [e7]
      refine hH.push E2 hlt hn ⟨A2, by simp [Prog.fresh], fun j' v n d t f q1 q2 => ?_⟩
      obtain ⟨l1, ty, l2, l3, l4⟩ := G3 _ _ _ _ _ q2
      have hl1 : Laid Z a0 C C n d := by cases f; exact Or.inl l1; exact Or.inr l1
      have hv : v = dflt t := by rw [Prog.fresh, List.getElem?_map, q2] at q1; simpa using q1.symm
      subst hv
      refine ⟨defaultValue ty, ?_, D2 hl1 l2⟩
      rw [l4]; unfold dflt; split <;> rfl
    · cases h
  case invokespecial j =>
    simp only [step] at h
    obtain rfl := hlen.resolve_left (by simp [ilen])
    split at h
    · rename_i a r
      obtain ⟨_, _, rfl, ⟨b, hb, rfl⟩, hr'⟩ := hS
      cases hq : isObjInit P k j && Nat.ble 1 (P.rf k) && Nat.ble (cats r + 12) (P.rl k)
      · simp [hq] at h
      · simp only [hq, cond_true, Option.some.injEq, Prod.mk.injEq] at h; obtain ⟨rfl, rfl, rfl, rfl⟩ := h
        simp only [Bool.and_eq_true] at hq
        have h1 : 1 ≤ P.rf k := Nat.le_of_ble_eq_true hq.1.2
        have h2 : cats r + 12 ≤ P.rl k := Nat.le_of_ble_eq_true hq.2
        have h3 := hq.1.1
        unfold isObjInit at h3
        split at h3
        · rename_i kk hk
          obtain ⟨w1, w2, w3⟩ := G9 _ _ _ _ hk
          obtain ⟨T2, X2, e7, s2⟩ := initO X hx hZ hown w1 w2 w3 rfl (g := mkF m pc ls _) rfl (by rw [hml]; exact hlz) rfl hd (by omega) (W := cats r) (by rw [hr'.cats]; show 2 * 0 + _ ≤ _; omega) (by omega)
          exact Behind.plain' X2 e7 hL rfl hr' hH hF hn s2
        · cases h3
    · cases h
  case iadd =>
    simp only [step] at h
    obtain rfl := hlen.resolve_left (by simp [ilen])
    split at h
    · rename_i y x r
      simp only [aop, Option.some.injEq, Prod.mk.injEq] at h; obtain ⟨rfl, rfl, rfl, rfl⟩ := h
      obtain ⟨_, _, rfl, rfl, _, _, rfl, rfl, hr'⟩ := hS
      exact Behind.plain X hL rfl ⟨_, _, rfl, rfl, hr'⟩ hH hF hn fun target hr => XS.iadd X.here hx rfl (g := mkF m pc ls _) hd rfl hr
    · simp [lop] at h
    · cases h
  case isub =>
    simp only [step] at h
    obtain rfl := hlen.resolve_left (by simp [ilen])
    split at h
    · rename_i y x r
      simp only [aop, Option.some.injEq, Prod.mk.injEq] at h; obtain ⟨rfl, rfl, rfl, rfl⟩ := h
      obtain ⟨_, _, rfl, rfl, _, _, rfl, rfl, hr'⟩ := hS
      exact Behind.plain X hL rfl ⟨_, _, rfl, rfl, hr'⟩ hH hF hn fun target hr => XS.isub X.here hx rfl (g := mkF m pc ls _) hd rfl hr
    · simp [lop] at h
    · cases h
  case imul =>
    simp only [step] at h
    obtain rfl := hlen.resolve_left (by simp [ilen])
    split at h
    · rename_i y x r
      simp only [aop, Option.some.injEq, Prod.mk.injEq] at h; obtain ⟨rfl, rfl, rfl, rfl⟩ := h
      obtain ⟨_, _, rfl, rfl, _, _, rfl, rfl, hr'⟩ := hS
      exact Behind.plain X hL rfl ⟨_, _, rfl, rfl, hr'⟩ hH hF hn fun target hr => XS.imul X.here hx rfl (g := mkF m pc ls _) hd rfl hr
    · simp [lop] at h
    · cases h
  case iand =>
    simp only [step] at h
    obtain rfl := hlen.resolve_left (by simp [ilen])
    split at h
    · rename_i y x r
      simp only [aop, Option.some.injEq, Prod.mk.injEq] at h; obtain ⟨rfl, rfl, rfl, rfl⟩ := h
      obtain ⟨_, _, rfl, rfl, _, _, rfl, rfl, hr'⟩ := hS
      exact Behind.plain X hL rfl ⟨_, _, rfl, rfl, hr'⟩ hH hF hn fun target hr => XS.iand X.here hx rfl (g := mkF m pc ls _) hd rfl hr
    · simp [lop] at h
    · cases h
  case ior =>
    simp only [step] at h
    obtain rfl := hlen.resolve_left (by simp [ilen])
    split at h
    · rename_i y x r
      simp only [aop, Option.some.injEq, Prod.mk.injEq] at h; obtain ⟨rfl, rfl, rfl, rfl⟩ := h
      obtain ⟨_, _, rfl, rfl, _, _, rfl, rfl, hr'⟩ := hS
      exact Behind.plain X hL rfl ⟨_, _, rfl, rfl, hr'⟩ hH hF hn fun target hr => XS.ior X.here hx rfl (g := mkF m pc ls _) hd rfl hr
    · simp [lop] at h
    · cases h
  case ixor =>
    simp only [step] at h
    obtain rfl := hlen.resolve_left (by simp [ilen])
    split at h
    · rename_i y x r
      simp only [aop, Option.some.injEq, Prod.mk.injEq] at h; obtain ⟨rfl, rfl, rfl, rfl⟩ := h
      obtain ⟨_, _, rfl, rfl, _, _, rfl, rfl, hr'⟩ := hS
      exact Behind.plain X hL rfl ⟨_, _, rfl, rfl, hr'⟩ hH hF hn fun target hr => XS.ixor X.here hx rfl (g := mkF m pc ls _) hd rfl hr
    · simp [lop] at h
    · cases h
  case ishl =>
    simp only [step] at h
    obtain rfl := hlen.resolve_left (by simp [ilen])
    split at h
    · rename_i y x r
      simp only [aop, Option.some.injEq, Prod.mk.injEq] at h; obtain ⟨rfl, rfl, rfl, rfl⟩ := h
      obtain ⟨_, _, rfl, rfl, _, _, rfl, rfl, hr'⟩ := hS
      exact Behind.plain X hL rfl ⟨_, _, rfl, rfl, hr'⟩ hH hF hn fun target hr => XS.ishl X.here hx rfl (g := mkF m pc ls _) hd rfl hr
    · simp [lop] at h
    · cases h
  case ishr =>
    simp only [step] at h
    obtain rfl := hlen.resolve_left (by simp [ilen])
    split at h
    · rename_i y x r
      simp only [aop, Option.some.injEq, Prod.mk.injEq] at h; obtain ⟨rfl, rfl, rfl, rfl⟩ := h
      obtain ⟨_, _, rfl, rfl, _, _, rfl, rfl, hr'⟩ := hS
      exact Behind.plain X hL rfl ⟨_, _, rfl, rfl, hr'⟩ hH hF hn fun target hr => XS.ishr X.here hx rfl (g := mkF m pc ls _) hd rfl hr
    · simp [lop] at h
    · cases h
  case iushr =>
    simp only [step] at h
    obtain rfl := hlen.resolve_left (by simp [ilen])
    split at h
    · rename_i y x r
      simp only [aop, Option.some.injEq, Prod.mk.injEq] at h; obtain ⟨rfl, rfl, rfl, rfl⟩ := h
      obtain ⟨_, _, rfl, rfl, _, _, rfl, rfl, hr'⟩ := hS
      exact Behind.plain X hL rfl ⟨_, _, rfl, rfl, hr'⟩ hH hF hn fun target hr => XS.iushr X.here hx rfl (g := mkF m pc ls _) hd rfl hr
    · simp [lop] at h
    · cases h
  case ladd =>
    simp only [step] at h
    obtain rfl := hlen.resolve_left (by simp [ilen])
    split at h
    · simp [aop] at h
    · rename_i y x r
      simp only [lop, Option.some.injEq, Prod.mk.injEq] at h; obtain ⟨rfl, rfl, rfl, rfl⟩ := h
      obtain ⟨_, _, rfl, rfl, _, _, rfl, rfl, hr'⟩ := hS
      exact Behind.plain X hL rfl ⟨_, _, rfl, rfl, hr'⟩ hH hF hn fun target hr => XS.ladd X.here hx rfl (g := mkF m pc ls _) hd rfl hr
    · cases h
  case lsub =>
    simp only [step] at h
    obtain rfl := hlen.resolve_left (by simp [ilen])
    split at h
    · simp [aop] at h
    · rename_i y x r
      simp only [lop, Option.some.injEq, Prod.mk.injEq] at h; obtain ⟨rfl, rfl, rfl, rfl⟩ := h
      obtain ⟨_, _, rfl, rfl, _, _, rfl, rfl, hr'⟩ := hS
      exact Behind.plain X hL rfl ⟨_, _, rfl, rfl, hr'⟩ hH hF hn fun target hr => XS.lsub X.here hx rfl (g := mkF m pc ls _) hd rfl hr
    · cases h
  case lmul =>
    simp only [step] at h
    obtain rfl := hlen.resolve_left (by simp [ilen])
    split at h
    · simp [aop] at h
    · rename_i y x r
      simp only [lop, Option.some.injEq, Prod.mk.injEq] at h; obtain ⟨rfl, rfl, rfl, rfl⟩ := h
      obtain ⟨_, _, rfl, rfl, _, _, rfl, rfl, hr'⟩ := hS
      exact Behind.plain X hL rfl ⟨_, _, rfl, rfl, hr'⟩ hH hF hn fun target hr => XS.lmul X.here hx rfl (g := mkF m pc ls _) hd rfl hr
    · cases h
  case land =>
    simp only [step] at h
    obtain rfl := hlen.resolve_left (by simp [ilen])
    split at h
    · simp [aop] at h
    · rename_i y x r
      simp only [lop, Option.some.injEq, Prod.mk.injEq] at h; obtain ⟨rfl, rfl, rfl, rfl⟩ := h
      obtain ⟨_, _, rfl, rfl, _, _, rfl, rfl, hr'⟩ := hS
      exact Behind.plain X hL rfl ⟨_, _, rfl, rfl, hr'⟩ hH hF hn fun target hr => XS.land X.here hx rfl (g := mkF m pc ls _) hd rfl hr
    · cases h
  case lor =>
    simp only [step] at h
    obtain rfl := hlen.resolve_left (by simp [ilen])
    split at h
    · simp [aop] at h
    · rename_i y x r
      simp only [lop, Option.some.injEq, Prod.mk.injEq] at h; obtain ⟨rfl, rfl, rfl, rfl⟩ := h
      obtain ⟨_, _, rfl, rfl, _, _, rfl, rfl, hr'⟩ := hS
      exact Behind.plain X hL rfl ⟨_, _, rfl, rfl, hr'⟩ hH hF hn fun target hr => XS.lor X.here hx rfl (g := mkF m pc ls _) hd rfl hr
    · cases h
  case lxor =>
    simp only [step] at h
    obtain rfl := hlen.resolve_left (by simp [ilen])
    split at h
    · simp [aop] at h
    · rename_i y x r
      simp only [lop, Option.some.injEq, Prod.mk.injEq] at h; obtain ⟨rfl, rfl, rfl, rfl⟩ := h
      obtain ⟨_, _, rfl, rfl, _, _, rfl, rfl, hr'⟩ := hS
      exact Behind.plain X hL rfl ⟨_, _, rfl, rfl, hr'⟩ hH hF hn fun target hr => XS.lxor X.here hx rfl (g := mkF m pc ls _) hd rfl hr
    · cases h
  all_goals (exfalso; simp only [step] at h; split at h <;> simp [aop, lop] at h)
end Sound
end Jvm.OwnX
namespace Jvm.OwnX
open Sem ClassFile Op Lib Jvm.Stand Jvm.Free Jvm.LawKit Jvm.RoadKit
set_option maxHeartbeats 4000000 in
theorem step_grow {P : Prog} {k pc np pc' : Nat} {i : Instr} {L L' : ALoc} {S S' : List Value} {H H' : AHeap} (h : step P k i np pc L S H = some (pc', L', S', H')) : H.length ≤ H'.length ∧ hsz P H ≤ hsz P H' := by
  cases i <;> simp only [step, Bool.cond_eq_ite] at h
  all_goals (repeat' (split at h))
  all_goals first
    | (cases h; done)
    | (simp only [Option.some.injEq, Prod.mk.injEq] at h; obtain ⟨-, -, -, rfl⟩ := h; exact ⟨Nat.le_refl _, Nat.le_refl _⟩)
    | (simp only [Option.some.injEq, Prod.mk.injEq] at h; obtain ⟨-, -, -, rfl⟩ := h; exact ⟨by simp, by rw [hsz_app]; omega⟩)
    | (simp only [Option.some.injEq, Prod.mk.injEq] at h; obtain ⟨-, -, -, rfl⟩ := h; exact ⟨by simp, Nat.le_of_eq (hsz_set P _ _ _ _ (by assumption) (by simp [csz, wr, wrL])).symm⟩)
set_option maxHeartbeats 4000000 in
theorem step_cap {P : Prog} {k pc np pc' : Nat} {i : Instr} {L L' : ALoc} {S S' : List Value} {H H' : AHeap} (h : step P k i np pc L S H = some (pc', L', S', H')) : (H'.length ≤ H.length ∨ H'.length ≤ P.capC) ∧ (hsz P H' ≤ hsz P H ∨ hsz P H' ≤ P.capS) := by
  cases i <;> simp only [step, Bool.cond_eq_ite] at h
  case newarray t =>
    split at h
    · split at h
      · rename_i q ht
        split at h
        · rename_i hq
          simp only [Option.some.injEq, Prod.mk.injEq] at h; obtain ⟨-, -, -, rfl⟩ := h
          simp only [Bool.and_eq_true] at hq
          have h1 := Nat.le_of_ble_eq_true hq.1.2
          have h2 := Nat.le_of_ble_eq_true hq.2
          exact ⟨Or.inr (by simpa using h1), Or.inr (by rw [hsz_app, csz_new _ _ ht]; exact h2)⟩
        · cases h
      · cases h
    · cases h
  case new j =>
    split at h
    · split at h
      · rename_i hq
        simp only [Option.some.injEq, Prod.mk.injEq] at h; obtain ⟨-, -, -, rfl⟩ := h
        simp only [Bool.and_eq_true] at hq
        have h1 := Nat.le_of_ble_eq_true hq.1
        have h2 := Nat.le_of_ble_eq_true hq.2
        exact ⟨Or.inr (by simpa using h1), Or.inr (by rw [hsz_app]; exact h2)⟩
      · cases h
    · cases h
  all_goals (repeat' (split at h))
  all_goals first
    | (cases h; done)
    | (simp only [Option.some.injEq, Prod.mk.injEq] at h; obtain ⟨-, -, -, rfl⟩ := h; exact ⟨Or.inl (Nat.le_refl _), Or.inl (Nat.le_refl _)⟩)
    | (simp only [Option.some.injEq, Prod.mk.injEq] at h; obtain ⟨-, -, -, rfl⟩ := h; exact ⟨Or.inl (by simp), Or.inl (Nat.le_of_eq (hsz_set P _ _ _ _ (by assumption) (by simp [csz, wr, wrL])))⟩)
theorem run_cap {P : Prog} : ∀ {n k pc : Nat} {L : ALoc} {S : List Value} {H : AHeap} {v : Option Value} {H' : AHeap}, run P n k pc L S H = some (v, H') → (H'.length ≤ H.length ∨ H'.length ≤ P.capC) ∧ (hsz P H' ≤ hsz P H ∨ hsz P H' ≤ P.capS)
  | 0, k, pc, L, S, H, v, H', h => by simp [run] at h
  | n + 1, k, pc, L, S, H, v, H', h => by
    rw [run] at h
    split at h
    · cases h
    · split at h
      · cases h; exact ⟨Or.inl (Nat.le_refl _), Or.inl (Nat.le_refl _)⟩
      · split at h
        · split at h
          · rename_i h1
            have g1 := run_cap h1
            have g2 := run_cap h
            omega
          · cases h
        · split at h
          · rename_i h1
            have g1 := step_cap h1
            have g2 := run_cap h
            omega
          · cases h
theorem run_grow {P : Prog} : ∀ {n k pc : Nat} {L : ALoc} {S : List Value} {H : AHeap} {v : Option Value} {H' : AHeap}, run P n k pc L S H = some (v, H') → H.length ≤ H'.length ∧ hsz P H ≤ hsz P H'
  | 0, k, pc, L, S, H, v, H', h => by simp [run] at h
  | n + 1, k, pc, L, S, H, v, H', h => by
    rw [run] at h
    split at h
    · cases h
    · split at h
      · cases h; exact ⟨Nat.le_refl _, Nat.le_refl _⟩
      · split at h
        · split at h
          · rename_i h1
            have g1 := run_grow h1
            have g2 := run_grow h
            omega
          · cases h
        · split at h
          · rename_i h1
            have g1 := step_grow h1
            have g2 := run_grow h
            omega
          · cases h
def OVR (am : List Addr) (v w : Option Value) : Prop := match v with
  | none => w = none
  | some x => ∃ y, w = some y ∧ VR am x y
theorem callV_spec {P : Prog} {k k' : Nat} {i : Instr} {S as rest : List Value} {H : AHeap} (h : callV P k i S H = some (k', as, rest)) :
    ∃ j q, poolOf i = some j ∧ P.link (P.cls k) j = some (q, k') ∧ kindOk i q = true ∧ S = as.reverse ++ rest ∧ as.length = P.pops k' ∧ P.rf k' + 1 ≤ P.rf k ∧ cats rest + (P.maxL k' + 11) + P.rl k' ≤ P.rl k ∧ recvOk P H q as = true ∧ (entL as).length ≤ P.maxL k' := by
  unfold callV at h
  split at h
  · cases h
  · rename_i j hj
    split at h
    · cases h
    · rename_i q k'' hk
      rw [Bool.cond_eq_ite] at h
      split at h
      · rename_i hc
        simp only [Option.some.injEq, Prod.mk.injEq] at h
        obtain ⟨rfl, rfl, rfl⟩ := h
        simp only [Bool.and_eq_true] at hc
        obtain ⟨⟨⟨⟨⟨c1, c2⟩, c3⟩, c4⟩, c5⟩, c6⟩ := hc
        have c2' := Nat.le_of_ble_eq_true c2
        exact ⟨j, q, hj, hk, c1, by rw [List.reverse_reverse, List.take_append_drop], by simp [c2'], Nat.le_of_ble_eq_true c3, Nat.le_of_ble_eq_true c4, c5, Nat.le_of_ble_eq_true c6⟩
      · cases h
theorem linkOk_call {P : Prog} {nm : Nat → MethodName} {bc : Nat → ByteArray} {cn : Nat → String} {C : String} {Z : State} {a0 : Array Value} {c j q k : Nat} (h4 : q ≠ 4) (h5 : q ≠ 5) (h : LinkOk P nm bc cn C Z a0 c j q k) : CallOk P nm bc cn C Z a0 c j q k := by
  unfold LinkOk at h
  split at h
  · exact absurd rfl h4
  · exact absurd rfl h5
  · exact h
theorem recv_spec {P : Prog} {H : AHeap} {q : Nat} {as : List Value} (h0 : q ≠ 0) (h : recvOk P H q as = true) : ∃ a r fs, as = .ref a :: r ∧ H[a]? = some (.inl fs) := by
  unfold recvOk at h
  split at h
  · exact absurd rfl h0
  · split at h
    · split at h
      · rename_i fs hfs
        exact ⟨_, _, fs, rfl, hfs⟩
      · cases h
    · cases h
theorem retV_spec {P : Prog} {k : Nat} {i : Instr} {S : List Value} {v : Option Value} (h : retV P k i S = some v) :
    (i = .return_ ∧ S = [] ∧ P.ret k = none ∧ v = none) ∨ (∃ x r, i = .ireturn ∧ S = .int x :: r ∧ P.ret k = some .int ∧ v = some (.int x)) ∨ (∃ x r, i = .ireturn ∧ S = .int x :: r ∧ P.ret k = some .boolean ∧ v = some (.int (x &&& 1))) ∨ (∃ x r, i = .lreturn ∧ S = .long x :: r ∧ P.ret k = some .long ∧ v = some (.long x)) := by
  unfold retV at h
  split at h
  · split at h
    · rename_i hr; cases h; exact Or.inl ⟨rfl, rfl, hr, rfl⟩
    · cases h
  · split at h
    · split at h
      · rename_i hr; cases h; exact Or.inr (Or.inl ⟨_, _, rfl, rfl, hr, rfl⟩)
      · rename_i hr; cases h; exact Or.inr (Or.inr (Or.inl ⟨_, _, rfl, rfl, hr, rfl⟩))
      · cases h
    · cases h
  · split at h
    · split at h
      · rename_i hr; cases h; exact Or.inr (Or.inr (Or.inr ⟨_, _, rfl, rfl, hr, rfl⟩))
      · cases h
    · cases h
  · cases h
/-- what a callee's contract says behind it -/
def QC (P : Prog) (C : String) (Z : State) (n0 : Nat) (am : List Addr) (v : Option Value) (H1 : AHeap) (w : Option Value) (h' : Heap) (Lc : List Loc) : Prop := Fr n0 Lc ∧ n0 ≤ h'.size ∧ ∃ am', Pre am am' ∧ HR P C Z n0 am' H1 h' ∧ OVR am' v w
/-- the frame's theorem, for one amount of fuel -/
def SoundAt (P : Prog) (nm : Nat → MethodName) (bc : Nat → ByteArray) (cn : Nat → String) (C : String) (Z : State) (n : Nat) : Prop :=
  ∀ (k pc : Nat) (L : ALoc) (S : List Value) (H : AHeap) (v : Option Value) (H' : AHeap), run P n k pc L S H = some (v, H') →
  ∀ {p : Program} {l : Launch} {e : Env} {R : Room} {s : State} {m : MethodId} {args : Array Value} {below : List Frame} {meth : Method} {c : Code} {T : State} {locs : List Loc} {cells slots n0 : Nat} {am : List Addr} {ls : Array Slot} {st : List Value},
    Stand p l e R s m args below meth c T locs cells slots → p.tables.exec = Jvm.exec → Z.Warmed39 s.vm → c.code = bc k → c.maxLocals = P.maxL k → meth.sig.returnType = P.ret k → s.vm.findClass (cn (P.cls k)) = some m.cls → (P.ini k = true → meth.name = "<init>" ∧ cn (P.cls k) = C) →
    P.rf k ≤ R.frames → P.rl k ≤ R.locals → cells + (H'.length - H.length) ≤ R.cells → slots + (hsz P H' - hsz P H) ≤ R.slots → ls.size = P.maxL k → LR am L ls → SR am S st → HR P C Z n0 am H T.heap → Fr n0 locs → n0 ≤ T.heap.size →
    ∃ T' am' locs' w, Stand p l e R s m args below meth c T' locs' (cells + (H'.length - H.length)) (slots + (hsz P H' - hsz P H)) ∧ HR P C Z n0 am' H' T'.heap ∧ Pre am am' ∧ Fr n0 locs' ∧ OVR am' v w ∧ n0 ≤ T'.heap.size ∧ (P.ret k = none → w = none) ∧
      ∀ fs, (∀ (f : JFrame) (acts : List Action), f.method = m → f.locked = none → f.entered = [] → (doReturn e (T'.setTop f) acts w).1 = T'.setFrames fs) → Steps p.tables e below (T.setTop (mkF m pc ls st)) (T'.setFrames fs)
section Met
variable {P : Prog} {nm : Nat → MethodName} {bc : Nat → ByteArray} {cn : Nat → String} {C : String} {Z : State} {a0 : Array Value}
theorem metOf {n k : Nat} {as : List Value} {H H1 : AHeap} {v : Option Value} (IH : SoundAt P nm bc cn C Z n) (hrun : run P n k 0 (entry P k as) [] H = some (v, H1)) {l : Launch} {wsC : List Cond} {rm : Room} (hpl : plainName (nm k).cls = true) (hcls : (nm k).cls = cn (P.cls k)) (hini : P.ini k = true → (nm k).name = "<init>" ∧ (nm k).cls = C)
    (hrf : P.rf k ≤ rm.frames) (hrl : P.rl k ≤ rm.locals) (hrc : H1.length - H.length ≤ rm.cells) (hrs : hsz P H1 - hsz P H ≤ rm.slots) {am : List Addr} {ws : List Value} {h : Heap} {n0 : Nat} (hS : SR am as ws) (hE : (entL as).length ≤ P.maxL k) (hH : HR P C Z n0 am H h) (hn : n0 ≤ h.size) :
    MetFree l (nm k) (head1 (Cond.code (nm k) (bc k) (P.maxL k) (P.ret k) :: wsC) rm) (fun a U => a = ws.toArray ∧ Z.Warmed39 U.vm ∧ U.heap = h) (fun _ _ _ _ _ => True)
      (fun _ U o U' => ∃ w Lc, o = .returned w ∧ QC P C Z n0 am v H1 w U'.heap Lc ∧ FrameEnd U o U' Lc (H1.length - H.length) (hsz P H1 - hsz P H)) := by
  refine MetFree.of_bodySF (plainFor_of_name hpl) hisR ?_
  intro p e s m args below meth c s₁ Bd hml0 hP hK
  obtain ⟨rfl, hZ, hh⟩ := hP
  have hown : s.vm.findClass (nm k).cls = some m.cls := findClass_of_methodNamed Bd.named
  have hnm := (name_of_methodNamed Bd.named Bd.method).1
  have X0 : Stand p l e rm s m ws.toArray below meth c s₁ [] 0 0 := Stand.of_body Bd
  have e0 : s₁.heap = h := by rw [← hh, Bd.state]; rfl
  have hsl := (slotsL_ok hS).1
  obtain ⟨T', am', locs', w, X', h1, h2, h3, h4, h5, h6, h7⟩ := IH k 0 _ _ _ _ _ hrun X0 Bd.exec hZ Bd.bytes hml0 Bd.returns (by rw [← hcls]; exact hown) (fun q => ⟨by rw [hnm]; exact (hini q).1, by rw [← hcls]; exact (hini q).2⟩) hrf hrl (by omega) (by omega) (entry_size (ws := ws) (n := P.maxL k) (by omega)) (LR.entry hS hE) (st := []) rfl (by rw [e0]; exact hH) (Fr.nil n0) (by rw [e0]; exact hn)
  obtain ⟨fs, hr, hrun', hended, hW, hsame⟩ := X'.leave (v := w) (fun q => h6 (by rw [← Bd.returns]; exact q))
  exact ⟨_, _, h7 fs hr, hrun', hended, w, locs', rfl, ⟨h3, h5, am', h2, h1, h4⟩, ⟨_, rfl⟩, hW, hsame.mono (by omega) (by omega)⟩
variable {p : Program} {l : Launch} {e : Env} {R : Room} {s : State} {m : MethodId} {args : Array Value} {below : List Frame} {meth : Method} {c : Code} {T : State} {locs : List Loc} {cells slots : Nat} {n0 : Nat}
theorem call_sound (G : Good P nm bc cn C Z a0) {n k k' pc np : Nat} {i : Instr} {S as rest : List Value} {H H1 : AHeap} {v : Option Value} (IH : SoundAt P nm bc cn C Z n) (hcode : P.code k pc = some (i, np)) (hcall : callV P k i S H = some (k', as, rest)) (hrun : run P n k' 0 (entry P k' as) [] H = some (v, H1))
    (X : Stand p l e R s m args below meth c T locs cells slots) (hx : p.tables.exec = Jvm.exec) (hZ : Z.Warmed39 s.vm) (hby : c.code = bc k) (hml : c.maxLocals = P.maxL k) (hown : s.vm.findClass (cn (P.cls k)) = some m.cls)
    (hrf : P.rf k ≤ R.frames) (hrl : P.rl k ≤ R.locals) (hcells : cells + (H1.length - H.length) ≤ R.cells) (hslots : slots + (hsz P H1 - hsz P H) ≤ R.slots) {am : List Addr} {ls : Array Slot} {st : List Value} (hlz : ls.size = P.maxL k) (hS : SR am S st) (hH : HR P C Z n0 am H T.heap) (hn : n0 ≤ T.heap.size) :
    ∃ T2 w Lc z, np = pc + 3 ∧ Stand p l e R s m args below meth c T2 (locs ++ Lc) (cells + (H1.length - H.length)) (slots + (hsz P H1 - hsz P H)) ∧ QC P C Z n0 am v H1 w T2.heap Lc ∧ SR am rest z ∧
      ∀ target, Steps p.tables e below (T2.setTop (mkF m (pc + 3) ls (w.toList ++ z))) target → Steps p.tables e below (T.setTop (mkF m pc ls st)) target := by
  obtain ⟨j, q, hj, hk, hkind, rfl, hlen, c3, c4, c5, c6⟩ := callV_spec hcall
  obtain ⟨G1, -, -, -, -, G6, -, -, G9⟩ := G
  obtain ⟨len, hdec, rfl, hlen'⟩ := G1 _ _ _ _ hcode
  have hd : decode c.code pc = .ok (i, len) := by rw [hby]; exact hdec
  obtain ⟨y, z, rfl, hy, hz⟩ := SR.app _ _ hS rfl
  have hws : SR am as y.reverse := by have := hy.rev; rwa [List.reverse_reverse] at this
  have hcz := hz.cats
  have lk := G9 _ _ _ _ hk
  have hq4 : q ≠ 4 := fun q4 => by subst q4; cases i <;> simp [kindOk] at hkind
  have hq5 : q ≠ 5 := fun q5 => by subst q5; cases i <;> simp [kindOk] at hkind
  have lk' : CallOk P nm bc cn C Z a0 (P.cls k) j q k' := linkOk_call hq4 hq5 lk
  obtain ⟨w1, w2, w3, ⟨ps, r, w4, w5⟩, w6, w7, w8, w9, w10⟩ := lk'
  have hM := metOf IH hrun (l := l) (wsC := []) (rm := ({ frames := P.rf k', cells := H1.length - H.length, slots := hsz P H1 - hsz P H, locals := P.rl k' } : Room)) w6 w8 w9 (Nat.le_refl _) (Nat.le_refl _) (Nat.le_refl _) (Nat.le_refl _) hws c6 hH hn
  have hB := backOf (R := R) (p := p) (e := e) (below := below) (args := args) (s := s) (len := 3) (W := cats rest) hM hZ w2 w3 (by show P.rf k' + 1 ≤ _; omega) (by show cats rest + (P.maxL k' + 11) + P.rl k' ≤ _; omega)
  have hyl : y.reverse.length = as.length := hws.len
  have recv : q ≠ 0 → ∃ a r' b ws', as = .ref a :: r' ∧ y.reverse = .ref b :: ws' ∧ Exa Z T.heap b C := fun h0 => by
    obtain ⟨a, r', fs, rfl, hfs⟩ := recv_spec h0 c5
    obtain ⟨_, ws', e1, ⟨b, hb, rfl⟩, -⟩ := hws
    obtain ⟨b', f1, f2, -⟩ := hH.2.2.2 _ _ hfs
    cases hb.symm.trans f1
    exact ⟨a, r', b, ws', rfl, e1, f2⟩
  cases i <;> simp only [poolOf, Option.some.injEq, reduceCtorEq] at hj
  case invokestatic j' =>
    subst hj
    obtain rfl : len = 3 := hlen'.resolve_left (by simp [ilen])
    obtain rfl : q = 0 := by
      match q, hkind with
      | 0, _ => rfl
    obtain ⟨w, _, ⟨T2, L2, k2, n2⟩, -, X2, ⟨Lc, hQ, l1, l2, l3⟩, st2⟩ := Jvm.LawKit.callS X hx (y := nm k') hown (mvT hZ w1) (mvT hZ w10) (mvT hZ w3) (mvT hZ w2) w7 hB (g := mkF m pc ls (y ++ z)) rfl (by rw [hml]; exact hlz) (argsL := y.reverse) (rest := z) (lenOf w4 (by rw [hyl, hlen, w5]; rfl)) (by simp) (by rw [hcz]; show 2 * 0 + _ ≤ _; omega) hd (fun _ _ => ⟨rfl, rfl, hcells, hslots⟩)
    dsimp only [Pt.U, Pt.locs, Pt.cells, Pt.slots] at X2 l1 l2 l3 st2 hQ
    subst l1 l2 l3
    exact ⟨T2, w, Lc, z, rfl, X2, hQ, hz, st2⟩
  case invokespecial j' =>
    subst hj
    obtain rfl : len = 3 := hlen'.resolve_left (by simp [ilen])
    obtain rfl : q = 1 := by
      match q, hkind with
      | 1, _ => rfl
    obtain ⟨a, r', b, ws', ea, ey, hEx⟩ := recv (by decide)
    obtain ⟨w11, w12, w13⟩ := w10
    have ey' : y = ws'.reverse ++ [.ref b] := by rw [← List.reverse_reverse y, ey]; simp
    rw [ey] at hB
    have hl : ws'.length = ps.length := by rw [ey, hlen, w5] at hyl; simpa [rcv] using hyl
    obtain ⟨w, _, ⟨T2, L2, k2, n2⟩, -, X2, ⟨Lc, hQ, l1, l2, l3⟩, st2⟩ := X.specialBack hx (y := nm k') w11 hown (mvT hZ w1) (mvT hZ w12) (bytes := bc k') (maxL := P.maxL k') (mvT hZ (by rw [w13] at w2; exact w2)) w7 hB (g := mkF m pc ls (y ++ z)) rfl (by rw [hml]; exact hlz) (Steps.refl _) (a := b) (argsL := ws') (rest := z) (lenOf w4 hl) (by rw [ey']; simp) (by rw [hcz]; show 2 * 0 + _ ≤ _; omega) hd (fun _ _ => ⟨rfl, rfl, hcells, hslots⟩)
    dsimp only [Pt.U, Pt.locs, Pt.cells, Pt.slots] at X2 l1 l2 l3 st2 hQ
    subst l1 l2 l3
    exact ⟨T2, w, Lc, z, rfl, X2, hQ, hz, fun target hr => st2.trans hr⟩
  case invokevirtual j' =>
    subst hj
    obtain rfl : len = 3 := hlen'.resolve_left (by simp [ilen])
    have hq : q = 2 ∨ q = 3 := by
      match q, hkind with
      | 2, _ => exact Or.inl rfl
      | 3, _ => exact Or.inr rfl
    obtain ⟨a, r', b, ws', ea, ey, hEx⟩ := recv (by omega)
    have ey' : y = ws'.reverse ++ [.ref b] := by rw [← List.reverse_reverse y, ey]; simp
    rw [ey] at hB
    rcases hq with rfl | rfl
    · obtain ⟨w11, w12, w13⟩ := w10
      have hl : ws'.length = ps.length := by rw [ey, hlen, w5] at hyl; simpa [rcv] using hyl
      obtain ⟨cq, kq, qa, qb, qc⟩ := isOf hZ rfl hEx
      obtain ⟨w, _, ⟨T2, L2, k2, n2⟩, -, X2, ⟨Lc, hQ, l1, l2, l3⟩, st2⟩ := X.virtualBack hx (y := nm k') (z := nm k') hown (mvT hZ w1) (mvT hZ w11) (notFace_of_selects (args := #[]) (mvT hZ w13)) (mvT hZ w13) (mvT hZ w12) w7 hB qa qc (g := mkF m pc ls (y ++ z)) rfl (by rw [hml]; exact hlz) (Steps.refl _) (argsL := ws') (rest := z) (lenOf w4 hl) (by rw [ey']; simp) (by rw [hcz]; show 2 * 0 + _ ≤ _; omega) hd (fun _ _ => ⟨rfl, rfl, hcells, hslots⟩)
      dsimp only [Pt.U, Pt.locs, Pt.cells, Pt.slots] at X2 l1 l2 l3 st2 hQ
      subst l1 l2 l3
      exact ⟨T2, w, Lc, z, rfl, X2, hQ, hz, fun target hr => st2.trans hr⟩
    · obtain ⟨w11, w12, w13⟩ := w10
      have hl : ws'.length = ps.length := by rw [ey, hlen, w5] at hyl; simpa [rcv] using hyl
      obtain ⟨cq, q1, q2⟩ := hEx.cell
      obtain ⟨cC, kC, i1, i2, i3, i4, -⟩ := Cond.instantiable_spec (mvT hZ G6 : (Cond.instantiable C P.objN).before #[] s = true)
      have hpriv : s.PrivateAt (nm k') := Cond.privateMethod_at (mvP hZ w13 (args := #[]))
      have hsel : (Cond.selects (nm k').cls (nm k') (nm k')).before args s = true := selects_self_of_private (by rw [w11]; exact i1) i2 (by simpa using (Bool.or_eq_false_iff.mp i4).1) hpriv (mvT hZ w12) w7
      obtain ⟨w, _, ⟨T2, L2, k2, n2⟩, -, X2, ⟨Lc, hQ, l1, l2, l3⟩, st2⟩ := X.privateBack hx (y := nm k') hown (mvT hZ w1) (mvT hZ w12) hsel hpriv (mvT hZ w2) w7 hB (g := mkF m pc ls (y ++ z)) rfl (by rw [hml]; exact hlz) (Steps.refl _) (a := b) q1 q2 (argsL := ws') (rest := z) (lenOf w4 hl) (by rw [ey']; simp) (by rw [hcz]; show 2 * 0 + _ ≤ _; omega) hd (fun _ _ => ⟨rfl, rfl, hcells, hslots⟩)
      dsimp only [Pt.U, Pt.locs, Pt.cells, Pt.slots] at X2 l1 l2 l3 st2 hQ
      subst l1 l2 l3
      exact ⟨T2, w, Lc, z, rfl, X2, hQ, hz, fun target hr => st2.trans hr⟩
theorem ret_sound (G : Good P nm bc cn C Z a0) {k pc np : Nat} {i : Instr} {S : List Value} {v : Option Value} (hcode : P.code k pc = some (i, np)) (h : retV P k i S = some v)
    (X : Stand p l e R s m args below meth c T locs cells slots) (hx : p.tables.exec = Jvm.exec) (hby : c.code = bc k) (hret : meth.sig.returnType = P.ret k) {am : List Addr} {ls : Array Slot} {st : List Value} (hS : SR am S st) :
    ∃ w, OVR am v w ∧ (P.ret k = none → w = none) ∧ ∀ fs, (∀ (f : JFrame) (acts : List Action), f.method = m → f.locked = none → f.entered = [] → (doReturn e (T.setTop f) acts w).1 = T.setFrames fs) → Steps p.tables e below (T.setTop (mkF m pc ls st)) (T.setFrames fs) := by
  obtain ⟨G1, -⟩ := G
  obtain ⟨len, hdec, rfl, hlen⟩ := G1 _ _ _ _ hcode
  have hd : decode c.code pc = .ok (i, len) := by rw [hby]; exact hdec
  rcases retV_spec h with ⟨rfl, rfl, hr, rfl⟩ | ⟨x, r, rfl, rfl, hr, rfl⟩ | ⟨x, r, rfl, rfl, hr, rfl⟩ | ⟨x, r, rfl, rfl, hr, rfl⟩
  · obtain rfl : len = 1 := hlen.resolve_left (by simp [ilen])
    cases hS
    exact ⟨none, rfl, fun _ => rfl, fun fs hl => X.returnOut hx (hret.trans hr) hd hl⟩
  · obtain rfl : len = 1 := hlen.resolve_left (by simp [ilen])
    obtain ⟨_, _, rfl, rfl, hr'⟩ := hS
    exact ⟨some (.int x), ⟨_, rfl, rfl⟩, (fun q => by rw [hr] at q; cases q), fun fs hl => retOut X hx (hret.trans hr) rfl (Or.inl ⟨rfl, Or.inl rfl, x, rfl⟩) hd hl⟩
  · obtain rfl : len = 1 := hlen.resolve_left (by simp [ilen])
    obtain ⟨_, _, rfl, rfl, hr'⟩ := hS
    exact ⟨some (.int (x &&& 1)), ⟨_, rfl, rfl⟩, (fun q => by rw [hr] at q; cases q), fun fs hl => retN X hx (hret.trans hr) (Or.inl rfl) hd hl⟩
  · obtain rfl : len = 1 := hlen.resolve_left (by simp [ilen])
    obtain ⟨_, _, rfl, rfl, hr'⟩ := hS
    exact ⟨some (.long x), ⟨_, rfl, rfl⟩, (fun q => by rw [hr] at q; cases q), fun fs hl => retOut X hx (hret.trans hr) rfl (Or.inr (Or.inl ⟨rfl, rfl, x, rfl⟩)) hd hl⟩
theorem SR.opt {am : List Addr} {v w : Option Value} {S st : List Value} (h : OVR am v w) (hS : SR am S st) : SR am (v.toList ++ S) (w.toList ++ st) := by
  cases v with
  | none => cases h; exact hS
  | some x => obtain ⟨y, rfl, h1⟩ := h; exact ⟨y, st, rfl, h1, hS⟩
theorem sound (G : Good P nm bc cn C Z a0) : ∀ n, SoundAt P nm bc cn C Z n
  | 0 => fun k pc L S H v H' h => by simp [run] at h
  | n + 1 => fun k pc L S H v H' h => by
    have IH := sound G n
    intro p l e R s m args below meth c T locs cells slots n0 am ls st X hx hZ hby hml hret hown hini hrf hrl hcells hslots hlz hL hS hH hF hn
    rw [run] at h
    split at h
    · cases h
    · rename_i i np hcode
      split at h
      · rename_i v' hv
        cases h
        obtain ⟨w, h1, h2, h3⟩ := ret_sound G hcode hv X hx hby hret (ls := ls) hS
        exact ⟨T, am, locs, w, by simpa using X, hH, Pre.refl _, hF, h1, hn, h2, h3⟩
      · split at h
        · rename_i k' as rest hcall
          split at h
          · rename_i v1 H1 hr1
            have g1 := run_grow hr1
            have g2 := run_grow h
            obtain ⟨T2, w, Lc, z, rfl, X2, ⟨q1, q2, am2, q3, q4, q5⟩, hz, st2⟩ := call_sound G IH hcode hcall hr1 X hx hZ hby hml hown hrf hrl (by omega) (by omega) (ls := ls) hlz hS hH hn
            obtain ⟨T', am', locs', w', X', f1, f2, f3, f4, f5, f6, f7⟩ := IH k _ _ _ _ _ _ h X2 hx hZ hby hml hret hown hini hrf hrl (by omega) (by omega) hlz (hL.mono q3) (SR.opt q5 (hz.mono q3)) q4 (Fr.app hF q1) q2
            refine ⟨T', am', locs', w', ?_, f1, q3.trans f2, f3, f4, f5, f6, fun fs hl => st2 _ (f7 fs hl)⟩
            have a1 : cells + (H1.length - H.length) + (H'.length - H1.length) = cells + (H'.length - H.length) := by omega
            have a2 : slots + (hsz P H1 - hsz P H) + (hsz P H' - hsz P H1) = slots + (hsz P H' - hsz P H) := by omega
            rw [a1, a2] at X'; exact X'
          · cases h
        · split at h
          · rename_i pc1 L1 S1 H1 hs1
            have g1 := step_grow hs1
            have g2 := run_grow h
            obtain ⟨T2, am2, ls2, st2, locs2, X2, b1, b2, b3, b4, b5, b6, b7, b8⟩ := step_sound G hcode hs1 X hx hZ hby hml hown hini hrf hrl (by omega) (by omega) hlz hL hS hH hF hn
            obtain ⟨T', am', locs', w', X', f1, f2, f3, f4, f5, f6, f7⟩ := IH k _ _ _ _ _ _ h X2 hx hZ hby hml hret hown hini hrf hrl (by omega) (by omega) (b2.trans hlz) b1 b3 b4 b6 b7
            refine ⟨T', am', locs', w', ?_, f1, b5.trans f2, f3, f4, f5, f6, fun fs hl => b8 _ (f7 fs hl)⟩
            have a1 : cells + (H1.length - H.length) + (H'.length - H1.length) = cells + (H'.length - H.length) := by omega
            have a2 : slots + (hsz P H1 - hsz P H) + (hsz P H' - hsz P H1) = slots + (hsz P H' - hsz P H) := by omega
            rw [a1, a2] at X'; exact X'
          · cases h
end Met
end Jvm.OwnX
namespace Jvm.OwnX
open Sem ClassFile Op Lib Jvm.Stand Jvm.Free Jvm.LawKit Jvm.RoadKit
theorem run_succ {P : Prog} : ∀ (n : Nat) {k pc : Nat} {L : ALoc} {S : List Value} {H : AHeap} {out : Option Value × AHeap}, run P n k pc L S H = some out → run P (n + 1) k pc L S H = some out
  | 0, k, pc, L, S, H, out, h => by simp [run] at h
  | n + 1, k, pc, L, S, H, out, h => by
    rw [run] at h
    rw [run]
    split at h
    · cases h
    · rename_i i np hc
      try simp only [hc]
      split at h
      · rename_i v hv
        try simp only [hv]
        exact h
      · rename_i hv
        try simp only [hv]
        split at h
        · rename_i k' as rest hcall
          try simp only [hcall]
          split at h
          · rename_i v1 H1 h1
            rw [run_succ n h1]; exact run_succ n h
          · cases h
        · rename_i hcall
          try simp only [hcall]
          split at h
          · rename_i pc1 L1 S1 H1 h1
            try simp only [h1]
            exact run_succ n h
          · cases h
theorem run_le {P : Prog} {n m k pc : Nat} {L : ALoc} {S : List Value} {H : AHeap} {out : Option Value × AHeap} (hm : n ≤ m) (h : run P n k pc L S H = some out) : run P m k pc L S H = some out := by
  induction hm with
  | refl => exact h
  | step _ ih => exact run_succ _ ih
section Rules
variable {P : Prog} {k pc np : Nat} {L L' : ALoc} {S r : List Value} {H : AHeap} {out : Option Value × AHeap}
theorem Eval.of_step {i : Instr} {pc' : Nat} {S' : List Value} {H' : AHeap} (hc : P.code k pc = some (i, np)) (h1 : retV P k i S = none) (h2 : callV P k i S H = none) (h3 : step P k i np pc L S H = some (pc', L', S', H')) (h : Eval P k pc' L' S' H' out) : Eval P k pc L S H out := by
  obtain ⟨n, h⟩ := h
  exact ⟨n + 1, by rw [run]; simp only [hc, h1, h2, h3]; exact h⟩
theorem Eval.call {i : Instr} {k' : Nat} {as rest : List Value} {v : Option Value} {H1 : AHeap} (hc : P.code k pc = some (i, np)) (h2 : callV P k i S H = some (k', as, rest)) (he : Eval P k' 0 (entry P k' as) [] H (v, H1)) (h : Eval P k np L (v.toList ++ rest) H1 out) : Eval P k pc L S H out := by
  obtain ⟨n, he⟩ := he
  obtain ⟨m, h⟩ := h
  have h1 : retV P k i S = none := by
    unfold callV at h2
    cases i <;> simp only [poolOf, reduceCtorEq] at h2 <;> rfl
  exact ⟨n + m + 1, by rw [run]; simp only [hc, h1, h2]; rw [run_le (Nat.le_add_right n m) he]; exact run_le (Nat.le_add_left m n) h⟩
theorem Eval.ret {i : Instr} {v : Option Value} (hc : P.code k pc = some (i, np)) (h1 : retV P k i S = some v) : Eval P k pc L S H (v, H) := ⟨1, by rw [run]; simp only [hc, h1]⟩
theorem Eval.eq {out' : Option Value × AHeap} (h : Eval P k pc L S H out') (e : out' = out) : Eval P k pc L S H out := e ▸ h
theorem Eval.iload_n {n : Fin 4} {x : Int32} (hc : P.code k pc = some (.iload_n n, np)) (hl : loadI L n.val = some x) (h : Eval P k np L (.int x :: S) H out) : Eval P k pc L S H out := Eval.of_step hc rfl rfl (by simp only [step, hl]) h
theorem Eval.iload {n : Nat} {x : Int32} (hc : P.code k pc = some (.iload n, np)) (hl : loadI L n = some x) (h : Eval P k np L (.int x :: S) H out) : Eval P k pc L S H out := Eval.of_step hc rfl rfl (by simp only [step, hl]) h
theorem Eval.lload_n {n : Fin 4} {x : Int64} (hc : P.code k pc = some (.lload_n n, np)) (hl : loadJ L n.val = some x) (h : Eval P k np L (.long x :: S) H out) : Eval P k pc L S H out := Eval.of_step hc rfl rfl (by simp only [step, hl]) h
theorem Eval.lload {n : Nat} {x : Int64} (hc : P.code k pc = some (.lload n, np)) (hl : loadJ L n = some x) (h : Eval P k np L (.long x :: S) H out) : Eval P k pc L S H out := Eval.of_step hc rfl rfl (by simp only [step, hl]) h
theorem Eval.aload_n {n : Fin 4} {x : Nat} (hc : P.code k pc = some (.aload_n n, np)) (hl : loadA L n.val = some x) (h : Eval P k np L (.ref x :: S) H out) : Eval P k pc L S H out := Eval.of_step hc rfl rfl (by simp only [step, hl]) h
theorem Eval.aload {n : Nat} {x : Nat} (hc : P.code k pc = some (.aload n, np)) (hl : loadA L n = some x) (h : Eval P k np L (.ref x :: S) H out) : Eval P k pc L S H out := Eval.of_step hc rfl rfl (by simp only [step, hl]) h
theorem Eval.istore_n {n : Fin 4} {x : Int32} (hc : P.code k pc = some (.istore_n n, np)) (hl : lput L n.val (.int x) = some L') (h : Eval P k np L' r H out) : Eval P k pc L (.int x :: r) H out := Eval.of_step hc rfl rfl (by simp only [step, hl]) h
theorem Eval.istore {n : Nat} {x : Int32} (hc : P.code k pc = some (.istore n, np)) (hl : lput L n (.int x) = some L') (h : Eval P k np L' r H out) : Eval P k pc L (.int x :: r) H out := Eval.of_step hc rfl rfl (by simp only [step, hl]) h
theorem Eval.astore_n {n : Fin 4} {x : Nat} (hc : P.code k pc = some (.astore_n n, np)) (hl : lput L n.val (.ref x) = some L') (h : Eval P k np L' r H out) : Eval P k pc L (.ref x :: r) H out := Eval.of_step hc rfl rfl (by simp only [step, hl]) h
theorem Eval.astore {n : Nat} {x : Nat} (hc : P.code k pc = some (.astore n, np)) (hl : lput L n (.ref x) = some L') (h : Eval P k np L' r H out) : Eval P k pc L (.ref x :: r) H out := Eval.of_step hc rfl rfl (by simp only [step, hl]) h
theorem Eval.lstore_n {n : Fin 4} {x : Int64} (hc : P.code k pc = some (.lstore_n n, np)) (hl : lputL L n.val x = some L') (h : Eval P k np L' r H out) : Eval P k pc L (.long x :: r) H out := Eval.of_step hc rfl rfl (by simp only [step, hl]) h
theorem Eval.lstore {n : Nat} {x : Int64} (hc : P.code k pc = some (.lstore n, np)) (hl : lputL L n x = some L') (h : Eval P k np L' r H out) : Eval P k pc L (.long x :: r) H out := Eval.of_step hc rfl rfl (by simp only [step, hl]) h
theorem Eval.iinc {n : Nat} {c : Int} {x : Int32} (hc : P.code k pc = some (.iinc n c, np)) (hl : loadI L n = some x) (hp : lput L n (.int (x + Int32.ofInt c)) = some L') (h : Eval P k np L' S H out) : Eval P k pc L S H out := Eval.of_step hc rfl rfl (by simp only [step, hl, hp]) h
theorem Eval.iconst {c : Int} {x : Int32} (hc : P.code k pc = some (.iconst c, np)) (hx : Int32.ofInt c = x) (h : Eval P k np L (.int x :: S) H out) : Eval P k pc L S H out := Eval.of_step hc rfl rfl (by subst hx; rfl) h
theorem Eval.bipush {c : Int} {x : Int32} (hc : P.code k pc = some (.bipush c, np)) (hx : (Int8.ofInt c).toInt32 = x) (h : Eval P k np L (.int x :: S) H out) : Eval P k pc L S H out := Eval.of_step hc rfl rfl (by subst hx; rfl) h
theorem Eval.sipush {c : Int} {x : Int32} (hc : P.code k pc = some (.sipush c, np)) (hx : (Int16.ofInt c).toInt32 = x) (h : Eval P k np L (.int x :: S) H out) : Eval P k pc L S H out := Eval.of_step hc rfl rfl (by subst hx; rfl) h
theorem Eval.lconst {c : Fin 2} {x : Int64} (hc : P.code k pc = some (.lconst c, np)) (hx : Int64.ofNat c = x) (h : Eval P k np L (.long x :: S) H out) : Eval P k pc L S H out := Eval.of_step hc rfl rfl (by subst hx; rfl) h
theorem Eval.ldc {j : Nat} {x : Int32} (hc : P.code k pc = some (.ldc j, np)) (hx : P.kon (P.cls k) j = some (.int x)) (h : Eval P k np L (.int x :: S) H out) : Eval P k pc L S H out := Eval.of_step hc rfl rfl (by simp only [step, hx]) h
theorem Eval.ldc2_w {j : Nat} {x : Int64} (hc : P.code k pc = some (.ldc2_w j, np)) (hx : P.kon (P.cls k) j = some (.long x)) (h : Eval P k np L (.long x :: S) H out) : Eval P k pc L S H out := Eval.of_step hc rfl rfl (by simp only [step, hx]) h
theorem Eval.idiv {x y : Int32} (hc : P.code k pc = some (.idiv, np)) (hy : ¬ y = 0) (h : Eval P k np L (.int (x / y) :: r) H out) : Eval P k pc L (.int y :: .int x :: r) H out := Eval.of_step hc rfl rfl (by simp [step, hy]) h
theorem Eval.irem {x y : Int32} (hc : P.code k pc = some (.irem, np)) (hy : ¬ y = 0) (h : Eval P k np L (.int (x % y) :: r) H out) : Eval P k pc L (.int y :: .int x :: r) H out := Eval.of_step hc rfl rfl (by simp [step, hy]) h
theorem Eval.iadd {x y : Int32} (hc : P.code k pc = some (.iadd, np))  (h : Eval P k np L (.int (x + y) :: r) H out) : Eval P k pc L (.int y :: .int x :: r) H out := Eval.of_step hc rfl rfl (by rfl) h
theorem Eval.isub {x y : Int32} (hc : P.code k pc = some (.isub, np))  (h : Eval P k np L (.int (x - y) :: r) H out) : Eval P k pc L (.int y :: .int x :: r) H out := Eval.of_step hc rfl rfl (by rfl) h
theorem Eval.imul {x y : Int32} (hc : P.code k pc = some (.imul, np))  (h : Eval P k np L (.int (x * y) :: r) H out) : Eval P k pc L (.int y :: .int x :: r) H out := Eval.of_step hc rfl rfl (by rfl) h
theorem Eval.iand {x y : Int32} (hc : P.code k pc = some (.iand, np))  (h : Eval P k np L (.int (x &&& y) :: r) H out) : Eval P k pc L (.int y :: .int x :: r) H out := Eval.of_step hc rfl rfl (by rfl) h
theorem Eval.ior {x y : Int32} (hc : P.code k pc = some (.ior, np))  (h : Eval P k np L (.int (x ||| y) :: r) H out) : Eval P k pc L (.int y :: .int x :: r) H out := Eval.of_step hc rfl rfl (by rfl) h
theorem Eval.ixor {x y : Int32} (hc : P.code k pc = some (.ixor, np))  (h : Eval P k np L (.int (x ^^^ y) :: r) H out) : Eval P k pc L (.int y :: .int x :: r) H out := Eval.of_step hc rfl rfl (by rfl) h
theorem Eval.ishl {x y : Int32} (hc : P.code k pc = some (.ishl, np))  (h : Eval P k np L (.int (ish x y) :: r) H out) : Eval P k pc L (.int y :: .int x :: r) H out := Eval.of_step hc rfl rfl (by rfl) h
theorem Eval.ishr {x y : Int32} (hc : P.code k pc = some (.ishr, np))  (h : Eval P k np L (.int (isr x y) :: r) H out) : Eval P k pc L (.int y :: .int x :: r) H out := Eval.of_step hc rfl rfl (by rfl) h
theorem Eval.iushr {x y : Int32} (hc : P.code k pc = some (.iushr, np))  (h : Eval P k np L (.int (ush x y) :: r) H out) : Eval P k pc L (.int y :: .int x :: r) H out := Eval.of_step hc rfl rfl (by rfl) h
theorem Eval.ladd {x y : Int64} (hc : P.code k pc = some (.ladd, np))  (h : Eval P k np L (.long (x + y) :: r) H out) : Eval P k pc L (.long y :: .long x :: r) H out := Eval.of_step hc rfl rfl (by rfl) h
theorem Eval.lsub {x y : Int64} (hc : P.code k pc = some (.lsub, np))  (h : Eval P k np L (.long (x - y) :: r) H out) : Eval P k pc L (.long y :: .long x :: r) H out := Eval.of_step hc rfl rfl (by rfl) h
theorem Eval.lmul {x y : Int64} (hc : P.code k pc = some (.lmul, np))  (h : Eval P k np L (.long (x * y) :: r) H out) : Eval P k pc L (.long y :: .long x :: r) H out := Eval.of_step hc rfl rfl (by rfl) h
theorem Eval.land {x y : Int64} (hc : P.code k pc = some (.land, np))  (h : Eval P k np L (.long (x &&& y) :: r) H out) : Eval P k pc L (.long y :: .long x :: r) H out := Eval.of_step hc rfl rfl (by rfl) h
theorem Eval.lor {x y : Int64} (hc : P.code k pc = some (.lor, np))  (h : Eval P k np L (.long (x ||| y) :: r) H out) : Eval P k pc L (.long y :: .long x :: r) H out := Eval.of_step hc rfl rfl (by rfl) h
theorem Eval.lxor {x y : Int64} (hc : P.code k pc = some (.lxor, np))  (h : Eval P k np L (.long (x ^^^ y) :: r) H out) : Eval P k pc L (.long y :: .long x :: r) H out := Eval.of_step hc rfl rfl (by rfl) h
theorem Eval.lshl {x : Int64} {y : Int32} (hc : P.code k pc = some (.lshl, np))  (h : Eval P k np L (.long (lsh x y) :: r) H out) : Eval P k pc L (.int y :: .long x :: r) H out := Eval.of_step hc rfl rfl (by rfl) h
theorem Eval.lushr {x : Int64} {y : Int32} (hc : P.code k pc = some (.lushr, np))  (h : Eval P k np L (.long (lus x y) :: r) H out) : Eval P k pc L (.int y :: .long x :: r) H out := Eval.of_step hc rfl rfl (by rfl) h
theorem Eval.lcmp {x y : Int64} (hc : P.code k pc = some (.lcmp, np))  (h : Eval P k np L (.int (lcm x y) :: r) H out) : Eval P k pc L (.long y :: .long x :: r) H out := Eval.of_step hc rfl rfl (by rfl) h
theorem Eval.lneg {x : Int64} (hc : P.code k pc = some (.lneg, np))  (h : Eval P k np L (.long (-x) :: r) H out) : Eval P k pc L (.long x :: r) H out := Eval.of_step hc rfl rfl (by rfl) h
theorem Eval.i2l {x : Int32} (hc : P.code k pc = some (.i2l, np))  (h : Eval P k np L (.long x.toInt64 :: r) H out) : Eval P k pc L (.int x :: r) H out := Eval.of_step hc rfl rfl (by rfl) h
theorem Eval.l2i {x : Int64} (hc : P.code k pc = some (.l2i, np))  (h : Eval P k np L (.int x.toInt32 :: r) H out) : Eval P k pc L (.long x :: r) H out := Eval.of_step hc rfl rfl (by rfl) h
theorem Eval.i2b {x : Int32} (hc : P.code k pc = some (.i2b, np))  (h : Eval P k np L (.int (i8 x) :: r) H out) : Eval P k pc L (.int x :: r) H out := Eval.of_step hc rfl rfl (by rfl) h
theorem Eval.dupR {x : Nat} (hc : P.code k pc = some (.dup, np))  (h : Eval P k np L (.ref x :: .ref x :: r) H out) : Eval P k pc L (.ref x :: r) H out := Eval.of_step hc rfl rfl (by rfl) h
theorem Eval.dupI {x : Int32} (hc : P.code k pc = some (.dup, np))  (h : Eval P k np L (.int x :: .int x :: r) H out) : Eval P k pc L (.int x :: r) H out := Eval.of_step hc rfl rfl (by rfl) h
theorem Eval.dup2 {x : Int32} {y : Nat} (hc : P.code k pc = some (.dup2, np))  (h : Eval P k np L (.int x :: .ref y :: .int x :: .ref y :: r) H out) : Eval P k pc L (.int x :: .ref y :: r) H out := Eval.of_step hc rfl rfl (by rfl) h
theorem Eval.popI {x : Int32} (hc : P.code k pc = some (.pop, np))  (h : Eval P k np L r H out) : Eval P k pc L (.int x :: r) H out := Eval.of_step hc rfl rfl (by rfl) h
theorem Eval.popR {x : Nat} (hc : P.code k pc = some (.pop, np))  (h : Eval P k np L r H out) : Eval P k pc L (.ref x :: r) H out := Eval.of_step hc rfl rfl (by rfl) h
theorem Eval.goto {o : Int} {t : Nat} (hc : P.code k pc = some (.goto o, np)) (ht : tgt pc o = some t) (h : Eval P k t L S H out) : Eval P k pc L S H out := Eval.of_step hc rfl rfl (by simp only [step, ht]) h
theorem Eval.ifT {cd : ClassFile.Cond} {o : Int} {t : Nat} {x : Int32} (hc : P.code k pc = some (.ifCond cd o, np)) (ht : tgt pc o = some t) (hb : if_icmp.holds cd x 0 = true) (h : Eval P k t L r H out) : Eval P k pc L (.int x :: r) H out := Eval.of_step hc rfl rfl (by simp only [step, ht, hb, cond_true]) h
theorem Eval.ifF {cd : ClassFile.Cond} {o : Int} {x : Int32} (hc : P.code k pc = some (.ifCond cd o, np)) (hb : if_icmp.holds cd x 0 = false) (h : Eval P k np L r H out) : Eval P k pc L (.int x :: r) H out := Eval.of_step hc rfl rfl (by simp only [step, hb, cond_false]) h
theorem Eval.icmpT {cd : ClassFile.Cond} {o : Int} {t : Nat} {x y : Int32} (hc : P.code k pc = some (.if_icmp cd o, np)) (ht : tgt pc o = some t) (hb : if_icmp.holds cd x y = true) (h : Eval P k t L r H out) : Eval P k pc L (.int y :: .int x :: r) H out := Eval.of_step hc rfl rfl (by simp only [step, ht, hb, cond_true]) h
theorem Eval.icmpF {cd : ClassFile.Cond} {o : Int} {x y : Int32} (hc : P.code k pc = some (.if_icmp cd o, np)) (hb : if_icmp.holds cd x y = false) (h : Eval P k np L r H out) : Eval P k pc L (.int y :: .int x :: r) H out := Eval.of_step hc rfl rfl (by simp only [step, hb, cond_false]) h
theorem Eval.tswIn {d lo hi o : Int} {offs : Array Int} {t : Nat} {x : Int32} (hc : P.code k pc = some (.tableswitch d lo hi offs, np)) (h1 : (decide (x.toInt < lo) || decide (x.toInt > hi)) = false) (h2 : offs.toList[(x.toInt - lo).toNat]? = some o) (ht : tgt pc o = some t) (h : Eval P k t L r H out) : Eval P k pc L (.int x :: r) H out := Eval.of_step hc rfl rfl (by simp only [step, h1, h2, ht, cond_false]) h
theorem Eval.tswOut {d lo hi : Int} {offs : Array Int} {t : Nat} {x : Int32} (hc : P.code k pc = some (.tableswitch d lo hi offs, np)) (h1 : (decide (x.toInt < lo) || decide (x.toInt > hi)) = true) (ht : tgt pc d = some t) (h : Eval P k t L r H out) : Eval P k pc L (.int x :: r) H out := Eval.of_step hc rfl rfl (by simp only [step, h1, ht, cond_true]) h
theorem Eval.getfield {j f a : Nat} {v : Value} (hc : P.code k pc = some (.getfield j, np)) (hf : P.fld (P.cls k) j = some f) (hg : getC H a f = some v) (h : Eval P k np L (v :: r) H out) : Eval P k pc L (.ref a :: r) H out := Eval.of_step hc rfl rfl (by simp only [step, hf, hg]) h
/-- the heap with a field written -/
def putC (P : Prog) (k : Nat) (H : AHeap) (a f : Nat) (v : Value) : Option AHeap := match P.fields[f]? with
  | some (_, _, t, fin) => (bif (!fin || P.ini k) && Nat.ble P.ro a then (match conv t v with
    | some v' => (match H[a]? with
      | some (.inl fs) => (bif Nat.ble (f + 1) fs.length then some (H.set a (.inl (fs.set f v'))) else none)
      | _ => none)
    | none => none) else none)
  | none => none
theorem putC_spec {P : Prog} {k a f : Nat} {v : Value} {H H1 : AHeap} (hp : putC P k H a f v = some H1) : ∃ n d t fin v' fs, P.fields[f]? = some (n, d, t, fin) ∧ ((!fin || P.ini k) && Nat.ble P.ro a) = true ∧ conv t v = some v' ∧ H[a]? = some (.inl fs) ∧ Nat.ble (f + 1) fs.length = true ∧ H1 = H.set a (.inl (fs.set f v')) := by
  unfold putC at hp
  simp only [Bool.cond_eq_ite] at hp
  split at hp
  · rename_i n d t fin hq
    split at hp
    · rename_i hc
      split at hp
      · rename_i v' hv
        split at hp
        · rename_i fs hfs
          split at hp
          · rename_i hz
            cases hp; exact ⟨n, d, t, fin, v', fs, hq, hc, hv, hfs, hz, rfl⟩
          · cases hp
        · cases hp
      · cases hp
    · cases hp
  · cases hp
theorem step_put {j f a : Nat} {v : Value} {H1 : AHeap} (hf : P.fld (P.cls k) j = some f) (hp : putC P k H a f v = some H1) : step P k (.putfield j) np pc L (v :: .ref a :: r) H = some (np, L, r, H1) := by
  obtain ⟨n, d, t, fin, v', fs, h1, h2, h3, h4, h5, rfl⟩ := putC_spec hp
  simp only [step, hf, h1, h2, h3, h4, h5, cond_true]
theorem Eval.putfield {j f a : Nat} {v : Value} {H1 : AHeap} (hc : P.code k pc = some (.putfield j, np)) (hf : P.fld (P.cls k) j = some f) (hp : putC P k H a f v = some H1) (h : Eval P k np L r H1 out) : Eval P k pc L (v :: .ref a :: r) H out := Eval.of_step hc rfl rfl (step_put hf hp) h
theorem Eval.iaload0 {a : Nat} {j : Int32} {xs : List Int32} (hc : P.code k pc = some (.iaload, np)) (ha : H[a]? = some (.inr (.inl (0, xs)))) (hj : inb xs.length j = true) (h : Eval P k np L (.int (rd xs j) :: r) H out) : Eval P k pc L (.int j :: .ref a :: r) H out := Eval.of_step hc rfl rfl (by simp only [step, ha, hj, cond_true]) h
theorem Eval.iaload {a : Nat} {j : Int32} {xs : List Int32} (hc : P.code k pc = some (.iaload, np)) (ha : H[a]? = some (.inr (.inl (1, xs)))) (hj : inb xs.length j = true) (h : Eval P k np L (.int (rd xs j) :: r) H out) : Eval P k pc L (.int j :: .ref a :: r) H out := Eval.of_step hc rfl rfl (by simp only [step, ha, hj, cond_true]) h
theorem Eval.baloadZ {a : Nat} {j : Int32} {xs : List Int32} (hc : P.code k pc = some (.baload, np)) (ha : H[a]? = some (.inr (.inl (2, xs)))) (hj : inb xs.length j = true) (h : Eval P k np L (.int (rd xs j) :: r) H out) : Eval P k pc L (.int j :: .ref a :: r) H out := Eval.of_step hc rfl rfl (by simp only [step, ha, hj, cond_true]) h
theorem Eval.baloadB {a : Nat} {j : Int32} {xs : List Int32} (hc : P.code k pc = some (.baload, np)) (ha : H[a]? = some (.inr (.inl (3, xs)))) (hj : inb xs.length j = true) (h : Eval P k np L (.int (rd xs j) :: r) H out) : Eval P k pc L (.int j :: .ref a :: r) H out := Eval.of_step hc rfl rfl (by simp only [step, ha, hj, cond_true]) h
theorem Eval.laload {a : Nat} {j : Int32} {xs : List Int64} (hc : P.code k pc = some (.laload, np)) (ha : H[a]? = some (.inr (.inr xs))) (hj : inb xs.length j = true) (h : Eval P k np L (.long (rdL xs j) :: r) H out) : Eval P k pc L (.int j :: .ref a :: r) H out := Eval.of_step hc rfl rfl (by simp only [step, ha, hj, cond_true]) h
theorem Eval.iastore {a : Nat} {j : Int32} {x : Int32} {xs : List Int32} {H1 : AHeap} (hc : P.code k pc = some (.iastore, np)) (hro : Nat.ble P.ro a = true) (ha : H[a]? = some (.inr (.inl (1, xs)))) (hj : inb xs.length j = true) (hH : H.set a (.inr (.inl (1, wr xs j x))) = H1) (h : Eval P k np L r H1 out) : Eval P k pc L (.int x :: .int j :: .ref a :: r) H out := Eval.of_step hc rfl rfl (by subst hH; simp only [step, hro, ha, hj, cond_true]; try rfl) h
theorem Eval.bastoreZ {a : Nat} {j : Int32} {x : Int32} {xs : List Int32} {H1 : AHeap} (hc : P.code k pc = some (.bastore, np)) (hro : Nat.ble P.ro a = true) (ha : H[a]? = some (.inr (.inl (2, xs)))) (hj : inb xs.length j = true) (hH : H.set a (.inr (.inl (2, wr xs j (x &&& 1)))) = H1) (h : Eval P k np L r H1 out) : Eval P k pc L (.int x :: .int j :: .ref a :: r) H out := Eval.of_step hc rfl rfl (by subst hH; simp only [step, hro, ha, hj, cond_true]; try rfl) h
theorem Eval.bastoreB {a : Nat} {j : Int32} {x : Int32} {xs : List Int32} {H1 : AHeap} (hc : P.code k pc = some (.bastore, np)) (hro : Nat.ble P.ro a = true) (ha : H[a]? = some (.inr (.inl (3, xs)))) (hj : inb xs.length j = true) (hH : H.set a (.inr (.inl (3, wr xs j (i8 x)))) = H1) (h : Eval P k np L r H1 out) : Eval P k pc L (.int x :: .int j :: .ref a :: r) H out := Eval.of_step hc rfl rfl (by subst hH; simp only [step, hro, ha, hj, cond_true]; try rfl) h
theorem Eval.lastore {a : Nat} {j : Int32} {x : Int64} {xs : List Int64} {H1 : AHeap} (hc : P.code k pc = some (.lastore, np)) (hro : Nat.ble P.ro a = true) (ha : H[a]? = some (.inr (.inr xs))) (hj : inb xs.length j = true) (hH : H.set a (.inr (.inr (wrL xs j x))) = H1) (h : Eval P k np L r H1 out) : Eval P k pc L (.long x :: .int j :: .ref a :: r) H out := Eval.of_step hc rfl rfl (by subst hH; simp only [step, hro, ha, hj, cond_true]; try rfl) h
theorem Eval.alenI {a t : Nat} {xs : List Int32} (hc : P.code k pc = some (.arraylength, np)) (ha : H[a]? = some (.inr (.inl (t, xs)))) (h : Eval P k np L (.int xs.length.toInt32 :: r) H out) : Eval P k pc L (.ref a :: r) H out := Eval.of_step hc rfl rfl (by simp only [step, ha]) h
theorem Eval.newarray {t : ArrayType} {n : Int32} {q a z N : Nat} {H1 : AHeap} (hc : P.code k pc = some (.newarray t, np)) (hla : H.length = a) (ht : atyOf t = some q) (hn : decide (n < 0) = false) (hN : n.toNatClampNeg = N) (hb : N ≤ 60000) (hC : a + 1 ≤ P.capC) (hz : hsz P H = z) (hS : z + N ≤ P.capS) (hH : H ++ [newC q N] = H1) (h : Eval P k np L (.ref a :: r) H1 out) : Eval P k pc L (.int n :: r) H out := by
  subst hla hN hz
  have hq : (!(decide (n < 0)) && Nat.ble n.toNatClampNeg 60000 && Nat.ble (H.length + 1) P.capC && Nat.ble (hsz P H + n.toNatClampNeg) P.capS) = true := by
    simp only [hn, Bool.not_false, Bool.true_and, Bool.and_eq_true]
    exact ⟨⟨Nat.ble_eq_true_of_le hb, Nat.ble_eq_true_of_le hC⟩, Nat.ble_eq_true_of_le hS⟩
  exact Eval.of_step hc rfl rfl (by simp only [step, ht, hq, cond_true, hH]) h
theorem Eval.new {j q a z : Nat} {H1 : AHeap} (hc : P.code k pc = some (.new j, np)) (hla : H.length = a) (ht : P.link (P.cls k) j = some (5, q)) (hC : a + 1 ≤ P.capC) (hz : hsz P H = z) (hS : z + P.objN ≤ P.capS) (hH : H ++ [.inl P.fresh] = H1) (h : Eval P k np L (.ref a :: S) H1 out) : Eval P k pc L S H out := by
  subst hla hz
  have hq : (Nat.ble (H.length + 1) P.capC && Nat.ble (hsz P H + P.objN) P.capS) = true := by
    simp only [Bool.and_eq_true]
    exact ⟨Nat.ble_eq_true_of_le hC, Nat.ble_eq_true_of_le hS⟩
  exact Eval.of_step hc rfl rfl (by simp only [step, ht, hq, cond_true, hH]) h
theorem Eval.objInit {j a : Nat} (hc : P.code k pc = some (.invokespecial j, np)) (hq : (isObjInit P k j && Nat.ble 1 (P.rf k) && Nat.ble (cats r + 12) (P.rl k)) = true) (h : Eval P k np L r H out) : Eval P k pc L (.ref a :: r) H out := by
  refine Eval.of_step hc rfl ?_ (by simp only [step, hq, cond_true]) h
  simp only [Bool.and_eq_true] at hq
  have h3 := hq.1.1
  unfold isObjInit at h3
  split at h3
  · rename_i kk hk
    simp [callV, poolOf, hk, kindOk]
  · cases h3
/-- the left knows at least what the right knows -/
def lw : ALoc → ALoc → Prop
  | [], b => b = []
  | a :: r, b => ∃ x r', b = x :: r' ∧ (x = none ∨ x = a) ∧ lw r r'
theorem lw.refl : ∀ L : ALoc, lw L L
  | [] => rfl
  | a :: r => ⟨a, r, rfl, Or.inr rfl, lw.refl r⟩
theorem lw.spec : ∀ {L L' : ALoc}, lw L L' → L.length = L'.length ∧ ∀ (i : Nat) v, L'[i]? = some (some v) → L[i]? = some (some v)
  | [], _, h => by cases h; exact ⟨rfl, fun i v q => by simp at q⟩
  | a :: r, _, ⟨x, r', e, h1, h2⟩ => by
    subst e
    obtain ⟨i1, i2⟩ := lw.spec h2
    refine ⟨by simp [i1], fun i v q => ?_⟩
    cases i with
    | zero =>
      simp only [List.getElem?_cons_zero, Option.some.injEq] at q ⊢
      rcases h1 with rfl | rfl
      · cases q
      · exact q
    | succ i => rw [List.getElem?_cons_succ] at q ⊢; exact i2 i v q
theorem lw.of : ∀ {L L' : ALoc}, L.length = L'.length → (∀ (i : Nat) v, L'[i]? = some (some v) → L[i]? = some (some v)) → lw L L'
  | [], L', h, _ => by cases L' with
    | nil => rfl
    | cons _ _ => simp at h
  | a :: r, L', h, q => by
    cases L' with
    | nil => simp at h
    | cons x r' =>
      refine ⟨x, r', rfl, ?_, lw.of (by simpa using h) fun i v e => ?_⟩
      · cases x with
        | none => exact Or.inl rfl
        | some v => have := q 0 v rfl; simp at this; exact Or.inr this.symm
      · have := q (i + 1) v (by rw [List.getElem?_cons_succ]; exact e); rwa [List.getElem?_cons_succ] at this
theorem lw.kill {L L' : ALoc} (h : lw L L') (i : Nat) : lw (kill1 L i) (kill1 L' i) := by
  obtain ⟨h1, h2⟩ := h.spec
  refine lw.of (by rw [kill1_len, kill1_len, h1]) fun j v q => ?_
  obtain ⟨q1, q2⟩ := kill1_get q
  have q3 := h2 _ _ q1
  unfold kill1
  split
  · exact q3
  · rename_i i
    split
    · rename_i x hx
      by_cases e : i = j
      · subst e; rw [hx] at q3; cases q3; exact absurd rfl (q2 rfl x)
      · rw [List.getElem?_set_ne e]; exact q3
    · exact q3
theorem lw.set {L L' : ALoc} (h : lw L L') (i : Nat) (x : Option Value) : lw (L.set i x) (L'.set i x) := by
  obtain ⟨h1, h2⟩ := h.spec
  refine lw.of (by simp [h1]) fun j v q => ?_
  rw [List.getElem?_set] at q ⊢
  split at q
  · rename_i e
    rw [if_pos e, h1]; exact q
  · rename_i e
    rw [if_neg e]; exact h2 _ _ q
theorem lw.put {L L' L1 : ALoc} (h : lw L L') {i : Nat} {v : Value} (hp : lput L' i v = some L1) : ∃ L2, lput L i v = some L2 ∧ lw L2 L1 := by
  unfold lput at hp ⊢
  rw [h.spec.1]
  rw [Bool.cond_eq_ite] at hp ⊢
  split at hp
  · rename_i hc
    cases hp; exact ⟨_, if_pos hc, (h.kill i).set i _⟩
  · cases hp
theorem lw.putL {L L' L1 : ALoc} (h : lw L L') {i : Nat} {v : Int64} (hp : lputL L' i v = some L1) : ∃ L2, lputL L i v = some L2 ∧ lw L2 L1 := by
  unfold lputL at hp ⊢
  rw [h.spec.1]
  rw [Bool.cond_eq_ite] at hp ⊢
  split at hp
  · rename_i hc
    cases hp; exact ⟨_, if_pos hc, ((h.kill i).set i _).set (i + 1) _⟩
  · cases hp
theorem lw.loadI {L L' : ALoc} (h : lw L L') {i : Nat} {x : Int32} (q : OwnX.loadI L' i = some x) : OwnX.loadI L i = some x := by
  unfold OwnX.loadI at q ⊢
  split at q
  · rename_i y hy
    rw [h.spec.2 _ _ hy]; exact q
  · cases q
theorem lw.loadJ {L L' : ALoc} (h : lw L L') {i : Nat} {x : Int64} (q : OwnX.loadJ L' i = some x) : OwnX.loadJ L i = some x := by
  unfold OwnX.loadJ at q ⊢
  split at q
  · rename_i y hy
    rw [h.spec.2 _ _ hy]; exact q
  · cases q
theorem lw.loadA {L L' : ALoc} (h : lw L L') {i x : Nat} (q : OwnX.loadA L' i = some x) : OwnX.loadA L i = some x := by
  unfold OwnX.loadA at q ⊢
  split at q
  · rename_i y hy
    rw [h.spec.2 _ _ hy]; exact q
  · cases q
set_option maxHeartbeats 4000000 in
theorem step_weak {i : Instr} {pc' : Nat} {S' : List Value} {H' : AHeap} {L1 : ALoc} (hw : lw L L') (h : step P k i np pc L' S H = some (pc', L1, S', H')) : ∃ L2, step P k i np pc L S H = some (pc', L2, S', H') ∧ lw L2 L1 := by
  cases i
  case iload_n n =>
    simp only [step] at h ⊢
    split at h
    · rename_i x hx
      rw [hw.loadI hx]; cases h; exact ⟨L, rfl, hw⟩
    · cases h
  case iload n =>
    simp only [step] at h ⊢
    split at h
    · rename_i x hx
      rw [hw.loadI hx]; cases h; exact ⟨L, rfl, hw⟩
    · cases h
  case lload_n n =>
    simp only [step] at h ⊢
    split at h
    · rename_i x hx
      rw [hw.loadJ hx]; cases h; exact ⟨L, rfl, hw⟩
    · cases h
  case lload n =>
    simp only [step] at h ⊢
    split at h
    · rename_i x hx
      rw [hw.loadJ hx]; cases h; exact ⟨L, rfl, hw⟩
    · cases h
  case aload_n n =>
    simp only [step] at h ⊢
    split at h
    · rename_i x hx
      rw [hw.loadA hx]; cases h; exact ⟨L, rfl, hw⟩
    · cases h
  case aload n =>
    simp only [step] at h ⊢
    split at h
    · rename_i x hx
      rw [hw.loadA hx]; cases h; exact ⟨L, rfl, hw⟩
    · cases h
  case istore_n n =>
    simp only [step] at h ⊢
    split at h
    · split at h
      · rename_i L3 hx
        obtain ⟨L2, e1, e2⟩ := hw.put hx
        cases h; exact ⟨L2, by simp only [e1], e2⟩
      · cases h
    · cases h
  case istore n =>
    simp only [step] at h ⊢
    split at h
    · split at h
      · rename_i L3 hx
        obtain ⟨L2, e1, e2⟩ := hw.put hx
        cases h; exact ⟨L2, by simp only [e1], e2⟩
      · cases h
    · cases h
  case astore_n n =>
    simp only [step] at h ⊢
    split at h
    · split at h
      · rename_i L3 hx
        obtain ⟨L2, e1, e2⟩ := hw.put hx
        cases h; exact ⟨L2, by simp only [e1], e2⟩
      · cases h
    · cases h
  case astore n =>
    simp only [step] at h ⊢
    split at h
    · split at h
      · rename_i L3 hx
        obtain ⟨L2, e1, e2⟩ := hw.put hx
        cases h; exact ⟨L2, by simp only [e1], e2⟩
      · cases h
    · cases h
  case lstore_n n =>
    simp only [step] at h ⊢
    split at h
    · split at h
      · rename_i L3 hx
        obtain ⟨L2, e1, e2⟩ := hw.putL hx
        cases h; exact ⟨L2, by simp only [e1], e2⟩
      · cases h
    · cases h
  case lstore n =>
    simp only [step] at h ⊢
    split at h
    · split at h
      · rename_i L3 hx
        obtain ⟨L2, e1, e2⟩ := hw.putL hx
        cases h; exact ⟨L2, by simp only [e1], e2⟩
      · cases h
    · cases h
  case iinc n c =>
    simp only [step] at h ⊢
    split at h
    · rename_i x hx
      rw [hw.loadI hx]
      split at h
      · rename_i L3 hp
        obtain ⟨L2, e1, e2⟩ := hw.put hp
        cases h; exact ⟨L2, by simp only [e1], e2⟩
      · cases h
    · cases h
  all_goals
    simp only [step, Bool.cond_eq_ite] at h ⊢
    repeat' (split at h)
  all_goals first
    | (cases h; done)
    | (simp only [Option.some.injEq, Prod.mk.injEq] at h; obtain ⟨rfl, rfl, rfl, rfl⟩ := h; refine ⟨L, ?_, hw⟩; first | rfl | (simp only [*, if_true, if_false]; done) | (simp [*]; done))
theorem run_weak : ∀ (n : Nat) {pc : Nat} {L L' : ALoc} {S : List Value} {H : AHeap} {out : Option Value × AHeap}, lw L L' → run P n k pc L' S H = some out → run P n k pc L S H = some out
  | 0, _, _, _, _, _, _, _, h => by simp [run] at h
  | n + 1, pc, L, L', S, H, out, hw, h => by
    rw [run] at h
    rw [run]
    split at h
    · cases h
    · rename_i i np hc
      try simp only [hc]
      split at h
      · rename_i v hv
        try simp only [hv]
        exact h
      · rename_i hv
        try simp only [hv]
        split at h
        · rename_i k' as rest hcall
          try simp only [hcall]
          split at h
          · rename_i v1 H1 h1
            try simp only [h1]
            exact run_weak n hw h
          · cases h
        · rename_i hcall
          try simp only [hcall]
          split at h
          · rename_i pc1 L1 S1 H1 h1
            obtain ⟨L2, e1, e2⟩ := step_weak hw h1
            simp only [e1]; exact run_weak n e2 h
          · cases h
theorem Eval.weak (hw : lw L L') (h : Eval P k pc L' S H out) : Eval P k pc L S H out := by
  obtain ⟨n, h⟩ := h
  exact ⟨n, run_weak n hw h⟩
end Rules
end Jvm.OwnX
namespace Jvm.OwnX
open Sem ClassFile Op Lib Jvm.Stand Jvm.Free Jvm.LawKit Jvm.RoadKit
/-! ## tables as lists -/
def findC : List (Nat × Instr × Nat) → Nat → Option (Instr × Nat)
  | [], _ => none
  | (q, x) :: r, pc => bif Nat.beq q pc then some x else findC r pc
abbrev CodeL := List (ByteArray × List (List (Nat × Instr × Nat)))
def codeAt (cs : CodeL) (k pc : Nat) : Option (Instr × Nat) := match cs[k]? with
  | some (_, ch) => (match ch[pc / 32]? with | some c => findC c pc | none => none)
  | none => none
def bcOf (cs : CodeL) (k : Nat) : ByteArray := match cs[k]? with | some (b, _) => b | none => ⟨#[]⟩
def okI (b : ByteArray) (e : Nat × Instr × Nat) : Bool := match decode b e.1 with
  | .ok (i, len) => decide (i = e.2.1) && Nat.beq (e.1 + len) e.2.2 && (Nat.beq (ilen i) 0 || Nat.beq len (ilen i))
  | _ => false
def okCs (cs : CodeL) : Bool := cs.all fun m => m.2.all fun c => c.all (okI m.1)
def tyCs (ty : ArrayType → Bool) (cs : CodeL) : Bool := cs.all fun m => m.2.all fun c => c.all fun e => match e.2.1 with | .newarray t => ty t | _ => true
theorem findC_mem : ∀ {l : List (Nat × Instr × Nat)} {pc : Nat} {x : Instr × Nat}, findC l pc = some x → (pc, x) ∈ l
  | [], pc, x, h => by cases h
  | (q, y) :: r, pc, x, h => by
    unfold findC at h
    cases hb : Nat.beq q pc
    · rw [hb] at h; exact List.mem_cons_of_mem _ (findC_mem h)
    · rw [hb] at h; cases h
      have : q = pc := Nat.eq_of_beq_eq_true hb
      subst this; exact List.mem_cons_self ..
theorem codeAt_mem {cs : CodeL} {k pc : Nat} {x : Instr × Nat} (h : codeAt cs k pc = some x) : ∃ m ∈ cs, bcOf cs k = m.1 ∧ ∃ c ∈ m.2, (pc, x) ∈ c := by
  unfold codeAt at h
  split at h
  · rename_i b ch hk
    split at h
    · rename_i c hc
      exact ⟨(b, ch), List.mem_of_getElem? hk, by simp [bcOf, hk], c, List.mem_of_getElem? hc, findC_mem h⟩
    · cases h
  · cases h
theorem code_ok {cs : CodeL} (h : okCs cs = true) {k pc : Nat} {i : Instr} {np : Nat} (hc : codeAt cs k pc = some (i, np)) : ∃ len, decode (bcOf cs k) pc = .ok (i, len) ∧ np = pc + len ∧ (ilen i = 0 ∨ len = ilen i) := by
  obtain ⟨m, h1, h2, c, h3, h4⟩ := codeAt_mem hc
  have q := List.all_eq_true.mp (List.all_eq_true.mp (List.all_eq_true.mp h m h1) c h3) _ h4
  unfold okI at q
  rw [h2]
  split at q
  · rename_i i' len hd
    simp only [Bool.and_eq_true, Bool.or_eq_true, decide_eq_true_eq] at q
    obtain ⟨⟨rfl, q2⟩, q3⟩ := q
    refine ⟨len, hd, (Nat.eq_of_beq_eq_true q2).symm, q3.elim (fun z => Or.inl (Nat.eq_of_beq_eq_true z)) fun z => Or.inr (Nat.eq_of_beq_eq_true z)⟩
  · cases q
theorem code_ty {ty : ArrayType → Bool} {cs : CodeL} (h : tyCs ty cs = true) {k pc : Nat} {t : ArrayType} {np : Nat} (hc : codeAt cs k pc = some (.newarray t, np)) : ty t = true := by
  obtain ⟨m, h1, h2, c, h3, h4⟩ := codeAt_mem hc
  exact List.all_eq_true.mp (List.all_eq_true.mp (List.all_eq_true.mp h m h1) c h3) _ h4
def lookT {α : Type} : List (Nat × Nat × α) → Nat → Nat → Option α
  | [], _, _ => none
  | (c', j', x) :: r, c, j => bif Nat.beq j' j && Nat.beq c' c then some x else lookT r c j
theorem lookT_mem {α : Type} : ∀ {l : List (Nat × Nat × α)} {c j : Nat} {x : α}, lookT l c j = some x → (c, j, x) ∈ l
  | [], c, j, x, h => by cases h
  | (c', j', y) :: r, c, j, x, h => by
    unfold lookT at h
    cases hb : (Nat.beq j' j && Nat.beq c' c)
    · rw [hb] at h; exact List.mem_cons_of_mem _ (lookT_mem h)
    · rw [hb] at h; cases h
      simp only [Bool.and_eq_true] at hb
      have h1 : j' = j := Nat.eq_of_beq_eq_true hb.1
      have h2 : c' = c := Nat.eq_of_beq_eq_true hb.2
      subst h1 h2; exact List.mem_cons_self ..
def AllP {α : Type} (p : α → Prop) : List α → Prop
  | [] => True
  | a :: r => p a ∧ AllP p r
theorem AllP.mem {α : Type} {p : α → Prop} : ∀ {l : List α}, AllP p l → ∀ a ∈ l, p a
  | [], _, a, h => nomatch h
  | _ :: _, ⟨h1, h2⟩, a, h => (List.mem_cons.mp h).elim (fun e => e ▸ h1) (AllP.mem h2 a)
def FldOk (P : Prog) (cn : Nat → String) (C : String) (Z : State) (a0 : Array Value) (e : Nat × Nat × Nat) : Prop := ∃ n d t fin, P.fields[e.2.2]? = some (n, d, t, fin) ∧ (Cond.fieldLink (cn e.1) e.2.1 C n d).before a0 Z = true
def FieldOk (C : String) (Z : State) (a0 : Array Value) (e : String × String × Nat × Bool) : Prop := (bif e.2.2.2 then (Cond.laysFinal C C e.1 e.2.1).before a0 Z else (Cond.lays C C e.1 e.2.1).before a0 Z) = true ∧ ∃ ty, parseFieldDescriptor e.2.1 = some ty ∧ tyOk e.2.2.1 ty = true ∧ defaultValue ty = dflt e.2.2.1
theorem good_of {cs : CodeL} {mi : Nat → MI} {links : List (Nat × Nat × Nat × Nat)} {flds : List (Nat × Nat × Nat)} {kons : List (Nat × Nat × Value)} {fields : List (String × String × Nat × Bool)} {objN ro cc cS : Nat} {nm : Nat → MethodName} {cn : Nat → String} {C : String} {Z : State} {a0 : Array Value} {ty : ArrayType → Bool} {P : Prog}
    (hP : P = (codeAt cs, mi, lookT links, lookT flds, lookT kons, fields, objN, ro, cc, cS)) (h1 : okCs cs = true) (h2 : AllP (FldOk P cn C Z a0) flds) (h3 : AllP (FieldOk C Z a0) fields) (h4 : (fields.map (·.1)).Nodup) (h5 : AllP (fun e => KonOk cn Z a0 e.1 e.2.1 e.2.2) kons)
    (h6 : (Cond.instantiable C objN).before a0 Z = true) (h7 : (Cond.initialized C).before a0 Z = true) (h8 : tyCs ty cs = true) (h8' : ∀ t, ty t = true → (Cond.arrayClass (newarray.typeOf t)).before a0 Z = true) (h9 : AllP (fun e => LinkOk P nm (bcOf cs) cn C Z a0 e.1 e.2.1 e.2.2.1 e.2.2.2) links) : Good P nm (bcOf cs) cn C Z a0 := by
  subst hP
  refine ⟨fun k pc i np h => code_ok h1 h, fun c j f h => h2.mem _ (lookT_mem h), fun f n d t fin h => h3.mem _ (List.mem_of_getElem? h), fun f g n d t fin n' d' t' fin' q1 q2 ne e => ?_, fun c j v h => h5.mem _ (lookT_mem h), h6, h7, fun k pc t np h => h8' _ (code_ty h8 h), fun c j q k h => h9.mem _ (lookT_mem h)⟩
  subst e
  have e1 : (fields.map (·.1))[f]? = some n := by rw [List.getElem?_map]; exact congrArg (Option.map (·.1)) q1
  have e2 : (fields.map (·.1))[g]? = some n := by rw [List.getElem?_map]; exact congrArg (Option.map (·.1)) q2
  exact ne ((List.getElem?_inj (List.getElem?_eq_some_iff.mp e1).1 h4).mp (e1.trans e2.symm))
/-! ## what the walks of functions use -/
theorem ite_some {α : Type} {c : Prop} [Decidable c] {a : Option α} {r : α} (h : (if c then a else none) = some r) : c ∧ a = some r := by
  by_cases hc : c
  · rw [if_pos hc] at h; exact ⟨hc, h⟩
  · rw [if_neg hc] at h; cases h
theorem ite_none {α : Type} {c : Prop} [Decidable c] {a : Option α} {r : α} (h : (if c then none else a) = some r) : ¬ c ∧ a = some r := by
  by_cases hc : c
  · rw [if_pos hc] at h; cases h
  · rw [if_neg hc] at h; exact ⟨hc, h⟩
theorem bind_some {α β : Type} {o : Option α} {f : α → Option β} {r : β} (h : o.bind f = some r) : ∃ a, o = some a ∧ f a = some r := Option.bind_eq_some_iff.mp h
section Calls
variable {P : Prog} {k pc np : Nat} {L L' : ALoc} {S S' : List Value} {H H1 : AHeap} {out : Option Value × AHeap} {i : Instr} {k' : Nat} {as rest : List Value}
theorem Eval.callI {x : Int32} (hc : P.code k pc = some (i, np)) (h2 : callV P k i S H = some (k', as, rest)) (he : Eval P k' 0 (entry P k' as) [] H (some (.int x), H1)) (h : Eval P k np L (.int x :: rest) H1 out) : Eval P k pc L S H out := Eval.call hc h2 he h
theorem Eval.callJ {x : Int64} (hc : P.code k pc = some (i, np)) (h2 : callV P k i S H = some (k', as, rest)) (he : Eval P k' 0 (entry P k' as) [] H (some (.long x), H1)) (h : Eval P k np L (.long x :: rest) H1 out) : Eval P k pc L S H out := Eval.call hc h2 he h
theorem Eval.callN (hc : P.code k pc = some (i, np)) (h2 : callV P k i S H = some (k', as, rest)) (he : Eval P k' 0 (entry P k' as) [] H (none, H1)) (h : Eval P k np L rest H1 out) : Eval P k pc L S H out := Eval.call hc h2 he h
theorem Eval.conv (h : Eval P k pc L S H out) (e1 : L = L') (e2 : S = S') : Eval P k pc L' S' H out := e1 ▸ e2 ▸ h
theorem Eval.heap {H' : AHeap} (e : H' = H) (h : Eval P k pc L S H' out) : Eval P k pc L S H out := e ▸ h
theorem Eval.retH {H' : AHeap} {v : Option Value} (e : H' = H) (hc : P.code k pc = some (i, np)) (h1 : retV P k i S = some v) : Eval P k pc L S H (v, H') := e ▸ Eval.ret hc h1
end Calls
end Jvm.OwnX
namespace Jvm.OwnX
open Sem ClassFile Op Lib Jvm.Stand Jvm.Free Jvm.LawKit Jvm.RoadKit
theorem HR.none (P : Prog) (C : String) (Z : State) (n0 : Nat) (h : Heap) : HR P C Z n0 [] [] h := ⟨rfl, fun i j a q => by simp at q, fun i a q => by simp at q, fun i c q => by simp at q⟩
def intOf : Value → Int32
  | .int x => x
  | _ => 0
theorem script_start {P : Prog} {C : String} {s : State} {a : Addr} {c : Cell} (hro : P.ro = 1) (hf : Fit s) (A : Arr s s.heap a c .int) : HR P C s s.heap.size [a] [.inr (.inl (0, c.slots.toList.map intOf))] s.heap := by
  have hlt := (Array.getElem?_eq_some_iff.mp A.1).1
  have hint : ∀ i (hi : i < c.slots.size), ∃ x, c.slots[i] = .int x := fun i hi => by
    have q := hf A.1 hi
    obtain ⟨hs, k, hk, comp, hkind⟩ := A.2.1
    have e : s.slotType? c.cls c.vm i = some .int := by
      cases hq : c.vm <;> first | exact absurd hq (hs _) | simp [State.slotType?, hk, hkind]
    have q2 : fits .int c.slots[i] = true := by simpa [State.fitsSlot, e] using q
    exact fit_I q2 (Or.inl rfl)
  refine ⟨rfl, fun i j x q1 q2 => ?_, fun i x q => ?_, fun i d q => ?_⟩
  · cases i with
    | zero => cases j with
      | zero => rfl
      | succ j => simp at q2
    | succ i => simp at q1
  · cases i with
    | zero => simp at q; subst q; exact ⟨hlt, fun h => by rw [hro] at h; omega⟩
    | succ i => simp at q
  · cases i with
    | zero =>
      simp at q; subst q
      refine ⟨a, rfl, c, A, by simp, fun j x hx => ?_⟩
      rw [List.getElem?_map] at hx
      obtain ⟨v, hv, rfl⟩ := Option.map_eq_some_iff.mp hx
      rw [Array.getElem?_toList] at hv
      obtain ⟨hj, rfl⟩ := Array.getElem?_eq_some_iff.mp hv
      obtain ⟨x, e⟩ := hint j hj
      rw [Array.getElem?_eq_getElem hj, e]; rfl
    | succ i => simp at q
end Jvm.OwnX
namespace Jvm.OwnX
/-! ## plain facts on the functions' words -/
theorem len_wr (xs : List Int32) (j v : Int32) : (wr xs j v).length = xs.length := by simp [wr]
theorem len_wrL (xs : List Int64) (j : Int32) (v : Int64) : (wrL xs j v).length = xs.length := by simp [wrL]
theorem rd_wr_same {xs : List Int32} {j : Int32} (h : inb xs.length j = true) (v : Int32) : rd (wr xs j v) j = v := by
  have := inb_lt h
  simp [rd, wr, List.getD_eq_getElem?_getD, this]
theorem rdL_wrL_same {xs : List Int64} {j : Int32} (h : inb xs.length j = true) (v : Int64) : rdL (wrL xs j v) j = v := by
  have := inb_lt h
  simp [rdL, wrL, List.getD_eq_getElem?_getD, this]
theorem nat_inj {i j : Int32} (hi : ¬ i < 0) (hj : ¬ j < 0) (h : i.toNatClampNeg = j.toNatClampNeg) : i = j := by
  apply Int32.toInt_inj.mp
  simp only [Int32.lt_iff_toInt_lt, Int32.toNatClampNeg, Int32.reduceToInt] at hi hj h; omega
theorem inb_nn {n : Nat} {j : Int32} (h : inb n j = true) : ¬ j < 0 := fun q => inb_spec h (Or.inl q)
theorem rd_wr_ne {xs : List Int32} {i j : Int32} (hi : ¬ i < 0) (hj : ¬ j < 0) (h : i ≠ j) (v : Int32) : rd (wr xs i v) j = rd xs j := by
  have : i.toNatClampNeg ≠ j.toNatClampNeg := fun q => h (nat_inj hi hj q)
  simp [rd, wr, List.getD_eq_getElem?_getD, List.getElem?_set_ne this]
theorem rdL_wrL_ne {xs : List Int64} {i j : Int32} (hi : ¬ i < 0) (hj : ¬ j < 0) (h : i ≠ j) (v : Int64) : rdL (wrL xs i v) j = rdL xs j := by
  have : i.toNatClampNeg ≠ j.toNatClampNeg := fun q => h (nat_inj hi hj q)
  simp [rdL, wrL, List.getD_eq_getElem?_getD, List.getElem?_set_ne this]
theorem rd_rep (n : Nat) (j : Int32) : rd (List.replicate n 0) j = 0 := by
  simp only [rd, List.getD_eq_getElem?_getD, List.getElem?_replicate]; split <;> rfl
theorem rdL_rep (n : Nat) (j : Int32) : rdL (List.replicate n 0) j = 0 := by
  simp only [rdL, List.getD_eq_getElem?_getD, List.getElem?_replicate]; split <;> rfl
theorem inb_iff {n : Nat} {j : Int32} : inb n j = true ↔ 0 ≤ j.toInt ∧ j.toInt < n := by
  simp only [inb, Bool.and_eq_true, Bool.not_eq_true', decide_eq_false_iff_not, Int32.lt_iff_toInt_lt, Int32.reduceToInt]
  constructor
  · rintro ⟨h1, h2⟩
    have h3 := Nat.le_of_ble_eq_true h2
    simp only [Int32.toNatClampNeg] at h3
    omega
  · rintro ⟨h1, h2⟩
    refine ⟨by omega, Nat.ble_eq_true_of_le ?_⟩
    simp only [Int32.toNatClampNeg]; omega
theorem lt32 {x y : Int32} : x < y ↔ x.toInt < y.toInt := Int32.lt_iff_toInt_lt
theorem eq32 {x y : Int32} : x = y ↔ x.toInt = y.toInt := Int32.toInt_inj.symm
end Jvm.OwnX
namespace Jvm.Pilot.@@N@@
open Jvm Jvm.ClassFile Sem Op Lib Jvm.Free Jvm.Stand Jvm.LawKit Jvm.RoadKit Bundle Jvm.Pilot.@@N@@.Jvm.D Jvm.OwnX
/-! # tables (printed by gen.py out of the claim's listing and sheet) -/
def own_cs : CodeL := [
  (code, [
    [(0, .new 7, 3), (3, .dup, 4), (4, .iload_n 0, 5), (5, .invokespecial 9, 8), (8, .astore 5, 10), (10, .iload_n 0, 11), (11, .iconst 2, 12), (12, .if_icmp .ge 7, 15), (15, .iconst 2, 16), (16, .goto 15, 19), (19, .iload_n 0, 20), (20, .bipush 8, 22), (22, .if_icmp .le 8, 25), (25, .bipush 8, 27), (27, .goto 4, 30), (30, .iload_n 0, 31), (31, .istore 6, 33)],
    [(33, .iload_n 3, 34), (34, .ifCond .eq 8, 37), (37, .iload_n 3, 38), (38, .iconst 1, 39), (39, .if_icmp .ne 7, 42), (42, .iconst 1, 43), (43, .goto 4, 46), (46, .iconst 0, 47), (47, .istore 7, 49), (49, .iload_n 1, 50), (50, .ifCond .lt 18, 53), (53, .iload_n 1, 54), (54, .iload 6, 56), (56, .if_icmp .ge 12, 59), (59, .iload 7, 61), (61, .ifCond .eq 7, 64)],
    [(64, .iconst 1, 65), (65, .goto 4, 68), (68, .iconst 0, 69), (69, .istore 8, 71), (71, .iload_n 2, 72), (72, .ifCond .lt 13, 75), (75, .iload_n 2, 76), (76, .iload 6, 78), (78, .if_icmp .ge 7, 81), (81, .iconst 1, 82), (82, .goto 4, 85), (85, .iconst 0, 86), (86, .istore 9, 88), (88, .iload 9, 90), (90, .ifCond .eq 22, 93), (93, .iload 7, 95), (95, .ifCond .eq 17, 98)],
    [(98, .iload_n 2, 99), (99, .iload_n 1, 100), (100, .if_icmp .ne 8, 103), (103, .iload 8, 105), (105, .ifCond .ne 7, 108), (108, .iconst 1, 109), (109, .goto 4, 112), (112, .iconst 0, 113), (113, .istore 10, 115), (115, .iload_n 2, 116), (116, .iload_n 1, 117), (117, .if_icmp .ne 12, 120), (120, .iload 8, 122), (122, .ifCond .eq 7, 125), (125, .iconst 1, 126), (126, .goto 4, 129)],
    [(129, .iconst 0, 130), (130, .istore 11, 132), (132, .aload 5, 134), (134, .iload_n 1, 135), (135, .iload_n 3, 136), (136, .iload 4, 138), (138, .invokevirtual 12, 141), (141, .istore 12, 143), (143, .aload 5, 145), (145, .iload_n 2, 146), (146, .iload_n 3, 147), (147, .iload 4, 149), (149, .invokevirtual 12, 152), (152, .istore 13, 154), (154, .aload 5, 156), (156, .invokevirtual 16, 159), (159, .istore 14, 161)],
    [(161, .aload 5, 163), (163, .iload_n 3, 164), (164, .invokevirtual 20, 167), (167, .istore 15, 169), (169, .aload 5, 171), (171, .iload_n 3, 172), (172, .invokevirtual 24, 175), (175, .istore 16, 177), (177, .aload 5, 179), (179, .iload_n 3, 180), (180, .invokevirtual 27, 183), (183, .istore 17, 185), (185, .aload 5, 187), (187, .iload_n 2, 188), (188, .invokevirtual 30, 191), (191, .istore 18, 193)],
    [(193, .aload 5, 195), (195, .iload_n 2, 196), (196, .invokevirtual 33, 199), (199, .istore 19, 201), (201, .aload 5, 203), (203, .iload_n 2, 204), (204, .invokevirtual 36, 207), (207, .istore 20, 209), (209, .aload 5, 211), (211, .iload_n 2, 212), (212, .invokevirtual 39, 215), (215, .istore 21, 217), (217, .iload 8, 219), (219, .ifCond .eq 7, 222), (222, .iconst 1, 223), (223, .goto 4, 226)],
    [(226, .iconst 0, 227), (227, .iload 10, 229), (229, .ifCond .eq 7, 232), (232, .iconst 1, 233), (233, .goto 4, 236), (236, .iconst 0, 237), (237, .iadd, 238), (238, .istore 22, 240), (240, .iload 12, 242), (242, .iload 8, 244), (244, .ifCond .eq 7, 247), (247, .iconst 3, 248), (248, .goto 5, 251), (251, .bipush (-2), 253), (253, .if_icmp .eq 5, 256)],
    [(256, .iconst 0, 257), (257, .ireturn, 258), (258, .iload 13, 260), (260, .iload 10, 262), (262, .ifCond .eq 16, 265), (265, .iload 8, 267), (267, .ifCond .eq 7, 270), (270, .iconst 1, 271), (271, .goto 9, 274), (274, .iconst 3, 275), (275, .goto 5, 278), (278, .bipush (-2), 280), (280, .if_icmp .eq 5, 283), (283, .iconst 0, 284), (284, .ireturn, 285), (285, .iload 14, 287), (287, .iload 22, 289)],
    [(289, .if_icmp .eq 5, 292), (292, .iconst 0, 293), (293, .ireturn, 294), (294, .iload 15, 296), (296, .iload 7, 298), (298, .ifCond .eq 8, 301), (301, .iload 22, 303), (303, .goto 5, 306), (306, .bipush (-2), 308), (308, .if_icmp .eq 5, 311), (311, .iconst 0, 312), (312, .ireturn, 313), (313, .iload 16, 315), (315, .iload 7, 317), (317, .ifCond .eq 25, 320)],
    [(320, .iload 8, 322), (322, .ifCond .eq 7, 325), (325, .iload_n 1, 326), (326, .goto 18, 329), (329, .iload 10, 331), (331, .ifCond .eq 7, 334), (334, .iload_n 2, 335), (335, .goto 9, 338), (338, .iconst (-1), 339), (339, .goto 5, 342), (342, .bipush (-2), 344), (344, .if_icmp .eq 5, 347), (347, .iconst 0, 348), (348, .ireturn, 349), (349, .iload 17, 351), (351, .iload 7, 353)],
    [(353, .ifCond .eq 16, 356), (356, .iload 22, 358), (358, .ifCond .le 7, 361), (361, .iconst 1, 362), (362, .goto 9, 365), (365, .iconst 0, 366), (366, .goto 5, 369), (369, .bipush (-2), 371), (371, .if_icmp .eq 5, 374), (374, .iconst 0, 375), (375, .ireturn, 376), (376, .iload 9, 378), (378, .ifCond .ne 8, 381), (381, .bipush (-2), 383), (383, .goto 31, 386)],
    [(386, .iload 10, 388), (388, .ifCond .eq 16, 391), (391, .iload 8, 393), (393, .ifCond .eq 7, 396), (396, .iconst 1, 397), (397, .goto 17, 400), (400, .iconst 3, 401), (401, .goto 13, 404), (404, .iload 11, 406), (406, .ifCond .eq 7, 409), (409, .iconst 3, 410), (410, .goto 4, 413), (413, .iconst 0, 414), (414, .istore 23, 416)],
    [(416, .iload 9, 418), (418, .ifCond .ne 8, 421), (421, .bipush (-2), 423), (423, .goto 31, 426), (426, .iload 10, 428), (428, .ifCond .eq 16, 431), (431, .iload 8, 433), (433, .ifCond .eq 7, 436), (436, .iconst 1, 437), (437, .goto 17, 440), (440, .iconst 0, 441), (441, .goto 13, 444), (444, .iload 11, 446), (446, .ifCond .eq 7, 449)],
    [(449, .iconst 0, 450), (450, .goto 4, 453), (453, .iconst (-1), 454), (454, .istore 24, 456), (456, .iload 9, 458), (458, .ifCond .ne 8, 461), (461, .bipush (-2), 463), (463, .goto 18, 466), (466, .iload 10, 468), (468, .ifCond .ne 8, 471), (471, .iload 11, 473), (473, .ifCond .eq 7, 476), (476, .iload_n 3, 477), (477, .goto 4, 480)],
    [(480, .iconst (-1), 481), (481, .istore 25, 483), (483, .iload 10, 485), (485, .ifCond .eq 8, 488), (488, .iload 8, 490), (490, .ifCond .eq 8, 493), (493, .iload 11, 495), (495, .ifCond .eq 7, 498), (498, .iconst 1, 499), (499, .goto 4, 502), (502, .iconst 0, 503), (503, .istore 26, 505), (505, .iload 18, 507), (507, .iload 23, 509), (509, .if_icmp .ne 17, 512)],
    [(512, .iload 19, 514), (514, .iload 24, 516), (516, .if_icmp .ne 10, 519), (519, .iload 20, 521), (521, .iload 25, 523), (523, .if_icmp .eq 5, 526), (526, .iconst 0, 527), (527, .ireturn, 528), (528, .iload 21, 530), (530, .iload 26, 532), (532, .ifCond .eq 7, 535), (535, .iconst (-1), 536), (536, .goto 5, 539), (539, .bipush (-2), 541), (541, .if_icmp .ne 7, 544)],
    [(544, .iconst 1, 545), (545, .goto 4, 548), (548, .iconst 0, 549), (549, .ireturn, 550)]]),
  (prog_1_method_1_code, [
    [(0, .aload_n 0, 1), (1, .invokespecial 1, 4), (4, .aload_n 0, 5), (5, .bipush 8, 7), (7, .newarray .int, 9), (9, .putfield 7, 12), (12, .aload_n 0, 13), (13, .bipush 8, 15), (15, .newarray .int, 17), (17, .putfield 13, 20), (20, .aload_n 0, 21), (21, .bipush 8, 23), (23, .newarray .int, 25), (25, .putfield 16, 28), (28, .aload_n 0, 29), (29, .bipush 8, 31), (31, .newarray .int, 33)],
    [(33, .putfield 19, 36), (36, .aload_n 0, 37), (37, .bipush 8, 39), (39, .newarray .int, 41), (41, .putfield 22, 44), (44, .aload_n 0, 45), (45, .bipush 8, 47), (47, .newarray .int, 49), (49, .putfield 25, 52), (52, .aload_n 0, 53), (53, .iconst 2, 54), (54, .newarray .int, 56), (56, .putfield 28, 59), (59, .aload_n 0, 60), (60, .iconst 2, 61), (61, .newarray .int, 63), (63, .putfield 31, 66)],
    [(66, .aload_n 0, 67), (67, .iconst 2, 68), (68, .newarray .int, 70), (70, .putfield 34, 73), (73, .aload_n 0, 74), (74, .iconst 2, 75), (75, .newarray .int, 77), (77, .putfield 37, 80), (80, .aload_n 0, 81), (81, .iconst 2, 82), (82, .newarray .int, 84), (84, .putfield 40, 87), (87, .aload_n 0, 88), (88, .sipush 128, 91), (91, .newarray .int, 93), (93, .putfield 43, 96)],
    [(96, .aload_n 0, 97), (97, .sipush 512, 100), (100, .newarray .int, 102), (102, .putfield 46, 105), (105, .iload_n 1, 106), (106, .istore_n 2, 107), (107, .iload_n 2, 108), (108, .iconst 2, 109), (109, .if_icmp .ge 5, 112), (112, .iconst 2, 113), (113, .istore_n 2, 114), (114, .iload_n 2, 115), (115, .bipush 8, 117), (117, .if_icmp .le 6, 120), (120, .bipush 8, 122), (122, .istore_n 2, 123), (123, .aload_n 0, 124), (124, .iload_n 2, 125), (125, .putfield 49, 128)],
    [(128, .aload_n 0, 129), (129, .iconst 0, 130), (130, .putfield 53, 133), (133, .iconst 0, 134), (134, .istore_n 3, 135), (135, .iload_n 3, 136), (136, .bipush 8, 138), (138, .if_icmp .ge 37, 141), (141, .aload_n 0, 142), (142, .getfield 7, 145), (145, .iload_n 3, 146), (146, .iconst 0, 147), (147, .iastore, 148), (148, .aload_n 0, 149), (149, .getfield 13, 152), (152, .iload_n 3, 153), (153, .iconst (-1), 154), (154, .iastore, 155), (155, .aload_n 0, 156), (156, .getfield 22, 159), (159, .iload_n 3, 160)],
    [(160, .iconst (-1), 161), (161, .iastore, 162), (162, .aload_n 0, 163), (163, .getfield 25, 166), (166, .iload_n 3, 167), (167, .iconst (-1), 168), (168, .iastore, 169), (169, .iinc 3 1, 172), (172, .goto (-37), 175), (175, .iconst 0, 176), (176, .istore_n 3, 177), (177, .iload_n 3, 178), (178, .iconst 2, 179), (179, .if_icmp .ge 23, 182), (182, .aload_n 0, 183), (183, .getfield 28, 186), (186, .iload_n 3, 187), (187, .iconst (-1), 188), (188, .iastore, 189), (189, .aload_n 0, 190), (190, .getfield 31, 193)],
    [(193, .iload_n 3, 194), (194, .iconst (-1), 195), (195, .iastore, 196), (196, .iinc 3 1, 199), (199, .goto (-22), 202), (202, .iconst 0, 203), (203, .istore_n 3, 204), (204, .iload_n 3, 205), (205, .sipush 512, 208), (208, .if_icmp .ge 16, 211), (211, .aload_n 0, 212), (212, .getfield 46, 215), (215, .iload_n 3, 216), (216, .iconst (-1), 217), (217, .iastore, 218), (218, .iinc 3 1, 221), (221, .goto (-17), 224)],
    [(224, .return_, 225)]]),
  (prog_1_method_13_code, [
    [(0, .aload_n 0, 1), (1, .iload_n 1, 2), (2, .invokevirtual 70, 5), (5, .ifCond .ne 6, 8), (8, .bipush (-2), 10), (10, .ireturn, 11), (11, .aload_n 0, 12), (12, .iload_n 2, 13), (13, .invokevirtual 73, 16), (16, .ifCond .ne 6, 19), (19, .bipush (-2), 21), (21, .ireturn, 22), (22, .aload_n 0, 23), (23, .getfield 7, 26), (26, .iload_n 1, 27), (27, .iaload, 28), (28, .ifCond .eq 6, 31), (31, .bipush (-2), 33)],
    [(33, .ireturn, 34), (34, .aload_n 0, 35), (35, .aload_n 0, 36), (36, .getfield 53, 39), (39, .iconst 1, 40), (40, .iadd, 41), (41, .putfield 53, 44), (44, .aload_n 0, 45), (45, .getfield 16, 48), (48, .iload_n 1, 49), (49, .aload_n 0, 50), (50, .iload_n 3, 51), (51, .invokevirtual 76, 54), (54, .iastore, 55), (55, .aload_n 0, 56), (56, .getfield 19, 59), (59, .iload_n 1, 60), (60, .iconst 0, 61), (61, .iastore, 62), (62, .aload_n 0, 63), (63, .getfield 13, 66)],
    [(66, .iload_n 1, 67), (67, .iload_n 2, 68), (68, .iastore, 69), (69, .aload_n 0, 70), (70, .getfield 34, 73), (73, .iload_n 2, 74), (74, .iaload, 75), (75, .ifCond .ne 28, 78), (78, .aload_n 0, 79), (79, .iload_n 1, 80), (80, .iload_n 2, 81), (81, .invokevirtual 79, 84), (84, .aload_n 0, 85), (85, .getfield 7, 88), (88, .iload_n 1, 89), (89, .iconst 3, 90), (90, .iastore, 91), (91, .aload_n 0, 92), (92, .iload_n 1, 93), (93, .iload_n 2, 94), (94, .invokevirtual 83, 97)],
    [(97, .iconst 3, 98), (98, .istore 4, 100), (100, .goto 19, 103), (103, .aload_n 0, 104), (104, .iload_n 1, 105), (105, .iload_n 2, 106), (106, .invokevirtual 79, 109), (109, .aload_n 0, 110), (110, .getfield 7, 113), (113, .iload_n 1, 114), (114, .iconst 1, 115), (115, .iastore, 116), (116, .iconst 1, 117), (117, .istore 4, 119), (119, .aload_n 0, 120), (120, .invokevirtual 86, 123), (123, .iload 4, 125), (125, .ireturn, 126)]]),
  (prog_1_method_2_code, [
    [(0, .iload_n 1, 1), (1, .ifCond .lt 15, 4), (4, .iload_n 1, 5), (5, .aload_n 0, 6), (6, .getfield 49, 9), (9, .if_icmp .ge 7, 12), (12, .iconst 1, 13), (13, .goto 4, 16), (16, .iconst 0, 17), (17, .ireturn, 18)]]),
  (prog_1_method_29_code, [
    [(0, .aload_n 0, 1), (1, .getfield 53, 4), (4, .ireturn, 5)]]),
  (prog_1_method_24_code, [
    [(0, .aload_n 0, 1), (1, .iload_n 1, 2), (2, .invokevirtual 73, 5), (5, .ifCond .ne 6, 8), (8, .bipush (-2), 10), (10, .ireturn, 11), (11, .aload_n 0, 12), (12, .getfield 34, 15), (15, .iload_n 1, 16), (16, .iaload, 17), (17, .ireturn, 18)]]),
  (prog_1_method_3_code, [
    [(0, .iload_n 1, 1), (1, .ifCond .eq 8, 4), (4, .iload_n 1, 5), (5, .iconst 1, 6), (6, .if_icmp .ne 7, 9), (9, .iconst 1, 10), (10, .goto 4, 13), (13, .iconst 0, 14), (14, .ireturn, 15)]]),
  (prog_1_method_17_code, [
    [(0, .aload_n 0, 1), (1, .iload_n 1, 2), (2, .invokevirtual 73, 5), (5, .ifCond .ne 6, 8), (8, .bipush (-2), 10), (10, .ireturn, 11), (11, .aload_n 0, 12), (12, .getfield 28, 15), (15, .iload_n 1, 16), (16, .iaload, 17), (17, .istore_n 2, 18), (18, .aload_n 0, 19), (19, .iload_n 2, 20), (20, .invokevirtual 60, 23), (23, .ifCond .eq 15, 26), (26, .aload_n 0, 27), (27, .getfield 7, 30), (30, .iload_n 2, 31), (31, .iaload, 32)],
    [(32, .iconst 3, 33), (33, .if_icmp .ne 5, 36), (36, .iload_n 2, 37), (37, .ireturn, 38), (38, .iconst (-1), 39), (39, .ireturn, 40)]]),
  (prog_1_method_4_code, [
    [(0, .iload_n 1, 1), (1, .ifCond .lt 13, 4), (4, .iload_n 1, 5), (5, .bipush 8, 7), (7, .if_icmp .ge 7, 10), (10, .iconst 1, 11), (11, .goto 4, 14), (14, .iconst 0, 15), (15, .ireturn, 16)]]),
  (prog_1_method_26_code, [
    [(0, .aload_n 0, 1), (1, .iload_n 1, 2), (2, .invokevirtual 73, 5), (5, .ifCond .ne 6, 8), (8, .bipush (-2), 10), (10, .ireturn, 11), (11, .aload_n 0, 12), (12, .getfield 37, 15), (15, .iload_n 1, 16), (16, .iaload, 17), (17, .ireturn, 18)]]),
  (prog_1_method_19_code, [
    [(0, .aload_n 0, 1), (1, .iload_n 1, 2), (2, .invokevirtual 70, 5), (5, .ifCond .ne 6, 8), (8, .bipush (-2), 10), (10, .ireturn, 11), (11, .aload_n 0, 12), (12, .getfield 7, 15), (15, .iload_n 1, 16), (16, .iaload, 17), (17, .ireturn, 18)]]),
  (prog_1_method_23_code, [
    [(0, .aload_n 0, 1), (1, .iload_n 1, 2), (2, .invokevirtual 70, 5), (5, .ifCond .ne 6, 8), (8, .bipush (-2), 10), (10, .ireturn, 11), (11, .aload_n 0, 12), (12, .getfield 7, 15), (15, .iload_n 1, 16), (16, .iaload, 17), (17, .ifCond .ne 5, 20), (20, .iconst (-1), 21), (21, .ireturn, 22), (22, .aload_n 0, 23), (23, .getfield 13, 26), (26, .iload_n 1, 27), (27, .iaload, 28), (28, .ifCond .ne 9, 31), (31, .aload_n 0, 32)],
    [(32, .iload_n 1, 33), (33, .invokevirtual 99, 36), (36, .ireturn, 37), (37, .aload_n 0, 38), (38, .iload_n 1, 39), (39, .invokevirtual 102, 42), (42, .ireturn, 43)]]),
  (prog_1_method_20_code, [
    [(0, .aload_n 0, 1), (1, .iload_n 1, 2), (2, .invokevirtual 70, 5), (5, .ifCond .ne 6, 8), (8, .bipush (-2), 10), (10, .ireturn, 11), (11, .aload_n 0, 12), (12, .getfield 13, 15), (15, .iload_n 1, 16), (16, .iaload, 17), (17, .ireturn, 18)]]),
  (prog_1_method_16_code, [
    [(0, .aload_n 0, 1), (1, .iload_n 1, 2), (2, .invokevirtual 70, 5), (5, .ifCond .ne 6, 8), (8, .bipush (-2), 10), (10, .ireturn, 11), (11, .aload_n 0, 12), (12, .getfield 7, 15), (15, .iload_n 1, 16), (16, .iaload, 17), (17, .iconst 3, 18), (18, .if_icmp .eq 6, 21), (21, .bipush (-2), 23), (23, .ireturn, 24), (24, .aload_n 0, 25), (25, .aload_n 0, 26), (26, .getfield 53, 29), (29, .iconst 1, 30), (30, .iadd, 31), (31, .putfield 53, 34)],
    [(34, .aload_n 0, 35), (35, .getfield 13, 38), (38, .iload_n 1, 39), (39, .iaload, 40), (40, .istore_n 2, 41), (41, .aload_n 0, 42), (42, .iload_n 2, 43), (43, .invokevirtual 96, 46), (46, .istore_n 3, 47), (47, .aload_n 0, 48), (48, .getfield 7, 51), (51, .iload_n 1, 52), (52, .iconst 0, 53), (53, .iastore, 54), (54, .aload_n 0, 55), (55, .getfield 13, 58), (58, .iload_n 1, 59), (59, .iconst (-1), 60), (60, .iastore, 61), (61, .aload_n 0, 62), (62, .iload_n 3, 63), (63, .invokevirtual 60, 66)],
    [(66, .ifCond .eq 10, 69), (69, .aload_n 0, 70), (70, .getfield 7, 73), (73, .iload_n 3, 74), (74, .iconst 2, 75), (75, .iastore, 76), (76, .aload_n 0, 77), (77, .invokevirtual 86, 80), (80, .iload_n 3, 81), (81, .ireturn, 82)]]),
  (prog_1_method_5_code, [
    [(0, .iload_n 1, 1), (1, .ifCond .ge 5, 4), (4, .iconst 0, 5), (5, .ireturn, 6), (6, .iload_n 1, 7), (7, .bipush 50, 9), (9, .if_icmp .le 6, 12), (12, .bipush 50, 14), (14, .ireturn, 15), (15, .iload_n 1, 16), (16, .ireturn, 17)]]),
  (prog_1_method_8_code, [
    [(0, .aload_n 0, 1), (1, .getfield 31, 4), (4, .iload_n 2, 5), (5, .iaload, 6), (6, .istore_n 3, 7), (7, .iload_n 2, 8), (8, .ifCond .ne 28, 11), (11, .aload_n 0, 12), (12, .getfield 22, 15), (15, .iload_n 1, 16), (16, .iconst (-1), 17), (17, .iastore, 18), (18, .aload_n 0, 19), (19, .iload_n 3, 20), (20, .invokevirtual 60, 23), (23, .ifCond .eq 20, 26), (26, .aload_n 0, 27), (27, .getfield 22, 30), (30, .iload_n 3, 31), (31, .iload_n 1, 32)],
    [(32, .iastore, 33), (33, .goto 10, 36), (36, .aload_n 0, 37), (37, .getfield 25, 40), (40, .iload_n 1, 41), (41, .iload_n 3, 42), (42, .iastore, 43), (43, .iload_n 3, 44), (44, .iconst (-1), 45), (45, .if_icmp .ne 10, 48), (48, .aload_n 0, 49), (49, .getfield 28, 52), (52, .iload_n 2, 53), (53, .iload_n 1, 54), (54, .iastore, 55), (55, .aload_n 0, 56), (56, .getfield 31, 59), (59, .iload_n 2, 60), (60, .iload_n 1, 61), (61, .iastore, 62), (62, .aload_n 0, 63), (63, .getfield 34, 66)],
    [(66, .iload_n 2, 67), (67, .aload_n 0, 68), (68, .getfield 34, 71), (71, .iload_n 2, 72), (72, .iaload, 73), (73, .iconst 1, 74), (74, .iadd, 75), (75, .iastore, 76), (76, .return_, 77)]]),
  (prog_1_method_6_code, [
    [(0, .aload_n 0, 1), (1, .getfield 37, 4), (4, .iload_n 2, 5), (5, .iaload, 6), (6, .istore_n 3, 7), (7, .iload_n 3, 8), (8, .ifCond .lt 21, 11), (11, .iload_n 3, 12), (12, .bipush 64, 14), (14, .if_icmp .ge 15, 17), (17, .aload_n 0, 18), (18, .getfield 43, 21), (21, .iload_n 2, 22), (22, .bipush 64, 24), (24, .imul, 25), (25, .iload_n 3, 26), (26, .iadd, 27), (27, .iload_n 1, 28), (28, .iastore, 29), (29, .aload_n 0, 30), (30, .getfield 37, 33)],
    [(33, .iload_n 2, 34), (34, .iload_n 3, 35), (35, .iconst 1, 36), (36, .iadd, 37), (37, .iastore, 38), (38, .return_, 39)]]),
  (prog_1_method_7_code, [
    [(0, .aload_n 0, 1), (1, .getfield 53, 4), (4, .iconst 1, 5), (5, .if_icmp .lt 53, 8), (8, .aload_n 0, 9), (9, .getfield 53, 12), (12, .sipush 256, 15), (15, .if_icmp .gt 43, 18), (18, .aload_n 0, 19), (19, .iconst 0, 20), (20, .invokevirtual 56, 23), (23, .istore_n 1, 24), (24, .aload_n 0, 25), (25, .iconst 1, 26), (26, .invokevirtual 56, 29), (29, .istore_n 2, 30), (30, .aload_n 0, 31), (31, .getfield 46, 34)],
    [(34, .aload_n 0, 35), (35, .getfield 53, 38), (38, .iconst 1, 39), (39, .isub, 40), (40, .iload_n 1, 41), (41, .iastore, 42), (42, .aload_n 0, 43), (43, .getfield 46, 46), (46, .sipush 256, 49), (49, .aload_n 0, 50), (50, .getfield 53, 53), (53, .iadd, 54), (54, .iconst 1, 55), (55, .isub, 56), (56, .iload_n 2, 57), (57, .iastore, 58), (58, .return_, 59)]]),
  (prog_1_method_22_code, [
    [(0, .aload_n 0, 1), (1, .getfield 25, 4), (4, .iload_n 1, 5), (5, .iaload, 6), (6, .istore_n 2, 7), (7, .iconst 0, 8), (8, .istore_n 3, 9), (9, .iconst 0, 10), (10, .istore 4, 12), (12, .iload 4, 14), (14, .bipush 8, 16), (16, .if_icmp .ge 29, 19), (19, .aload_n 0, 20), (20, .iload_n 2, 21), (21, .invokevirtual 60, 24), (24, .ifCond .ne 5, 27), (27, .iload_n 3, 28), (28, .ireturn, 29), (29, .iinc 3 1, 32)],
    [(32, .aload_n 0, 33), (33, .getfield 25, 36), (36, .iload_n 2, 37), (37, .iaload, 38), (38, .istore_n 2, 39), (39, .iinc 4 1, 42), (42, .goto (-30), 45), (45, .iload_n 3, 46), (46, .ireturn, 47)]]),
  (prog_1_method_11_code, [
    [(0, .aload_n 0, 1), (1, .getfield 28, 4), (4, .iload_n 1, 5), (5, .iaload, 6), (6, .istore_n 2, 7), (7, .aload_n 0, 8), (8, .iload_n 2, 9), (9, .invokevirtual 60, 12), (12, .ifCond .ne 5, 15), (15, .iconst (-1), 16), (16, .ireturn, 17), (17, .iload_n 1, 18), (18, .ifCond .ne 20, 21), (21, .aload_n 0, 22), (22, .getfield 22, 25), (25, .iload_n 2, 26), (26, .iaload, 27), (27, .istore_n 3, 28), (28, .aload_n 0, 29), (29, .getfield 22, 32)],
    [(32, .iload_n 2, 33), (33, .iconst (-1), 34), (34, .iastore, 35), (35, .goto 31, 38), (38, .aload_n 0, 39), (39, .iload_n 2, 40), (40, .invokevirtual 64, 43), (43, .istore_n 3, 44), (44, .aload_n 0, 45), (45, .iload_n 3, 46), (46, .invokevirtual 60, 49), (49, .ifCond .eq 10, 52), (52, .aload_n 0, 53), (53, .getfield 25, 56), (56, .iload_n 3, 57), (57, .iconst (-1), 58), (58, .iastore, 59), (59, .aload_n 0, 60), (60, .getfield 25, 63), (63, .iload_n 2, 64)],
    [(64, .iconst (-1), 65), (65, .iastore, 66), (66, .aload_n 0, 67), (67, .getfield 28, 70), (70, .iload_n 1, 71), (71, .iload_n 3, 72), (72, .iastore, 73), (73, .iload_n 3, 74), (74, .iconst (-1), 75), (75, .if_icmp .ne 10, 78), (78, .aload_n 0, 79), (79, .getfield 31, 82), (82, .iload_n 1, 83), (83, .iconst (-1), 84), (84, .iastore, 85), (85, .aload_n 0, 86), (86, .getfield 34, 89), (89, .iload_n 1, 90), (90, .aload_n 0, 91), (91, .getfield 34, 94), (94, .iload_n 1, 95), (95, .iaload, 96)],
    [(96, .iconst 1, 97), (97, .isub, 98), (98, .iastore, 99), (99, .iload_n 3, 100), (100, .ireturn, 101)]]),
  (prog_1_method_9_code, [
    [(0, .iconst 0, 1), (1, .istore_n 2, 2), (2, .iload_n 2, 3), (3, .aload_n 0, 4), (4, .getfield 49, 7), (7, .if_icmp .ge 45, 10), (10, .iload_n 2, 11), (11, .iload_n 1, 12), (12, .if_icmp .eq 34, 15), (15, .aload_n 0, 16), (16, .getfield 13, 19), (19, .iload_n 2, 20), (20, .iaload, 21), (21, .iconst 1, 22), (22, .if_icmp .ne 24, 25), (25, .aload_n 0, 26), (26, .getfield 7, 29), (29, .iload_n 2, 30), (30, .iaload, 31), (31, .ifCond .eq 15, 34)],
    [(34, .aload_n 0, 35), (35, .getfield 25, 38), (38, .iload_n 2, 39), (39, .iaload, 40), (40, .iload_n 1, 41), (41, .if_icmp .ne 5, 44), (44, .iload_n 2, 45), (45, .ireturn, 46), (46, .iinc 2 1, 49), (49, .goto (-47), 52), (52, .iconst (-1), 53), (53, .ireturn, 54)]]),
  (prog_1_method_21_code, [
    [(0, .aload_n 0, 1), (1, .getfield 28, 4), (4, .iconst 0, 5), (5, .iaload, 6), (6, .istore_n 2, 7), (7, .iconst 0, 8), (8, .istore_n 3, 9), (9, .iload_n 3, 10), (10, .bipush 8, 12), (12, .if_icmp .ge 33, 15), (15, .iload_n 2, 16), (16, .iload_n 1, 17), (17, .if_icmp .ne 5, 20), (20, .iload_n 3, 21), (21, .ireturn, 22), (22, .aload_n 0, 23), (23, .iload_n 2, 24), (24, .invokevirtual 60, 27), (27, .ifCond .ne 5, 30), (30, .iconst (-1), 31), (31, .ireturn, 32)],
    [(32, .aload_n 0, 33), (33, .getfield 22, 36), (36, .iload_n 2, 37), (37, .iaload, 38), (38, .istore_n 2, 39), (39, .iinc 3 1, 42), (42, .goto (-33), 45), (45, .iconst (-1), 46), (46, .ireturn, 47)]])]
def own_mis : List MI := [(0, 27, 5, some .boolean, false, 7, 160), (1, 4, 2, none, true, 1, 12), (1, 5, 4, some .int, false, 3, 41), (1, 2, 2, some .boolean, false, 0, 0), (1, 1, 1, some .int, false, 0, 0), (1, 2, 2, some .int, false, 1, 13), (1, 2, 2, some .boolean, false, 0, 0), (1, 3, 2, some .int, false, 1, 13), (1, 2, 2, some .boolean, false, 0, 0), (1, 2, 2, some .int, false, 1, 13), (1, 2, 2, some .int, false, 1, 13), (1, 2, 2, some .int, false, 2, 29), (1, 2, 2, some .int, false, 1, 13), (1, 4, 2, some .int, false, 3, 41), (1, 2, 2, some .int, false, 0, 0), (1, 4, 3, none, false, 1, 13), (1, 4, 3, none, false, 0, 0), (1, 3, 1, none, false, 2, 27), (1, 5, 2, some .int, false, 1, 13), (1, 4, 2, some .int, false, 1, 14), (1, 3, 2, some .int, false, 0, 0), (1, 4, 2, some .int, false, 1, 13)]
def own_links : List (Nat × Nat × Nat × Nat) := [(0, 9, 1, 1), (1, 1, 4, 0), (0, 12, 2, 2), (1, 70, 3, 3), (0, 16, 2, 4), (0, 20, 2, 5), (1, 73, 3, 6), (0, 24, 2, 7), (1, 60, 3, 8), (0, 27, 2, 9), (0, 30, 2, 10), (0, 33, 2, 11), (0, 36, 2, 12), (0, 39, 2, 13), (1, 76, 3, 14), (1, 79, 3, 15), (1, 83, 3, 16), (1, 86, 3, 17), (1, 56, 2, 7), (1, 102, 3, 18), (1, 96, 3, 19), (1, 64, 3, 20), (1, 99, 3, 21), (0, 7, 5, 0)]
def own_flds : List (Nat × Nat × Nat) := [(1, 7, 0), (1, 13, 1), (1, 16, 2), (1, 19, 3), (1, 22, 4), (1, 25, 5), (1, 28, 6), (1, 31, 7), (1, 34, 8), (1, 37, 9), (1, 40, 10), (1, 43, 11), (1, 46, 12), (1, 49, 13), (1, 53, 14)]
def own_kons : List (Nat × Nat × Value) := []
def own_fields : List (String × String × Nat × Bool) := [("st", "[I", 3, false), ("lk", "[I", 3, false), ("tmo", "[I", 3, false), ("spin", "[I", 3, false), ("nxt0", "[I", 3, false), ("prv1", "[I", 3, false), ("head", "[I", 3, false), ("tail", "[I", 3, false), ("len", "[I", 3, false), ("ent", "[I", 3, false), ("aband", "[I", 3, false), ("log", "[I", 3, false), ("hist", "[I", 3, false), ("n", "I", 0, false), ("clk", "I", 0, false)]
def own_P : Prog := (codeAt own_cs, fun k => own_mis.getD k (0, 0, 0, none, false, 0, 0), lookT own_links, lookT own_flds, lookT own_kons, own_fields, 15, 0, 40, 1536)
def own_nms : List MethodName := [⟨"QueueLocksL2", "law", "(IIIII)Z"⟩, ⟨"QueueLocks", "<init>", "(I)V"⟩, ⟨"QueueLocks", "acquire", "(III)I"⟩, ⟨"QueueLocks", "validThread", "(I)Z"⟩, ⟨"QueueLocks", "clock", "()I"⟩, ⟨"QueueLocks", "queueLength", "(I)I"⟩, ⟨"QueueLocks", "validLock", "(I)Z"⟩, ⟨"QueueLocks", "holder", "(I)I"⟩, ⟨"QueueLocks", "inNodes", "(I)Z"⟩, ⟨"QueueLocks", "entries", "(I)I"⟩, ⟨"QueueLocks", "state", "(I)I"⟩, ⟨"QueueLocks", "ahead", "(I)I"⟩, ⟨"QueueLocks", "lockOf", "(I)I"⟩, ⟨"QueueLocks", "release", "(I)I"⟩, ⟨"QueueLocks", "clampTimeout", "(I)I"⟩, ⟨"QueueLocks", "append", "(II)V"⟩, ⟨"QueueLocks", "enter", "(II)V"⟩, ⟨"QueueLocks", "recordHistory", "()V"⟩, ⟨"QueueLocks", "aheadClh", "(I)I"⟩, ⟨"QueueLocks", "popFront", "(I)I"⟩, ⟨"QueueLocks", "successorClh", "(I)I"⟩, ⟨"QueueLocks", "aheadMcs", "(I)I"⟩]
def own_nm (k : Nat) : MethodName := own_nms.getD k ⟨"", "", ""⟩
def own_cn (c : Nat) : String := match c with | 0 => "QueueLocksL2" | _ => "QueueLocks"
theorem own_pn0 : plainName "QueueLocksL2" = true := by first | (simp [plainName, overriddenIn]; done) | decide +kernel
theorem own_pn1 : plainName "QueueLocks" = true := by first | (simp [plainName, overriddenIn]; done) | decide +kernel
theorem own_ne0 : "QueueLocksL2" ≠ "java/lang/invoke/MethodHandle" ∧ "QueueLocksL2" ≠ "java/lang/invoke/VarHandle" := by decide
theorem own_ne1 : "QueueLocks" ≠ "java/lang/invoke/MethodHandle" ∧ "QueueLocks" ≠ "java/lang/invoke/VarHandle" := by decide
theorem own_pd0 : parseMethodDescriptor "(I)V" = some ⟨[.int], none⟩ := by decide +kernel
theorem own_pd1 : parseMethodDescriptor "(III)I" = some ⟨[.int, .int, .int], some .int⟩ := by decide +kernel
theorem own_pd2 : parseMethodDescriptor "(I)Z" = some ⟨[.int], some .boolean⟩ := by decide +kernel
theorem own_pd3 : parseMethodDescriptor "()I" = some ⟨[], some .int⟩ := by decide +kernel
theorem own_pd4 : parseMethodDescriptor "(I)I" = some ⟨[.int], some .int⟩ := by decide +kernel
theorem own_pd5 : parseMethodDescriptor "(II)V" = some ⟨[.int, .int], none⟩ := by decide +kernel
theorem own_pd6 : parseMethodDescriptor "()V" = some ⟨[], none⟩ := by decide +kernel
set_option maxRecDepth 100000 in
theorem own_okcs : okCs own_cs = true := by decide +kernel
def own_ty (t : ArrayType) : Bool := decide (t = .int)
theorem own_tyok : tyCs own_ty own_cs = true := by decide +kernel
theorem own_nodup : (own_fields.map (·.1)).Nodup := by decide +kernel
set_option maxRecDepth 100000 in
set_option maxHeartbeats 4000000 in
theorem own_good {Z : State} {a0 : Array Value} (hw : ∀ d ∈ tables_1, d.before a0 Z = true) : Good own_P own_nm (bcOf own_cs) own_cn "QueueLocks" Z a0 := by
  refine good_of (ty := own_ty) rfl own_okcs ?_ ?_ own_nodup ?_ (hw _ (List.mem_of_getElem? (i := 1) rfl)) (hw _ (List.mem_of_getElem? (i := 2) rfl)) own_tyok ?_ ?_
  · exact ⟨⟨_, _, _, _, rfl, (hw _ (List.mem_of_getElem? (i := 10) rfl))⟩,
      ⟨_, _, _, _, rfl, (hw _ (List.mem_of_getElem? (i := 12) rfl))⟩,
      ⟨_, _, _, _, rfl, (hw _ (List.mem_of_getElem? (i := 14) rfl))⟩,
      ⟨_, _, _, _, rfl, (hw _ (List.mem_of_getElem? (i := 16) rfl))⟩,
      ⟨_, _, _, _, rfl, (hw _ (List.mem_of_getElem? (i := 18) rfl))⟩,
      ⟨_, _, _, _, rfl, (hw _ (List.mem_of_getElem? (i := 20) rfl))⟩,
      ⟨_, _, _, _, rfl, (hw _ (List.mem_of_getElem? (i := 22) rfl))⟩,
      ⟨_, _, _, _, rfl, (hw _ (List.mem_of_getElem? (i := 24) rfl))⟩,
      ⟨_, _, _, _, rfl, (hw _ (List.mem_of_getElem? (i := 26) rfl))⟩,
      ⟨_, _, _, _, rfl, (hw _ (List.mem_of_getElem? (i := 28) rfl))⟩,
      ⟨_, _, _, _, rfl, (hw _ (List.mem_of_getElem? (i := 30) rfl))⟩,
      ⟨_, _, _, _, rfl, (hw _ (List.mem_of_getElem? (i := 32) rfl))⟩,
      ⟨_, _, _, _, rfl, (hw _ (List.mem_of_getElem? (i := 34) rfl))⟩,
      ⟨_, _, _, _, rfl, (hw _ (List.mem_of_getElem? (i := 36) rfl))⟩,
      ⟨_, _, _, _, rfl, (hw _ (List.mem_of_getElem? (i := 38) rfl))⟩,
      trivial⟩
  · exact ⟨⟨(hw _ (List.mem_of_getElem? (i := 11) rfl)), .array .int, by decide, rfl, rfl⟩,
      ⟨(hw _ (List.mem_of_getElem? (i := 13) rfl)), .array .int, by decide, rfl, rfl⟩,
      ⟨(hw _ (List.mem_of_getElem? (i := 15) rfl)), .array .int, by decide, rfl, rfl⟩,
      ⟨(hw _ (List.mem_of_getElem? (i := 17) rfl)), .array .int, by decide, rfl, rfl⟩,
      ⟨(hw _ (List.mem_of_getElem? (i := 19) rfl)), .array .int, by decide, rfl, rfl⟩,
      ⟨(hw _ (List.mem_of_getElem? (i := 21) rfl)), .array .int, by decide, rfl, rfl⟩,
      ⟨(hw _ (List.mem_of_getElem? (i := 23) rfl)), .array .int, by decide, rfl, rfl⟩,
      ⟨(hw _ (List.mem_of_getElem? (i := 25) rfl)), .array .int, by decide, rfl, rfl⟩,
      ⟨(hw _ (List.mem_of_getElem? (i := 27) rfl)), .array .int, by decide, rfl, rfl⟩,
      ⟨(hw _ (List.mem_of_getElem? (i := 29) rfl)), .array .int, by decide, rfl, rfl⟩,
      ⟨(hw _ (List.mem_of_getElem? (i := 31) rfl)), .array .int, by decide, rfl, rfl⟩,
      ⟨(hw _ (List.mem_of_getElem? (i := 33) rfl)), .array .int, by decide, rfl, rfl⟩,
      ⟨(hw _ (List.mem_of_getElem? (i := 35) rfl)), .array .int, by decide, rfl, rfl⟩,
      ⟨(hw _ (List.mem_of_getElem? (i := 37) rfl)), .int, by decide, rfl, rfl⟩,
      ⟨(hw _ (List.mem_of_getElem? (i := 39) rfl)), .int, by decide, rfl, rfl⟩,
      trivial⟩
  · exact trivial
  · intro t ht
    simp only [own_ty, Bool.or_eq_true, decide_eq_true_eq] at ht
    subst ht
    exact (hw _ (List.mem_of_getElem? (i := 9) rfl))
  · exact ⟨⟨(hw _ (List.mem_of_getElem? (i := 3) rfl)), (hw _ (List.mem_of_getElem? (i := 5) rfl)), (hw _ (List.mem_of_getElem? (i := 2) rfl)), ⟨_, _, own_pd0, rfl⟩, own_pn1, own_ne1, rfl, (fun _ => ⟨rfl, rfl⟩), ⟨rfl, (hw _ (List.mem_of_getElem? (i := 4) rfl)), rfl⟩⟩,
      ⟨(hw _ (List.mem_of_getElem? (i := 6) rfl)), (hw _ (List.mem_of_getElem? (i := 7) rfl)), (hw _ (List.mem_of_getElem? (i := 8) rfl))⟩,
      ⟨(hw _ (List.mem_of_getElem? (i := 40) rfl)), (hw _ (List.mem_of_getElem? (i := 44) rfl)), (hw _ (List.mem_of_getElem? (i := 2) rfl)), ⟨_, _, own_pd1, rfl⟩, own_pn1, own_ne1, rfl, (fun h => nomatch h), ⟨(hw _ (List.mem_of_getElem? (i := 41) rfl)), (hw _ (List.mem_of_getElem? (i := 42) rfl)), (hw _ (List.mem_of_getElem? (i := 43) rfl))⟩⟩,
      ⟨(hw _ (List.mem_of_getElem? (i := 45) rfl)), (hw _ (List.mem_of_getElem? (i := 48) rfl)), (hw _ (List.mem_of_getElem? (i := 2) rfl)), ⟨_, _, own_pd2, rfl⟩, own_pn1, own_ne1, rfl, (fun h => nomatch h), ⟨rfl, (hw _ (List.mem_of_getElem? (i := 46) rfl)), (hw _ (List.mem_of_getElem? (i := 47) rfl))⟩⟩,
      ⟨(hw _ (List.mem_of_getElem? (i := 49) rfl)), (hw _ (List.mem_of_getElem? (i := 53) rfl)), (hw _ (List.mem_of_getElem? (i := 2) rfl)), ⟨_, _, own_pd3, rfl⟩, own_pn1, own_ne1, rfl, (fun h => nomatch h), ⟨(hw _ (List.mem_of_getElem? (i := 50) rfl)), (hw _ (List.mem_of_getElem? (i := 51) rfl)), (hw _ (List.mem_of_getElem? (i := 52) rfl))⟩⟩,
      ⟨(hw _ (List.mem_of_getElem? (i := 54) rfl)), (hw _ (List.mem_of_getElem? (i := 58) rfl)), (hw _ (List.mem_of_getElem? (i := 2) rfl)), ⟨_, _, own_pd4, rfl⟩, own_pn1, own_ne1, rfl, (fun h => nomatch h), ⟨(hw _ (List.mem_of_getElem? (i := 55) rfl)), (hw _ (List.mem_of_getElem? (i := 56) rfl)), (hw _ (List.mem_of_getElem? (i := 57) rfl))⟩⟩,
      ⟨(hw _ (List.mem_of_getElem? (i := 59) rfl)), (hw _ (List.mem_of_getElem? (i := 62) rfl)), (hw _ (List.mem_of_getElem? (i := 2) rfl)), ⟨_, _, own_pd2, rfl⟩, own_pn1, own_ne1, rfl, (fun h => nomatch h), ⟨rfl, (hw _ (List.mem_of_getElem? (i := 60) rfl)), (hw _ (List.mem_of_getElem? (i := 61) rfl))⟩⟩,
      ⟨(hw _ (List.mem_of_getElem? (i := 63) rfl)), (hw _ (List.mem_of_getElem? (i := 67) rfl)), (hw _ (List.mem_of_getElem? (i := 2) rfl)), ⟨_, _, own_pd4, rfl⟩, own_pn1, own_ne1, rfl, (fun h => nomatch h), ⟨(hw _ (List.mem_of_getElem? (i := 64) rfl)), (hw _ (List.mem_of_getElem? (i := 65) rfl)), (hw _ (List.mem_of_getElem? (i := 66) rfl))⟩⟩,
      ⟨(hw _ (List.mem_of_getElem? (i := 68) rfl)), (hw _ (List.mem_of_getElem? (i := 71) rfl)), (hw _ (List.mem_of_getElem? (i := 2) rfl)), ⟨_, _, own_pd2, rfl⟩, own_pn1, own_ne1, rfl, (fun h => nomatch h), ⟨rfl, (hw _ (List.mem_of_getElem? (i := 69) rfl)), (hw _ (List.mem_of_getElem? (i := 70) rfl))⟩⟩,
      ⟨(hw _ (List.mem_of_getElem? (i := 72) rfl)), (hw _ (List.mem_of_getElem? (i := 76) rfl)), (hw _ (List.mem_of_getElem? (i := 2) rfl)), ⟨_, _, own_pd4, rfl⟩, own_pn1, own_ne1, rfl, (fun h => nomatch h), ⟨(hw _ (List.mem_of_getElem? (i := 73) rfl)), (hw _ (List.mem_of_getElem? (i := 74) rfl)), (hw _ (List.mem_of_getElem? (i := 75) rfl))⟩⟩,
      ⟨(hw _ (List.mem_of_getElem? (i := 77) rfl)), (hw _ (List.mem_of_getElem? (i := 81) rfl)), (hw _ (List.mem_of_getElem? (i := 2) rfl)), ⟨_, _, own_pd4, rfl⟩, own_pn1, own_ne1, rfl, (fun h => nomatch h), ⟨(hw _ (List.mem_of_getElem? (i := 78) rfl)), (hw _ (List.mem_of_getElem? (i := 79) rfl)), (hw _ (List.mem_of_getElem? (i := 80) rfl))⟩⟩,
      ⟨(hw _ (List.mem_of_getElem? (i := 82) rfl)), (hw _ (List.mem_of_getElem? (i := 86) rfl)), (hw _ (List.mem_of_getElem? (i := 2) rfl)), ⟨_, _, own_pd4, rfl⟩, own_pn1, own_ne1, rfl, (fun h => nomatch h), ⟨(hw _ (List.mem_of_getElem? (i := 83) rfl)), (hw _ (List.mem_of_getElem? (i := 84) rfl)), (hw _ (List.mem_of_getElem? (i := 85) rfl))⟩⟩,
      ⟨(hw _ (List.mem_of_getElem? (i := 87) rfl)), (hw _ (List.mem_of_getElem? (i := 91) rfl)), (hw _ (List.mem_of_getElem? (i := 2) rfl)), ⟨_, _, own_pd4, rfl⟩, own_pn1, own_ne1, rfl, (fun h => nomatch h), ⟨(hw _ (List.mem_of_getElem? (i := 88) rfl)), (hw _ (List.mem_of_getElem? (i := 89) rfl)), (hw _ (List.mem_of_getElem? (i := 90) rfl))⟩⟩,
      ⟨(hw _ (List.mem_of_getElem? (i := 92) rfl)), (hw _ (List.mem_of_getElem? (i := 96) rfl)), (hw _ (List.mem_of_getElem? (i := 2) rfl)), ⟨_, _, own_pd4, rfl⟩, own_pn1, own_ne1, rfl, (fun h => nomatch h), ⟨(hw _ (List.mem_of_getElem? (i := 93) rfl)), (hw _ (List.mem_of_getElem? (i := 94) rfl)), (hw _ (List.mem_of_getElem? (i := 95) rfl))⟩⟩,
      ⟨(hw _ (List.mem_of_getElem? (i := 97) rfl)), (hw _ (List.mem_of_getElem? (i := 100) rfl)), (hw _ (List.mem_of_getElem? (i := 2) rfl)), ⟨_, _, own_pd4, rfl⟩, own_pn1, own_ne1, rfl, (fun h => nomatch h), ⟨rfl, (hw _ (List.mem_of_getElem? (i := 98) rfl)), (hw _ (List.mem_of_getElem? (i := 99) rfl))⟩⟩,
      ⟨(hw _ (List.mem_of_getElem? (i := 101) rfl)), (hw _ (List.mem_of_getElem? (i := 104) rfl)), (hw _ (List.mem_of_getElem? (i := 2) rfl)), ⟨_, _, own_pd5, rfl⟩, own_pn1, own_ne1, rfl, (fun h => nomatch h), ⟨rfl, (hw _ (List.mem_of_getElem? (i := 102) rfl)), (hw _ (List.mem_of_getElem? (i := 103) rfl))⟩⟩,
      ⟨(hw _ (List.mem_of_getElem? (i := 105) rfl)), (hw _ (List.mem_of_getElem? (i := 108) rfl)), (hw _ (List.mem_of_getElem? (i := 2) rfl)), ⟨_, _, own_pd5, rfl⟩, own_pn1, own_ne1, rfl, (fun h => nomatch h), ⟨rfl, (hw _ (List.mem_of_getElem? (i := 106) rfl)), (hw _ (List.mem_of_getElem? (i := 107) rfl))⟩⟩,
      ⟨(hw _ (List.mem_of_getElem? (i := 109) rfl)), (hw _ (List.mem_of_getElem? (i := 112) rfl)), (hw _ (List.mem_of_getElem? (i := 2) rfl)), ⟨_, _, own_pd6, rfl⟩, own_pn1, own_ne1, rfl, (fun h => nomatch h), ⟨rfl, (hw _ (List.mem_of_getElem? (i := 110) rfl)), (hw _ (List.mem_of_getElem? (i := 111) rfl))⟩⟩,
      ⟨(hw _ (List.mem_of_getElem? (i := 113) rfl)), (hw _ (List.mem_of_getElem? (i := 67) rfl)), (hw _ (List.mem_of_getElem? (i := 2) rfl)), ⟨_, _, own_pd4, rfl⟩, own_pn1, own_ne1, rfl, (fun h => nomatch h), ⟨(hw _ (List.mem_of_getElem? (i := 64) rfl)), (hw _ (List.mem_of_getElem? (i := 65) rfl)), (hw _ (List.mem_of_getElem? (i := 66) rfl))⟩⟩,
      ⟨(hw _ (List.mem_of_getElem? (i := 114) rfl)), (hw _ (List.mem_of_getElem? (i := 117) rfl)), (hw _ (List.mem_of_getElem? (i := 2) rfl)), ⟨_, _, own_pd4, rfl⟩, own_pn1, own_ne1, rfl, (fun h => nomatch h), ⟨rfl, (hw _ (List.mem_of_getElem? (i := 115) rfl)), (hw _ (List.mem_of_getElem? (i := 116) rfl))⟩⟩,
      ⟨(hw _ (List.mem_of_getElem? (i := 118) rfl)), (hw _ (List.mem_of_getElem? (i := 121) rfl)), (hw _ (List.mem_of_getElem? (i := 2) rfl)), ⟨_, _, own_pd4, rfl⟩, own_pn1, own_ne1, rfl, (fun h => nomatch h), ⟨rfl, (hw _ (List.mem_of_getElem? (i := 119) rfl)), (hw _ (List.mem_of_getElem? (i := 120) rfl))⟩⟩,
      ⟨(hw _ (List.mem_of_getElem? (i := 122) rfl)), (hw _ (List.mem_of_getElem? (i := 125) rfl)), (hw _ (List.mem_of_getElem? (i := 2) rfl)), ⟨_, _, own_pd4, rfl⟩, own_pn1, own_ne1, rfl, (fun h => nomatch h), ⟨rfl, (hw _ (List.mem_of_getElem? (i := 123) rfl)), (hw _ (List.mem_of_getElem? (i := 124) rfl))⟩⟩,
      ⟨(hw _ (List.mem_of_getElem? (i := 126) rfl)), (hw _ (List.mem_of_getElem? (i := 129) rfl)), (hw _ (List.mem_of_getElem? (i := 2) rfl)), ⟨_, _, own_pd4, rfl⟩, own_pn1, own_ne1, rfl, (fun h => nomatch h), ⟨rfl, (hw _ (List.mem_of_getElem? (i := 127) rfl)), (hw _ (List.mem_of_getElem? (i := 128) rfl))⟩⟩,
      (hw _ (List.mem_of_getElem? (i := 0) rfl)),
      trivial⟩
/-! # the object's state -/
def Q : Type := List Int32 × List Int32 × List Int32 × List Int32 × List Int32 × List Int32 × List Int32 × List Int32 × List Int32 × List Int32 × List Int32 × List Int32 × List Int32 × Int32 × Int32
def Q.f_st (s : Q) : List Int32 := s.1
def Q.f_lk (s : Q) : List Int32 := s.2.1
def Q.f_tmo (s : Q) : List Int32 := s.2.2.1
def Q.f_spin (s : Q) : List Int32 := s.2.2.2.1
def Q.f_nxt0 (s : Q) : List Int32 := s.2.2.2.2.1
def Q.f_prv1 (s : Q) : List Int32 := s.2.2.2.2.2.1
def Q.f_head (s : Q) : List Int32 := s.2.2.2.2.2.2.1
def Q.f_tail (s : Q) : List Int32 := s.2.2.2.2.2.2.2.1
def Q.f_len (s : Q) : List Int32 := s.2.2.2.2.2.2.2.2.1
def Q.f_ent (s : Q) : List Int32 := s.2.2.2.2.2.2.2.2.2.1
def Q.f_aband (s : Q) : List Int32 := s.2.2.2.2.2.2.2.2.2.2.1
def Q.f_log (s : Q) : List Int32 := s.2.2.2.2.2.2.2.2.2.2.2.1
def Q.f_hist (s : Q) : List Int32 := s.2.2.2.2.2.2.2.2.2.2.2.2.1
def Q.f_n (s : Q) : Int32 := s.2.2.2.2.2.2.2.2.2.2.2.2.2.1
def Q.f_clk (s : Q) : Int32 := s.2.2.2.2.2.2.2.2.2.2.2.2.2.2
def Q.s_st (s : Q) (x : List Int32) : Q := (x, s.2.1, s.2.2.1, s.2.2.2.1, s.2.2.2.2.1, s.2.2.2.2.2.1, s.2.2.2.2.2.2.1, s.2.2.2.2.2.2.2.1, s.2.2.2.2.2.2.2.2.1, s.2.2.2.2.2.2.2.2.2.1, s.2.2.2.2.2.2.2.2.2.2.1, s.2.2.2.2.2.2.2.2.2.2.2.1, s.2.2.2.2.2.2.2.2.2.2.2.2.1, s.2.2.2.2.2.2.2.2.2.2.2.2.2.1, s.2.2.2.2.2.2.2.2.2.2.2.2.2.2)
def Q.s_lk (s : Q) (x : List Int32) : Q := (s.1, x, s.2.2.1, s.2.2.2.1, s.2.2.2.2.1, s.2.2.2.2.2.1, s.2.2.2.2.2.2.1, s.2.2.2.2.2.2.2.1, s.2.2.2.2.2.2.2.2.1, s.2.2.2.2.2.2.2.2.2.1, s.2.2.2.2.2.2.2.2.2.2.1, s.2.2.2.2.2.2.2.2.2.2.2.1, s.2.2.2.2.2.2.2.2.2.2.2.2.1, s.2.2.2.2.2.2.2.2.2.2.2.2.2.1, s.2.2.2.2.2.2.2.2.2.2.2.2.2.2)
def Q.s_tmo (s : Q) (x : List Int32) : Q := (s.1, s.2.1, x, s.2.2.2.1, s.2.2.2.2.1, s.2.2.2.2.2.1, s.2.2.2.2.2.2.1, s.2.2.2.2.2.2.2.1, s.2.2.2.2.2.2.2.2.1, s.2.2.2.2.2.2.2.2.2.1, s.2.2.2.2.2.2.2.2.2.2.1, s.2.2.2.2.2.2.2.2.2.2.2.1, s.2.2.2.2.2.2.2.2.2.2.2.2.1, s.2.2.2.2.2.2.2.2.2.2.2.2.2.1, s.2.2.2.2.2.2.2.2.2.2.2.2.2.2)
def Q.s_spin (s : Q) (x : List Int32) : Q := (s.1, s.2.1, s.2.2.1, x, s.2.2.2.2.1, s.2.2.2.2.2.1, s.2.2.2.2.2.2.1, s.2.2.2.2.2.2.2.1, s.2.2.2.2.2.2.2.2.1, s.2.2.2.2.2.2.2.2.2.1, s.2.2.2.2.2.2.2.2.2.2.1, s.2.2.2.2.2.2.2.2.2.2.2.1, s.2.2.2.2.2.2.2.2.2.2.2.2.1, s.2.2.2.2.2.2.2.2.2.2.2.2.2.1, s.2.2.2.2.2.2.2.2.2.2.2.2.2.2)
def Q.s_nxt0 (s : Q) (x : List Int32) : Q := (s.1, s.2.1, s.2.2.1, s.2.2.2.1, x, s.2.2.2.2.2.1, s.2.2.2.2.2.2.1, s.2.2.2.2.2.2.2.1, s.2.2.2.2.2.2.2.2.1, s.2.2.2.2.2.2.2.2.2.1, s.2.2.2.2.2.2.2.2.2.2.1, s.2.2.2.2.2.2.2.2.2.2.2.1, s.2.2.2.2.2.2.2.2.2.2.2.2.1, s.2.2.2.2.2.2.2.2.2.2.2.2.2.1, s.2.2.2.2.2.2.2.2.2.2.2.2.2.2)
def Q.s_prv1 (s : Q) (x : List Int32) : Q := (s.1, s.2.1, s.2.2.1, s.2.2.2.1, s.2.2.2.2.1, x, s.2.2.2.2.2.2.1, s.2.2.2.2.2.2.2.1, s.2.2.2.2.2.2.2.2.1, s.2.2.2.2.2.2.2.2.2.1, s.2.2.2.2.2.2.2.2.2.2.1, s.2.2.2.2.2.2.2.2.2.2.2.1, s.2.2.2.2.2.2.2.2.2.2.2.2.1, s.2.2.2.2.2.2.2.2.2.2.2.2.2.1, s.2.2.2.2.2.2.2.2.2.2.2.2.2.2)
def Q.s_head (s : Q) (x : List Int32) : Q := (s.1, s.2.1, s.2.2.1, s.2.2.2.1, s.2.2.2.2.1, s.2.2.2.2.2.1, x, s.2.2.2.2.2.2.2.1, s.2.2.2.2.2.2.2.2.1, s.2.2.2.2.2.2.2.2.2.1, s.2.2.2.2.2.2.2.2.2.2.1, s.2.2.2.2.2.2.2.2.2.2.2.1, s.2.2.2.2.2.2.2.2.2.2.2.2.1, s.2.2.2.2.2.2.2.2.2.2.2.2.2.1, s.2.2.2.2.2.2.2.2.2.2.2.2.2.2)
def Q.s_tail (s : Q) (x : List Int32) : Q := (s.1, s.2.1, s.2.2.1, s.2.2.2.1, s.2.2.2.2.1, s.2.2.2.2.2.1, s.2.2.2.2.2.2.1, x, s.2.2.2.2.2.2.2.2.1, s.2.2.2.2.2.2.2.2.2.1, s.2.2.2.2.2.2.2.2.2.2.1, s.2.2.2.2.2.2.2.2.2.2.2.1, s.2.2.2.2.2.2.2.2.2.2.2.2.1, s.2.2.2.2.2.2.2.2.2.2.2.2.2.1, s.2.2.2.2.2.2.2.2.2.2.2.2.2.2)
def Q.s_len (s : Q) (x : List Int32) : Q := (s.1, s.2.1, s.2.2.1, s.2.2.2.1, s.2.2.2.2.1, s.2.2.2.2.2.1, s.2.2.2.2.2.2.1, s.2.2.2.2.2.2.2.1, x, s.2.2.2.2.2.2.2.2.2.1, s.2.2.2.2.2.2.2.2.2.2.1, s.2.2.2.2.2.2.2.2.2.2.2.1, s.2.2.2.2.2.2.2.2.2.2.2.2.1, s.2.2.2.2.2.2.2.2.2.2.2.2.2.1, s.2.2.2.2.2.2.2.2.2.2.2.2.2.2)
def Q.s_ent (s : Q) (x : List Int32) : Q := (s.1, s.2.1, s.2.2.1, s.2.2.2.1, s.2.2.2.2.1, s.2.2.2.2.2.1, s.2.2.2.2.2.2.1, s.2.2.2.2.2.2.2.1, s.2.2.2.2.2.2.2.2.1, x, s.2.2.2.2.2.2.2.2.2.2.1, s.2.2.2.2.2.2.2.2.2.2.2.1, s.2.2.2.2.2.2.2.2.2.2.2.2.1, s.2.2.2.2.2.2.2.2.2.2.2.2.2.1, s.2.2.2.2.2.2.2.2.2.2.2.2.2.2)
def Q.s_aband (s : Q) (x : List Int32) : Q := (s.1, s.2.1, s.2.2.1, s.2.2.2.1, s.2.2.2.2.1, s.2.2.2.2.2.1, s.2.2.2.2.2.2.1, s.2.2.2.2.2.2.2.1, s.2.2.2.2.2.2.2.2.1, s.2.2.2.2.2.2.2.2.2.1, x, s.2.2.2.2.2.2.2.2.2.2.2.1, s.2.2.2.2.2.2.2.2.2.2.2.2.1, s.2.2.2.2.2.2.2.2.2.2.2.2.2.1, s.2.2.2.2.2.2.2.2.2.2.2.2.2.2)
def Q.s_log (s : Q) (x : List Int32) : Q := (s.1, s.2.1, s.2.2.1, s.2.2.2.1, s.2.2.2.2.1, s.2.2.2.2.2.1, s.2.2.2.2.2.2.1, s.2.2.2.2.2.2.2.1, s.2.2.2.2.2.2.2.2.1, s.2.2.2.2.2.2.2.2.2.1, s.2.2.2.2.2.2.2.2.2.2.1, x, s.2.2.2.2.2.2.2.2.2.2.2.2.1, s.2.2.2.2.2.2.2.2.2.2.2.2.2.1, s.2.2.2.2.2.2.2.2.2.2.2.2.2.2)
def Q.s_hist (s : Q) (x : List Int32) : Q := (s.1, s.2.1, s.2.2.1, s.2.2.2.1, s.2.2.2.2.1, s.2.2.2.2.2.1, s.2.2.2.2.2.2.1, s.2.2.2.2.2.2.2.1, s.2.2.2.2.2.2.2.2.1, s.2.2.2.2.2.2.2.2.2.1, s.2.2.2.2.2.2.2.2.2.2.1, s.2.2.2.2.2.2.2.2.2.2.2.1, x, s.2.2.2.2.2.2.2.2.2.2.2.2.2.1, s.2.2.2.2.2.2.2.2.2.2.2.2.2.2)
def Q.s_n (s : Q) (x : Int32) : Q := (s.1, s.2.1, s.2.2.1, s.2.2.2.1, s.2.2.2.2.1, s.2.2.2.2.2.1, s.2.2.2.2.2.2.1, s.2.2.2.2.2.2.2.1, s.2.2.2.2.2.2.2.2.1, s.2.2.2.2.2.2.2.2.2.1, s.2.2.2.2.2.2.2.2.2.2.1, s.2.2.2.2.2.2.2.2.2.2.2.1, s.2.2.2.2.2.2.2.2.2.2.2.2.1, x, s.2.2.2.2.2.2.2.2.2.2.2.2.2.2)
def Q.s_clk (s : Q) (x : Int32) : Q := (s.1, s.2.1, s.2.2.1, s.2.2.2.1, s.2.2.2.2.1, s.2.2.2.2.2.1, s.2.2.2.2.2.2.1, s.2.2.2.2.2.2.2.1, s.2.2.2.2.2.2.2.2.1, s.2.2.2.2.2.2.2.2.2.1, s.2.2.2.2.2.2.2.2.2.2.1, s.2.2.2.2.2.2.2.2.2.2.2.1, s.2.2.2.2.2.2.2.2.2.2.2.2.1, s.2.2.2.2.2.2.2.2.2.2.2.2.2.1, x)
def Q0 : Q := (List.replicate 8 0, List.replicate 8 0, List.replicate 8 0, List.replicate 8 0, List.replicate 8 0, List.replicate 8 0, List.replicate 2 0, List.replicate 2 0, List.replicate 2 0, List.replicate 2 0, List.replicate 2 0, List.replicate 128 0, List.replicate 512 0, (0 : Int32), (0 : Int32))
def Q.mk (q0 : List Int32) (q1 : List Int32) (q2 : List Int32) (q3 : List Int32) (q4 : List Int32) (q5 : List Int32) (q6 : List Int32) (q7 : List Int32) (q8 : List Int32) (q9 : List Int32) (q10 : List Int32) (q11 : List Int32) (q12 : List Int32) (q13 : Int32) (q14 : Int32) : Q := (q0, q1, q2, q3, q4, q5, q6, q7, q8, q9, q10, q11, q12, q13, q14)
theorem own_f_st {q0 : List Int32} {q1 : List Int32} {q2 : List Int32} {q3 : List Int32} {q4 : List Int32} {q5 : List Int32} {q6 : List Int32} {q7 : List Int32} {q8 : List Int32} {q9 : List Int32} {q10 : List Int32} {q11 : List Int32} {q12 : List Int32} {q13 : Int32} {q14 : Int32} : (Q.mk q0 q1 q2 q3 q4 q5 q6 q7 q8 q9 q10 q11 q12 q13 q14).f_st = q0 := by have _h := trivial; exact rfl
theorem own_f_lk {q0 : List Int32} {q1 : List Int32} {q2 : List Int32} {q3 : List Int32} {q4 : List Int32} {q5 : List Int32} {q6 : List Int32} {q7 : List Int32} {q8 : List Int32} {q9 : List Int32} {q10 : List Int32} {q11 : List Int32} {q12 : List Int32} {q13 : Int32} {q14 : Int32} : (Q.mk q0 q1 q2 q3 q4 q5 q6 q7 q8 q9 q10 q11 q12 q13 q14).f_lk = q1 := by have _h := trivial; exact rfl
theorem own_f_tmo {q0 : List Int32} {q1 : List Int32} {q2 : List Int32} {q3 : List Int32} {q4 : List Int32} {q5 : List Int32} {q6 : List Int32} {q7 : List Int32} {q8 : List Int32} {q9 : List Int32} {q10 : List Int32} {q11 : List Int32} {q12 : List Int32} {q13 : Int32} {q14 : Int32} : (Q.mk q0 q1 q2 q3 q4 q5 q6 q7 q8 q9 q10 q11 q12 q13 q14).f_tmo = q2 := by have _h := trivial; exact rfl
theorem own_f_spin {q0 : List Int32} {q1 : List Int32} {q2 : List Int32} {q3 : List Int32} {q4 : List Int32} {q5 : List Int32} {q6 : List Int32} {q7 : List Int32} {q8 : List Int32} {q9 : List Int32} {q10 : List Int32} {q11 : List Int32} {q12 : List Int32} {q13 : Int32} {q14 : Int32} : (Q.mk q0 q1 q2 q3 q4 q5 q6 q7 q8 q9 q10 q11 q12 q13 q14).f_spin = q3 := by have _h := trivial; exact rfl
theorem own_f_nxt0 {q0 : List Int32} {q1 : List Int32} {q2 : List Int32} {q3 : List Int32} {q4 : List Int32} {q5 : List Int32} {q6 : List Int32} {q7 : List Int32} {q8 : List Int32} {q9 : List Int32} {q10 : List Int32} {q11 : List Int32} {q12 : List Int32} {q13 : Int32} {q14 : Int32} : (Q.mk q0 q1 q2 q3 q4 q5 q6 q7 q8 q9 q10 q11 q12 q13 q14).f_nxt0 = q4 := by have _h := trivial; exact rfl
theorem own_f_prv1 {q0 : List Int32} {q1 : List Int32} {q2 : List Int32} {q3 : List Int32} {q4 : List Int32} {q5 : List Int32} {q6 : List Int32} {q7 : List Int32} {q8 : List Int32} {q9 : List Int32} {q10 : List Int32} {q11 : List Int32} {q12 : List Int32} {q13 : Int32} {q14 : Int32} : (Q.mk q0 q1 q2 q3 q4 q5 q6 q7 q8 q9 q10 q11 q12 q13 q14).f_prv1 = q5 := by have _h := trivial; exact rfl
theorem own_f_head {q0 : List Int32} {q1 : List Int32} {q2 : List Int32} {q3 : List Int32} {q4 : List Int32} {q5 : List Int32} {q6 : List Int32} {q7 : List Int32} {q8 : List Int32} {q9 : List Int32} {q10 : List Int32} {q11 : List Int32} {q12 : List Int32} {q13 : Int32} {q14 : Int32} : (Q.mk q0 q1 q2 q3 q4 q5 q6 q7 q8 q9 q10 q11 q12 q13 q14).f_head = q6 := by have _h := trivial; exact rfl
theorem own_f_tail {q0 : List Int32} {q1 : List Int32} {q2 : List Int32} {q3 : List Int32} {q4 : List Int32} {q5 : List Int32} {q6 : List Int32} {q7 : List Int32} {q8 : List Int32} {q9 : List Int32} {q10 : List Int32} {q11 : List Int32} {q12 : List Int32} {q13 : Int32} {q14 : Int32} : (Q.mk q0 q1 q2 q3 q4 q5 q6 q7 q8 q9 q10 q11 q12 q13 q14).f_tail = q7 := by have _h := trivial; exact rfl
theorem own_f_len {q0 : List Int32} {q1 : List Int32} {q2 : List Int32} {q3 : List Int32} {q4 : List Int32} {q5 : List Int32} {q6 : List Int32} {q7 : List Int32} {q8 : List Int32} {q9 : List Int32} {q10 : List Int32} {q11 : List Int32} {q12 : List Int32} {q13 : Int32} {q14 : Int32} : (Q.mk q0 q1 q2 q3 q4 q5 q6 q7 q8 q9 q10 q11 q12 q13 q14).f_len = q8 := by have _h := trivial; exact rfl
theorem own_f_ent {q0 : List Int32} {q1 : List Int32} {q2 : List Int32} {q3 : List Int32} {q4 : List Int32} {q5 : List Int32} {q6 : List Int32} {q7 : List Int32} {q8 : List Int32} {q9 : List Int32} {q10 : List Int32} {q11 : List Int32} {q12 : List Int32} {q13 : Int32} {q14 : Int32} : (Q.mk q0 q1 q2 q3 q4 q5 q6 q7 q8 q9 q10 q11 q12 q13 q14).f_ent = q9 := by have _h := trivial; exact rfl
theorem own_f_aband {q0 : List Int32} {q1 : List Int32} {q2 : List Int32} {q3 : List Int32} {q4 : List Int32} {q5 : List Int32} {q6 : List Int32} {q7 : List Int32} {q8 : List Int32} {q9 : List Int32} {q10 : List Int32} {q11 : List Int32} {q12 : List Int32} {q13 : Int32} {q14 : Int32} : (Q.mk q0 q1 q2 q3 q4 q5 q6 q7 q8 q9 q10 q11 q12 q13 q14).f_aband = q10 := by have _h := trivial; exact rfl
theorem own_f_log {q0 : List Int32} {q1 : List Int32} {q2 : List Int32} {q3 : List Int32} {q4 : List Int32} {q5 : List Int32} {q6 : List Int32} {q7 : List Int32} {q8 : List Int32} {q9 : List Int32} {q10 : List Int32} {q11 : List Int32} {q12 : List Int32} {q13 : Int32} {q14 : Int32} : (Q.mk q0 q1 q2 q3 q4 q5 q6 q7 q8 q9 q10 q11 q12 q13 q14).f_log = q11 := by have _h := trivial; exact rfl
theorem own_f_hist {q0 : List Int32} {q1 : List Int32} {q2 : List Int32} {q3 : List Int32} {q4 : List Int32} {q5 : List Int32} {q6 : List Int32} {q7 : List Int32} {q8 : List Int32} {q9 : List Int32} {q10 : List Int32} {q11 : List Int32} {q12 : List Int32} {q13 : Int32} {q14 : Int32} : (Q.mk q0 q1 q2 q3 q4 q5 q6 q7 q8 q9 q10 q11 q12 q13 q14).f_hist = q12 := by have _h := trivial; exact rfl
theorem own_f_n {q0 : List Int32} {q1 : List Int32} {q2 : List Int32} {q3 : List Int32} {q4 : List Int32} {q5 : List Int32} {q6 : List Int32} {q7 : List Int32} {q8 : List Int32} {q9 : List Int32} {q10 : List Int32} {q11 : List Int32} {q12 : List Int32} {q13 : Int32} {q14 : Int32} : (Q.mk q0 q1 q2 q3 q4 q5 q6 q7 q8 q9 q10 q11 q12 q13 q14).f_n = q13 := by have _h := trivial; exact rfl
theorem own_f_clk {q0 : List Int32} {q1 : List Int32} {q2 : List Int32} {q3 : List Int32} {q4 : List Int32} {q5 : List Int32} {q6 : List Int32} {q7 : List Int32} {q8 : List Int32} {q9 : List Int32} {q10 : List Int32} {q11 : List Int32} {q12 : List Int32} {q13 : Int32} {q14 : Int32} : (Q.mk q0 q1 q2 q3 q4 q5 q6 q7 q8 q9 q10 q11 q12 q13 q14).f_clk = q14 := by have _h := trivial; exact rfl
theorem own_e_st (s : Q) (x : List Int32) : s.s_st x = Q.mk x s.f_lk s.f_tmo s.f_spin s.f_nxt0 s.f_prv1 s.f_head s.f_tail s.f_len s.f_ent s.f_aband s.f_log s.f_hist s.f_n s.f_clk := by have _h := trivial; exact rfl
theorem own_e_lk (s : Q) (x : List Int32) : s.s_lk x = Q.mk s.f_st x s.f_tmo s.f_spin s.f_nxt0 s.f_prv1 s.f_head s.f_tail s.f_len s.f_ent s.f_aband s.f_log s.f_hist s.f_n s.f_clk := by have _h := trivial; exact rfl
theorem own_e_tmo (s : Q) (x : List Int32) : s.s_tmo x = Q.mk s.f_st s.f_lk x s.f_spin s.f_nxt0 s.f_prv1 s.f_head s.f_tail s.f_len s.f_ent s.f_aband s.f_log s.f_hist s.f_n s.f_clk := by have _h := trivial; exact rfl
theorem own_e_spin (s : Q) (x : List Int32) : s.s_spin x = Q.mk s.f_st s.f_lk s.f_tmo x s.f_nxt0 s.f_prv1 s.f_head s.f_tail s.f_len s.f_ent s.f_aband s.f_log s.f_hist s.f_n s.f_clk := by have _h := trivial; exact rfl
theorem own_e_nxt0 (s : Q) (x : List Int32) : s.s_nxt0 x = Q.mk s.f_st s.f_lk s.f_tmo s.f_spin x s.f_prv1 s.f_head s.f_tail s.f_len s.f_ent s.f_aband s.f_log s.f_hist s.f_n s.f_clk := by have _h := trivial; exact rfl
theorem own_e_prv1 (s : Q) (x : List Int32) : s.s_prv1 x = Q.mk s.f_st s.f_lk s.f_tmo s.f_spin s.f_nxt0 x s.f_head s.f_tail s.f_len s.f_ent s.f_aband s.f_log s.f_hist s.f_n s.f_clk := by have _h := trivial; exact rfl
theorem own_e_head (s : Q) (x : List Int32) : s.s_head x = Q.mk s.f_st s.f_lk s.f_tmo s.f_spin s.f_nxt0 s.f_prv1 x s.f_tail s.f_len s.f_ent s.f_aband s.f_log s.f_hist s.f_n s.f_clk := by have _h := trivial; exact rfl
theorem own_e_tail (s : Q) (x : List Int32) : s.s_tail x = Q.mk s.f_st s.f_lk s.f_tmo s.f_spin s.f_nxt0 s.f_prv1 s.f_head x s.f_len s.f_ent s.f_aband s.f_log s.f_hist s.f_n s.f_clk := by have _h := trivial; exact rfl
theorem own_e_len (s : Q) (x : List Int32) : s.s_len x = Q.mk s.f_st s.f_lk s.f_tmo s.f_spin s.f_nxt0 s.f_prv1 s.f_head s.f_tail x s.f_ent s.f_aband s.f_log s.f_hist s.f_n s.f_clk := by have _h := trivial; exact rfl
theorem own_e_ent (s : Q) (x : List Int32) : s.s_ent x = Q.mk s.f_st s.f_lk s.f_tmo s.f_spin s.f_nxt0 s.f_prv1 s.f_head s.f_tail s.f_len x s.f_aband s.f_log s.f_hist s.f_n s.f_clk := by have _h := trivial; exact rfl
theorem own_e_aband (s : Q) (x : List Int32) : s.s_aband x = Q.mk s.f_st s.f_lk s.f_tmo s.f_spin s.f_nxt0 s.f_prv1 s.f_head s.f_tail s.f_len s.f_ent x s.f_log s.f_hist s.f_n s.f_clk := by have _h := trivial; exact rfl
theorem own_e_log (s : Q) (x : List Int32) : s.s_log x = Q.mk s.f_st s.f_lk s.f_tmo s.f_spin s.f_nxt0 s.f_prv1 s.f_head s.f_tail s.f_len s.f_ent s.f_aband x s.f_hist s.f_n s.f_clk := by have _h := trivial; exact rfl
theorem own_e_hist (s : Q) (x : List Int32) : s.s_hist x = Q.mk s.f_st s.f_lk s.f_tmo s.f_spin s.f_nxt0 s.f_prv1 s.f_head s.f_tail s.f_len s.f_ent s.f_aband s.f_log x s.f_n s.f_clk := by have _h := trivial; exact rfl
theorem own_e_n (s : Q) (x : Int32) : s.s_n x = Q.mk s.f_st s.f_lk s.f_tmo s.f_spin s.f_nxt0 s.f_prv1 s.f_head s.f_tail s.f_len s.f_ent s.f_aband s.f_log s.f_hist x s.f_clk := by have _h := trivial; exact rfl
theorem own_e_clk (s : Q) (x : Int32) : s.s_clk x = Q.mk s.f_st s.f_lk s.f_tmo s.f_spin s.f_nxt0 s.f_prv1 s.f_head s.f_tail s.f_len s.f_ent s.f_aband s.f_log s.f_hist s.f_n x := by have _h := trivial; exact rfl
theorem own_z_st : Q0.f_st = List.replicate 8 0 := by have _h := trivial; exact rfl
theorem own_z_lk : Q0.f_lk = List.replicate 8 0 := by have _h := trivial; exact rfl
theorem own_z_tmo : Q0.f_tmo = List.replicate 8 0 := by have _h := trivial; exact rfl
theorem own_z_spin : Q0.f_spin = List.replicate 8 0 := by have _h := trivial; exact rfl
theorem own_z_nxt0 : Q0.f_nxt0 = List.replicate 8 0 := by have _h := trivial; exact rfl
theorem own_z_prv1 : Q0.f_prv1 = List.replicate 8 0 := by have _h := trivial; exact rfl
theorem own_z_head : Q0.f_head = List.replicate 2 0 := by have _h := trivial; exact rfl
theorem own_z_tail : Q0.f_tail = List.replicate 2 0 := by have _h := trivial; exact rfl
theorem own_z_len : Q0.f_len = List.replicate 2 0 := by have _h := trivial; exact rfl
theorem own_z_ent : Q0.f_ent = List.replicate 2 0 := by have _h := trivial; exact rfl
theorem own_z_aband : Q0.f_aband = List.replicate 2 0 := by have _h := trivial; exact rfl
theorem own_z_log : Q0.f_log = List.replicate 128 0 := by have _h := trivial; exact rfl
theorem own_z_hist : Q0.f_hist = List.replicate 512 0 := by have _h := trivial; exact rfl
theorem own_z_n : Q0.f_n = (0 : Int32) := by have _h := trivial; exact rfl
theorem own_z_clk : Q0.f_clk = (0 : Int32) := by have _h := trivial; exact rfl
abbrev W0 (R : AHeap) : AHeap := R
def own_cells1 (q0 : List Int32) (q1 : List Int32) (q2 : List Int32) (q3 : List Int32) (q4 : List Int32) (q5 : List Int32) (q6 : List Int32) (q7 : List Int32) (q8 : List Int32) (q9 : List Int32) (q10 : List Int32) (q11 : List Int32) (q12 : List Int32) (q13 : Int32) (q14 : Int32) (R : AHeap) : AHeap := .inl [.ref 1, .ref 2, .ref 3, .ref 4, .ref 5, .ref 6, .ref 7, .ref 8, .ref 9, .ref 10, .ref 11, .ref 12, .ref 13, .int q13, .int q14] ::
  .inr (.inl (1, q0)) ::
  .inr (.inl (1, q1)) ::
  .inr (.inl (1, q2)) ::
  .inr (.inl (1, q3)) ::
  .inr (.inl (1, q4)) ::
  .inr (.inl (1, q5)) ::
  .inr (.inl (1, q6)) ::
  .inr (.inl (1, q7)) ::
  .inr (.inl (1, q8)) ::
  .inr (.inl (1, q9)) ::
  .inr (.inl (1, q10)) ::
  .inr (.inl (1, q11)) ::
  .inr (.inl (1, q12)) ::
  R
def C1 (q0 : List Int32) (q1 : List Int32) (q2 : List Int32) (q3 : List Int32) (q4 : List Int32) (q5 : List Int32) (q6 : List Int32) (q7 : List Int32) (q8 : List Int32) (q9 : List Int32) (q10 : List Int32) (q11 : List Int32) (q12 : List Int32) (q13 : Int32) (q14 : Int32) (R : AHeap) : AHeap := own_cells1 q0 q1 q2 q3 q4 q5 q6 q7 q8 q9 q10 q11 q12 q13 q14 R
abbrev W1 (s : Q) (R : AHeap) : AHeap := C1 s.f_st s.f_lk s.f_tmo s.f_spin s.f_nxt0 s.f_prv1 s.f_head s.f_tail s.f_len s.f_ent s.f_aband s.f_log s.f_hist s.f_n s.f_clk R
theorem own_g1_st {q0 : List Int32} {q1 : List Int32} {q2 : List Int32} {q3 : List Int32} {q4 : List Int32} {q5 : List Int32} {q6 : List Int32} {q7 : List Int32} {q8 : List Int32} {q9 : List Int32} {q10 : List Int32} {q11 : List Int32} {q12 : List Int32} {q13 : Int32} {q14 : Int32} {R : AHeap} : getC (C1 q0 q1 q2 q3 q4 q5 q6 q7 q8 q9 q10 q11 q12 q13 q14 R) 0 0 = some (.ref 1) := rfl
theorem own_a1_st {q0 : List Int32} {q1 : List Int32} {q2 : List Int32} {q3 : List Int32} {q4 : List Int32} {q5 : List Int32} {q6 : List Int32} {q7 : List Int32} {q8 : List Int32} {q9 : List Int32} {q10 : List Int32} {q11 : List Int32} {q12 : List Int32} {q13 : Int32} {q14 : Int32} {R : AHeap} : (C1 q0 q1 q2 q3 q4 q5 q6 q7 q8 q9 q10 q11 q12 q13 q14 R)[1]? = some (.inr (.inl (1, q0))) := rfl
theorem own_s1_st {q0 : List Int32} {q1 : List Int32} {q2 : List Int32} {q3 : List Int32} {q4 : List Int32} {q5 : List Int32} {q6 : List Int32} {q7 : List Int32} {q8 : List Int32} {q9 : List Int32} {q10 : List Int32} {q11 : List Int32} {q12 : List Int32} {q13 : Int32} {q14 : Int32} {R : AHeap} {x : List Int32} : (C1 q0 q1 q2 q3 q4 q5 q6 q7 q8 q9 q10 q11 q12 q13 q14 R).set 1 (.inr (.inl (1, x))) = (C1 x q1 q2 q3 q4 q5 q6 q7 q8 q9 q10 q11 q12 q13 q14 R) := rfl
theorem own_g1_lk {q0 : List Int32} {q1 : List Int32} {q2 : List Int32} {q3 : List Int32} {q4 : List Int32} {q5 : List Int32} {q6 : List Int32} {q7 : List Int32} {q8 : List Int32} {q9 : List Int32} {q10 : List Int32} {q11 : List Int32} {q12 : List Int32} {q13 : Int32} {q14 : Int32} {R : AHeap} : getC (C1 q0 q1 q2 q3 q4 q5 q6 q7 q8 q9 q10 q11 q12 q13 q14 R) 0 1 = some (.ref 2) := rfl
theorem own_a1_lk {q0 : List Int32} {q1 : List Int32} {q2 : List Int32} {q3 : List Int32} {q4 : List Int32} {q5 : List Int32} {q6 : List Int32} {q7 : List Int32} {q8 : List Int32} {q9 : List Int32} {q10 : List Int32} {q11 : List Int32} {q12 : List Int32} {q13 : Int32} {q14 : Int32} {R : AHeap} : (C1 q0 q1 q2 q3 q4 q5 q6 q7 q8 q9 q10 q11 q12 q13 q14 R)[2]? = some (.inr (.inl (1, q1))) := rfl
theorem own_s1_lk {q0 : List Int32} {q1 : List Int32} {q2 : List Int32} {q3 : List Int32} {q4 : List Int32} {q5 : List Int32} {q6 : List Int32} {q7 : List Int32} {q8 : List Int32} {q9 : List Int32} {q10 : List Int32} {q11 : List Int32} {q12 : List Int32} {q13 : Int32} {q14 : Int32} {R : AHeap} {x : List Int32} : (C1 q0 q1 q2 q3 q4 q5 q6 q7 q8 q9 q10 q11 q12 q13 q14 R).set 2 (.inr (.inl (1, x))) = (C1 q0 x q2 q3 q4 q5 q6 q7 q8 q9 q10 q11 q12 q13 q14 R) := rfl
theorem own_g1_tmo {q0 : List Int32} {q1 : List Int32} {q2 : List Int32} {q3 : List Int32} {q4 : List Int32} {q5 : List Int32} {q6 : List Int32} {q7 : List Int32} {q8 : List Int32} {q9 : List Int32} {q10 : List Int32} {q11 : List Int32} {q12 : List Int32} {q13 : Int32} {q14 : Int32} {R : AHeap} : getC (C1 q0 q1 q2 q3 q4 q5 q6 q7 q8 q9 q10 q11 q12 q13 q14 R) 0 2 = some (.ref 3) := rfl
theorem own_a1_tmo {q0 : List Int32} {q1 : List Int32} {q2 : List Int32} {q3 : List Int32} {q4 : List Int32} {q5 : List Int32} {q6 : List Int32} {q7 : List Int32} {q8 : List Int32} {q9 : List Int32} {q10 : List Int32} {q11 : List Int32} {q12 : List Int32} {q13 : Int32} {q14 : Int32} {R : AHeap} : (C1 q0 q1 q2 q3 q4 q5 q6 q7 q8 q9 q10 q11 q12 q13 q14 R)[3]? = some (.inr (.inl (1, q2))) := rfl
theorem own_s1_tmo {q0 : List Int32} {q1 : List Int32} {q2 : List Int32} {q3 : List Int32} {q4 : List Int32} {q5 : List Int32} {q6 : List Int32} {q7 : List Int32} {q8 : List Int32} {q9 : List Int32} {q10 : List Int32} {q11 : List Int32} {q12 : List Int32} {q13 : Int32} {q14 : Int32} {R : AHeap} {x : List Int32} : (C1 q0 q1 q2 q3 q4 q5 q6 q7 q8 q9 q10 q11 q12 q13 q14 R).set 3 (.inr (.inl (1, x))) = (C1 q0 q1 x q3 q4 q5 q6 q7 q8 q9 q10 q11 q12 q13 q14 R) := rfl
theorem own_g1_spin {q0 : List Int32} {q1 : List Int32} {q2 : List Int32} {q3 : List Int32} {q4 : List Int32} {q5 : List Int32} {q6 : List Int32} {q7 : List Int32} {q8 : List Int32} {q9 : List Int32} {q10 : List Int32} {q11 : List Int32} {q12 : List Int32} {q13 : Int32} {q14 : Int32} {R : AHeap} : getC (C1 q0 q1 q2 q3 q4 q5 q6 q7 q8 q9 q10 q11 q12 q13 q14 R) 0 3 = some (.ref 4) := rfl
theorem own_a1_spin {q0 : List Int32} {q1 : List Int32} {q2 : List Int32} {q3 : List Int32} {q4 : List Int32} {q5 : List Int32} {q6 : List Int32} {q7 : List Int32} {q8 : List Int32} {q9 : List Int32} {q10 : List Int32} {q11 : List Int32} {q12 : List Int32} {q13 : Int32} {q14 : Int32} {R : AHeap} : (C1 q0 q1 q2 q3 q4 q5 q6 q7 q8 q9 q10 q11 q12 q13 q14 R)[4]? = some (.inr (.inl (1, q3))) := rfl
theorem own_s1_spin {q0 : List Int32} {q1 : List Int32} {q2 : List Int32} {q3 : List Int32} {q4 : List Int32} {q5 : List Int32} {q6 : List Int32} {q7 : List Int32} {q8 : List Int32} {q9 : List Int32} {q10 : List Int32} {q11 : List Int32} {q12 : List Int32} {q13 : Int32} {q14 : Int32} {R : AHeap} {x : List Int32} : (C1 q0 q1 q2 q3 q4 q5 q6 q7 q8 q9 q10 q11 q12 q13 q14 R).set 4 (.inr (.inl (1, x))) = (C1 q0 q1 q2 x q4 q5 q6 q7 q8 q9 q10 q11 q12 q13 q14 R) := rfl
theorem own_g1_nxt0 {q0 : List Int32} {q1 : List Int32} {q2 : List Int32} {q3 : List Int32} {q4 : List Int32} {q5 : List Int32} {q6 : List Int32} {q7 : List Int32} {q8 : List Int32} {q9 : List Int32} {q10 : List Int32} {q11 : List Int32} {q12 : List Int32} {q13 : Int32} {q14 : Int32} {R : AHeap} : getC (C1 q0 q1 q2 q3 q4 q5 q6 q7 q8 q9 q10 q11 q12 q13 q14 R) 0 4 = some (.ref 5) := rfl
theorem own_a1_nxt0 {q0 : List Int32} {q1 : List Int32} {q2 : List Int32} {q3 : List Int32} {q4 : List Int32} {q5 : List Int32} {q6 : List Int32} {q7 : List Int32} {q8 : List Int32} {q9 : List Int32} {q10 : List Int32} {q11 : List Int32} {q12 : List Int32} {q13 : Int32} {q14 : Int32} {R : AHeap} : (C1 q0 q1 q2 q3 q4 q5 q6 q7 q8 q9 q10 q11 q12 q13 q14 R)[5]? = some (.inr (.inl (1, q4))) := rfl
theorem own_s1_nxt0 {q0 : List Int32} {q1 : List Int32} {q2 : List Int32} {q3 : List Int32} {q4 : List Int32} {q5 : List Int32} {q6 : List Int32} {q7 : List Int32} {q8 : List Int32} {q9 : List Int32} {q10 : List Int32} {q11 : List Int32} {q12 : List Int32} {q13 : Int32} {q14 : Int32} {R : AHeap} {x : List Int32} : (C1 q0 q1 q2 q3 q4 q5 q6 q7 q8 q9 q10 q11 q12 q13 q14 R).set 5 (.inr (.inl (1, x))) = (C1 q0 q1 q2 q3 x q5 q6 q7 q8 q9 q10 q11 q12 q13 q14 R) := rfl
theorem own_g1_prv1 {q0 : List Int32} {q1 : List Int32} {q2 : List Int32} {q3 : List Int32} {q4 : List Int32} {q5 : List Int32} {q6 : List Int32} {q7 : List Int32} {q8 : List Int32} {q9 : List Int32} {q10 : List Int32} {q11 : List Int32} {q12 : List Int32} {q13 : Int32} {q14 : Int32} {R : AHeap} : getC (C1 q0 q1 q2 q3 q4 q5 q6 q7 q8 q9 q10 q11 q12 q13 q14 R) 0 5 = some (.ref 6) := rfl
theorem own_a1_prv1 {q0 : List Int32} {q1 : List Int32} {q2 : List Int32} {q3 : List Int32} {q4 : List Int32} {q5 : List Int32} {q6 : List Int32} {q7 : List Int32} {q8 : List Int32} {q9 : List Int32} {q10 : List Int32} {q11 : List Int32} {q12 : List Int32} {q13 : Int32} {q14 : Int32} {R : AHeap} : (C1 q0 q1 q2 q3 q4 q5 q6 q7 q8 q9 q10 q11 q12 q13 q14 R)[6]? = some (.inr (.inl (1, q5))) := rfl
theorem own_s1_prv1 {q0 : List Int32} {q1 : List Int32} {q2 : List Int32} {q3 : List Int32} {q4 : List Int32} {q5 : List Int32} {q6 : List Int32} {q7 : List Int32} {q8 : List Int32} {q9 : List Int32} {q10 : List Int32} {q11 : List Int32} {q12 : List Int32} {q13 : Int32} {q14 : Int32} {R : AHeap} {x : List Int32} : (C1 q0 q1 q2 q3 q4 q5 q6 q7 q8 q9 q10 q11 q12 q13 q14 R).set 6 (.inr (.inl (1, x))) = (C1 q0 q1 q2 q3 q4 x q6 q7 q8 q9 q10 q11 q12 q13 q14 R) := rfl
theorem own_g1_head {q0 : List Int32} {q1 : List Int32} {q2 : List Int32} {q3 : List Int32} {q4 : List Int32} {q5 : List Int32} {q6 : List Int32} {q7 : List Int32} {q8 : List Int32} {q9 : List Int32} {q10 : List Int32} {q11 : List Int32} {q12 : List Int32} {q13 : Int32} {q14 : Int32} {R : AHeap} : getC (C1 q0 q1 q2 q3 q4 q5 q6 q7 q8 q9 q10 q11 q12 q13 q14 R) 0 6 = some (.ref 7) := rfl
theorem own_a1_head {q0 : List Int32} {q1 : List Int32} {q2 : List Int32} {q3 : List Int32} {q4 : List Int32} {q5 : List Int32} {q6 : List Int32} {q7 : List Int32} {q8 : List Int32} {q9 : List Int32} {q10 : List Int32} {q11 : List Int32} {q12 : List Int32} {q13 : Int32} {q14 : Int32} {R : AHeap} : (C1 q0 q1 q2 q3 q4 q5 q6 q7 q8 q9 q10 q11 q12 q13 q14 R)[7]? = some (.inr (.inl (1, q6))) := rfl
theorem own_s1_head {q0 : List Int32} {q1 : List Int32} {q2 : List Int32} {q3 : List Int32} {q4 : List Int32} {q5 : List Int32} {q6 : List Int32} {q7 : List Int32} {q8 : List Int32} {q9 : List Int32} {q10 : List Int32} {q11 : List Int32} {q12 : List Int32} {q13 : Int32} {q14 : Int32} {R : AHeap} {x : List Int32} : (C1 q0 q1 q2 q3 q4 q5 q6 q7 q8 q9 q10 q11 q12 q13 q14 R).set 7 (.inr (.inl (1, x))) = (C1 q0 q1 q2 q3 q4 q5 x q7 q8 q9 q10 q11 q12 q13 q14 R) := rfl
theorem own_g1_tail {q0 : List Int32} {q1 : List Int32} {q2 : List Int32} {q3 : List Int32} {q4 : List Int32} {q5 : List Int32} {q6 : List Int32} {q7 : List Int32} {q8 : List Int32} {q9 : List Int32} {q10 : List Int32} {q11 : List Int32} {q12 : List Int32} {q13 : Int32} {q14 : Int32} {R : AHeap} : getC (C1 q0 q1 q2 q3 q4 q5 q6 q7 q8 q9 q10 q11 q12 q13 q14 R) 0 7 = some (.ref 8) := rfl
theorem own_a1_tail {q0 : List Int32} {q1 : List Int32} {q2 : List Int32} {q3 : List Int32} {q4 : List Int32} {q5 : List Int32} {q6 : List Int32} {q7 : List Int32} {q8 : List Int32} {q9 : List Int32} {q10 : List Int32} {q11 : List Int32} {q12 : List Int32} {q13 : Int32} {q14 : Int32} {R : AHeap} : (C1 q0 q1 q2 q3 q4 q5 q6 q7 q8 q9 q10 q11 q12 q13 q14 R)[8]? = some (.inr (.inl (1, q7))) := rfl
theorem own_s1_tail {q0 : List Int32} {q1 : List Int32} {q2 : List Int32} {q3 : List Int32} {q4 : List Int32} {q5 : List Int32} {q6 : List Int32} {q7 : List Int32} {q8 : List Int32} {q9 : List Int32} {q10 : List Int32} {q11 : List Int32} {q12 : List Int32} {q13 : Int32} {q14 : Int32} {R : AHeap} {x : List Int32} : (C1 q0 q1 q2 q3 q4 q5 q6 q7 q8 q9 q10 q11 q12 q13 q14 R).set 8 (.inr (.inl (1, x))) = (C1 q0 q1 q2 q3 q4 q5 q6 x q8 q9 q10 q11 q12 q13 q14 R) := rfl
theorem own_g1_len {q0 : List Int32} {q1 : List Int32} {q2 : List Int32} {q3 : List Int32} {q4 : List Int32} {q5 : List Int32} {q6 : List Int32} {q7 : List Int32} {q8 : List Int32} {q9 : List Int32} {q10 : List Int32} {q11 : List Int32} {q12 : List Int32} {q13 : Int32} {q14 : Int32} {R : AHeap} : getC (C1 q0 q1 q2 q3 q4 q5 q6 q7 q8 q9 q10 q11 q12 q13 q14 R) 0 8 = some (.ref 9) := rfl
theorem own_a1_len {q0 : List Int32} {q1 : List Int32} {q2 : List Int32} {q3 : List Int32} {q4 : List Int32} {q5 : List Int32} {q6 : List Int32} {q7 : List Int32} {q8 : List Int32} {q9 : List Int32} {q10 : List Int32} {q11 : List Int32} {q12 : List Int32} {q13 : Int32} {q14 : Int32} {R : AHeap} : (C1 q0 q1 q2 q3 q4 q5 q6 q7 q8 q9 q10 q11 q12 q13 q14 R)[9]? = some (.inr (.inl (1, q8))) := rfl
theorem own_s1_len {q0 : List Int32} {q1 : List Int32} {q2 : List Int32} {q3 : List Int32} {q4 : List Int32} {q5 : List Int32} {q6 : List Int32} {q7 : List Int32} {q8 : List Int32} {q9 : List Int32} {q10 : List Int32} {q11 : List Int32} {q12 : List Int32} {q13 : Int32} {q14 : Int32} {R : AHeap} {x : List Int32} : (C1 q0 q1 q2 q3 q4 q5 q6 q7 q8 q9 q10 q11 q12 q13 q14 R).set 9 (.inr (.inl (1, x))) = (C1 q0 q1 q2 q3 q4 q5 q6 q7 x q9 q10 q11 q12 q13 q14 R) := rfl
theorem own_g1_ent {q0 : List Int32} {q1 : List Int32} {q2 : List Int32} {q3 : List Int32} {q4 : List Int32} {q5 : List Int32} {q6 : List Int32} {q7 : List Int32} {q8 : List Int32} {q9 : List Int32} {q10 : List Int32} {q11 : List Int32} {q12 : List Int32} {q13 : Int32} {q14 : Int32} {R : AHeap} : getC (C1 q0 q1 q2 q3 q4 q5 q6 q7 q8 q9 q10 q11 q12 q13 q14 R) 0 9 = some (.ref 10) := rfl
theorem own_a1_ent {q0 : List Int32} {q1 : List Int32} {q2 : List Int32} {q3 : List Int32} {q4 : List Int32} {q5 : List Int32} {q6 : List Int32} {q7 : List Int32} {q8 : List Int32} {q9 : List Int32} {q10 : List Int32} {q11 : List Int32} {q12 : List Int32} {q13 : Int32} {q14 : Int32} {R : AHeap} : (C1 q0 q1 q2 q3 q4 q5 q6 q7 q8 q9 q10 q11 q12 q13 q14 R)[10]? = some (.inr (.inl (1, q9))) := rfl
theorem own_s1_ent {q0 : List Int32} {q1 : List Int32} {q2 : List Int32} {q3 : List Int32} {q4 : List Int32} {q5 : List Int32} {q6 : List Int32} {q7 : List Int32} {q8 : List Int32} {q9 : List Int32} {q10 : List Int32} {q11 : List Int32} {q12 : List Int32} {q13 : Int32} {q14 : Int32} {R : AHeap} {x : List Int32} : (C1 q0 q1 q2 q3 q4 q5 q6 q7 q8 q9 q10 q11 q12 q13 q14 R).set 10 (.inr (.inl (1, x))) = (C1 q0 q1 q2 q3 q4 q5 q6 q7 q8 x q10 q11 q12 q13 q14 R) := rfl
theorem own_g1_aband {q0 : List Int32} {q1 : List Int32} {q2 : List Int32} {q3 : List Int32} {q4 : List Int32} {q5 : List Int32} {q6 : List Int32} {q7 : List Int32} {q8 : List Int32} {q9 : List Int32} {q10 : List Int32} {q11 : List Int32} {q12 : List Int32} {q13 : Int32} {q14 : Int32} {R : AHeap} : getC (C1 q0 q1 q2 q3 q4 q5 q6 q7 q8 q9 q10 q11 q12 q13 q14 R) 0 10 = some (.ref 11) := rfl
theorem own_a1_aband {q0 : List Int32} {q1 : List Int32} {q2 : List Int32} {q3 : List Int32} {q4 : List Int32} {q5 : List Int32} {q6 : List Int32} {q7 : List Int32} {q8 : List Int32} {q9 : List Int32} {q10 : List Int32} {q11 : List Int32} {q12 : List Int32} {q13 : Int32} {q14 : Int32} {R : AHeap} : (C1 q0 q1 q2 q3 q4 q5 q6 q7 q8 q9 q10 q11 q12 q13 q14 R)[11]? = some (.inr (.inl (1, q10))) := rfl
theorem own_s1_aband {q0 : List Int32} {q1 : List Int32} {q2 : List Int32} {q3 : List Int32} {q4 : List Int32} {q5 : List Int32} {q6 : List Int32} {q7 : List Int32} {q8 : List Int32} {q9 : List Int32} {q10 : List Int32} {q11 : List Int32} {q12 : List Int32} {q13 : Int32} {q14 : Int32} {R : AHeap} {x : List Int32} : (C1 q0 q1 q2 q3 q4 q5 q6 q7 q8 q9 q10 q11 q12 q13 q14 R).set 11 (.inr (.inl (1, x))) = (C1 q0 q1 q2 q3 q4 q5 q6 q7 q8 q9 x q11 q12 q13 q14 R) := rfl
theorem own_g1_log {q0 : List Int32} {q1 : List Int32} {q2 : List Int32} {q3 : List Int32} {q4 : List Int32} {q5 : List Int32} {q6 : List Int32} {q7 : List Int32} {q8 : List Int32} {q9 : List Int32} {q10 : List Int32} {q11 : List Int32} {q12 : List Int32} {q13 : Int32} {q14 : Int32} {R : AHeap} : getC (C1 q0 q1 q2 q3 q4 q5 q6 q7 q8 q9 q10 q11 q12 q13 q14 R) 0 11 = some (.ref 12) := rfl
theorem own_a1_log {q0 : List Int32} {q1 : List Int32} {q2 : List Int32} {q3 : List Int32} {q4 : List Int32} {q5 : List Int32} {q6 : List Int32} {q7 : List Int32} {q8 : List Int32} {q9 : List Int32} {q10 : List Int32} {q11 : List Int32} {q12 : List Int32} {q13 : Int32} {q14 : Int32} {R : AHeap} : (C1 q0 q1 q2 q3 q4 q5 q6 q7 q8 q9 q10 q11 q12 q13 q14 R)[12]? = some (.inr (.inl (1, q11))) := rfl
theorem own_s1_log {q0 : List Int32} {q1 : List Int32} {q2 : List Int32} {q3 : List Int32} {q4 : List Int32} {q5 : List Int32} {q6 : List Int32} {q7 : List Int32} {q8 : List Int32} {q9 : List Int32} {q10 : List Int32} {q11 : List Int32} {q12 : List Int32} {q13 : Int32} {q14 : Int32} {R : AHeap} {x : List Int32} : (C1 q0 q1 q2 q3 q4 q5 q6 q7 q8 q9 q10 q11 q12 q13 q14 R).set 12 (.inr (.inl (1, x))) = (C1 q0 q1 q2 q3 q4 q5 q6 q7 q8 q9 q10 x q12 q13 q14 R) := rfl
theorem own_g1_hist {q0 : List Int32} {q1 : List Int32} {q2 : List Int32} {q3 : List Int32} {q4 : List Int32} {q5 : List Int32} {q6 : List Int32} {q7 : List Int32} {q8 : List Int32} {q9 : List Int32} {q10 : List Int32} {q11 : List Int32} {q12 : List Int32} {q13 : Int32} {q14 : Int32} {R : AHeap} : getC (C1 q0 q1 q2 q3 q4 q5 q6 q7 q8 q9 q10 q11 q12 q13 q14 R) 0 12 = some (.ref 13) := rfl
theorem own_a1_hist {q0 : List Int32} {q1 : List Int32} {q2 : List Int32} {q3 : List Int32} {q4 : List Int32} {q5 : List Int32} {q6 : List Int32} {q7 : List Int32} {q8 : List Int32} {q9 : List Int32} {q10 : List Int32} {q11 : List Int32} {q12 : List Int32} {q13 : Int32} {q14 : Int32} {R : AHeap} : (C1 q0 q1 q2 q3 q4 q5 q6 q7 q8 q9 q10 q11 q12 q13 q14 R)[13]? = some (.inr (.inl (1, q12))) := rfl
theorem own_s1_hist {q0 : List Int32} {q1 : List Int32} {q2 : List Int32} {q3 : List Int32} {q4 : List Int32} {q5 : List Int32} {q6 : List Int32} {q7 : List Int32} {q8 : List Int32} {q9 : List Int32} {q10 : List Int32} {q11 : List Int32} {q12 : List Int32} {q13 : Int32} {q14 : Int32} {R : AHeap} {x : List Int32} : (C1 q0 q1 q2 q3 q4 q5 q6 q7 q8 q9 q10 q11 q12 q13 q14 R).set 13 (.inr (.inl (1, x))) = (C1 q0 q1 q2 q3 q4 q5 q6 q7 q8 q9 q10 q11 x q13 q14 R) := rfl
theorem own_g1_n {q0 : List Int32} {q1 : List Int32} {q2 : List Int32} {q3 : List Int32} {q4 : List Int32} {q5 : List Int32} {q6 : List Int32} {q7 : List Int32} {q8 : List Int32} {q9 : List Int32} {q10 : List Int32} {q11 : List Int32} {q12 : List Int32} {q13 : Int32} {q14 : Int32} {R : AHeap} : getC (C1 q0 q1 q2 q3 q4 q5 q6 q7 q8 q9 q10 q11 q12 q13 q14 R) 0 13 = some (.int q13) := rfl
theorem own_p1_n {q0 : List Int32} {q1 : List Int32} {q2 : List Int32} {q3 : List Int32} {q4 : List Int32} {q5 : List Int32} {q6 : List Int32} {q7 : List Int32} {q8 : List Int32} {q9 : List Int32} {q10 : List Int32} {q11 : List Int32} {q12 : List Int32} {q13 : Int32} {q14 : Int32} {R : AHeap} {k : Nat} {x : Int32} : putC own_P k (C1 q0 q1 q2 q3 q4 q5 q6 q7 q8 q9 q10 q11 q12 q13 q14 R) 0 13 (.int x) = some (C1 q0 q1 q2 q3 q4 q5 q6 q7 q8 q9 q10 q11 q12 x q14 R) := rfl
theorem own_g1_clk {q0 : List Int32} {q1 : List Int32} {q2 : List Int32} {q3 : List Int32} {q4 : List Int32} {q5 : List Int32} {q6 : List Int32} {q7 : List Int32} {q8 : List Int32} {q9 : List Int32} {q10 : List Int32} {q11 : List Int32} {q12 : List Int32} {q13 : Int32} {q14 : Int32} {R : AHeap} : getC (C1 q0 q1 q2 q3 q4 q5 q6 q7 q8 q9 q10 q11 q12 q13 q14 R) 0 14 = some (.int q14) := rfl
theorem own_p1_clk {q0 : List Int32} {q1 : List Int32} {q2 : List Int32} {q3 : List Int32} {q4 : List Int32} {q5 : List Int32} {q6 : List Int32} {q7 : List Int32} {q8 : List Int32} {q9 : List Int32} {q10 : List Int32} {q11 : List Int32} {q12 : List Int32} {q13 : Int32} {q14 : Int32} {R : AHeap} {k : Nat} {x : Int32} : putC own_P k (C1 q0 q1 q2 q3 q4 q5 q6 q7 q8 q9 q10 q11 q12 q13 q14 R) 0 14 (.int x) = some (C1 q0 q1 q2 q3 q4 q5 q6 q7 q8 q9 q10 q11 q12 q13 x R) := rfl
def Q.len (s : Q) : List Nat := [s.f_st.length, s.f_lk.length, s.f_tmo.length, s.f_spin.length, s.f_nxt0.length, s.f_prv1.length, s.f_head.length, s.f_tail.length, s.f_len.length, s.f_ent.length, s.f_aband.length, s.f_log.length, s.f_hist.length]
theorem own_lenmk {q0 : List Int32} {q1 : List Int32} {q2 : List Int32} {q3 : List Int32} {q4 : List Int32} {q5 : List Int32} {q6 : List Int32} {q7 : List Int32} {q8 : List Int32} {q9 : List Int32} {q10 : List Int32} {q11 : List Int32} {q12 : List Int32} {q13 : Int32} {q14 : Int32} : (Q.mk q0 q1 q2 q3 q4 q5 q6 q7 q8 q9 q10 q11 q12 q13 q14).len = [q0.length, q1.length, q2.length, q3.length, q4.length, q5.length, q6.length, q7.length, q8.length, q9.length, q10.length, q11.length, q12.length] := by have _h := trivial; exact rfl
theorem own_objN : own_P.objN = 15 := rfl
theorem own_mk1 {q0 : List Int32} {q1 : List Int32} {q2 : List Int32} {q3 : List Int32} {q4 : List Int32} {q5 : List Int32} {q6 : List Int32} {q7 : List Int32} {q8 : List Int32} {q9 : List Int32} {q10 : List Int32} {q11 : List Int32} {q12 : List Int32} {q13 : Int32} {q14 : Int32} {R : AHeap} : W1 (Q.mk q0 q1 q2 q3 q4 q5 q6 q7 q8 q9 q10 q11 q12 q13 q14) R = C1 q0 q1 q2 q3 q4 q5 q6 q7 q8 q9 q10 q11 q12 q13 q14 R := rfl
abbrev j_init_l135_K (res : Q) (out : Option Value × AHeap) : Prop := Eval own_P 1 175 [some (.ref 0), none, none, none] [] (W1 res []) out

abbrev j_init_l135_N (s : Q) (res : Q) : Prop := Q.len res = Q.len s
def j_init_l135 : Nat → Q → Int32 → Option (Q)
  | 0, _, _ => none
  | n + 1, s, v3 => (if v3 < (8 : Int32) then (if inb s.f_st.length v3 = true then (if inb s.f_lk.length v3 = true then (if inb s.f_nxt0.length v3 = true then (if inb s.f_prv1.length v3 = true then (j_init_l135 n (Q.mk (wr s.f_st v3 (0 : Int32)) (wr s.f_lk v3 (-1 : Int32)) s.f_tmo s.f_spin (wr s.f_nxt0 v3 (-1 : Int32)) (wr s.f_prv1 v3 (-1 : Int32)) s.f_head s.f_tail s.f_len s.f_ent s.f_aband s.f_log s.f_hist s.f_n s.f_clk) (v3 + (1 : Int32))) else none) else none) else none) else none) else some (s))
theorem ln_j_init_l135 : ∀ {n : Nat} {s : Q} {v3 : Int32} {res : Q}, j_init_l135 n s v3 = some res → j_init_l135_N s res := by
  intro n
  induction n with
  | zero => intro _ _ res h; cases h
  | succ n hrec0 =>
    have hrec : ∀ (s : Q) (v3 : Int32) {res : Q}, j_init_l135 n s v3 = some res → j_init_l135_N s res := by intros; apply hrec0; assumption
    intro s v3 res h
    rw [j_init_l135] at h
    by_cases hc5 : v3 < (8 : Int32)
    · rw [if_pos hc5] at h
      obtain ⟨hb6, h⟩ := ite_some h
      obtain ⟨hb7, h⟩ := ite_some h
      obtain ⟨hb8, h⟩ := ite_some h
      obtain ⟨hb9, h⟩ := ite_some h
      exact (hrec _ _ h).trans (Eq.trans (show Q.len (Q.mk (wr s.f_st v3 (0 : Int32)) (wr s.f_lk v3 (-1 : Int32)) s.f_tmo s.f_spin (wr s.f_nxt0 v3 (-1 : Int32)) (wr s.f_prv1 v3 (-1 : Int32)) s.f_head s.f_tail s.f_len s.f_ent s.f_aband s.f_log s.f_hist s.f_n s.f_clk) = Q.len s from own_lenmk.trans (by first | (simp only [len_wr, len_wrL] <;> rfl) | rfl)) rfl)
    · rw [if_neg hc5] at h
      have hr0 := Option.some.inj h
      subst hr0
      show Q.len s = _
      exact rfl
set_option maxRecDepth 100000 in
theorem ev_j_init_l135 : ∀ (n : Nat) (s : Q) (v3 : Int32) {res : Q} {out : Option Value × AHeap}, j_init_l135 n s v3 = some res → j_init_l135_K res out → Eval own_P 1 135 [some (.ref 0), none, none, some (.int v3)] [] (W1 s []) out := by
  intro n
  induction n with
  | zero => intro _ _ res out h hk; cases h
  | succ n hrec =>
    intro s v3 res out h hk
    rw [j_init_l135] at h
    refine Eval.iload_n rfl rfl ?_
    refine Eval.bipush (x := (8 : Int32)) rfl rfl ?_
    by_cases hc5 : v3 < (8 : Int32)
    · rw [if_pos hc5] at h
      refine Eval.icmpF rfl (tlt hc5).2.1 ?_
      refine Eval.aload_n rfl rfl ?_
      refine Eval.getfield rfl rfl own_g1_st ?_
      refine Eval.iload_n rfl rfl ?_
      refine Eval.iconst (x := (0 : Int32)) rfl rfl ?_
      obtain ⟨hb6, h⟩ := ite_some h
      refine Eval.iastore rfl rfl own_a1_st hb6 own_s1_st ?_
      refine Eval.aload_n rfl rfl ?_
      refine Eval.getfield rfl rfl own_g1_lk ?_
      refine Eval.iload_n rfl rfl ?_
      refine Eval.iconst (x := (-1 : Int32)) rfl rfl ?_
      obtain ⟨hb7, h⟩ := ite_some h
      refine Eval.iastore rfl rfl own_a1_lk hb7 own_s1_lk ?_
      refine Eval.aload_n rfl rfl ?_
      refine Eval.getfield rfl rfl own_g1_nxt0 ?_
      refine Eval.iload_n rfl rfl ?_
      refine Eval.iconst (x := (-1 : Int32)) rfl rfl ?_
      obtain ⟨hb8, h⟩ := ite_some h
      refine Eval.iastore rfl rfl own_a1_nxt0 hb8 own_s1_nxt0 ?_
      refine Eval.aload_n rfl rfl ?_
      refine Eval.getfield rfl rfl own_g1_prv1 ?_
      refine Eval.iload_n rfl rfl ?_
      refine Eval.iconst (x := (-1 : Int32)) rfl rfl ?_
      obtain ⟨hb9, h⟩ := ite_some h
      refine Eval.iastore rfl rfl own_a1_prv1 hb9 own_s1_prv1 ?_
      refine Eval.iinc (L' := [some (.ref 0), none, none, some (.int (v3 + (1 : Int32)))]) rfl rfl rfl ?_
      refine Eval.goto (t := 135) rfl rfl ?_
      refine Eval.heap own_mk1 ?_
      exact hrec _ _ h hk
    · rw [if_neg hc5] at h
      refine Eval.icmpT (t := 175) rfl rfl (flt hc5).2.1 ?_
      cases h
      refine Eval.weak (L' := [some (.ref 0), none, none, none]) ⟨_, _, rfl, Or.inr rfl, _, _, rfl, Or.inl rfl, _, _, rfl, Or.inl rfl, _, _, rfl, Or.inl rfl, rfl⟩ ?_
      exact hk
abbrev j_init_l177_K (res : Q) (out : Option Value × AHeap) : Prop := Eval own_P 1 202 [some (.ref 0), none, none, none] [] (W1 res []) out

abbrev j_init_l177_N (s : Q) (res : Q) : Prop := Q.len res = Q.len s
def j_init_l177 : Nat → Q → Int32 → Option (Q)
  | 0, _, _ => none
  | n + 1, s, v3 => (if v3 < (2 : Int32) then (if inb s.f_head.length v3 = true then (if inb s.f_tail.length v3 = true then (j_init_l177 n (Q.mk s.f_st s.f_lk s.f_tmo s.f_spin s.f_nxt0 s.f_prv1 (wr s.f_head v3 (-1 : Int32)) (wr s.f_tail v3 (-1 : Int32)) s.f_len s.f_ent s.f_aband s.f_log s.f_hist s.f_n s.f_clk) (v3 + (1 : Int32))) else none) else none) else some (s))
theorem ln_j_init_l177 : ∀ {n : Nat} {s : Q} {v3 : Int32} {res : Q}, j_init_l177 n s v3 = some res → j_init_l177_N s res := by
  intro n
  induction n with
  | zero => intro _ _ res h; cases h
  | succ n hrec0 =>
    have hrec : ∀ (s : Q) (v3 : Int32) {res : Q}, j_init_l177 n s v3 = some res → j_init_l177_N s res := by intros; apply hrec0; assumption
    intro s v3 res h
    rw [j_init_l177] at h
    by_cases hc13 : v3 < (2 : Int32)
    · rw [if_pos hc13] at h
      obtain ⟨hb14, h⟩ := ite_some h
      obtain ⟨hb15, h⟩ := ite_some h
      exact (hrec _ _ h).trans (Eq.trans (show Q.len (Q.mk s.f_st s.f_lk s.f_tmo s.f_spin s.f_nxt0 s.f_prv1 (wr s.f_head v3 (-1 : Int32)) (wr s.f_tail v3 (-1 : Int32)) s.f_len s.f_ent s.f_aband s.f_log s.f_hist s.f_n s.f_clk) = Q.len s from own_lenmk.trans (by first | (simp only [len_wr, len_wrL] <;> rfl) | rfl)) rfl)
    · rw [if_neg hc13] at h
      have hr0 := Option.some.inj h
      subst hr0
      show Q.len s = _
      exact rfl
set_option maxRecDepth 100000 in
theorem ev_j_init_l177 : ∀ (n : Nat) (s : Q) (v3 : Int32) {res : Q} {out : Option Value × AHeap}, j_init_l177 n s v3 = some res → j_init_l177_K res out → Eval own_P 1 177 [some (.ref 0), none, none, some (.int v3)] [] (W1 s []) out := by
  intro n
  induction n with
  | zero => intro _ _ res out h hk; cases h
  | succ n hrec =>
    intro s v3 res out h hk
    rw [j_init_l177] at h
    refine Eval.iload_n rfl rfl ?_
    refine Eval.iconst (x := (2 : Int32)) rfl rfl ?_
    by_cases hc13 : v3 < (2 : Int32)
    · rw [if_pos hc13] at h
      refine Eval.icmpF rfl (tlt hc13).2.1 ?_
      refine Eval.aload_n rfl rfl ?_
      refine Eval.getfield rfl rfl own_g1_head ?_
      refine Eval.iload_n rfl rfl ?_
      refine Eval.iconst (x := (-1 : Int32)) rfl rfl ?_
      obtain ⟨hb14, h⟩ := ite_some h
      refine Eval.iastore rfl rfl own_a1_head hb14 own_s1_head ?_
      refine Eval.aload_n rfl rfl ?_
      refine Eval.getfield rfl rfl own_g1_tail ?_
      refine Eval.iload_n rfl rfl ?_
      refine Eval.iconst (x := (-1 : Int32)) rfl rfl ?_
      obtain ⟨hb15, h⟩ := ite_some h
      refine Eval.iastore rfl rfl own_a1_tail hb15 own_s1_tail ?_
      refine Eval.iinc (L' := [some (.ref 0), none, none, some (.int (v3 + (1 : Int32)))]) rfl rfl rfl ?_
      refine Eval.goto (t := 177) rfl rfl ?_
      refine Eval.heap own_mk1 ?_
      exact hrec _ _ h hk
    · rw [if_neg hc13] at h
      refine Eval.icmpT (t := 202) rfl rfl (flt hc13).2.1 ?_
      cases h
      refine Eval.weak (L' := [some (.ref 0), none, none, none]) ⟨_, _, rfl, Or.inr rfl, _, _, rfl, Or.inl rfl, _, _, rfl, Or.inl rfl, _, _, rfl, Or.inl rfl, rfl⟩ ?_
      exact hk
abbrev j_init_l204_K (res : Q) (out : Option Value × AHeap) : Prop := Eval own_P 1 224 [none, none, none, none] [] (W1 res []) out

abbrev j_init_l204_N (s : Q) (res : Q) : Prop := Q.len res = Q.len s
def j_init_l204 : Nat → Q → Int32 → Option (Q)
  | 0, _, _ => none
  | n + 1, s, v3 => (if v3 < (512 : Int32) then (if inb s.f_hist.length v3 = true then (j_init_l204 n (Q.mk s.f_st s.f_lk s.f_tmo s.f_spin s.f_nxt0 s.f_prv1 s.f_head s.f_tail s.f_len s.f_ent s.f_aband s.f_log (wr s.f_hist v3 (-1 : Int32)) s.f_n s.f_clk) (v3 + (1 : Int32))) else none) else some (s))
theorem ln_j_init_l204 : ∀ {n : Nat} {s : Q} {v3 : Int32} {res : Q}, j_init_l204 n s v3 = some res → j_init_l204_N s res := by
  intro n
  induction n with
  | zero => intro _ _ res h; cases h
  | succ n hrec0 =>
    have hrec : ∀ (s : Q) (v3 : Int32) {res : Q}, j_init_l204 n s v3 = some res → j_init_l204_N s res := by intros; apply hrec0; assumption
    intro s v3 res h
    rw [j_init_l204] at h
    by_cases hc19 : v3 < (512 : Int32)
    · rw [if_pos hc19] at h
      obtain ⟨hb20, h⟩ := ite_some h
      exact (hrec _ _ h).trans (Eq.trans (show Q.len (Q.mk s.f_st s.f_lk s.f_tmo s.f_spin s.f_nxt0 s.f_prv1 s.f_head s.f_tail s.f_len s.f_ent s.f_aband s.f_log (wr s.f_hist v3 (-1 : Int32)) s.f_n s.f_clk) = Q.len s from own_lenmk.trans (by first | (simp only [len_wr, len_wrL] <;> rfl) | rfl)) rfl)
    · rw [if_neg hc19] at h
      have hr0 := Option.some.inj h
      subst hr0
      show Q.len s = _
      exact rfl
set_option maxRecDepth 100000 in
theorem ev_j_init_l204 : ∀ (n : Nat) (s : Q) (v3 : Int32) {res : Q} {out : Option Value × AHeap}, j_init_l204 n s v3 = some res → j_init_l204_K res out → Eval own_P 1 204 [some (.ref 0), none, none, some (.int v3)] [] (W1 s []) out := by
  intro n
  induction n with
  | zero => intro _ _ res out h hk; cases h
  | succ n hrec =>
    intro s v3 res out h hk
    rw [j_init_l204] at h
    refine Eval.iload_n rfl rfl ?_
    refine Eval.sipush (x := (512 : Int32)) rfl rfl ?_
    by_cases hc19 : v3 < (512 : Int32)
    · rw [if_pos hc19] at h
      refine Eval.icmpF rfl (tlt hc19).2.1 ?_
      refine Eval.aload_n rfl rfl ?_
      refine Eval.getfield rfl rfl own_g1_hist ?_
      refine Eval.iload_n rfl rfl ?_
      refine Eval.iconst (x := (-1 : Int32)) rfl rfl ?_
      obtain ⟨hb20, h⟩ := ite_some h
      refine Eval.iastore rfl rfl own_a1_hist hb20 own_s1_hist ?_
      refine Eval.iinc (L' := [some (.ref 0), none, none, some (.int (v3 + (1 : Int32)))]) rfl rfl rfl ?_
      refine Eval.goto (t := 204) rfl rfl ?_
      refine Eval.heap own_mk1 ?_
      exact hrec _ _ h hk
    · rw [if_neg hc19] at h
      refine Eval.icmpT (t := 224) rfl rfl (flt hc19).2.1 ?_
      cases h
      refine Eval.weak (L' := [none, none, none, none]) ⟨_, _, rfl, Or.inl rfl, _, _, rfl, Or.inl rfl, _, _, rfl, Or.inl rfl, _, _, rfl, Or.inl rfl, rfl⟩ ?_
      exact hk
def j_init_b123 (s : Q) (v2 : Int32) : Option (Q) := ((j_init_l135 3000 (Q.mk s.f_st s.f_lk s.f_tmo s.f_spin s.f_nxt0 s.f_prv1 s.f_head s.f_tail s.f_len s.f_ent s.f_aband s.f_log s.f_hist v2 (0 : Int32)) (0 : Int32)).bind fun p10 => ((j_init_l177 3000 p10 (0 : Int32)).bind fun p16 => ((j_init_l204 3000 p16 (0 : Int32)).bind fun p21 => some (p21))))
theorem ln_j_init_b123 {s : Q} {v2 : Int32} {res : Q} (h : j_init_b123 s v2 = some res) : Q.len res = Q.len s := by
  rw [j_init_b123] at h
  obtain ⟨p10, hq11, h⟩ := bind_some h
  have hl12 : Q.len p10 = _ := Eq.trans (ln_j_init_l135 hq11) (Eq.trans (show Q.len (Q.mk s.f_st s.f_lk s.f_tmo s.f_spin s.f_nxt0 s.f_prv1 s.f_head s.f_tail s.f_len s.f_ent s.f_aband s.f_log s.f_hist v2 (0 : Int32)) = Q.len s from own_lenmk.trans (by first | (simp only [len_wr, len_wrL] <;> rfl) | rfl)) rfl)
  obtain ⟨p16, hq17, h⟩ := bind_some h
  have hl18 : Q.len p16 = _ := Eq.trans (ln_j_init_l177 hq17) hl12
  obtain ⟨p21, hq22, h⟩ := bind_some h
  have hl23 : Q.len p21 = _ := Eq.trans (ln_j_init_l204 hq22) hl18
  have hr0 := Option.some.inj h
  subst hr0
  show Q.len p21 = _
  exact hl23
set_option maxRecDepth 100000 in
theorem ev_j_init_b123 (s : Q) (v2 : Int32) {res : Q} {out : Option Value × AHeap} (h : j_init_b123 s v2 = some res) (hk : out = (none, (W1 res []))) : Eval own_P 1 123 [some (.ref 0), none, some (.int v2), none] [] (W1 s []) out := by
  rw [j_init_b123] at h
  refine Eval.aload_n rfl rfl ?_
  refine Eval.iload_n rfl rfl ?_
  refine Eval.putfield rfl rfl own_p1_n ?_
  refine Eval.aload_n rfl rfl ?_
  refine Eval.iconst (x := (0 : Int32)) rfl rfl ?_
  refine Eval.putfield rfl rfl own_p1_clk ?_
  refine Eval.iconst (x := (0 : Int32)) rfl rfl ?_
  refine Eval.istore_n (L' := [some (.ref 0), none, some (.int v2), some (.int (0 : Int32))]) rfl rfl ?_
  refine Eval.heap own_mk1 ?_
  refine Eval.weak (L' := [some (.ref 0), none, none, some (.int (0 : Int32))]) ⟨_, _, rfl, Or.inr rfl, _, _, rfl, Or.inl rfl, _, _, rfl, Or.inl rfl, _, _, rfl, Or.inr rfl, rfl⟩ ?_
  obtain ⟨p10, hq11, h⟩ := bind_some h
  refine ev_j_init_l135 _ (Q.mk s.f_st s.f_lk s.f_tmo s.f_spin s.f_nxt0 s.f_prv1 s.f_head s.f_tail s.f_len s.f_ent s.f_aband s.f_log s.f_hist v2 (0 : Int32)) (0 : Int32) hq11 ?_
  show Eval own_P 1 175 [some (.ref 0), none, none, none] [] (W1 p10 []) out
  refine Eval.iconst (x := (0 : Int32)) rfl rfl ?_
  refine Eval.istore_n (L' := [some (.ref 0), none, none, some (.int (0 : Int32))]) rfl rfl ?_
  obtain ⟨p16, hq17, h⟩ := bind_some h
  refine ev_j_init_l177 _ p10 (0 : Int32) hq17 ?_
  show Eval own_P 1 202 [some (.ref 0), none, none, none] [] (W1 p16 []) out
  refine Eval.iconst (x := (0 : Int32)) rfl rfl ?_
  refine Eval.istore_n (L' := [some (.ref 0), none, none, some (.int (0 : Int32))]) rfl rfl ?_
  obtain ⟨p21, hq22, h⟩ := bind_some h
  refine ev_j_init_l204 _ p16 (0 : Int32) hq22 ?_
  show Eval own_P 1 224 [none, none, none, none] [] (W1 p21 []) out
  cases h
  subst hk
  exact Eval.ret rfl rfl
def j_init_b114 (s : Q) (v2 : Int32) : Option (Q) := (j_init_b123 s (if (8 : Int32) < v2 then (8 : Int32) else v2))
theorem ln_j_init_b114 {s : Q} {v2 : Int32} {res : Q} (h : j_init_b114 s v2 = some res) : Q.len res = Q.len s := by
  rw [j_init_b114] at h
  exact Eq.trans (ln_j_init_b123 h) rfl
set_option maxRecDepth 100000 in
theorem ev_j_init_b114 (s : Q) (v2 : Int32) {res : Q} {out : Option Value × AHeap} (h : j_init_b114 s v2 = some res) (hk : out = (none, (W1 res []))) : Eval own_P 1 114 [some (.ref 0), none, some (.int v2), none] [] (W1 s []) out := by
  rw [j_init_b114] at h
  refine Eval.iload_n rfl rfl ?_
  refine Eval.bipush (x := (8 : Int32)) rfl rfl ?_
  suffices hJ4 : Eval own_P 1 123 [some (.ref 0), none, some (.int (if (8 : Int32) < v2 then (8 : Int32) else v2)), none] [] (W1 s []) out by
    by_cases hc3 : (8 : Int32) < v2
    · refine Eval.icmpF rfl (tlt hc3).2.2.2 ?_
      refine Eval.bipush (x := (8 : Int32)) rfl rfl ?_
      refine Eval.istore_n (L' := [some (.ref 0), none, some (.int (8 : Int32)), none]) rfl rfl ?_
      exact (Eval.conv hJ4 (by simp only [if_pos hc3]) rfl)
    · refine Eval.icmpT (t := 123) rfl rfl (flt hc3).2.2.2 ?_
      exact (Eval.conv hJ4 (by simp only [if_neg hc3]) rfl)
  exact ev_j_init_b123 s (if (8 : Int32) < v2 then (8 : Int32) else v2) h hk
def j_init_b105 (s : Q) (v1 : Int32) : Option (Q) := (j_init_b114 s (if v1 < (2 : Int32) then (2 : Int32) else v1))
theorem ln_j_init_b105 {s : Q} {v1 : Int32} {res : Q} (h : j_init_b105 s v1 = some res) : Q.len res = Q.len s := by
  rw [j_init_b105] at h
  exact Eq.trans (ln_j_init_b114 h) rfl
set_option maxRecDepth 100000 in
theorem ev_j_init_b105 (s : Q) (v1 : Int32) {res : Q} {out : Option Value × AHeap} (h : j_init_b105 s v1 = some res) (hk : out = (none, (W1 res []))) : Eval own_P 1 105 [some (.ref 0), some (.int v1), none, none] [] (W1 s []) out := by
  rw [j_init_b105] at h
  refine Eval.iload_n rfl rfl ?_
  refine Eval.istore_n (L' := [some (.ref 0), some (.int v1), some (.int v1), none]) rfl rfl ?_
  refine Eval.iload_n rfl rfl ?_
  refine Eval.iconst (x := (2 : Int32)) rfl rfl ?_
  suffices hJ2 : Eval own_P 1 114 [some (.ref 0), none, some (.int (if v1 < (2 : Int32) then (2 : Int32) else v1)), none] [] (W1 s []) out by
    by_cases hc1 : v1 < (2 : Int32)
    · refine Eval.icmpF rfl (tlt hc1).2.1 ?_
      refine Eval.iconst (x := (2 : Int32)) rfl rfl ?_
      refine Eval.istore_n (L' := [some (.ref 0), some (.int v1), some (.int (2 : Int32)), none]) rfl rfl ?_
      refine Eval.weak (L' := [some (.ref 0), none, some (.int (2 : Int32)), none]) ⟨_, _, rfl, Or.inr rfl, _, _, rfl, Or.inl rfl, _, _, rfl, Or.inr rfl, _, _, rfl, Or.inl rfl, rfl⟩ ?_
      exact (Eval.conv hJ2 (by simp only [if_pos hc1]) rfl)
    · refine Eval.icmpT (t := 114) rfl rfl (flt hc1).2.1 ?_
      refine Eval.weak (L' := [some (.ref 0), none, some (.int v1), none]) ⟨_, _, rfl, Or.inr rfl, _, _, rfl, Or.inl rfl, _, _, rfl, Or.inr rfl, _, _, rfl, Or.inl rfl, rfl⟩ ?_
      exact (Eval.conv hJ2 (by simp only [if_neg hc1]) rfl)
  exact ev_j_init_b114 s (if v1 < (2 : Int32) then (2 : Int32) else v1) h hk
def j_init (v1 : Int32) : Option (Q) := (j_init_b105 Q0 v1)
theorem ln_j_init {v1 : Int32} {res : Q} (h : j_init v1 = some res) : Q.len res = Q.len Q0 := by
  rw [j_init] at h
  exact Eq.trans (ln_j_init_b105 h) rfl
set_option maxRecDepth 100000 in
theorem ev_j_init (v1 : Int32) {res : Q} {out : Option Value × AHeap} (h : j_init v1 = some res) (hk : out = (none, (W1 res []))) : Eval own_P 1 0 [some (.ref 0), some (.int v1), none, none] [] (W0 [.inl [.null, .null, .null, .null, .null, .null, .null, .null, .null, .null, .null, .null, .null, .int (0 : Int32), .int (0 : Int32)]]) out := by
  rw [j_init] at h
  refine Eval.aload_n rfl rfl ?_
  refine Eval.objInit rfl rfl ?_
  refine Eval.aload_n rfl rfl ?_
  refine Eval.bipush (x := (8 : Int32)) rfl rfl ?_
  refine Eval.newarray (z := 15) (N := 8) (a := 1) (H1 := (W0 [.inl [.null, .null, .null, .null, .null, .null, .null, .null, .null, .null, .null, .null, .null, .int (0 : Int32), .int (0 : Int32)], .inr (.inl (1, List.replicate 8 0))])) rfl rfl rfl rfl rfl (by decide) (by decide) (by unfold W0; simp only [hsz, csz, own_objN, List.length_replicate]) (by decide) rfl ?_
  refine Eval.putfield (H1 := (W0 [.inl [.ref 1, .null, .null, .null, .null, .null, .null, .null, .null, .null, .null, .null, .null, .int (0 : Int32), .int (0 : Int32)], .inr (.inl (1, List.replicate 8 0))])) rfl rfl rfl ?_
  refine Eval.aload_n rfl rfl ?_
  refine Eval.bipush (x := (8 : Int32)) rfl rfl ?_
  refine Eval.newarray (z := 23) (N := 8) (a := 2) (H1 := (W0 [.inl [.ref 1, .null, .null, .null, .null, .null, .null, .null, .null, .null, .null, .null, .null, .int (0 : Int32), .int (0 : Int32)], .inr (.inl (1, List.replicate 8 0)), .inr (.inl (1, List.replicate 8 0))])) rfl rfl rfl rfl rfl (by decide) (by decide) (by unfold W0; simp only [hsz, csz, own_objN, List.length_replicate]) (by decide) rfl ?_
  refine Eval.putfield (H1 := (W0 [.inl [.ref 1, .ref 2, .null, .null, .null, .null, .null, .null, .null, .null, .null, .null, .null, .int (0 : Int32), .int (0 : Int32)], .inr (.inl (1, List.replicate 8 0)), .inr (.inl (1, List.replicate 8 0))])) rfl rfl rfl ?_
  refine Eval.aload_n rfl rfl ?_
  refine Eval.bipush (x := (8 : Int32)) rfl rfl ?_
  refine Eval.newarray (z := 31) (N := 8) (a := 3) (H1 := (W0 [.inl [.ref 1, .ref 2, .null, .null, .null, .null, .null, .null, .null, .null, .null, .null, .null, .int (0 : Int32), .int (0 : Int32)], .inr (.inl (1, List.replicate 8 0)), .inr (.inl (1, List.replicate 8 0)), .inr (.inl (1, List.replicate 8 0))])) rfl rfl rfl rfl rfl (by decide) (by decide) (by unfold W0; simp only [hsz, csz, own_objN, List.length_replicate]) (by decide) rfl ?_
  refine Eval.putfield (H1 := (W0 [.inl [.ref 1, .ref 2, .ref 3, .null, .null, .null, .null, .null, .null, .null, .null, .null, .null, .int (0 : Int32), .int (0 : Int32)], .inr (.inl (1, List.replicate 8 0)), .inr (.inl (1, List.replicate 8 0)), .inr (.inl (1, List.replicate 8 0))])) rfl rfl rfl ?_
  refine Eval.aload_n rfl rfl ?_
  refine Eval.bipush (x := (8 : Int32)) rfl rfl ?_
  refine Eval.newarray (z := 39) (N := 8) (a := 4) (H1 := (W0 [.inl [.ref 1, .ref 2, .ref 3, .null, .null, .null, .null, .null, .null, .null, .null, .null, .null, .int (0 : Int32), .int (0 : Int32)], .inr (.inl (1, List.replicate 8 0)), .inr (.inl (1, List.replicate 8 0)), .inr (.inl (1, List.replicate 8 0)), .inr (.inl (1, List.replicate 8 0))])) rfl rfl rfl rfl rfl (by decide) (by decide) (by unfold W0; simp only [hsz, csz, own_objN, List.length_replicate]) (by decide) rfl ?_
  refine Eval.putfield (H1 := (W0 [.inl [.ref 1, .ref 2, .ref 3, .ref 4, .null, .null, .null, .null, .null, .null, .null, .null, .null, .int (0 : Int32), .int (0 : Int32)], .inr (.inl (1, List.replicate 8 0)), .inr (.inl (1, List.replicate 8 0)), .inr (.inl (1, List.replicate 8 0)), .inr (.inl (1, List.replicate 8 0))])) rfl rfl rfl ?_
  refine Eval.aload_n rfl rfl ?_
  refine Eval.bipush (x := (8 : Int32)) rfl rfl ?_
  refine Eval.newarray (z := 47) (N := 8) (a := 5) (H1 := (W0 [.inl [.ref 1, .ref 2, .ref 3, .ref 4, .null, .null, .null, .null, .null, .null, .null, .null, .null, .int (0 : Int32), .int (0 : Int32)], .inr (.inl (1, List.replicate 8 0)), .inr (.inl (1, List.replicate 8 0)), .inr (.inl (1, List.replicate 8 0)), .inr (.inl (1, List.replicate 8 0)), .inr (.inl (1, List.replicate 8 0))])) rfl rfl rfl rfl rfl (by decide) (by decide) (by unfold W0; simp only [hsz, csz, own_objN, List.length_replicate]) (by decide) rfl ?_
  refine Eval.putfield (H1 := (W0 [.inl [.ref 1, .ref 2, .ref 3, .ref 4, .ref 5, .null, .null, .null, .null, .null, .null, .null, .null, .int (0 : Int32), .int (0 : Int32)], .inr (.inl (1, List.replicate 8 0)), .inr (.inl (1, List.replicate 8 0)), .inr (.inl (1, List.replicate 8 0)), .inr (.inl (1, List.replicate 8 0)), .inr (.inl (1, List.replicate 8 0))])) rfl rfl rfl ?_
  refine Eval.aload_n rfl rfl ?_
  refine Eval.bipush (x := (8 : Int32)) rfl rfl ?_
  refine Eval.newarray (z := 55) (N := 8) (a := 6) (H1 := (W0 [.inl [.ref 1, .ref 2, .ref 3, .ref 4, .ref 5, .null, .null, .null, .null, .null, .null, .null, .null, .int (0 : Int32), .int (0 : Int32)], .inr (.inl (1, List.replicate 8 0)), .inr (.inl (1, List.replicate 8 0)), .inr (.inl (1, List.replicate 8 0)), .inr (.inl (1, List.replicate 8 0)), .inr (.inl (1, List.replicate 8 0)), .inr (.inl (1, List.replicate 8 0))])) rfl rfl rfl rfl rfl (by decide) (by decide) (by unfold W0; simp only [hsz, csz, own_objN, List.length_replicate]) (by decide) rfl ?_
  refine Eval.putfield (H1 := (W0 [.inl [.ref 1, .ref 2, .ref 3, .ref 4, .ref 5, .ref 6, .null, .null, .null, .null, .null, .null, .null, .int (0 : Int32), .int (0 : Int32)], .inr (.inl (1, List.replicate 8 0)), .inr (.inl (1, List.replicate 8 0)), .inr (.inl (1, List.replicate 8 0)), .inr (.inl (1, List.replicate 8 0)), .inr (.inl (1, List.replicate 8 0)), .inr (.inl (1, List.replicate 8 0))])) rfl rfl rfl ?_
  refine Eval.aload_n rfl rfl ?_
  refine Eval.iconst (x := (2 : Int32)) rfl rfl ?_
  refine Eval.newarray (z := 63) (N := 2) (a := 7) (H1 := (W0 [.inl [.ref 1, .ref 2, .ref 3, .ref 4, .ref 5, .ref 6, .null, .null, .null, .null, .null, .null, .null, .int (0 : Int32), .int (0 : Int32)], .inr (.inl (1, List.replicate 8 0)), .inr (.inl (1, List.replicate 8 0)), .inr (.inl (1, List.replicate 8 0)), .inr (.inl (1, List.replicate 8 0)), .inr (.inl (1, List.replicate 8 0)), .inr (.inl (1, List.replicate 8 0)), .inr (.inl (1, List.replicate 2 0))])) rfl rfl rfl rfl rfl (by decide) (by decide) (by unfold W0; simp only [hsz, csz, own_objN, List.length_replicate]) (by decide) rfl ?_
  refine Eval.putfield (H1 := (W0 [.inl [.ref 1, .ref 2, .ref 3, .ref 4, .ref 5, .ref 6, .ref 7, .null, .null, .null, .null, .null, .null, .int (0 : Int32), .int (0 : Int32)], .inr (.inl (1, List.replicate 8 0)), .inr (.inl (1, List.replicate 8 0)), .inr (.inl (1, List.replicate 8 0)), .inr (.inl (1, List.replicate 8 0)), .inr (.inl (1, List.replicate 8 0)), .inr (.inl (1, List.replicate 8 0)), .inr (.inl (1, List.replicate 2 0))])) rfl rfl rfl ?_
  refine Eval.aload_n rfl rfl ?_
  refine Eval.iconst (x := (2 : Int32)) rfl rfl ?_
  refine Eval.newarray (z := 65) (N := 2) (a := 8) (H1 := (W0 [.inl [.ref 1, .ref 2, .ref 3, .ref 4, .ref 5, .ref 6, .ref 7, .null, .null, .null, .null, .null, .null, .int (0 : Int32), .int (0 : Int32)], .inr (.inl (1, List.replicate 8 0)), .inr (.inl (1, List.replicate 8 0)), .inr (.inl (1, List.replicate 8 0)), .inr (.inl (1, List.replicate 8 0)), .inr (.inl (1, List.replicate 8 0)), .inr (.inl (1, List.replicate 8 0)), .inr (.inl (1, List.replicate 2 0)), .inr (.inl (1, List.replicate 2 0))])) rfl rfl rfl rfl rfl (by decide) (by decide) (by unfold W0; simp only [hsz, csz, own_objN, List.length_replicate]) (by decide) rfl ?_
  refine Eval.putfield (H1 := (W0 [.inl [.ref 1, .ref 2, .ref 3, .ref 4, .ref 5, .ref 6, .ref 7, .ref 8, .null, .null, .null, .null, .null, .int (0 : Int32), .int (0 : Int32)], .inr (.inl (1, List.replicate 8 0)), .inr (.inl (1, List.replicate 8 0)), .inr (.inl (1, List.replicate 8 0)), .inr (.inl (1, List.replicate 8 0)), .inr (.inl (1, List.replicate 8 0)), .inr (.inl (1, List.replicate 8 0)), .inr (.inl (1, List.replicate 2 0)), .inr (.inl (1, List.replicate 2 0))])) rfl rfl rfl ?_
  refine Eval.aload_n rfl rfl ?_
  refine Eval.iconst (x := (2 : Int32)) rfl rfl ?_
  refine Eval.newarray (z := 67) (N := 2) (a := 9) (H1 := (W0 [.inl [.ref 1, .ref 2, .ref 3, .ref 4, .ref 5, .ref 6, .ref 7, .ref 8, .null, .null, .null, .null, .null, .int (0 : Int32), .int (0 : Int32)], .inr (.inl (1, List.replicate 8 0)), .inr (.inl (1, List.replicate 8 0)), .inr (.inl (1, List.replicate 8 0)), .inr (.inl (1, List.replicate 8 0)), .inr (.inl (1, List.replicate 8 0)), .inr (.inl (1, List.replicate 8 0)), .inr (.inl (1, List.replicate 2 0)), .inr (.inl (1, List.replicate 2 0)), .inr (.inl (1, List.replicate 2 0))])) rfl rfl rfl rfl rfl (by decide) (by decide) (by unfold W0; simp only [hsz, csz, own_objN, List.length_replicate]) (by decide) rfl ?_
  refine Eval.putfield (H1 := (W0 [.inl [.ref 1, .ref 2, .ref 3, .ref 4, .ref 5, .ref 6, .ref 7, .ref 8, .ref 9, .null, .null, .null, .null, .int (0 : Int32), .int (0 : Int32)], .inr (.inl (1, List.replicate 8 0)), .inr (.inl (1, List.replicate 8 0)), .inr (.inl (1, List.replicate 8 0)), .inr (.inl (1, List.replicate 8 0)), .inr (.inl (1, List.replicate 8 0)), .inr (.inl (1, List.replicate 8 0)), .inr (.inl (1, List.replicate 2 0)), .inr (.inl (1, List.replicate 2 0)), .inr (.inl (1, List.replicate 2 0))])) rfl rfl rfl ?_
  refine Eval.aload_n rfl rfl ?_
  refine Eval.iconst (x := (2 : Int32)) rfl rfl ?_
  refine Eval.newarray (z := 69) (N := 2) (a := 10) (H1 := (W0 [.inl [.ref 1, .ref 2, .ref 3, .ref 4, .ref 5, .ref 6, .ref 7, .ref 8, .ref 9, .null, .null, .null, .null, .int (0 : Int32), .int (0 : Int32)], .inr (.inl (1, List.replicate 8 0)), .inr (.inl (1, List.replicate 8 0)), .inr (.inl (1, List.replicate 8 0)), .inr (.inl (1, List.replicate 8 0)), .inr (.inl (1, List.replicate 8 0)), .inr (.inl (1, List.replicate 8 0)), .inr (.inl (1, List.replicate 2 0)), .inr (.inl (1, List.replicate 2 0)), .inr (.inl (1, List.replicate 2 0)), .inr (.inl (1, List.replicate 2 0))])) rfl rfl rfl rfl rfl (by decide) (by decide) (by unfold W0; simp only [hsz, csz, own_objN, List.length_replicate]) (by decide) rfl ?_
  refine Eval.putfield (H1 := (W0 [.inl [.ref 1, .ref 2, .ref 3, .ref 4, .ref 5, .ref 6, .ref 7, .ref 8, .ref 9, .ref 10, .null, .null, .null, .int (0 : Int32), .int (0 : Int32)], .inr (.inl (1, List.replicate 8 0)), .inr (.inl (1, List.replicate 8 0)), .inr (.inl (1, List.replicate 8 0)), .inr (.inl (1, List.replicate 8 0)), .inr (.inl (1, List.replicate 8 0)), .inr (.inl (1, List.replicate 8 0)), .inr (.inl (1, List.replicate 2 0)), .inr (.inl (1, List.replicate 2 0)), .inr (.inl (1, List.replicate 2 0)), .inr (.inl (1, List.replicate 2 0))])) rfl rfl rfl ?_
  refine Eval.aload_n rfl rfl ?_
  refine Eval.iconst (x := (2 : Int32)) rfl rfl ?_
  refine Eval.newarray (z := 71) (N := 2) (a := 11) (H1 := (W0 [.inl [.ref 1, .ref 2, .ref 3, .ref 4, .ref 5, .ref 6, .ref 7, .ref 8, .ref 9, .ref 10, .null, .null, .null, .int (0 : Int32), .int (0 : Int32)], .inr (.inl (1, List.replicate 8 0)), .inr (.inl (1, List.replicate 8 0)), .inr (.inl (1, List.replicate 8 0)), .inr (.inl (1, List.replicate 8 0)), .inr (.inl (1, List.replicate 8 0)), .inr (.inl (1, List.replicate 8 0)), .inr (.inl (1, List.replicate 2 0)), .inr (.inl (1, List.replicate 2 0)), .inr (.inl (1, List.replicate 2 0)), .inr (.inl (1, List.replicate 2 0)), .inr (.inl (1, List.replicate 2 0))])) rfl rfl rfl rfl rfl (by decide) (by decide) (by unfold W0; simp only [hsz, csz, own_objN, List.length_replicate]) (by decide) rfl ?_
  refine Eval.putfield (H1 := (W0 [.inl [.ref 1, .ref 2, .ref 3, .ref 4, .ref 5, .ref 6, .ref 7, .ref 8, .ref 9, .ref 10, .ref 11, .null, .null, .int (0 : Int32), .int (0 : Int32)], .inr (.inl (1, List.replicate 8 0)), .inr (.inl (1, List.replicate 8 0)), .inr (.inl (1, List.replicate 8 0)), .inr (.inl (1, List.replicate 8 0)), .inr (.inl (1, List.replicate 8 0)), .inr (.inl (1, List.replicate 8 0)), .inr (.inl (1, List.replicate 2 0)), .inr (.inl (1, List.replicate 2 0)), .inr (.inl (1, List.replicate 2 0)), .inr (.inl (1, List.replicate 2 0)), .inr (.inl (1, List.replicate 2 0))])) rfl rfl rfl ?_
  refine Eval.aload_n rfl rfl ?_
  refine Eval.sipush (x := (128 : Int32)) rfl rfl ?_
  refine Eval.newarray (z := 73) (N := 128) (a := 12) (H1 := (W0 [.inl [.ref 1, .ref 2, .ref 3, .ref 4, .ref 5, .ref 6, .ref 7, .ref 8, .ref 9, .ref 10, .ref 11, .null, .null, .int (0 : Int32), .int (0 : Int32)], .inr (.inl (1, List.replicate 8 0)), .inr (.inl (1, List.replicate 8 0)), .inr (.inl (1, List.replicate 8 0)), .inr (.inl (1, List.replicate 8 0)), .inr (.inl (1, List.replicate 8 0)), .inr (.inl (1, List.replicate 8 0)), .inr (.inl (1, List.replicate 2 0)), .inr (.inl (1, List.replicate 2 0)), .inr (.inl (1, List.replicate 2 0)), .inr (.inl (1, List.replicate 2 0)), .inr (.inl (1, List.replicate 2 0)), .inr (.inl (1, List.replicate 128 0))])) rfl rfl rfl rfl rfl (by decide) (by decide) (by unfold W0; simp only [hsz, csz, own_objN, List.length_replicate]) (by decide) rfl ?_
  refine Eval.putfield (H1 := (W0 [.inl [.ref 1, .ref 2, .ref 3, .ref 4, .ref 5, .ref 6, .ref 7, .ref 8, .ref 9, .ref 10, .ref 11, .ref 12, .null, .int (0 : Int32), .int (0 : Int32)], .inr (.inl (1, List.replicate 8 0)), .inr (.inl (1, List.replicate 8 0)), .inr (.inl (1, List.replicate 8 0)), .inr (.inl (1, List.replicate 8 0)), .inr (.inl (1, List.replicate 8 0)), .inr (.inl (1, List.replicate 8 0)), .inr (.inl (1, List.replicate 2 0)), .inr (.inl (1, List.replicate 2 0)), .inr (.inl (1, List.replicate 2 0)), .inr (.inl (1, List.replicate 2 0)), .inr (.inl (1, List.replicate 2 0)), .inr (.inl (1, List.replicate 128 0))])) rfl rfl rfl ?_
  refine Eval.aload_n rfl rfl ?_
  refine Eval.sipush (x := (512 : Int32)) rfl rfl ?_
  refine Eval.newarray (z := 201) (N := 512) (a := 13) (H1 := (W0 [.inl [.ref 1, .ref 2, .ref 3, .ref 4, .ref 5, .ref 6, .ref 7, .ref 8, .ref 9, .ref 10, .ref 11, .ref 12, .null, .int (0 : Int32), .int (0 : Int32)], .inr (.inl (1, List.replicate 8 0)), .inr (.inl (1, List.replicate 8 0)), .inr (.inl (1, List.replicate 8 0)), .inr (.inl (1, List.replicate 8 0)), .inr (.inl (1, List.replicate 8 0)), .inr (.inl (1, List.replicate 8 0)), .inr (.inl (1, List.replicate 2 0)), .inr (.inl (1, List.replicate 2 0)), .inr (.inl (1, List.replicate 2 0)), .inr (.inl (1, List.replicate 2 0)), .inr (.inl (1, List.replicate 2 0)), .inr (.inl (1, List.replicate 128 0)), .inr (.inl (1, List.replicate 512 0))])) rfl rfl rfl rfl rfl (by decide) (by decide) (by unfold W0; simp only [hsz, csz, own_objN, List.length_replicate]) (by decide) rfl ?_
  refine Eval.putfield (H1 := (W0 [.inl [.ref 1, .ref 2, .ref 3, .ref 4, .ref 5, .ref 6, .ref 7, .ref 8, .ref 9, .ref 10, .ref 11, .ref 12, .ref 13, .int (0 : Int32), .int (0 : Int32)], .inr (.inl (1, List.replicate 8 0)), .inr (.inl (1, List.replicate 8 0)), .inr (.inl (1, List.replicate 8 0)), .inr (.inl (1, List.replicate 8 0)), .inr (.inl (1, List.replicate 8 0)), .inr (.inl (1, List.replicate 8 0)), .inr (.inl (1, List.replicate 2 0)), .inr (.inl (1, List.replicate 2 0)), .inr (.inl (1, List.replicate 2 0)), .inr (.inl (1, List.replicate 2 0)), .inr (.inl (1, List.replicate 2 0)), .inr (.inl (1, List.replicate 128 0)), .inr (.inl (1, List.replicate 512 0))])) rfl rfl rfl ?_
  show Eval own_P 1 105 [some (.ref 0), some (.int v1), none, none] [] (W1 Q0 []) out
  exact ev_j_init_b105 Q0 v1 h hk
def j_validThread (s : Q) (v1 : Int32) : Int32 := (if v1 < (0 : Int32) then ((0 : Int32)) else (if v1 < s.f_n then ((1 : Int32)) else ((0 : Int32))))
set_option maxRecDepth 100000 in
theorem ev_j_validThread (R : AHeap) (s : Q) (v1 : Int32) {res : Int32} {out : Option Value × AHeap} (h : j_validThread s v1 = res) (hk : out = (some (.int res), (W1 s R))) : Eval own_P 3 0 [some (.ref 0), some (.int v1)] [] (W1 s R) out := by
  rw [j_validThread] at h
  refine Eval.iload_n rfl rfl ?_
  by_cases hc47 : v1 < (0 : Int32)
  · rw [if_pos hc47] at h
    refine Eval.ifT (t := 16) rfl rfl (tlt hc47).1 ?_
    refine Eval.iconst (x := (0 : Int32)) rfl rfl ?_
    subst h
    subst hk
    exact Eval.ret rfl rfl
  · rw [if_neg hc47] at h
    refine Eval.ifF rfl (flt hc47).1 ?_
    refine Eval.iload_n rfl rfl ?_
    refine Eval.aload_n rfl rfl ?_
    refine Eval.getfield rfl rfl own_g1_n ?_
    by_cases hc48 : v1 < s.f_n
    · rw [if_pos hc48] at h
      refine Eval.icmpF rfl (tlt hc48).2.1 ?_
      refine Eval.iconst (x := (1 : Int32)) rfl rfl ?_
      refine Eval.goto (t := 17) rfl rfl ?_
      subst h
      subst hk
      exact Eval.ret rfl rfl
    · rw [if_neg hc48] at h
      refine Eval.icmpT (t := 16) rfl rfl (flt hc48).2.1 ?_
      refine Eval.iconst (x := (0 : Int32)) rfl rfl ?_
      subst h
      subst hk
      exact Eval.ret rfl rfl
def j_validLock_b9 : Int32 := ((1 : Int32))
set_option maxRecDepth 100000 in
theorem ev_j_validLock_b9 (H : AHeap) (a : Nat) {res : Int32} {out : Option Value × AHeap} (h : j_validLock_b9 = res) (hk : out = (some (.int res), H)) : Eval own_P 6 9 [none, none] [] H out := by
  rw [j_validLock_b9] at h
  refine Eval.iconst (x := (1 : Int32)) rfl rfl ?_
  refine Eval.goto (t := 14) rfl rfl ?_
  subst h
  subst hk
  exact Eval.ret rfl rfl
def j_validLock (v1 : Int32) : Int32 := (if v1 = (0 : Int32) then (j_validLock_b9) else (if v1 = (1 : Int32) then (j_validLock_b9) else ((0 : Int32))))
set_option maxRecDepth 100000 in
theorem ev_j_validLock (H : AHeap) (a : Nat) (v1 : Int32) {res : Int32} {out : Option Value × AHeap} (h : j_validLock v1 = res) (hk : out = (some (.int res), H)) : Eval own_P 6 0 [some (.ref a), some (.int v1)] [] H out := by
  rw [j_validLock] at h
  refine Eval.iload_n rfl rfl ?_
  by_cases hc50 : v1 = (0 : Int32)
  · rw [if_pos hc50] at h
    refine Eval.ifT (t := 9) rfl rfl (teq hc50).1 ?_
    refine Eval.weak (L' := [none, none]) ⟨_, _, rfl, Or.inl rfl, _, _, rfl, Or.inl rfl, rfl⟩ ?_
    exact ev_j_validLock_b9 H a h hk
  · rw [if_neg hc50] at h
    refine Eval.ifF rfl (feq hc50).1 ?_
    refine Eval.iload_n rfl rfl ?_
    refine Eval.iconst (x := (1 : Int32)) rfl rfl ?_
    by_cases hc51 : v1 = (1 : Int32)
    · rw [if_pos hc51] at h
      refine Eval.icmpF rfl (teq hc51).2 ?_
      refine Eval.weak (L' := [none, none]) ⟨_, _, rfl, Or.inl rfl, _, _, rfl, Or.inl rfl, rfl⟩ ?_
      exact ev_j_validLock_b9 H a h hk
    · rw [if_neg hc51] at h
      refine Eval.icmpT (t := 13) rfl rfl (feq hc51).2 ?_
      refine Eval.iconst (x := (0 : Int32)) rfl rfl ?_
      subst h
      subst hk
      exact Eval.ret rfl rfl
def j_clampTimeout (v1 : Int32) : Int32 := (if v1 < (0 : Int32) then ((0 : Int32)) else (if (50 : Int32) < v1 then ((50 : Int32)) else (v1)))
set_option maxRecDepth 100000 in
theorem ev_j_clampTimeout (H : AHeap) (a : Nat) (v1 : Int32) {res : Int32} {out : Option Value × AHeap} (h : j_clampTimeout v1 = res) (hk : out = (some (.int res), H)) : Eval own_P 14 0 [some (.ref a), some (.int v1)] [] H out := by
  rw [j_clampTimeout] at h
  refine Eval.iload_n rfl rfl ?_
  by_cases hc55 : v1 < (0 : Int32)
  · rw [if_pos hc55] at h
    refine Eval.ifF rfl (tlt hc55).2.1 ?_
    refine Eval.iconst (x := (0 : Int32)) rfl rfl ?_
    subst h
    subst hk
    exact Eval.ret rfl rfl
  · rw [if_neg hc55] at h
    refine Eval.ifT (t := 6) rfl rfl (flt hc55).2.1 ?_
    refine Eval.iload_n rfl rfl ?_
    refine Eval.bipush (x := (50 : Int32)) rfl rfl ?_
    by_cases hc56 : (50 : Int32) < v1
    · rw [if_pos hc56] at h
      refine Eval.icmpF rfl (tlt hc56).2.2.2 ?_
      refine Eval.bipush (x := (50 : Int32)) rfl rfl ?_
      subst h
      subst hk
      exact Eval.ret rfl rfl
    · rw [if_neg hc56] at h
      refine Eval.icmpT (t := 15) rfl rfl (flt hc56).2.2.2 ?_
      refine Eval.iload_n rfl rfl ?_
      subst h
      subst hk
      exact Eval.ret rfl rfl
def j_inNodes (v1 : Int32) : Int32 := (if v1 < (0 : Int32) then ((0 : Int32)) else (if v1 < (8 : Int32) then ((1 : Int32)) else ((0 : Int32))))
set_option maxRecDepth 100000 in
theorem ev_j_inNodes (H : AHeap) (a : Nat) (v1 : Int32) {res : Int32} {out : Option Value × AHeap} (h : j_inNodes v1 = res) (hk : out = (some (.int res), H)) : Eval own_P 8 0 [some (.ref a), some (.int v1)] [] H out := by
  rw [j_inNodes] at h
  refine Eval.iload_n rfl rfl ?_
  by_cases hc67 : v1 < (0 : Int32)
  · rw [if_pos hc67] at h
    refine Eval.ifT (t := 14) rfl rfl (tlt hc67).1 ?_
    refine Eval.iconst (x := (0 : Int32)) rfl rfl ?_
    subst h
    subst hk
    exact Eval.ret rfl rfl
  · rw [if_neg hc67] at h
    refine Eval.ifF rfl (flt hc67).1 ?_
    refine Eval.iload_n rfl rfl ?_
    refine Eval.bipush (x := (8 : Int32)) rfl rfl ?_
    by_cases hc68 : v1 < (8 : Int32)
    · rw [if_pos hc68] at h
      refine Eval.icmpF rfl (tlt hc68).2.1 ?_
      refine Eval.iconst (x := (1 : Int32)) rfl rfl ?_
      refine Eval.goto (t := 15) rfl rfl ?_
      subst h
      subst hk
      exact Eval.ret rfl rfl
    · rw [if_neg hc68] at h
      refine Eval.icmpT (t := 14) rfl rfl (flt hc68).2.1 ?_
      refine Eval.iconst (x := (0 : Int32)) rfl rfl ?_
      subst h
      subst hk
      exact Eval.ret rfl rfl
def j_append_b55 (s : Q) (v1 : Int32) (v2 : Int32) : Option (Q) := (if inb s.f_tail.length v2 = true then (if inb s.f_len.length v2 = true then (if inb s.f_len.length v2 = true then some ((Q.mk s.f_st s.f_lk s.f_tmo s.f_spin s.f_nxt0 s.f_prv1 s.f_head (wr s.f_tail v2 v1) (wr s.f_len v2 ((rd s.f_len v2) + (1 : Int32))) s.f_ent s.f_aband s.f_log s.f_hist s.f_n s.f_clk)) else none) else none) else none)
theorem ln_j_append_b55 {s : Q} {v1 : Int32} {v2 : Int32} {res : Q} (h : j_append_b55 s v1 v2 = some res) : Q.len res = Q.len s := by
  rw [j_append_b55] at h
  obtain ⟨hb74, h⟩ := ite_some h
  obtain ⟨hb75, h⟩ := ite_some h
  obtain ⟨hb76, h⟩ := ite_some h
  have hr0 := Option.some.inj h
  subst hr0
  show Q.len (Q.mk s.f_st s.f_lk s.f_tmo s.f_spin s.f_nxt0 s.f_prv1 s.f_head (wr s.f_tail v2 v1) (wr s.f_len v2 ((rd s.f_len v2) + (1 : Int32))) s.f_ent s.f_aband s.f_log s.f_hist s.f_n s.f_clk) = _
  exact (Eq.trans (show Q.len (Q.mk s.f_st s.f_lk s.f_tmo s.f_spin s.f_nxt0 s.f_prv1 s.f_head (wr s.f_tail v2 v1) (wr s.f_len v2 ((rd s.f_len v2) + (1 : Int32))) s.f_ent s.f_aband s.f_log s.f_hist s.f_n s.f_clk) = Q.len s from own_lenmk.trans (by first | (simp only [len_wr, len_wrL] <;> rfl) | rfl)) rfl)
set_option maxRecDepth 100000 in
theorem ev_j_append_b55 (R : AHeap) (s : Q) (v1 : Int32) (v2 : Int32) {res : Q} {out : Option Value × AHeap} (h : j_append_b55 s v1 v2 = some res) (hk : out = (none, (W1 res R))) : Eval own_P 15 55 [some (.ref 0), some (.int v1), some (.int v2), none] [] (W1 s R) out := by
  rw [j_append_b55] at h
  refine Eval.aload_n rfl rfl ?_
  refine Eval.getfield rfl rfl own_g1_tail ?_
  refine Eval.iload_n rfl rfl ?_
  refine Eval.iload_n rfl rfl ?_
  obtain ⟨hb74, h⟩ := ite_some h
  refine Eval.iastore rfl rfl own_a1_tail hb74 own_s1_tail ?_
  refine Eval.aload_n rfl rfl ?_
  refine Eval.getfield rfl rfl own_g1_len ?_
  refine Eval.iload_n rfl rfl ?_
  refine Eval.aload_n rfl rfl ?_
  refine Eval.getfield rfl rfl own_g1_len ?_
  refine Eval.iload_n rfl rfl ?_
  obtain ⟨hb75, h⟩ := ite_some h
  refine Eval.iaload rfl own_a1_len hb75 ?_
  refine Eval.iconst (x := (1 : Int32)) rfl rfl ?_
  refine Eval.iadd rfl ?_
  obtain ⟨hb76, h⟩ := ite_some h
  refine Eval.iastore rfl rfl own_a1_len hb76 own_s1_len ?_
  cases h
  subst hk
  exact Eval.retH own_mk1 rfl rfl
def j_append_b43 (s : Q) (v1 : Int32) (v2 : Int32) (v3 : Int32) : Option (Q) := (if v3 = (-1 : Int32) then (if inb s.f_head.length v2 = true then (j_append_b55 (Q.mk s.f_st s.f_lk s.f_tmo s.f_spin s.f_nxt0 s.f_prv1 (wr s.f_head v2 v1) s.f_tail s.f_len s.f_ent s.f_aband s.f_log s.f_hist s.f_n s.f_clk) v1 v2) else none) else (j_append_b55 s v1 v2))
theorem ln_j_append_b43 {s : Q} {v1 : Int32} {v2 : Int32} {v3 : Int32} {res : Q} (h : j_append_b43 s v1 v2 v3 = some res) : Q.len res = Q.len s := by
  rw [j_append_b43] at h
  by_cases hc72 : v3 = (-1 : Int32)
  · rw [if_pos hc72] at h
    obtain ⟨hb73, h⟩ := ite_some h
    exact Eq.trans (ln_j_append_b55 h) (Eq.trans (show Q.len (Q.mk s.f_st s.f_lk s.f_tmo s.f_spin s.f_nxt0 s.f_prv1 (wr s.f_head v2 v1) s.f_tail s.f_len s.f_ent s.f_aband s.f_log s.f_hist s.f_n s.f_clk) = Q.len s from own_lenmk.trans (by first | (simp only [len_wr, len_wrL] <;> rfl) | rfl)) rfl)
  · rw [if_neg hc72] at h
    exact Eq.trans (ln_j_append_b55 h) rfl
set_option maxRecDepth 100000 in
theorem ev_j_append_b43 (R : AHeap) (s : Q) (v1 : Int32) (v2 : Int32) (v3 : Int32) {res : Q} {out : Option Value × AHeap} (h : j_append_b43 s v1 v2 v3 = some res) (hk : out = (none, (W1 res R))) : Eval own_P 15 43 [some (.ref 0), some (.int v1), some (.int v2), some (.int v3)] [] (W1 s R) out := by
  rw [j_append_b43] at h
  refine Eval.iload_n rfl rfl ?_
  refine Eval.iconst (x := (-1 : Int32)) rfl rfl ?_
  by_cases hc72 : v3 = (-1 : Int32)
  · rw [if_pos hc72] at h
    refine Eval.icmpF rfl (teq hc72).2 ?_
    refine Eval.aload_n rfl rfl ?_
    refine Eval.getfield rfl rfl own_g1_head ?_
    refine Eval.iload_n rfl rfl ?_
    refine Eval.iload_n rfl rfl ?_
    obtain ⟨hb73, h⟩ := ite_some h
    refine Eval.iastore rfl rfl own_a1_head hb73 own_s1_head ?_
    refine Eval.heap own_mk1 ?_
    refine Eval.weak (L' := [some (.ref 0), some (.int v1), some (.int v2), none]) ⟨_, _, rfl, Or.inr rfl, _, _, rfl, Or.inr rfl, _, _, rfl, Or.inr rfl, _, _, rfl, Or.inl rfl, rfl⟩ ?_
    exact ev_j_append_b55 R (Q.mk s.f_st s.f_lk s.f_tmo s.f_spin s.f_nxt0 s.f_prv1 (wr s.f_head v2 v1) s.f_tail s.f_len s.f_ent s.f_aband s.f_log s.f_hist s.f_n s.f_clk) v1 v2 h hk
  · rw [if_neg hc72] at h
    refine Eval.icmpT (t := 55) rfl rfl (feq hc72).2 ?_
    refine Eval.weak (L' := [some (.ref 0), some (.int v1), some (.int v2), none]) ⟨_, _, rfl, Or.inr rfl, _, _, rfl, Or.inr rfl, _, _, rfl, Or.inr rfl, _, _, rfl, Or.inl rfl, rfl⟩ ?_
    exact ev_j_append_b55 R s v1 v2 h hk
def j_append (s : Q) (v1 : Int32) (v2 : Int32) : Option (Q) := (if inb s.f_tail.length v2 = true then (if v2 = (0 : Int32) then (if inb s.f_nxt0.length v1 = true then (if (j_inNodes (rd s.f_tail v2)) = (0 : Int32) then (j_append_b43 (Q.mk s.f_st s.f_lk s.f_tmo s.f_spin (wr s.f_nxt0 v1 (-1 : Int32)) s.f_prv1 s.f_head s.f_tail s.f_len s.f_ent s.f_aband s.f_log s.f_hist s.f_n s.f_clk) v1 v2 (rd s.f_tail v2)) else (if inb (wr s.f_nxt0 v1 (-1 : Int32)).length (rd s.f_tail v2) = true then (j_append_b43 (Q.mk s.f_st s.f_lk s.f_tmo s.f_spin (wr (wr s.f_nxt0 v1 (-1 : Int32)) (rd s.f_tail v2) v1) s.f_prv1 s.f_head s.f_tail s.f_len s.f_ent s.f_aband s.f_log s.f_hist s.f_n s.f_clk) v1 v2 (rd s.f_tail v2)) else none)) else none) else (if inb s.f_prv1.length v1 = true then (j_append_b43 (Q.mk s.f_st s.f_lk s.f_tmo s.f_spin s.f_nxt0 (wr s.f_prv1 v1 (rd s.f_tail v2)) s.f_head s.f_tail s.f_len s.f_ent s.f_aband s.f_log s.f_hist s.f_n s.f_clk) v1 v2 (rd s.f_tail v2)) else none)) else none)
theorem ln_j_append {s : Q} {v1 : Int32} {v2 : Int32} {res : Q} (h : j_append s v1 v2 = some res) : Q.len res = Q.len s := by
  rw [j_append] at h
  obtain ⟨hb63, h⟩ := ite_some h
  by_cases hc65 : v2 = (0 : Int32)
  · rw [if_pos hc65] at h
    obtain ⟨hb66, h⟩ := ite_some h
    by_cases hc70 : (j_inNodes (rd s.f_tail v2)) = (0 : Int32)
    · rw [if_pos hc70] at h
      exact Eq.trans (ln_j_append_b43 h) (Eq.trans (show Q.len (Q.mk s.f_st s.f_lk s.f_tmo s.f_spin (wr s.f_nxt0 v1 (-1 : Int32)) s.f_prv1 s.f_head s.f_tail s.f_len s.f_ent s.f_aband s.f_log s.f_hist s.f_n s.f_clk) = Q.len s from own_lenmk.trans (by first | (simp only [len_wr, len_wrL] <;> rfl) | rfl)) rfl)
    · rw [if_neg hc70] at h
      obtain ⟨hb77, h⟩ := ite_some h
      exact Eq.trans (ln_j_append_b43 h) (Eq.trans (show Q.len (Q.mk s.f_st s.f_lk s.f_tmo s.f_spin (wr (wr s.f_nxt0 v1 (-1 : Int32)) (rd s.f_tail v2) v1) s.f_prv1 s.f_head s.f_tail s.f_len s.f_ent s.f_aband s.f_log s.f_hist s.f_n s.f_clk) = Q.len s from own_lenmk.trans (by first | (simp only [len_wr, len_wrL] <;> rfl) | rfl)) rfl)
  · rw [if_neg hc65] at h
    obtain ⟨hb78, h⟩ := ite_some h
    exact Eq.trans (ln_j_append_b43 h) (Eq.trans (show Q.len (Q.mk s.f_st s.f_lk s.f_tmo s.f_spin s.f_nxt0 (wr s.f_prv1 v1 (rd s.f_tail v2)) s.f_head s.f_tail s.f_len s.f_ent s.f_aband s.f_log s.f_hist s.f_n s.f_clk) = Q.len s from own_lenmk.trans (by first | (simp only [len_wr, len_wrL] <;> rfl) | rfl)) rfl)
set_option maxRecDepth 100000 in
theorem ev_j_append (R : AHeap) (s : Q) (v1 : Int32) (v2 : Int32) {res : Q} {out : Option Value × AHeap} (h : j_append s v1 v2 = some res) (hk : out = (none, (W1 res R))) : Eval own_P 15 0 [some (.ref 0), some (.int v1), some (.int v2), none] [] (W1 s R) out := by
  rw [j_append] at h
  refine Eval.aload_n rfl rfl ?_
  refine Eval.getfield rfl rfl own_g1_tail ?_
  refine Eval.iload_n rfl rfl ?_
  obtain ⟨hb63, h⟩ := ite_some h
  refine Eval.iaload rfl own_a1_tail hb63 ?_
  refine Eval.istore_n (L' := [some (.ref 0), some (.int v1), some (.int v2), some (.int (rd s.f_tail v2))]) rfl rfl ?_
  refine Eval.iload_n rfl rfl ?_
  by_cases hc65 : v2 = (0 : Int32)
  · rw [if_pos hc65] at h
    refine Eval.ifF rfl (teq hc65).2 ?_
    refine Eval.aload_n rfl rfl ?_
    refine Eval.getfield rfl rfl own_g1_nxt0 ?_
    refine Eval.iload_n rfl rfl ?_
    refine Eval.iconst (x := (-1 : Int32)) rfl rfl ?_
    obtain ⟨hb66, h⟩ := ite_some h
    refine Eval.iastore rfl rfl own_a1_nxt0 hb66 own_s1_nxt0 ?_
    refine Eval.aload_n rfl rfl ?_
    refine Eval.iload_n rfl rfl ?_
    refine Eval.callI (rest := []) (x := (j_inNodes (rd s.f_tail v2))) (H1 := (C1 s.f_st s.f_lk s.f_tmo s.f_spin (wr s.f_nxt0 v1 (-1 : Int32)) s.f_prv1 s.f_head s.f_tail s.f_len s.f_ent s.f_aband s.f_log s.f_hist s.f_n s.f_clk R)) rfl rfl (ev_j_inNodes (C1 s.f_st s.f_lk s.f_tmo s.f_spin (wr s.f_nxt0 v1 (-1 : Int32)) s.f_prv1 s.f_head s.f_tail s.f_len s.f_ent s.f_aband s.f_log s.f_hist s.f_n s.f_clk R) 0 (rd s.f_tail v2) rfl rfl) ?_
    by_cases hc70 : (j_inNodes (rd s.f_tail v2)) = (0 : Int32)
    · rw [if_pos hc70] at h
      refine Eval.ifT (t := 43) rfl rfl (teq hc70).1 ?_
      refine Eval.heap own_mk1 ?_
      exact ev_j_append_b43 R (Q.mk s.f_st s.f_lk s.f_tmo s.f_spin (wr s.f_nxt0 v1 (-1 : Int32)) s.f_prv1 s.f_head s.f_tail s.f_len s.f_ent s.f_aband s.f_log s.f_hist s.f_n s.f_clk) v1 v2 (rd s.f_tail v2) h hk
    · rw [if_neg hc70] at h
      refine Eval.ifF rfl (feq hc70).1 ?_
      refine Eval.aload_n rfl rfl ?_
      refine Eval.getfield rfl rfl own_g1_nxt0 ?_
      refine Eval.iload_n rfl rfl ?_
      refine Eval.iload_n rfl rfl ?_
      obtain ⟨hb77, h⟩ := ite_some h
      refine Eval.iastore rfl rfl own_a1_nxt0 hb77 own_s1_nxt0 ?_
      refine Eval.goto (t := 43) rfl rfl ?_
      refine Eval.heap own_mk1 ?_
      exact ev_j_append_b43 R (Q.mk s.f_st s.f_lk s.f_tmo s.f_spin (wr (wr s.f_nxt0 v1 (-1 : Int32)) (rd s.f_tail v2) v1) s.f_prv1 s.f_head s.f_tail s.f_len s.f_ent s.f_aband s.f_log s.f_hist s.f_n s.f_clk) v1 v2 (rd s.f_tail v2) h hk
  · rw [if_neg hc65] at h
    refine Eval.ifT (t := 36) rfl rfl (feq hc65).2 ?_
    refine Eval.aload_n rfl rfl ?_
    refine Eval.getfield rfl rfl own_g1_prv1 ?_
    refine Eval.iload_n rfl rfl ?_
    refine Eval.iload_n rfl rfl ?_
    obtain ⟨hb78, h⟩ := ite_some h
    refine Eval.iastore rfl rfl own_a1_prv1 hb78 own_s1_prv1 ?_
    refine Eval.heap own_mk1 ?_
    exact ev_j_append_b43 R (Q.mk s.f_st s.f_lk s.f_tmo s.f_spin s.f_nxt0 (wr s.f_prv1 v1 (rd s.f_tail v2)) s.f_head s.f_tail s.f_len s.f_ent s.f_aband s.f_log s.f_hist s.f_n s.f_clk) v1 v2 (rd s.f_tail v2) h hk
def j_enter_b29 (s : Q) (v2 : Int32) (v3 : Int32) : Option (Q) := (if inb s.f_ent.length v2 = true then some ((Q.mk s.f_st s.f_lk s.f_tmo s.f_spin s.f_nxt0 s.f_prv1 s.f_head s.f_tail s.f_len (wr s.f_ent v2 (v3 + (1 : Int32))) s.f_aband s.f_log s.f_hist s.f_n s.f_clk)) else none)
theorem ln_j_enter_b29 {s : Q} {v2 : Int32} {v3 : Int32} {res : Q} (h : j_enter_b29 s v2 v3 = some res) : Q.len res = Q.len s := by
  rw [j_enter_b29] at h
  obtain ⟨hb87, h⟩ := ite_some h
  have hr0 := Option.some.inj h
  subst hr0
  show Q.len (Q.mk s.f_st s.f_lk s.f_tmo s.f_spin s.f_nxt0 s.f_prv1 s.f_head s.f_tail s.f_len (wr s.f_ent v2 (v3 + (1 : Int32))) s.f_aband s.f_log s.f_hist s.f_n s.f_clk) = _
  exact (Eq.trans (show Q.len (Q.mk s.f_st s.f_lk s.f_tmo s.f_spin s.f_nxt0 s.f_prv1 s.f_head s.f_tail s.f_len (wr s.f_ent v2 (v3 + (1 : Int32))) s.f_aband s.f_log s.f_hist s.f_n s.f_clk) = Q.len s from own_lenmk.trans (by first | (simp only [len_wr, len_wrL] <;> rfl) | rfl)) rfl)
set_option maxRecDepth 100000 in
theorem ev_j_enter_b29 (R : AHeap) (s : Q) (v2 : Int32) (v3 : Int32) {res : Q} {out : Option Value × AHeap} (h : j_enter_b29 s v2 v3 = some res) (hk : out = (none, (W1 res R))) : Eval own_P 16 29 [some (.ref 0), none, some (.int v2), some (.int v3)] [] (W1 s R) out := by
  rw [j_enter_b29] at h
  refine Eval.aload_n rfl rfl ?_
  refine Eval.getfield rfl rfl own_g1_ent ?_
  refine Eval.iload_n rfl rfl ?_
  refine Eval.iload_n rfl rfl ?_
  refine Eval.iconst (x := (1 : Int32)) rfl rfl ?_
  refine Eval.iadd rfl ?_
  obtain ⟨hb87, h⟩ := ite_some h
  refine Eval.iastore rfl rfl own_a1_ent hb87 own_s1_ent ?_
  cases h
  subst hk
  exact Eval.retH own_mk1 rfl rfl
def j_enter (s : Q) (v1 : Int32) (v2 : Int32) : Option (Q) := (if inb s.f_ent.length v2 = true then (if (rd s.f_ent v2) < (0 : Int32) then (j_enter_b29 s v2 (rd s.f_ent v2)) else (if (rd s.f_ent v2) < (64 : Int32) then (if inb s.f_log.length ((v2 * (64 : Int32)) + (rd s.f_ent v2)) = true then (j_enter_b29 (Q.mk s.f_st s.f_lk s.f_tmo s.f_spin s.f_nxt0 s.f_prv1 s.f_head s.f_tail s.f_len s.f_ent s.f_aband (wr s.f_log ((v2 * (64 : Int32)) + (rd s.f_ent v2)) v1) s.f_hist s.f_n s.f_clk) v2 (rd s.f_ent v2)) else none) else (j_enter_b29 s v2 (rd s.f_ent v2)))) else none)
theorem ln_j_enter {s : Q} {v1 : Int32} {v2 : Int32} {res : Q} (h : j_enter s v1 v2 = some res) : Q.len res = Q.len s := by
  rw [j_enter] at h
  obtain ⟨hb83, h⟩ := ite_some h
  by_cases hc86 : (rd s.f_ent v2) < (0 : Int32)
  · rw [if_pos hc86] at h
    exact Eq.trans (ln_j_enter_b29 h) rfl
  · rw [if_neg hc86] at h
    by_cases hc89 : (rd s.f_ent v2) < (64 : Int32)
    · rw [if_pos hc89] at h
      obtain ⟨hb90, h⟩ := ite_some h
      exact Eq.trans (ln_j_enter_b29 h) (Eq.trans (show Q.len (Q.mk s.f_st s.f_lk s.f_tmo s.f_spin s.f_nxt0 s.f_prv1 s.f_head s.f_tail s.f_len s.f_ent s.f_aband (wr s.f_log ((v2 * (64 : Int32)) + (rd s.f_ent v2)) v1) s.f_hist s.f_n s.f_clk) = Q.len s from own_lenmk.trans (by first | (simp only [len_wr, len_wrL] <;> rfl) | rfl)) rfl)
    · rw [if_neg hc89] at h
      exact Eq.trans (ln_j_enter_b29 h) rfl
set_option maxRecDepth 100000 in
theorem ev_j_enter (R : AHeap) (s : Q) (v1 : Int32) (v2 : Int32) {res : Q} {out : Option Value × AHeap} (h : j_enter s v1 v2 = some res) (hk : out = (none, (W1 res R))) : Eval own_P 16 0 [some (.ref 0), some (.int v1), some (.int v2), none] [] (W1 s R) out := by
  rw [j_enter] at h
  refine Eval.aload_n rfl rfl ?_
  refine Eval.getfield rfl rfl own_g1_ent ?_
  refine Eval.iload_n rfl rfl ?_
  obtain ⟨hb83, h⟩ := ite_some h
  refine Eval.iaload rfl own_a1_ent hb83 ?_
  refine Eval.istore_n (L' := [some (.ref 0), some (.int v1), some (.int v2), some (.int (rd s.f_ent v2))]) rfl rfl ?_
  refine Eval.iload_n rfl rfl ?_
  by_cases hc86 : (rd s.f_ent v2) < (0 : Int32)
  · rw [if_pos hc86] at h
    refine Eval.ifT (t := 29) rfl rfl (tlt hc86).1 ?_
    refine Eval.weak (L' := [some (.ref 0), none, some (.int v2), some (.int (rd s.f_ent v2))]) ⟨_, _, rfl, Or.inr rfl, _, _, rfl, Or.inl rfl, _, _, rfl, Or.inr rfl, _, _, rfl, Or.inr rfl, rfl⟩ ?_
    exact ev_j_enter_b29 R s v2 (rd s.f_ent v2) h hk
  · rw [if_neg hc86] at h
    refine Eval.ifF rfl (flt hc86).1 ?_
    refine Eval.iload_n rfl rfl ?_
    refine Eval.bipush (x := (64 : Int32)) rfl rfl ?_
    by_cases hc89 : (rd s.f_ent v2) < (64 : Int32)
    · rw [if_pos hc89] at h
      refine Eval.icmpF rfl (tlt hc89).2.1 ?_
      refine Eval.aload_n rfl rfl ?_
      refine Eval.getfield rfl rfl own_g1_log ?_
      refine Eval.iload_n rfl rfl ?_
      refine Eval.bipush (x := (64 : Int32)) rfl rfl ?_
      refine Eval.imul rfl ?_
      refine Eval.iload_n rfl rfl ?_
      refine Eval.iadd rfl ?_
      refine Eval.iload_n rfl rfl ?_
      obtain ⟨hb90, h⟩ := ite_some h
      refine Eval.iastore rfl rfl own_a1_log hb90 own_s1_log ?_
      refine Eval.heap own_mk1 ?_
      refine Eval.weak (L' := [some (.ref 0), none, some (.int v2), some (.int (rd s.f_ent v2))]) ⟨_, _, rfl, Or.inr rfl, _, _, rfl, Or.inl rfl, _, _, rfl, Or.inr rfl, _, _, rfl, Or.inr rfl, rfl⟩ ?_
      exact ev_j_enter_b29 R (Q.mk s.f_st s.f_lk s.f_tmo s.f_spin s.f_nxt0 s.f_prv1 s.f_head s.f_tail s.f_len s.f_ent s.f_aband (wr s.f_log ((v2 * (64 : Int32)) + (rd s.f_ent v2)) v1) s.f_hist s.f_n s.f_clk) v2 (rd s.f_ent v2) h hk
    · rw [if_neg hc89] at h
      refine Eval.icmpT (t := 29) rfl rfl (flt hc89).2.1 ?_
      refine Eval.weak (L' := [some (.ref 0), none, some (.int v2), some (.int (rd s.f_ent v2))]) ⟨_, _, rfl, Or.inr rfl, _, _, rfl, Or.inl rfl, _, _, rfl, Or.inr rfl, _, _, rfl, Or.inr rfl, rfl⟩ ?_
      exact ev_j_enter_b29 R s v2 (rd s.f_ent v2) h hk
def j_holder (s : Q) (v1 : Int32) : Option (Int32) := (if (j_validLock v1) = (0 : Int32) then some ((-2 : Int32)) else (if inb s.f_head.length v1 = true then (if (j_inNodes (rd s.f_head v1)) = (0 : Int32) then some ((-1 : Int32)) else (if inb s.f_st.length (rd s.f_head v1) = true then (if (rd s.f_st (rd s.f_head v1)) = (3 : Int32) then some ((rd s.f_head v1)) else some ((-1 : Int32))) else none)) else none))
set_option maxRecDepth 100000 in
theorem ev_j_holder (R : AHeap) (s : Q) (v1 : Int32) {res : Int32} {out : Option Value × AHeap} (h : j_holder s v1 = some res) (hk : out = (some (.int res), (W1 s R))) : Eval own_P 7 0 [some (.ref 0), some (.int v1), none] [] (W1 s R) out := by
  rw [j_holder] at h
  refine Eval.aload_n rfl rfl ?_
  refine Eval.iload_n rfl rfl ?_
  refine Eval.callI (rest := []) (x := (j_validLock v1)) (H1 := (W1 s R)) rfl rfl (ev_j_validLock (W1 s R) 0 v1 rfl rfl) ?_
  by_cases hc96 : (j_validLock v1) = (0 : Int32)
  · rw [if_pos hc96] at h
    refine Eval.ifF rfl (teq hc96).2 ?_
    refine Eval.bipush (x := (-2 : Int32)) rfl rfl ?_
    cases h
    subst hk
    exact Eval.ret rfl rfl
  · rw [if_neg hc96] at h
    refine Eval.ifT (t := 11) rfl rfl (feq hc96).2 ?_
    refine Eval.aload_n rfl rfl ?_
    refine Eval.getfield rfl rfl own_g1_head ?_
    refine Eval.iload_n rfl rfl ?_
    obtain ⟨hb97, h⟩ := ite_some h
    refine Eval.iaload rfl own_a1_head hb97 ?_
    refine Eval.istore_n (L' := [some (.ref 0), some (.int v1), some (.int (rd s.f_head v1))]) rfl rfl ?_
    refine Eval.aload_n rfl rfl ?_
    refine Eval.iload_n rfl rfl ?_
    refine Eval.callI (rest := []) (x := (j_inNodes (rd s.f_head v1))) (H1 := (W1 s R)) rfl rfl (ev_j_inNodes (W1 s R) 0 (rd s.f_head v1) rfl rfl) ?_
    by_cases hc98 : (j_inNodes (rd s.f_head v1)) = (0 : Int32)
    · rw [if_pos hc98] at h
      refine Eval.ifT (t := 38) rfl rfl (teq hc98).1 ?_
      refine Eval.iconst (x := (-1 : Int32)) rfl rfl ?_
      cases h
      subst hk
      exact Eval.ret rfl rfl
    · rw [if_neg hc98] at h
      refine Eval.ifF rfl (feq hc98).1 ?_
      refine Eval.aload_n rfl rfl ?_
      refine Eval.getfield rfl rfl own_g1_st ?_
      refine Eval.iload_n rfl rfl ?_
      obtain ⟨hb99, h⟩ := ite_some h
      refine Eval.iaload rfl own_a1_st hb99 ?_
      refine Eval.iconst (x := (3 : Int32)) rfl rfl ?_
      by_cases hc100 : (rd s.f_st (rd s.f_head v1)) = (3 : Int32)
      · rw [if_pos hc100] at h
        refine Eval.icmpF rfl (teq hc100).2 ?_
        refine Eval.iload_n rfl rfl ?_
        cases h
        subst hk
        exact Eval.ret rfl rfl
      · rw [if_neg hc100] at h
        refine Eval.icmpT (t := 38) rfl rfl (feq hc100).2 ?_
        refine Eval.iconst (x := (-1 : Int32)) rfl rfl ?_
        cases h
        subst hk
        exact Eval.ret rfl rfl
def j_recordHistory (s : Q) : Option (Q) := (if s.f_clk < (1 : Int32) then some (s) else (if (256 : Int32) < s.f_clk then some (s) else ((j_holder s (0 : Int32)).bind fun p101 => ((j_holder s (1 : Int32)).bind fun p103 => (if inb s.f_hist.length (s.f_clk - (1 : Int32)) = true then (if inb (wr s.f_hist (s.f_clk - (1 : Int32)) p101).length (((256 : Int32) + s.f_clk) - (1 : Int32)) = true then some ((Q.mk s.f_st s.f_lk s.f_tmo s.f_spin s.f_nxt0 s.f_prv1 s.f_head s.f_tail s.f_len s.f_ent s.f_aband s.f_log (wr (wr s.f_hist (s.f_clk - (1 : Int32)) p101) (((256 : Int32) + s.f_clk) - (1 : Int32)) p103) s.f_n s.f_clk)) else none) else none)))))
theorem ln_j_recordHistory {s : Q} {res : Q} (h : j_recordHistory s = some res) : Q.len res = Q.len s := by
  rw [j_recordHistory] at h
  by_cases hc94 : s.f_clk < (1 : Int32)
  · rw [if_pos hc94] at h
    have hr0 := Option.some.inj h
    subst hr0
    show Q.len s = _
    exact rfl
  · rw [if_neg hc94] at h
    by_cases hc95 : (256 : Int32) < s.f_clk
    · rw [if_pos hc95] at h
      have hr0 := Option.some.inj h
      subst hr0
      show Q.len s = _
      exact rfl
    · rw [if_neg hc95] at h
      obtain ⟨p101, hq102, h⟩ := bind_some h
      obtain ⟨p103, hq104, h⟩ := bind_some h
      obtain ⟨hb105, h⟩ := ite_some h
      obtain ⟨hb106, h⟩ := ite_some h
      have hr0 := Option.some.inj h
      subst hr0
      show Q.len (Q.mk s.f_st s.f_lk s.f_tmo s.f_spin s.f_nxt0 s.f_prv1 s.f_head s.f_tail s.f_len s.f_ent s.f_aband s.f_log (wr (wr s.f_hist (s.f_clk - (1 : Int32)) p101) (((256 : Int32) + s.f_clk) - (1 : Int32)) p103) s.f_n s.f_clk) = _
      exact (Eq.trans (show Q.len (Q.mk s.f_st s.f_lk s.f_tmo s.f_spin s.f_nxt0 s.f_prv1 s.f_head s.f_tail s.f_len s.f_ent s.f_aband s.f_log (wr (wr s.f_hist (s.f_clk - (1 : Int32)) p101) (((256 : Int32) + s.f_clk) - (1 : Int32)) p103) s.f_n s.f_clk) = Q.len s from own_lenmk.trans (by first | (simp only [len_wr, len_wrL] <;> rfl) | rfl)) rfl)
set_option maxRecDepth 100000 in
theorem ev_j_recordHistory (R : AHeap) (s : Q) {res : Q} {out : Option Value × AHeap} (h : j_recordHistory s = some res) (hk : out = (none, (W1 res R))) : Eval own_P 17 0 [some (.ref 0), none, none] [] (W1 s R) out := by
  rw [j_recordHistory] at h
  refine Eval.aload_n rfl rfl ?_
  refine Eval.getfield rfl rfl own_g1_clk ?_
  refine Eval.iconst (x := (1 : Int32)) rfl rfl ?_
  by_cases hc94 : s.f_clk < (1 : Int32)
  · rw [if_pos hc94] at h
    refine Eval.icmpT (t := 58) rfl rfl (tlt hc94).1 ?_
    cases h
    subst hk
    exact Eval.ret rfl rfl
  · rw [if_neg hc94] at h
    refine Eval.icmpF rfl (flt hc94).1 ?_
    refine Eval.aload_n rfl rfl ?_
    refine Eval.getfield rfl rfl own_g1_clk ?_
    refine Eval.sipush (x := (256 : Int32)) rfl rfl ?_
    by_cases hc95 : (256 : Int32) < s.f_clk
    · rw [if_pos hc95] at h
      refine Eval.icmpT (t := 58) rfl rfl (tlt hc95).2.2.1 ?_
      cases h
      subst hk
      exact Eval.ret rfl rfl
    · rw [if_neg hc95] at h
      refine Eval.icmpF rfl (flt hc95).2.2.1 ?_
      refine Eval.aload_n rfl rfl ?_
      refine Eval.iconst (x := (0 : Int32)) rfl rfl ?_
      obtain ⟨p101, hq102, h⟩ := bind_some h
      refine Eval.callI (rest := []) (x := p101) (H1 := (W1 s R)) rfl rfl (ev_j_holder R s (0 : Int32) hq102 rfl) ?_
      refine Eval.istore_n (L' := [some (.ref 0), some (.int p101), none]) rfl rfl ?_
      refine Eval.aload_n rfl rfl ?_
      refine Eval.iconst (x := (1 : Int32)) rfl rfl ?_
      obtain ⟨p103, hq104, h⟩ := bind_some h
      refine Eval.callI (rest := []) (x := p103) (H1 := (W1 s R)) rfl rfl (ev_j_holder R s (1 : Int32) hq104 rfl) ?_
      refine Eval.istore_n (L' := [some (.ref 0), some (.int p101), some (.int p103)]) rfl rfl ?_
      refine Eval.aload_n rfl rfl ?_
      refine Eval.getfield rfl rfl own_g1_hist ?_
      refine Eval.aload_n rfl rfl ?_
      refine Eval.getfield rfl rfl own_g1_clk ?_
      refine Eval.iconst (x := (1 : Int32)) rfl rfl ?_
      refine Eval.isub rfl ?_
      refine Eval.iload_n rfl rfl ?_
      obtain ⟨hb105, h⟩ := ite_some h
      refine Eval.iastore rfl rfl own_a1_hist hb105 own_s1_hist ?_
      refine Eval.aload_n rfl rfl ?_
      refine Eval.getfield rfl rfl own_g1_hist ?_
      refine Eval.sipush (x := (256 : Int32)) rfl rfl ?_
      refine Eval.aload_n rfl rfl ?_
      refine Eval.getfield rfl rfl own_g1_clk ?_
      refine Eval.iadd rfl ?_
      refine Eval.iconst (x := (1 : Int32)) rfl rfl ?_
      refine Eval.isub rfl ?_
      refine Eval.iload_n rfl rfl ?_
      obtain ⟨hb106, h⟩ := ite_some h
      refine Eval.iastore rfl rfl own_a1_hist hb106 own_s1_hist ?_
      cases h
      subst hk
      exact Eval.retH own_mk1 rfl rfl
def j_acquire_b119 (s : Q) (v4 : Int32) : Option (Int32 × Q) := ((j_recordHistory s).bind fun p107 => some (v4, p107))
theorem ln_j_acquire_b119 {s : Q} {v4 : Int32} {res : Int32 × Q} (h : j_acquire_b119 s v4 = some res) : Q.len res.2 = Q.len s := by
  rw [j_acquire_b119] at h
  obtain ⟨p107, hq108, h⟩ := bind_some h
  have hl109 := (ln_j_recordHistory hq108).trans rfl
  have hr0 := Option.some.inj h
  subst hr0
  show Q.len p107 = _
  exact hl109
set_option maxRecDepth 100000 in
theorem ev_j_acquire_b119 (R : AHeap) (s : Q) (v4 : Int32) {res : Int32 × Q} {out : Option Value × AHeap} (h : j_acquire_b119 s v4 = some res) (hk : out = (some (.int res.1), (W1 res.2 R))) : Eval own_P 2 119 [some (.ref 0), none, none, none, some (.int v4)] [] (W1 s R) out := by
  rw [j_acquire_b119] at h
  refine Eval.aload_n rfl rfl ?_
  obtain ⟨p107, hq108, h⟩ := bind_some h
  refine Eval.callN (rest := []) (H1 := (W1 p107 R)) rfl rfl (ev_j_recordHistory R s hq108 rfl) ?_
  refine Eval.iload rfl rfl ?_
  cases h
  subst hk
  exact Eval.ret rfl rfl
def j_acquire (s : Q) (v1 : Int32) (v2 : Int32) (v3 : Int32) : Option (Int32 × Q) := (if (j_validThread s v1) = (0 : Int32) then some ((-2 : Int32), s) else (if (j_validLock v2) = (0 : Int32) then some ((-2 : Int32), s) else (if inb s.f_st.length v1 = true then (if (rd s.f_st v1) = (0 : Int32) then (if inb s.f_tmo.length v1 = true then (if inb s.f_spin.length v1 = true then (if inb s.f_lk.length v1 = true then (if inb s.f_len.length v2 = true then (if (rd s.f_len v2) = (0 : Int32) then ((j_append (Q.mk s.f_st (wr s.f_lk v1 v2) (wr s.f_tmo v1 (j_clampTimeout v3)) (wr s.f_spin v1 (0 : Int32)) s.f_nxt0 s.f_prv1 s.f_head s.f_tail s.f_len s.f_ent s.f_aband s.f_log s.f_hist s.f_n (s.f_clk + (1 : Int32))) v1 v2).bind fun p79 => (if inb p79.f_st.length v1 = true then ((j_enter (Q.mk (wr p79.f_st v1 (3 : Int32)) p79.f_lk p79.f_tmo p79.f_spin p79.f_nxt0 p79.f_prv1 p79.f_head p79.f_tail p79.f_len p79.f_ent p79.f_aband p79.f_log p79.f_hist p79.f_n p79.f_clk) v1 v2).bind fun p91 => (j_acquire_b119 p91 (3 : Int32))) else none)) else ((j_append (Q.mk s.f_st (wr s.f_lk v1 v2) (wr s.f_tmo v1 (j_clampTimeout v3)) (wr s.f_spin v1 (0 : Int32)) s.f_nxt0 s.f_prv1 s.f_head s.f_tail s.f_len s.f_ent s.f_aband s.f_log s.f_hist s.f_n (s.f_clk + (1 : Int32))) v1 v2).bind fun p110 => (if inb p110.f_st.length v1 = true then (j_acquire_b119 (Q.mk (wr p110.f_st v1 (1 : Int32)) p110.f_lk p110.f_tmo p110.f_spin p110.f_nxt0 p110.f_prv1 p110.f_head p110.f_tail p110.f_len p110.f_ent p110.f_aband p110.f_log p110.f_hist p110.f_n p110.f_clk) (1 : Int32)) else none))) else none) else none) else none) else none) else some ((-2 : Int32), s)) else none)))
theorem ln_j_acquire {s : Q} {v1 : Int32} {v2 : Int32} {v3 : Int32} {res : Int32 × Q} (h : j_acquire s v1 v2 v3 = some res) : Q.len res.2 = Q.len s := by
  rw [j_acquire] at h
  by_cases hc49 : (j_validThread s v1) = (0 : Int32)
  · rw [if_pos hc49] at h
    have hr0 := Option.some.inj h
    subst hr0
    show Q.len s = _
    exact rfl
  · rw [if_neg hc49] at h
    by_cases hc52 : (j_validLock v2) = (0 : Int32)
    · rw [if_pos hc52] at h
      have hr0 := Option.some.inj h
      subst hr0
      show Q.len s = _
      exact rfl
    · rw [if_neg hc52] at h
      obtain ⟨hb53, h⟩ := ite_some h
      by_cases hc54 : (rd s.f_st v1) = (0 : Int32)
      · rw [if_pos hc54] at h
        obtain ⟨hb57, h⟩ := ite_some h
        obtain ⟨hb58, h⟩ := ite_some h
        obtain ⟨hb59, h⟩ := ite_some h
        obtain ⟨hb60, h⟩ := ite_some h
        by_cases hc62 : (rd s.f_len v2) = (0 : Int32)
        · rw [if_pos hc62] at h
          obtain ⟨p79, hq80, h⟩ := bind_some h
          have hl81 := (ln_j_append hq80).trans (Eq.trans (show Q.len (Q.mk s.f_st (wr s.f_lk v1 v2) (wr s.f_tmo v1 (j_clampTimeout v3)) (wr s.f_spin v1 (0 : Int32)) s.f_nxt0 s.f_prv1 s.f_head s.f_tail s.f_len s.f_ent s.f_aband s.f_log s.f_hist s.f_n (s.f_clk + (1 : Int32))) = Q.len s from own_lenmk.trans (by first | (simp only [len_wr, len_wrL] <;> rfl) | rfl)) rfl)
          obtain ⟨hb82, h⟩ := ite_some h
          obtain ⟨p91, hq92, h⟩ := bind_some h
          have hl93 := (ln_j_enter hq92).trans (Eq.trans (show Q.len (Q.mk (wr p79.f_st v1 (3 : Int32)) p79.f_lk p79.f_tmo p79.f_spin p79.f_nxt0 p79.f_prv1 p79.f_head p79.f_tail p79.f_len p79.f_ent p79.f_aband p79.f_log p79.f_hist p79.f_n p79.f_clk) = Q.len p79 from own_lenmk.trans (by first | (simp only [len_wr, len_wrL] <;> rfl) | rfl)) hl81)
          exact Eq.trans (ln_j_acquire_b119 h) hl93
        · rw [if_neg hc62] at h
          obtain ⟨p110, hq111, h⟩ := bind_some h
          have hl112 := (ln_j_append hq111).trans (Eq.trans (show Q.len (Q.mk s.f_st (wr s.f_lk v1 v2) (wr s.f_tmo v1 (j_clampTimeout v3)) (wr s.f_spin v1 (0 : Int32)) s.f_nxt0 s.f_prv1 s.f_head s.f_tail s.f_len s.f_ent s.f_aband s.f_log s.f_hist s.f_n (s.f_clk + (1 : Int32))) = Q.len s from own_lenmk.trans (by first | (simp only [len_wr, len_wrL] <;> rfl) | rfl)) rfl)
          obtain ⟨hb113, h⟩ := ite_some h
          exact Eq.trans (ln_j_acquire_b119 h) (Eq.trans (show Q.len (Q.mk (wr p110.f_st v1 (1 : Int32)) p110.f_lk p110.f_tmo p110.f_spin p110.f_nxt0 p110.f_prv1 p110.f_head p110.f_tail p110.f_len p110.f_ent p110.f_aband p110.f_log p110.f_hist p110.f_n p110.f_clk) = Q.len p110 from own_lenmk.trans (by first | (simp only [len_wr, len_wrL] <;> rfl) | rfl)) hl112)
      · rw [if_neg hc54] at h
        have hr0 := Option.some.inj h
        subst hr0
        show Q.len s = _
        exact rfl
set_option maxRecDepth 100000 in
theorem ev_j_acquire (R : AHeap) (s : Q) (v1 : Int32) (v2 : Int32) (v3 : Int32) {res : Int32 × Q} {out : Option Value × AHeap} (h : j_acquire s v1 v2 v3 = some res) (hk : out = (some (.int res.1), (W1 res.2 R))) : Eval own_P 2 0 [some (.ref 0), some (.int v1), some (.int v2), some (.int v3), none] [] (W1 s R) out := by
  rw [j_acquire] at h
  refine Eval.aload_n rfl rfl ?_
  refine Eval.iload_n rfl rfl ?_
  refine Eval.callI (rest := []) (x := (j_validThread s v1)) (H1 := (W1 s R)) rfl rfl (ev_j_validThread R s v1 rfl rfl) ?_
  by_cases hc49 : (j_validThread s v1) = (0 : Int32)
  · rw [if_pos hc49] at h
    refine Eval.ifF rfl (teq hc49).2 ?_
    refine Eval.bipush (x := (-2 : Int32)) rfl rfl ?_
    cases h
    subst hk
    exact Eval.ret rfl rfl
  · rw [if_neg hc49] at h
    refine Eval.ifT (t := 11) rfl rfl (feq hc49).2 ?_
    refine Eval.aload_n rfl rfl ?_
    refine Eval.iload_n rfl rfl ?_
    refine Eval.callI (rest := []) (x := (j_validLock v2)) (H1 := (W1 s R)) rfl rfl (ev_j_validLock (W1 s R) 0 v2 rfl rfl) ?_
    by_cases hc52 : (j_validLock v2) = (0 : Int32)
    · rw [if_pos hc52] at h
      refine Eval.ifF rfl (teq hc52).2 ?_
      refine Eval.bipush (x := (-2 : Int32)) rfl rfl ?_
      cases h
      subst hk
      exact Eval.ret rfl rfl
    · rw [if_neg hc52] at h
      refine Eval.ifT (t := 22) rfl rfl (feq hc52).2 ?_
      refine Eval.aload_n rfl rfl ?_
      refine Eval.getfield rfl rfl own_g1_st ?_
      refine Eval.iload_n rfl rfl ?_
      obtain ⟨hb53, h⟩ := ite_some h
      refine Eval.iaload rfl own_a1_st hb53 ?_
      by_cases hc54 : (rd s.f_st v1) = (0 : Int32)
      · rw [if_pos hc54] at h
        refine Eval.ifT (t := 34) rfl rfl (teq hc54).1 ?_
        refine Eval.aload_n rfl rfl ?_
        refine Eval.aload_n rfl rfl ?_
        refine Eval.getfield rfl rfl own_g1_clk ?_
        refine Eval.iconst (x := (1 : Int32)) rfl rfl ?_
        refine Eval.iadd rfl ?_
        refine Eval.putfield rfl rfl own_p1_clk ?_
        refine Eval.aload_n rfl rfl ?_
        refine Eval.getfield rfl rfl own_g1_tmo ?_
        refine Eval.iload_n rfl rfl ?_
        refine Eval.aload_n rfl rfl ?_
        refine Eval.iload_n rfl rfl ?_
        refine Eval.callI (rest := [.int v1, .ref 3]) (x := (j_clampTimeout v3)) (H1 := (C1 s.f_st s.f_lk s.f_tmo s.f_spin s.f_nxt0 s.f_prv1 s.f_head s.f_tail s.f_len s.f_ent s.f_aband s.f_log s.f_hist s.f_n (s.f_clk + (1 : Int32)) R)) rfl rfl (ev_j_clampTimeout (C1 s.f_st s.f_lk s.f_tmo s.f_spin s.f_nxt0 s.f_prv1 s.f_head s.f_tail s.f_len s.f_ent s.f_aband s.f_log s.f_hist s.f_n (s.f_clk + (1 : Int32)) R) 0 v3 rfl rfl) ?_
        obtain ⟨hb57, h⟩ := ite_some h
        refine Eval.iastore rfl rfl own_a1_tmo hb57 own_s1_tmo ?_
        refine Eval.aload_n rfl rfl ?_
        refine Eval.getfield rfl rfl own_g1_spin ?_
        refine Eval.iload_n rfl rfl ?_
        refine Eval.iconst (x := (0 : Int32)) rfl rfl ?_
        obtain ⟨hb58, h⟩ := ite_some h
        refine Eval.iastore rfl rfl own_a1_spin hb58 own_s1_spin ?_
        refine Eval.aload_n rfl rfl ?_
        refine Eval.getfield rfl rfl own_g1_lk ?_
        refine Eval.iload_n rfl rfl ?_
        refine Eval.iload_n rfl rfl ?_
        obtain ⟨hb59, h⟩ := ite_some h
        refine Eval.iastore rfl rfl own_a1_lk hb59 own_s1_lk ?_
        refine Eval.aload_n rfl rfl ?_
        refine Eval.getfield rfl rfl own_g1_len ?_
        refine Eval.iload_n rfl rfl ?_
        obtain ⟨hb60, h⟩ := ite_some h
        refine Eval.iaload rfl own_a1_len hb60 ?_
        by_cases hc62 : (rd s.f_len v2) = (0 : Int32)
        · rw [if_pos hc62] at h
          refine Eval.ifF rfl (teq hc62).2 ?_
          refine Eval.aload_n rfl rfl ?_
          refine Eval.iload_n rfl rfl ?_
          refine Eval.iload_n rfl rfl ?_
          obtain ⟨p79, hq80, h⟩ := bind_some h
          refine Eval.callN (rest := []) (H1 := (W1 p79 R)) rfl rfl (Eval.heap own_mk1 (ev_j_append R (Q.mk s.f_st (wr s.f_lk v1 v2) (wr s.f_tmo v1 (j_clampTimeout v3)) (wr s.f_spin v1 (0 : Int32)) s.f_nxt0 s.f_prv1 s.f_head s.f_tail s.f_len s.f_ent s.f_aband s.f_log s.f_hist s.f_n (s.f_clk + (1 : Int32))) v1 v2 hq80 rfl)) ?_
          refine Eval.aload_n rfl rfl ?_
          refine Eval.getfield rfl rfl own_g1_st ?_
          refine Eval.iload_n rfl rfl ?_
          refine Eval.iconst (x := (3 : Int32)) rfl rfl ?_
          obtain ⟨hb82, h⟩ := ite_some h
          refine Eval.iastore rfl rfl own_a1_st hb82 own_s1_st ?_
          refine Eval.aload_n rfl rfl ?_
          refine Eval.iload_n rfl rfl ?_
          refine Eval.iload_n rfl rfl ?_
          obtain ⟨p91, hq92, h⟩ := bind_some h
          refine Eval.callN (rest := []) (H1 := (W1 p91 R)) rfl rfl (Eval.heap own_mk1 (ev_j_enter R (Q.mk (wr p79.f_st v1 (3 : Int32)) p79.f_lk p79.f_tmo p79.f_spin p79.f_nxt0 p79.f_prv1 p79.f_head p79.f_tail p79.f_len p79.f_ent p79.f_aband p79.f_log p79.f_hist p79.f_n p79.f_clk) v1 v2 hq92 rfl)) ?_
          refine Eval.iconst (x := (3 : Int32)) rfl rfl ?_
          refine Eval.istore (L' := [some (.ref 0), some (.int v1), some (.int v2), some (.int v3), some (.int (3 : Int32))]) rfl rfl ?_
          refine Eval.goto (t := 119) rfl rfl ?_
          refine Eval.weak (L' := [some (.ref 0), none, none, none, some (.int (3 : Int32))]) ⟨_, _, rfl, Or.inr rfl, _, _, rfl, Or.inl rfl, _, _, rfl, Or.inl rfl, _, _, rfl, Or.inl rfl, _, _, rfl, Or.inr rfl, rfl⟩ ?_
          exact ev_j_acquire_b119 R p91 (3 : Int32) h hk
        · rw [if_neg hc62] at h
          refine Eval.ifT (t := 103) rfl rfl (feq hc62).2 ?_
          refine Eval.aload_n rfl rfl ?_
          refine Eval.iload_n rfl rfl ?_
          refine Eval.iload_n rfl rfl ?_
          obtain ⟨p110, hq111, h⟩ := bind_some h
          refine Eval.callN (rest := []) (H1 := (W1 p110 R)) rfl rfl (Eval.heap own_mk1 (ev_j_append R (Q.mk s.f_st (wr s.f_lk v1 v2) (wr s.f_tmo v1 (j_clampTimeout v3)) (wr s.f_spin v1 (0 : Int32)) s.f_nxt0 s.f_prv1 s.f_head s.f_tail s.f_len s.f_ent s.f_aband s.f_log s.f_hist s.f_n (s.f_clk + (1 : Int32))) v1 v2 hq111 rfl)) ?_
          refine Eval.aload_n rfl rfl ?_
          refine Eval.getfield rfl rfl own_g1_st ?_
          refine Eval.iload_n rfl rfl ?_
          refine Eval.iconst (x := (1 : Int32)) rfl rfl ?_
          obtain ⟨hb113, h⟩ := ite_some h
          refine Eval.iastore rfl rfl own_a1_st hb113 own_s1_st ?_
          refine Eval.iconst (x := (1 : Int32)) rfl rfl ?_
          refine Eval.istore (L' := [some (.ref 0), some (.int v1), some (.int v2), some (.int v3), some (.int (1 : Int32))]) rfl rfl ?_
          refine Eval.heap own_mk1 ?_
          refine Eval.weak (L' := [some (.ref 0), none, none, none, some (.int (1 : Int32))]) ⟨_, _, rfl, Or.inr rfl, _, _, rfl, Or.inl rfl, _, _, rfl, Or.inl rfl, _, _, rfl, Or.inl rfl, _, _, rfl, Or.inr rfl, rfl⟩ ?_
          exact ev_j_acquire_b119 R (Q.mk (wr p110.f_st v1 (1 : Int32)) p110.f_lk p110.f_tmo p110.f_spin p110.f_nxt0 p110.f_prv1 p110.f_head p110.f_tail p110.f_len p110.f_ent p110.f_aband p110.f_log p110.f_hist p110.f_n p110.f_clk) (1 : Int32) h hk
      · rw [if_neg hc54] at h
        refine Eval.ifF rfl (feq hc54).1 ?_
        refine Eval.bipush (x := (-2 : Int32)) rfl rfl ?_
        cases h
        subst hk
        exact Eval.ret rfl rfl
def j_clock (s : Q) : Int32 := (s.f_clk)
set_option maxRecDepth 100000 in
theorem ev_j_clock (R : AHeap) (s : Q) {res : Int32} {out : Option Value × AHeap} (h : j_clock s = res) (hk : out = (some (.int res), (W1 s R))) : Eval own_P 4 0 [some (.ref 0)] [] (W1 s R) out := by
  rw [j_clock] at h
  refine Eval.aload_n rfl rfl ?_
  refine Eval.getfield rfl rfl own_g1_clk ?_
  subst h
  subst hk
  exact Eval.ret rfl rfl
def j_queueLength (s : Q) (v1 : Int32) : Option (Int32) := (if (j_validLock v1) = (0 : Int32) then some ((-2 : Int32)) else (if inb s.f_len.length v1 = true then some ((rd s.f_len v1)) else none))
set_option maxRecDepth 100000 in
theorem ev_j_queueLength (R : AHeap) (s : Q) (v1 : Int32) {res : Int32} {out : Option Value × AHeap} (h : j_queueLength s v1 = some res) (hk : out = (some (.int res), (W1 s R))) : Eval own_P 5 0 [some (.ref 0), some (.int v1)] [] (W1 s R) out := by
  rw [j_queueLength] at h
  refine Eval.aload_n rfl rfl ?_
  refine Eval.iload_n rfl rfl ?_
  refine Eval.callI (rest := []) (x := (j_validLock v1)) (H1 := (W1 s R)) rfl rfl (ev_j_validLock (W1 s R) 0 v1 rfl rfl) ?_
  by_cases hc118 : (j_validLock v1) = (0 : Int32)
  · rw [if_pos hc118] at h
    refine Eval.ifF rfl (teq hc118).2 ?_
    refine Eval.bipush (x := (-2 : Int32)) rfl rfl ?_
    cases h
    subst hk
    exact Eval.ret rfl rfl
  · rw [if_neg hc118] at h
    refine Eval.ifT (t := 11) rfl rfl (feq hc118).2 ?_
    refine Eval.aload_n rfl rfl ?_
    refine Eval.getfield rfl rfl own_g1_len ?_
    refine Eval.iload_n rfl rfl ?_
    obtain ⟨hb119, h⟩ := ite_some h
    refine Eval.iaload rfl own_a1_len hb119 ?_
    cases h
    subst hk
    exact Eval.ret rfl rfl
def j_entries (s : Q) (v1 : Int32) : Option (Int32) := (if (j_validLock v1) = (0 : Int32) then some ((-2 : Int32)) else (if inb s.f_ent.length v1 = true then some ((rd s.f_ent v1)) else none))
set_option maxRecDepth 100000 in
theorem ev_j_entries (R : AHeap) (s : Q) (v1 : Int32) {res : Int32} {out : Option Value × AHeap} (h : j_entries s v1 = some res) (hk : out = (some (.int res), (W1 s R))) : Eval own_P 9 0 [some (.ref 0), some (.int v1)] [] (W1 s R) out := by
  rw [j_entries] at h
  refine Eval.aload_n rfl rfl ?_
  refine Eval.iload_n rfl rfl ?_
  refine Eval.callI (rest := []) (x := (j_validLock v1)) (H1 := (W1 s R)) rfl rfl (ev_j_validLock (W1 s R) 0 v1 rfl rfl) ?_
  by_cases hc124 : (j_validLock v1) = (0 : Int32)
  · rw [if_pos hc124] at h
    refine Eval.ifF rfl (teq hc124).2 ?_
    refine Eval.bipush (x := (-2 : Int32)) rfl rfl ?_
    cases h
    subst hk
    exact Eval.ret rfl rfl
  · rw [if_neg hc124] at h
    refine Eval.ifT (t := 11) rfl rfl (feq hc124).2 ?_
    refine Eval.aload_n rfl rfl ?_
    refine Eval.getfield rfl rfl own_g1_ent ?_
    refine Eval.iload_n rfl rfl ?_
    obtain ⟨hb125, h⟩ := ite_some h
    refine Eval.iaload rfl own_a1_ent hb125 ?_
    cases h
    subst hk
    exact Eval.ret rfl rfl
def j_state (s : Q) (v1 : Int32) : Option (Int32) := (if (j_validThread s v1) = (0 : Int32) then some ((-2 : Int32)) else (if inb s.f_st.length v1 = true then some ((rd s.f_st v1)) else none))
set_option maxRecDepth 100000 in
theorem ev_j_state (R : AHeap) (s : Q) (v1 : Int32) {res : Int32} {out : Option Value × AHeap} (h : j_state s v1 = some res) (hk : out = (some (.int res), (W1 s R))) : Eval own_P 10 0 [some (.ref 0), some (.int v1)] [] (W1 s R) out := by
  rw [j_state] at h
  refine Eval.aload_n rfl rfl ?_
  refine Eval.iload_n rfl rfl ?_
  refine Eval.callI (rest := []) (x := (j_validThread s v1)) (H1 := (W1 s R)) rfl rfl (ev_j_validThread R s v1 rfl rfl) ?_
  by_cases hc128 : (j_validThread s v1) = (0 : Int32)
  · rw [if_pos hc128] at h
    refine Eval.ifF rfl (teq hc128).2 ?_
    refine Eval.bipush (x := (-2 : Int32)) rfl rfl ?_
    cases h
    subst hk
    exact Eval.ret rfl rfl
  · rw [if_neg hc128] at h
    refine Eval.ifT (t := 11) rfl rfl (feq hc128).2 ?_
    refine Eval.aload_n rfl rfl ?_
    refine Eval.getfield rfl rfl own_g1_st ?_
    refine Eval.iload_n rfl rfl ?_
    obtain ⟨hb129, h⟩ := ite_some h
    refine Eval.iaload rfl own_a1_st hb129 ?_
    cases h
    subst hk
    exact Eval.ret rfl rfl
abbrev j_aheadMcs_l9_K (R : AHeap) (s : Q) (res : (Int32) ⊕ ((Unit) ⊕ (Unit))) (out : Option Value × AHeap) : Prop := Sum.elim (fun res => Eval own_P 21 20 [none, none, none, some (.int res)] [] (W1 s R) out) (fun res => Sum.elim (fun res => Eval own_P 21 30 [none, none, none, none] [] (W1 s R) out) (fun res => Eval own_P 21 45 [none, none, none, none] [] (W1 s R) out) res) res

def j_aheadMcs_l9 : Nat → Q → Int32 → Int32 → Int32 → Option ((Int32) ⊕ ((Unit) ⊕ (Unit)))
  | 0, _, _, _, _ => none
  | n + 1, s, v1, v2, v3 => (if v3 < (8 : Int32) then (if v2 = v1 then some (.inl (v3)) else (if (j_inNodes v2) = (0 : Int32) then some (.inr (.inl ())) else (if inb s.f_nxt0.length v2 = true then (j_aheadMcs_l9 n s v1 (rd s.f_nxt0 v2) (v3 + (1 : Int32))) else none))) else some (.inr (.inr ())))
set_option maxRecDepth 100000 in
theorem ev_j_aheadMcs_l9 (R : AHeap) : ∀ (n : Nat) (s : Q) (v1 : Int32) (v2 : Int32) (v3 : Int32) {res : (Int32) ⊕ ((Unit) ⊕ (Unit))} {out : Option Value × AHeap}, j_aheadMcs_l9 n s v1 v2 v3 = some res → j_aheadMcs_l9_K R s res out → Eval own_P 21 9 [some (.ref 0), some (.int v1), some (.int v2), some (.int v3)] [] (W1 s R) out := by
  intro n
  induction n with
  | zero => intro _ _ _ _ res out h hk; cases h
  | succ n hrec =>
    intro s v1 v2 v3 res out h hk
    rw [j_aheadMcs_l9] at h
    refine Eval.iload_n rfl rfl ?_
    refine Eval.bipush (x := (8 : Int32)) rfl rfl ?_
    by_cases hc138 : v3 < (8 : Int32)
    · rw [if_pos hc138] at h
      refine Eval.icmpF rfl (tlt hc138).2.1 ?_
      refine Eval.iload_n rfl rfl ?_
      refine Eval.iload_n rfl rfl ?_
      by_cases hc139 : v2 = v1
      · rw [if_pos hc139] at h
        refine Eval.icmpF rfl (teq hc139).2 ?_
        cases h
        refine Eval.weak (L' := [none, none, none, some (.int v3)]) ⟨_, _, rfl, Or.inl rfl, _, _, rfl, Or.inl rfl, _, _, rfl, Or.inl rfl, _, _, rfl, Or.inr rfl, rfl⟩ ?_
        exact hk
      · rw [if_neg hc139] at h
        refine Eval.icmpT (t := 22) rfl rfl (feq hc139).2 ?_
        refine Eval.aload_n rfl rfl ?_
        refine Eval.iload_n rfl rfl ?_
        refine Eval.callI (rest := []) (x := (j_inNodes v2)) (H1 := (W1 s R)) rfl rfl (ev_j_inNodes (W1 s R) 0 v2 rfl rfl) ?_
        by_cases hc140 : (j_inNodes v2) = (0 : Int32)
        · rw [if_pos hc140] at h
          refine Eval.ifF rfl (teq hc140).2 ?_
          cases h
          refine Eval.weak (L' := [none, none, none, none]) ⟨_, _, rfl, Or.inl rfl, _, _, rfl, Or.inl rfl, _, _, rfl, Or.inl rfl, _, _, rfl, Or.inl rfl, rfl⟩ ?_
          exact hk
        · rw [if_neg hc140] at h
          refine Eval.ifT (t := 32) rfl rfl (feq hc140).2 ?_
          refine Eval.aload_n rfl rfl ?_
          refine Eval.getfield rfl rfl own_g1_nxt0 ?_
          refine Eval.iload_n rfl rfl ?_
          obtain ⟨hb141, h⟩ := ite_some h
          refine Eval.iaload rfl own_a1_nxt0 hb141 ?_
          refine Eval.istore_n (L' := [some (.ref 0), some (.int v1), some (.int (rd s.f_nxt0 v2)), some (.int v3)]) rfl rfl ?_
          refine Eval.iinc (L' := [some (.ref 0), some (.int v1), some (.int (rd s.f_nxt0 v2)), some (.int (v3 + (1 : Int32)))]) rfl rfl rfl ?_
          refine Eval.goto (t := 9) rfl rfl ?_
          exact hrec _ _ _ _ h hk
    · rw [if_neg hc138] at h
      refine Eval.icmpT (t := 45) rfl rfl (flt hc138).2.1 ?_
      cases h
      refine Eval.weak (L' := [none, none, none, none]) ⟨_, _, rfl, Or.inl rfl, _, _, rfl, Or.inl rfl, _, _, rfl, Or.inl rfl, _, _, rfl, Or.inl rfl, rfl⟩ ?_
      exact hk
def j_aheadMcs (s : Q) (v1 : Int32) : Option (Int32) := (if inb s.f_head.length (0 : Int32) = true then ((j_aheadMcs_l9 3000 s v1 (rd s.f_head (0 : Int32)) (0 : Int32)).bind fun p142 => Sum.elim (fun p144 => some (p144)) (fun p145 => Sum.elim (fun p146 => some ((-1 : Int32))) (fun p147 => some ((-1 : Int32))) p145) p142) else none)
set_option maxRecDepth 100000 in
theorem ev_j_aheadMcs (R : AHeap) (s : Q) (v1 : Int32) {res : Int32} {out : Option Value × AHeap} (h : j_aheadMcs s v1 = some res) (hk : out = (some (.int res), (W1 s R))) : Eval own_P 21 0 [some (.ref 0), some (.int v1), none, none] [] (W1 s R) out := by
  rw [j_aheadMcs] at h
  refine Eval.aload_n rfl rfl ?_
  refine Eval.getfield rfl rfl own_g1_head ?_
  refine Eval.iconst (x := (0 : Int32)) rfl rfl ?_
  obtain ⟨hb137, h⟩ := ite_some h
  refine Eval.iaload rfl own_a1_head hb137 ?_
  refine Eval.istore_n (L' := [some (.ref 0), some (.int v1), some (.int (rd s.f_head (0 : Int32))), none]) rfl rfl ?_
  refine Eval.iconst (x := (0 : Int32)) rfl rfl ?_
  refine Eval.istore_n (L' := [some (.ref 0), some (.int v1), some (.int (rd s.f_head (0 : Int32))), some (.int (0 : Int32))]) rfl rfl ?_
  obtain ⟨p142, hq143, h⟩ := bind_some h
  rcases p142 with p144 | p145
  · dsimp only [Sum.elim] at h
    refine ev_j_aheadMcs_l9 R _ s v1 (rd s.f_head (0 : Int32)) (0 : Int32) hq143 ?_
    show Eval own_P 21 20 [none, none, none, some (.int p144)] [] (W1 s R) out
    refine Eval.iload_n rfl rfl ?_
    cases h
    subst hk
    exact Eval.ret rfl rfl
  · dsimp only [Sum.elim] at h
    rcases p145 with p146 | p147
    · dsimp only [Sum.elim] at h
      refine ev_j_aheadMcs_l9 R _ s v1 (rd s.f_head (0 : Int32)) (0 : Int32) hq143 ?_
      show Eval own_P 21 30 [none, none, none, none] [] (W1 s R) out
      refine Eval.iconst (x := (-1 : Int32)) rfl rfl ?_
      cases h
      subst hk
      exact Eval.ret rfl rfl
    · dsimp only [Sum.elim] at h
      refine ev_j_aheadMcs_l9 R _ s v1 (rd s.f_head (0 : Int32)) (0 : Int32) hq143 ?_
      show Eval own_P 21 45 [none, none, none, none] [] (W1 s R) out
      refine Eval.iconst (x := (-1 : Int32)) rfl rfl ?_
      cases h
      subst hk
      exact Eval.ret rfl rfl
abbrev j_aheadClh_l12_K (R : AHeap) (s : Q) (res : (Int32) ⊕ (Int32)) (out : Option Value × AHeap) : Prop := Sum.elim (fun res => Eval own_P 18 27 [none, none, none, some (.int res), none] [] (W1 s R) out) (fun res => Eval own_P 18 45 [none, none, none, some (.int res), none] [] (W1 s R) out) res

def j_aheadClh_l12 : Nat → Q → Int32 → Int32 → Int32 → Option ((Int32) ⊕ (Int32))
  | 0, _, _, _, _ => none
  | n + 1, s, v2, v3, v4 => (if v4 < (8 : Int32) then (if (j_inNodes v2) = (0 : Int32) then some (.inl (v3)) else (if inb s.f_prv1.length v2 = true then (j_aheadClh_l12 n s (rd s.f_prv1 v2) (v3 + (1 : Int32)) (v4 + (1 : Int32))) else none)) else some (.inr (v3)))
set_option maxRecDepth 100000 in
theorem ev_j_aheadClh_l12 (R : AHeap) : ∀ (n : Nat) (s : Q) (v2 : Int32) (v3 : Int32) (v4 : Int32) {res : (Int32) ⊕ (Int32)} {out : Option Value × AHeap}, j_aheadClh_l12 n s v2 v3 v4 = some res → j_aheadClh_l12_K R s res out → Eval own_P 18 12 [some (.ref 0), none, some (.int v2), some (.int v3), some (.int v4)] [] (W1 s R) out := by
  intro n
  induction n with
  | zero => intro _ _ _ _ res out h hk; cases h
  | succ n hrec =>
    intro s v2 v3 v4 res out h hk
    rw [j_aheadClh_l12] at h
    refine Eval.iload rfl rfl ?_
    refine Eval.bipush (x := (8 : Int32)) rfl rfl ?_
    by_cases hc151 : v4 < (8 : Int32)
    · rw [if_pos hc151] at h
      refine Eval.icmpF rfl (tlt hc151).2.1 ?_
      refine Eval.aload_n rfl rfl ?_
      refine Eval.iload_n rfl rfl ?_
      refine Eval.callI (rest := []) (x := (j_inNodes v2)) (H1 := (W1 s R)) rfl rfl (ev_j_inNodes (W1 s R) 0 v2 rfl rfl) ?_
      by_cases hc152 : (j_inNodes v2) = (0 : Int32)
      · rw [if_pos hc152] at h
        refine Eval.ifF rfl (teq hc152).2 ?_
        cases h
        refine Eval.weak (L' := [none, none, none, some (.int v3), none]) ⟨_, _, rfl, Or.inl rfl, _, _, rfl, Or.inl rfl, _, _, rfl, Or.inl rfl, _, _, rfl, Or.inr rfl, _, _, rfl, Or.inl rfl, rfl⟩ ?_
        exact hk
      · rw [if_neg hc152] at h
        refine Eval.ifT (t := 29) rfl rfl (feq hc152).2 ?_
        refine Eval.iinc (L' := [some (.ref 0), none, some (.int v2), some (.int (v3 + (1 : Int32))), some (.int v4)]) rfl rfl rfl ?_
        refine Eval.aload_n rfl rfl ?_
        refine Eval.getfield rfl rfl own_g1_prv1 ?_
        refine Eval.iload_n rfl rfl ?_
        obtain ⟨hb153, h⟩ := ite_some h
        refine Eval.iaload rfl own_a1_prv1 hb153 ?_
        refine Eval.istore_n (L' := [some (.ref 0), none, some (.int (rd s.f_prv1 v2)), some (.int (v3 + (1 : Int32))), some (.int v4)]) rfl rfl ?_
        refine Eval.iinc (L' := [some (.ref 0), none, some (.int (rd s.f_prv1 v2)), some (.int (v3 + (1 : Int32))), some (.int (v4 + (1 : Int32)))]) rfl rfl rfl ?_
        refine Eval.goto (t := 12) rfl rfl ?_
        exact hrec _ _ _ _ h hk
    · rw [if_neg hc151] at h
      refine Eval.icmpT (t := 45) rfl rfl (flt hc151).2.1 ?_
      cases h
      refine Eval.weak (L' := [none, none, none, some (.int v3), none]) ⟨_, _, rfl, Or.inl rfl, _, _, rfl, Or.inl rfl, _, _, rfl, Or.inl rfl, _, _, rfl, Or.inr rfl, _, _, rfl, Or.inl rfl, rfl⟩ ?_
      exact hk
def j_aheadClh (s : Q) (v1 : Int32) : Option (Int32) := (if inb s.f_prv1.length v1 = true then ((j_aheadClh_l12 3000 s (rd s.f_prv1 v1) (0 : Int32) (0 : Int32)).bind fun p154 => Sum.elim (fun p156 => some (p156)) (fun p157 => some (p157)) p154) else none)
set_option maxRecDepth 100000 in
theorem ev_j_aheadClh (R : AHeap) (s : Q) (v1 : Int32) {res : Int32} {out : Option Value × AHeap} (h : j_aheadClh s v1 = some res) (hk : out = (some (.int res), (W1 s R))) : Eval own_P 18 0 [some (.ref 0), some (.int v1), none, none, none] [] (W1 s R) out := by
  rw [j_aheadClh] at h
  refine Eval.aload_n rfl rfl ?_
  refine Eval.getfield rfl rfl own_g1_prv1 ?_
  refine Eval.iload_n rfl rfl ?_
  obtain ⟨hb150, h⟩ := ite_some h
  refine Eval.iaload rfl own_a1_prv1 hb150 ?_
  refine Eval.istore_n (L' := [some (.ref 0), some (.int v1), some (.int (rd s.f_prv1 v1)), none, none]) rfl rfl ?_
  refine Eval.iconst (x := (0 : Int32)) rfl rfl ?_
  refine Eval.istore_n (L' := [some (.ref 0), some (.int v1), some (.int (rd s.f_prv1 v1)), some (.int (0 : Int32)), none]) rfl rfl ?_
  refine Eval.iconst (x := (0 : Int32)) rfl rfl ?_
  refine Eval.istore (L' := [some (.ref 0), some (.int v1), some (.int (rd s.f_prv1 v1)), some (.int (0 : Int32)), some (.int (0 : Int32))]) rfl rfl ?_
  refine Eval.weak (L' := [some (.ref 0), none, some (.int (rd s.f_prv1 v1)), some (.int (0 : Int32)), some (.int (0 : Int32))]) ⟨_, _, rfl, Or.inr rfl, _, _, rfl, Or.inl rfl, _, _, rfl, Or.inr rfl, _, _, rfl, Or.inr rfl, _, _, rfl, Or.inr rfl, rfl⟩ ?_
  obtain ⟨p154, hq155, h⟩ := bind_some h
  rcases p154 with p156 | p157
  · dsimp only [Sum.elim] at h
    refine ev_j_aheadClh_l12 R _ s (rd s.f_prv1 v1) (0 : Int32) (0 : Int32) hq155 ?_
    show Eval own_P 18 27 [none, none, none, some (.int p156), none] [] (W1 s R) out
    refine Eval.iload_n rfl rfl ?_
    cases h
    subst hk
    exact Eval.ret rfl rfl
  · dsimp only [Sum.elim] at h
    refine ev_j_aheadClh_l12 R _ s (rd s.f_prv1 v1) (0 : Int32) (0 : Int32) hq155 ?_
    show Eval own_P 18 45 [none, none, none, some (.int p157), none] [] (W1 s R) out
    refine Eval.iload_n rfl rfl ?_
    cases h
    subst hk
    exact Eval.ret rfl rfl
def j_ahead (s : Q) (v1 : Int32) : Option (Int32) := (if (j_validThread s v1) = (0 : Int32) then some ((-2 : Int32)) else (if inb s.f_st.length v1 = true then (if (rd s.f_st v1) = (0 : Int32) then some ((-1 : Int32)) else (if inb s.f_lk.length v1 = true then (if (rd s.f_lk v1) = (0 : Int32) then ((j_aheadMcs s v1).bind fun p148 => some (p148)) else ((j_aheadClh s v1).bind fun p158 => some (p158))) else none)) else none))
set_option maxRecDepth 100000 in
theorem ev_j_ahead (R : AHeap) (s : Q) (v1 : Int32) {res : Int32} {out : Option Value × AHeap} (h : j_ahead s v1 = some res) (hk : out = (some (.int res), (W1 s R))) : Eval own_P 11 0 [some (.ref 0), some (.int v1)] [] (W1 s R) out := by
  rw [j_ahead] at h
  refine Eval.aload_n rfl rfl ?_
  refine Eval.iload_n rfl rfl ?_
  refine Eval.callI (rest := []) (x := (j_validThread s v1)) (H1 := (W1 s R)) rfl rfl (ev_j_validThread R s v1 rfl rfl) ?_
  by_cases hc132 : (j_validThread s v1) = (0 : Int32)
  · rw [if_pos hc132] at h
    refine Eval.ifF rfl (teq hc132).2 ?_
    refine Eval.bipush (x := (-2 : Int32)) rfl rfl ?_
    cases h
    subst hk
    exact Eval.ret rfl rfl
  · rw [if_neg hc132] at h
    refine Eval.ifT (t := 11) rfl rfl (feq hc132).2 ?_
    refine Eval.aload_n rfl rfl ?_
    refine Eval.getfield rfl rfl own_g1_st ?_
    refine Eval.iload_n rfl rfl ?_
    obtain ⟨hb133, h⟩ := ite_some h
    refine Eval.iaload rfl own_a1_st hb133 ?_
    by_cases hc134 : (rd s.f_st v1) = (0 : Int32)
    · rw [if_pos hc134] at h
      refine Eval.ifF rfl (teq hc134).2 ?_
      refine Eval.iconst (x := (-1 : Int32)) rfl rfl ?_
      cases h
      subst hk
      exact Eval.ret rfl rfl
    · rw [if_neg hc134] at h
      refine Eval.ifT (t := 22) rfl rfl (feq hc134).2 ?_
      refine Eval.aload_n rfl rfl ?_
      refine Eval.getfield rfl rfl own_g1_lk ?_
      refine Eval.iload_n rfl rfl ?_
      obtain ⟨hb135, h⟩ := ite_some h
      refine Eval.iaload rfl own_a1_lk hb135 ?_
      by_cases hc136 : (rd s.f_lk v1) = (0 : Int32)
      · rw [if_pos hc136] at h
        refine Eval.ifF rfl (teq hc136).2 ?_
        refine Eval.aload_n rfl rfl ?_
        refine Eval.iload_n rfl rfl ?_
        obtain ⟨p148, hq149, h⟩ := bind_some h
        refine Eval.callI (rest := []) (x := p148) (H1 := (W1 s R)) rfl rfl (ev_j_aheadMcs R s v1 hq149 rfl) ?_
        cases h
        subst hk
        exact Eval.ret rfl rfl
      · rw [if_neg hc136] at h
        refine Eval.ifT (t := 37) rfl rfl (feq hc136).2 ?_
        refine Eval.aload_n rfl rfl ?_
        refine Eval.iload_n rfl rfl ?_
        obtain ⟨p158, hq159, h⟩ := bind_some h
        refine Eval.callI (rest := []) (x := p158) (H1 := (W1 s R)) rfl rfl (ev_j_aheadClh R s v1 hq159 rfl) ?_
        cases h
        subst hk
        exact Eval.ret rfl rfl
def j_lockOf (s : Q) (v1 : Int32) : Option (Int32) := (if (j_validThread s v1) = (0 : Int32) then some ((-2 : Int32)) else (if inb s.f_lk.length v1 = true then some ((rd s.f_lk v1)) else none))
set_option maxRecDepth 100000 in
theorem ev_j_lockOf (R : AHeap) (s : Q) (v1 : Int32) {res : Int32} {out : Option Value × AHeap} (h : j_lockOf s v1 = some res) (hk : out = (some (.int res), (W1 s R))) : Eval own_P 12 0 [some (.ref 0), some (.int v1)] [] (W1 s R) out := by
  rw [j_lockOf] at h
  refine Eval.aload_n rfl rfl ?_
  refine Eval.iload_n rfl rfl ?_
  refine Eval.callI (rest := []) (x := (j_validThread s v1)) (H1 := (W1 s R)) rfl rfl (ev_j_validThread R s v1 rfl rfl) ?_
  by_cases hc162 : (j_validThread s v1) = (0 : Int32)
  · rw [if_pos hc162] at h
    refine Eval.ifF rfl (teq hc162).2 ?_
    refine Eval.bipush (x := (-2 : Int32)) rfl rfl ?_
    cases h
    subst hk
    exact Eval.ret rfl rfl
  · rw [if_neg hc162] at h
    refine Eval.ifT (t := 11) rfl rfl (feq hc162).2 ?_
    refine Eval.aload_n rfl rfl ?_
    refine Eval.getfield rfl rfl own_g1_lk ?_
    refine Eval.iload_n rfl rfl ?_
    obtain ⟨hb163, h⟩ := ite_some h
    refine Eval.iaload rfl own_a1_lk hb163 ?_
    cases h
    subst hk
    exact Eval.ret rfl rfl
def j_popFront_b85 (s : Q) (v1 : Int32) (v3 : Int32) : Option (Int32 × Q) := (if inb s.f_len.length v1 = true then (if inb s.f_len.length v1 = true then some (v3, (Q.mk s.f_st s.f_lk s.f_tmo s.f_spin s.f_nxt0 s.f_prv1 s.f_head s.f_tail (wr s.f_len v1 ((rd s.f_len v1) - (1 : Int32))) s.f_ent s.f_aband s.f_log s.f_hist s.f_n s.f_clk)) else none) else none)
theorem ln_j_popFront_b85 {s : Q} {v1 : Int32} {v3 : Int32} {res : Int32 × Q} (h : j_popFront_b85 s v1 v3 = some res) : Q.len res.2 = Q.len s := by
  rw [j_popFront_b85] at h
  obtain ⟨hb180, h⟩ := ite_some h
  obtain ⟨hb181, h⟩ := ite_some h
  have hr0 := Option.some.inj h
  subst hr0
  show Q.len (Q.mk s.f_st s.f_lk s.f_tmo s.f_spin s.f_nxt0 s.f_prv1 s.f_head s.f_tail (wr s.f_len v1 ((rd s.f_len v1) - (1 : Int32))) s.f_ent s.f_aband s.f_log s.f_hist s.f_n s.f_clk) = _
  exact (Eq.trans (show Q.len (Q.mk s.f_st s.f_lk s.f_tmo s.f_spin s.f_nxt0 s.f_prv1 s.f_head s.f_tail (wr s.f_len v1 ((rd s.f_len v1) - (1 : Int32))) s.f_ent s.f_aband s.f_log s.f_hist s.f_n s.f_clk) = Q.len s from own_lenmk.trans (by first | (simp only [len_wr, len_wrL] <;> rfl) | rfl)) rfl)
set_option maxRecDepth 100000 in
theorem ev_j_popFront_b85 (R : AHeap) (s : Q) (v1 : Int32) (v3 : Int32) {res : Int32 × Q} {out : Option Value × AHeap} (h : j_popFront_b85 s v1 v3 = some res) (hk : out = (some (.int res.1), (W1 res.2 R))) : Eval own_P 19 85 [some (.ref 0), some (.int v1), none, some (.int v3)] [] (W1 s R) out := by
  rw [j_popFront_b85] at h
  refine Eval.aload_n rfl rfl ?_
  refine Eval.getfield rfl rfl own_g1_len ?_
  refine Eval.iload_n rfl rfl ?_
  refine Eval.aload_n rfl rfl ?_
  refine Eval.getfield rfl rfl own_g1_len ?_
  refine Eval.iload_n rfl rfl ?_
  obtain ⟨hb180, h⟩ := ite_some h
  refine Eval.iaload rfl own_a1_len hb180 ?_
  refine Eval.iconst (x := (1 : Int32)) rfl rfl ?_
  refine Eval.isub rfl ?_
  obtain ⟨hb181, h⟩ := ite_some h
  refine Eval.iastore rfl rfl own_a1_len hb181 own_s1_len ?_
  refine Eval.iload_n rfl rfl ?_
  cases h
  subst hk
  exact Eval.retH own_mk1 rfl rfl
def j_popFront_b66 (s : Q) (v1 : Int32) (v3 : Int32) : Option (Int32 × Q) := (if inb s.f_head.length v1 = true then (if v3 = (-1 : Int32) then (if inb s.f_tail.length v1 = true then (j_popFront_b85 (Q.mk s.f_st s.f_lk s.f_tmo s.f_spin s.f_nxt0 s.f_prv1 (wr s.f_head v1 v3) (wr s.f_tail v1 (-1 : Int32)) s.f_len s.f_ent s.f_aband s.f_log s.f_hist s.f_n s.f_clk) v1 v3) else none) else (j_popFront_b85 (Q.mk s.f_st s.f_lk s.f_tmo s.f_spin s.f_nxt0 s.f_prv1 (wr s.f_head v1 v3) s.f_tail s.f_len s.f_ent s.f_aband s.f_log s.f_hist s.f_n s.f_clk) v1 v3)) else none)
theorem ln_j_popFront_b66 {s : Q} {v1 : Int32} {v3 : Int32} {res : Int32 × Q} (h : j_popFront_b66 s v1 v3 = some res) : Q.len res.2 = Q.len s := by
  rw [j_popFront_b66] at h
  obtain ⟨hb176, h⟩ := ite_some h
  by_cases hc178 : v3 = (-1 : Int32)
  · rw [if_pos hc178] at h
    obtain ⟨hb179, h⟩ := ite_some h
    exact Eq.trans (ln_j_popFront_b85 h) (Eq.trans (show Q.len (Q.mk s.f_st s.f_lk s.f_tmo s.f_spin s.f_nxt0 s.f_prv1 (wr s.f_head v1 v3) (wr s.f_tail v1 (-1 : Int32)) s.f_len s.f_ent s.f_aband s.f_log s.f_hist s.f_n s.f_clk) = Q.len s from own_lenmk.trans (by first | (simp only [len_wr, len_wrL] <;> rfl) | rfl)) rfl)
  · rw [if_neg hc178] at h
    exact Eq.trans (ln_j_popFront_b85 h) (Eq.trans (show Q.len (Q.mk s.f_st s.f_lk s.f_tmo s.f_spin s.f_nxt0 s.f_prv1 (wr s.f_head v1 v3) s.f_tail s.f_len s.f_ent s.f_aband s.f_log s.f_hist s.f_n s.f_clk) = Q.len s from own_lenmk.trans (by first | (simp only [len_wr, len_wrL] <;> rfl) | rfl)) rfl)
set_option maxRecDepth 100000 in
theorem ev_j_popFront_b66 (R : AHeap) (s : Q) (v1 : Int32) (v3 : Int32) {res : Int32 × Q} {out : Option Value × AHeap} (h : j_popFront_b66 s v1 v3 = some res) (hk : out = (some (.int res.1), (W1 res.2 R))) : Eval own_P 19 66 [some (.ref 0), some (.int v1), none, some (.int v3)] [] (W1 s R) out := by
  rw [j_popFront_b66] at h
  refine Eval.aload_n rfl rfl ?_
  refine Eval.getfield rfl rfl own_g1_head ?_
  refine Eval.iload_n rfl rfl ?_
  refine Eval.iload_n rfl rfl ?_
  obtain ⟨hb176, h⟩ := ite_some h
  refine Eval.iastore rfl rfl own_a1_head hb176 own_s1_head ?_
  refine Eval.iload_n rfl rfl ?_
  refine Eval.iconst (x := (-1 : Int32)) rfl rfl ?_
  by_cases hc178 : v3 = (-1 : Int32)
  · rw [if_pos hc178] at h
    refine Eval.icmpF rfl (teq hc178).2 ?_
    refine Eval.aload_n rfl rfl ?_
    refine Eval.getfield rfl rfl own_g1_tail ?_
    refine Eval.iload_n rfl rfl ?_
    refine Eval.iconst (x := (-1 : Int32)) rfl rfl ?_
    obtain ⟨hb179, h⟩ := ite_some h
    refine Eval.iastore rfl rfl own_a1_tail hb179 own_s1_tail ?_
    refine Eval.heap own_mk1 ?_
    exact ev_j_popFront_b85 R (Q.mk s.f_st s.f_lk s.f_tmo s.f_spin s.f_nxt0 s.f_prv1 (wr s.f_head v1 v3) (wr s.f_tail v1 (-1 : Int32)) s.f_len s.f_ent s.f_aband s.f_log s.f_hist s.f_n s.f_clk) v1 v3 h hk
  · rw [if_neg hc178] at h
    refine Eval.icmpT (t := 85) rfl rfl (feq hc178).2 ?_
    refine Eval.heap own_mk1 ?_
    exact ev_j_popFront_b85 R (Q.mk s.f_st s.f_lk s.f_tmo s.f_spin s.f_nxt0 s.f_prv1 (wr s.f_head v1 v3) s.f_tail s.f_len s.f_ent s.f_aband s.f_log s.f_hist s.f_n s.f_clk) v1 v3 h hk
abbrev j_successorClh_l2_K (R : AHeap) (s : Q) (res : (Int32) ⊕ (Unit)) (out : Option Value × AHeap) : Prop := Sum.elim (fun res => Eval own_P 20 44 [none, none, some (.int res)] [] (W1 s R) out) (fun res => Eval own_P 20 52 [none, none, none] [] (W1 s R) out) res

def j_successorClh_b46 (go_ : Q → Int32 → Int32 → Option ((Int32) ⊕ (Unit))) (s : Q) (v1 : Int32) (v2 : Int32) : Option ((Int32) ⊕ (Unit)) := (go_ s v1 (v2 + (1 : Int32)))
set_option maxRecDepth 100000 in
theorem ev_j_successorClh_b46 (R : AHeap) (go_ : Q → Int32 → Int32 → Option ((Int32) ⊕ (Unit))) (hrec : ∀ (s : Q) (v1 : Int32) (v2 : Int32) {res : (Int32) ⊕ (Unit)} {out : Option Value × AHeap}, go_ s v1 v2 = some res → j_successorClh_l2_K R s res out → Eval own_P 20 2 [some (.ref 0), some (.int v1), some (.int v2)] [] (W1 s R) out) (s : Q) (v1 : Int32) (v2 : Int32) {res : (Int32) ⊕ (Unit)} {out : Option Value × AHeap} (h : j_successorClh_b46 go_ s v1 v2 = some res) (hk : j_successorClh_l2_K R s res out) : Eval own_P 20 46 [some (.ref 0), some (.int v1), some (.int v2)] [] (W1 s R) out := by
  rw [j_successorClh_b46] at h
  refine Eval.iinc (L' := [some (.ref 0), some (.int v1), some (.int (v2 + (1 : Int32)))]) rfl rfl rfl ?_
  refine Eval.goto (t := 2) rfl rfl ?_
  exact hrec _ _ _ h hk
def j_successorClh_l2 : Nat → Q → Int32 → Int32 → Option ((Int32) ⊕ (Unit))
  | 0, _, _, _ => none
  | n + 1, s, v1, v2 => (if v2 < s.f_n then (if v2 = v1 then (j_successorClh_b46 (j_successorClh_l2 n) s v1 v2) else (if inb s.f_lk.length v2 = true then (if (rd s.f_lk v2) = (1 : Int32) then (if inb s.f_st.length v2 = true then (if (rd s.f_st v2) = (0 : Int32) then (j_successorClh_b46 (j_successorClh_l2 n) s v1 v2) else (if inb s.f_prv1.length v2 = true then (if (rd s.f_prv1 v2) = v1 then some (.inl (v2)) else (j_successorClh_b46 (j_successorClh_l2 n) s v1 v2)) else none)) else none) else (j_successorClh_b46 (j_successorClh_l2 n) s v1 v2)) else none)) else some (.inr ()))
set_option maxRecDepth 100000 in
theorem ev_j_successorClh_l2 (R : AHeap) : ∀ (n : Nat) (s : Q) (v1 : Int32) (v2 : Int32) {res : (Int32) ⊕ (Unit)} {out : Option Value × AHeap}, j_successorClh_l2 n s v1 v2 = some res → j_successorClh_l2_K R s res out → Eval own_P 20 2 [some (.ref 0), some (.int v1), some (.int v2)] [] (W1 s R) out := by
  intro n
  induction n with
  | zero => intro _ _ _ res out h hk; cases h
  | succ n hrec =>
    intro s v1 v2 res out h hk
    rw [j_successorClh_l2] at h
    refine Eval.iload_n rfl rfl ?_
    refine Eval.aload_n rfl rfl ?_
    refine Eval.getfield rfl rfl own_g1_n ?_
    by_cases hc182 : v2 < s.f_n
    · rw [if_pos hc182] at h
      refine Eval.icmpF rfl (tlt hc182).2.1 ?_
      refine Eval.iload_n rfl rfl ?_
      refine Eval.iload_n rfl rfl ?_
      by_cases hc183 : v2 = v1
      · rw [if_pos hc183] at h
        refine Eval.icmpT (t := 46) rfl rfl (teq hc183).1 ?_
        exact ev_j_successorClh_b46 R _ hrec s v1 v2 h hk
      · rw [if_neg hc183] at h
        refine Eval.icmpF rfl (feq hc183).1 ?_
        refine Eval.aload_n rfl rfl ?_
        refine Eval.getfield rfl rfl own_g1_lk ?_
        refine Eval.iload_n rfl rfl ?_
        obtain ⟨hb184, h⟩ := ite_some h
        refine Eval.iaload rfl own_a1_lk hb184 ?_
        refine Eval.iconst (x := (1 : Int32)) rfl rfl ?_
        by_cases hc185 : (rd s.f_lk v2) = (1 : Int32)
        · rw [if_pos hc185] at h
          refine Eval.icmpF rfl (teq hc185).2 ?_
          refine Eval.aload_n rfl rfl ?_
          refine Eval.getfield rfl rfl own_g1_st ?_
          refine Eval.iload_n rfl rfl ?_
          obtain ⟨hb186, h⟩ := ite_some h
          refine Eval.iaload rfl own_a1_st hb186 ?_
          by_cases hc187 : (rd s.f_st v2) = (0 : Int32)
          · rw [if_pos hc187] at h
            refine Eval.ifT (t := 46) rfl rfl (teq hc187).1 ?_
            exact ev_j_successorClh_b46 R _ hrec s v1 v2 h hk
          · rw [if_neg hc187] at h
            refine Eval.ifF rfl (feq hc187).1 ?_
            refine Eval.aload_n rfl rfl ?_
            refine Eval.getfield rfl rfl own_g1_prv1 ?_
            refine Eval.iload_n rfl rfl ?_
            obtain ⟨hb188, h⟩ := ite_some h
            refine Eval.iaload rfl own_a1_prv1 hb188 ?_
            refine Eval.iload_n rfl rfl ?_
            by_cases hc189 : (rd s.f_prv1 v2) = v1
            · rw [if_pos hc189] at h
              refine Eval.icmpF rfl (teq hc189).2 ?_
              cases h
              refine Eval.weak (L' := [none, none, some (.int v2)]) ⟨_, _, rfl, Or.inl rfl, _, _, rfl, Or.inl rfl, _, _, rfl, Or.inr rfl, rfl⟩ ?_
              exact hk
            · rw [if_neg hc189] at h
              refine Eval.icmpT (t := 46) rfl rfl (feq hc189).2 ?_
              exact ev_j_successorClh_b46 R _ hrec s v1 v2 h hk
        · rw [if_neg hc185] at h
          refine Eval.icmpT (t := 46) rfl rfl (feq hc185).2 ?_
          exact ev_j_successorClh_b46 R _ hrec s v1 v2 h hk
    · rw [if_neg hc182] at h
      refine Eval.icmpT (t := 52) rfl rfl (flt hc182).2.1 ?_
      cases h
      refine Eval.weak (L' := [none, none, none]) ⟨_, _, rfl, Or.inl rfl, _, _, rfl, Or.inl rfl, _, _, rfl, Or.inl rfl, rfl⟩ ?_
      exact hk
def j_successorClh (s : Q) (v1 : Int32) : Option (Int32) := ((j_successorClh_l2 3000 s v1 (0 : Int32)).bind fun p190 => Sum.elim (fun p192 => some (p192)) (fun p193 => some ((-1 : Int32))) p190)
set_option maxRecDepth 100000 in
theorem ev_j_successorClh (R : AHeap) (s : Q) (v1 : Int32) {res : Int32} {out : Option Value × AHeap} (h : j_successorClh s v1 = some res) (hk : out = (some (.int res), (W1 s R))) : Eval own_P 20 0 [some (.ref 0), some (.int v1), none] [] (W1 s R) out := by
  rw [j_successorClh] at h
  refine Eval.iconst (x := (0 : Int32)) rfl rfl ?_
  refine Eval.istore_n (L' := [some (.ref 0), some (.int v1), some (.int (0 : Int32))]) rfl rfl ?_
  obtain ⟨p190, hq191, h⟩ := bind_some h
  rcases p190 with p192 | p193
  · dsimp only [Sum.elim] at h
    refine ev_j_successorClh_l2 R _ s v1 (0 : Int32) hq191 ?_
    show Eval own_P 20 44 [none, none, some (.int p192)] [] (W1 s R) out
    refine Eval.iload_n rfl rfl ?_
    cases h
    subst hk
    exact Eval.ret rfl rfl
  · dsimp only [Sum.elim] at h
    refine ev_j_successorClh_l2 R _ s v1 (0 : Int32) hq191 ?_
    show Eval own_P 20 52 [none, none, none] [] (W1 s R) out
    refine Eval.iconst (x := (-1 : Int32)) rfl rfl ?_
    cases h
    subst hk
    exact Eval.ret rfl rfl
def j_popFront_b59 (s : Q) (v1 : Int32) (v2 : Int32) (v3 : Int32) : Option (Int32 × Q) := (if inb s.f_prv1.length v2 = true then (j_popFront_b66 (Q.mk s.f_st s.f_lk s.f_tmo s.f_spin s.f_nxt0 (wr s.f_prv1 v2 (-1 : Int32)) s.f_head s.f_tail s.f_len s.f_ent s.f_aband s.f_log s.f_hist s.f_n s.f_clk) v1 v3) else none)
theorem ln_j_popFront_b59 {s : Q} {v1 : Int32} {v2 : Int32} {v3 : Int32} {res : Int32 × Q} (h : j_popFront_b59 s v1 v2 v3 = some res) : Q.len res.2 = Q.len s := by
  rw [j_popFront_b59] at h
  obtain ⟨hb198, h⟩ := ite_some h
  exact Eq.trans (ln_j_popFront_b66 h) (Eq.trans (show Q.len (Q.mk s.f_st s.f_lk s.f_tmo s.f_spin s.f_nxt0 (wr s.f_prv1 v2 (-1 : Int32)) s.f_head s.f_tail s.f_len s.f_ent s.f_aband s.f_log s.f_hist s.f_n s.f_clk) = Q.len s from own_lenmk.trans (by first | (simp only [len_wr, len_wrL] <;> rfl) | rfl)) rfl)
set_option maxRecDepth 100000 in
theorem ev_j_popFront_b59 (R : AHeap) (s : Q) (v1 : Int32) (v2 : Int32) (v3 : Int32) {res : Int32 × Q} {out : Option Value × AHeap} (h : j_popFront_b59 s v1 v2 v3 = some res) (hk : out = (some (.int res.1), (W1 res.2 R))) : Eval own_P 19 59 [some (.ref 0), some (.int v1), some (.int v2), some (.int v3)] [] (W1 s R) out := by
  rw [j_popFront_b59] at h
  refine Eval.aload_n rfl rfl ?_
  refine Eval.getfield rfl rfl own_g1_prv1 ?_
  refine Eval.iload_n rfl rfl ?_
  refine Eval.iconst (x := (-1 : Int32)) rfl rfl ?_
  obtain ⟨hb198, h⟩ := ite_some h
  refine Eval.iastore rfl rfl own_a1_prv1 hb198 own_s1_prv1 ?_
  refine Eval.heap own_mk1 ?_
  refine Eval.weak (L' := [some (.ref 0), some (.int v1), none, some (.int v3)]) ⟨_, _, rfl, Or.inr rfl, _, _, rfl, Or.inr rfl, _, _, rfl, Or.inl rfl, _, _, rfl, Or.inr rfl, rfl⟩ ?_
  exact ev_j_popFront_b66 R (Q.mk s.f_st s.f_lk s.f_tmo s.f_spin s.f_nxt0 (wr s.f_prv1 v2 (-1 : Int32)) s.f_head s.f_tail s.f_len s.f_ent s.f_aband s.f_log s.f_hist s.f_n s.f_clk) v1 v3 h hk
def j_popFront (s : Q) (v1 : Int32) : Option (Int32 × Q) := (if inb s.f_head.length v1 = true then (if (j_inNodes (rd s.f_head v1)) = (0 : Int32) then some ((-1 : Int32), s) else (if v1 = (0 : Int32) then (if inb s.f_nxt0.length (rd s.f_head v1) = true then (if inb s.f_nxt0.length (rd s.f_head v1) = true then (j_popFront_b66 (Q.mk s.f_st s.f_lk s.f_tmo s.f_spin (wr s.f_nxt0 (rd s.f_head v1) (-1 : Int32)) s.f_prv1 s.f_head s.f_tail s.f_len s.f_ent s.f_aband s.f_log s.f_hist s.f_n s.f_clk) v1 (rd s.f_nxt0 (rd s.f_head v1))) else none) else none) else ((j_successorClh s (rd s.f_head v1)).bind fun p194 => (if (j_inNodes p194) = (0 : Int32) then (j_popFront_b59 s v1 (rd s.f_head v1) p194) else (if inb s.f_prv1.length p194 = true then (j_popFront_b59 (Q.mk s.f_st s.f_lk s.f_tmo s.f_spin s.f_nxt0 (wr s.f_prv1 p194 (-1 : Int32)) s.f_head s.f_tail s.f_len s.f_ent s.f_aband s.f_log s.f_hist s.f_n s.f_clk) v1 (rd s.f_head v1) p194) else none))))) else none)
theorem ln_j_popFront {s : Q} {v1 : Int32} {res : Int32 × Q} (h : j_popFront s v1 = some res) : Q.len res.2 = Q.len s := by
  rw [j_popFront] at h
  obtain ⟨hb170, h⟩ := ite_some h
  by_cases hc171 : (j_inNodes (rd s.f_head v1)) = (0 : Int32)
  · rw [if_pos hc171] at h
    have hr0 := Option.some.inj h
    subst hr0
    show Q.len s = _
    exact rfl
  · rw [if_neg hc171] at h
    by_cases hc173 : v1 = (0 : Int32)
    · rw [if_pos hc173] at h
      obtain ⟨hb174, h⟩ := ite_some h
      obtain ⟨hb175, h⟩ := ite_some h
      exact Eq.trans (ln_j_popFront_b66 h) (Eq.trans (show Q.len (Q.mk s.f_st s.f_lk s.f_tmo s.f_spin (wr s.f_nxt0 (rd s.f_head v1) (-1 : Int32)) s.f_prv1 s.f_head s.f_tail s.f_len s.f_ent s.f_aband s.f_log s.f_hist s.f_n s.f_clk) = Q.len s from own_lenmk.trans (by first | (simp only [len_wr, len_wrL] <;> rfl) | rfl)) rfl)
    · rw [if_neg hc173] at h
      obtain ⟨p194, hq195, h⟩ := bind_some h
      by_cases hc197 : (j_inNodes p194) = (0 : Int32)
      · rw [if_pos hc197] at h
        exact Eq.trans (ln_j_popFront_b59 h) rfl
      · rw [if_neg hc197] at h
        obtain ⟨hb199, h⟩ := ite_some h
        exact Eq.trans (ln_j_popFront_b59 h) (Eq.trans (show Q.len (Q.mk s.f_st s.f_lk s.f_tmo s.f_spin s.f_nxt0 (wr s.f_prv1 p194 (-1 : Int32)) s.f_head s.f_tail s.f_len s.f_ent s.f_aband s.f_log s.f_hist s.f_n s.f_clk) = Q.len s from own_lenmk.trans (by first | (simp only [len_wr, len_wrL] <;> rfl) | rfl)) rfl)
set_option maxRecDepth 100000 in
theorem ev_j_popFront (R : AHeap) (s : Q) (v1 : Int32) {res : Int32 × Q} {out : Option Value × AHeap} (h : j_popFront s v1 = some res) (hk : out = (some (.int res.1), (W1 res.2 R))) : Eval own_P 19 0 [some (.ref 0), some (.int v1), none, none] [] (W1 s R) out := by
  rw [j_popFront] at h
  refine Eval.aload_n rfl rfl ?_
  refine Eval.getfield rfl rfl own_g1_head ?_
  refine Eval.iload_n rfl rfl ?_
  obtain ⟨hb170, h⟩ := ite_some h
  refine Eval.iaload rfl own_a1_head hb170 ?_
  refine Eval.istore_n (L' := [some (.ref 0), some (.int v1), some (.int (rd s.f_head v1)), none]) rfl rfl ?_
  refine Eval.aload_n rfl rfl ?_
  refine Eval.iload_n rfl rfl ?_
  refine Eval.callI (rest := []) (x := (j_inNodes (rd s.f_head v1))) (H1 := (W1 s R)) rfl rfl (ev_j_inNodes (W1 s R) 0 (rd s.f_head v1) rfl rfl) ?_
  by_cases hc171 : (j_inNodes (rd s.f_head v1)) = (0 : Int32)
  · rw [if_pos hc171] at h
    refine Eval.ifF rfl (teq hc171).2 ?_
    refine Eval.iconst (x := (-1 : Int32)) rfl rfl ?_
    cases h
    subst hk
    exact Eval.ret rfl rfl
  · rw [if_neg hc171] at h
    refine Eval.ifT (t := 17) rfl rfl (feq hc171).2 ?_
    refine Eval.iload_n rfl rfl ?_
    by_cases hc173 : v1 = (0 : Int32)
    · rw [if_pos hc173] at h
      refine Eval.ifF rfl (teq hc173).2 ?_
      refine Eval.aload_n rfl rfl ?_
      refine Eval.getfield rfl rfl own_g1_nxt0 ?_
      refine Eval.iload_n rfl rfl ?_
      obtain ⟨hb174, h⟩ := ite_some h
      refine Eval.iaload rfl own_a1_nxt0 hb174 ?_
      refine Eval.istore_n (L' := [some (.ref 0), some (.int v1), some (.int (rd s.f_head v1)), some (.int (rd s.f_nxt0 (rd s.f_head v1)))]) rfl rfl ?_
      refine Eval.aload_n rfl rfl ?_
      refine Eval.getfield rfl rfl own_g1_nxt0 ?_
      refine Eval.iload_n rfl rfl ?_
      refine Eval.iconst (x := (-1 : Int32)) rfl rfl ?_
      obtain ⟨hb175, h⟩ := ite_some h
      refine Eval.iastore rfl rfl own_a1_nxt0 hb175 own_s1_nxt0 ?_
      refine Eval.goto (t := 66) rfl rfl ?_
      refine Eval.heap own_mk1 ?_
      refine Eval.weak (L' := [some (.ref 0), some (.int v1), none, some (.int (rd s.f_nxt0 (rd s.f_head v1)))]) ⟨_, _, rfl, Or.inr rfl, _, _, rfl, Or.inr rfl, _, _, rfl, Or.inl rfl, _, _, rfl, Or.inr rfl, rfl⟩ ?_
      exact ev_j_popFront_b66 R (Q.mk s.f_st s.f_lk s.f_tmo s.f_spin (wr s.f_nxt0 (rd s.f_head v1) (-1 : Int32)) s.f_prv1 s.f_head s.f_tail s.f_len s.f_ent s.f_aband s.f_log s.f_hist s.f_n s.f_clk) v1 (rd s.f_nxt0 (rd s.f_head v1)) h hk
    · rw [if_neg hc173] at h
      refine Eval.ifT (t := 38) rfl rfl (feq hc173).2 ?_
      refine Eval.aload_n rfl rfl ?_
      refine Eval.iload_n rfl rfl ?_
      obtain ⟨p194, hq195, h⟩ := bind_some h
      refine Eval.callI (rest := []) (x := p194) (H1 := (W1 s R)) rfl rfl (ev_j_successorClh R s (rd s.f_head v1) hq195 rfl) ?_
      refine Eval.istore_n (L' := [some (.ref 0), some (.int v1), some (.int (rd s.f_head v1)), some (.int p194)]) rfl rfl ?_
      refine Eval.aload_n rfl rfl ?_
      refine Eval.iload_n rfl rfl ?_
      refine Eval.callI (rest := []) (x := (j_inNodes p194)) (H1 := (W1 s R)) rfl rfl (ev_j_inNodes (W1 s R) 0 p194 rfl rfl) ?_
      by_cases hc197 : (j_inNodes p194) = (0 : Int32)
      · rw [if_pos hc197] at h
        refine Eval.ifT (t := 59) rfl rfl (teq hc197).1 ?_
        exact ev_j_popFront_b59 R s v1 (rd s.f_head v1) p194 h hk
      · rw [if_neg hc197] at h
        refine Eval.ifF rfl (feq hc197).1 ?_
        refine Eval.aload_n rfl rfl ?_
        refine Eval.getfield rfl rfl own_g1_prv1 ?_
        refine Eval.iload_n rfl rfl ?_
        refine Eval.iconst (x := (-1 : Int32)) rfl rfl ?_
        obtain ⟨hb199, h⟩ := ite_some h
        refine Eval.iastore rfl rfl own_a1_prv1 hb199 own_s1_prv1 ?_
        refine Eval.heap own_mk1 ?_
        exact ev_j_popFront_b59 R (Q.mk s.f_st s.f_lk s.f_tmo s.f_spin s.f_nxt0 (wr s.f_prv1 p194 (-1 : Int32)) s.f_head s.f_tail s.f_len s.f_ent s.f_aband s.f_log s.f_hist s.f_n s.f_clk) v1 (rd s.f_head v1) p194 h hk
def j_release_b76 (s : Q) (v3 : Int32) : Option (Int32 × Q) := ((j_recordHistory s).bind fun p207 => some (v3, p207))
theorem ln_j_release_b76 {s : Q} {v3 : Int32} {res : Int32 × Q} (h : j_release_b76 s v3 = some res) : Q.len res.2 = Q.len s := by
  rw [j_release_b76] at h
  obtain ⟨p207, hq208, h⟩ := bind_some h
  have hl209 := (ln_j_recordHistory hq208).trans rfl
  have hr0 := Option.some.inj h
  subst hr0
  show Q.len p207 = _
  exact hl209
set_option maxRecDepth 100000 in
theorem ev_j_release_b76 (R : AHeap) (s : Q) (v3 : Int32) {res : Int32 × Q} {out : Option Value × AHeap} (h : j_release_b76 s v3 = some res) (hk : out = (some (.int res.1), (W1 res.2 R))) : Eval own_P 13 76 [some (.ref 0), none, none, some (.int v3)] [] (W1 s R) out := by
  rw [j_release_b76] at h
  refine Eval.aload_n rfl rfl ?_
  obtain ⟨p207, hq208, h⟩ := bind_some h
  refine Eval.callN (rest := []) (H1 := (W1 p207 R)) rfl rfl (ev_j_recordHistory R s hq208 rfl) ?_
  refine Eval.iload_n rfl rfl ?_
  cases h
  subst hk
  exact Eval.ret rfl rfl
def j_release (s : Q) (v1 : Int32) : Option (Int32 × Q) := (if (j_validThread s v1) = (0 : Int32) then some ((-2 : Int32), s) else (if inb s.f_st.length v1 = true then (if (rd s.f_st v1) = (3 : Int32) then (if inb s.f_lk.length v1 = true then ((j_popFront (Q.mk s.f_st s.f_lk s.f_tmo s.f_spin s.f_nxt0 s.f_prv1 s.f_head s.f_tail s.f_len s.f_ent s.f_aband s.f_log s.f_hist s.f_n (s.f_clk + (1 : Int32))) (rd s.f_lk v1)).bind fun p200 => (if inb p200.2.f_st.length v1 = true then (if inb p200.2.f_lk.length v1 = true then (if (j_inNodes p200.1) = (0 : Int32) then (j_release_b76 (Q.mk (wr p200.2.f_st v1 (0 : Int32)) (wr p200.2.f_lk v1 (-1 : Int32)) p200.2.f_tmo p200.2.f_spin p200.2.f_nxt0 p200.2.f_prv1 p200.2.f_head p200.2.f_tail p200.2.f_len p200.2.f_ent p200.2.f_aband p200.2.f_log p200.2.f_hist p200.2.f_n p200.2.f_clk) p200.1) else (if inb (wr p200.2.f_st v1 (0 : Int32)).length p200.1 = true then (j_release_b76 (Q.mk (wr (wr p200.2.f_st v1 (0 : Int32)) p200.1 (2 : Int32)) (wr p200.2.f_lk v1 (-1 : Int32)) p200.2.f_tmo p200.2.f_spin p200.2.f_nxt0 p200.2.f_prv1 p200.2.f_head p200.2.f_tail p200.2.f_len p200.2.f_ent p200.2.f_aband p200.2.f_log p200.2.f_hist p200.2.f_n p200.2.f_clk) p200.1) else none)) else none) else none)) else none) else some ((-2 : Int32), s)) else none))
theorem ln_j_release {s : Q} {v1 : Int32} {res : Int32 × Q} (h : j_release s v1 = some res) : Q.len res.2 = Q.len s := by
  rw [j_release] at h
  by_cases hc166 : (j_validThread s v1) = (0 : Int32)
  · rw [if_pos hc166] at h
    have hr0 := Option.some.inj h
    subst hr0
    show Q.len s = _
    exact rfl
  · rw [if_neg hc166] at h
    obtain ⟨hb167, h⟩ := ite_some h
    by_cases hc168 : (rd s.f_st v1) = (3 : Int32)
    · rw [if_pos hc168] at h
      obtain ⟨hb169, h⟩ := ite_some h
      obtain ⟨p200, hq201, h⟩ := bind_some h
      have hl202 := (ln_j_popFront hq201).trans (Eq.trans (show Q.len (Q.mk s.f_st s.f_lk s.f_tmo s.f_spin s.f_nxt0 s.f_prv1 s.f_head s.f_tail s.f_len s.f_ent s.f_aband s.f_log s.f_hist s.f_n (s.f_clk + (1 : Int32))) = Q.len s from own_lenmk.trans (by first | (simp only [len_wr, len_wrL] <;> rfl) | rfl)) rfl)
      obtain ⟨hb203, h⟩ := ite_some h
      obtain ⟨hb204, h⟩ := ite_some h
      by_cases hc206 : (j_inNodes p200.1) = (0 : Int32)
      · rw [if_pos hc206] at h
        exact Eq.trans (ln_j_release_b76 h) (Eq.trans (show Q.len (Q.mk (wr p200.2.f_st v1 (0 : Int32)) (wr p200.2.f_lk v1 (-1 : Int32)) p200.2.f_tmo p200.2.f_spin p200.2.f_nxt0 p200.2.f_prv1 p200.2.f_head p200.2.f_tail p200.2.f_len p200.2.f_ent p200.2.f_aband p200.2.f_log p200.2.f_hist p200.2.f_n p200.2.f_clk) = Q.len p200.2 from own_lenmk.trans (by first | (simp only [len_wr, len_wrL] <;> rfl) | rfl)) hl202)
      · rw [if_neg hc206] at h
        obtain ⟨hb210, h⟩ := ite_some h
        exact Eq.trans (ln_j_release_b76 h) (Eq.trans (show Q.len (Q.mk (wr (wr p200.2.f_st v1 (0 : Int32)) p200.1 (2 : Int32)) (wr p200.2.f_lk v1 (-1 : Int32)) p200.2.f_tmo p200.2.f_spin p200.2.f_nxt0 p200.2.f_prv1 p200.2.f_head p200.2.f_tail p200.2.f_len p200.2.f_ent p200.2.f_aband p200.2.f_log p200.2.f_hist p200.2.f_n p200.2.f_clk) = Q.len p200.2 from own_lenmk.trans (by first | (simp only [len_wr, len_wrL] <;> rfl) | rfl)) hl202)
    · rw [if_neg hc168] at h
      have hr0 := Option.some.inj h
      subst hr0
      show Q.len s = _
      exact rfl
set_option maxRecDepth 100000 in
theorem ev_j_release (R : AHeap) (s : Q) (v1 : Int32) {res : Int32 × Q} {out : Option Value × AHeap} (h : j_release s v1 = some res) (hk : out = (some (.int res.1), (W1 res.2 R))) : Eval own_P 13 0 [some (.ref 0), some (.int v1), none, none] [] (W1 s R) out := by
  rw [j_release] at h
  refine Eval.aload_n rfl rfl ?_
  refine Eval.iload_n rfl rfl ?_
  refine Eval.callI (rest := []) (x := (j_validThread s v1)) (H1 := (W1 s R)) rfl rfl (ev_j_validThread R s v1 rfl rfl) ?_
  by_cases hc166 : (j_validThread s v1) = (0 : Int32)
  · rw [if_pos hc166] at h
    refine Eval.ifF rfl (teq hc166).2 ?_
    refine Eval.bipush (x := (-2 : Int32)) rfl rfl ?_
    cases h
    subst hk
    exact Eval.ret rfl rfl
  · rw [if_neg hc166] at h
    refine Eval.ifT (t := 11) rfl rfl (feq hc166).2 ?_
    refine Eval.aload_n rfl rfl ?_
    refine Eval.getfield rfl rfl own_g1_st ?_
    refine Eval.iload_n rfl rfl ?_
    obtain ⟨hb167, h⟩ := ite_some h
    refine Eval.iaload rfl own_a1_st hb167 ?_
    refine Eval.iconst (x := (3 : Int32)) rfl rfl ?_
    by_cases hc168 : (rd s.f_st v1) = (3 : Int32)
    · rw [if_pos hc168] at h
      refine Eval.icmpT (t := 24) rfl rfl (teq hc168).1 ?_
      refine Eval.aload_n rfl rfl ?_
      refine Eval.aload_n rfl rfl ?_
      refine Eval.getfield rfl rfl own_g1_clk ?_
      refine Eval.iconst (x := (1 : Int32)) rfl rfl ?_
      refine Eval.iadd rfl ?_
      refine Eval.putfield rfl rfl own_p1_clk ?_
      refine Eval.aload_n rfl rfl ?_
      refine Eval.getfield rfl rfl own_g1_lk ?_
      refine Eval.iload_n rfl rfl ?_
      obtain ⟨hb169, h⟩ := ite_some h
      refine Eval.iaload rfl own_a1_lk hb169 ?_
      refine Eval.istore_n (L' := [some (.ref 0), some (.int v1), some (.int (rd s.f_lk v1)), none]) rfl rfl ?_
      refine Eval.aload_n rfl rfl ?_
      refine Eval.iload_n rfl rfl ?_
      obtain ⟨p200, hq201, h⟩ := bind_some h
      refine Eval.callI (rest := []) (x := p200.1) (H1 := (W1 p200.2 R)) rfl rfl (Eval.heap own_mk1 (ev_j_popFront R (Q.mk s.f_st s.f_lk s.f_tmo s.f_spin s.f_nxt0 s.f_prv1 s.f_head s.f_tail s.f_len s.f_ent s.f_aband s.f_log s.f_hist s.f_n (s.f_clk + (1 : Int32))) (rd s.f_lk v1) hq201 rfl)) ?_
      refine Eval.istore_n (L' := [some (.ref 0), some (.int v1), some (.int (rd s.f_lk v1)), some (.int p200.1)]) rfl rfl ?_
      refine Eval.aload_n rfl rfl ?_
      refine Eval.getfield rfl rfl own_g1_st ?_
      refine Eval.iload_n rfl rfl ?_
      refine Eval.iconst (x := (0 : Int32)) rfl rfl ?_
      obtain ⟨hb203, h⟩ := ite_some h
      refine Eval.iastore rfl rfl own_a1_st hb203 own_s1_st ?_
      refine Eval.aload_n rfl rfl ?_
      refine Eval.getfield rfl rfl own_g1_lk ?_
      refine Eval.iload_n rfl rfl ?_
      refine Eval.iconst (x := (-1 : Int32)) rfl rfl ?_
      obtain ⟨hb204, h⟩ := ite_some h
      refine Eval.iastore rfl rfl own_a1_lk hb204 own_s1_lk ?_
      refine Eval.aload_n rfl rfl ?_
      refine Eval.iload_n rfl rfl ?_
      refine Eval.callI (rest := []) (x := (j_inNodes p200.1)) (H1 := (C1 (wr p200.2.f_st v1 (0 : Int32)) (wr p200.2.f_lk v1 (-1 : Int32)) p200.2.f_tmo p200.2.f_spin p200.2.f_nxt0 p200.2.f_prv1 p200.2.f_head p200.2.f_tail p200.2.f_len p200.2.f_ent p200.2.f_aband p200.2.f_log p200.2.f_hist p200.2.f_n p200.2.f_clk R)) rfl rfl (ev_j_inNodes (C1 (wr p200.2.f_st v1 (0 : Int32)) (wr p200.2.f_lk v1 (-1 : Int32)) p200.2.f_tmo p200.2.f_spin p200.2.f_nxt0 p200.2.f_prv1 p200.2.f_head p200.2.f_tail p200.2.f_len p200.2.f_ent p200.2.f_aband p200.2.f_log p200.2.f_hist p200.2.f_n p200.2.f_clk R) 0 p200.1 rfl rfl) ?_
      by_cases hc206 : (j_inNodes p200.1) = (0 : Int32)
      · rw [if_pos hc206] at h
        refine Eval.ifT (t := 76) rfl rfl (teq hc206).1 ?_
        refine Eval.heap own_mk1 ?_
        refine Eval.weak (L' := [some (.ref 0), none, none, some (.int p200.1)]) ⟨_, _, rfl, Or.inr rfl, _, _, rfl, Or.inl rfl, _, _, rfl, Or.inl rfl, _, _, rfl, Or.inr rfl, rfl⟩ ?_
        exact ev_j_release_b76 R (Q.mk (wr p200.2.f_st v1 (0 : Int32)) (wr p200.2.f_lk v1 (-1 : Int32)) p200.2.f_tmo p200.2.f_spin p200.2.f_nxt0 p200.2.f_prv1 p200.2.f_head p200.2.f_tail p200.2.f_len p200.2.f_ent p200.2.f_aband p200.2.f_log p200.2.f_hist p200.2.f_n p200.2.f_clk) p200.1 h hk
      · rw [if_neg hc206] at h
        refine Eval.ifF rfl (feq hc206).1 ?_
        refine Eval.aload_n rfl rfl ?_
        refine Eval.getfield rfl rfl own_g1_st ?_
        refine Eval.iload_n rfl rfl ?_
        refine Eval.iconst (x := (2 : Int32)) rfl rfl ?_
        obtain ⟨hb210, h⟩ := ite_some h
        refine Eval.iastore rfl rfl own_a1_st hb210 own_s1_st ?_
        refine Eval.heap own_mk1 ?_
        refine Eval.weak (L' := [some (.ref 0), none, none, some (.int p200.1)]) ⟨_, _, rfl, Or.inr rfl, _, _, rfl, Or.inl rfl, _, _, rfl, Or.inl rfl, _, _, rfl, Or.inr rfl, rfl⟩ ?_
        exact ev_j_release_b76 R (Q.mk (wr (wr p200.2.f_st v1 (0 : Int32)) p200.1 (2 : Int32)) (wr p200.2.f_lk v1 (-1 : Int32)) p200.2.f_tmo p200.2.f_spin p200.2.f_nxt0 p200.2.f_prv1 p200.2.f_head p200.2.f_tail p200.2.f_len p200.2.f_ent p200.2.f_aband p200.2.f_log p200.2.f_hist p200.2.f_n p200.2.f_clk) p200.1 h hk
    · rw [if_neg hc168] at h
      refine Eval.icmpF rfl (feq hc168).1 ?_
      refine Eval.bipush (x := (-2 : Int32)) rfl rfl ?_
      cases h
      subst hk
      exact Eval.ret rfl rfl
def law_b541 (s : Q) (w0 : Int32) (w1 : Int32) : Option (Int32 × Q) := (if w0 = w1 then some ((1 : Int32), s) else some ((0 : Int32), s))
set_option maxRecDepth 100000 in
theorem ev_law_b541 (s : Q) (w0 : Int32) (w1 : Int32) {res : Int32 × Q} {out : Option Value × AHeap} (h : law_b541 s w0 w1 = some res) (hk : out = (some (.int res.1), (W1 res.2 []))) : Eval own_P 0 541 [none, none, none, none, none, none, none, none, none, none, none, none, none, none, none, none, none, none, none, none, none, none, none, none, none, none, none] [.int w1, .int w0] (W1 s []) out := by
  rw [law_b541] at h
  by_cases hc261 : w0 = w1
  · rw [if_pos hc261] at h
    refine Eval.icmpF rfl (teq hc261).2 ?_
    refine Eval.iconst (x := (1 : Int32)) rfl rfl ?_
    refine Eval.goto (t := 549) rfl rfl ?_
    cases h
    subst hk
    exact Eval.ret rfl rfl
  · rw [if_neg hc261] at h
    refine Eval.icmpT (t := 548) rfl rfl (feq hc261).2 ?_
    refine Eval.iconst (x := (0 : Int32)) rfl rfl ?_
    cases h
    subst hk
    exact Eval.ret rfl rfl
def law_b503 (s : Q) (v18 : Int32) (v19 : Int32) (v20 : Int32) (v21 : Int32) (v23 : Int32) (v24 : Int32) (v25 : Int32) (w0 : Int32) : Option (Int32 × Q) := (if v18 = v23 then (if v19 = v24 then (if v20 = v25 then (law_b541 s v21 (if w0 = (0 : Int32) then (-2 : Int32) else (-1 : Int32))) else some ((0 : Int32), s)) else some ((0 : Int32), s)) else some ((0 : Int32), s))
set_option maxRecDepth 100000 in
theorem ev_law_b503 (s : Q) (v18 : Int32) (v19 : Int32) (v20 : Int32) (v21 : Int32) (v23 : Int32) (v24 : Int32) (v25 : Int32) (w0 : Int32) {res : Int32 × Q} {out : Option Value × AHeap} (h : law_b503 s v18 v19 v20 v21 v23 v24 v25 w0 = some res) (hk : out = (some (.int res.1), (W1 res.2 []))) : Eval own_P 0 503 [none, none, none, none, none, none, none, none, none, none, none, none, none, none, none, none, none, none, some (.int v18), some (.int v19), some (.int v20), some (.int v21), none, some (.int v23), some (.int v24), some (.int v25), none] [.int w0] (W1 s []) out := by
  rw [law_b503] at h
  refine Eval.istore (L' := [none, none, none, none, none, none, none, none, none, none, none, none, none, none, none, none, none, none, some (.int v18), some (.int v19), some (.int v20), some (.int v21), none, some (.int v23), some (.int v24), some (.int v25), some (.int w0)]) rfl rfl ?_
  refine Eval.iload rfl rfl ?_
  refine Eval.iload rfl rfl ?_
  by_cases hc256 : v18 = v23
  · rw [if_pos hc256] at h
    refine Eval.icmpF rfl (teq hc256).2 ?_
    refine Eval.iload rfl rfl ?_
    refine Eval.iload rfl rfl ?_
    by_cases hc257 : v19 = v24
    · rw [if_pos hc257] at h
      refine Eval.icmpF rfl (teq hc257).2 ?_
      refine Eval.iload rfl rfl ?_
      refine Eval.iload rfl rfl ?_
      by_cases hc258 : v20 = v25
      · rw [if_pos hc258] at h
        refine Eval.icmpT (t := 528) rfl rfl (teq hc258).1 ?_
        refine Eval.iload rfl rfl ?_
        refine Eval.iload rfl rfl ?_
        suffices hJ260 : Eval own_P 0 541 [none, none, none, none, none, none, none, none, none, none, none, none, none, none, none, none, none, none, none, none, none, none, none, none, none, none, none] [.int (if w0 = (0 : Int32) then (-2 : Int32) else (-1 : Int32)), .int v21] (W1 s []) out by
          by_cases hc259 : w0 = (0 : Int32)
          · refine Eval.ifT (t := 539) rfl rfl (teq hc259).1 ?_
            refine Eval.bipush (x := (-2 : Int32)) rfl rfl ?_
            refine Eval.weak (L' := [none, none, none, none, none, none, none, none, none, none, none, none, none, none, none, none, none, none, none, none, none, none, none, none, none, none, none]) ⟨_, _, rfl, Or.inl rfl, _, _, rfl, Or.inl rfl, _, _, rfl, Or.inl rfl, _, _, rfl, Or.inl rfl, _, _, rfl, Or.inl rfl, _, _, rfl, Or.inl rfl, _, _, rfl, Or.inl rfl, _, _, rfl, Or.inl rfl, _, _, rfl, Or.inl rfl, _, _, rfl, Or.inl rfl, _, _, rfl, Or.inl rfl, _, _, rfl, Or.inl rfl, _, _, rfl, Or.inl rfl, _, _, rfl, Or.inl rfl, _, _, rfl, Or.inl rfl, _, _, rfl, Or.inl rfl, _, _, rfl, Or.inl rfl, _, _, rfl, Or.inl rfl, _, _, rfl, Or.inl rfl, _, _, rfl, Or.inl rfl, _, _, rfl, Or.inl rfl, _, _, rfl, Or.inl rfl, _, _, rfl, Or.inl rfl, _, _, rfl, Or.inl rfl, _, _, rfl, Or.inl rfl, _, _, rfl, Or.inl rfl, _, _, rfl, Or.inl rfl, rfl⟩ ?_
            exact (Eval.conv hJ260 rfl (by simp only [if_pos hc259]))
          · refine Eval.ifF rfl (feq hc259).1 ?_
            refine Eval.iconst (x := (-1 : Int32)) rfl rfl ?_
            refine Eval.goto (t := 541) rfl rfl ?_
            refine Eval.weak (L' := [none, none, none, none, none, none, none, none, none, none, none, none, none, none, none, none, none, none, none, none, none, none, none, none, none, none, none]) ⟨_, _, rfl, Or.inl rfl, _, _, rfl, Or.inl rfl, _, _, rfl, Or.inl rfl, _, _, rfl, Or.inl rfl, _, _, rfl, Or.inl rfl, _, _, rfl, Or.inl rfl, _, _, rfl, Or.inl rfl, _, _, rfl, Or.inl rfl, _, _, rfl, Or.inl rfl, _, _, rfl, Or.inl rfl, _, _, rfl, Or.inl rfl, _, _, rfl, Or.inl rfl, _, _, rfl, Or.inl rfl, _, _, rfl, Or.inl rfl, _, _, rfl, Or.inl rfl, _, _, rfl, Or.inl rfl, _, _, rfl, Or.inl rfl, _, _, rfl, Or.inl rfl, _, _, rfl, Or.inl rfl, _, _, rfl, Or.inl rfl, _, _, rfl, Or.inl rfl, _, _, rfl, Or.inl rfl, _, _, rfl, Or.inl rfl, _, _, rfl, Or.inl rfl, _, _, rfl, Or.inl rfl, _, _, rfl, Or.inl rfl, _, _, rfl, Or.inl rfl, rfl⟩ ?_
            exact (Eval.conv hJ260 rfl (by simp only [if_neg hc259]))
        exact ev_law_b541 s v21 (if w0 = (0 : Int32) then (-2 : Int32) else (-1 : Int32)) h hk
      · rw [if_neg hc258] at h
        refine Eval.icmpF rfl (feq hc258).1 ?_
        refine Eval.iconst (x := (0 : Int32)) rfl rfl ?_
        cases h
        subst hk
        exact Eval.ret rfl rfl
    · rw [if_neg hc257] at h
      refine Eval.icmpT (t := 526) rfl rfl (feq hc257).2 ?_
      refine Eval.iconst (x := (0 : Int32)) rfl rfl ?_
      cases h
      subst hk
      exact Eval.ret rfl rfl
  · rw [if_neg hc256] at h
    refine Eval.icmpT (t := 526) rfl rfl (feq hc256).2 ?_
    refine Eval.iconst (x := (0 : Int32)) rfl rfl ?_
    cases h
    subst hk
    exact Eval.ret rfl rfl
def law_b481 (s : Q) (v8 : Int32) (v10 : Int32) (v11 : Int32) (v18 : Int32) (v19 : Int32) (v20 : Int32) (v21 : Int32) (v23 : Int32) (v24 : Int32) (w0 : Int32) : Option (Int32 × Q) := (law_b503 s v18 v19 v20 v21 v23 v24 w0 (if v10 = (0 : Int32) then (if v11 = (0 : Int32) then (0 : Int32) else (1 : Int32)) else (if v8 = (0 : Int32) then (1 : Int32) else (if v11 = (0 : Int32) then (0 : Int32) else (1 : Int32)))))
set_option maxRecDepth 100000 in
theorem ev_law_b481 (s : Q) (v8 : Int32) (v10 : Int32) (v11 : Int32) (v18 : Int32) (v19 : Int32) (v20 : Int32) (v21 : Int32) (v23 : Int32) (v24 : Int32) (w0 : Int32) {res : Int32 × Q} {out : Option Value × AHeap} (h : law_b481 s v8 v10 v11 v18 v19 v20 v21 v23 v24 w0 = some res) (hk : out = (some (.int res.1), (W1 res.2 []))) : Eval own_P 0 481 [none, none, none, none, none, none, none, none, some (.int v8), none, some (.int v10), some (.int v11), none, none, none, none, none, none, some (.int v18), some (.int v19), some (.int v20), some (.int v21), none, some (.int v23), some (.int v24), none, none] [.int w0] (W1 s []) out := by
  rw [law_b481] at h
  refine Eval.istore (L' := [none, none, none, none, none, none, none, none, some (.int v8), none, some (.int v10), some (.int v11), none, none, none, none, none, none, some (.int v18), some (.int v19), some (.int v20), some (.int v21), none, some (.int v23), some (.int v24), some (.int w0), none]) rfl rfl ?_
  refine Eval.iload rfl rfl ?_
  suffices hJ255 : Eval own_P 0 503 [none, none, none, none, none, none, none, none, none, none, none, none, none, none, none, none, none, none, some (.int v18), some (.int v19), some (.int v20), some (.int v21), none, some (.int v23), some (.int v24), some (.int w0), none] [.int (if v10 = (0 : Int32) then (if v11 = (0 : Int32) then (0 : Int32) else (1 : Int32)) else (if v8 = (0 : Int32) then (1 : Int32) else (if v11 = (0 : Int32) then (0 : Int32) else (1 : Int32))))] (W1 s []) out by
    by_cases hc251 : v10 = (0 : Int32)
    · refine Eval.ifT (t := 493) rfl rfl (teq hc251).1 ?_
      refine Eval.iload rfl rfl ?_
      by_cases hc252 : v11 = (0 : Int32)
      · refine Eval.ifT (t := 502) rfl rfl (teq hc252).1 ?_
        refine Eval.iconst (x := (0 : Int32)) rfl rfl ?_
        refine Eval.weak (L' := [none, none, none, none, none, none, none, none, none, none, none, none, none, none, none, none, none, none, some (.int v18), some (.int v19), some (.int v20), some (.int v21), none, some (.int v23), some (.int v24), some (.int w0), none]) ⟨_, _, rfl, Or.inl rfl, _, _, rfl, Or.inl rfl, _, _, rfl, Or.inl rfl, _, _, rfl, Or.inl rfl, _, _, rfl, Or.inl rfl, _, _, rfl, Or.inl rfl, _, _, rfl, Or.inl rfl, _, _, rfl, Or.inl rfl, _, _, rfl, Or.inl rfl, _, _, rfl, Or.inl rfl, _, _, rfl, Or.inl rfl, _, _, rfl, Or.inl rfl, _, _, rfl, Or.inl rfl, _, _, rfl, Or.inl rfl, _, _, rfl, Or.inl rfl, _, _, rfl, Or.inl rfl, _, _, rfl, Or.inl rfl, _, _, rfl, Or.inl rfl, _, _, rfl, Or.inr rfl, _, _, rfl, Or.inr rfl, _, _, rfl, Or.inr rfl, _, _, rfl, Or.inr rfl, _, _, rfl, Or.inl rfl, _, _, rfl, Or.inr rfl, _, _, rfl, Or.inr rfl, _, _, rfl, Or.inr rfl, _, _, rfl, Or.inl rfl, rfl⟩ ?_
        exact (Eval.conv hJ255 rfl (by simp only [if_pos hc251, if_pos hc252]))
      · refine Eval.ifF rfl (feq hc252).1 ?_
        refine Eval.iconst (x := (1 : Int32)) rfl rfl ?_
        refine Eval.goto (t := 503) rfl rfl ?_
        refine Eval.weak (L' := [none, none, none, none, none, none, none, none, none, none, none, none, none, none, none, none, none, none, some (.int v18), some (.int v19), some (.int v20), some (.int v21), none, some (.int v23), some (.int v24), some (.int w0), none]) ⟨_, _, rfl, Or.inl rfl, _, _, rfl, Or.inl rfl, _, _, rfl, Or.inl rfl, _, _, rfl, Or.inl rfl, _, _, rfl, Or.inl rfl, _, _, rfl, Or.inl rfl, _, _, rfl, Or.inl rfl, _, _, rfl, Or.inl rfl, _, _, rfl, Or.inl rfl, _, _, rfl, Or.inl rfl, _, _, rfl, Or.inl rfl, _, _, rfl, Or.inl rfl, _, _, rfl, Or.inl rfl, _, _, rfl, Or.inl rfl, _, _, rfl, Or.inl rfl, _, _, rfl, Or.inl rfl, _, _, rfl, Or.inl rfl, _, _, rfl, Or.inl rfl, _, _, rfl, Or.inr rfl, _, _, rfl, Or.inr rfl, _, _, rfl, Or.inr rfl, _, _, rfl, Or.inr rfl, _, _, rfl, Or.inl rfl, _, _, rfl, Or.inr rfl, _, _, rfl, Or.inr rfl, _, _, rfl, Or.inr rfl, _, _, rfl, Or.inl rfl, rfl⟩ ?_
        exact (Eval.conv hJ255 rfl (by simp only [if_pos hc251, if_neg hc252]))
    · refine Eval.ifF rfl (feq hc251).1 ?_
      refine Eval.iload rfl rfl ?_
      by_cases hc253 : v8 = (0 : Int32)
      · refine Eval.ifT (t := 498) rfl rfl (teq hc253).1 ?_
        refine Eval.iconst (x := (1 : Int32)) rfl rfl ?_
        refine Eval.goto (t := 503) rfl rfl ?_
        refine Eval.weak (L' := [none, none, none, none, none, none, none, none, none, none, none, none, none, none, none, none, none, none, some (.int v18), some (.int v19), some (.int v20), some (.int v21), none, some (.int v23), some (.int v24), some (.int w0), none]) ⟨_, _, rfl, Or.inl rfl, _, _, rfl, Or.inl rfl, _, _, rfl, Or.inl rfl, _, _, rfl, Or.inl rfl, _, _, rfl, Or.inl rfl, _, _, rfl, Or.inl rfl, _, _, rfl, Or.inl rfl, _, _, rfl, Or.inl rfl, _, _, rfl, Or.inl rfl, _, _, rfl, Or.inl rfl, _, _, rfl, Or.inl rfl, _, _, rfl, Or.inl rfl, _, _, rfl, Or.inl rfl, _, _, rfl, Or.inl rfl, _, _, rfl, Or.inl rfl, _, _, rfl, Or.inl rfl, _, _, rfl, Or.inl rfl, _, _, rfl, Or.inl rfl, _, _, rfl, Or.inr rfl, _, _, rfl, Or.inr rfl, _, _, rfl, Or.inr rfl, _, _, rfl, Or.inr rfl, _, _, rfl, Or.inl rfl, _, _, rfl, Or.inr rfl, _, _, rfl, Or.inr rfl, _, _, rfl, Or.inr rfl, _, _, rfl, Or.inl rfl, rfl⟩ ?_
        exact (Eval.conv hJ255 rfl (by simp only [if_neg hc251, if_pos hc253]))
      · refine Eval.ifF rfl (feq hc253).1 ?_
        refine Eval.iload rfl rfl ?_
        by_cases hc254 : v11 = (0 : Int32)
        · refine Eval.ifT (t := 502) rfl rfl (teq hc254).1 ?_
          refine Eval.iconst (x := (0 : Int32)) rfl rfl ?_
          refine Eval.weak (L' := [none, none, none, none, none, none, none, none, none, none, none, none, none, none, none, none, none, none, some (.int v18), some (.int v19), some (.int v20), some (.int v21), none, some (.int v23), some (.int v24), some (.int w0), none]) ⟨_, _, rfl, Or.inl rfl, _, _, rfl, Or.inl rfl, _, _, rfl, Or.inl rfl, _, _, rfl, Or.inl rfl, _, _, rfl, Or.inl rfl, _, _, rfl, Or.inl rfl, _, _, rfl, Or.inl rfl, _, _, rfl, Or.inl rfl, _, _, rfl, Or.inl rfl, _, _, rfl, Or.inl rfl, _, _, rfl, Or.inl rfl, _, _, rfl, Or.inl rfl, _, _, rfl, Or.inl rfl, _, _, rfl, Or.inl rfl, _, _, rfl, Or.inl rfl, _, _, rfl, Or.inl rfl, _, _, rfl, Or.inl rfl, _, _, rfl, Or.inl rfl, _, _, rfl, Or.inr rfl, _, _, rfl, Or.inr rfl, _, _, rfl, Or.inr rfl, _, _, rfl, Or.inr rfl, _, _, rfl, Or.inl rfl, _, _, rfl, Or.inr rfl, _, _, rfl, Or.inr rfl, _, _, rfl, Or.inr rfl, _, _, rfl, Or.inl rfl, rfl⟩ ?_
          exact (Eval.conv hJ255 rfl (by simp only [if_neg hc251, if_neg hc253, if_pos hc254]))
        · refine Eval.ifF rfl (feq hc254).1 ?_
          refine Eval.iconst (x := (1 : Int32)) rfl rfl ?_
          refine Eval.goto (t := 503) rfl rfl ?_
          refine Eval.weak (L' := [none, none, none, none, none, none, none, none, none, none, none, none, none, none, none, none, none, none, some (.int v18), some (.int v19), some (.int v20), some (.int v21), none, some (.int v23), some (.int v24), some (.int w0), none]) ⟨_, _, rfl, Or.inl rfl, _, _, rfl, Or.inl rfl, _, _, rfl, Or.inl rfl, _, _, rfl, Or.inl rfl, _, _, rfl, Or.inl rfl, _, _, rfl, Or.inl rfl, _, _, rfl, Or.inl rfl, _, _, rfl, Or.inl rfl, _, _, rfl, Or.inl rfl, _, _, rfl, Or.inl rfl, _, _, rfl, Or.inl rfl, _, _, rfl, Or.inl rfl, _, _, rfl, Or.inl rfl, _, _, rfl, Or.inl rfl, _, _, rfl, Or.inl rfl, _, _, rfl, Or.inl rfl, _, _, rfl, Or.inl rfl, _, _, rfl, Or.inl rfl, _, _, rfl, Or.inr rfl, _, _, rfl, Or.inr rfl, _, _, rfl, Or.inr rfl, _, _, rfl, Or.inr rfl, _, _, rfl, Or.inl rfl, _, _, rfl, Or.inr rfl, _, _, rfl, Or.inr rfl, _, _, rfl, Or.inr rfl, _, _, rfl, Or.inl rfl, rfl⟩ ?_
          exact (Eval.conv hJ255 rfl (by simp only [if_neg hc251, if_neg hc253, if_neg hc254]))
  exact ev_law_b503 s v18 v19 v20 v21 v23 v24 w0 (if v10 = (0 : Int32) then (if v11 = (0 : Int32) then (0 : Int32) else (1 : Int32)) else (if v8 = (0 : Int32) then (1 : Int32) else (if v11 = (0 : Int32) then (0 : Int32) else (1 : Int32)))) h hk
def law_b454 (s : Q) (v3 : Int32) (v8 : Int32) (v9 : Int32) (v10 : Int32) (v11 : Int32) (v18 : Int32) (v19 : Int32) (v20 : Int32) (v21 : Int32) (v23 : Int32) (w0 : Int32) : Option (Int32 × Q) := (law_b481 s v8 v10 v11 v18 v19 v20 v21 v23 w0 (if v9 = (0 : Int32) then (-2 : Int32) else (if v10 = (0 : Int32) then (if v11 = (0 : Int32) then (-1 : Int32) else v3) else v3)))
set_option maxRecDepth 100000 in
theorem ev_law_b454 (s : Q) (v3 : Int32) (v8 : Int32) (v9 : Int32) (v10 : Int32) (v11 : Int32) (v18 : Int32) (v19 : Int32) (v20 : Int32) (v21 : Int32) (v23 : Int32) (w0 : Int32) {res : Int32 × Q} {out : Option Value × AHeap} (h : law_b454 s v3 v8 v9 v10 v11 v18 v19 v20 v21 v23 w0 = some res) (hk : out = (some (.int res.1), (W1 res.2 []))) : Eval own_P 0 454 [none, none, none, some (.int v3), none, none, none, none, some (.int v8), some (.int v9), some (.int v10), some (.int v11), none, none, none, none, none, none, some (.int v18), some (.int v19), some (.int v20), some (.int v21), none, some (.int v23), none, none, none] [.int w0] (W1 s []) out := by
  rw [law_b454] at h
  refine Eval.istore (L' := [none, none, none, some (.int v3), none, none, none, none, some (.int v8), some (.int v9), some (.int v10), some (.int v11), none, none, none, none, none, none, some (.int v18), some (.int v19), some (.int v20), some (.int v21), none, some (.int v23), some (.int w0), none, none]) rfl rfl ?_
  refine Eval.iload rfl rfl ?_
  suffices hJ250 : Eval own_P 0 481 [none, none, none, none, none, none, none, none, some (.int v8), none, some (.int v10), some (.int v11), none, none, none, none, none, none, some (.int v18), some (.int v19), some (.int v20), some (.int v21), none, some (.int v23), some (.int w0), none, none] [.int (if v9 = (0 : Int32) then (-2 : Int32) else (if v10 = (0 : Int32) then (if v11 = (0 : Int32) then (-1 : Int32) else v3) else v3))] (W1 s []) out by
    by_cases hc247 : v9 = (0 : Int32)
    · refine Eval.ifF rfl (teq hc247).2 ?_
      refine Eval.bipush (x := (-2 : Int32)) rfl rfl ?_
      refine Eval.goto (t := 481) rfl rfl ?_
      refine Eval.weak (L' := [none, none, none, none, none, none, none, none, some (.int v8), none, some (.int v10), some (.int v11), none, none, none, none, none, none, some (.int v18), some (.int v19), some (.int v20), some (.int v21), none, some (.int v23), some (.int w0), none, none]) ⟨_, _, rfl, Or.inl rfl, _, _, rfl, Or.inl rfl, _, _, rfl, Or.inl rfl, _, _, rfl, Or.inl rfl, _, _, rfl, Or.inl rfl, _, _, rfl, Or.inl rfl, _, _, rfl, Or.inl rfl, _, _, rfl, Or.inl rfl, _, _, rfl, Or.inr rfl, _, _, rfl, Or.inl rfl, _, _, rfl, Or.inr rfl, _, _, rfl, Or.inr rfl, _, _, rfl, Or.inl rfl, _, _, rfl, Or.inl rfl, _, _, rfl, Or.inl rfl, _, _, rfl, Or.inl rfl, _, _, rfl, Or.inl rfl, _, _, rfl, Or.inl rfl, _, _, rfl, Or.inr rfl, _, _, rfl, Or.inr rfl, _, _, rfl, Or.inr rfl, _, _, rfl, Or.inr rfl, _, _, rfl, Or.inl rfl, _, _, rfl, Or.inr rfl, _, _, rfl, Or.inr rfl, _, _, rfl, Or.inl rfl, _, _, rfl, Or.inl rfl, rfl⟩ ?_
      exact (Eval.conv hJ250 rfl (by simp only [if_pos hc247]))
    · refine Eval.ifT (t := 466) rfl rfl (feq hc247).2 ?_
      refine Eval.iload rfl rfl ?_
      by_cases hc248 : v10 = (0 : Int32)
      · refine Eval.ifF rfl (teq hc248).2 ?_
        refine Eval.iload rfl rfl ?_
        by_cases hc249 : v11 = (0 : Int32)
        · refine Eval.ifT (t := 480) rfl rfl (teq hc249).1 ?_
          refine Eval.iconst (x := (-1 : Int32)) rfl rfl ?_
          refine Eval.weak (L' := [none, none, none, none, none, none, none, none, some (.int v8), none, some (.int v10), some (.int v11), none, none, none, none, none, none, some (.int v18), some (.int v19), some (.int v20), some (.int v21), none, some (.int v23), some (.int w0), none, none]) ⟨_, _, rfl, Or.inl rfl, _, _, rfl, Or.inl rfl, _, _, rfl, Or.inl rfl, _, _, rfl, Or.inl rfl, _, _, rfl, Or.inl rfl, _, _, rfl, Or.inl rfl, _, _, rfl, Or.inl rfl, _, _, rfl, Or.inl rfl, _, _, rfl, Or.inr rfl, _, _, rfl, Or.inl rfl, _, _, rfl, Or.inr rfl, _, _, rfl, Or.inr rfl, _, _, rfl, Or.inl rfl, _, _, rfl, Or.inl rfl, _, _, rfl, Or.inl rfl, _, _, rfl, Or.inl rfl, _, _, rfl, Or.inl rfl, _, _, rfl, Or.inl rfl, _, _, rfl, Or.inr rfl, _, _, rfl, Or.inr rfl, _, _, rfl, Or.inr rfl, _, _, rfl, Or.inr rfl, _, _, rfl, Or.inl rfl, _, _, rfl, Or.inr rfl, _, _, rfl, Or.inr rfl, _, _, rfl, Or.inl rfl, _, _, rfl, Or.inl rfl, rfl⟩ ?_
          exact (Eval.conv hJ250 rfl (by simp only [if_neg hc247, if_pos hc248, if_pos hc249]))
        · refine Eval.ifF rfl (feq hc249).1 ?_
          refine Eval.iload_n rfl rfl ?_
          refine Eval.goto (t := 481) rfl rfl ?_
          refine Eval.weak (L' := [none, none, none, none, none, none, none, none, some (.int v8), none, some (.int v10), some (.int v11), none, none, none, none, none, none, some (.int v18), some (.int v19), some (.int v20), some (.int v21), none, some (.int v23), some (.int w0), none, none]) ⟨_, _, rfl, Or.inl rfl, _, _, rfl, Or.inl rfl, _, _, rfl, Or.inl rfl, _, _, rfl, Or.inl rfl, _, _, rfl, Or.inl rfl, _, _, rfl, Or.inl rfl, _, _, rfl, Or.inl rfl, _, _, rfl, Or.inl rfl, _, _, rfl, Or.inr rfl, _, _, rfl, Or.inl rfl, _, _, rfl, Or.inr rfl, _, _, rfl, Or.inr rfl, _, _, rfl, Or.inl rfl, _, _, rfl, Or.inl rfl, _, _, rfl, Or.inl rfl, _, _, rfl, Or.inl rfl, _, _, rfl, Or.inl rfl, _, _, rfl, Or.inl rfl, _, _, rfl, Or.inr rfl, _, _, rfl, Or.inr rfl, _, _, rfl, Or.inr rfl, _, _, rfl, Or.inr rfl, _, _, rfl, Or.inl rfl, _, _, rfl, Or.inr rfl, _, _, rfl, Or.inr rfl, _, _, rfl, Or.inl rfl, _, _, rfl, Or.inl rfl, rfl⟩ ?_
          exact (Eval.conv hJ250 rfl (by simp only [if_neg hc247, if_pos hc248, if_neg hc249]))
      · refine Eval.ifT (t := 476) rfl rfl (feq hc248).2 ?_
        refine Eval.iload_n rfl rfl ?_
        refine Eval.goto (t := 481) rfl rfl ?_
        refine Eval.weak (L' := [none, none, none, none, none, none, none, none, some (.int v8), none, some (.int v10), some (.int v11), none, none, none, none, none, none, some (.int v18), some (.int v19), some (.int v20), some (.int v21), none, some (.int v23), some (.int w0), none, none]) ⟨_, _, rfl, Or.inl rfl, _, _, rfl, Or.inl rfl, _, _, rfl, Or.inl rfl, _, _, rfl, Or.inl rfl, _, _, rfl, Or.inl rfl, _, _, rfl, Or.inl rfl, _, _, rfl, Or.inl rfl, _, _, rfl, Or.inl rfl, _, _, rfl, Or.inr rfl, _, _, rfl, Or.inl rfl, _, _, rfl, Or.inr rfl, _, _, rfl, Or.inr rfl, _, _, rfl, Or.inl rfl, _, _, rfl, Or.inl rfl, _, _, rfl, Or.inl rfl, _, _, rfl, Or.inl rfl, _, _, rfl, Or.inl rfl, _, _, rfl, Or.inl rfl, _, _, rfl, Or.inr rfl, _, _, rfl, Or.inr rfl, _, _, rfl, Or.inr rfl, _, _, rfl, Or.inr rfl, _, _, rfl, Or.inl rfl, _, _, rfl, Or.inr rfl, _, _, rfl, Or.inr rfl, _, _, rfl, Or.inl rfl, _, _, rfl, Or.inl rfl, rfl⟩ ?_
        exact (Eval.conv hJ250 rfl (by simp only [if_neg hc247, if_neg hc248]))
  exact ev_law_b481 s v8 v10 v11 v18 v19 v20 v21 v23 w0 (if v9 = (0 : Int32) then (-2 : Int32) else (if v10 = (0 : Int32) then (if v11 = (0 : Int32) then (-1 : Int32) else v3) else v3)) h hk
def law_b414 (s : Q) (v3 : Int32) (v8 : Int32) (v9 : Int32) (v10 : Int32) (v11 : Int32) (v18 : Int32) (v19 : Int32) (v20 : Int32) (v21 : Int32) (w0 : Int32) : Option (Int32 × Q) := (law_b454 s v3 v8 v9 v10 v11 v18 v19 v20 v21 w0 (if v9 = (0 : Int32) then (-2 : Int32) else (if v10 = (0 : Int32) then (if v11 = (0 : Int32) then (-1 : Int32) else (0 : Int32)) else (if v8 = (0 : Int32) then (0 : Int32) else (1 : Int32)))))
set_option maxRecDepth 100000 in
theorem ev_law_b414 (s : Q) (v3 : Int32) (v8 : Int32) (v9 : Int32) (v10 : Int32) (v11 : Int32) (v18 : Int32) (v19 : Int32) (v20 : Int32) (v21 : Int32) (w0 : Int32) {res : Int32 × Q} {out : Option Value × AHeap} (h : law_b414 s v3 v8 v9 v10 v11 v18 v19 v20 v21 w0 = some res) (hk : out = (some (.int res.1), (W1 res.2 []))) : Eval own_P 0 414 [none, none, none, some (.int v3), none, none, none, none, some (.int v8), some (.int v9), some (.int v10), some (.int v11), none, none, none, none, none, none, some (.int v18), some (.int v19), some (.int v20), some (.int v21), none, none, none, none, none] [.int w0] (W1 s []) out := by
  rw [law_b414] at h
  refine Eval.istore (L' := [none, none, none, some (.int v3), none, none, none, none, some (.int v8), some (.int v9), some (.int v10), some (.int v11), none, none, none, none, none, none, some (.int v18), some (.int v19), some (.int v20), some (.int v21), none, some (.int w0), none, none, none]) rfl rfl ?_
  refine Eval.iload rfl rfl ?_
  suffices hJ246 : Eval own_P 0 454 [none, none, none, some (.int v3), none, none, none, none, some (.int v8), some (.int v9), some (.int v10), some (.int v11), none, none, none, none, none, none, some (.int v18), some (.int v19), some (.int v20), some (.int v21), none, some (.int w0), none, none, none] [.int (if v9 = (0 : Int32) then (-2 : Int32) else (if v10 = (0 : Int32) then (if v11 = (0 : Int32) then (-1 : Int32) else (0 : Int32)) else (if v8 = (0 : Int32) then (0 : Int32) else (1 : Int32))))] (W1 s []) out by
    by_cases hc242 : v9 = (0 : Int32)
    · refine Eval.ifF rfl (teq hc242).2 ?_
      refine Eval.bipush (x := (-2 : Int32)) rfl rfl ?_
      refine Eval.goto (t := 454) rfl rfl ?_
      exact (Eval.conv hJ246 rfl (by simp only [if_pos hc242]))
    · refine Eval.ifT (t := 426) rfl rfl (feq hc242).2 ?_
      refine Eval.iload rfl rfl ?_
      by_cases hc243 : v10 = (0 : Int32)
      · refine Eval.ifT (t := 444) rfl rfl (teq hc243).1 ?_
        refine Eval.iload rfl rfl ?_
        by_cases hc244 : v11 = (0 : Int32)
        · refine Eval.ifT (t := 453) rfl rfl (teq hc244).1 ?_
          refine Eval.iconst (x := (-1 : Int32)) rfl rfl ?_
          exact (Eval.conv hJ246 rfl (by simp only [if_neg hc242, if_pos hc243, if_pos hc244]))
        · refine Eval.ifF rfl (feq hc244).1 ?_
          refine Eval.iconst (x := (0 : Int32)) rfl rfl ?_
          refine Eval.goto (t := 454) rfl rfl ?_
          exact (Eval.conv hJ246 rfl (by simp only [if_neg hc242, if_pos hc243, if_neg hc244]))
      · refine Eval.ifF rfl (feq hc243).1 ?_
        refine Eval.iload rfl rfl ?_
        by_cases hc245 : v8 = (0 : Int32)
        · refine Eval.ifT (t := 440) rfl rfl (teq hc245).1 ?_
          refine Eval.iconst (x := (0 : Int32)) rfl rfl ?_
          refine Eval.goto (t := 454) rfl rfl ?_
          exact (Eval.conv hJ246 rfl (by simp only [if_neg hc242, if_neg hc243, if_pos hc245]))
        · refine Eval.ifF rfl (feq hc245).1 ?_
          refine Eval.iconst (x := (1 : Int32)) rfl rfl ?_
          refine Eval.goto (t := 454) rfl rfl ?_
          exact (Eval.conv hJ246 rfl (by simp only [if_neg hc242, if_neg hc243, if_neg hc245]))
  exact ev_law_b454 s v3 v8 v9 v10 v11 v18 v19 v20 v21 w0 (if v9 = (0 : Int32) then (-2 : Int32) else (if v10 = (0 : Int32) then (if v11 = (0 : Int32) then (-1 : Int32) else (0 : Int32)) else (if v8 = (0 : Int32) then (0 : Int32) else (1 : Int32)))) h hk
def law_b371 (s : Q) (v3 : Int32) (v8 : Int32) (v9 : Int32) (v10 : Int32) (v11 : Int32) (v18 : Int32) (v19 : Int32) (v20 : Int32) (v21 : Int32) (w0 : Int32) (w1 : Int32) : Option (Int32 × Q) := (if w0 = w1 then (law_b414 s v3 v8 v9 v10 v11 v18 v19 v20 v21 (if v9 = (0 : Int32) then (-2 : Int32) else (if v10 = (0 : Int32) then (if v11 = (0 : Int32) then (0 : Int32) else (3 : Int32)) else (if v8 = (0 : Int32) then (3 : Int32) else (1 : Int32))))) else some ((0 : Int32), s))
set_option maxRecDepth 100000 in
theorem ev_law_b371 (s : Q) (v3 : Int32) (v8 : Int32) (v9 : Int32) (v10 : Int32) (v11 : Int32) (v18 : Int32) (v19 : Int32) (v20 : Int32) (v21 : Int32) (w0 : Int32) (w1 : Int32) {res : Int32 × Q} {out : Option Value × AHeap} (h : law_b371 s v3 v8 v9 v10 v11 v18 v19 v20 v21 w0 w1 = some res) (hk : out = (some (.int res.1), (W1 res.2 []))) : Eval own_P 0 371 [none, none, none, some (.int v3), none, none, none, none, some (.int v8), some (.int v9), some (.int v10), some (.int v11), none, none, none, none, none, none, some (.int v18), some (.int v19), some (.int v20), some (.int v21), none, none, none, none, none] [.int w1, .int w0] (W1 s []) out := by
  rw [law_b371] at h
  by_cases hc236 : w0 = w1
  · rw [if_pos hc236] at h
    refine Eval.icmpT (t := 376) rfl rfl (teq hc236).1 ?_
    refine Eval.iload rfl rfl ?_
    suffices hJ241 : Eval own_P 0 414 [none, none, none, some (.int v3), none, none, none, none, some (.int v8), some (.int v9), some (.int v10), some (.int v11), none, none, none, none, none, none, some (.int v18), some (.int v19), some (.int v20), some (.int v21), none, none, none, none, none] [.int (if v9 = (0 : Int32) then (-2 : Int32) else (if v10 = (0 : Int32) then (if v11 = (0 : Int32) then (0 : Int32) else (3 : Int32)) else (if v8 = (0 : Int32) then (3 : Int32) else (1 : Int32))))] (W1 s []) out by
      by_cases hc237 : v9 = (0 : Int32)
      · refine Eval.ifF rfl (teq hc237).2 ?_
        refine Eval.bipush (x := (-2 : Int32)) rfl rfl ?_
        refine Eval.goto (t := 414) rfl rfl ?_
        exact (Eval.conv hJ241 rfl (by simp only [if_pos hc237]))
      · refine Eval.ifT (t := 386) rfl rfl (feq hc237).2 ?_
        refine Eval.iload rfl rfl ?_
        by_cases hc238 : v10 = (0 : Int32)
        · refine Eval.ifT (t := 404) rfl rfl (teq hc238).1 ?_
          refine Eval.iload rfl rfl ?_
          by_cases hc239 : v11 = (0 : Int32)
          · refine Eval.ifT (t := 413) rfl rfl (teq hc239).1 ?_
            refine Eval.iconst (x := (0 : Int32)) rfl rfl ?_
            exact (Eval.conv hJ241 rfl (by simp only [if_neg hc237, if_pos hc238, if_pos hc239]))
          · refine Eval.ifF rfl (feq hc239).1 ?_
            refine Eval.iconst (x := (3 : Int32)) rfl rfl ?_
            refine Eval.goto (t := 414) rfl rfl ?_
            exact (Eval.conv hJ241 rfl (by simp only [if_neg hc237, if_pos hc238, if_neg hc239]))
        · refine Eval.ifF rfl (feq hc238).1 ?_
          refine Eval.iload rfl rfl ?_
          by_cases hc240 : v8 = (0 : Int32)
          · refine Eval.ifT (t := 400) rfl rfl (teq hc240).1 ?_
            refine Eval.iconst (x := (3 : Int32)) rfl rfl ?_
            refine Eval.goto (t := 414) rfl rfl ?_
            exact (Eval.conv hJ241 rfl (by simp only [if_neg hc237, if_neg hc238, if_pos hc240]))
          · refine Eval.ifF rfl (feq hc240).1 ?_
            refine Eval.iconst (x := (1 : Int32)) rfl rfl ?_
            refine Eval.goto (t := 414) rfl rfl ?_
            exact (Eval.conv hJ241 rfl (by simp only [if_neg hc237, if_neg hc238, if_neg hc240]))
    exact ev_law_b414 s v3 v8 v9 v10 v11 v18 v19 v20 v21 (if v9 = (0 : Int32) then (-2 : Int32) else (if v10 = (0 : Int32) then (if v11 = (0 : Int32) then (0 : Int32) else (3 : Int32)) else (if v8 = (0 : Int32) then (3 : Int32) else (1 : Int32)))) h hk
  · rw [if_neg hc236] at h
    refine Eval.icmpF rfl (feq hc236).1 ?_
    refine Eval.iconst (x := (0 : Int32)) rfl rfl ?_
    cases h
    subst hk
    exact Eval.ret rfl rfl
def law_b344 (s : Q) (v3 : Int32) (v7 : Int32) (v8 : Int32) (v9 : Int32) (v10 : Int32) (v11 : Int32) (v17 : Int32) (v18 : Int32) (v19 : Int32) (v20 : Int32) (v21 : Int32) (v22 : Int32) (w0 : Int32) (w1 : Int32) : Option (Int32 × Q) := (if w0 = w1 then (law_b371 s v3 v8 v9 v10 v11 v18 v19 v20 v21 v17 (if v7 = (0 : Int32) then (-2 : Int32) else (if (0 : Int32) < v22 then (1 : Int32) else (0 : Int32)))) else some ((0 : Int32), s))
set_option maxRecDepth 100000 in
theorem ev_law_b344 (s : Q) (v3 : Int32) (v7 : Int32) (v8 : Int32) (v9 : Int32) (v10 : Int32) (v11 : Int32) (v17 : Int32) (v18 : Int32) (v19 : Int32) (v20 : Int32) (v21 : Int32) (v22 : Int32) (w0 : Int32) (w1 : Int32) {res : Int32 × Q} {out : Option Value × AHeap} (h : law_b344 s v3 v7 v8 v9 v10 v11 v17 v18 v19 v20 v21 v22 w0 w1 = some res) (hk : out = (some (.int res.1), (W1 res.2 []))) : Eval own_P 0 344 [none, none, none, some (.int v3), none, none, none, some (.int v7), some (.int v8), some (.int v9), some (.int v10), some (.int v11), none, none, none, none, none, some (.int v17), some (.int v18), some (.int v19), some (.int v20), some (.int v21), some (.int v22), none, none, none, none] [.int w1, .int w0] (W1 s []) out := by
  rw [law_b344] at h
  by_cases hc232 : w0 = w1
  · rw [if_pos hc232] at h
    refine Eval.icmpT (t := 349) rfl rfl (teq hc232).1 ?_
    refine Eval.iload rfl rfl ?_
    refine Eval.iload rfl rfl ?_
    suffices hJ235 : Eval own_P 0 371 [none, none, none, some (.int v3), none, none, none, none, some (.int v8), some (.int v9), some (.int v10), some (.int v11), none, none, none, none, none, none, some (.int v18), some (.int v19), some (.int v20), some (.int v21), none, none, none, none, none] [.int (if v7 = (0 : Int32) then (-2 : Int32) else (if (0 : Int32) < v22 then (1 : Int32) else (0 : Int32))), .int v17] (W1 s []) out by
      by_cases hc233 : v7 = (0 : Int32)
      · refine Eval.ifT (t := 369) rfl rfl (teq hc233).1 ?_
        refine Eval.bipush (x := (-2 : Int32)) rfl rfl ?_
        refine Eval.weak (L' := [none, none, none, some (.int v3), none, none, none, none, some (.int v8), some (.int v9), some (.int v10), some (.int v11), none, none, none, none, none, none, some (.int v18), some (.int v19), some (.int v20), some (.int v21), none, none, none, none, none]) ⟨_, _, rfl, Or.inl rfl, _, _, rfl, Or.inl rfl, _, _, rfl, Or.inl rfl, _, _, rfl, Or.inr rfl, _, _, rfl, Or.inl rfl, _, _, rfl, Or.inl rfl, _, _, rfl, Or.inl rfl, _, _, rfl, Or.inl rfl, _, _, rfl, Or.inr rfl, _, _, rfl, Or.inr rfl, _, _, rfl, Or.inr rfl, _, _, rfl, Or.inr rfl, _, _, rfl, Or.inl rfl, _, _, rfl, Or.inl rfl, _, _, rfl, Or.inl rfl, _, _, rfl, Or.inl rfl, _, _, rfl, Or.inl rfl, _, _, rfl, Or.inl rfl, _, _, rfl, Or.inr rfl, _, _, rfl, Or.inr rfl, _, _, rfl, Or.inr rfl, _, _, rfl, Or.inr rfl, _, _, rfl, Or.inl rfl, _, _, rfl, Or.inl rfl, _, _, rfl, Or.inl rfl, _, _, rfl, Or.inl rfl, _, _, rfl, Or.inl rfl, rfl⟩ ?_
        exact (Eval.conv hJ235 rfl (by simp only [if_pos hc233]))
      · refine Eval.ifF rfl (feq hc233).1 ?_
        refine Eval.iload rfl rfl ?_
        by_cases hc234 : (0 : Int32) < v22
        · refine Eval.ifF rfl (tlt hc234).2.2.2 ?_
          refine Eval.iconst (x := (1 : Int32)) rfl rfl ?_
          refine Eval.goto (t := 371) rfl rfl ?_
          refine Eval.weak (L' := [none, none, none, some (.int v3), none, none, none, none, some (.int v8), some (.int v9), some (.int v10), some (.int v11), none, none, none, none, none, none, some (.int v18), some (.int v19), some (.int v20), some (.int v21), none, none, none, none, none]) ⟨_, _, rfl, Or.inl rfl, _, _, rfl, Or.inl rfl, _, _, rfl, Or.inl rfl, _, _, rfl, Or.inr rfl, _, _, rfl, Or.inl rfl, _, _, rfl, Or.inl rfl, _, _, rfl, Or.inl rfl, _, _, rfl, Or.inl rfl, _, _, rfl, Or.inr rfl, _, _, rfl, Or.inr rfl, _, _, rfl, Or.inr rfl, _, _, rfl, Or.inr rfl, _, _, rfl, Or.inl rfl, _, _, rfl, Or.inl rfl, _, _, rfl, Or.inl rfl, _, _, rfl, Or.inl rfl, _, _, rfl, Or.inl rfl, _, _, rfl, Or.inl rfl, _, _, rfl, Or.inr rfl, _, _, rfl, Or.inr rfl, _, _, rfl, Or.inr rfl, _, _, rfl, Or.inr rfl, _, _, rfl, Or.inl rfl, _, _, rfl, Or.inl rfl, _, _, rfl, Or.inl rfl, _, _, rfl, Or.inl rfl, _, _, rfl, Or.inl rfl, rfl⟩ ?_
          exact (Eval.conv hJ235 rfl (by simp only [if_neg hc233, if_pos hc234]))
        · refine Eval.ifT (t := 365) rfl rfl (flt hc234).2.2.2 ?_
          refine Eval.iconst (x := (0 : Int32)) rfl rfl ?_
          refine Eval.goto (t := 371) rfl rfl ?_
          refine Eval.weak (L' := [none, none, none, some (.int v3), none, none, none, none, some (.int v8), some (.int v9), some (.int v10), some (.int v11), none, none, none, none, none, none, some (.int v18), some (.int v19), some (.int v20), some (.int v21), none, none, none, none, none]) ⟨_, _, rfl, Or.inl rfl, _, _, rfl, Or.inl rfl, _, _, rfl, Or.inl rfl, _, _, rfl, Or.inr rfl, _, _, rfl, Or.inl rfl, _, _, rfl, Or.inl rfl, _, _, rfl, Or.inl rfl, _, _, rfl, Or.inl rfl, _, _, rfl, Or.inr rfl, _, _, rfl, Or.inr rfl, _, _, rfl, Or.inr rfl, _, _, rfl, Or.inr rfl, _, _, rfl, Or.inl rfl, _, _, rfl, Or.inl rfl, _, _, rfl, Or.inl rfl, _, _, rfl, Or.inl rfl, _, _, rfl, Or.inl rfl, _, _, rfl, Or.inl rfl, _, _, rfl, Or.inr rfl, _, _, rfl, Or.inr rfl, _, _, rfl, Or.inr rfl, _, _, rfl, Or.inr rfl, _, _, rfl, Or.inl rfl, _, _, rfl, Or.inl rfl, _, _, rfl, Or.inl rfl, _, _, rfl, Or.inl rfl, _, _, rfl, Or.inl rfl, rfl⟩ ?_
          exact (Eval.conv hJ235 rfl (by simp only [if_neg hc233, if_neg hc234]))
    exact ev_law_b371 s v3 v8 v9 v10 v11 v18 v19 v20 v21 v17 (if v7 = (0 : Int32) then (-2 : Int32) else (if (0 : Int32) < v22 then (1 : Int32) else (0 : Int32))) h hk
  · rw [if_neg hc232] at h
    refine Eval.icmpF rfl (feq hc232).1 ?_
    refine Eval.iconst (x := (0 : Int32)) rfl rfl ?_
    cases h
    subst hk
    exact Eval.ret rfl rfl
def law_b308 (s : Q) (v1 : Int32) (v2 : Int32) (v3 : Int32) (v7 : Int32) (v8 : Int32) (v9 : Int32) (v10 : Int32) (v11 : Int32) (v16 : Int32) (v17 : Int32) (v18 : Int32) (v19 : Int32) (v20 : Int32) (v21 : Int32) (v22 : Int32) (w0 : Int32) (w1 : Int32) : Option (Int32 × Q) := (if w0 = w1 then (law_b344 s v3 v7 v8 v9 v10 v11 v17 v18 v19 v20 v21 v22 v16 (if v7 = (0 : Int32) then (-2 : Int32) else (if v8 = (0 : Int32) then (if v10 = (0 : Int32) then (-1 : Int32) else v2) else v1))) else some ((0 : Int32), s))
set_option maxRecDepth 100000 in
theorem ev_law_b308 (s : Q) (v1 : Int32) (v2 : Int32) (v3 : Int32) (v7 : Int32) (v8 : Int32) (v9 : Int32) (v10 : Int32) (v11 : Int32) (v16 : Int32) (v17 : Int32) (v18 : Int32) (v19 : Int32) (v20 : Int32) (v21 : Int32) (v22 : Int32) (w0 : Int32) (w1 : Int32) {res : Int32 × Q} {out : Option Value × AHeap} (h : law_b308 s v1 v2 v3 v7 v8 v9 v10 v11 v16 v17 v18 v19 v20 v21 v22 w0 w1 = some res) (hk : out = (some (.int res.1), (W1 res.2 []))) : Eval own_P 0 308 [none, some (.int v1), some (.int v2), some (.int v3), none, none, none, some (.int v7), some (.int v8), some (.int v9), some (.int v10), some (.int v11), none, none, none, none, some (.int v16), some (.int v17), some (.int v18), some (.int v19), some (.int v20), some (.int v21), some (.int v22), none, none, none, none] [.int w1, .int w0] (W1 s []) out := by
  rw [law_b308] at h
  by_cases hc227 : w0 = w1
  · rw [if_pos hc227] at h
    refine Eval.icmpT (t := 313) rfl rfl (teq hc227).1 ?_
    refine Eval.iload rfl rfl ?_
    refine Eval.iload rfl rfl ?_
    suffices hJ231 : Eval own_P 0 344 [none, none, none, some (.int v3), none, none, none, some (.int v7), some (.int v8), some (.int v9), some (.int v10), some (.int v11), none, none, none, none, none, some (.int v17), some (.int v18), some (.int v19), some (.int v20), some (.int v21), some (.int v22), none, none, none, none] [.int (if v7 = (0 : Int32) then (-2 : Int32) else (if v8 = (0 : Int32) then (if v10 = (0 : Int32) then (-1 : Int32) else v2) else v1)), .int v16] (W1 s []) out by
      by_cases hc228 : v7 = (0 : Int32)
      · refine Eval.ifT (t := 342) rfl rfl (teq hc228).1 ?_
        refine Eval.bipush (x := (-2 : Int32)) rfl rfl ?_
        refine Eval.weak (L' := [none, none, none, some (.int v3), none, none, none, some (.int v7), some (.int v8), some (.int v9), some (.int v10), some (.int v11), none, none, none, none, none, some (.int v17), some (.int v18), some (.int v19), some (.int v20), some (.int v21), some (.int v22), none, none, none, none]) ⟨_, _, rfl, Or.inl rfl, _, _, rfl, Or.inl rfl, _, _, rfl, Or.inl rfl, _, _, rfl, Or.inr rfl, _, _, rfl, Or.inl rfl, _, _, rfl, Or.inl rfl, _, _, rfl, Or.inl rfl, _, _, rfl, Or.inr rfl, _, _, rfl, Or.inr rfl, _, _, rfl, Or.inr rfl, _, _, rfl, Or.inr rfl, _, _, rfl, Or.inr rfl, _, _, rfl, Or.inl rfl, _, _, rfl, Or.inl rfl, _, _, rfl, Or.inl rfl, _, _, rfl, Or.inl rfl, _, _, rfl, Or.inl rfl, _, _, rfl, Or.inr rfl, _, _, rfl, Or.inr rfl, _, _, rfl, Or.inr rfl, _, _, rfl, Or.inr rfl, _, _, rfl, Or.inr rfl, _, _, rfl, Or.inr rfl, _, _, rfl, Or.inl rfl, _, _, rfl, Or.inl rfl, _, _, rfl, Or.inl rfl, _, _, rfl, Or.inl rfl, rfl⟩ ?_
        exact (Eval.conv hJ231 rfl (by simp only [if_pos hc228]))
      · refine Eval.ifF rfl (feq hc228).1 ?_
        refine Eval.iload rfl rfl ?_
        by_cases hc229 : v8 = (0 : Int32)
        · refine Eval.ifT (t := 329) rfl rfl (teq hc229).1 ?_
          refine Eval.iload rfl rfl ?_
          by_cases hc230 : v10 = (0 : Int32)
          · refine Eval.ifT (t := 338) rfl rfl (teq hc230).1 ?_
            refine Eval.iconst (x := (-1 : Int32)) rfl rfl ?_
            refine Eval.goto (t := 344) rfl rfl ?_
            refine Eval.weak (L' := [none, none, none, some (.int v3), none, none, none, some (.int v7), some (.int v8), some (.int v9), some (.int v10), some (.int v11), none, none, none, none, none, some (.int v17), some (.int v18), some (.int v19), some (.int v20), some (.int v21), some (.int v22), none, none, none, none]) ⟨_, _, rfl, Or.inl rfl, _, _, rfl, Or.inl rfl, _, _, rfl, Or.inl rfl, _, _, rfl, Or.inr rfl, _, _, rfl, Or.inl rfl, _, _, rfl, Or.inl rfl, _, _, rfl, Or.inl rfl, _, _, rfl, Or.inr rfl, _, _, rfl, Or.inr rfl, _, _, rfl, Or.inr rfl, _, _, rfl, Or.inr rfl, _, _, rfl, Or.inr rfl, _, _, rfl, Or.inl rfl, _, _, rfl, Or.inl rfl, _, _, rfl, Or.inl rfl, _, _, rfl, Or.inl rfl, _, _, rfl, Or.inl rfl, _, _, rfl, Or.inr rfl, _, _, rfl, Or.inr rfl, _, _, rfl, Or.inr rfl, _, _, rfl, Or.inr rfl, _, _, rfl, Or.inr rfl, _, _, rfl, Or.inr rfl, _, _, rfl, Or.inl rfl, _, _, rfl, Or.inl rfl, _, _, rfl, Or.inl rfl, _, _, rfl, Or.inl rfl, rfl⟩ ?_
            exact (Eval.conv hJ231 rfl (by simp only [if_neg hc228, if_pos hc229, if_pos hc230]))
          · refine Eval.ifF rfl (feq hc230).1 ?_
            refine Eval.iload_n rfl rfl ?_
            refine Eval.goto (t := 344) rfl rfl ?_
            refine Eval.weak (L' := [none, none, none, some (.int v3), none, none, none, some (.int v7), some (.int v8), some (.int v9), some (.int v10), some (.int v11), none, none, none, none, none, some (.int v17), some (.int v18), some (.int v19), some (.int v20), some (.int v21), some (.int v22), none, none, none, none]) ⟨_, _, rfl, Or.inl rfl, _, _, rfl, Or.inl rfl, _, _, rfl, Or.inl rfl, _, _, rfl, Or.inr rfl, _, _, rfl, Or.inl rfl, _, _, rfl, Or.inl rfl, _, _, rfl, Or.inl rfl, _, _, rfl, Or.inr rfl, _, _, rfl, Or.inr rfl, _, _, rfl, Or.inr rfl, _, _, rfl, Or.inr rfl, _, _, rfl, Or.inr rfl, _, _, rfl, Or.inl rfl, _, _, rfl, Or.inl rfl, _, _, rfl, Or.inl rfl, _, _, rfl, Or.inl rfl, _, _, rfl, Or.inl rfl, _, _, rfl, Or.inr rfl, _, _, rfl, Or.inr rfl, _, _, rfl, Or.inr rfl, _, _, rfl, Or.inr rfl, _, _, rfl, Or.inr rfl, _, _, rfl, Or.inr rfl, _, _, rfl, Or.inl rfl, _, _, rfl, Or.inl rfl, _, _, rfl, Or.inl rfl, _, _, rfl, Or.inl rfl, rfl⟩ ?_
            exact (Eval.conv hJ231 rfl (by simp only [if_neg hc228, if_pos hc229, if_neg hc230]))
        · refine Eval.ifF rfl (feq hc229).1 ?_
          refine Eval.iload_n rfl rfl ?_
          refine Eval.goto (t := 344) rfl rfl ?_
          refine Eval.weak (L' := [none, none, none, some (.int v3), none, none, none, some (.int v7), some (.int v8), some (.int v9), some (.int v10), some (.int v11), none, none, none, none, none, some (.int v17), some (.int v18), some (.int v19), some (.int v20), some (.int v21), some (.int v22), none, none, none, none]) ⟨_, _, rfl, Or.inl rfl, _, _, rfl, Or.inl rfl, _, _, rfl, Or.inl rfl, _, _, rfl, Or.inr rfl, _, _, rfl, Or.inl rfl, _, _, rfl, Or.inl rfl, _, _, rfl, Or.inl rfl, _, _, rfl, Or.inr rfl, _, _, rfl, Or.inr rfl, _, _, rfl, Or.inr rfl, _, _, rfl, Or.inr rfl, _, _, rfl, Or.inr rfl, _, _, rfl, Or.inl rfl, _, _, rfl, Or.inl rfl, _, _, rfl, Or.inl rfl, _, _, rfl, Or.inl rfl, _, _, rfl, Or.inl rfl, _, _, rfl, Or.inr rfl, _, _, rfl, Or.inr rfl, _, _, rfl, Or.inr rfl, _, _, rfl, Or.inr rfl, _, _, rfl, Or.inr rfl, _, _, rfl, Or.inr rfl, _, _, rfl, Or.inl rfl, _, _, rfl, Or.inl rfl, _, _, rfl, Or.inl rfl, _, _, rfl, Or.inl rfl, rfl⟩ ?_
          exact (Eval.conv hJ231 rfl (by simp only [if_neg hc228, if_neg hc229]))
    exact ev_law_b344 s v3 v7 v8 v9 v10 v11 v17 v18 v19 v20 v21 v22 v16 (if v7 = (0 : Int32) then (-2 : Int32) else (if v8 = (0 : Int32) then (if v10 = (0 : Int32) then (-1 : Int32) else v2) else v1)) h hk
  · rw [if_neg hc227] at h
    refine Eval.icmpF rfl (feq hc227).1 ?_
    refine Eval.iconst (x := (0 : Int32)) rfl rfl ?_
    cases h
    subst hk
    exact Eval.ret rfl rfl
def law_b280 (s : Q) (v1 : Int32) (v2 : Int32) (v3 : Int32) (v7 : Int32) (v8 : Int32) (v9 : Int32) (v10 : Int32) (v11 : Int32) (v14 : Int32) (v15 : Int32) (v16 : Int32) (v17 : Int32) (v18 : Int32) (v19 : Int32) (v20 : Int32) (v21 : Int32) (v22 : Int32) (w0 : Int32) (w1 : Int32) : Option (Int32 × Q) := (if w0 = w1 then (if v14 = v22 then (law_b308 s v1 v2 v3 v7 v8 v9 v10 v11 v16 v17 v18 v19 v20 v21 v22 v15 (if v7 = (0 : Int32) then (-2 : Int32) else v22)) else some ((0 : Int32), s)) else some ((0 : Int32), s))
set_option maxRecDepth 100000 in
theorem ev_law_b280 (s : Q) (v1 : Int32) (v2 : Int32) (v3 : Int32) (v7 : Int32) (v8 : Int32) (v9 : Int32) (v10 : Int32) (v11 : Int32) (v14 : Int32) (v15 : Int32) (v16 : Int32) (v17 : Int32) (v18 : Int32) (v19 : Int32) (v20 : Int32) (v21 : Int32) (v22 : Int32) (w0 : Int32) (w1 : Int32) {res : Int32 × Q} {out : Option Value × AHeap} (h : law_b280 s v1 v2 v3 v7 v8 v9 v10 v11 v14 v15 v16 v17 v18 v19 v20 v21 v22 w0 w1 = some res) (hk : out = (some (.int res.1), (W1 res.2 []))) : Eval own_P 0 280 [none, some (.int v1), some (.int v2), some (.int v3), none, none, none, some (.int v7), some (.int v8), some (.int v9), some (.int v10), some (.int v11), none, none, some (.int v14), some (.int v15), some (.int v16), some (.int v17), some (.int v18), some (.int v19), some (.int v20), some (.int v21), some (.int v22), none, none, none, none] [.int w1, .int w0] (W1 s []) out := by
  rw [law_b280] at h
  by_cases hc223 : w0 = w1
  · rw [if_pos hc223] at h
    refine Eval.icmpT (t := 285) rfl rfl (teq hc223).1 ?_
    refine Eval.iload rfl rfl ?_
    refine Eval.iload rfl rfl ?_
    by_cases hc224 : v14 = v22
    · rw [if_pos hc224] at h
      refine Eval.icmpT (t := 294) rfl rfl (teq hc224).1 ?_
      refine Eval.iload rfl rfl ?_
      refine Eval.iload rfl rfl ?_
      suffices hJ226 : Eval own_P 0 308 [none, some (.int v1), some (.int v2), some (.int v3), none, none, none, some (.int v7), some (.int v8), some (.int v9), some (.int v10), some (.int v11), none, none, none, none, some (.int v16), some (.int v17), some (.int v18), some (.int v19), some (.int v20), some (.int v21), some (.int v22), none, none, none, none] [.int (if v7 = (0 : Int32) then (-2 : Int32) else v22), .int v15] (W1 s []) out by
        by_cases hc225 : v7 = (0 : Int32)
        · refine Eval.ifT (t := 306) rfl rfl (teq hc225).1 ?_
          refine Eval.bipush (x := (-2 : Int32)) rfl rfl ?_
          refine Eval.weak (L' := [none, some (.int v1), some (.int v2), some (.int v3), none, none, none, some (.int v7), some (.int v8), some (.int v9), some (.int v10), some (.int v11), none, none, none, none, some (.int v16), some (.int v17), some (.int v18), some (.int v19), some (.int v20), some (.int v21), some (.int v22), none, none, none, none]) ⟨_, _, rfl, Or.inl rfl, _, _, rfl, Or.inr rfl, _, _, rfl, Or.inr rfl, _, _, rfl, Or.inr rfl, _, _, rfl, Or.inl rfl, _, _, rfl, Or.inl rfl, _, _, rfl, Or.inl rfl, _, _, rfl, Or.inr rfl, _, _, rfl, Or.inr rfl, _, _, rfl, Or.inr rfl, _, _, rfl, Or.inr rfl, _, _, rfl, Or.inr rfl, _, _, rfl, Or.inl rfl, _, _, rfl, Or.inl rfl, _, _, rfl, Or.inl rfl, _, _, rfl, Or.inl rfl, _, _, rfl, Or.inr rfl, _, _, rfl, Or.inr rfl, _, _, rfl, Or.inr rfl, _, _, rfl, Or.inr rfl, _, _, rfl, Or.inr rfl, _, _, rfl, Or.inr rfl, _, _, rfl, Or.inr rfl, _, _, rfl, Or.inl rfl, _, _, rfl, Or.inl rfl, _, _, rfl, Or.inl rfl, _, _, rfl, Or.inl rfl, rfl⟩ ?_
          exact (Eval.conv hJ226 rfl (by simp only [if_pos hc225]))
        · refine Eval.ifF rfl (feq hc225).1 ?_
          refine Eval.iload rfl rfl ?_
          refine Eval.goto (t := 308) rfl rfl ?_
          refine Eval.weak (L' := [none, some (.int v1), some (.int v2), some (.int v3), none, none, none, some (.int v7), some (.int v8), some (.int v9), some (.int v10), some (.int v11), none, none, none, none, some (.int v16), some (.int v17), some (.int v18), some (.int v19), some (.int v20), some (.int v21), some (.int v22), none, none, none, none]) ⟨_, _, rfl, Or.inl rfl, _, _, rfl, Or.inr rfl, _, _, rfl, Or.inr rfl, _, _, rfl, Or.inr rfl, _, _, rfl, Or.inl rfl, _, _, rfl, Or.inl rfl, _, _, rfl, Or.inl rfl, _, _, rfl, Or.inr rfl, _, _, rfl, Or.inr rfl, _, _, rfl, Or.inr rfl, _, _, rfl, Or.inr rfl, _, _, rfl, Or.inr rfl, _, _, rfl, Or.inl rfl, _, _, rfl, Or.inl rfl, _, _, rfl, Or.inl rfl, _, _, rfl, Or.inl rfl, _, _, rfl, Or.inr rfl, _, _, rfl, Or.inr rfl, _, _, rfl, Or.inr rfl, _, _, rfl, Or.inr rfl, _, _, rfl, Or.inr rfl, _, _, rfl, Or.inr rfl, _, _, rfl, Or.inr rfl, _, _, rfl, Or.inl rfl, _, _, rfl, Or.inl rfl, _, _, rfl, Or.inl rfl, _, _, rfl, Or.inl rfl, rfl⟩ ?_
          exact (Eval.conv hJ226 rfl (by simp only [if_neg hc225]))
      exact ev_law_b308 s v1 v2 v3 v7 v8 v9 v10 v11 v16 v17 v18 v19 v20 v21 v22 v15 (if v7 = (0 : Int32) then (-2 : Int32) else v22) h hk
    · rw [if_neg hc224] at h
      refine Eval.icmpF rfl (feq hc224).1 ?_
      refine Eval.iconst (x := (0 : Int32)) rfl rfl ?_
      cases h
      subst hk
      exact Eval.ret rfl rfl
  · rw [if_neg hc223] at h
    refine Eval.icmpF rfl (feq hc223).1 ?_
    refine Eval.iconst (x := (0 : Int32)) rfl rfl ?_
    cases h
    subst hk
    exact Eval.ret rfl rfl
def law_b253 (s : Q) (v1 : Int32) (v2 : Int32) (v3 : Int32) (v7 : Int32) (v8 : Int32) (v9 : Int32) (v10 : Int32) (v11 : Int32) (v13 : Int32) (v14 : Int32) (v15 : Int32) (v16 : Int32) (v17 : Int32) (v18 : Int32) (v19 : Int32) (v20 : Int32) (v21 : Int32) (v22 : Int32) (w0 : Int32) (w1 : Int32) : Option (Int32 × Q) := (if w0 = w1 then (law_b280 s v1 v2 v3 v7 v8 v9 v10 v11 v14 v15 v16 v17 v18 v19 v20 v21 v22 v13 (if v10 = (0 : Int32) then (-2 : Int32) else (if v8 = (0 : Int32) then (3 : Int32) else (1 : Int32)))) else some ((0 : Int32), s))
set_option maxRecDepth 100000 in
theorem ev_law_b253 (s : Q) (v1 : Int32) (v2 : Int32) (v3 : Int32) (v7 : Int32) (v8 : Int32) (v9 : Int32) (v10 : Int32) (v11 : Int32) (v13 : Int32) (v14 : Int32) (v15 : Int32) (v16 : Int32) (v17 : Int32) (v18 : Int32) (v19 : Int32) (v20 : Int32) (v21 : Int32) (v22 : Int32) (w0 : Int32) (w1 : Int32) {res : Int32 × Q} {out : Option Value × AHeap} (h : law_b253 s v1 v2 v3 v7 v8 v9 v10 v11 v13 v14 v15 v16 v17 v18 v19 v20 v21 v22 w0 w1 = some res) (hk : out = (some (.int res.1), (W1 res.2 []))) : Eval own_P 0 253 [none, some (.int v1), some (.int v2), some (.int v3), none, none, none, some (.int v7), some (.int v8), some (.int v9), some (.int v10), some (.int v11), none, some (.int v13), some (.int v14), some (.int v15), some (.int v16), some (.int v17), some (.int v18), some (.int v19), some (.int v20), some (.int v21), some (.int v22), none, none, none, none] [.int w1, .int w0] (W1 s []) out := by
  rw [law_b253] at h
  by_cases hc219 : w0 = w1
  · rw [if_pos hc219] at h
    refine Eval.icmpT (t := 258) rfl rfl (teq hc219).1 ?_
    refine Eval.iload rfl rfl ?_
    refine Eval.iload rfl rfl ?_
    suffices hJ222 : Eval own_P 0 280 [none, some (.int v1), some (.int v2), some (.int v3), none, none, none, some (.int v7), some (.int v8), some (.int v9), some (.int v10), some (.int v11), none, none, some (.int v14), some (.int v15), some (.int v16), some (.int v17), some (.int v18), some (.int v19), some (.int v20), some (.int v21), some (.int v22), none, none, none, none] [.int (if v10 = (0 : Int32) then (-2 : Int32) else (if v8 = (0 : Int32) then (3 : Int32) else (1 : Int32))), .int v13] (W1 s []) out by
      by_cases hc220 : v10 = (0 : Int32)
      · refine Eval.ifT (t := 278) rfl rfl (teq hc220).1 ?_
        refine Eval.bipush (x := (-2 : Int32)) rfl rfl ?_
        refine Eval.weak (L' := [none, some (.int v1), some (.int v2), some (.int v3), none, none, none, some (.int v7), some (.int v8), some (.int v9), some (.int v10), some (.int v11), none, none, some (.int v14), some (.int v15), some (.int v16), some (.int v17), some (.int v18), some (.int v19), some (.int v20), some (.int v21), some (.int v22), none, none, none, none]) ⟨_, _, rfl, Or.inl rfl, _, _, rfl, Or.inr rfl, _, _, rfl, Or.inr rfl, _, _, rfl, Or.inr rfl, _, _, rfl, Or.inl rfl, _, _, rfl, Or.inl rfl, _, _, rfl, Or.inl rfl, _, _, rfl, Or.inr rfl, _, _, rfl, Or.inr rfl, _, _, rfl, Or.inr rfl, _, _, rfl, Or.inr rfl, _, _, rfl, Or.inr rfl, _, _, rfl, Or.inl rfl, _, _, rfl, Or.inl rfl, _, _, rfl, Or.inr rfl, _, _, rfl, Or.inr rfl, _, _, rfl, Or.inr rfl, _, _, rfl, Or.inr rfl, _, _, rfl, Or.inr rfl, _, _, rfl, Or.inr rfl, _, _, rfl, Or.inr rfl, _, _, rfl, Or.inr rfl, _, _, rfl, Or.inr rfl, _, _, rfl, Or.inl rfl, _, _, rfl, Or.inl rfl, _, _, rfl, Or.inl rfl, _, _, rfl, Or.inl rfl, rfl⟩ ?_
        exact (Eval.conv hJ222 rfl (by simp only [if_pos hc220]))
      · refine Eval.ifF rfl (feq hc220).1 ?_
        refine Eval.iload rfl rfl ?_
        by_cases hc221 : v8 = (0 : Int32)
        · refine Eval.ifT (t := 274) rfl rfl (teq hc221).1 ?_
          refine Eval.iconst (x := (3 : Int32)) rfl rfl ?_
          refine Eval.goto (t := 280) rfl rfl ?_
          refine Eval.weak (L' := [none, some (.int v1), some (.int v2), some (.int v3), none, none, none, some (.int v7), some (.int v8), some (.int v9), some (.int v10), some (.int v11), none, none, some (.int v14), some (.int v15), some (.int v16), some (.int v17), some (.int v18), some (.int v19), some (.int v20), some (.int v21), some (.int v22), none, none, none, none]) ⟨_, _, rfl, Or.inl rfl, _, _, rfl, Or.inr rfl, _, _, rfl, Or.inr rfl, _, _, rfl, Or.inr rfl, _, _, rfl, Or.inl rfl, _, _, rfl, Or.inl rfl, _, _, rfl, Or.inl rfl, _, _, rfl, Or.inr rfl, _, _, rfl, Or.inr rfl, _, _, rfl, Or.inr rfl, _, _, rfl, Or.inr rfl, _, _, rfl, Or.inr rfl, _, _, rfl, Or.inl rfl, _, _, rfl, Or.inl rfl, _, _, rfl, Or.inr rfl, _, _, rfl, Or.inr rfl, _, _, rfl, Or.inr rfl, _, _, rfl, Or.inr rfl, _, _, rfl, Or.inr rfl, _, _, rfl, Or.inr rfl, _, _, rfl, Or.inr rfl, _, _, rfl, Or.inr rfl, _, _, rfl, Or.inr rfl, _, _, rfl, Or.inl rfl, _, _, rfl, Or.inl rfl, _, _, rfl, Or.inl rfl, _, _, rfl, Or.inl rfl, rfl⟩ ?_
          exact (Eval.conv hJ222 rfl (by simp only [if_neg hc220, if_pos hc221]))
        · refine Eval.ifF rfl (feq hc221).1 ?_
          refine Eval.iconst (x := (1 : Int32)) rfl rfl ?_
          refine Eval.goto (t := 280) rfl rfl ?_
          refine Eval.weak (L' := [none, some (.int v1), some (.int v2), some (.int v3), none, none, none, some (.int v7), some (.int v8), some (.int v9), some (.int v10), some (.int v11), none, none, some (.int v14), some (.int v15), some (.int v16), some (.int v17), some (.int v18), some (.int v19), some (.int v20), some (.int v21), some (.int v22), none, none, none, none]) ⟨_, _, rfl, Or.inl rfl, _, _, rfl, Or.inr rfl, _, _, rfl, Or.inr rfl, _, _, rfl, Or.inr rfl, _, _, rfl, Or.inl rfl, _, _, rfl, Or.inl rfl, _, _, rfl, Or.inl rfl, _, _, rfl, Or.inr rfl, _, _, rfl, Or.inr rfl, _, _, rfl, Or.inr rfl, _, _, rfl, Or.inr rfl, _, _, rfl, Or.inr rfl, _, _, rfl, Or.inl rfl, _, _, rfl, Or.inl rfl, _, _, rfl, Or.inr rfl, _, _, rfl, Or.inr rfl, _, _, rfl, Or.inr rfl, _, _, rfl, Or.inr rfl, _, _, rfl, Or.inr rfl, _, _, rfl, Or.inr rfl, _, _, rfl, Or.inr rfl, _, _, rfl, Or.inr rfl, _, _, rfl, Or.inr rfl, _, _, rfl, Or.inl rfl, _, _, rfl, Or.inl rfl, _, _, rfl, Or.inl rfl, _, _, rfl, Or.inl rfl, rfl⟩ ?_
          exact (Eval.conv hJ222 rfl (by simp only [if_neg hc220, if_neg hc221]))
    exact ev_law_b280 s v1 v2 v3 v7 v8 v9 v10 v11 v14 v15 v16 v17 v18 v19 v20 v21 v22 v13 (if v10 = (0 : Int32) then (-2 : Int32) else (if v8 = (0 : Int32) then (3 : Int32) else (1 : Int32))) h hk
  · rw [if_neg hc219] at h
    refine Eval.icmpF rfl (feq hc219).1 ?_
    refine Eval.iconst (x := (0 : Int32)) rfl rfl ?_
    cases h
    subst hk
    exact Eval.ret rfl rfl
def law_b237 (s : Q) (v1 : Int32) (v2 : Int32) (v3 : Int32) (v7 : Int32) (v8 : Int32) (v9 : Int32) (v10 : Int32) (v11 : Int32) (v12 : Int32) (v13 : Int32) (v14 : Int32) (v15 : Int32) (v16 : Int32) (v17 : Int32) (v18 : Int32) (v19 : Int32) (v20 : Int32) (v21 : Int32) (w0 : Int32) (w1 : Int32) : Option (Int32 × Q) := (law_b253 s v1 v2 v3 v7 v8 v9 v10 v11 v13 v14 v15 v16 v17 v18 v19 v20 v21 (w0 + w1) v12 (if v8 = (0 : Int32) then (-2 : Int32) else (3 : Int32)))
set_option maxRecDepth 100000 in
theorem ev_law_b237 (s : Q) (v1 : Int32) (v2 : Int32) (v3 : Int32) (v7 : Int32) (v8 : Int32) (v9 : Int32) (v10 : Int32) (v11 : Int32) (v12 : Int32) (v13 : Int32) (v14 : Int32) (v15 : Int32) (v16 : Int32) (v17 : Int32) (v18 : Int32) (v19 : Int32) (v20 : Int32) (v21 : Int32) (w0 : Int32) (w1 : Int32) {res : Int32 × Q} {out : Option Value × AHeap} (h : law_b237 s v1 v2 v3 v7 v8 v9 v10 v11 v12 v13 v14 v15 v16 v17 v18 v19 v20 v21 w0 w1 = some res) (hk : out = (some (.int res.1), (W1 res.2 []))) : Eval own_P 0 237 [none, some (.int v1), some (.int v2), some (.int v3), none, none, none, some (.int v7), some (.int v8), some (.int v9), some (.int v10), some (.int v11), some (.int v12), some (.int v13), some (.int v14), some (.int v15), some (.int v16), some (.int v17), some (.int v18), some (.int v19), some (.int v20), some (.int v21), none, none, none, none, none] [.int w1, .int w0] (W1 s []) out := by
  rw [law_b237] at h
  refine Eval.iadd rfl ?_
  refine Eval.istore (L' := [none, some (.int v1), some (.int v2), some (.int v3), none, none, none, some (.int v7), some (.int v8), some (.int v9), some (.int v10), some (.int v11), some (.int v12), some (.int v13), some (.int v14), some (.int v15), some (.int v16), some (.int v17), some (.int v18), some (.int v19), some (.int v20), some (.int v21), some (.int (w0 + w1)), none, none, none, none]) rfl rfl ?_
  refine Eval.iload rfl rfl ?_
  refine Eval.iload rfl rfl ?_
  suffices hJ218 : Eval own_P 0 253 [none, some (.int v1), some (.int v2), some (.int v3), none, none, none, some (.int v7), some (.int v8), some (.int v9), some (.int v10), some (.int v11), none, some (.int v13), some (.int v14), some (.int v15), some (.int v16), some (.int v17), some (.int v18), some (.int v19), some (.int v20), some (.int v21), some (.int (w0 + w1)), none, none, none, none] [.int (if v8 = (0 : Int32) then (-2 : Int32) else (3 : Int32)), .int v12] (W1 s []) out by
    by_cases hc217 : v8 = (0 : Int32)
    · refine Eval.ifT (t := 251) rfl rfl (teq hc217).1 ?_
      refine Eval.bipush (x := (-2 : Int32)) rfl rfl ?_
      refine Eval.weak (L' := [none, some (.int v1), some (.int v2), some (.int v3), none, none, none, some (.int v7), some (.int v8), some (.int v9), some (.int v10), some (.int v11), none, some (.int v13), some (.int v14), some (.int v15), some (.int v16), some (.int v17), some (.int v18), some (.int v19), some (.int v20), some (.int v21), some (.int (w0 + w1)), none, none, none, none]) ⟨_, _, rfl, Or.inl rfl, _, _, rfl, Or.inr rfl, _, _, rfl, Or.inr rfl, _, _, rfl, Or.inr rfl, _, _, rfl, Or.inl rfl, _, _, rfl, Or.inl rfl, _, _, rfl, Or.inl rfl, _, _, rfl, Or.inr rfl, _, _, rfl, Or.inr rfl, _, _, rfl, Or.inr rfl, _, _, rfl, Or.inr rfl, _, _, rfl, Or.inr rfl, _, _, rfl, Or.inl rfl, _, _, rfl, Or.inr rfl, _, _, rfl, Or.inr rfl, _, _, rfl, Or.inr rfl, _, _, rfl, Or.inr rfl, _, _, rfl, Or.inr rfl, _, _, rfl, Or.inr rfl, _, _, rfl, Or.inr rfl, _, _, rfl, Or.inr rfl, _, _, rfl, Or.inr rfl, _, _, rfl, Or.inr rfl, _, _, rfl, Or.inl rfl, _, _, rfl, Or.inl rfl, _, _, rfl, Or.inl rfl, _, _, rfl, Or.inl rfl, rfl⟩ ?_
      exact (Eval.conv hJ218 rfl (by simp only [if_pos hc217]))
    · refine Eval.ifF rfl (feq hc217).1 ?_
      refine Eval.iconst (x := (3 : Int32)) rfl rfl ?_
      refine Eval.goto (t := 253) rfl rfl ?_
      refine Eval.weak (L' := [none, some (.int v1), some (.int v2), some (.int v3), none, none, none, some (.int v7), some (.int v8), some (.int v9), some (.int v10), some (.int v11), none, some (.int v13), some (.int v14), some (.int v15), some (.int v16), some (.int v17), some (.int v18), some (.int v19), some (.int v20), some (.int v21), some (.int (w0 + w1)), none, none, none, none]) ⟨_, _, rfl, Or.inl rfl, _, _, rfl, Or.inr rfl, _, _, rfl, Or.inr rfl, _, _, rfl, Or.inr rfl, _, _, rfl, Or.inl rfl, _, _, rfl, Or.inl rfl, _, _, rfl, Or.inl rfl, _, _, rfl, Or.inr rfl, _, _, rfl, Or.inr rfl, _, _, rfl, Or.inr rfl, _, _, rfl, Or.inr rfl, _, _, rfl, Or.inr rfl, _, _, rfl, Or.inl rfl, _, _, rfl, Or.inr rfl, _, _, rfl, Or.inr rfl, _, _, rfl, Or.inr rfl, _, _, rfl, Or.inr rfl, _, _, rfl, Or.inr rfl, _, _, rfl, Or.inr rfl, _, _, rfl, Or.inr rfl, _, _, rfl, Or.inr rfl, _, _, rfl, Or.inr rfl, _, _, rfl, Or.inr rfl, _, _, rfl, Or.inl rfl, _, _, rfl, Or.inl rfl, _, _, rfl, Or.inl rfl, _, _, rfl, Or.inl rfl, rfl⟩ ?_
      exact (Eval.conv hJ218 rfl (by simp only [if_neg hc217]))
  exact ev_law_b253 s v1 v2 v3 v7 v8 v9 v10 v11 v13 v14 v15 v16 v17 v18 v19 v20 v21 (w0 + w1) v12 (if v8 = (0 : Int32) then (-2 : Int32) else (3 : Int32)) h hk
def law_b227 (s : Q) (v1 : Int32) (v2 : Int32) (v3 : Int32) (v7 : Int32) (v8 : Int32) (v9 : Int32) (v10 : Int32) (v11 : Int32) (v12 : Int32) (v13 : Int32) (v14 : Int32) (v15 : Int32) (v16 : Int32) (v17 : Int32) (v18 : Int32) (v19 : Int32) (v20 : Int32) (v21 : Int32) (w0 : Int32) : Option (Int32 × Q) := (law_b237 s v1 v2 v3 v7 v8 v9 v10 v11 v12 v13 v14 v15 v16 v17 v18 v19 v20 v21 w0 (if v10 = (0 : Int32) then (0 : Int32) else (1 : Int32)))
set_option maxRecDepth 100000 in
theorem ev_law_b227 (s : Q) (v1 : Int32) (v2 : Int32) (v3 : Int32) (v7 : Int32) (v8 : Int32) (v9 : Int32) (v10 : Int32) (v11 : Int32) (v12 : Int32) (v13 : Int32) (v14 : Int32) (v15 : Int32) (v16 : Int32) (v17 : Int32) (v18 : Int32) (v19 : Int32) (v20 : Int32) (v21 : Int32) (w0 : Int32) {res : Int32 × Q} {out : Option Value × AHeap} (h : law_b227 s v1 v2 v3 v7 v8 v9 v10 v11 v12 v13 v14 v15 v16 v17 v18 v19 v20 v21 w0 = some res) (hk : out = (some (.int res.1), (W1 res.2 []))) : Eval own_P 0 227 [none, some (.int v1), some (.int v2), some (.int v3), none, none, none, some (.int v7), some (.int v8), some (.int v9), some (.int v10), some (.int v11), some (.int v12), some (.int v13), some (.int v14), some (.int v15), some (.int v16), some (.int v17), some (.int v18), some (.int v19), some (.int v20), some (.int v21), none, none, none, none, none] [.int w0] (W1 s []) out := by
  rw [law_b227] at h
  refine Eval.iload rfl rfl ?_
  suffices hJ216 : Eval own_P 0 237 [none, some (.int v1), some (.int v2), some (.int v3), none, none, none, some (.int v7), some (.int v8), some (.int v9), some (.int v10), some (.int v11), some (.int v12), some (.int v13), some (.int v14), some (.int v15), some (.int v16), some (.int v17), some (.int v18), some (.int v19), some (.int v20), some (.int v21), none, none, none, none, none] [.int (if v10 = (0 : Int32) then (0 : Int32) else (1 : Int32)), .int w0] (W1 s []) out by
    by_cases hc215 : v10 = (0 : Int32)
    · refine Eval.ifT (t := 236) rfl rfl (teq hc215).1 ?_
      refine Eval.iconst (x := (0 : Int32)) rfl rfl ?_
      exact (Eval.conv hJ216 rfl (by simp only [if_pos hc215]))
    · refine Eval.ifF rfl (feq hc215).1 ?_
      refine Eval.iconst (x := (1 : Int32)) rfl rfl ?_
      refine Eval.goto (t := 237) rfl rfl ?_
      exact (Eval.conv hJ216 rfl (by simp only [if_neg hc215]))
  exact ev_law_b237 s v1 v2 v3 v7 v8 v9 v10 v11 v12 v13 v14 v15 v16 v17 v18 v19 v20 v21 w0 (if v10 = (0 : Int32) then (0 : Int32) else (1 : Int32)) h hk
def law_b130 (s : Q) (v1 : Int32) (v2 : Int32) (v3 : Int32) (v4 : Int32) (v7 : Int32) (v8 : Int32) (v9 : Int32) (v10 : Int32) (w0 : Int32) : Option (Int32 × Q) := ((j_acquire s v1 v3 v4).bind fun p114 => ((j_acquire p114.2 v2 v3 v4).bind fun p116 => ((j_queueLength p116.2 v3).bind fun p120 => ((j_holder p116.2 v3).bind fun p122 => ((j_entries p116.2 v3).bind fun p126 => ((j_state p116.2 v2).bind fun p130 => ((j_ahead p116.2 v2).bind fun p160 => ((j_lockOf p116.2 v2).bind fun p164 => ((j_release p116.2 v2).bind fun p211 => (law_b227 p211.2 v1 v2 v3 v7 v8 v9 v10 w0 p114.1 p116.1 (j_clock p116.2) p120 p122 p126 p130 p160 p164 p211.1 (if v8 = (0 : Int32) then (0 : Int32) else (1 : Int32))))))))))))
set_option maxRecDepth 100000 in
theorem ev_law_b130 (s : Q) (v1 : Int32) (v2 : Int32) (v3 : Int32) (v4 : Int32) (v7 : Int32) (v8 : Int32) (v9 : Int32) (v10 : Int32) (w0 : Int32) {res : Int32 × Q} {out : Option Value × AHeap} (h : law_b130 s v1 v2 v3 v4 v7 v8 v9 v10 w0 = some res) (hk : out = (some (.int res.1), (W1 res.2 []))) : Eval own_P 0 130 [none, some (.int v1), some (.int v2), some (.int v3), some (.int v4), some (.ref 0), none, some (.int v7), some (.int v8), some (.int v9), some (.int v10), none, none, none, none, none, none, none, none, none, none, none, none, none, none, none, none] [.int w0] (W1 s []) out := by
  rw [law_b130] at h
  refine Eval.istore (L' := [none, some (.int v1), some (.int v2), some (.int v3), some (.int v4), some (.ref 0), none, some (.int v7), some (.int v8), some (.int v9), some (.int v10), some (.int w0), none, none, none, none, none, none, none, none, none, none, none, none, none, none, none]) rfl rfl ?_
  refine Eval.aload rfl rfl ?_
  refine Eval.iload_n rfl rfl ?_
  refine Eval.iload_n rfl rfl ?_
  refine Eval.iload rfl rfl ?_
  obtain ⟨p114, hq115, h⟩ := bind_some h
  refine Eval.callI (rest := []) (x := p114.1) (H1 := (W1 p114.2 [])) rfl rfl (ev_j_acquire [] s v1 v3 v4 hq115 rfl) ?_
  refine Eval.istore (L' := [none, some (.int v1), some (.int v2), some (.int v3), some (.int v4), some (.ref 0), none, some (.int v7), some (.int v8), some (.int v9), some (.int v10), some (.int w0), some (.int p114.1), none, none, none, none, none, none, none, none, none, none, none, none, none, none]) rfl rfl ?_
  refine Eval.aload rfl rfl ?_
  refine Eval.iload_n rfl rfl ?_
  refine Eval.iload_n rfl rfl ?_
  refine Eval.iload rfl rfl ?_
  obtain ⟨p116, hq117, h⟩ := bind_some h
  refine Eval.callI (rest := []) (x := p116.1) (H1 := (W1 p116.2 [])) rfl rfl (ev_j_acquire [] p114.2 v2 v3 v4 hq117 rfl) ?_
  refine Eval.istore (L' := [none, some (.int v1), some (.int v2), some (.int v3), some (.int v4), some (.ref 0), none, some (.int v7), some (.int v8), some (.int v9), some (.int v10), some (.int w0), some (.int p114.1), some (.int p116.1), none, none, none, none, none, none, none, none, none, none, none, none, none]) rfl rfl ?_
  refine Eval.aload rfl rfl ?_
  refine Eval.callI (rest := []) (x := (j_clock p116.2)) (H1 := (W1 p116.2 [])) rfl rfl (ev_j_clock [] p116.2 rfl rfl) ?_
  refine Eval.istore (L' := [none, some (.int v1), some (.int v2), some (.int v3), some (.int v4), some (.ref 0), none, some (.int v7), some (.int v8), some (.int v9), some (.int v10), some (.int w0), some (.int p114.1), some (.int p116.1), some (.int (j_clock p116.2)), none, none, none, none, none, none, none, none, none, none, none, none]) rfl rfl ?_
  refine Eval.aload rfl rfl ?_
  refine Eval.iload_n rfl rfl ?_
  obtain ⟨p120, hq121, h⟩ := bind_some h
  refine Eval.callI (rest := []) (x := p120) (H1 := (W1 p116.2 [])) rfl rfl (ev_j_queueLength [] p116.2 v3 hq121 rfl) ?_
  refine Eval.istore (L' := [none, some (.int v1), some (.int v2), some (.int v3), some (.int v4), some (.ref 0), none, some (.int v7), some (.int v8), some (.int v9), some (.int v10), some (.int w0), some (.int p114.1), some (.int p116.1), some (.int (j_clock p116.2)), some (.int p120), none, none, none, none, none, none, none, none, none, none, none]) rfl rfl ?_
  refine Eval.aload rfl rfl ?_
  refine Eval.iload_n rfl rfl ?_
  obtain ⟨p122, hq123, h⟩ := bind_some h
  refine Eval.callI (rest := []) (x := p122) (H1 := (W1 p116.2 [])) rfl rfl (ev_j_holder [] p116.2 v3 hq123 rfl) ?_
  refine Eval.istore (L' := [none, some (.int v1), some (.int v2), some (.int v3), some (.int v4), some (.ref 0), none, some (.int v7), some (.int v8), some (.int v9), some (.int v10), some (.int w0), some (.int p114.1), some (.int p116.1), some (.int (j_clock p116.2)), some (.int p120), some (.int p122), none, none, none, none, none, none, none, none, none, none]) rfl rfl ?_
  refine Eval.aload rfl rfl ?_
  refine Eval.iload_n rfl rfl ?_
  obtain ⟨p126, hq127, h⟩ := bind_some h
  refine Eval.callI (rest := []) (x := p126) (H1 := (W1 p116.2 [])) rfl rfl (ev_j_entries [] p116.2 v3 hq127 rfl) ?_
  refine Eval.istore (L' := [none, some (.int v1), some (.int v2), some (.int v3), some (.int v4), some (.ref 0), none, some (.int v7), some (.int v8), some (.int v9), some (.int v10), some (.int w0), some (.int p114.1), some (.int p116.1), some (.int (j_clock p116.2)), some (.int p120), some (.int p122), some (.int p126), none, none, none, none, none, none, none, none, none]) rfl rfl ?_
  refine Eval.aload rfl rfl ?_
  refine Eval.iload_n rfl rfl ?_
  obtain ⟨p130, hq131, h⟩ := bind_some h
  refine Eval.callI (rest := []) (x := p130) (H1 := (W1 p116.2 [])) rfl rfl (ev_j_state [] p116.2 v2 hq131 rfl) ?_
  refine Eval.istore (L' := [none, some (.int v1), some (.int v2), some (.int v3), some (.int v4), some (.ref 0), none, some (.int v7), some (.int v8), some (.int v9), some (.int v10), some (.int w0), some (.int p114.1), some (.int p116.1), some (.int (j_clock p116.2)), some (.int p120), some (.int p122), some (.int p126), some (.int p130), none, none, none, none, none, none, none, none]) rfl rfl ?_
  refine Eval.aload rfl rfl ?_
  refine Eval.iload_n rfl rfl ?_
  obtain ⟨p160, hq161, h⟩ := bind_some h
  refine Eval.callI (rest := []) (x := p160) (H1 := (W1 p116.2 [])) rfl rfl (ev_j_ahead [] p116.2 v2 hq161 rfl) ?_
  refine Eval.istore (L' := [none, some (.int v1), some (.int v2), some (.int v3), some (.int v4), some (.ref 0), none, some (.int v7), some (.int v8), some (.int v9), some (.int v10), some (.int w0), some (.int p114.1), some (.int p116.1), some (.int (j_clock p116.2)), some (.int p120), some (.int p122), some (.int p126), some (.int p130), some (.int p160), none, none, none, none, none, none, none]) rfl rfl ?_
  refine Eval.aload rfl rfl ?_
  refine Eval.iload_n rfl rfl ?_
  obtain ⟨p164, hq165, h⟩ := bind_some h
  refine Eval.callI (rest := []) (x := p164) (H1 := (W1 p116.2 [])) rfl rfl (ev_j_lockOf [] p116.2 v2 hq165 rfl) ?_
  refine Eval.istore (L' := [none, some (.int v1), some (.int v2), some (.int v3), some (.int v4), some (.ref 0), none, some (.int v7), some (.int v8), some (.int v9), some (.int v10), some (.int w0), some (.int p114.1), some (.int p116.1), some (.int (j_clock p116.2)), some (.int p120), some (.int p122), some (.int p126), some (.int p130), some (.int p160), some (.int p164), none, none, none, none, none, none]) rfl rfl ?_
  refine Eval.aload rfl rfl ?_
  refine Eval.iload_n rfl rfl ?_
  obtain ⟨p211, hq212, h⟩ := bind_some h
  refine Eval.callI (rest := []) (x := p211.1) (H1 := (W1 p211.2 [])) rfl rfl (ev_j_release [] p116.2 v2 hq212 rfl) ?_
  refine Eval.istore (L' := [none, some (.int v1), some (.int v2), some (.int v3), some (.int v4), some (.ref 0), none, some (.int v7), some (.int v8), some (.int v9), some (.int v10), some (.int w0), some (.int p114.1), some (.int p116.1), some (.int (j_clock p116.2)), some (.int p120), some (.int p122), some (.int p126), some (.int p130), some (.int p160), some (.int p164), some (.int p211.1), none, none, none, none, none]) rfl rfl ?_
  refine Eval.iload rfl rfl ?_
  suffices hJ214 : Eval own_P 0 227 [none, some (.int v1), some (.int v2), some (.int v3), none, none, none, some (.int v7), some (.int v8), some (.int v9), some (.int v10), some (.int w0), some (.int p114.1), some (.int p116.1), some (.int (j_clock p116.2)), some (.int p120), some (.int p122), some (.int p126), some (.int p130), some (.int p160), some (.int p164), some (.int p211.1), none, none, none, none, none] [.int (if v8 = (0 : Int32) then (0 : Int32) else (1 : Int32))] (W1 p211.2 []) out by
    by_cases hc213 : v8 = (0 : Int32)
    · refine Eval.ifT (t := 226) rfl rfl (teq hc213).1 ?_
      refine Eval.iconst (x := (0 : Int32)) rfl rfl ?_
      refine Eval.weak (L' := [none, some (.int v1), some (.int v2), some (.int v3), none, none, none, some (.int v7), some (.int v8), some (.int v9), some (.int v10), some (.int w0), some (.int p114.1), some (.int p116.1), some (.int (j_clock p116.2)), some (.int p120), some (.int p122), some (.int p126), some (.int p130), some (.int p160), some (.int p164), some (.int p211.1), none, none, none, none, none]) ⟨_, _, rfl, Or.inl rfl, _, _, rfl, Or.inr rfl, _, _, rfl, Or.inr rfl, _, _, rfl, Or.inr rfl, _, _, rfl, Or.inl rfl, _, _, rfl, Or.inl rfl, _, _, rfl, Or.inl rfl, _, _, rfl, Or.inr rfl, _, _, rfl, Or.inr rfl, _, _, rfl, Or.inr rfl, _, _, rfl, Or.inr rfl, _, _, rfl, Or.inr rfl, _, _, rfl, Or.inr rfl, _, _, rfl, Or.inr rfl, _, _, rfl, Or.inr rfl, _, _, rfl, Or.inr rfl, _, _, rfl, Or.inr rfl, _, _, rfl, Or.inr rfl, _, _, rfl, Or.inr rfl, _, _, rfl, Or.inr rfl, _, _, rfl, Or.inr rfl, _, _, rfl, Or.inr rfl, _, _, rfl, Or.inl rfl, _, _, rfl, Or.inl rfl, _, _, rfl, Or.inl rfl, _, _, rfl, Or.inl rfl, _, _, rfl, Or.inl rfl, rfl⟩ ?_
      exact (Eval.conv hJ214 rfl (by simp only [if_pos hc213]))
    · refine Eval.ifF rfl (feq hc213).1 ?_
      refine Eval.iconst (x := (1 : Int32)) rfl rfl ?_
      refine Eval.goto (t := 227) rfl rfl ?_
      refine Eval.weak (L' := [none, some (.int v1), some (.int v2), some (.int v3), none, none, none, some (.int v7), some (.int v8), some (.int v9), some (.int v10), some (.int w0), some (.int p114.1), some (.int p116.1), some (.int (j_clock p116.2)), some (.int p120), some (.int p122), some (.int p126), some (.int p130), some (.int p160), some (.int p164), some (.int p211.1), none, none, none, none, none]) ⟨_, _, rfl, Or.inl rfl, _, _, rfl, Or.inr rfl, _, _, rfl, Or.inr rfl, _, _, rfl, Or.inr rfl, _, _, rfl, Or.inl rfl, _, _, rfl, Or.inl rfl, _, _, rfl, Or.inl rfl, _, _, rfl, Or.inr rfl, _, _, rfl, Or.inr rfl, _, _, rfl, Or.inr rfl, _, _, rfl, Or.inr rfl, _, _, rfl, Or.inr rfl, _, _, rfl, Or.inr rfl, _, _, rfl, Or.inr rfl, _, _, rfl, Or.inr rfl, _, _, rfl, Or.inr rfl, _, _, rfl, Or.inr rfl, _, _, rfl, Or.inr rfl, _, _, rfl, Or.inr rfl, _, _, rfl, Or.inr rfl, _, _, rfl, Or.inr rfl, _, _, rfl, Or.inr rfl, _, _, rfl, Or.inl rfl, _, _, rfl, Or.inl rfl, _, _, rfl, Or.inl rfl, _, _, rfl, Or.inl rfl, _, _, rfl, Or.inl rfl, rfl⟩ ?_
      exact (Eval.conv hJ214 rfl (by simp only [if_neg hc213]))
  exact ev_law_b227 p211.2 v1 v2 v3 v7 v8 v9 v10 w0 p114.1 p116.1 (j_clock p116.2) p120 p122 p126 p130 p160 p164 p211.1 (if v8 = (0 : Int32) then (0 : Int32) else (1 : Int32)) h hk
def law_b113 (s : Q) (v1 : Int32) (v2 : Int32) (v3 : Int32) (v4 : Int32) (v7 : Int32) (v8 : Int32) (v9 : Int32) (w0 : Int32) : Option (Int32 × Q) := (law_b130 s v1 v2 v3 v4 v7 v8 v9 w0 (if v2 = v1 then (if v8 = (0 : Int32) then (0 : Int32) else (1 : Int32)) else (0 : Int32)))
set_option maxRecDepth 100000 in
theorem ev_law_b113 (s : Q) (v1 : Int32) (v2 : Int32) (v3 : Int32) (v4 : Int32) (v7 : Int32) (v8 : Int32) (v9 : Int32) (w0 : Int32) {res : Int32 × Q} {out : Option Value × AHeap} (h : law_b113 s v1 v2 v3 v4 v7 v8 v9 w0 = some res) (hk : out = (some (.int res.1), (W1 res.2 []))) : Eval own_P 0 113 [none, some (.int v1), some (.int v2), some (.int v3), some (.int v4), some (.ref 0), none, some (.int v7), some (.int v8), some (.int v9), none, none, none, none, none, none, none, none, none, none, none, none, none, none, none, none, none] [.int w0] (W1 s []) out := by
  rw [law_b113] at h
  refine Eval.istore (L' := [none, some (.int v1), some (.int v2), some (.int v3), some (.int v4), some (.ref 0), none, some (.int v7), some (.int v8), some (.int v9), some (.int w0), none, none, none, none, none, none, none, none, none, none, none, none, none, none, none, none]) rfl rfl ?_
  refine Eval.iload_n rfl rfl ?_
  refine Eval.iload_n rfl rfl ?_
  suffices hJ46 : Eval own_P 0 130 [none, some (.int v1), some (.int v2), some (.int v3), some (.int v4), some (.ref 0), none, some (.int v7), some (.int v8), some (.int v9), some (.int w0), none, none, none, none, none, none, none, none, none, none, none, none, none, none, none, none] [.int (if v2 = v1 then (if v8 = (0 : Int32) then (0 : Int32) else (1 : Int32)) else (0 : Int32))] (W1 s []) out by
    by_cases hc44 : v2 = v1
    · refine Eval.icmpF rfl (teq hc44).2 ?_
      refine Eval.iload rfl rfl ?_
      by_cases hc45 : v8 = (0 : Int32)
      · refine Eval.ifT (t := 129) rfl rfl (teq hc45).1 ?_
        refine Eval.iconst (x := (0 : Int32)) rfl rfl ?_
        exact (Eval.conv hJ46 rfl (by simp only [if_pos hc44, if_pos hc45]))
      · refine Eval.ifF rfl (feq hc45).1 ?_
        refine Eval.iconst (x := (1 : Int32)) rfl rfl ?_
        refine Eval.goto (t := 130) rfl rfl ?_
        exact (Eval.conv hJ46 rfl (by simp only [if_pos hc44, if_neg hc45]))
    · refine Eval.icmpT (t := 129) rfl rfl (feq hc44).2 ?_
      refine Eval.iconst (x := (0 : Int32)) rfl rfl ?_
      exact (Eval.conv hJ46 rfl (by simp only [if_neg hc44]))
  exact ev_law_b130 s v1 v2 v3 v4 v7 v8 v9 w0 (if v2 = v1 then (if v8 = (0 : Int32) then (0 : Int32) else (1 : Int32)) else (0 : Int32)) h hk
def law_b86 (s : Q) (v1 : Int32) (v2 : Int32) (v3 : Int32) (v4 : Int32) (v7 : Int32) (v8 : Int32) (w0 : Int32) : Option (Int32 × Q) := (law_b113 s v1 v2 v3 v4 v7 v8 w0 (if w0 = (0 : Int32) then (0 : Int32) else (if v7 = (0 : Int32) then (0 : Int32) else (if v2 = v1 then (if v8 = (0 : Int32) then (1 : Int32) else (0 : Int32)) else (1 : Int32)))))
set_option maxRecDepth 100000 in
theorem ev_law_b86 (s : Q) (v1 : Int32) (v2 : Int32) (v3 : Int32) (v4 : Int32) (v7 : Int32) (v8 : Int32) (w0 : Int32) {res : Int32 × Q} {out : Option Value × AHeap} (h : law_b86 s v1 v2 v3 v4 v7 v8 w0 = some res) (hk : out = (some (.int res.1), (W1 res.2 []))) : Eval own_P 0 86 [none, some (.int v1), some (.int v2), some (.int v3), some (.int v4), some (.ref 0), none, some (.int v7), some (.int v8), none, none, none, none, none, none, none, none, none, none, none, none, none, none, none, none, none, none] [.int w0] (W1 s []) out := by
  rw [law_b86] at h
  refine Eval.istore (L' := [none, some (.int v1), some (.int v2), some (.int v3), some (.int v4), some (.ref 0), none, some (.int v7), some (.int v8), some (.int w0), none, none, none, none, none, none, none, none, none, none, none, none, none, none, none, none, none]) rfl rfl ?_
  refine Eval.iload rfl rfl ?_
  suffices hJ43 : Eval own_P 0 113 [none, some (.int v1), some (.int v2), some (.int v3), some (.int v4), some (.ref 0), none, some (.int v7), some (.int v8), some (.int w0), none, none, none, none, none, none, none, none, none, none, none, none, none, none, none, none, none] [.int (if w0 = (0 : Int32) then (0 : Int32) else (if v7 = (0 : Int32) then (0 : Int32) else (if v2 = v1 then (if v8 = (0 : Int32) then (1 : Int32) else (0 : Int32)) else (1 : Int32))))] (W1 s []) out by
    by_cases hc39 : w0 = (0 : Int32)
    · refine Eval.ifT (t := 112) rfl rfl (teq hc39).1 ?_
      refine Eval.iconst (x := (0 : Int32)) rfl rfl ?_
      exact (Eval.conv hJ43 rfl (by simp only [if_pos hc39]))
    · refine Eval.ifF rfl (feq hc39).1 ?_
      refine Eval.iload rfl rfl ?_
      by_cases hc40 : v7 = (0 : Int32)
      · refine Eval.ifT (t := 112) rfl rfl (teq hc40).1 ?_
        refine Eval.iconst (x := (0 : Int32)) rfl rfl ?_
        exact (Eval.conv hJ43 rfl (by simp only [if_neg hc39, if_pos hc40]))
      · refine Eval.ifF rfl (feq hc40).1 ?_
        refine Eval.iload_n rfl rfl ?_
        refine Eval.iload_n rfl rfl ?_
        by_cases hc41 : v2 = v1
        · refine Eval.icmpF rfl (teq hc41).2 ?_
          refine Eval.iload rfl rfl ?_
          by_cases hc42 : v8 = (0 : Int32)
          · refine Eval.ifF rfl (teq hc42).2 ?_
            refine Eval.iconst (x := (1 : Int32)) rfl rfl ?_
            refine Eval.goto (t := 113) rfl rfl ?_
            exact (Eval.conv hJ43 rfl (by simp only [if_neg hc39, if_neg hc40, if_pos hc41, if_pos hc42]))
          · refine Eval.ifT (t := 112) rfl rfl (feq hc42).2 ?_
            refine Eval.iconst (x := (0 : Int32)) rfl rfl ?_
            exact (Eval.conv hJ43 rfl (by simp only [if_neg hc39, if_neg hc40, if_pos hc41, if_neg hc42]))
        · refine Eval.icmpT (t := 108) rfl rfl (feq hc41).2 ?_
          refine Eval.iconst (x := (1 : Int32)) rfl rfl ?_
          refine Eval.goto (t := 113) rfl rfl ?_
          exact (Eval.conv hJ43 rfl (by simp only [if_neg hc39, if_neg hc40, if_neg hc41]))
  exact ev_law_b113 s v1 v2 v3 v4 v7 v8 w0 (if w0 = (0 : Int32) then (0 : Int32) else (if v7 = (0 : Int32) then (0 : Int32) else (if v2 = v1 then (if v8 = (0 : Int32) then (1 : Int32) else (0 : Int32)) else (1 : Int32)))) h hk
def law_b69 (s : Q) (v1 : Int32) (v2 : Int32) (v3 : Int32) (v4 : Int32) (v6 : Int32) (v7 : Int32) (w0 : Int32) : Option (Int32 × Q) := (law_b86 s v1 v2 v3 v4 v7 w0 (if v2 < (0 : Int32) then (0 : Int32) else (if v2 < v6 then (1 : Int32) else (0 : Int32))))
set_option maxRecDepth 100000 in
theorem ev_law_b69 (s : Q) (v1 : Int32) (v2 : Int32) (v3 : Int32) (v4 : Int32) (v6 : Int32) (v7 : Int32) (w0 : Int32) {res : Int32 × Q} {out : Option Value × AHeap} (h : law_b69 s v1 v2 v3 v4 v6 v7 w0 = some res) (hk : out = (some (.int res.1), (W1 res.2 []))) : Eval own_P 0 69 [none, some (.int v1), some (.int v2), some (.int v3), some (.int v4), some (.ref 0), some (.int v6), some (.int v7), none, none, none, none, none, none, none, none, none, none, none, none, none, none, none, none, none, none, none] [.int w0] (W1 s []) out := by
  rw [law_b69] at h
  refine Eval.istore (L' := [none, some (.int v1), some (.int v2), some (.int v3), some (.int v4), some (.ref 0), some (.int v6), some (.int v7), some (.int w0), none, none, none, none, none, none, none, none, none, none, none, none, none, none, none, none, none, none]) rfl rfl ?_
  refine Eval.iload_n rfl rfl ?_
  suffices hJ38 : Eval own_P 0 86 [none, some (.int v1), some (.int v2), some (.int v3), some (.int v4), some (.ref 0), none, some (.int v7), some (.int w0), none, none, none, none, none, none, none, none, none, none, none, none, none, none, none, none, none, none] [.int (if v2 < (0 : Int32) then (0 : Int32) else (if v2 < v6 then (1 : Int32) else (0 : Int32)))] (W1 s []) out by
    by_cases hc36 : v2 < (0 : Int32)
    · refine Eval.ifT (t := 85) rfl rfl (tlt hc36).1 ?_
      refine Eval.iconst (x := (0 : Int32)) rfl rfl ?_
      refine Eval.weak (L' := [none, some (.int v1), some (.int v2), some (.int v3), some (.int v4), some (.ref 0), none, some (.int v7), some (.int w0), none, none, none, none, none, none, none, none, none, none, none, none, none, none, none, none, none, none]) ⟨_, _, rfl, Or.inl rfl, _, _, rfl, Or.inr rfl, _, _, rfl, Or.inr rfl, _, _, rfl, Or.inr rfl, _, _, rfl, Or.inr rfl, _, _, rfl, Or.inr rfl, _, _, rfl, Or.inl rfl, _, _, rfl, Or.inr rfl, _, _, rfl, Or.inr rfl, _, _, rfl, Or.inl rfl, _, _, rfl, Or.inl rfl, _, _, rfl, Or.inl rfl, _, _, rfl, Or.inl rfl, _, _, rfl, Or.inl rfl, _, _, rfl, Or.inl rfl, _, _, rfl, Or.inl rfl, _, _, rfl, Or.inl rfl, _, _, rfl, Or.inl rfl, _, _, rfl, Or.inl rfl, _, _, rfl, Or.inl rfl, _, _, rfl, Or.inl rfl, _, _, rfl, Or.inl rfl, _, _, rfl, Or.inl rfl, _, _, rfl, Or.inl rfl, _, _, rfl, Or.inl rfl, _, _, rfl, Or.inl rfl, _, _, rfl, Or.inl rfl, rfl⟩ ?_
      exact (Eval.conv hJ38 rfl (by simp only [if_pos hc36]))
    · refine Eval.ifF rfl (flt hc36).1 ?_
      refine Eval.iload_n rfl rfl ?_
      refine Eval.iload rfl rfl ?_
      by_cases hc37 : v2 < v6
      · refine Eval.icmpF rfl (tlt hc37).2.1 ?_
        refine Eval.iconst (x := (1 : Int32)) rfl rfl ?_
        refine Eval.goto (t := 86) rfl rfl ?_
        refine Eval.weak (L' := [none, some (.int v1), some (.int v2), some (.int v3), some (.int v4), some (.ref 0), none, some (.int v7), some (.int w0), none, none, none, none, none, none, none, none, none, none, none, none, none, none, none, none, none, none]) ⟨_, _, rfl, Or.inl rfl, _, _, rfl, Or.inr rfl, _, _, rfl, Or.inr rfl, _, _, rfl, Or.inr rfl, _, _, rfl, Or.inr rfl, _, _, rfl, Or.inr rfl, _, _, rfl, Or.inl rfl, _, _, rfl, Or.inr rfl, _, _, rfl, Or.inr rfl, _, _, rfl, Or.inl rfl, _, _, rfl, Or.inl rfl, _, _, rfl, Or.inl rfl, _, _, rfl, Or.inl rfl, _, _, rfl, Or.inl rfl, _, _, rfl, Or.inl rfl, _, _, rfl, Or.inl rfl, _, _, rfl, Or.inl rfl, _, _, rfl, Or.inl rfl, _, _, rfl, Or.inl rfl, _, _, rfl, Or.inl rfl, _, _, rfl, Or.inl rfl, _, _, rfl, Or.inl rfl, _, _, rfl, Or.inl rfl, _, _, rfl, Or.inl rfl, _, _, rfl, Or.inl rfl, _, _, rfl, Or.inl rfl, _, _, rfl, Or.inl rfl, rfl⟩ ?_
        exact (Eval.conv hJ38 rfl (by simp only [if_neg hc36, if_pos hc37]))
      · refine Eval.icmpT (t := 85) rfl rfl (flt hc37).2.1 ?_
        refine Eval.iconst (x := (0 : Int32)) rfl rfl ?_
        refine Eval.weak (L' := [none, some (.int v1), some (.int v2), some (.int v3), some (.int v4), some (.ref 0), none, some (.int v7), some (.int w0), none, none, none, none, none, none, none, none, none, none, none, none, none, none, none, none, none, none]) ⟨_, _, rfl, Or.inl rfl, _, _, rfl, Or.inr rfl, _, _, rfl, Or.inr rfl, _, _, rfl, Or.inr rfl, _, _, rfl, Or.inr rfl, _, _, rfl, Or.inr rfl, _, _, rfl, Or.inl rfl, _, _, rfl, Or.inr rfl, _, _, rfl, Or.inr rfl, _, _, rfl, Or.inl rfl, _, _, rfl, Or.inl rfl, _, _, rfl, Or.inl rfl, _, _, rfl, Or.inl rfl, _, _, rfl, Or.inl rfl, _, _, rfl, Or.inl rfl, _, _, rfl, Or.inl rfl, _, _, rfl, Or.inl rfl, _, _, rfl, Or.inl rfl, _, _, rfl, Or.inl rfl, _, _, rfl, Or.inl rfl, _, _, rfl, Or.inl rfl, _, _, rfl, Or.inl rfl, _, _, rfl, Or.inl rfl, _, _, rfl, Or.inl rfl, _, _, rfl, Or.inl rfl, _, _, rfl, Or.inl rfl, _, _, rfl, Or.inl rfl, rfl⟩ ?_
        exact (Eval.conv hJ38 rfl (by simp only [if_neg hc36, if_neg hc37]))
  exact ev_law_b86 s v1 v2 v3 v4 v7 w0 (if v2 < (0 : Int32) then (0 : Int32) else (if v2 < v6 then (1 : Int32) else (0 : Int32))) h hk
def law_b47 (s : Q) (v1 : Int32) (v2 : Int32) (v3 : Int32) (v4 : Int32) (v6 : Int32) (w0 : Int32) : Option (Int32 × Q) := (law_b69 s v1 v2 v3 v4 v6 w0 (if v1 < (0 : Int32) then (0 : Int32) else (if v1 < v6 then (if w0 = (0 : Int32) then (0 : Int32) else (1 : Int32)) else (0 : Int32))))
set_option maxRecDepth 100000 in
theorem ev_law_b47 (s : Q) (v1 : Int32) (v2 : Int32) (v3 : Int32) (v4 : Int32) (v6 : Int32) (w0 : Int32) {res : Int32 × Q} {out : Option Value × AHeap} (h : law_b47 s v1 v2 v3 v4 v6 w0 = some res) (hk : out = (some (.int res.1), (W1 res.2 []))) : Eval own_P 0 47 [none, some (.int v1), some (.int v2), some (.int v3), some (.int v4), some (.ref 0), some (.int v6), none, none, none, none, none, none, none, none, none, none, none, none, none, none, none, none, none, none, none, none] [.int w0] (W1 s []) out := by
  rw [law_b47] at h
  refine Eval.istore (L' := [none, some (.int v1), some (.int v2), some (.int v3), some (.int v4), some (.ref 0), some (.int v6), some (.int w0), none, none, none, none, none, none, none, none, none, none, none, none, none, none, none, none, none, none, none]) rfl rfl ?_
  refine Eval.iload_n rfl rfl ?_
  suffices hJ35 : Eval own_P 0 69 [none, some (.int v1), some (.int v2), some (.int v3), some (.int v4), some (.ref 0), some (.int v6), some (.int w0), none, none, none, none, none, none, none, none, none, none, none, none, none, none, none, none, none, none, none] [.int (if v1 < (0 : Int32) then (0 : Int32) else (if v1 < v6 then (if w0 = (0 : Int32) then (0 : Int32) else (1 : Int32)) else (0 : Int32)))] (W1 s []) out by
    by_cases hc32 : v1 < (0 : Int32)
    · refine Eval.ifT (t := 68) rfl rfl (tlt hc32).1 ?_
      refine Eval.iconst (x := (0 : Int32)) rfl rfl ?_
      exact (Eval.conv hJ35 rfl (by simp only [if_pos hc32]))
    · refine Eval.ifF rfl (flt hc32).1 ?_
      refine Eval.iload_n rfl rfl ?_
      refine Eval.iload rfl rfl ?_
      by_cases hc33 : v1 < v6
      · refine Eval.icmpF rfl (tlt hc33).2.1 ?_
        refine Eval.iload rfl rfl ?_
        by_cases hc34 : w0 = (0 : Int32)
        · refine Eval.ifT (t := 68) rfl rfl (teq hc34).1 ?_
          refine Eval.iconst (x := (0 : Int32)) rfl rfl ?_
          exact (Eval.conv hJ35 rfl (by simp only [if_neg hc32, if_pos hc33, if_pos hc34]))
        · refine Eval.ifF rfl (feq hc34).1 ?_
          refine Eval.iconst (x := (1 : Int32)) rfl rfl ?_
          refine Eval.goto (t := 69) rfl rfl ?_
          exact (Eval.conv hJ35 rfl (by simp only [if_neg hc32, if_pos hc33, if_neg hc34]))
      · refine Eval.icmpT (t := 68) rfl rfl (flt hc33).2.1 ?_
        refine Eval.iconst (x := (0 : Int32)) rfl rfl ?_
        exact (Eval.conv hJ35 rfl (by simp only [if_neg hc32, if_neg hc33]))
  exact ev_law_b69 s v1 v2 v3 v4 v6 w0 (if v1 < (0 : Int32) then (0 : Int32) else (if v1 < v6 then (if w0 = (0 : Int32) then (0 : Int32) else (1 : Int32)) else (0 : Int32))) h hk
def law_b31 (s : Q) (v1 : Int32) (v2 : Int32) (v3 : Int32) (v4 : Int32) (w0 : Int32) : Option (Int32 × Q) := (law_b47 s v1 v2 v3 v4 w0 (if v3 = (0 : Int32) then (1 : Int32) else (if v3 = (1 : Int32) then (1 : Int32) else (0 : Int32))))
set_option maxRecDepth 100000 in
theorem ev_law_b31 (s : Q) (v1 : Int32) (v2 : Int32) (v3 : Int32) (v4 : Int32) (w0 : Int32) {res : Int32 × Q} {out : Option Value × AHeap} (h : law_b31 s v1 v2 v3 v4 w0 = some res) (hk : out = (some (.int res.1), (W1 res.2 []))) : Eval own_P 0 31 [none, some (.int v1), some (.int v2), some (.int v3), some (.int v4), some (.ref 0), none, none, none, none, none, none, none, none, none, none, none, none, none, none, none, none, none, none, none, none, none] [.int w0] (W1 s []) out := by
  rw [law_b31] at h
  refine Eval.istore (L' := [none, some (.int v1), some (.int v2), some (.int v3), some (.int v4), some (.ref 0), some (.int w0), none, none, none, none, none, none, none, none, none, none, none, none, none, none, none, none, none, none, none, none]) rfl rfl ?_
  refine Eval.iload_n rfl rfl ?_
  suffices hJ31 : Eval own_P 0 47 [none, some (.int v1), some (.int v2), some (.int v3), some (.int v4), some (.ref 0), some (.int w0), none, none, none, none, none, none, none, none, none, none, none, none, none, none, none, none, none, none, none, none] [.int (if v3 = (0 : Int32) then (1 : Int32) else (if v3 = (1 : Int32) then (1 : Int32) else (0 : Int32)))] (W1 s []) out by
    by_cases hc29 : v3 = (0 : Int32)
    · refine Eval.ifT (t := 42) rfl rfl (teq hc29).1 ?_
      refine Eval.iconst (x := (1 : Int32)) rfl rfl ?_
      refine Eval.goto (t := 47) rfl rfl ?_
      exact (Eval.conv hJ31 rfl (by simp only [if_pos hc29]))
    · refine Eval.ifF rfl (feq hc29).1 ?_
      refine Eval.iload_n rfl rfl ?_
      refine Eval.iconst (x := (1 : Int32)) rfl rfl ?_
      by_cases hc30 : v3 = (1 : Int32)
      · refine Eval.icmpF rfl (teq hc30).2 ?_
        refine Eval.iconst (x := (1 : Int32)) rfl rfl ?_
        refine Eval.goto (t := 47) rfl rfl ?_
        exact (Eval.conv hJ31 rfl (by simp only [if_neg hc29, if_pos hc30]))
      · refine Eval.icmpT (t := 46) rfl rfl (feq hc30).2 ?_
        refine Eval.iconst (x := (0 : Int32)) rfl rfl ?_
        exact (Eval.conv hJ31 rfl (by simp only [if_neg hc29, if_neg hc30]))
  exact ev_law_b47 s v1 v2 v3 v4 w0 (if v3 = (0 : Int32) then (1 : Int32) else (if v3 = (1 : Int32) then (1 : Int32) else (0 : Int32))) h hk
def law (v0 : Int32) (v1 : Int32) (v2 : Int32) (v3 : Int32) (v4 : Int32) : Option (Int32 × Q) := ((j_init v0).bind fun p24 => (law_b31 p24 v1 v2 v3 v4 (if v0 < (2 : Int32) then (2 : Int32) else (if (8 : Int32) < v0 then (8 : Int32) else v0))))
set_option maxRecDepth 100000 in
theorem ev_law (v0 : Int32) (v1 : Int32) (v2 : Int32) (v3 : Int32) (v4 : Int32) {res : Int32 × Q} {out : Option Value × AHeap} (h : law v0 v1 v2 v3 v4 = some res) (hk : out = (some (.int res.1), (W1 res.2 []))) : Eval own_P 0 0 [some (.int v0), some (.int v1), some (.int v2), some (.int v3), some (.int v4), none, none, none, none, none, none, none, none, none, none, none, none, none, none, none, none, none, none, none, none, none, none] [] (W0 []) out := by
  rw [law] at h
  refine Eval.new (z := 0) (a := 0) (H1 := (W0 [.inl (Prog.fresh own_P)])) rfl rfl rfl (by decide) rfl (by decide) rfl ?_
  refine Eval.dupR rfl ?_
  refine Eval.iload_n rfl rfl ?_
  obtain ⟨p24, hq25, h⟩ := bind_some h
  refine Eval.callN (rest := [.ref 0]) (H1 := (W1 p24 [])) rfl rfl (ev_j_init v0 hq25 rfl) ?_
  refine Eval.astore (L' := [some (.int v0), some (.int v1), some (.int v2), some (.int v3), some (.int v4), some (.ref 0), none, none, none, none, none, none, none, none, none, none, none, none, none, none, none, none, none, none, none, none, none]) rfl rfl ?_
  refine Eval.iload_n rfl rfl ?_
  refine Eval.iconst (x := (2 : Int32)) rfl rfl ?_
  suffices hJ28 : Eval own_P 0 31 [none, some (.int v1), some (.int v2), some (.int v3), some (.int v4), some (.ref 0), none, none, none, none, none, none, none, none, none, none, none, none, none, none, none, none, none, none, none, none, none] [.int (if v0 < (2 : Int32) then (2 : Int32) else (if (8 : Int32) < v0 then (8 : Int32) else v0))] (W1 p24 []) out by
    by_cases hc26 : v0 < (2 : Int32)
    · refine Eval.icmpF rfl (tlt hc26).2.1 ?_
      refine Eval.iconst (x := (2 : Int32)) rfl rfl ?_
      refine Eval.goto (t := 31) rfl rfl ?_
      refine Eval.weak (L' := [none, some (.int v1), some (.int v2), some (.int v3), some (.int v4), some (.ref 0), none, none, none, none, none, none, none, none, none, none, none, none, none, none, none, none, none, none, none, none, none]) ⟨_, _, rfl, Or.inl rfl, _, _, rfl, Or.inr rfl, _, _, rfl, Or.inr rfl, _, _, rfl, Or.inr rfl, _, _, rfl, Or.inr rfl, _, _, rfl, Or.inr rfl, _, _, rfl, Or.inl rfl, _, _, rfl, Or.inl rfl, _, _, rfl, Or.inl rfl, _, _, rfl, Or.inl rfl, _, _, rfl, Or.inl rfl, _, _, rfl, Or.inl rfl, _, _, rfl, Or.inl rfl, _, _, rfl, Or.inl rfl, _, _, rfl, Or.inl rfl, _, _, rfl, Or.inl rfl, _, _, rfl, Or.inl rfl, _, _, rfl, Or.inl rfl, _, _, rfl, Or.inl rfl, _, _, rfl, Or.inl rfl, _, _, rfl, Or.inl rfl, _, _, rfl, Or.inl rfl, _, _, rfl, Or.inl rfl, _, _, rfl, Or.inl rfl, _, _, rfl, Or.inl rfl, _, _, rfl, Or.inl rfl, _, _, rfl, Or.inl rfl, rfl⟩ ?_
      exact (Eval.conv hJ28 rfl (by simp only [if_pos hc26]))
    · refine Eval.icmpT (t := 19) rfl rfl (flt hc26).2.1 ?_
      refine Eval.iload_n rfl rfl ?_
      refine Eval.bipush (x := (8 : Int32)) rfl rfl ?_
      by_cases hc27 : (8 : Int32) < v0
      · refine Eval.icmpF rfl (tlt hc27).2.2.2 ?_
        refine Eval.bipush (x := (8 : Int32)) rfl rfl ?_
        refine Eval.goto (t := 31) rfl rfl ?_
        refine Eval.weak (L' := [none, some (.int v1), some (.int v2), some (.int v3), some (.int v4), some (.ref 0), none, none, none, none, none, none, none, none, none, none, none, none, none, none, none, none, none, none, none, none, none]) ⟨_, _, rfl, Or.inl rfl, _, _, rfl, Or.inr rfl, _, _, rfl, Or.inr rfl, _, _, rfl, Or.inr rfl, _, _, rfl, Or.inr rfl, _, _, rfl, Or.inr rfl, _, _, rfl, Or.inl rfl, _, _, rfl, Or.inl rfl, _, _, rfl, Or.inl rfl, _, _, rfl, Or.inl rfl, _, _, rfl, Or.inl rfl, _, _, rfl, Or.inl rfl, _, _, rfl, Or.inl rfl, _, _, rfl, Or.inl rfl, _, _, rfl, Or.inl rfl, _, _, rfl, Or.inl rfl, _, _, rfl, Or.inl rfl, _, _, rfl, Or.inl rfl, _, _, rfl, Or.inl rfl, _, _, rfl, Or.inl rfl, _, _, rfl, Or.inl rfl, _, _, rfl, Or.inl rfl, _, _, rfl, Or.inl rfl, _, _, rfl, Or.inl rfl, _, _, rfl, Or.inl rfl, _, _, rfl, Or.inl rfl, _, _, rfl, Or.inl rfl, rfl⟩ ?_
        exact (Eval.conv hJ28 rfl (by simp only [if_neg hc26, if_pos hc27]))
      · refine Eval.icmpT (t := 30) rfl rfl (flt hc27).2.2.2 ?_
        refine Eval.iload_n rfl rfl ?_
        refine Eval.weak (L' := [none, some (.int v1), some (.int v2), some (.int v3), some (.int v4), some (.ref 0), none, none, none, none, none, none, none, none, none, none, none, none, none, none, none, none, none, none, none, none, none]) ⟨_, _, rfl, Or.inl rfl, _, _, rfl, Or.inr rfl, _, _, rfl, Or.inr rfl, _, _, rfl, Or.inr rfl, _, _, rfl, Or.inr rfl, _, _, rfl, Or.inr rfl, _, _, rfl, Or.inl rfl, _, _, rfl, Or.inl rfl, _, _, rfl, Or.inl rfl, _, _, rfl, Or.inl rfl, _, _, rfl, Or.inl rfl, _, _, rfl, Or.inl rfl, _, _, rfl, Or.inl rfl, _, _, rfl, Or.inl rfl, _, _, rfl, Or.inl rfl, _, _, rfl, Or.inl rfl, _, _, rfl, Or.inl rfl, _, _, rfl, Or.inl rfl, _, _, rfl, Or.inl rfl, _, _, rfl, Or.inl rfl, _, _, rfl, Or.inl rfl, _, _, rfl, Or.inl rfl, _, _, rfl, Or.inl rfl, _, _, rfl, Or.inl rfl, _, _, rfl, Or.inl rfl, _, _, rfl, Or.inl rfl, _, _, rfl, Or.inl rfl, rfl⟩ ?_
        exact (Eval.conv hJ28 rfl (by simp only [if_neg hc26, if_neg hc27]))
  exact ev_law_b31 p24 v1 v2 v3 v4 (if v0 < (2 : Int32) then (2 : Int32) else (if (8 : Int32) < v0 then (8 : Int32) else v0)) h hk
theorem own_rdc {n : Nat} {c j : Int32} (h : inb n j = true) : rd (List.replicate n c) j = c := by
  have q := rd_at (xs := List.replicate n c) (j := j) (by simpa using h)
  rw [List.getElem?_replicate] at q
  split at q
  · exact (Option.some.inj q).symm
  · cases q
theorem own_n2i {i : Nat} (h : i < 2147483648) : (Int32.ofNat i).toInt = i := by
  rw [Int32.toInt_ofNat']
  simp only [Int32.size, Int.bmod_def]
  omega
theorem own_n2n {i : Nat} (h : i < 2147483648) : (Int32.ofNat i).toNatClampNeg = i := by
  simp only [Int32.toNatClampNeg, own_n2i h]; omega
theorem own_succ (i : Nat) : Int32.ofNat i + 1 = Int32.ofNat (i + 1) := (Int32.ofNat_add i 1).symm
theorem own_inbN {n i : Nat} (h : i < n) (hn : n < 2147483648) : inb n (Int32.ofNat i) = true := inb_iff.mpr (by rw [own_n2i (by omega)]; omega)
theorem own_ltN {i k : Nat} (hi : i < 2147483648) (hk : k < 2147483648) : Int32.ofNat i < Int32.ofNat k ↔ i < k := by
  rw [lt32, own_n2i hi, own_n2i hk]; omega
theorem own_wrA {A r : List Int32} {d x : Int32} {i : Nat} (hi : A.length = i) (h : i < 2147483648) : wr (A ++ d :: r) (Int32.ofNat i) x = A ++ x :: r := by
  unfold wr
  rw [own_n2n h, ← hi]
  simp
theorem own_repS (i : Nat) (c : Int32) (r : List Int32) : List.replicate i c ++ c :: r = List.replicate (i + 1) c ++ r := by
  rw [List.replicate_succ']; simp
theorem own_add {x y : Int32} (h1 : -2147483648 ≤ x.toInt + y.toInt) (h2 : x.toInt + y.toInt < 2147483648) : (x + y).toInt = x.toInt + y.toInt := by
  rw [Int32.toInt_add, Int.bmod_def]
  omega
theorem own_sub {x y : Int32} (h1 : -2147483648 ≤ x.toInt - y.toInt) (h2 : x.toInt - y.toInt < 2147483648) : (x - y).toInt = x.toInt - y.toInt := by
  rw [Int32.toInt_sub, Int.bmod_def]
  omega
theorem own_mul {x y : Int32} (h1 : -2147483648 ≤ x.toInt * y.toInt) (h2 : x.toInt * y.toInt < 2147483648) : (x * y).toInt = x.toInt * y.toInt := by
  rw [Int32.toInt_mul, Int.bmod_def]
  omega
theorem own_eta (s : Q) : Q.mk s.f_st s.f_lk s.f_tmo s.f_spin s.f_nxt0 s.f_prv1 s.f_head s.f_tail s.f_len s.f_ent s.f_aband s.f_log s.f_hist s.f_n s.f_clk = s := rfl
theorem own_wrc (n : Nat) (c j : Int32) : wr (List.replicate n c) j c = List.replicate n c := by simp [wr, List.set_replicate_self]

theorem own_l135 : ∀ (m i n : Nat) (s : Q), i + m = 8 → m < n → s.f_st = List.replicate 8 0 → s.f_lk = List.replicate i (-1) ++ List.replicate m 0 → s.f_nxt0 = List.replicate i (-1) ++ List.replicate m 0 → s.f_prv1 = List.replicate i (-1) ++ List.replicate m 0 →
    j_init_l135 n s (Int32.ofNat i) = some (((s.s_lk (List.replicate 8 (-1))).s_nxt0 (List.replicate 8 (-1))).s_prv1 (List.replicate 8 (-1)))
  | 0, i, n + 1, s, h1, h2, h3, h4, h5, h6 => by
    obtain rfl : i = 8 := by omega
    have key : ∀ X, s.f_lk = X → s.f_nxt0 = X → s.f_prv1 = X → ((s.s_lk X).s_nxt0 X).s_prv1 X = s := by
      intro X e1 e2 e3
      conv => rhs; rw [← own_eta s, e1, e2, e3]
      rfl
    rw [key _ (by simpa using h4) (by simpa using h5) (by simpa using h6), j_init_l135, if_neg (by decide)]
  | m + 1, i, n + 1, s, h1, h2, h3, h4, h5, h6 => by
    have hi : i < 8 := by omega
    have hb : inb 8 (Int32.ofNat i) = true := own_inbN hi (by decide)
    have hl : (List.replicate i (-1 : Int32) ++ List.replicate (m + 1) 0).length = 8 := by simp <;> omega
    rw [j_init_l135, if_pos (show Int32.ofNat i < 8 from (own_ltN (k := 8) (by omega) (by decide)).mpr hi)]
    rw [h3, h4, h5, h6, hl, List.length_replicate, if_pos hb, if_pos hb, if_pos hb, if_pos hb, own_wrc, List.replicate_succ (n := m), own_wrA (by simp) (by omega), own_succ, own_repS]
    rw [own_l135 m (i + 1) n _ (by omega) (by omega) rfl rfl rfl rfl]
    simp only [own_f_st, own_e_st, own_z_st, own_f_lk, own_e_lk, own_z_lk, own_f_tmo, own_e_tmo, own_z_tmo, own_f_spin, own_e_spin, own_z_spin, own_f_nxt0, own_e_nxt0, own_z_nxt0, own_f_prv1, own_e_prv1, own_z_prv1, own_f_head, own_e_head, own_z_head, own_f_tail, own_e_tail, own_z_tail, own_f_len, own_e_len, own_z_len, own_f_ent, own_e_ent, own_z_ent, own_f_aband, own_e_aband, own_z_aband, own_f_log, own_e_log, own_z_log, own_f_hist, own_e_hist, own_z_hist, own_f_n, own_e_n, own_z_n, own_f_clk, own_e_clk, own_z_clk, h3]
theorem own_l204 : ∀ (m i n : Nat) (s : Q), i + m = 512 → m < n → s.f_hist = List.replicate i (-1) ++ List.replicate m 0 → j_init_l204 n s (Int32.ofNat i) = some (s.s_hist (List.replicate 512 (-1)))
  | 0, i, n + 1, s, h1, h2, h3 => by
    obtain rfl : i = 512 := by omega
    have key : ∀ X, s.f_hist = X → s.s_hist X = s := by
      intro X e1
      conv => rhs; rw [← own_eta s, e1]
      rfl
    rw [key _ (by simpa [-List.reduceReplicate] using h3), j_init_l204, if_neg (by decide)]
  | m + 1, i, n + 1, s, h1, h2, h3 => by
    have hi : i < 512 := by omega
    have hb : inb 512 (Int32.ofNat i) = true := own_inbN hi (by decide)
    have hl : (List.replicate i (-1 : Int32) ++ List.replicate (m + 1) 0).length = 512 := by simp <;> omega
    rw [j_init_l204, if_pos (show Int32.ofNat i < 512 from (own_ltN (k := 512) (by omega) (by decide)).mpr hi)]
    rw [h3, hl, if_pos hb, List.replicate_succ (n := m), own_wrA (by simp) (by omega), own_succ, own_repS]
    rw [own_l204 m (i + 1) n _ (by omega) (by omega) rfl]
    rfl
def own_nc (v : Int32) : Int32 := if v < 2 then 2 else if 8 < v then 8 else v
theorem own_nc_b (v : Int32) : 2 ≤ (own_nc v).toInt ∧ (own_nc v).toInt ≤ 8 := by
  unfold own_nc
  split
  · decide
  · split
    · decide
    · rename_i h1 h2; simp only [lt32, Int32.reduceToInt] at h1 h2; omega
def own_S (n : Int32) : Q := Q.mk (List.replicate 8 0) (List.replicate 8 (-1)) (List.replicate 8 0) (List.replicate 8 0) (List.replicate 8 (-1)) (List.replicate 8 (-1)) [-1, -1] [-1, -1] (List.replicate 2 0) (List.replicate 2 0) (List.replicate 2 0) (List.replicate 128 0) (List.replicate 512 (-1)) n 0
theorem own_init (v : Int32) : j_init v = some (own_S (own_nc v)) := by
  have e : (if (8 : Int32) < (if v < (2 : Int32) then (2 : Int32) else v) then (8 : Int32) else (if v < (2 : Int32) then (2 : Int32) else v)) = own_nc v := by
    unfold own_nc
    split
    · rfl
    · rfl
  simp only [j_init, j_init_b105, j_init_b114, j_init_b123, e]
  rw [show (0 : Int32) = Int32.ofNat 0 from rfl, own_l135 8 0 3000 _ rfl (by decide) (by simp only [own_f_st, own_z_st]) (by simp only [own_f_lk, own_z_lk]; rfl) (by simp only [own_f_nxt0, own_z_nxt0]; rfl) (by simp only [own_f_prv1, own_z_prv1]; rfl), Option.bind_some]
  have e2 : ∀ s : Q, s.f_head = [0, 0] → s.f_tail = [0, 0] → j_init_l177 3000 s (Int32.ofNat 0) = some ((s.s_head [-1, -1]).s_tail [-1, -1]) := by
    intro s h1 h2
    simp [j_init_l177, own_f_st, own_e_st, own_z_st, own_f_lk, own_e_lk, own_z_lk, own_f_tmo, own_e_tmo, own_z_tmo, own_f_spin, own_e_spin, own_z_spin, own_f_nxt0, own_e_nxt0, own_z_nxt0, own_f_prv1, own_e_prv1, own_z_prv1, own_f_head, own_e_head, own_z_head, own_f_tail, own_e_tail, own_z_tail, own_f_len, own_e_len, own_z_len, own_f_ent, own_e_ent, own_z_ent, own_f_aband, own_e_aband, own_z_aband, own_f_log, own_e_log, own_z_log, own_f_hist, own_e_hist, own_z_hist, own_f_n, own_e_n, own_z_n, own_f_clk, own_e_clk, own_z_clk, h1, h2, wr, inb, Nat.ble_eq]
  rw [e2 _ rfl rfl, Option.bind_some, own_l204 512 0 3000 _ rfl (by decide) rfl, Option.bind_some]
  rfl

theorem own_p0 (a b x : Int32) : wr [a, b] 0 x = [x, b] := rfl
theorem own_p1 (a b x : Int32) : wr [a, b] 1 x = [a, x] := rfl
theorem own_q0 (a b : Int32) : rd [a, b] 0 = a := rfl
theorem own_q1 (a b : Int32) : rd [a, b] 1 = b := rfl
theorem own_r2 : List.replicate 2 (0 : Int32) = [0, 0] := rfl
def own_T0 (n t w : Int32) (H : List Int32) : Q := Q.mk (wr (List.replicate 8 0) t 3) (wr (List.replicate 8 (-1)) t 0) (wr (List.replicate 8 0) t (j_clampTimeout w)) (List.replicate 8 0) (List.replicate 8 (-1)) (List.replicate 8 (-1)) [t, -1] [t, -1] [1, 0] [1, 0] [0, 0] (wr (List.replicate 128 0) 0 t) H n 1
def own_T1 (n t w : Int32) (H : List Int32) : Q := Q.mk (wr (List.replicate 8 0) t 3) (wr (List.replicate 8 (-1)) t 1) (wr (List.replicate 8 0) t (j_clampTimeout w)) (List.replicate 8 0) (List.replicate 8 (-1)) (List.replicate 8 (-1)) [-1, t] [-1, t] [0, 1] [0, 1] [0, 0] (wr (List.replicate 128 0) 64 t) H n 1
def own_U0 (n t u w : Int32) (H : List Int32) : Q := Q.mk (wr (wr (List.replicate 8 0) t 3) u 1) (wr (wr (List.replicate 8 (-1)) t 0) u 0) (wr (wr (List.replicate 8 0) t (j_clampTimeout w)) u (j_clampTimeout w)) (List.replicate 8 0) (wr (List.replicate 8 (-1)) t u) (List.replicate 8 (-1)) [t, -1] [u, -1] [2, 0] [1, 0] [0, 0] (wr (List.replicate 128 0) 0 t) H n 2
def own_U1 (n t u w : Int32) (H : List Int32) : Q := Q.mk (wr (wr (List.replicate 8 0) t 3) u 1) (wr (wr (List.replicate 8 (-1)) t 1) u 1) (wr (wr (List.replicate 8 0) t (j_clampTimeout w)) u (j_clampTimeout w)) (List.replicate 8 0) (List.replicate 8 (-1)) (wr (List.replicate 8 (-1)) u t) [-1, t] [-1, u] [0, 2] [0, 1] [0, 0] (wr (List.replicate 128 0) 64 t) H n 2
theorem own_a0 (n t w : Int32) (ht : inb 8 t = true) (h0 : ¬ t < 0) (hn : t < n) (h8 : t < 8) : ∃ H, H.length = 512 ∧ j_acquire (own_S n) t 0 w = some (3, own_T0 n t w H) := by
  have g0 := Int32.not_lt.mp h0
  have g8 := Int32.not_le.mpr h8
  refine ⟨wr (wr (List.replicate 512 (-1)) 0 t) 256 (-1), by simp [len_wr, -List.reduceReplicate], ?_⟩
  simp [j_acquire, j_acquire_b119, j_append, j_append_b43, j_append_b55, j_enter, j_enter_b29, j_recordHistory, j_holder, j_inNodes, j_validThread, j_validLock, j_validLock_b9, own_f_st, own_e_st, own_z_st, own_f_lk, own_e_lk, own_z_lk, own_f_tmo, own_e_tmo, own_z_tmo, own_f_spin, own_e_spin, own_z_spin, own_f_nxt0, own_e_nxt0, own_z_nxt0, own_f_prv1, own_e_prv1, own_z_prv1, own_f_head, own_e_head, own_z_head, own_f_tail, own_e_tail, own_z_tail, own_f_len, own_e_len, own_z_len, own_f_ent, own_e_ent, own_z_ent, own_f_aband, own_e_aband, own_z_aband, own_f_log, own_e_log, own_z_log, own_f_hist, own_e_hist, own_z_hist, own_f_n, own_e_n, own_z_n, own_f_clk, own_e_clk, own_z_clk, own_S, own_T0, own_p0, own_p1, own_q0, own_q1, own_r2, own_wrc, own_rdc, rd_wr_same, len_wr, inb_iff.mpr, ht, h0, g0, hn, h8, g8, -List.reduceReplicate]
theorem own_b0 (n t u w : Int32) (H : List Int32) (hH : H.length = 512) (ht : inb 8 t = true) (h0 : ¬ t < 0) (h8 : t < 8) (hu : inb 8 u = true) (u0 : ¬ u < 0) (un : u < n) (ne : ¬ u = t) : ∃ H', H'.length = 512 ∧ j_acquire (own_T0 n t w H) u 0 w = some (1, own_U0 n t u w H') := by
  have g0 := Int32.not_lt.mp h0
  have g8 := Int32.not_le.mpr h8
  have f0 := Int32.not_lt.mp u0
  have ne' : ¬ t = u := fun e => ne e.symm
  have e1 : ¬ t = -1 := by intro e; subst e; exact absurd h0 (by decide)
  have e2 : ∀ (xs : List Int32) (a : Int32), rd (wr xs t a) u = rd xs u := fun xs a => rd_wr_ne h0 u0 ne' a
  have e3 : ∀ (xs : List Int32) (a : Int32), rd (wr xs u a) t = rd xs t := fun xs a => rd_wr_ne u0 h0 ne a
  refine ⟨wr (wr H 1 t) 257 (-1), by simp [len_wr, hH, -List.reduceReplicate], ?_⟩
  simp [j_acquire, j_acquire_b119, j_append, j_append_b43, j_append_b55, j_enter, j_enter_b29, j_recordHistory, j_holder, j_inNodes, j_validThread, j_validLock, j_validLock_b9, own_f_st, own_e_st, own_z_st, own_f_lk, own_e_lk, own_z_lk, own_f_tmo, own_e_tmo, own_z_tmo, own_f_spin, own_e_spin, own_z_spin, own_f_nxt0, own_e_nxt0, own_z_nxt0, own_f_prv1, own_e_prv1, own_z_prv1, own_f_head, own_e_head, own_z_head, own_f_tail, own_e_tail, own_z_tail, own_f_len, own_e_len, own_z_len, own_f_ent, own_e_ent, own_z_ent, own_f_aband, own_e_aband, own_z_aband, own_f_log, own_e_log, own_z_log, own_f_hist, own_e_hist, own_z_hist, own_f_n, own_e_n, own_z_n, own_f_clk, own_e_clk, own_z_clk, own_T0, own_U0, own_p0, own_p1, own_q0, own_q1, own_r2, own_wrc, own_rdc, rd_wr_same, len_wr, inb_iff.mpr, ht, h0, g0, h8, g8, hu, u0, f0, un, e1, e2, e3, hH, -List.reduceReplicate]
theorem own_a1 (n t w : Int32) (ht : inb 8 t = true) (h0 : ¬ t < 0) (hn : t < n) (h8 : t < 8) : ∃ H, H.length = 512 ∧ j_acquire (own_S n) t 1 w = some (3, own_T1 n t w H) := by
  have g0 := Int32.not_lt.mp h0
  have g8 := Int32.not_le.mpr h8
  refine ⟨wr (wr (List.replicate 512 (-1)) 0 (-1)) 256 t, by simp [len_wr, -List.reduceReplicate], ?_⟩
  simp [j_acquire, j_acquire_b119, j_append, j_append_b43, j_append_b55, j_enter, j_enter_b29, j_recordHistory, j_holder, j_inNodes, j_validThread, j_validLock, j_validLock_b9, own_f_st, own_e_st, own_z_st, own_f_lk, own_e_lk, own_z_lk, own_f_tmo, own_e_tmo, own_z_tmo, own_f_spin, own_e_spin, own_z_spin, own_f_nxt0, own_e_nxt0, own_z_nxt0, own_f_prv1, own_e_prv1, own_z_prv1, own_f_head, own_e_head, own_z_head, own_f_tail, own_e_tail, own_z_tail, own_f_len, own_e_len, own_z_len, own_f_ent, own_e_ent, own_z_ent, own_f_aband, own_e_aband, own_z_aband, own_f_log, own_e_log, own_z_log, own_f_hist, own_e_hist, own_z_hist, own_f_n, own_e_n, own_z_n, own_f_clk, own_e_clk, own_z_clk, own_S, own_T1, own_p0, own_p1, own_q0, own_q1, own_r2, own_wrc, own_rdc, rd_wr_same, len_wr, inb_iff.mpr, ht, h0, g0, hn, h8, g8, -List.reduceReplicate]
theorem own_b1 (n t u w : Int32) (H : List Int32) (hH : H.length = 512) (ht : inb 8 t = true) (h0 : ¬ t < 0) (h8 : t < 8) (hu : inb 8 u = true) (u0 : ¬ u < 0) (un : u < n) (ne : ¬ u = t) : ∃ H', H'.length = 512 ∧ j_acquire (own_T1 n t w H) u 1 w = some (1, own_U1 n t u w H') := by
  have g0 := Int32.not_lt.mp h0
  have g8 := Int32.not_le.mpr h8
  have f0 := Int32.not_lt.mp u0
  have ne' : ¬ t = u := fun e => ne e.symm
  have e1 : ¬ t = -1 := by intro e; subst e; exact absurd h0 (by decide)
  have e2 : ∀ (xs : List Int32) (a : Int32), rd (wr xs t a) u = rd xs u := fun xs a => rd_wr_ne h0 u0 ne' a
  have e3 : ∀ (xs : List Int32) (a : Int32), rd (wr xs u a) t = rd xs t := fun xs a => rd_wr_ne u0 h0 ne a
  refine ⟨wr (wr H 1 (-1)) 257 t, by simp [len_wr, hH, -List.reduceReplicate], ?_⟩
  simp [j_acquire, j_acquire_b119, j_append, j_append_b43, j_append_b55, j_enter, j_enter_b29, j_recordHistory, j_holder, j_inNodes, j_validThread, j_validLock, j_validLock_b9, own_f_st, own_e_st, own_z_st, own_f_lk, own_e_lk, own_z_lk, own_f_tmo, own_e_tmo, own_z_tmo, own_f_spin, own_e_spin, own_z_spin, own_f_nxt0, own_e_nxt0, own_z_nxt0, own_f_prv1, own_e_prv1, own_z_prv1, own_f_head, own_e_head, own_z_head, own_f_tail, own_e_tail, own_z_tail, own_f_len, own_e_len, own_z_len, own_f_ent, own_e_ent, own_z_ent, own_f_aband, own_e_aband, own_z_aband, own_f_log, own_e_log, own_z_log, own_f_hist, own_e_hist, own_z_hist, own_f_n, own_e_n, own_z_n, own_f_clk, own_e_clk, own_z_clk, own_T1, own_U1, own_p0, own_p1, own_q0, own_q1, own_r2, own_wrc, own_rdc, rd_wr_same, len_wr, inb_iff.mpr, ht, h0, g0, h8, g8, hu, u0, f0, un, e1, e2, e3, hH, -List.reduceReplicate]
theorem own_suc (s : Q) (v1 : Int32) (hl : s.f_lk = wr (List.replicate 8 (-1)) v1 1) (h1 : inb 8 v1 = true) (hn : s.f_n.toInt ≤ 8) : ∀ (k n : Nat) (i : Int32), 0 ≤ i.toInt → s.f_n.toInt ≤ i.toInt + k → k < n → j_successorClh_l2 n s v1 i = some (.inr ()) := by
  intro k
  induction k with
  | zero =>
    intro n i h0 h2 hk
    cases n with
    | zero => omega
    | succ n => rw [j_successorClh_l2, if_neg (by rw [lt32]; omega)]
  | succ k ih =>
    intro n i h0 h2 hk
    cases n with
    | zero => omega
    | succ n =>
      rw [j_successorClh_l2]
      by_cases c : i < s.f_n
      · have ci := c
        rw [lt32] at ci
        have e : (i + 1).toInt = i.toInt + 1 := own_add (by simp only [Int32.reduceToInt]; omega) (by simp only [Int32.reduceToInt]; omega)
        have go : j_successorClh_l2 n s v1 (i + 1) = some (.inr ()) := ih n (i + 1) (by omega) (by omega) (by omega)
        rw [if_pos c, j_successorClh_b46]
        by_cases c2 : i = v1
        · rw [if_pos c2]; exact go
        · have ib : inb 8 i = true := by rw [inb_iff]; omega
          rw [if_neg c2, hl, len_wr, List.length_replicate, if_pos ib, rd_wr_ne (inb_nn h1) (inb_nn ib) (fun q => c2 q.symm), own_rdc ib, if_neg (by decide)]
          exact go
      · rw [if_neg c]
theorem own_rel0 (n t w : Int32) (H : List Int32) (hH : H.length = 512) (ht : inb 8 t = true) (h0 : ¬ t < 0) (hn : t < n) (h8 : t < 8) (n8 : n.toInt ≤ 8) : ∃ s, j_release (own_T0 n t w H) t = some (-1, s) := by
  have g0 := Int32.not_lt.mp h0
  have g8 := Int32.not_le.mpr h8
  simp [j_release, j_release_b76, j_popFront, j_popFront_b66, j_popFront_b85, j_popFront_b59, j_acquire, j_acquire_b119, j_append, j_append_b43, j_append_b55, j_enter, j_enter_b29, j_recordHistory, j_holder, j_inNodes, j_validThread, j_validLock, j_validLock_b9, own_f_st, own_e_st, own_z_st, own_f_lk, own_e_lk, own_z_lk, own_f_tmo, own_e_tmo, own_z_tmo, own_f_spin, own_e_spin, own_z_spin, own_f_nxt0, own_e_nxt0, own_z_nxt0, own_f_prv1, own_e_prv1, own_z_prv1, own_f_head, own_e_head, own_z_head, own_f_tail, own_e_tail, own_z_tail, own_f_len, own_e_len, own_z_len, own_f_ent, own_e_ent, own_z_ent, own_f_aband, own_e_aband, own_z_aband, own_f_log, own_e_log, own_z_log, own_f_hist, own_e_hist, own_z_hist, own_f_n, own_e_n, own_z_n, own_f_clk, own_e_clk, own_z_clk, own_T0, own_p0, own_p1, own_q0, own_q1, own_r2, own_wrc, own_rdc, rd_wr_same, len_wr, inb_iff.mpr, ht, h0, g0, hn, h8, g8, hH, -List.reduceReplicate]
theorem own_rel1 (n t w : Int32) (H : List Int32) (hH : H.length = 512) (ht : inb 8 t = true) (h0 : ¬ t < 0) (hn : t < n) (h8 : t < 8) (n8 : n.toInt ≤ 8) : ∃ s, j_release (own_T1 n t w H) t = some (-1, s) := by
  have g0 := Int32.not_lt.mp h0
  have g8 := Int32.not_le.mpr h8
  have q : ∀ s : Q, s.f_lk = wr (List.replicate 8 (-1)) t 1 → s.f_n.toInt ≤ 8 → j_successorClh s t = some (-1) := by
    intro s a b
    rw [j_successorClh, own_suc s t a ht b 8 3000 0 (by decide) (by simp only [Int32.reduceToInt]; omega) (by omega)]; rfl
  simp [j_release, j_release_b76, j_popFront, j_popFront_b66, j_popFront_b85, j_popFront_b59, q, n8, j_acquire, j_acquire_b119, j_append, j_append_b43, j_append_b55, j_enter, j_enter_b29, j_recordHistory, j_holder, j_inNodes, j_validThread, j_validLock, j_validLock_b9, own_f_st, own_e_st, own_z_st, own_f_lk, own_e_lk, own_z_lk, own_f_tmo, own_e_tmo, own_z_tmo, own_f_spin, own_e_spin, own_z_spin, own_f_nxt0, own_e_nxt0, own_z_nxt0, own_f_prv1, own_e_prv1, own_z_prv1, own_f_head, own_e_head, own_z_head, own_f_tail, own_e_tail, own_z_tail, own_f_len, own_e_len, own_z_len, own_f_ent, own_e_ent, own_z_ent, own_f_aband, own_e_aband, own_z_aband, own_f_log, own_e_log, own_z_log, own_f_hist, own_e_hist, own_z_hist, own_f_n, own_e_n, own_z_n, own_f_clk, own_e_clk, own_z_clk, own_T1, own_p0, own_p1, own_q0, own_q1, own_r2, own_wrc, own_rdc, rd_wr_same, len_wr, inb_iff.mpr, ht, h0, g0, hn, h8, g8, hH, -List.reduceReplicate]
theorem own_law (v0 v1 v2 v3 v4 : Int32) : (law v0 v1 v2 v3 v4).map (·.1) = some 1 := by
  have e0 : (if v0 < (2 : Int32) then (2 : Int32) else (if (8 : Int32) < v0 then (8 : Int32) else v0)) = own_nc v0 := rfl
  simp only [law, own_init, Option.bind_some, e0]
  have hn := own_nc_b v0
  generalize own_nc v0 = n at *
  have inv : ∀ x : Int32, ¬ (¬ x < 0 ∧ x < n) → x < 0 ∨ n ≤ x := by
    intro x h
    by_cases q : x < 0
    · exact Or.inl q
    · exact Or.inr (Int32.not_lt.mp (fun r => h ⟨q, r⟩))
  have inv2 : ∀ x : Int32, ¬ (¬ x < 0 ∧ x < n) → ∀ s : Q, s.f_n = n → j_validThread s x = 0 := by
    intro x h s hs
    rcases inv x h with q | q
    · rw [j_validThread, if_pos q]
    · rw [j_validThread]
      split
      · rfl
      · rw [hs, if_neg (Int32.not_lt.mpr q)]
  have vt : ∀ x : Int32, (¬ x < 0 ∧ x < n) → inb 8 x = true ∧ x < 8 := by
    intro x ⟨h0, h1⟩
    simp only [lt32, Int32.reduceToInt] at *
    exact ⟨inb_iff.mpr (by omega), by omega⟩
  have sn : (own_S n).f_n = n := by simp only [own_S, own_f_st, own_e_st, own_z_st, own_f_lk, own_e_lk, own_z_lk, own_f_tmo, own_e_tmo, own_z_tmo, own_f_spin, own_e_spin, own_z_spin, own_f_nxt0, own_e_nxt0, own_z_nxt0, own_f_prv1, own_e_prv1, own_z_prv1, own_f_head, own_e_head, own_z_head, own_f_tail, own_e_tail, own_z_tail, own_f_len, own_e_len, own_z_len, own_f_ent, own_e_ent, own_z_ent, own_f_aband, own_e_aband, own_z_aband, own_f_log, own_e_log, own_z_log, own_f_hist, own_e_hist, own_z_hist, own_f_n, own_e_n, own_z_n, own_f_clk, own_e_clk, own_z_clk]
  have i1 : ∀ x : Int32, ¬ (¬ x < 0 ∧ x < n) → (if x < 0 then (0 : Int32) else if x < n then 1 else 0) = 0 := by
    intro x h
    split
    · rfl
    · rename_i a
      rw [if_neg (fun b => h ⟨a, b⟩)]
  have i2 : ∀ x : Int32, ¬ (¬ x < 0 ∧ x < n) → ∀ y : Int32, (if x < 0 then (0 : Int32) else if x < n then y else 0) = 0 := by
    intro x h y
    split
    · rfl
    · rename_i a
      rw [if_neg (fun b => h ⟨a, b⟩)]
  by_cases c1 : (¬ v1 < 0 ∧ v1 < n)
  · obtain ⟨hb, h8⟩ := vt v1 c1
    obtain ⟨h0, h1⟩ := c1
    have g0 := Int32.not_lt.mp h0
    have g8 := Int32.not_le.mpr h8
    by_cases c2 : (¬ v2 < 0 ∧ v2 < n)
    · obtain ⟨ub, u8⟩ := vt v2 c2
      obtain ⟨u0, u1⟩ := c2
      have f0 := Int32.not_lt.mp u0
      have f8 := Int32.not_le.mpr u8
      by_cases l0 : v3 = 0
      · subst l0
        obtain ⟨H, hH, ha⟩ := own_a0 n v1 v4 hb h0 h1 h8
        by_cases q : v2 = v1
        · subst q
          obtain ⟨s, hs⟩ := own_rel0 n v2 v4 H hH ub u0 u1 u8 hn.2
          have h2 : j_acquire (own_T0 n v2 v4 H) v2 0 v4 = some (-2, own_T0 n v2 v4 H) := by
            simp [j_acquire, j_validThread, j_validLock, j_validLock_b9, own_T0, own_f_st, own_e_st, own_z_st, own_f_lk, own_e_lk, own_z_lk, own_f_tmo, own_e_tmo, own_z_tmo, own_f_spin, own_e_spin, own_z_spin, own_f_nxt0, own_e_nxt0, own_z_nxt0, own_f_prv1, own_e_prv1, own_z_prv1, own_f_head, own_e_head, own_z_head, own_f_tail, own_e_tail, own_z_tail, own_f_len, own_e_len, own_z_len, own_f_ent, own_e_ent, own_z_ent, own_f_aband, own_e_aband, own_z_aband, own_f_log, own_e_log, own_z_log, own_f_hist, own_e_hist, own_z_hist, own_f_n, own_e_n, own_z_n, own_f_clk, own_e_clk, own_z_clk, own_p0, own_p1, own_q0, own_q1, own_r2, own_wrc, own_rdc, rd_wr_same, len_wr, inb_iff.mpr, ub, u0, f0, u1, -List.reduceReplicate]
          simp only [law_b31, law_b47, law_b69, law_b86, law_b113, law_b130, law_b227, law_b237, law_b253, law_b280, law_b308, law_b344, law_b371, law_b414, law_b454, law_b481, law_b503, law_b541, ha, Option.bind_some, h2, hs]
          simp [j_queueLength, j_entries, j_state, j_ahead, j_aheadMcs, j_aheadMcs_l9, j_aheadClh, j_aheadClh_l12, j_lockOf, j_clock, j_holder, j_inNodes, j_validThread, j_validLock, j_validLock_b9, own_f_st, own_e_st, own_z_st, own_f_lk, own_e_lk, own_z_lk, own_f_tmo, own_e_tmo, own_z_tmo, own_f_spin, own_e_spin, own_z_spin, own_f_nxt0, own_e_nxt0, own_z_nxt0, own_f_prv1, own_e_prv1, own_z_prv1, own_f_head, own_e_head, own_z_head, own_f_tail, own_e_tail, own_z_tail, own_f_len, own_e_len, own_z_len, own_f_ent, own_e_ent, own_z_ent, own_f_aband, own_e_aband, own_z_aband, own_f_log, own_e_log, own_z_log, own_f_hist, own_e_hist, own_z_hist, own_f_n, own_e_n, own_z_n, own_f_clk, own_e_clk, own_z_clk, own_T0, own_p0, own_p1, own_q0, own_q1, own_r2, own_wrc, own_rdc, rd_wr_same, len_wr, inb_iff.mpr, ub, u0, f0, u1, u8, f8, -List.reduceReplicate]
        · have q' : ¬ v1 = v2 := fun e => q e.symm
          obtain ⟨H2, hH2, ha2⟩ := own_b0 n v1 v2 v4 H hH hb h0 h8 ub u0 u1 q
          have e2 : ∀ (xs : List Int32) (a : Int32), rd (wr xs v1 a) v2 = rd xs v2 := fun xs a => rd_wr_ne h0 u0 q' a
          have e3 : ∀ (xs : List Int32) (a : Int32), rd (wr xs v2 a) v1 = rd xs v1 := fun xs a => rd_wr_ne u0 h0 q a
          have hs : j_release (own_U0 n v1 v2 v4 H2) v2 = some (-2, own_U0 n v1 v2 v4 H2) := by
            simp [j_release, j_validThread, own_U0, own_f_st, own_e_st, own_z_st, own_f_lk, own_e_lk, own_z_lk, own_f_tmo, own_e_tmo, own_z_tmo, own_f_spin, own_e_spin, own_z_spin, own_f_nxt0, own_e_nxt0, own_z_nxt0, own_f_prv1, own_e_prv1, own_z_prv1, own_f_head, own_e_head, own_z_head, own_f_tail, own_e_tail, own_z_tail, own_f_len, own_e_len, own_z_len, own_f_ent, own_e_ent, own_z_ent, own_f_aband, own_e_aband, own_z_aband, own_f_log, own_e_log, own_z_log, own_f_hist, own_e_hist, own_z_hist, own_f_n, own_e_n, own_z_n, own_f_clk, own_e_clk, own_z_clk, own_p0, own_p1, own_q0, own_q1, own_r2, own_wrc, own_rdc, rd_wr_same, len_wr, inb_iff.mpr, ub, u0, f0, u1, e2, -List.reduceReplicate]
          simp only [law_b31, law_b47, law_b69, law_b86, law_b113, law_b130, law_b227, law_b237, law_b253, law_b280, law_b308, law_b344, law_b371, law_b414, law_b454, law_b481, law_b503, law_b541, ha, Option.bind_some, ha2, hs]
          simp [j_queueLength, j_entries, j_state, j_ahead, j_aheadMcs, j_aheadMcs_l9, j_aheadClh, j_aheadClh_l12, j_lockOf, j_clock, j_holder, j_inNodes, j_validThread, j_validLock, j_validLock_b9, own_f_st, own_e_st, own_z_st, own_f_lk, own_e_lk, own_z_lk, own_f_tmo, own_e_tmo, own_z_tmo, own_f_spin, own_e_spin, own_z_spin, own_f_nxt0, own_e_nxt0, own_z_nxt0, own_f_prv1, own_e_prv1, own_z_prv1, own_f_head, own_e_head, own_z_head, own_f_tail, own_e_tail, own_z_tail, own_f_len, own_e_len, own_z_len, own_f_ent, own_e_ent, own_z_ent, own_f_aband, own_e_aband, own_z_aband, own_f_log, own_e_log, own_z_log, own_f_hist, own_e_hist, own_z_hist, own_f_n, own_e_n, own_z_n, own_f_clk, own_e_clk, own_z_clk, own_U0, own_p0, own_p1, own_q0, own_q1, own_r2, own_wrc, own_rdc, rd_wr_same, len_wr, inb_iff.mpr, hb, h0, g0, h1, h8, g8, ub, u0, f0, u1, u8, f8, q, q', e2, e3, -List.reduceReplicate]
      · by_cases l1 : v3 = 1
        · subst l1
          obtain ⟨H, hH, ha⟩ := own_a1 n v1 v4 hb h0 h1 h8
          by_cases q : v2 = v1
          · subst q
            obtain ⟨s, hs⟩ := own_rel1 n v2 v4 H hH ub u0 u1 u8 hn.2
            have h2 : j_acquire (own_T1 n v2 v4 H) v2 1 v4 = some (-2, own_T1 n v2 v4 H) := by
              simp [j_acquire, j_validThread, j_validLock, j_validLock_b9, own_T1, own_f_st, own_e_st, own_z_st, own_f_lk, own_e_lk, own_z_lk, own_f_tmo, own_e_tmo, own_z_tmo, own_f_spin, own_e_spin, own_z_spin, own_f_nxt0, own_e_nxt0, own_z_nxt0, own_f_prv1, own_e_prv1, own_z_prv1, own_f_head, own_e_head, own_z_head, own_f_tail, own_e_tail, own_z_tail, own_f_len, own_e_len, own_z_len, own_f_ent, own_e_ent, own_z_ent, own_f_aband, own_e_aband, own_z_aband, own_f_log, own_e_log, own_z_log, own_f_hist, own_e_hist, own_z_hist, own_f_n, own_e_n, own_z_n, own_f_clk, own_e_clk, own_z_clk, own_p0, own_p1, own_q0, own_q1, own_r2, own_wrc, own_rdc, rd_wr_same, len_wr, inb_iff.mpr, ub, u0, f0, u1, -List.reduceReplicate]
            simp only [law_b31, law_b47, law_b69, law_b86, law_b113, law_b130, law_b227, law_b237, law_b253, law_b280, law_b308, law_b344, law_b371, law_b414, law_b454, law_b481, law_b503, law_b541, ha, Option.bind_some, h2, hs]
            simp [j_queueLength, j_entries, j_state, j_ahead, j_aheadMcs, j_aheadMcs_l9, j_aheadClh, j_aheadClh_l12, j_lockOf, j_clock, j_holder, j_inNodes, j_validThread, j_validLock, j_validLock_b9, own_f_st, own_e_st, own_z_st, own_f_lk, own_e_lk, own_z_lk, own_f_tmo, own_e_tmo, own_z_tmo, own_f_spin, own_e_spin, own_z_spin, own_f_nxt0, own_e_nxt0, own_z_nxt0, own_f_prv1, own_e_prv1, own_z_prv1, own_f_head, own_e_head, own_z_head, own_f_tail, own_e_tail, own_z_tail, own_f_len, own_e_len, own_z_len, own_f_ent, own_e_ent, own_z_ent, own_f_aband, own_e_aband, own_z_aband, own_f_log, own_e_log, own_z_log, own_f_hist, own_e_hist, own_z_hist, own_f_n, own_e_n, own_z_n, own_f_clk, own_e_clk, own_z_clk, own_T1, own_p0, own_p1, own_q0, own_q1, own_r2, own_wrc, own_rdc, rd_wr_same, len_wr, inb_iff.mpr, ub, u0, f0, u1, u8, f8, -List.reduceReplicate]
          · have q' : ¬ v1 = v2 := fun e => q e.symm
            obtain ⟨H2, hH2, ha2⟩ := own_b1 n v1 v2 v4 H hH hb h0 h8 ub u0 u1 q
            have e2 : ∀ (xs : List Int32) (a : Int32), rd (wr xs v1 a) v2 = rd xs v2 := fun xs a => rd_wr_ne h0 u0 q' a
            have e3 : ∀ (xs : List Int32) (a : Int32), rd (wr xs v2 a) v1 = rd xs v1 := fun xs a => rd_wr_ne u0 h0 q a
            have hs : j_release (own_U1 n v1 v2 v4 H2) v2 = some (-2, own_U1 n v1 v2 v4 H2) := by
              simp [j_release, j_validThread, own_U1, own_f_st, own_e_st, own_z_st, own_f_lk, own_e_lk, own_z_lk, own_f_tmo, own_e_tmo, own_z_tmo, own_f_spin, own_e_spin, own_z_spin, own_f_nxt0, own_e_nxt0, own_z_nxt0, own_f_prv1, own_e_prv1, own_z_prv1, own_f_head, own_e_head, own_z_head, own_f_tail, own_e_tail, own_z_tail, own_f_len, own_e_len, own_z_len, own_f_ent, own_e_ent, own_z_ent, own_f_aband, own_e_aband, own_z_aband, own_f_log, own_e_log, own_z_log, own_f_hist, own_e_hist, own_z_hist, own_f_n, own_e_n, own_z_n, own_f_clk, own_e_clk, own_z_clk, own_p0, own_p1, own_q0, own_q1, own_r2, own_wrc, own_rdc, rd_wr_same, len_wr, inb_iff.mpr, ub, u0, f0, u1, e2, -List.reduceReplicate]
            simp only [law_b31, law_b47, law_b69, law_b86, law_b113, law_b130, law_b227, law_b237, law_b253, law_b280, law_b308, law_b344, law_b371, law_b414, law_b454, law_b481, law_b503, law_b541, ha, Option.bind_some, ha2, hs]
            simp [j_queueLength, j_entries, j_state, j_ahead, j_aheadMcs, j_aheadMcs_l9, j_aheadClh, j_aheadClh_l12, j_lockOf, j_clock, j_holder, j_inNodes, j_validThread, j_validLock, j_validLock_b9, own_f_st, own_e_st, own_z_st, own_f_lk, own_e_lk, own_z_lk, own_f_tmo, own_e_tmo, own_z_tmo, own_f_spin, own_e_spin, own_z_spin, own_f_nxt0, own_e_nxt0, own_z_nxt0, own_f_prv1, own_e_prv1, own_z_prv1, own_f_head, own_e_head, own_z_head, own_f_tail, own_e_tail, own_z_tail, own_f_len, own_e_len, own_z_len, own_f_ent, own_e_ent, own_z_ent, own_f_aband, own_e_aband, own_z_aband, own_f_log, own_e_log, own_z_log, own_f_hist, own_e_hist, own_z_hist, own_f_n, own_e_n, own_z_n, own_f_clk, own_e_clk, own_z_clk, own_U1, own_p0, own_p1, own_q0, own_q1, own_r2, own_wrc, own_rdc, rd_wr_same, len_wr, inb_iff.mpr, hb, h0, g0, h1, h8, g8, ub, u0, f0, u1, u8, f8, q, q', e2, e3, -List.reduceReplicate]
        · have fn := Int32.not_le.mpr u1
          simp [law_b31, law_b47, law_b69, law_b86, law_b113, law_b130, law_b227, law_b237, law_b253, law_b280, law_b308, law_b344, law_b371, law_b414, law_b454, law_b481, law_b503, law_b541, j_acquire, j_release, j_queueLength, j_entries, j_state, j_ahead, j_aheadMcs, j_aheadMcs_l9, j_aheadClh, j_aheadClh_l12, j_lockOf, j_clock, j_holder, j_inNodes, j_validThread, j_validLock, j_validLock_b9, own_f_st, own_e_st, own_z_st, own_f_lk, own_e_lk, own_z_lk, own_f_tmo, own_e_tmo, own_z_tmo, own_f_spin, own_e_spin, own_z_spin, own_f_nxt0, own_e_nxt0, own_z_nxt0, own_f_prv1, own_e_prv1, own_z_prv1, own_f_head, own_e_head, own_z_head, own_f_tail, own_e_tail, own_z_tail, own_f_len, own_e_len, own_z_len, own_f_ent, own_e_ent, own_z_ent, own_f_aband, own_e_aband, own_z_aband, own_f_log, own_e_log, own_z_log, own_f_hist, own_e_hist, own_z_hist, own_f_n, own_e_n, own_z_n, own_f_clk, own_e_clk, own_z_clk, own_S, own_p0, own_p1, own_q0, own_q1, own_r2, own_wrc, own_rdc, rd_wr_same, len_wr, inb_iff.mpr, fn, hb, h0, g0, h1, h8, g8, ub, u0, f0, u1, u8, f8, l0, l1, -List.reduceReplicate]
    · have ne : ¬ v2 = v1 := by intro e; subst e; exact c2 ⟨h0, h1⟩
      have z := inv2 v2 c2
      have j1 := i1 v2 c2
      by_cases l0 : v3 = 0
      · subst l0
        obtain ⟨H, hH, ha⟩ := own_a0 n v1 v4 hb h0 h1 h8
        have zn := z (own_T0 n v1 v4 H) (by simp only [own_T0, own_f_st, own_e_st, own_z_st, own_f_lk, own_e_lk, own_z_lk, own_f_tmo, own_e_tmo, own_z_tmo, own_f_spin, own_e_spin, own_z_spin, own_f_nxt0, own_e_nxt0, own_z_nxt0, own_f_prv1, own_e_prv1, own_z_prv1, own_f_head, own_e_head, own_z_head, own_f_tail, own_e_tail, own_z_tail, own_f_len, own_e_len, own_z_len, own_f_ent, own_e_ent, own_z_ent, own_f_aband, own_e_aband, own_z_aband, own_f_log, own_e_log, own_z_log, own_f_hist, own_e_hist, own_z_hist, own_f_n, own_e_n, own_z_n, own_f_clk, own_e_clk, own_z_clk])
        have h2 : j_acquire (own_T0 n v1 v4 H) v2 0 v4 = some (-2, own_T0 n v1 v4 H) := by rw [j_acquire, if_pos zn]
        have hs : j_release (own_T0 n v1 v4 H) v2 = some (-2, own_T0 n v1 v4 H) := by rw [j_release, if_pos zn]
        have o1 : j_state (own_T0 n v1 v4 H) v2 = some (-2) := by rw [j_state, if_pos zn]
        have o2 : j_ahead (own_T0 n v1 v4 H) v2 = some (-2) := by rw [j_ahead, if_pos zn]
        have o3 : j_lockOf (own_T0 n v1 v4 H) v2 = some (-2) := by rw [j_lockOf, if_pos zn]
        simp only [law_b31, law_b47, law_b69, law_b86, law_b113, law_b130, law_b227, law_b237, law_b253, law_b280, law_b308, law_b344, law_b371, law_b414, law_b454, law_b481, law_b503, law_b541, ha, Option.bind_some, h2, hs, o1, o2, o3, j1]
        simp [j_queueLength, j_entries, j_clock, j_holder, j_inNodes, j_validLock, j_validLock_b9, own_f_st, own_e_st, own_z_st, own_f_lk, own_e_lk, own_z_lk, own_f_tmo, own_e_tmo, own_z_tmo, own_f_spin, own_e_spin, own_z_spin, own_f_nxt0, own_e_nxt0, own_z_nxt0, own_f_prv1, own_e_prv1, own_z_prv1, own_f_head, own_e_head, own_z_head, own_f_tail, own_e_tail, own_z_tail, own_f_len, own_e_len, own_z_len, own_f_ent, own_e_ent, own_z_ent, own_f_aband, own_e_aband, own_z_aband, own_f_log, own_e_log, own_z_log, own_f_hist, own_e_hist, own_z_hist, own_f_n, own_e_n, own_z_n, own_f_clk, own_e_clk, own_z_clk, own_T0, own_p0, own_p1, own_q0, own_q1, own_r2, own_wrc, own_rdc, rd_wr_same, len_wr, inb_iff.mpr, hb, h0, g0, h1, h8, g8, ne, -List.reduceReplicate]
      · by_cases l1 : v3 = 1
        · subst l1
          obtain ⟨H, hH, ha⟩ := own_a1 n v1 v4 hb h0 h1 h8
          have zn := z (own_T1 n v1 v4 H) (by simp only [own_T1, own_f_st, own_e_st, own_z_st, own_f_lk, own_e_lk, own_z_lk, own_f_tmo, own_e_tmo, own_z_tmo, own_f_spin, own_e_spin, own_z_spin, own_f_nxt0, own_e_nxt0, own_z_nxt0, own_f_prv1, own_e_prv1, own_z_prv1, own_f_head, own_e_head, own_z_head, own_f_tail, own_e_tail, own_z_tail, own_f_len, own_e_len, own_z_len, own_f_ent, own_e_ent, own_z_ent, own_f_aband, own_e_aband, own_z_aband, own_f_log, own_e_log, own_z_log, own_f_hist, own_e_hist, own_z_hist, own_f_n, own_e_n, own_z_n, own_f_clk, own_e_clk, own_z_clk])
          have h2 : j_acquire (own_T1 n v1 v4 H) v2 1 v4 = some (-2, own_T1 n v1 v4 H) := by rw [j_acquire, if_pos zn]
          have hs : j_release (own_T1 n v1 v4 H) v2 = some (-2, own_T1 n v1 v4 H) := by rw [j_release, if_pos zn]
          have o1 : j_state (own_T1 n v1 v4 H) v2 = some (-2) := by rw [j_state, if_pos zn]
          have o2 : j_ahead (own_T1 n v1 v4 H) v2 = some (-2) := by rw [j_ahead, if_pos zn]
          have o3 : j_lockOf (own_T1 n v1 v4 H) v2 = some (-2) := by rw [j_lockOf, if_pos zn]
          simp only [law_b31, law_b47, law_b69, law_b86, law_b113, law_b130, law_b227, law_b237, law_b253, law_b280, law_b308, law_b344, law_b371, law_b414, law_b454, law_b481, law_b503, law_b541, ha, Option.bind_some, h2, hs, o1, o2, o3, j1]
          simp [j_queueLength, j_entries, j_clock, j_holder, j_inNodes, j_validLock, j_validLock_b9, own_f_st, own_e_st, own_z_st, own_f_lk, own_e_lk, own_z_lk, own_f_tmo, own_e_tmo, own_z_tmo, own_f_spin, own_e_spin, own_z_spin, own_f_nxt0, own_e_nxt0, own_z_nxt0, own_f_prv1, own_e_prv1, own_z_prv1, own_f_head, own_e_head, own_z_head, own_f_tail, own_e_tail, own_z_tail, own_f_len, own_e_len, own_z_len, own_f_ent, own_e_ent, own_z_ent, own_f_aband, own_e_aband, own_z_aband, own_f_log, own_e_log, own_z_log, own_f_hist, own_e_hist, own_z_hist, own_f_n, own_e_n, own_z_n, own_f_clk, own_e_clk, own_z_clk, own_T1, own_p0, own_p1, own_q0, own_q1, own_r2, own_wrc, own_rdc, rd_wr_same, len_wr, inb_iff.mpr, hb, h0, g0, h1, h8, g8, ne, -List.reduceReplicate]
        · have zn := z (own_S n) sn
          have h2 : ∀ x, j_acquire (own_S n) v2 x v4 = some (-2, own_S n) := by intro x; rw [j_acquire, if_pos zn]
          have hs : j_release (own_S n) v2 = some (-2, own_S n) := by rw [j_release, if_pos zn]
          have o1 : j_state (own_S n) v2 = some (-2) := by rw [j_state, if_pos zn]
          have o2 : j_ahead (own_S n) v2 = some (-2) := by rw [j_ahead, if_pos zn]
          have o3 : j_lockOf (own_S n) v2 = some (-2) := by rw [j_lockOf, if_pos zn]
          have ha : j_acquire (own_S n) v1 v3 v4 = some (-2, own_S n) := by simp [j_acquire, j_validThread, j_validLock, sn, h0, g0, h1, l0, l1]
          simp only [law_b31, law_b47, law_b69, law_b86, law_b113, law_b130, law_b227, law_b237, law_b253, law_b280, law_b308, law_b344, law_b371, law_b414, law_b454, law_b481, law_b503, law_b541, ha, Option.bind_some, h2, hs, o1, o2, o3, j1]
          simp [j_queueLength, j_entries, j_clock, j_holder, j_inNodes, j_validLock, j_validLock_b9, own_f_st, own_e_st, own_z_st, own_f_lk, own_e_lk, own_z_lk, own_f_tmo, own_e_tmo, own_z_tmo, own_f_spin, own_e_spin, own_z_spin, own_f_nxt0, own_e_nxt0, own_z_nxt0, own_f_prv1, own_e_prv1, own_z_prv1, own_f_head, own_e_head, own_z_head, own_f_tail, own_e_tail, own_z_tail, own_f_len, own_e_len, own_z_len, own_f_ent, own_e_ent, own_z_ent, own_f_aband, own_e_aband, own_z_aband, own_f_log, own_e_log, own_z_log, own_f_hist, own_e_hist, own_z_hist, own_f_n, own_e_n, own_z_n, own_f_clk, own_e_clk, own_z_clk, own_S, own_p0, own_p1, own_q0, own_q1, own_r2, own_wrc, own_rdc, rd_wr_same, len_wr, inb_iff.mpr, hb, h0, g0, h1, h8, g8, ne, l0, l1, -List.reduceReplicate]
  · have z1 := inv2 v1 c1 (own_S n) sn
    have ha1 : ∀ x, j_acquire (own_S n) v1 x v4 = some (-2, own_S n) := by intro x; rw [j_acquire, if_pos z1]
    have k1 := i2 v1 c1
    by_cases c2 : (¬ v2 < 0 ∧ v2 < n)
    · obtain ⟨ub, u8⟩ := vt v2 c2
      have ne : ¬ v2 = v1 := by intro e; subst e; exact c1 c2
      obtain ⟨u0, u1⟩ := c2
      have f0 := Int32.not_lt.mp u0
      have f8 := Int32.not_le.mpr u8
      by_cases l0 : v3 = 0
      · subst l0
        obtain ⟨H, hH, ha⟩ := own_a0 n v2 v4 ub u0 u1 u8
        obtain ⟨s, hs⟩ := own_rel0 n v2 v4 H hH ub u0 u1 u8 hn.2
        simp only [law_b31, law_b47, law_b69, law_b86, law_b113, law_b130, law_b227, law_b237, law_b253, law_b280, law_b308, law_b344, law_b371, law_b414, law_b454, law_b481, law_b503, law_b541, ha1, ha, Option.bind_some, hs, k1]
        simp [j_queueLength, j_entries, j_state, j_ahead, j_aheadMcs, j_aheadMcs_l9, j_aheadClh, j_aheadClh_l12, j_lockOf, j_clock, j_holder, j_inNodes, j_validThread, j_validLock, j_validLock_b9, own_f_st, own_e_st, own_z_st, own_f_lk, own_e_lk, own_z_lk, own_f_tmo, own_e_tmo, own_z_tmo, own_f_spin, own_e_spin, own_z_spin, own_f_nxt0, own_e_nxt0, own_z_nxt0, own_f_prv1, own_e_prv1, own_z_prv1, own_f_head, own_e_head, own_z_head, own_f_tail, own_e_tail, own_z_tail, own_f_len, own_e_len, own_z_len, own_f_ent, own_e_ent, own_z_ent, own_f_aband, own_e_aband, own_z_aband, own_f_log, own_e_log, own_z_log, own_f_hist, own_e_hist, own_z_hist, own_f_n, own_e_n, own_z_n, own_f_clk, own_e_clk, own_z_clk, own_T0, own_p0, own_p1, own_q0, own_q1, own_r2, own_wrc, own_rdc, rd_wr_same, len_wr, inb_iff.mpr, ub, u0, f0, u1, u8, f8, ne, -List.reduceReplicate]
      · by_cases l1 : v3 = 1
        · subst l1
          obtain ⟨H, hH, ha⟩ := own_a1 n v2 v4 ub u0 u1 u8
          obtain ⟨s, hs⟩ := own_rel1 n v2 v4 H hH ub u0 u1 u8 hn.2
          simp only [law_b31, law_b47, law_b69, law_b86, law_b113, law_b130, law_b227, law_b237, law_b253, law_b280, law_b308, law_b344, law_b371, law_b414, law_b454, law_b481, law_b503, law_b541, ha1, ha, Option.bind_some, hs, k1]
          simp [j_queueLength, j_entries, j_state, j_ahead, j_aheadMcs, j_aheadMcs_l9, j_aheadClh, j_aheadClh_l12, j_lockOf, j_clock, j_holder, j_inNodes, j_validThread, j_validLock, j_validLock_b9, own_f_st, own_e_st, own_z_st, own_f_lk, own_e_lk, own_z_lk, own_f_tmo, own_e_tmo, own_z_tmo, own_f_spin, own_e_spin, own_z_spin, own_f_nxt0, own_e_nxt0, own_z_nxt0, own_f_prv1, own_e_prv1, own_z_prv1, own_f_head, own_e_head, own_z_head, own_f_tail, own_e_tail, own_z_tail, own_f_len, own_e_len, own_z_len, own_f_ent, own_e_ent, own_z_ent, own_f_aband, own_e_aband, own_z_aband, own_f_log, own_e_log, own_z_log, own_f_hist, own_e_hist, own_z_hist, own_f_n, own_e_n, own_z_n, own_f_clk, own_e_clk, own_z_clk, own_T1, own_p0, own_p1, own_q0, own_q1, own_r2, own_wrc, own_rdc, rd_wr_same, len_wr, inb_iff.mpr, ub, u0, f0, u1, u8, f8, ne, -List.reduceReplicate]
        · have ha : j_acquire (own_S n) v2 v3 v4 = some (-2, own_S n) := by simp [j_acquire, j_validThread, j_validLock, sn, u0, f0, u1, l0, l1]
          simp only [law_b31, law_b47, law_b69, law_b86, law_b113, law_b130, law_b227, law_b237, law_b253, law_b280, law_b308, law_b344, law_b371, law_b414, law_b454, law_b481, law_b503, law_b541, ha1, ha, Option.bind_some, k1]
          simp [j_queueLength, j_entries, j_state, j_ahead, j_aheadMcs, j_aheadMcs_l9, j_aheadClh, j_aheadClh_l12, j_lockOf, j_clock, j_holder, j_inNodes, j_validThread, j_validLock, j_validLock_b9, own_f_st, own_e_st, own_z_st, own_f_lk, own_e_lk, own_z_lk, own_f_tmo, own_e_tmo, own_z_tmo, own_f_spin, own_e_spin, own_z_spin, own_f_nxt0, own_e_nxt0, own_z_nxt0, own_f_prv1, own_e_prv1, own_z_prv1, own_f_head, own_e_head, own_z_head, own_f_tail, own_e_tail, own_z_tail, own_f_len, own_e_len, own_z_len, own_f_ent, own_e_ent, own_z_ent, own_f_aband, own_e_aband, own_z_aband, own_f_log, own_e_log, own_z_log, own_f_hist, own_e_hist, own_z_hist, own_f_n, own_e_n, own_z_n, own_f_clk, own_e_clk, own_z_clk, j_release, own_S, own_p0, own_p1, own_q0, own_q1, own_r2, own_wrc, own_rdc, rd_wr_same, len_wr, inb_iff.mpr, ub, u0, f0, u1, u8, f8, ne, l0, l1, -List.reduceReplicate]
    · have zn := inv2 v2 c2 (own_S n) sn
      have j1 := i1 v2 c2
      have h2 : ∀ x, j_acquire (own_S n) v2 x v4 = some (-2, own_S n) := by intro x; rw [j_acquire, if_pos zn]
      have hs : j_release (own_S n) v2 = some (-2, own_S n) := by rw [j_release, if_pos zn]
      have o1 : j_state (own_S n) v2 = some (-2) := by rw [j_state, if_pos zn]
      have o2 : j_ahead (own_S n) v2 = some (-2) := by rw [j_ahead, if_pos zn]
      have o3 : j_lockOf (own_S n) v2 = some (-2) := by rw [j_lockOf, if_pos zn]
      simp only [law_b31, law_b47, law_b69, law_b86, law_b113, law_b130, law_b227, law_b237, law_b253, law_b280, law_b308, law_b344, law_b371, law_b414, law_b454, law_b481, law_b503, law_b541, ha1, Option.bind_some, h2, hs, o1, o2, o3, j1, k1]
      by_cases l0 : v3 = 0
      · subst l0
        simp [j_queueLength, j_entries, j_clock, j_holder, j_inNodes, j_validLock, j_validLock_b9, own_f_st, own_e_st, own_z_st, own_f_lk, own_e_lk, own_z_lk, own_f_tmo, own_e_tmo, own_z_tmo, own_f_spin, own_e_spin, own_z_spin, own_f_nxt0, own_e_nxt0, own_z_nxt0, own_f_prv1, own_e_prv1, own_z_prv1, own_f_head, own_e_head, own_z_head, own_f_tail, own_e_tail, own_z_tail, own_f_len, own_e_len, own_z_len, own_f_ent, own_e_ent, own_z_ent, own_f_aband, own_e_aband, own_z_aband, own_f_log, own_e_log, own_z_log, own_f_hist, own_e_hist, own_z_hist, own_f_n, own_e_n, own_z_n, own_f_clk, own_e_clk, own_z_clk, own_S, own_p0, own_p1, own_q0, own_q1, own_r2, own_wrc, own_rdc, rd_wr_same, len_wr, inb_iff.mpr, -List.reduceReplicate]
      · by_cases l1 : v3 = 1
        · subst l1
          simp [j_queueLength, j_entries, j_clock, j_holder, j_inNodes, j_validLock, j_validLock_b9, own_f_st, own_e_st, own_z_st, own_f_lk, own_e_lk, own_z_lk, own_f_tmo, own_e_tmo, own_z_tmo, own_f_spin, own_e_spin, own_z_spin, own_f_nxt0, own_e_nxt0, own_z_nxt0, own_f_prv1, own_e_prv1, own_z_prv1, own_f_head, own_e_head, own_z_head, own_f_tail, own_e_tail, own_z_tail, own_f_len, own_e_len, own_z_len, own_f_ent, own_e_ent, own_z_ent, own_f_aband, own_e_aband, own_z_aband, own_f_log, own_e_log, own_z_log, own_f_hist, own_e_hist, own_z_hist, own_f_n, own_e_n, own_z_n, own_f_clk, own_e_clk, own_z_clk, own_S, own_p0, own_p1, own_q0, own_q1, own_r2, own_wrc, own_rdc, rd_wr_same, len_wr, inb_iff.mpr, -List.reduceReplicate]
        · simp [j_queueLength, j_entries, j_clock, j_holder, j_inNodes, j_validLock, j_validLock_b9, own_f_st, own_e_st, own_z_st, own_f_lk, own_e_lk, own_z_lk, own_f_tmo, own_e_tmo, own_z_tmo, own_f_spin, own_e_spin, own_z_spin, own_f_nxt0, own_e_nxt0, own_z_nxt0, own_f_prv1, own_e_prv1, own_z_prv1, own_f_head, own_e_head, own_z_head, own_f_tail, own_e_tail, own_z_tail, own_f_len, own_e_len, own_z_len, own_f_ent, own_e_ent, own_z_ent, own_f_aband, own_e_aband, own_z_aband, own_f_log, own_e_log, own_z_log, own_f_hist, own_e_hist, own_z_hist, own_f_n, own_e_n, own_z_n, own_f_clk, own_e_clk, own_z_clk, own_S, own_p0, own_p1, own_q0, own_q1, own_r2, own_wrc, own_rdc, rd_wr_same, len_wr, inb_iff.mpr, l0, l1, -List.reduceReplicate]

set_option maxRecDepth 65536 in
set_option maxHeartbeats 4000000 in
theorem comes_1 {Post : Tables → Env → Array Value → State → Outcome → State → Prop} (hpost : ∀ tb e args s v u, (limb_1_1.after args s (.returned v) u = true ∧ limb_1_2.after args s (.returned v) u = true ∧ True) → FrameEnd s (.returned v) u (Jvm.fieldLocs frame_1_writes args s ++ Jvm.arrayLocs frame_1_arrays args s ++ Jvm.staticLocs frame_1_statics s) 40 1536 → Post tb e args s (.returned v) u) :
    ArmFor flags0 classFile x code maxLocals ret World_1 tables_1 room_1 Calls_1 rest_1 Pre_1 Post := by
  intro l hfl _ _ p e ha hc hk s m args below hf hA hF happ hP
  obtain ⟨hcalls, hrest, hpre⟩ := hP
  obtain ⟨-, -, -, hnamed, -, -, -, hat⟩ := (Spec.applies_iff hf).mp happ
  obtain ⟨hg, hn⟩ := and_e (Cond.before_iff.mp (show (Jvm.Cond.and given_1 narrow_1).before args s = true from hpre))
  obtain ⟨hcnt, h0⟩ := and_e hg
  obtain ⟨w0, w1, w2, w3, w4, rfl⟩ : ∃ w0 w1 w2 w3 w4 : Value, args = #[w0, w1, w2, w3, w4] := by
    have hs : args.size = 5 := by simpa [Cond.value, given_1] using hcnt
    obtain ⟨L⟩ := args
    match L, hs with
    | [w0, w1, w2, w3, w4], _ => exact ⟨w0, w1, w2, w3, w4, rfl⟩
  have hw := fun d (hd : d ∈ tables_1) => atoms_spec (ws := Jvm.Cond.code x code maxLocals ret :: tables_1) hat d (List.mem_cons_of_mem _ hd)
  obtain ⟨q0, h1⟩ := and_e h0
  obtain ⟨i0, e0⟩ := is_v q0
  obtain rfl : w0 = .int i0 := Option.some.inj e0
  obtain ⟨q1, h2⟩ := and_e h1
  obtain ⟨i1, e1⟩ := is_v q1
  obtain rfl : w1 = .int i1 := Option.some.inj e1
  obtain ⟨q2, h3⟩ := and_e h2
  obtain ⟨i2, e2⟩ := is_v q2
  obtain rfl : w2 = .int i2 := Option.some.inj e2
  obtain ⟨q3, h4⟩ := and_e h3
  obtain ⟨i3, e3⟩ := is_v q3
  obtain rfl : w3 = .int i3 := Option.some.inj e3
  obtain ⟨i4, e4⟩ := is_v h4
  obtain rfl : w4 = .int i4 := Option.some.inj e4
  have hL := own_law i0 i1 i2 i3 i4
  obtain ⟨res, hres, hr1⟩ := Option.map_eq_some_iff.mp hL
  obtain ⟨n, hrun⟩ := ev_law i0 i1 i2 i3 i4 hres rfl
  have hr1' : res.1 = 1 := hr1
  rw [hr1'] at hrun
  have hcap := run_cap hrun
  have hcC : own_P.capC = 40 := rfl
  have hcS : own_P.capS = 1536 := rfl
  rw [hcC, hcS] at hcap
  have hc1 : (W0 []).length = 0 := rfl
  have hc2 : hsz own_P (W0 []) = 0 := rfl
  have hM := metOf (sound (own_good hw) n) (k := 0) (as := [.int i0, .int i1, .int i2, .int i3, .int i4]) (H := (W0 [])) hrun (l := l) (wsC := tables_1) (rm := room_1) own_pn0 rfl (fun h => nomatch h) (by decide) (by decide) (by show _ ≤ 40; omega) (by show _ ≤ 1536; omega) (am := []) (ws := [.int i0, .int i1, .int i2, .int i3, .int i4]) (h := s.heap) (n0 := s.heap.size) ⟨_, _, rfl, rfl, _, _, rfl, rfl, _, _, rfl, rfl, _, _, rfl, rfl, _, _, rfl, rfl, rfl⟩ (Nat.le_of_ble_eq_true rfl) (HR.none _ _ _ _ _) (Nat.le_refl _)
  obtain ⟨n, o, h1, h2, h3, w, L, rfl, ⟨N, -, am', -, -, hv⟩, hq⟩ := hM p e ha hc hk s m _ below hf ((Spec.applies_iff_loose hf).mp happ).1 ⟨rfl, State.Warmed39.refl s, rfl⟩ trivial
  obtain ⟨y, rfl, rfl⟩ := hv
  exact ⟨n, _, h1, h2, h3, hpost _ _ _ _ _ _ ⟨Cond.after_iff.mpr rfl, Cond.after_iff.mpr (eq_i res_at (Term.int_eval (1)) rfl), trivial⟩ ⟨hq.1, hq.2.1, (hq.2.2.sift fun y hy => Or.inr (N y hy)).mono (by omega) (by omega)⟩⟩
theorem main_1_1 : Claimed_1_1 := comes_1 fun _ _ _ _ _ _ h hF => ⟨h.1, hF⟩
theorem main_1_2 : Claimed_1_2 := comes_1 fun _ _ _ _ _ _ h hF => ⟨h.2.1, hF⟩
end Jvm.Pilot.@@N@@
namespace Jvm.Pilot.@@N@@
open Jvm Jvm.ClassFile Sem Op Lib Jvm.Free Jvm.Stand Jvm.Pilot.@@N@@.Jvm.D
/-! MADE BY PROGRAM (witnessworld.py) out of the Statement's table words and the real class files: 9 classes; the members and pool entries that the words name. The judged class is class 1, her method 1. -/
namespace start1
open Jvm.ClassFile
def u (s : String) : CpInfo := .utf8 (stringToUtf16 s)
/-- a pool by its gaps: so many unusable entries, then the entry; so many at the end -/
def gap : Nat → List CpInfo → List CpInfo
  | 0, r => r
  | n + 1, r => .unusable :: gap n r
def poolList (es : List (Nat × CpInfo)) (last : Nat) : List CpInfo := es.foldr (fun e r => gap e.1 (e.2 :: r)) (gap last [])
def pool (es : List (Nat × CpInfo)) (last : Nat) : Array CpInfo := ⟨poolList es last⟩
def fileOf (pool : Array CpInfo) (this : Nat) (attrs : Array Attribute := #[]) (ms : Array MethodInfo := #[]) (fl : Nat := 33) (sup : Nat := 0) (ifs : Array Nat := #[]) (fds : Array FieldInfo := #[]) : ClassFile where
  minorVersion := 0
  majorVersion := 65
  constantPool := pool
  accessFlags := fl
  thisClass := this
  superClass := sup
  interfaces := ifs
  fields := fds
  methods := ms
  attributes := attrs
def plain (name : String) (sup : Option ClassId) : Class where
  name := name
  kind := .ordinary
  loader := none
  accessFlags := 33
  super := sup
  interfaces := #[]
  cf := none
  fields := #[]
  methods := #[]
  instanceTypes := #[]
  staticTypes := #[]
  resolved := #[]
  callSites := []
  init := .initialized
  statics := none
  mirror := none

def pool0 : Array CpInfo := pool [(5, u "<init>"), (0, u "()V"), (1, .class_ 10), (1, u "java/lang/Object")] 113

def k0c0 : Code := { maxStack := 0, maxLocals := 1, code := object_method_1_code, exceptionTable := #[], attributes := #[] }
def k0m0 : Method := { name := "<init>", desc := "()V", sig := { parameters := [], returnType := none }, accessFlags := 1, code := some k0c0 }
/-- java/lang/Object -/
def k0 : Class := { plain "java/lang/Object" none with
  accessFlags := 33
  interfaces := #[]
  cf := some (fileOf pool0 8 #[] #[{ accessFlags := 1, nameIndex := 5, descriptorIndex := 6, attributes := #[] }] 33 0 #[] #[])
  fields := #[]
  methods := #[k0m0]
  instanceTypes := #[]
  staticTypes := #[]
  resolved := Array.replicate 124 none
  statics := none }

def pool1 : Array CpInfo := pool [(2, .class_ 4), (1, u "java/lang/Object"), (0, u "<init>"), (0, u "()V"), (0, .class_ 8), (0, u "QueueLocks"), (0, .methodref 7 10), (0, .nameAndType 5 11), (0, u "(I)V"), (0, .methodref 7 13), (0, .nameAndType 14 15), (0, u "acquire"), (0, u "(III)I"), (0, .methodref 7 17), (0, .nameAndType 18 19), (0, u "clock"), (0, u "()I"), (0, .methodref 7 21), (0, .nameAndType 22 23), (0, u "queueLength"), (0, u "(I)I"), (0, .methodref 7 25), (0, .nameAndType 26 23), (0, u "holder"), (0, .methodref 7 28), (0, .nameAndType 29 23), (0, u "entries"), (0, .methodref 7 31), (0, .nameAndType 32 23), (0, u "state"), (0, .methodref 7 34), (0, .nameAndType 35 23), (0, u "ahead"), (0, .methodref 7 37), (0, .nameAndType 38 23), (0, u "lockOf"), (0, .methodref 7 40), (0, .nameAndType 41 23), (0, u "release"), (0, .class_ 43), (0, u "QueueLocksL2"), (2, u "law"), (0, u "(IIIII)Z")] 3

def k1m0 : Method := { name := "<init>", desc := "()V", sig := { parameters := [], returnType := none }, accessFlags := 1, code := none }
def k1c1 : Code := { maxStack := 4, maxLocals := 27, code := code, exceptionTable := #[], attributes := #[] }
def k1m1 : Method := { name := "law", desc := "(IIIII)Z", sig := { parameters := [.int, .int, .int, .int, .int], returnType := some .boolean }, accessFlags := 9, code := some k1c1 }
/-- QueueLocksL2 -/
def k1 : Class := { plain "QueueLocksL2" (some 0) with
  accessFlags := 33
  interfaces := #[]
  cf := some (fileOf pool1 42 #[] #[{ accessFlags := 1, nameIndex := 5, descriptorIndex := 6, attributes := #[] }, { accessFlags := 9, nameIndex := 46, descriptorIndex := 47, attributes := #[] }] 33 2 #[] #[])
  fields := #[]
  methods := #[k1m0, k1m1]
  instanceTypes := #[]
  staticTypes := #[]
  resolved := Array.replicate 51 none
  statics := none }

def pool2 : Array CpInfo := pool [(1, .methodref 2 3), (0, .class_ 4), (0, .nameAndType 5 6), (0, u "java/lang/Object"), (0, u "<init>"), (0, u "()V"), (0, .fieldref 8 9), (0, .class_ 10), (0, .nameAndType 11 12), (0, u "QueueLocks"), (0, u "st"), (0, u "[I"), (0, .fieldref 8 14), (0, .nameAndType 15 12), (0, u "lk"), (0, .fieldref 8 17), (0, .nameAndType 18 12), (0, u "tmo"), (0, .fieldref 8 20), (0, .nameAndType 21 12), (0, u "spin"), (0, .fieldref 8 23), (0, .nameAndType 24 12), (0, u "nxt0"), (0, .fieldref 8 26), (0, .nameAndType 27 12), (0, u "prv1"), (0, .fieldref 8 29), (0, .nameAndType 30 12), (0, u "head"), (0, .fieldref 8 32), (0, .nameAndType 33 12), (0, u "tail"), (0, .fieldref 8 35), (0, .nameAndType 36 12), (0, u "len"), (0, .fieldref 8 38), (0, .nameAndType 39 12), (0, u "ent"), (0, .fieldref 8 41), (0, .nameAndType 42 12), (0, u "aband"), (0, .fieldref 8 44), (0, .nameAndType 45 12), (0, u "log"), (0, .fieldref 8 47), (0, .nameAndType 48 12), (0, u "hist"), (0, .fieldref 8 50), (0, .nameAndType 51 52), (0, u "n"), (0, u "I"), (0, .fieldref 8 54), (0, .nameAndType 55 52), (0, u "clk"), (0, .methodref 8 57), (0, .nameAndType 58 59), (0, u "holder"), (0, u "(I)I"), (0, .methodref 8 61), (0, .nameAndType 62 63), (0, u "inNodes"), (0, u "(I)Z"), (0, .methodref 8 65), (0, .nameAndType 66 59), (0, u "successorClh"), (3, .methodref 8 71), (0, .nameAndType 72 63), (0, u "validThread"), (0, .methodref 8 74), (0, .nameAndType 75 63), (0, u "validLock"), (0, .methodref 8 77), (0, .nameAndType 78 59), (0, u "clampTimeout"), (0, .methodref 8 80), (0, .nameAndType 81 82), (0, u "append"), (0, u "(II)V"), (0, .methodref 8 84), (0, .nameAndType 85 82), (0, u "enter"), (0, .methodref 8 87), (0, .nameAndType 88 6), (0, u "recordHistory"), (7, .methodref 8 97), (0, .nameAndType 98 59), (0, u "popFront"), (0, .methodref 8 100), (0, .nameAndType 101 59), (0, u "aheadMcs"), (0, .methodref 8 103), (0, .nameAndType 104 59), (0, u "aheadClh"), (0, u "MCS"), (2, u "CLH"), (1, u "IDLE"), (0, u "WAITING"), (0, u "GRANTED"), (1, u "HOLDING"), (1, u "ABANDONED"), (1, u "NONE"), (1, u "REFUSED"), (1, u "MIN_THREADS"), (0, u "MAX_THREADS"), (1, u "MAX_TIMEOUT"), (1, u "LOG_SIZE"), (1, u "HISTORY_SIZE"), (1, u "(I)V"), (3, u "acquire"), (0, u "(III)I"), (1, u "release"), (1, u "state"), (0, u "lockOf"), (0, u "ahead"), (0, u "queueLength"), (1, u "entries"), (2, u "clock"), (0, u "()I")] 2

def k2c0 : Code := { maxStack := 3, maxLocals := 4, code := prog_1_method_1_code, exceptionTable := #[], attributes := #[] }
def k2m0 : Method := { name := "<init>", desc := "(I)V", sig := { parameters := [.int], returnType := none }, accessFlags := 1, code := some k2c0 }
def k2c1 : Code := { maxStack := 2, maxLocals := 2, code := prog_1_method_2_code, exceptionTable := #[], attributes := #[] }
def k2m1 : Method := { name := "validThread", desc := "(I)Z", sig := { parameters := [.int], returnType := some .boolean }, accessFlags := 2, code := some k2c1 }
def k2c2 : Code := { maxStack := 2, maxLocals := 2, code := prog_1_method_3_code, exceptionTable := #[], attributes := #[] }
def k2m2 : Method := { name := "validLock", desc := "(I)Z", sig := { parameters := [.int], returnType := some .boolean }, accessFlags := 2, code := some k2c2 }
def k2c3 : Code := { maxStack := 2, maxLocals := 2, code := prog_1_method_4_code, exceptionTable := #[], attributes := #[] }
def k2m3 : Method := { name := "inNodes", desc := "(I)Z", sig := { parameters := [.int], returnType := some .boolean }, accessFlags := 2, code := some k2c3 }
def k2c4 : Code := { maxStack := 2, maxLocals := 2, code := prog_1_method_5_code, exceptionTable := #[], attributes := #[] }
def k2m4 : Method := { name := "clampTimeout", desc := "(I)I", sig := { parameters := [.int], returnType := some .int }, accessFlags := 2, code := some k2c4 }
def k2c5 : Code := { maxStack := 4, maxLocals := 4, code := prog_1_method_6_code, exceptionTable := #[], attributes := #[] }
def k2m5 : Method := { name := "enter", desc := "(II)V", sig := { parameters := [.int, .int], returnType := none }, accessFlags := 2, code := some k2c5 }
def k2c6 : Code := { maxStack := 3, maxLocals := 3, code := prog_1_method_7_code, exceptionTable := #[], attributes := #[] }
def k2m6 : Method := { name := "recordHistory", desc := "()V", sig := { parameters := [], returnType := none }, accessFlags := 2, code := some k2c6 }
def k2c7 : Code := { maxStack := 4, maxLocals := 4, code := prog_1_method_8_code, exceptionTable := #[], attributes := #[] }
def k2m7 : Method := { name := "append", desc := "(II)V", sig := { parameters := [.int, .int], returnType := none }, accessFlags := 2, code := some k2c7 }
def k2c8 : Code := { maxStack := 2, maxLocals := 3, code := prog_1_method_9_code, exceptionTable := #[], attributes := #[] }
def k2m8 : Method := { name := "successorClh", desc := "(I)I", sig := { parameters := [.int], returnType := some .int }, accessFlags := 2, code := some k2c8 }
def k2c9 : Code := { maxStack := 4, maxLocals := 4, code := prog_1_method_11_code, exceptionTable := #[], attributes := #[] }
def k2m9 : Method := { name := "popFront", desc := "(I)I", sig := { parameters := [.int], returnType := some .int }, accessFlags := 2, code := some k2c9 }
def k2c10 : Code := { maxStack := 4, maxLocals := 5, code := prog_1_method_13_code, exceptionTable := #[], attributes := #[] }
def k2m10 : Method := { name := "acquire", desc := "(III)I", sig := { parameters := [.int, .int, .int], returnType := some .int }, accessFlags := 1, code := some k2c10 }
def k2c11 : Code := { maxStack := 3, maxLocals := 4, code := prog_1_method_16_code, exceptionTable := #[], attributes := #[] }
def k2m11 : Method := { name := "release", desc := "(I)I", sig := { parameters := [.int], returnType := some .int }, accessFlags := 1, code := some k2c11 }
def k2c12 : Code := { maxStack := 2, maxLocals := 3, code := prog_1_method_17_code, exceptionTable := #[], attributes := #[] }
def k2m12 : Method := { name := "holder", desc := "(I)I", sig := { parameters := [.int], returnType := some .int }, accessFlags := 1, code := some k2c12 }
def k2c13 : Code := { maxStack := 2, maxLocals := 2, code := prog_1_method_19_code, exceptionTable := #[], attributes := #[] }
def k2m13 : Method := { name := "state", desc := "(I)I", sig := { parameters := [.int], returnType := some .int }, accessFlags := 1, code := some k2c13 }
def k2c14 : Code := { maxStack := 2, maxLocals := 2, code := prog_1_method_20_code, exceptionTable := #[], attributes := #[] }
def k2m14 : Method := { name := "lockOf", desc := "(I)I", sig := { parameters := [.int], returnType := some .int }, accessFlags := 1, code := some k2c14 }
def k2c15 : Code := { maxStack := 2, maxLocals := 4, code := prog_1_method_21_code, exceptionTable := #[], attributes := #[] }
def k2m15 : Method := { name := "aheadMcs", desc := "(I)I", sig := { parameters := [.int], returnType := some .int }, accessFlags := 2, code := some k2c15 }
def k2c16 : Code := { maxStack := 2, maxLocals := 5, code := prog_1_method_22_code, exceptionTable := #[], attributes := #[] }
def k2m16 : Method := { name := "aheadClh", desc := "(I)I", sig := { parameters := [.int], returnType := some .int }, accessFlags := 2, code := some k2c16 }
def k2c17 : Code := { maxStack := 2, maxLocals := 2, code := prog_1_method_23_code, exceptionTable := #[], attributes := #[] }
def k2m17 : Method := { name := "ahead", desc := "(I)I", sig := { parameters := [.int], returnType := some .int }, accessFlags := 1, code := some k2c17 }
def k2c18 : Code := { maxStack := 2, maxLocals := 2, code := prog_1_method_24_code, exceptionTable := #[], attributes := #[] }
def k2m18 : Method := { name := "queueLength", desc := "(I)I", sig := { parameters := [.int], returnType := some .int }, accessFlags := 1, code := some k2c18 }
def k2c19 : Code := { maxStack := 2, maxLocals := 2, code := prog_1_method_26_code, exceptionTable := #[], attributes := #[] }
def k2m19 : Method := { name := "entries", desc := "(I)I", sig := { parameters := [.int], returnType := some .int }, accessFlags := 1, code := some k2c19 }
def k2c20 : Code := { maxStack := 1, maxLocals := 1, code := prog_1_method_29_code, exceptionTable := #[], attributes := #[] }
def k2m20 : Method := { name := "clock", desc := "()I", sig := { parameters := [], returnType := some .int }, accessFlags := 1, code := some k2c20 }
/-- QueueLocks -/
def k2 : Class := { plain "QueueLocks" (some 0) with
  accessFlags := 49
  interfaces := #[]
  cf := some (fileOf pool2 8 #[] #[{ accessFlags := 1, nameIndex := 5, descriptorIndex := 131, attributes := #[] }, { accessFlags := 2, nameIndex := 72, descriptorIndex := 63, attributes := #[] }, { accessFlags := 2, nameIndex := 75, descriptorIndex := 63, attributes := #[] }, { accessFlags := 2, nameIndex := 62, descriptorIndex := 63, attributes := #[] }, { accessFlags := 2, nameIndex := 78, descriptorIndex := 59, attributes := #[] }, { accessFlags := 2, nameIndex := 85, descriptorIndex := 82, attributes := #[] }, { accessFlags := 2, nameIndex := 88, descriptorIndex := 6, attributes := #[] }, { accessFlags := 2, nameIndex := 81, descriptorIndex := 82, attributes := #[] }, { accessFlags := 2, nameIndex := 66, descriptorIndex := 59, attributes := #[] }, { accessFlags := 2, nameIndex := 98, descriptorIndex := 59, attributes := #[] }, { accessFlags := 1, nameIndex := 135, descriptorIndex := 136, attributes := #[] }, { accessFlags := 1, nameIndex := 138, descriptorIndex := 59, attributes := #[] }, { accessFlags := 1, nameIndex := 58, descriptorIndex := 59, attributes := #[] }, { accessFlags := 1, nameIndex := 140, descriptorIndex := 59, attributes := #[] }, { accessFlags := 1, nameIndex := 141, descriptorIndex := 59, attributes := #[] }, { accessFlags := 2, nameIndex := 101, descriptorIndex := 59, attributes := #[] }, { accessFlags := 2, nameIndex := 104, descriptorIndex := 59, attributes := #[] }, { accessFlags := 1, nameIndex := 142, descriptorIndex := 59, attributes := #[] }, { accessFlags := 1, nameIndex := 143, descriptorIndex := 59, attributes := #[] }, { accessFlags := 1, nameIndex := 145, descriptorIndex := 59, attributes := #[] }, { accessFlags := 1, nameIndex := 148, descriptorIndex := 149, attributes := #[] }] 49 2 #[] #[{ accessFlags := 25, nameIndex := 105, descriptorIndex := 52, attributes := #[] }, { accessFlags := 25, nameIndex := 108, descriptorIndex := 52, attributes := #[] }, { accessFlags := 25, nameIndex := 110, descriptorIndex := 52, attributes := #[] }, { accessFlags := 25, nameIndex := 111, descriptorIndex := 52, attributes := #[] }, { accessFlags := 25, nameIndex := 112, descriptorIndex := 52, attributes := #[] }, { accessFlags := 25, nameIndex := 114, descriptorIndex := 52, attributes := #[] }, { accessFlags := 25, nameIndex := 116, descriptorIndex := 52, attributes := #[] }, { accessFlags := 25, nameIndex := 118, descriptorIndex := 52, attributes := #[] }, { accessFlags := 25, nameIndex := 120, descriptorIndex := 52, attributes := #[] }, { accessFlags := 25, nameIndex := 122, descriptorIndex := 52, attributes := #[] }, { accessFlags := 25, nameIndex := 123, descriptorIndex := 52, attributes := #[] }, { accessFlags := 25, nameIndex := 125, descriptorIndex := 52, attributes := #[] }, { accessFlags := 25, nameIndex := 127, descriptorIndex := 52, attributes := #[] }, { accessFlags := 25, nameIndex := 129, descriptorIndex := 52, attributes := #[] }, { accessFlags := 2, nameIndex := 51, descriptorIndex := 52, attributes := #[] }, { accessFlags := 2, nameIndex := 55, descriptorIndex := 52, attributes := #[] }, { accessFlags := 2, nameIndex := 11, descriptorIndex := 12, attributes := #[] }, { accessFlags := 2, nameIndex := 15, descriptorIndex := 12, attributes := #[] }, { accessFlags := 2, nameIndex := 18, descriptorIndex := 12, attributes := #[] }, { accessFlags := 2, nameIndex := 21, descriptorIndex := 12, attributes := #[] }, { accessFlags := 2, nameIndex := 24, descriptorIndex := 12, attributes := #[] }, { accessFlags := 2, nameIndex := 27, descriptorIndex := 12, attributes := #[] }, { accessFlags := 2, nameIndex := 30, descriptorIndex := 12, attributes := #[] }, { accessFlags := 2, nameIndex := 33, descriptorIndex := 12, attributes := #[] }, { accessFlags := 2, nameIndex := 36, descriptorIndex := 12, attributes := #[] }, { accessFlags := 2, nameIndex := 39, descriptorIndex := 12, attributes := #[] }, { accessFlags := 2, nameIndex := 42, descriptorIndex := 12, attributes := #[] }, { accessFlags := 2, nameIndex := 45, descriptorIndex := 12, attributes := #[] }, { accessFlags := 2, nameIndex := 48, descriptorIndex := 12, attributes := #[] }])
  fields := #[{ name := "MCS", type := .int, accessFlags := 25, slot := 0, constantValue := 0 }, { name := "CLH", type := .int, accessFlags := 25, slot := 1, constantValue := 0 }, { name := "IDLE", type := .int, accessFlags := 25, slot := 2, constantValue := 0 }, { name := "WAITING", type := .int, accessFlags := 25, slot := 3, constantValue := 0 }, { name := "GRANTED", type := .int, accessFlags := 25, slot := 4, constantValue := 0 }, { name := "HOLDING", type := .int, accessFlags := 25, slot := 5, constantValue := 0 }, { name := "ABANDONED", type := .int, accessFlags := 25, slot := 6, constantValue := 0 }, { name := "NONE", type := .int, accessFlags := 25, slot := 7, constantValue := 0 }, { name := "REFUSED", type := .int, accessFlags := 25, slot := 8, constantValue := 0 }, { name := "MIN_THREADS", type := .int, accessFlags := 25, slot := 9, constantValue := 0 }, { name := "MAX_THREADS", type := .int, accessFlags := 25, slot := 10, constantValue := 0 }, { name := "MAX_TIMEOUT", type := .int, accessFlags := 25, slot := 11, constantValue := 0 }, { name := "LOG_SIZE", type := .int, accessFlags := 25, slot := 12, constantValue := 0 }, { name := "HISTORY_SIZE", type := .int, accessFlags := 25, slot := 13, constantValue := 0 }, { name := "n", type := .int, accessFlags := 2, slot := 0, constantValue := 0 }, { name := "clk", type := .int, accessFlags := 2, slot := 1, constantValue := 0 }, { name := "st", type := (.array .int), accessFlags := 2, slot := 2, constantValue := 0 }, { name := "lk", type := (.array .int), accessFlags := 2, slot := 3, constantValue := 0 }, { name := "tmo", type := (.array .int), accessFlags := 2, slot := 4, constantValue := 0 }, { name := "spin", type := (.array .int), accessFlags := 2, slot := 5, constantValue := 0 }, { name := "nxt0", type := (.array .int), accessFlags := 2, slot := 6, constantValue := 0 }, { name := "prv1", type := (.array .int), accessFlags := 2, slot := 7, constantValue := 0 }, { name := "head", type := (.array .int), accessFlags := 2, slot := 8, constantValue := 0 }, { name := "tail", type := (.array .int), accessFlags := 2, slot := 9, constantValue := 0 }, { name := "len", type := (.array .int), accessFlags := 2, slot := 10, constantValue := 0 }, { name := "ent", type := (.array .int), accessFlags := 2, slot := 11, constantValue := 0 }, { name := "aband", type := (.array .int), accessFlags := 2, slot := 12, constantValue := 0 }, { name := "log", type := (.array .int), accessFlags := 2, slot := 13, constantValue := 0 }, { name := "hist", type := (.array .int), accessFlags := 2, slot := 14, constantValue := 0 }]
  methods := #[k2m0, k2m1, k2m2, k2m3, k2m4, k2m5, k2m6, k2m7, k2m8, k2m9, k2m10, k2m11, k2m12, k2m13, k2m14, k2m15, k2m16, k2m17, k2m18, k2m19, k2m20]
  instanceTypes := #[.int, .int, (.array .int), (.array .int), (.array .int), (.array .int), (.array .int), (.array .int), (.array .int), (.array .int), (.array .int), (.array .int), (.array .int), (.array .int), (.array .int)]
  staticTypes := #[.int, .int, .int, .int, .int, .int, .int, .int, .int, .int, .int, .int, .int, .int]
  resolved := Array.replicate 152 none
  statics := none }

def pool3 : Array CpInfo := pool [(1, u "java/lang/Cloneable"), (0, .class_ 1), (0, u "java/lang/Object"), (0, .class_ 3)] 3

/-- java/lang/Cloneable -/
def k3 : Class := { plain "java/lang/Cloneable" (some 0) with
  accessFlags := 1537
  interfaces := #[]
  cf := some (fileOf pool3 2 #[] #[] 1537 4 #[] #[])
  fields := #[]
  methods := #[]
  instanceTypes := #[]
  staticTypes := #[]
  resolved := Array.replicate 8 none
  statics := none }

def pool4 : Array CpInfo := pool [(1, u "java/io/Serializable"), (0, .class_ 1), (0, u "java/lang/Object"), (0, .class_ 3)] 3

/-- java/io/Serializable -/
def k4 : Class := { plain "java/io/Serializable" (some 0) with
  accessFlags := 1537
  interfaces := #[]
  cf := some (fileOf pool4 2 #[] #[] 1537 4 #[] #[])
  fields := #[]
  methods := #[]
  instanceTypes := #[]
  staticTypes := #[]
  resolved := Array.replicate 8 none
  statics := none }

/-- the primitive byte -/
def k5 : Class := { plain "byte" none with kind := .primitive 'B', accessFlags := 0x411 }
/-- [B -/
def k6 : Class := { plain "[B" (some 0) with kind := .array 5 .byte, interfaces := #[3, 4], accessFlags := 1041 }

/-- the primitive int -/
def k7 : Class := { plain "int" none with kind := .primitive 'I', accessFlags := 0x411 }
/-- [I -/
def k8 : Class := { plain "[I" (some 0) with kind := .array 7 .int, interfaces := #[3, 4], accessFlags := 1041 }

def heap : Heap := #[]
def classes : Array Class := #[k0, k1, k2, k3, k4, k5, k6, k7, k8]
def interned : List (Array UInt16 × Addr) := []
def slotsUsed : Nat := 0
def theMethod : MethodId := ⟨1, 1⟩
def args0 : Array Value := #[.int 1, .int 1, .int 1, .int 1, .int 1]
def aboutOver (below : List Frame) : State where
  vm := { classes := classes, interned := interned.toArray }
  heap := heap
  slotsUsed := slotsUsed
  threads := #[{ frames := .invoking theMethod args0 :: below }]
def below0 : List Frame := [.native { method := ⟨0, 0⟩, args := #[] }]
def about1 : State := aboutOver below0
def p0 : Program := .bare "" "" ""
def e0 : Env := launch0.env 0 0 0
theorem w_frames : about1.frames = Frame.invoking theMethod args0 :: below0 := rfl
set_option maxRecDepth 65536 in
theorem w_args : argsFit about1.vm theMethod args0 = true := by decide +kernel
set_option maxRecDepth 65536 in
theorem w_heap : heapFits about1 = true := by decide +kernel
set_option maxRecDepth 65536 in
theorem w_runnable : about1.curStatus? = some .runnable := by decide +kernel
set_option maxRecDepth 65536 in
theorem w_alone : about1.alone = true := by decide +kernel
set_option maxRecDepth 65536 in
theorem w_named : about1.methodNamed? x = some theMethod := by decide +kernel
set_option maxRecDepth 65536 in
theorem w_hears : about1.hears theMethod below0 = true := by decide +kernel
set_option maxRecDepth 65536 in
theorem w_ripe : about1.ripe theMethod args0 below0 = true := by decide +kernel
theorem w_running : about1.status = .running := rfl
set_option maxRecDepth 65536 in
theorem w_room : about1.hasRoom e0.platform room_1 = true :=
  launch0.hasRoom_least _ room_1 (by decide +kernel) (by decide +kernel) (by decide +kernel) (by decide +kernel) (by decide +kernel) (by decide +kernel)
theorem allAtoms_all (ts : List Jvm.Cond) (a : Array Jvm.Value) (st : Jvm.State) : (allAtoms ts).before a st = ts.all (fun c => c.before a st) := by
  induction ts with
  | nil => rfl
  | cons c t ih =>
    show (Jvm.Cond.and c (allAtoms t)).before a st = _
    rw [Jvm.Cond.before_and, ih, List.all_cons]
def words1 : List Jvm.Cond := Jvm.Cond.code x code maxLocals ret :: tables_1
/-- a 'code' word, met by the world's own term for the bytes: nothing is compared byte by byte -/
theorem code_word {y : MethodName} {bytes : ByteArray} {mx : Nat} {rt : Option FieldType} {a : Array Value} {s : State} {m : MethodId} {meth : Method} {c : Code} (h1 : s.methodNamed? y = some m) (h2 : s.vm.method? m = some meth) (h3 : meth.code = some c) (h4 : c.code = bytes)
    (h5 : (c.maxLocals == mx && c.exceptionTable.isEmpty && decide (c.maxStack ≤ mostOperands) && decide (meth.sig.returnType = rt) && !meth.locks && decide (parseMethodDescriptor y.desc = some meth.sig)) = true) : (Jvm.Cond.code y bytes mx rt).before a s = true := by
  simp only [Bool.and_eq_true, beq_iff_eq, Bool.not_eq_true', decide_eq_true_eq] at h5
  obtain ⟨⟨⟨⟨⟨g1, g2⟩, g3⟩, g4⟩, g5⟩, g6⟩ := h5
  simp [Cond.before, Cond.holds, Cond.value, h1, h2, h3, h4, g1, g2, g3, g4, g5, g6]
def isCode : Jvm.Cond → Bool
  | .code _ _ _ _ => true
  | _ => false
theorem all_split {L : List Jvm.Cond} {P : Jvm.Cond → Bool} (h1 : L.all (fun c => isCode c || P c) = true) (h2 : ∀ c ∈ L.filter isCode, P c = true) : L.all P = true := by
  refine List.all_eq_true.mpr fun c hc => ?_
  have h := List.all_eq_true.mp h1 c hc
  rcases Bool.eq_false_or_eq_true (isCode c) with hi | hi
  · exact h2 c (List.mem_filter.mpr ⟨hc, hi⟩)
  · simpa [hi] using h
set_option maxRecDepth 65536 in
theorem w_c0 : (Jvm.Cond.code x code maxLocals ret).before args0 about1 = true := code_word (m := ⟨1, 1⟩) (meth := k1m1) (c := k1c1) (by decide +kernel) rfl rfl rfl (by decide +kernel)
set_option maxRecDepth 65536 in
theorem w_c1 : (Jvm.Cond.code ({ cls := "QueueLocks", name := "<init>", desc := "(I)V" } : Jvm.MethodName) prog_1_method_1_code (4 : Nat) (Option.none : Option Jvm.ClassFile.FieldType)).before args0 about1 = true := code_word (m := ⟨2, 0⟩) (meth := k2m0) (c := k2c0) (by decide +kernel) rfl rfl rfl (by decide +kernel)
set_option maxRecDepth 65536 in
theorem w_c2 : (Jvm.Cond.code ({ cls := "java/lang/Object", name := "<init>", desc := "()V" } : Jvm.MethodName) object_method_1_code (1 : Nat) (Option.none : Option Jvm.ClassFile.FieldType)).before args0 about1 = true := code_word (m := ⟨0, 0⟩) (meth := k0m0) (c := k0c0) (by decide +kernel) rfl rfl rfl (by decide +kernel)
set_option maxRecDepth 65536 in
theorem w_c3 : (Jvm.Cond.code ({ cls := "QueueLocks", name := "acquire", desc := "(III)I" } : Jvm.MethodName) prog_1_method_13_code (5 : Nat) (Option.some Jvm.ClassFile.FieldType.int)).before args0 about1 = true := code_word (m := ⟨2, 10⟩) (meth := k2m10) (c := k2c10) (by decide +kernel) rfl rfl rfl (by decide +kernel)
set_option maxRecDepth 65536 in
theorem w_c4 : (Jvm.Cond.code ({ cls := "QueueLocks", name := "validThread", desc := "(I)Z" } : Jvm.MethodName) prog_1_method_2_code (2 : Nat) (Option.some Jvm.ClassFile.FieldType.boolean)).before args0 about1 = true := code_word (m := ⟨2, 1⟩) (meth := k2m1) (c := k2c1) (by decide +kernel) rfl rfl rfl (by decide +kernel)
set_option maxRecDepth 65536 in
theorem w_c5 : (Jvm.Cond.code ({ cls := "QueueLocks", name := "clock", desc := "()I" } : Jvm.MethodName) prog_1_method_29_code (1 : Nat) (Option.some Jvm.ClassFile.FieldType.int)).before args0 about1 = true := code_word (m := ⟨2, 20⟩) (meth := k2m20) (c := k2c20) (by decide +kernel) rfl rfl rfl (by decide +kernel)
set_option maxRecDepth 65536 in
theorem w_c6 : (Jvm.Cond.code ({ cls := "QueueLocks", name := "queueLength", desc := "(I)I" } : Jvm.MethodName) prog_1_method_24_code (2 : Nat) (Option.some Jvm.ClassFile.FieldType.int)).before args0 about1 = true := code_word (m := ⟨2, 18⟩) (meth := k2m18) (c := k2c18) (by decide +kernel) rfl rfl rfl (by decide +kernel)
set_option maxRecDepth 65536 in
theorem w_c7 : (Jvm.Cond.code ({ cls := "QueueLocks", name := "validLock", desc := "(I)Z" } : Jvm.MethodName) prog_1_method_3_code (2 : Nat) (Option.some Jvm.ClassFile.FieldType.boolean)).before args0 about1 = true := code_word (m := ⟨2, 2⟩) (meth := k2m2) (c := k2c2) (by decide +kernel) rfl rfl rfl (by decide +kernel)
set_option maxRecDepth 65536 in
theorem w_c8 : (Jvm.Cond.code ({ cls := "QueueLocks", name := "holder", desc := "(I)I" } : Jvm.MethodName) prog_1_method_17_code (3 : Nat) (Option.some Jvm.ClassFile.FieldType.int)).before args0 about1 = true := code_word (m := ⟨2, 12⟩) (meth := k2m12) (c := k2c12) (by decide +kernel) rfl rfl rfl (by decide +kernel)
set_option maxRecDepth 65536 in
theorem w_c9 : (Jvm.Cond.code ({ cls := "QueueLocks", name := "inNodes", desc := "(I)Z" } : Jvm.MethodName) prog_1_method_4_code (2 : Nat) (Option.some Jvm.ClassFile.FieldType.boolean)).before args0 about1 = true := code_word (m := ⟨2, 3⟩) (meth := k2m3) (c := k2c3) (by decide +kernel) rfl rfl rfl (by decide +kernel)
set_option maxRecDepth 65536 in
theorem w_c10 : (Jvm.Cond.code ({ cls := "QueueLocks", name := "entries", desc := "(I)I" } : Jvm.MethodName) prog_1_method_26_code (2 : Nat) (Option.some Jvm.ClassFile.FieldType.int)).before args0 about1 = true := code_word (m := ⟨2, 19⟩) (meth := k2m19) (c := k2c19) (by decide +kernel) rfl rfl rfl (by decide +kernel)
set_option maxRecDepth 65536 in
theorem w_c11 : (Jvm.Cond.code ({ cls := "QueueLocks", name := "state", desc := "(I)I" } : Jvm.MethodName) prog_1_method_19_code (2 : Nat) (Option.some Jvm.ClassFile.FieldType.int)).before args0 about1 = true := code_word (m := ⟨2, 13⟩) (meth := k2m13) (c := k2c13) (by decide +kernel) rfl rfl rfl (by decide +kernel)
set_option maxRecDepth 65536 in
theorem w_c12 : (Jvm.Cond.code ({ cls := "QueueLocks", name := "ahead", desc := "(I)I" } : Jvm.MethodName) prog_1_method_23_code (2 : Nat) (Option.some Jvm.ClassFile.FieldType.int)).before args0 about1 = true := code_word (m := ⟨2, 17⟩) (meth := k2m17) (c := k2c17) (by decide +kernel) rfl rfl rfl (by decide +kernel)
set_option maxRecDepth 65536 in
theorem w_c13 : (Jvm.Cond.code ({ cls := "QueueLocks", name := "lockOf", desc := "(I)I" } : Jvm.MethodName) prog_1_method_20_code (2 : Nat) (Option.some Jvm.ClassFile.FieldType.int)).before args0 about1 = true := code_word (m := ⟨2, 14⟩) (meth := k2m14) (c := k2c14) (by decide +kernel) rfl rfl rfl (by decide +kernel)
set_option maxRecDepth 65536 in
theorem w_c14 : (Jvm.Cond.code ({ cls := "QueueLocks", name := "release", desc := "(I)I" } : Jvm.MethodName) prog_1_method_16_code (4 : Nat) (Option.some Jvm.ClassFile.FieldType.int)).before args0 about1 = true := code_word (m := ⟨2, 11⟩) (meth := k2m11) (c := k2c11) (by decide +kernel) rfl rfl rfl (by decide +kernel)
set_option maxRecDepth 65536 in
theorem w_c15 : (Jvm.Cond.code ({ cls := "QueueLocks", name := "clampTimeout", desc := "(I)I" } : Jvm.MethodName) prog_1_method_5_code (2 : Nat) (Option.some Jvm.ClassFile.FieldType.int)).before args0 about1 = true := code_word (m := ⟨2, 4⟩) (meth := k2m4) (c := k2c4) (by decide +kernel) rfl rfl rfl (by decide +kernel)
set_option maxRecDepth 65536 in
theorem w_c16 : (Jvm.Cond.code ({ cls := "QueueLocks", name := "append", desc := "(II)V" } : Jvm.MethodName) prog_1_method_8_code (4 : Nat) (Option.none : Option Jvm.ClassFile.FieldType)).before args0 about1 = true := code_word (m := ⟨2, 7⟩) (meth := k2m7) (c := k2c7) (by decide +kernel) rfl rfl rfl (by decide +kernel)
set_option maxRecDepth 65536 in
theorem w_c17 : (Jvm.Cond.code ({ cls := "QueueLocks", name := "enter", desc := "(II)V" } : Jvm.MethodName) prog_1_method_6_code (4 : Nat) (Option.none : Option Jvm.ClassFile.FieldType)).before args0 about1 = true := code_word (m := ⟨2, 5⟩) (meth := k2m5) (c := k2c5) (by decide +kernel) rfl rfl rfl (by decide +kernel)
set_option maxRecDepth 65536 in
theorem w_c18 : (Jvm.Cond.code ({ cls := "QueueLocks", name := "recordHistory", desc := "()V" } : Jvm.MethodName) prog_1_method_7_code (3 : Nat) (Option.none : Option Jvm.ClassFile.FieldType)).before args0 about1 = true := code_word (m := ⟨2, 6⟩) (meth := k2m6) (c := k2c6) (by decide +kernel) rfl rfl rfl (by decide +kernel)
set_option maxRecDepth 65536 in
theorem w_c19 : (Jvm.Cond.code ({ cls := "QueueLocks", name := "aheadClh", desc := "(I)I" } : Jvm.MethodName) prog_1_method_22_code (5 : Nat) (Option.some Jvm.ClassFile.FieldType.int)).before args0 about1 = true := code_word (m := ⟨2, 16⟩) (meth := k2m16) (c := k2c16) (by decide +kernel) rfl rfl rfl (by decide +kernel)
set_option maxRecDepth 65536 in
theorem w_c20 : (Jvm.Cond.code ({ cls := "QueueLocks", name := "popFront", desc := "(I)I" } : Jvm.MethodName) prog_1_method_11_code (4 : Nat) (Option.some Jvm.ClassFile.FieldType.int)).before args0 about1 = true := code_word (m := ⟨2, 9⟩) (meth := k2m9) (c := k2c9) (by decide +kernel) rfl rfl rfl (by decide +kernel)
set_option maxRecDepth 65536 in
theorem w_c21 : (Jvm.Cond.code ({ cls := "QueueLocks", name := "successorClh", desc := "(I)I" } : Jvm.MethodName) prog_1_method_9_code (3 : Nat) (Option.some Jvm.ClassFile.FieldType.int)).before args0 about1 = true := code_word (m := ⟨2, 8⟩) (meth := k2m8) (c := k2c8) (by decide +kernel) rfl rfl rfl (by decide +kernel)
set_option maxRecDepth 65536 in
theorem w_c22 : (Jvm.Cond.code ({ cls := "QueueLocks", name := "aheadMcs", desc := "(I)I" } : Jvm.MethodName) prog_1_method_21_code (4 : Nat) (Option.some Jvm.ClassFile.FieldType.int)).before args0 about1 = true := code_word (m := ⟨2, 15⟩) (meth := k2m15) (c := k2c15) (by decide +kernel) rfl rfl rfl (by decide +kernel)
def codes1 : List Jvm.Cond := [Jvm.Cond.code x code maxLocals ret, Jvm.Cond.code ({ cls := "QueueLocks", name := "<init>", desc := "(I)V" } : Jvm.MethodName) prog_1_method_1_code (4 : Nat) (Option.none : Option Jvm.ClassFile.FieldType), Jvm.Cond.code ({ cls := "java/lang/Object", name := "<init>", desc := "()V" } : Jvm.MethodName) object_method_1_code (1 : Nat) (Option.none : Option Jvm.ClassFile.FieldType), Jvm.Cond.code ({ cls := "QueueLocks", name := "acquire", desc := "(III)I" } : Jvm.MethodName) prog_1_method_13_code (5 : Nat) (Option.some Jvm.ClassFile.FieldType.int), Jvm.Cond.code ({ cls := "QueueLocks", name := "validThread", desc := "(I)Z" } : Jvm.MethodName) prog_1_method_2_code (2 : Nat) (Option.some Jvm.ClassFile.FieldType.boolean), Jvm.Cond.code ({ cls := "QueueLocks", name := "clock", desc := "()I" } : Jvm.MethodName) prog_1_method_29_code (1 : Nat) (Option.some Jvm.ClassFile.FieldType.int), Jvm.Cond.code ({ cls := "QueueLocks", name := "queueLength", desc := "(I)I" } : Jvm.MethodName) prog_1_method_24_code (2 : Nat) (Option.some Jvm.ClassFile.FieldType.int), Jvm.Cond.code ({ cls := "QueueLocks", name := "validLock", desc := "(I)Z" } : Jvm.MethodName) prog_1_method_3_code (2 : Nat) (Option.some Jvm.ClassFile.FieldType.boolean), Jvm.Cond.code ({ cls := "QueueLocks", name := "holder", desc := "(I)I" } : Jvm.MethodName) prog_1_method_17_code (3 : Nat) (Option.some Jvm.ClassFile.FieldType.int), Jvm.Cond.code ({ cls := "QueueLocks", name := "inNodes", desc := "(I)Z" } : Jvm.MethodName) prog_1_method_4_code (2 : Nat) (Option.some Jvm.ClassFile.FieldType.boolean), Jvm.Cond.code ({ cls := "QueueLocks", name := "entries", desc := "(I)I" } : Jvm.MethodName) prog_1_method_26_code (2 : Nat) (Option.some Jvm.ClassFile.FieldType.int), Jvm.Cond.code ({ cls := "QueueLocks", name := "state", desc := "(I)I" } : Jvm.MethodName) prog_1_method_19_code (2 : Nat) (Option.some Jvm.ClassFile.FieldType.int), Jvm.Cond.code ({ cls := "QueueLocks", name := "ahead", desc := "(I)I" } : Jvm.MethodName) prog_1_method_23_code (2 : Nat) (Option.some Jvm.ClassFile.FieldType.int), Jvm.Cond.code ({ cls := "QueueLocks", name := "lockOf", desc := "(I)I" } : Jvm.MethodName) prog_1_method_20_code (2 : Nat) (Option.some Jvm.ClassFile.FieldType.int), Jvm.Cond.code ({ cls := "QueueLocks", name := "release", desc := "(I)I" } : Jvm.MethodName) prog_1_method_16_code (4 : Nat) (Option.some Jvm.ClassFile.FieldType.int), Jvm.Cond.code ({ cls := "QueueLocks", name := "clampTimeout", desc := "(I)I" } : Jvm.MethodName) prog_1_method_5_code (2 : Nat) (Option.some Jvm.ClassFile.FieldType.int), Jvm.Cond.code ({ cls := "QueueLocks", name := "append", desc := "(II)V" } : Jvm.MethodName) prog_1_method_8_code (4 : Nat) (Option.none : Option Jvm.ClassFile.FieldType), Jvm.Cond.code ({ cls := "QueueLocks", name := "enter", desc := "(II)V" } : Jvm.MethodName) prog_1_method_6_code (4 : Nat) (Option.none : Option Jvm.ClassFile.FieldType), Jvm.Cond.code ({ cls := "QueueLocks", name := "recordHistory", desc := "()V" } : Jvm.MethodName) prog_1_method_7_code (3 : Nat) (Option.none : Option Jvm.ClassFile.FieldType), Jvm.Cond.code ({ cls := "QueueLocks", name := "aheadClh", desc := "(I)I" } : Jvm.MethodName) prog_1_method_22_code (5 : Nat) (Option.some Jvm.ClassFile.FieldType.int), Jvm.Cond.code ({ cls := "QueueLocks", name := "popFront", desc := "(I)I" } : Jvm.MethodName) prog_1_method_11_code (4 : Nat) (Option.some Jvm.ClassFile.FieldType.int), Jvm.Cond.code ({ cls := "QueueLocks", name := "successorClh", desc := "(I)I" } : Jvm.MethodName) prog_1_method_9_code (3 : Nat) (Option.some Jvm.ClassFile.FieldType.int), Jvm.Cond.code ({ cls := "QueueLocks", name := "aheadMcs", desc := "(I)I" } : Jvm.MethodName) prog_1_method_21_code (4 : Nat) (Option.some Jvm.ClassFile.FieldType.int)]
set_option maxRecDepth 65536 in
theorem codes_eq : words1.filter isCode = codes1 := rfl
theorem w_codes : ∀ c ∈ words1.filter isCode, c.before args0 about1 = true := by
  rw [codes_eq]
  intro c hc
  simp only [codes1, List.mem_cons, List.not_mem_nil, or_false] at hc
  rcases hc with rfl | rfl | rfl | rfl | rfl | rfl | rfl | rfl | rfl | rfl | rfl | rfl | rfl | rfl | rfl | rfl | rfl | rfl | rfl | rfl | rfl | rfl | rfl
  · exact w_c0
  · exact w_c1
  · exact w_c2
  · exact w_c3
  · exact w_c4
  · exact w_c5
  · exact w_c6
  · exact w_c7
  · exact w_c8
  · exact w_c9
  · exact w_c10
  · exact w_c11
  · exact w_c12
  · exact w_c13
  · exact w_c14
  · exact w_c15
  · exact w_c16
  · exact w_c17
  · exact w_c18
  · exact w_c19
  · exact w_c20
  · exact w_c21
  · exact w_c22
set_option maxRecDepth 65536 in
theorem w_t1 : (words1.take 24).all (fun c => isCode c || c.before args0 about1) = true := by decide +kernel
set_option maxRecDepth 65536 in
theorem w_t2 : ((words1.drop 24).take 24).all (fun c => isCode c || c.before args0 about1) = true := by decide +kernel
set_option maxRecDepth 65536 in
theorem w_t3 : (((words1.drop 24).drop 24).take 24).all (fun c => isCode c || c.before args0 about1) = true := by decide +kernel
set_option maxRecDepth 65536 in
theorem w_t4 : ((((words1.drop 24).drop 24).drop 24).take 24).all (fun c => isCode c || c.before args0 about1) = true := by decide +kernel
set_option maxRecDepth 65536 in
theorem w_t5 : (((((words1.drop 24).drop 24).drop 24).drop 24).take 24).all (fun c => isCode c || c.before args0 about1) = true := by decide +kernel
set_option maxRecDepth 65536 in
theorem w_t6 : (((((words1.drop 24).drop 24).drop 24).drop 24).drop 24).all (fun c => isCode c || c.before args0 about1) = true := by decide +kernel
theorem w_tables : (allAtoms (Jvm.Cond.code x code maxLocals ret :: tables_1)).before args0 about1 = true := by
  rw [allAtoms_all]
  show words1.all (fun c => c.before args0 about1) = true
  refine all_split ?_ w_codes
  rw [← List.take_append_drop 24 words1, List.all_append, w_t1, ← List.take_append_drop 24 (words1.drop 24), List.all_append, w_t2, ← List.take_append_drop 24 ((words1.drop 24).drop 24), List.all_append, w_t3, ← List.take_append_drop 24 (((words1.drop 24).drop 24).drop 24), List.all_append, w_t4, ← List.take_append_drop 24 ((((words1.drop 24).drop 24).drop 24).drop 24), List.all_append, w_t5, w_t6]
  rfl
set_option maxRecDepth 65536 in
theorem w_case : (Jvm.Cond.and given_1 narrow_1).before args0 about1 = true := by decide +kernel
theorem w_applies : (headSpec (Jvm.Cond.code x code maxLocals ret :: tables_1) room_1).applies x e0.platform about1 = true :=
  (Spec.applies_iff w_frames).mpr ⟨w_running, w_runnable, w_alone, w_named, w_hears, w_ripe, w_room, w_tables⟩
theorem atStart : AtStart classFile x code maxLocals ret World_1 tables_1 room_1 Calls_1 rest_1 Pre_1 launch0 p0 e0 about1 theMethod args0 below0 :=
  ⟨lists_1, trivial, launch0.admits_env _ _ _, launch0.least_env, fairChoices_fair.cas, fairChoices_fair.clock, w_frames, w_args, w_heap, w_applies, trivial, trivial, w_case⟩
end start1
theorem witness_1 : WitnessClaimed_1 := ⟨start1.p0, start1.e0, start1.about1, start1.theMethod, start1.args0, start1.below0, start1.atStart⟩
end Jvm.Pilot.@@N@@
