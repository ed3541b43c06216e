import JvmDerived
import JvmDerived.Pilot.@@N@@Statement
import JvmDerived.Pilot.@@N@@Code
set_option linter.unusedVariables false
set_option linter.unusedSimpArgs false
/-! # A small executor over an abstract heap, and that it is sound for the model (Stand's family). Same text in every claim. -/
namespace Jvm.OwnX
open Sem ClassFile Op Lib Jvm.Stand Jvm.Free Jvm.LawKit Jvm.RoadKit
/-- a cell: an object's fields; an array of ints (0: handed in; 1), booleans (2), bytes (3); an array of longs -/
abbrev ACell := Sum (List Value) (Sum (Nat × List Int32) (List Int64))
abbrev AHeap := List ACell
abbrev ALoc := List (Option Value)
/-- a method: class, maxLocals, how many it pops, what it returns, is it a constructor, frames, locals -/
abbrev MI := Nat × Nat × Nat × Option FieldType × Bool × Nat × Nat
/-- code | methods | method links (kind, callee) | field links | constants | fields (name, descriptor, kind, final) | slots of an object | read-only cells | cells at most | slots at most -/
def Prog : Type := (Nat → Nat → Option (Instr × Nat)) × (Nat → MI) × (Nat → Nat → Option (Nat × Nat)) × (Nat → Nat → Option Nat) × (Nat → Nat → Option Value) × List (String × String × Nat × Bool) × Nat × Nat × Nat × Nat
def Prog.code (P : Prog) : Nat → Nat → Option (Instr × Nat) := P.1
def Prog.mi (P : Prog) : Nat → MI := P.2.1
def Prog.link (P : Prog) : Nat → Nat → Option (Nat × Nat) := P.2.2.1
def Prog.fld (P : Prog) : Nat → Nat → Option Nat := P.2.2.2.1
def Prog.kon (P : Prog) : Nat → Nat → Option Value := P.2.2.2.2.1
def Prog.fields (P : Prog) : List (String × String × Nat × Bool) := P.2.2.2.2.2.1
def Prog.objN (P : Prog) : Nat := P.2.2.2.2.2.2.1
def Prog.ro (P : Prog) : Nat := P.2.2.2.2.2.2.2.1
def Prog.capC (P : Prog) : Nat := P.2.2.2.2.2.2.2.2.1
def Prog.capS (P : Prog) : Nat := P.2.2.2.2.2.2.2.2.2
def Prog.cls (P : Prog) (k : Nat) : Nat := (P.mi k).1
def Prog.maxL (P : Prog) (k : Nat) : Nat := (P.mi k).2.1
def Prog.pops (P : Prog) (k : Nat) : Nat := (P.mi k).2.2.1
def Prog.ret (P : Prog) (k : Nat) : Option FieldType := (P.mi k).2.2.2.1
def Prog.ini (P : Prog) (k : Nat) : Bool := (P.mi k).2.2.2.2.1
def Prog.rf (P : Prog) (k : Nat) : Nat := (P.mi k).2.2.2.2.2.1
def Prog.rl (P : Prog) (k : Nat) : Nat := (P.mi k).2.2.2.2.2.2
def dflt : Nat → Value
  | 0 => .int 0
  | 1 => .int 0
  | 2 => .long 0
  | _ => .null
def Prog.fresh (P : Prog) : List Value := P.fields.map fun f => dflt f.2.2.1
/-- is j a place of an array of n -/
def inb (n : Nat) (j : Int32) : Bool := !(decide (j < 0)) && Nat.ble (j.toNatClampNeg + 1) n
def rd (xs : List Int32) (j : Int32) : Int32 := xs.getD j.toNatClampNeg 0
def wr (xs : List Int32) (j : Int32) (v : Int32) : List Int32 := xs.set j.toNatClampNeg v
def rdL (xs : List Int64) (j : Int32) : Int64 := xs.getD j.toNatClampNeg 0
def wrL (xs : List Int64) (j : Int32) (v : Int64) : List Int64 := xs.set j.toNatClampNeg v
def kill1 (L : ALoc) (i : Nat) : ALoc :=
  match i with
  | 0 => L
  | i + 1 => match L[i]? with
    | some (some (.long _)) => L.set i none
    | _ => L
def lput (L : ALoc) (i : Nat) (v : Value) : Option ALoc := bif Nat.ble (i + 1) L.length then some ((kill1 L i).set i (some v)) else none
def lputL (L : ALoc) (i : Nat) (v : Int64) : Option ALoc := bif Nat.ble (i + 2) L.length then some (((kill1 L i).set i (some (.long v))).set (i + 1) none) else none
def entL : List Value → ALoc
  | [] => []
  | .long v :: r => some (.long v) :: none :: entL r
  | v :: r => some v :: entL r
def pad (n : Nat) (L : ALoc) : ALoc := L ++ List.replicate (n - L.length) none
def entry (P : Prog) (k : Nat) (as : List Value) : ALoc := pad (P.maxL k) (entL as)
def cat (v : Value) : Nat := match v with | .long _ => 2 | _ => 1
def cats : List Value → Nat
  | [] => 0
  | v :: r => cat v + cats r
def okV : Value → Bool
  | .int _ => true | .long _ => true | .ref _ => true | .null => true | _ => false
def csz : Nat → ACell → Nat
  | n, .inl _ => n
  | _, .inr (.inl (0, _)) => 0
  | _, .inr (.inl (_, x)) => x.length
  | _, .inr (.inr x) => x.length
def hsz (P : Prog) : AHeap → Nat
  | [] => 0
  | c :: r => csz P.objN c + hsz P r
/-- how long an instruction is (0: as decode says) -/
def ilen : Instr → Nat
  | .iload _ => 2 | .lload _ => 2 | .aload _ => 2 | .istore _ => 2 | .lstore _ => 2 | .astore _ => 2 | .bipush _ => 2 | .ldc _ => 2 | .newarray _ => 2
  | .iinc _ _ => 3 | .sipush _ => 3 | .goto _ => 3 | .ifCond _ _ => 3 | .if_icmp _ _ => 3 | .getfield _ => 3 | .putfield _ => 3 | .new _ => 3 | .invokespecial _ => 3 | .invokestatic _ => 3 | .invokevirtual _ => 3 | .ldc2_w _ => 3
  | .tableswitch _ _ _ _ => 0
  | _ => 1
def tgt (pc : Nat) (o : Int) : Option Nat := match (pc : Int) + o with | .ofNat n => some n | .negSucc _ => none
def ish (x y : Int32) : Int32 := x <<< (y &&& 31)
def isr (x y : Int32) : Int32 := x >>> (y &&& 31)
def ush (x y : Int32) : Int32 := (x.toUInt32 >>> (y &&& 31).toUInt32).toInt32
def lsh (x : Int64) (y : Int32) : Int64 := x <<< (y &&& 0x3f).toInt64
def lus (x : Int64) (y : Int32) : Int64 := (x.toUInt64 >>> (y &&& 0x3f).toInt64.toUInt64).toInt64
def lcm (x y : Int64) : Int32 := if x > y then 1 else if x = y then 0 else -1
def i8 (x : Int32) : Int32 := x.toInt8.toInt32
def aop : Instr → Option (Int32 → Int32 → Int32)
  | .iadd => some fun x y => x + y
  | .isub => some fun x y => x - y
  | .imul => some fun x y => x * y
  | .iand => some fun x y => x &&& y
  | .ior => some fun x y => x ||| y
  | .ixor => some fun x y => x ^^^ y
  | .ishl => some fun x y => x <<< (y &&& 31)
  | .ishr => some fun x y => x >>> (y &&& 31)
  | .iushr => some fun x y => (x.toUInt32 >>> (y &&& 31).toUInt32).toInt32
  | _ => none
def lop : Instr → Option (Int64 → Int64 → Int64)
  | .ladd => some fun x y => x + y
  | .lsub => some fun x y => x - y
  | .lmul => some fun x y => x * y
  | .land => some fun x y => x &&& y
  | .lor => some fun x y => x ||| y
  | .lxor => some fun x y => x ^^^ y
  | _ => none
def loadI (L : ALoc) (n : Nat) : Option Int32 := match L[n]? with | some (some (.int x)) => some x | _ => none
def loadJ (L : ALoc) (n : Nat) : Option Int64 := match L[n]? with | some (some (.long x)) => some x | _ => none
def loadA (L : ALoc) (n : Nat) : Option Nat := match L[n]? with | some (some (.ref a)) => some a | _ => none
def getC (H : AHeap) (a j : Nat) : Option Value := match H[a]? with | some (.inl fs) => fs[j]? | _ => none
def conv (t : Nat) (v : Value) : Option Value :=
  match t, v with
  | 0, .int x => some (.int x)
  | 1, .int x => some (.int (x &&& 1))
  | 2, .long x => some (.long x)
  | 3, .ref a => some (.ref a)
  | _, _ => none
/-- a step within one frame -/
abbrev St := Nat × ALoc × List Value × AHeap
def atyOf : ArrayType → Option Nat
  | .int => some 1 | .boolean => some 2 | .byte => some 3 | .long => some 4 | _ => none
def newC (t n : Nat) : ACell := match t with | 4 => .inr (.inr (List.replicate n 0)) | t => .inr (.inl (t, List.replicate n 0))
def isObjInit (P : Prog) (k j : Nat) : Bool := match P.link (P.cls k) j with | some (4, _) => true | _ => false
/-- what is stored into an array of that kind -/
def narA (t : Nat) (x : Int32) : Int32 := match t with | 2 => x &&& 1 | 3 => x.toInt8.toInt32 | _ => x
def step (P : Prog) (k : Nat) (i : Instr) (np pc : Nat) (L : ALoc) (S : List Value) (H : AHeap) : Option St :=
  match i with
  | .iload_n n => match loadI L n.val with | some x => some (np, L, .int x :: S, H) | none => none
  | .iload n => match loadI L n with | some x => some (np, L, .int x :: S, H) | none => none
  | .lload_n n => match loadJ L n.val with | some x => some (np, L, .long x :: S, H) | none => none
  | .lload n => match loadJ L n with | some x => some (np, L, .long x :: S, H) | none => none
  | .aload_n n => match loadA L n.val with | some x => some (np, L, .ref x :: S, H) | none => none
  | .aload n => match loadA L n with | some x => some (np, L, .ref x :: S, H) | none => none
  | .istore_n n => match S with | .int x :: r => (match lput L n.val (.int x) with | some L' => some (np, L', r, H) | none => none) | _ => none
  | .istore n => match S with | .int x :: r => (match lput L n (.int x) with | some L' => some (np, L', r, H) | none => none) | _ => none
  | .astore_n n => match S with | .ref x :: r => (match lput L n.val (.ref x) with | some L' => some (np, L', r, H) | none => none) | _ => none
  | .astore n => match S with | .ref x :: r => (match lput L n (.ref x) with | some L' => some (np, L', r, H) | none => none) | _ => none
  | .lstore_n n => match S with | .long x :: r => (match lputL L n.val x with | some L' => some (np, L', r, H) | none => none) | _ => none
  | .lstore n => match S with | .long x :: r => (match lputL L n x with | some L' => some (np, L', r, H) | none => none) | _ => none
  | .iinc n c => match loadI L n with | some x => (match lput L n (.int (x + Int32.ofInt c)) with | some L' => some (np, L', S, H) | none => none) | none => none
  | .iconst c => some (np, L, .int (Int32.ofInt c) :: S, H)
  | .bipush c => some (np, L, .int (Int8.ofInt c).toInt32 :: S, H)
  | .sipush c => some (np, L, .int (Int16.ofInt c).toInt32 :: S, H)
  | .lconst c => some (np, L, .long (Int64.ofNat c) :: S, H)
  | .ldc j => match P.kon (P.cls k) j with | some (.int x) => some (np, L, .int x :: S, H) | _ => none
  | .ldc2_w j => match P.kon (P.cls k) j with | some (.long x) => some (np, L, .long x :: S, H) | _ => none
  | .idiv => match S with | .int y :: .int x :: r => (bif decide (y = 0) then none else some (np, L, .int (x / y) :: r, H)) | _ => none
  | .irem => match S with | .int y :: .int x :: r => (bif decide (y = 0) then none else some (np, L, .int (x % y) :: r, H)) | _ => none
  | .lshl => match S with | .int y :: .long x :: r => some (np, L, .long (x <<< (y &&& 0x3f).toInt64) :: r, H) | _ => none
  | .lushr => match S with | .int y :: .long x :: r => some (np, L, .long ((x.toUInt64 >>> (y &&& 0x3f).toInt64.toUInt64).toInt64) :: r, H) | _ => none
  | .lcmp => match S with | .long y :: .long x :: r => some (np, L, .int (if x > y then 1 else if x = y then 0 else -1) :: r, H) | _ => none
  | .lneg => match S with | .long x :: r => some (np, L, .long (-x) :: r, H) | _ => none
  | .i2l => match S with | .int x :: r => some (np, L, .long x.toInt64 :: r, H) | _ => none
  | .l2i => match S with | .long x :: r => some (np, L, .int x.toInt32 :: r, H) | _ => none
  | .i2b => match S with | .int x :: r => some (np, L, .int x.toInt8.toInt32 :: r, H) | _ => none
  | .dup => match S with | .ref x :: r => some (np, L, .ref x :: .ref x :: r, H) | .int x :: r => some (np, L, .int x :: .int x :: r, H) | _ => none
  | .dup2 => match S with | .int x :: .ref y :: r => some (np, L, .int x :: .ref y :: .int x :: .ref y :: r, H) | _ => none
  | .pop => match S with | .int _ :: r => some (np, L, r, H) | .ref _ :: r => some (np, L, r, H) | _ => none
  | .goto o => match tgt pc o with | some t => some (t, L, S, H) | none => none
  | .ifCond cd o => match S with
    | .int x :: r => (bif if_icmp.holds cd x 0 then (match tgt pc o with | some t => some (t, L, r, H) | none => none) else some (np, L, r, H))
    | _ => none
  | .if_icmp cd o => match S with
    | .int y :: .int x :: r => (bif if_icmp.holds cd x y then (match tgt pc o with | some t => some (t, L, r, H) | none => none) else some (np, L, r, H))
    | _ => none
  | .tableswitch d lo hi offs => match S with
    | .int x :: r => (bif decide (x.toInt < lo) || decide (x.toInt > hi) then (match tgt pc d with | some t => some (t, L, r, H) | none => none)
        else (match offs.toList[(x.toInt - lo).toNat]? with | some o => (match tgt pc o with | some t => some (t, L, r, H) | none => none) | none => none))
    | _ => none
  | .getfield j => match S with
    | .ref a :: r => (match P.fld (P.cls k) j with | some f => (match getC H a f with | some v => some (np, L, v :: r, H) | none => none) | none => none)
    | _ => none
  | .putfield j => match S with
    | v :: .ref a :: r => (match P.fld (P.cls k) j with
      | some f => (match P.fields[f]? with
        | some (_, _, t, fin) => (bif (!fin || P.ini k) && Nat.ble P.ro a then (match conv t v with
          | some v' => (match H[a]? with
            | some (.inl fs) => (bif Nat.ble (f + 1) fs.length then some (np, L, r, H.set a (.inl (fs.set f v'))) else none)
            | _ => none)
          | none => none) else none)
        | none => none)
      | none => none)
    | _ => none
  | .iaload => match S with
    | .int j :: .ref a :: r => (match H[a]? with
      | some (.inr (.inl (1, xs))) => (bif inb xs.length j then some (np, L, .int (rd xs j) :: r, H) else none)
      | some (.inr (.inl (0, xs))) => (bif inb xs.length j then some (np, L, .int (rd xs j) :: r, H) else none)
      | _ => none)
    | _ => none
  | .baload => match S with
    | .int j :: .ref a :: r => (match H[a]? with
      | some (.inr (.inl (2, xs))) => (bif inb xs.length j then some (np, L, .int (rd xs j) :: r, H) else none)
      | some (.inr (.inl (3, xs))) => (bif inb xs.length j then some (np, L, .int (rd xs j) :: r, H) else none)
      | _ => none)
    | _ => none
  | .laload => match S with
    | .int j :: .ref a :: r => (match H[a]? with | some (.inr (.inr xs)) => (bif inb xs.length j then some (np, L, .long (rdL xs j) :: r, H) else none) | _ => none)
    | _ => none
  | .iastore => match S with
    | .int x :: .int j :: .ref a :: r => (bif Nat.ble P.ro a then (match H[a]? with | some (.inr (.inl (1, xs))) => (bif inb xs.length j then some (np, L, r, H.set a (.inr (.inl (1, wr xs j x)))) else none) | _ => none) else none)
    | _ => none
  | .bastore => match S with
    | .int x :: .int j :: .ref a :: r => (bif Nat.ble P.ro a then (match H[a]? with
      | some (.inr (.inl (2, xs))) => (bif inb xs.length j then some (np, L, r, H.set a (.inr (.inl (2, wr xs j (x &&& 1))))) else none)
      | some (.inr (.inl (3, xs))) => (bif inb xs.length j then some (np, L, r, H.set a (.inr (.inl (3, wr xs j x.toInt8.toInt32)))) else none)
      | _ => none) else none)
    | _ => none
  | .lastore => match S with
    | .long x :: .int j :: .ref a :: r => (bif Nat.ble P.ro a then (match H[a]? with | some (.inr (.inr xs)) => (bif inb xs.length j then some (np, L, r, H.set a (.inr (.inr (wrL xs j x)))) else none) | _ => none) else none)
    | _ => none
  | .arraylength => match S with
    | .ref a :: r => (match H[a]? with
      | some (.inr (.inl (_, xs))) => some (np, L, .int xs.length.toInt32 :: r, H)
      | some (.inr (.inr xs)) => some (np, L, .int xs.length.toInt32 :: r, H)
      | _ => none)
    | _ => none
  | .newarray t => match S with
    | .int n :: r => (match atyOf t with | some q => (bif !(decide (n < 0)) && Nat.ble n.toNatClampNeg 60000 && Nat.ble (H.length + 1) P.capC && Nat.ble (hsz P H + n.toNatClampNeg) P.capS then some (np, L, .ref H.length :: r, H ++ [newC q n.toNatClampNeg]) else none) | none => none)
    | _ => none
  | .new j => match P.link (P.cls k) j with | some (5, _) => (bif Nat.ble (H.length + 1) P.capC && Nat.ble (hsz P H + P.objN) P.capS then some (np, L, .ref H.length :: S, H ++ [.inl P.fresh]) else none) | _ => none
  | .invokespecial j => match S with
    | .ref _ :: r => (bif isObjInit P k j && Nat.ble 1 (P.rf k) && Nat.ble (cats r + 12) (P.rl k) then some (np, L, r, H) else none)
    | _ => none
  | i => match S with
    | .int y :: .int x :: r => (match aop i with | some f => some (np, L, .int (f x y) :: r, H) | none => none)
    | .long y :: .long x :: r => (match lop i with | some f => some (np, L, .long (f x y) :: r, H) | none => none)
    | _ => none
/-- what a return hands back -/
def retV (P : Prog) (k : Nat) (i : Instr) (S : List Value) : Option (Option Value) :=
  match i with
  | .return_ => match S, P.ret k with | [], none => some none | _, _ => none
  | .ireturn => match S with
    | .int x :: _ => (match P.ret k with | some .int => some (some (.int x)) | some .boolean => some (some (.int (x &&& 1))) | _ => none)
    | _ => none
  | .lreturn => match S with | .long x :: _ => (match P.ret k with | some .long => some (some (.long x)) | _ => none) | _ => none
  | _ => none
def kindOk : Instr → Nat → Bool
  | .invokestatic _, 0 => true
  | .invokespecial _, 1 => true
  | .invokevirtual _, 2 => true
  | .invokevirtual _, 3 => true
  | _, _ => false
def poolOf : Instr → Option Nat
  | .invokestatic j => some j
  | .invokespecial j => some j
  | .invokevirtual j => some j
  | _ => none
/-- the receiver is there -/
def recvOk (P : Prog) (H : AHeap) (q : Nat) (as : List Value) : Bool :=
  match q with
  | 0 => true
  | _ => match as with
    | .ref a :: _ => (match H[a]? with | some (.inl _) => true | _ => false)
    | _ => false
def callV (P : Prog) (k : Nat) (i : Instr) (S : List Value) (H : AHeap) : Option (Nat × List Value × List Value) :=
  match poolOf i with
  | none => none
  | some j => match P.link (P.cls k) j with
    | none => none
    | some (q, k') =>
      bif kindOk i q && Nat.ble (P.pops k') S.length && Nat.ble (P.rf k' + 1) (P.rf k) && Nat.ble (cats (S.drop (P.pops k')) + (P.maxL k' + 11) + P.rl k') (P.rl k) && recvOk P H q (S.take (P.pops k')).reverse && Nat.ble (entL (S.take (P.pops k')).reverse).length (P.maxL k') then
        some (k', (S.take (P.pops k')).reverse, S.drop (P.pops k'))
      else none
def run (P : Prog) : Nat → Nat → Nat → ALoc → List Value → AHeap → Option (Option Value × AHeap)
  | 0, _, _, _, _, _ => none
  | n + 1, k, pc, L, S, H =>
    match P.code k pc with
    | none => none
    | some (i, np) =>
      match retV P k i S with
      | some v => some (v, H)
      | none =>
        match callV P k i S H with
        | some (k', as, rest) =>
          (match run P n k' 0 (entry P k' as) [] H with
          | some (v, H1) => run P n k np L (v.toList ++ rest) H1
          | none => none)
        | none =>
          (match step P k i np pc L S H with
          | some (pc', L', S', H') => run P n k pc' L' S' H'
          | none => none)
def Eval (P : Prog) (k pc : Nat) (L : ALoc) (S : List Value) (H : AHeap) (out : Option Value × AHeap) : Prop := ∃ n, run P n k pc L S H = some out
end Jvm.OwnX
namespace Jvm.OwnX
open Sem ClassFile Op Lib Jvm.Stand Jvm.Free Jvm.LawKit Jvm.RoadKit
/-! ## values, stacks, local variables -/
def VR (am : List Addr) (v w : Value) : Prop := match v with
  | .ref i => ∃ a, am[i]? = some a ∧ w = .ref a
  | .int x => w = .int x
  | .long x => w = .long x
  | .null => w = .null
  | _ => False
def SR (am : List Addr) : List Value → List Value → Prop
  | [], ws => ws = []
  | v :: vs, ws => ∃ w ws', ws = w :: ws' ∧ VR am v w ∧ SR am vs ws'
def Pre (am am' : List Addr) : Prop := ∀ (i : Nat) (a : Addr), am[i]? = some a → am'[i]? = some a
theorem Pre.refl (am : List Addr) : Pre am am := fun _ _ h => h
theorem Pre.trans {a b c : List Addr} (h : Pre a b) (h' : Pre b c) : Pre a c := fun i x q => h' i x (h i x q)
theorem Pre.app (am : List Addr) (x : Addr) : Pre am (am ++ [x]) := fun i a h => by
  rw [List.getElem?_append_left (List.getElem?_eq_some_iff.mp h).1]; exact h
theorem VR.mono {am am' : List Addr} (h : Pre am am') {v w : Value} (r : VR am v w) : VR am' v w := by
  cases v <;> simp only [VR] at r ⊢ <;> try exact r
  obtain ⟨a, h1, h2⟩ := r; exact ⟨a, h _ _ h1, h2⟩
theorem SR.mono {am am' : List Addr} (h : Pre am am') : ∀ {S ws : List Value}, SR am S ws → SR am' S ws
  | [], _, r => r
  | _ :: _, _, ⟨w, ws', e, r1, r2⟩ => ⟨w, ws', e, r1.mono h, SR.mono h r2⟩
theorem VR.cat {am : List Addr} {v w : Value} (r : VR am v w) : w.category = OwnX.cat v := by
  cases v <;> simp only [VR] at r
  · subst r; rfl
  · subst r; rfl
  · subst r; rfl
  · obtain ⟨a, -, rfl⟩ := r; rfl
theorem SR.cats {am : List Addr} : ∀ {S ws : List Value}, SR am S ws → (ws.map fun v => v.category).sum = OwnX.cats S
  | [], _, r => by cases r; rfl
  | v :: vs, _, ⟨w, ws', e, r1, r2⟩ => by subst e; simp [OwnX.cats, r1.cat, SR.cats r2]
theorem SR.app {am : List Addr} : ∀ {S ws : List Value} (A B : List Value), SR am S ws → S = A ++ B → ∃ x y, ws = x ++ y ∧ SR am A x ∧ SR am B y
  | S, ws, [], B, r, e => ⟨[], ws, rfl, rfl, by rw [show B = S from by simpa using e.symm]; exact r⟩
  | S, ws, v :: A, B, r, e => by
    subst e
    obtain ⟨w, ws', rfl, r1, r2⟩ := r
    obtain ⟨x, y, rfl, h1, h2⟩ := SR.app A B r2 rfl
    exact ⟨w :: x, y, rfl, ⟨w, x, rfl, r1, h1⟩, h2⟩
theorem SR.join {am : List Addr} : ∀ {A x B y : List Value}, SR am A x → SR am B y → SR am (A ++ B) (x ++ y)
  | [], _, _, _, h, h' => by cases h; exact h'
  | _ :: _, _, _, _, ⟨w, ws', e, r1, r2⟩, h' => by subst e; exact ⟨w, _, rfl, r1, SR.join r2 h'⟩
theorem SR.rev {am : List Addr} : ∀ {A x : List Value}, SR am A x → SR am A.reverse x.reverse
  | [], _, h => by cases h; rfl
  | _ :: _, _, ⟨w, ws', e, r1, r2⟩ => by
    subst e
    rw [List.reverse_cons, List.reverse_cons]
    exact SR.join (SR.rev r2) ⟨w, [], rfl, r1, rfl⟩
theorem SR.len {am : List Addr} : ∀ {A x : List Value}, SR am A x → x.length = A.length
  | [], _, h => by cases h; rfl
  | _ :: _, _, ⟨w, ws', e, r1, r2⟩ => by subst e; simp [SR.len r2]
def WFL (l : Array Slot) : Prop := (∀ (i : Nat) w, l[i]? = some (.val w) → w.category = 2 → l[i + 1]? = some .second) ∧ (∀ (i : Nat), l[i]? = some .second → ∃ (j : Nat) (w : Value), i = j + 1 ∧ l[j]? = some (.val w) ∧ w.category = 2)
/-- the places of the variables behind a store of one word -/
def After1 (l l' : Array Slot) (i : Nat) (v : Value) : Prop := ∀ j : Nat, l'[j]? = if j = i then some (.val v) else if j + 1 = i ∧ l[i]? = some .second then some .unset else if j = i + 1 ∧ l[j]? = some .second then some .unset else l[j]?
theorem sib (l : Array Slot) (i j : Nat) (x : Slot) (hi : i < l.size) : (l.setIfInBounds i x)[j]? = if j = i then some x else l[j]? := by
  by_cases h : j = i
  · subst h; simp [hi]
  · simp [Array.getElem?_setIfInBounds_ne (Ne.symm h), h]
theorem store1w {l : Array Slot} {i : Nat} {v : Value} (hw : WFL l) (hi : i < l.size) (hv : v.category = 1) : ∃ l', storeLocals l i v = some l' ∧ l'.size = l.size ∧ After1 l l' i v := by
  have hv2 : ¬ v.category = 2 := by omega
  have hg : l[i]? = some l[i] := Array.getElem?_eq_getElem hi
  cases hq : l[i] with
  | unset =>
    rw [hq] at hg
    refine ⟨l.setIfInBounds i (.val v), by simp [storeLocals, storeSelf, setAt, hg, hq, hi, hv2], by simp, fun j => ?_⟩
    rw [sib _ _ _ _ hi, hg]
    by_cases h : j = i
    · simp [h]
    · simp only [h, if_false, reduceCtorEq, and_false, Option.some.injEq]
      by_cases h2 : j = i + 1 ∧ l[j]? = some .second
      · obtain ⟨j', w, e1, e2, e3⟩ := hw.2 _ h2.2
        have : j' = i := by omega
        subst this; rw [hg] at e2; cases e2
      · simp [h2]
  | second =>
    rw [hq] at hg
    obtain ⟨j0, w, e1, e2, e3⟩ := hw.2 _ hg
    subst e1
    have hj0 : j0 < l.size := by omega
    refine ⟨(l.setIfInBounds j0 .unset).setIfInBounds (j0 + 1) (.val v), by simp [storeLocals, storeSelf, setAt, hg, hq, hi, hv2, hj0], by simp, fun j => ?_⟩
    rw [sib _ _ _ _ (by simpa using hi), sib _ _ _ _ hj0, hg]
    by_cases h : j = j0 + 1
    · simp [h]
    · by_cases h3 : j = j0
      · subst h3; simp
      · have h4 : ¬ (j + 1 = j0 + 1) := by omega
        by_cases h2 : j = j0 + 1 + 1 ∧ l[j]? = some .second
        · obtain ⟨j', w', f1, f2, f3⟩ := hw.2 _ h2.2
          have : j' = j0 + 1 := by omega
          subst this; rw [hg] at f2; cases f2
        · simp [h, h3, h2]
  | val old =>
    rw [hq] at hg
    by_cases hc : old.category = 2
    · have h1 := hw.1 _ _ hg hc
      have h1' := (Array.getElem?_eq_some_iff.mp h1).1
      refine ⟨(l.setIfInBounds (i + 1) .unset).setIfInBounds i (.val v), by simp [storeLocals, storeSelf, setAt, hg, hq, hi, hv2, hc, h1'], by simp, fun j => ?_⟩
      rw [sib _ _ _ _ (by simpa using hi), sib _ _ _ _ h1', hg]
      by_cases h : j = i
      · simp [h]
      · by_cases h3 : j = i + 1
        · subst h3; simp [h1]
        · simp [h, h3]
    · refine ⟨l.setIfInBounds i (.val v), by simp [storeLocals, storeSelf, setAt, hg, hq, hi, hv2, hc], by simp, fun j => ?_⟩
      rw [sib _ _ _ _ hi, hg]
      by_cases h : j = i
      · simp [h]
      · simp only [h, if_false, reduceCtorEq, and_false, Option.some.injEq]
        by_cases h2 : j = i + 1 ∧ l[j]? = some .second
        · obtain ⟨j', w, e1, e2, e3⟩ := hw.2 _ h2.2
          have : j' = i := by omega
          subst this; rw [hg] at e2; cases e2; exact absurd e3 hc
        · simp [h2]
theorem After1.wf {l l' : Array Slot} {i : Nat} {v : Value} (hw : WFL l) (hv : v.category = 1) (A : After1 l l' i v) : WFL l' := by
  refine ⟨fun j w h1 h2 => ?_, fun j h1 => ?_⟩
  · rw [A j] at h1
    by_cases c1 : j = i
    · simp only [c1, if_true, Option.some.injEq, Slot.val.injEq] at h1; subst h1; omega
    · rw [if_neg c1] at h1
      by_cases c2 : j + 1 = i ∧ l[i]? = some .second
      · rw [if_pos c2] at h1; cases h1
      · rw [if_neg c2] at h1
        by_cases c3 : j = i + 1 ∧ l[j]? = some .second
        · rw [if_pos c3] at h1; cases h1
        · rw [if_neg c3] at h1
          have h3 := hw.1 _ _ h1 h2
          rw [A (j + 1)]
          have n1 : ¬ (j + 1 = i) := fun q => c2 ⟨q, q ▸ h3⟩
          have n2 : ¬ (j + 1 + 1 = i ∧ l[i]? = some .second) := fun ⟨q1, q2⟩ => by
            obtain ⟨j', w', f1, f2, f3⟩ := hw.2 _ q2
            have : j' = j + 1 := by omega
            subst this; rw [h3] at f2; cases f2
          have n3 : ¬ (j + 1 = i + 1 ∧ l[j + 1]? = some .second) := fun ⟨q1, _⟩ => c1 (by omega)
          rw [if_neg n1, if_neg n2, if_neg n3]; exact h3
  · rw [A j] at h1
    by_cases c1 : j = i
    · rw [if_pos c1] at h1; cases h1
    · rw [if_neg c1] at h1
      by_cases c2 : j + 1 = i ∧ l[i]? = some .second
      · rw [if_pos c2] at h1; cases h1
      · rw [if_neg c2] at h1
        by_cases c3 : j = i + 1 ∧ l[j]? = some .second
        · rw [if_pos c3] at h1; cases h1
        · rw [if_neg c3] at h1
          obtain ⟨j', w, e1, e2, e3⟩ := hw.2 _ h1
          refine ⟨j', w, e1, ?_, e3⟩
          rw [A j']
          have n1 : ¬ (j' = i) := fun q => c3 ⟨by omega, h1⟩
          have n2 : ¬ (j' + 1 = i ∧ l[i]? = some .second) := fun ⟨q, _⟩ => c1 (by omega)
          have n3 : ¬ (j' = i + 1 ∧ l[j']? = some .second) := fun ⟨_, q⟩ => by rw [e2] at q; cases q
          rw [if_neg n1, if_neg n2, if_neg n3]; exact e2
def lng (o : Option Slot) : Bool := match o with | some (.val w) => decide (w.category = 2) | _ => false
theorem lng_iff (o : Option Slot) : lng o = true ↔ ∃ w, o = some (.val w) ∧ w.category = 2 := by
  unfold lng
  split
  · rename_i w; simp
  · rename_i h; simp; intro w hw; exact absurd hw (h w)
/-- behind a store of a long -/
def After2 (l l' : Array Slot) (i : Nat) (v : Value) : Prop := ∀ j : Nat, l'[j]? = if j = i then some (.val v) else if j = i + 1 then some .second else if j + 1 = i ∧ l[i]? = some .second then some .unset else if j = i + 2 ∧ l[j]? = some .second then some .unset else l[j]?
theorem self2 {l : Array Slot} {i : Nat} {v : Value} (hi : i + 1 < l.size) (hv : v.category = 2) (hz : ∀ w, l[i + 1]? = some (.val w) → w.category = 2 → i + 2 < l.size) :
    ∃ l', storeSelf l i v = some l' ∧ l'.size = l.size ∧ ∀ j : Nat, l'[j]? = if j = i then some (.val v) else if j = i + 1 then some .second else if j = i + 2 ∧ lng l[i + 1]? = true then some .unset else l[j]? := by
  have hi0 : i < l.size := by omega
  have hg : l[i + 1]? = some l[i + 1] := Array.getElem?_eq_getElem hi
  have hne : (l.setIfInBounds i (.val v))[i + 1]? = l[i + 1]? := Array.getElem?_setIfInBounds_ne (by omega)
  have hplain : (∀ w, l[i + 1] = .val w → ¬ w.category = 2) → storeSelf l i v = some ((l.setIfInBounds i (.val v)).setIfInBounds (i + 1) .second) := fun hn => by
    cases hq : l[i + 1] with
    | val w => simp [storeSelf, setAt, hi0, hv, hne, hg, hq, hn _ hq, hi]
    | unset => simp [storeSelf, setAt, hi0, hv, hne, hg, hq, hi]
    | second => simp [storeSelf, setAt, hi0, hv, hne, hg, hq, hi]
  by_cases hx : ∃ w, l[i + 1] = .val w ∧ w.category = 2
  · obtain ⟨w, hw1, hw2⟩ := hx
    have h2 := hz w (by rw [hg, hw1]) hw2
    refine ⟨((l.setIfInBounds i (.val v)).setIfInBounds (i + 2) .unset).setIfInBounds (i + 1) .second, by simp [storeSelf, setAt, hi0, hv, hne, hg, hw1, hw2, hi, h2], by simp, fun j => ?_⟩
    rw [sib _ _ _ _ (by simpa using hi), sib _ _ _ _ (by simpa using h2), sib _ _ _ _ hi0]
    have hE : lng l[i + 1]? = true := (lng_iff _).mpr ⟨w, by rw [hg, hw1], hw2⟩
    by_cases c1 : j = i
    · subst c1; simp
    · by_cases c2 : j = i + 1
      · subst c2; simp
      · by_cases c3 : j = i + 2
        · subst c3; simp [hE]
        · simp [c1, c2, c3]
  · refine ⟨_, hplain fun w h1 h2 => hx ⟨w, h1, h2⟩, by simp, fun j => ?_⟩
    rw [sib _ _ _ _ (by simpa using hi), sib _ _ _ _ hi0]
    have hE : ¬ lng l[i + 1]? = true := fun q => by
      obtain ⟨w, q1, q2⟩ := (lng_iff _).mp q
      exact hx ⟨w, by rw [hg] at q1; exact Option.some.inj q1, q2⟩
    by_cases c1 : j = i
    · subst c1; simp
    · by_cases c2 : j = i + 1
      · subst c2; simp
      · simp [c1, c2, hE]
theorem store2w {l : Array Slot} {i : Nat} {v : Value} (hw : WFL l) (hi : i + 1 < l.size) (hv : v.category = 2) : ∃ l', storeLocals l i v = some l' ∧ l'.size = l.size ∧ After2 l l' i v := by
  have hi0 : i < l.size := by omega
  have hg : l[i]? = some l[i] := Array.getElem?_eq_getElem hi0
  have hz : ∀ w, l[i + 1]? = some (.val w) → w.category = 2 → i + 2 < l.size := fun w q1 q2 => (Array.getElem?_eq_some_iff.mp (hw.1 _ _ q1 q2)).1
  have hsec : ∀ j : Nat, (j = i + 2 ∧ lng l[i + 1]? = true) ↔ (j = i + 2 ∧ l[j]? = some .second) := fun j => by
    constructor
    · rintro ⟨rfl, q⟩
      obtain ⟨w, q1, q2⟩ := (lng_iff _).mp q
      exact ⟨rfl, hw.1 _ _ q1 q2⟩
    · rintro ⟨rfl, q⟩
      obtain ⟨j', w, e1, e2, e3⟩ := hw.2 _ q
      have : j' = i + 1 := by omega
      subst this; exact ⟨rfl, (lng_iff _).mpr ⟨w, e2, e3⟩⟩
  cases hq : l[i] with
  | unset =>
    rw [hq] at hg
    obtain ⟨l', h1, h2, h3⟩ := self2 hi hv hz
    refine ⟨l', by simp [storeLocals, hg, hq, hi0, h1], h2, fun j => ?_⟩
    rw [h3 j, hg]; simp only [hsec, reduceCtorEq, and_false, if_false, Option.some.injEq]
  | second =>
    rw [hq] at hg
    obtain ⟨j0, w, e1, e2, e3⟩ := hw.2 _ hg
    subst e1
    have hj0 : j0 < l.size := by omega
    have hi' : j0 + 1 + 1 < (l.setIfInBounds j0 .unset).size := by simpa using hi
    have hk : ∀ j : Nat, j ≠ j0 → (l.setIfInBounds j0 .unset)[j]? = l[j]? := fun j h => Array.getElem?_setIfInBounds_ne (Ne.symm h)
    obtain ⟨l', h1, h2, h3⟩ := self2 (l := l.setIfInBounds j0 .unset) hi' hv (fun w q1 q2 => by rw [hk _ (by omega)] at q1; simpa using hz w q1 q2)
    refine ⟨l', by simp [storeLocals, setAt, hg, hq, hi0, hj0, h1], by simpa using h2, fun j => ?_⟩
    rw [h3 j, hg, hk (j0 + 1 + 1) (by omega)]; simp only [hsec]
    by_cases c1 : j = j0 + 1
    · simp [c1]
    · by_cases c2 : j = j0 + 1 + 1
      · simp [c2]
      · by_cases c3 : j = j0
        · subst c3; simp [hj0]
        · rw [hk _ c3]
          have : ¬ (j + 1 = j0 + 1) := by omega
          simp [c1, c2, c3]
  | val old =>
    rw [hq] at hg
    by_cases hc : old.category = 2
    · have g1 := hw.1 _ _ hg hc
      have hi' : i + 1 < (l.setIfInBounds (i + 1) .unset).size := by simpa using hi
      have hk : ∀ j : Nat, j ≠ i + 1 → (l.setIfInBounds (i + 1) .unset)[j]? = l[j]? := fun j h => Array.getElem?_setIfInBounds_ne (Ne.symm h)
      have hk1 : (l.setIfInBounds (i + 1) .unset)[i + 1]? = some .unset := by simp [hi]
      obtain ⟨l', h1, h2, h3⟩ := self2 (l := l.setIfInBounds (i + 1) .unset) hi' hv (fun w q1 q2 => by rw [hk1] at q1; cases q1)
      refine ⟨l', by simp [storeLocals, setAt, hg, hq, hi0, hc, hi, h1], by simpa using h2, fun j => ?_⟩
      rw [h3 j, hg, hk1]
      by_cases c1 : j = i
      · simp [c1]
      · by_cases c2 : j = i + 1
        · simp [c2]
        · rw [hk _ c2]
          have c3 : ¬ (j = i + 2 ∧ l[j]? = some .second) := fun ⟨q1, q2⟩ => by
            subst q1
            obtain ⟨j', w, e1, e2, e3⟩ := hw.2 _ q2
            have : j' = i + 1 := by omega
            subst this; rw [g1] at e2; cases e2
          simp [c1, c2, c3, lng]
    · obtain ⟨l', h1, h2, h3⟩ := self2 hi hv hz
      refine ⟨l', by simp [storeLocals, hg, hq, hi0, hc, h1], h2, fun j => ?_⟩
      rw [h3 j, hg]; simp only [hsec, reduceCtorEq, and_false, if_false, Option.some.injEq]
theorem After2.wf {l l' : Array Slot} {i : Nat} {v : Value} (hw : WFL l) (hv : v.category = 2) (A : After2 l l' i v) : WFL l' := by
  refine ⟨fun j w h1 h2 => ?_, fun j h1 => ?_⟩
  · rw [A j] at h1
    by_cases c1 : j = i
    · subst c1; rw [A (j + 1)]; simp
    · rw [if_neg c1] at h1
      by_cases c0 : j = i + 1
      · rw [if_pos c0] at h1; cases h1
      · rw [if_neg c0] at h1
        by_cases c2 : j + 1 = i ∧ l[i]? = some .second
        · rw [if_pos c2] at h1; cases h1
        · rw [if_neg c2] at h1
          by_cases c3 : j = i + 2 ∧ l[j]? = some .second
          · rw [if_pos c3] at h1; cases h1
          · rw [if_neg c3] at h1
            have h3 := hw.1 _ _ h1 h2
            rw [A (j + 1)]
            have n1 : ¬ (j + 1 = i) := fun q => c2 ⟨q, q ▸ h3⟩
            have n0 : ¬ (j + 1 = i + 1) := by omega
            have n2 : ¬ (j + 1 + 1 = i ∧ l[i]? = some .second) := fun ⟨q1, q2⟩ => by
              obtain ⟨j', w', f1, f2, f3⟩ := hw.2 _ q2
              have : j' = j + 1 := by omega
              subst this; rw [h3] at f2; cases f2
            have n3 : ¬ (j + 1 = i + 2 ∧ l[j + 1]? = some .second) := fun ⟨q1, _⟩ => c0 (by omega)
            rw [if_neg n1, if_neg n0, if_neg n2, if_neg n3]; exact h3
  · rw [A j] at h1
    by_cases c1 : j = i
    · rw [if_pos c1] at h1; cases h1
    · rw [if_neg c1] at h1
      by_cases c0 : j = i + 1
      · subst c0; exact ⟨i, v, rfl, by rw [A i]; simp, hv⟩
      · rw [if_neg c0] at h1
        by_cases c2 : j + 1 = i ∧ l[i]? = some .second
        · rw [if_pos c2] at h1; cases h1
        · rw [if_neg c2] at h1
          by_cases c3 : j = i + 2 ∧ l[j]? = some .second
          · rw [if_pos c3] at h1; cases h1
          · rw [if_neg c3] at h1
            obtain ⟨j', w, e1, e2, e3⟩ := hw.2 _ h1
            refine ⟨j', w, e1, ?_, e3⟩
            rw [A j']
            have n1 : ¬ (j' = i) := fun q => c0 (by omega)
            have n0 : ¬ (j' = i + 1) := fun q => c3 ⟨by omega, h1⟩
            have n2 : ¬ (j' + 1 = i ∧ l[i]? = some .second) := fun ⟨q, _⟩ => c1 (by omega)
            have n3 : ¬ (j' = i + 2 ∧ l[j']? = some .second) := fun ⟨_, q⟩ => by rw [e2] at q; cases q
            rw [if_neg n1, if_neg n0, if_neg n2, if_neg n3]; exact e2
def LR (am : List Addr) (L : ALoc) (l : Array Slot) : Prop := L.length = l.size ∧ WFL l ∧ ∀ (i : Nat) v, L[i]? = some (some v) → ∃ w, l[i]? = some (.val w) ∧ VR am v w
theorem LR.mono {am am' : List Addr} (h : Pre am am') {L : ALoc} {l : Array Slot} (r : LR am L l) : LR am' L l :=
  ⟨r.1, r.2.1, fun i v q => by obtain ⟨w, h1, h2⟩ := r.2.2 i v q; exact ⟨w, h1, h2.mono h⟩⟩
theorem kill1_len (L : ALoc) (i : Nat) : (kill1 L i).length = L.length := by
  unfold kill1; split
  · rfl
  · split <;> simp
theorem kill1_get {L : ALoc} {i j : Nat} {v : Value} (h : (kill1 L i)[j]? = some (some v)) : L[j]? = some (some v) ∧ (j + 1 = i → ∀ x, v ≠ .long x) := by
  unfold kill1 at h
  split at h
  · exact ⟨h, fun q => by omega⟩
  · rename_i i
    split at h
    · rename_i x hx
      by_cases e : j = i
      · subst e
        rw [List.getElem?_set] at h
        split at h
        · split at h <;> simp at h
        · omega
      · rw [List.getElem?_set_ne (Ne.symm e)] at h
        exact ⟨h, fun q => absurd (by omega) e⟩
    · rename_i hn
      refine ⟨h, fun q x e => ?_⟩
      have : j = i := by omega
      subst this; subst e; exact hn x h
theorem LR.put {am : List Addr} {L L' : ALoc} {l : Array Slot} {i : Nat} {v w : Value} (r : LR am L l) (h : lput L i v = some L') (hv : VR am v w) (hc : w.category = 1) : ∃ l', storeLocals l i w = some l' ∧ l'.size = l.size ∧ LR am L' l' := by
  unfold lput at h
  cases hb : Nat.ble (i + 1) L.length
  · rw [hb] at h; cases h
  · rw [hb] at h
    have hi : i < L.length := Nat.le_of_ble_eq_true hb
    simp only [cond_true, Option.some.injEq] at h
    obtain ⟨l', h1, h2, h3⟩ := store1w (v := w) r.2.1 (by rw [← r.1]; exact hi) hc
    refine ⟨l', h1, h2, ?_, h3.wf r.2.1 hc, fun j u hu => ?_⟩
    · rw [← h]; simp [kill1_len, r.1, h2]
    · rw [← h, List.getElem?_set] at hu
      rw [h3 j]
      by_cases c : i = j
      · subst c
        simp only [if_true] at hu
        split at hu
        · cases hu; exact ⟨w, by simp, hv⟩
        · cases hu
      · rw [if_neg c] at hu
        obtain ⟨q1, q2⟩ := kill1_get hu
        obtain ⟨w', q3, q4⟩ := r.2.2 j u q1
        have n1 : ¬ (j = i) := fun q => c q.symm
        have n2 : ¬ (j + 1 = i ∧ l[i]? = some .second) := fun ⟨a1, a2⟩ => by
          obtain ⟨j', w2, e1, e2, e3⟩ := r.2.1.2 _ a2
          have : j' = j := by omega
          subst this; rw [q3] at e2; cases e2
          have q5 := q4.cat
          rw [e3] at q5
          cases u <;> simp [OwnX.cat] at q5
          exact q2 a1 _ rfl
        have n3 : ¬ (j = i + 1 ∧ l[j]? = some .second) := fun ⟨_, q⟩ => by rw [q3] at q; cases q
        exact ⟨w', by rw [if_neg n1, if_neg n2, if_neg n3]; exact q3, q4⟩
theorem LR.putL {am : List Addr} {L L' : ALoc} {l : Array Slot} {i : Nat} {x : Int64} (r : LR am L l) (h : lputL L i x = some L') : ∃ l', storeLocals l i (.long x) = some l' ∧ l'.size = l.size ∧ LR am L' l' := by
  unfold lputL at h
  cases hb : Nat.ble (i + 2) L.length
  · rw [hb] at h; cases h
  · rw [hb] at h
    have hi : i + 1 < L.length := Nat.le_of_ble_eq_true hb
    simp only [cond_true, Option.some.injEq] at h
    obtain ⟨l', h1, h2, h3⟩ := store2w (v := .long x) r.2.1 (by rw [← r.1]; exact hi) rfl
    refine ⟨l', h1, h2, ?_, h3.wf r.2.1 rfl, fun j u hu => ?_⟩
    · rw [← h]; simp [kill1_len, r.1, h2]
    · rw [← h, List.getElem?_set] at hu
      rw [h3 j]
      by_cases c0 : i + 1 = j
      · subst c0
        simp only [if_true] at hu
        split at hu <;> cases hu
      · rw [if_neg c0, List.getElem?_set] at hu
        by_cases c : i = j
        · subst c
          simp only [if_true] at hu
          split at hu
          · cases hu; exact ⟨.long x, by simp, rfl⟩
          · cases hu
        · rw [if_neg c] at hu
          obtain ⟨q1, q2⟩ := kill1_get hu
          obtain ⟨w', q3, q4⟩ := r.2.2 j u q1
          have n1 : ¬ (j = i) := fun q => c q.symm
          have n0 : ¬ (j = i + 1) := fun q => c0 q.symm
          have n2 : ¬ (j + 1 = i ∧ l[i]? = some .second) := fun ⟨a1, a2⟩ => by
            obtain ⟨j', w2, e1, e2, e3⟩ := r.2.1.2 _ a2
            have : j' = j := by omega
            subst this; rw [q3] at e2; cases e2
            have q5 := q4.cat
            rw [e3] at q5
            cases u <;> simp [OwnX.cat] at q5
            exact q2 a1 _ rfl
          have n3 : ¬ (j = i + 2 ∧ l[j]? = some .second) := fun ⟨_, q⟩ => by rw [q3] at q; cases q
          exact ⟨w', by rw [if_neg n1, if_neg n0, if_neg n2, if_neg n3]; exact q3, q4⟩
theorem LR.int {am : List Addr} {L : ALoc} {l : Array Slot} {i : Nat} {x : Int32} (r : LR am L l) (h : loadI L i = some x) : l[i]? = some (.val (.int x)) := by
  unfold loadI at h
  split at h
  · rename_i y hy
    cases h
    obtain ⟨w, h1, h2⟩ := r.2.2 _ _ hy
    cases h2; exact h1
  · cases h
theorem LR.long {am : List Addr} {L : ALoc} {l : Array Slot} {i : Nat} {x : Int64} (r : LR am L l) (h : loadJ L i = some x) : l[i]? = some (.val (.long x)) := by
  unfold loadJ at h
  split at h
  · rename_i y hy
    cases h
    obtain ⟨w, h1, h2⟩ := r.2.2 _ _ hy
    cases h2; exact h1
  · cases h
theorem LR.ref {am : List Addr} {L : ALoc} {l : Array Slot} {i x : Nat} (r : LR am L l) (h : loadA L i = some x) : ∃ a, am[x]? = some a ∧ l[i]? = some (.val (.ref a)) := by
  unfold loadA at h
  split at h
  · rename_i y hy
    cases h
    obtain ⟨w, h1, a, h2, rfl⟩ := r.2.2 _ _ hy
    exact ⟨a, h2, h1⟩
  · cases h
end Jvm.OwnX
namespace Jvm.OwnX
open Sem ClassFile Op Lib Jvm.Stand Jvm.Free Jvm.LawKit Jvm.RoadKit
/-! ## the entry's variables -/
def slotsL : List Value → List Slot
  | [] => []
  | v :: r => if v.category = 2 then .val v :: .second :: slotsL r else .val v :: slotsL r
theorem fold_slots : ∀ (ws : List Value) (acc : Array Slot), ws.foldl (fun acc v => if v.category = 2 then (acc.push (.val v)).push .second else acc.push (.val v)) acc = acc ++ (slotsL ws).toArray
  | [], acc => by simp [slotsL]
  | v :: r, acc => by
    rw [List.foldl_cons, fold_slots r]
    by_cases h : v.category = 2
    · simp only [h, if_true, slotsL]; apply Array.ext'; simp
    · simp only [h, if_false, slotsL]; apply Array.ext'; simp
theorem argsToLocals_eq (ws : List Value) (n : Nat) : argsToLocals ws.toArray n = (slotsL ws ++ List.replicate (n - (slotsL ws).length) Slot.unset).toArray := by
  unfold argsToLocals
  have h : Array.foldl (fun acc v => if v.category = 2 then (acc.push (.val v)).push .second else acc.push (.val v)) #[] ws.toArray = (slotsL ws).toArray := by
    rw [List.foldl_toArray, fold_slots]; simp
  simp only [h]
  apply Array.ext'; simp
def WFl (s : List Slot) : Prop := (∀ (i : Nat) (w : Value), s[i]? = some (Slot.val w) → w.category = 2 → s[i + 1]? = some Slot.second) ∧ (∀ (i : Nat), s[i]? = some Slot.second → ∃ (j : Nat) (w : Value), i = j + 1 ∧ s[j]? = some (Slot.val w) ∧ w.category = 2)
theorem WFl.nil : WFl [] := ⟨fun i w h => by simp at h, fun i h => by simp at h⟩
theorem WFl.one {s : List Slot} (h : WFl s) {v : Value} (hv : ¬ v.category = 2) : WFl (.val v :: s) := by
  refine ⟨fun i w h1 h2 => ?_, fun i h1 => ?_⟩
  · cases i with
    | zero => simp at h1; subst h1; exact absurd h2 hv
    | succ i => rw [List.getElem?_cons_succ] at h1 ⊢; exact h.1 _ _ h1 h2
  · cases i with
    | zero => simp at h1
    | succ i =>
      rw [List.getElem?_cons_succ] at h1
      obtain ⟨j, w, rfl, e2, e3⟩ := h.2 _ h1
      exact ⟨j + 1, w, rfl, by rw [List.getElem?_cons_succ]; exact e2, e3⟩
theorem WFl.two {s : List Slot} (h : WFl s) {v : Value} (hv : v.category = 2) : WFl (.val v :: .second :: s) := by
  refine ⟨fun i w h1 h2 => ?_, fun i h1 => ?_⟩
  · match i with
    | 0 => simp
    | 1 => simp at h1
    | i + 2 => simp only [List.getElem?_cons_succ] at h1 ⊢; exact h.1 _ _ h1 h2
  · match i with
    | 0 => simp at h1
    | 1 => exact ⟨0, v, rfl, by simp, hv⟩
    | i + 2 =>
      simp only [List.getElem?_cons_succ] at h1
      obtain ⟨j, w, rfl, e2, e3⟩ := h.2 _ h1
      exact ⟨j + 2, w, rfl, by simp only [List.getElem?_cons_succ]; exact e2, e3⟩
theorem WFl.pad {s : List Slot} (h : WFl s) (n : Nat) : WFl (s ++ List.replicate n Slot.unset) := by
  have hk : ∀ (i : Nat) (x : Slot), (s ++ List.replicate n Slot.unset)[i]? = some x → x ≠ Slot.unset → s[i]? = some x := fun i x q hx => by
    by_cases c : i < s.length
    · rw [List.getElem?_append_left c] at q; exact q
    · rw [List.getElem?_append_right (by omega), List.getElem?_replicate] at q
      split at q
      · cases q; exact absurd rfl hx
      · cases q
  have hl : ∀ (i : Nat) (x : Slot), s[i]? = some x → (s ++ List.replicate n Slot.unset)[i]? = some x := fun i x q => by
    rw [List.getElem?_append_left (List.getElem?_eq_some_iff.mp q).1]; exact q
  refine ⟨fun i w h1 h2 => hl _ _ (h.1 _ _ (hk _ _ h1 (by simp)) h2), fun i h1 => ?_⟩
  obtain ⟨j, w, e1, e2, e3⟩ := h.2 _ (hk _ _ h1 (by simp))
  exact ⟨j, w, e1, hl _ _ e2, e3⟩
theorem slotsL_ok {am : List Addr} : ∀ {as ws : List Value}, SR am as ws → (entL as).length = (slotsL ws).length ∧ WFl (slotsL ws) ∧ ∀ (i : Nat) (v : Value), (entL as)[i]? = some (some v) → ∃ w, (slotsL ws)[i]? = some (Slot.val w) ∧ VR am v w
  | [], _, h => by cases h; exact ⟨rfl, WFl.nil, fun i v q => by simp [entL] at q⟩
  | v :: r, _, ⟨w, ws', e, r1, r2⟩ => by
    subst e
    obtain ⟨i1, i2, i3⟩ := slotsL_ok r2
    have hc := r1.cat
    by_cases h2 : ∃ x, v = .long x
    · obtain ⟨x, rfl⟩ := h2
      have hc2 : w.category = 2 := hc
      refine ⟨by simp [entL, slotsL, hc2, i1], by simp only [slotsL, hc2, if_true]; exact i2.two hc2, fun i u q => ?_⟩
      simp only [slotsL, hc2, if_true, entL] at q ⊢
      match i with
      | 0 => simp at q; subst q; exact ⟨w, by simp, r1⟩
      | 1 => simp at q
      | i + 2 => simp only [List.getElem?_cons_succ] at q ⊢; exact i3 i u q
    · have hv1 : OwnX.cat v = 1 := by cases v <;> first | rfl | (exact absurd ⟨_, rfl⟩ h2)
      have hc2 : ¬ w.category = 2 := by rw [hc, hv1]; decide
      have he : entL (v :: r) = some v :: entL r := by cases v <;> first | rfl | (exact absurd ⟨_, rfl⟩ h2)
      refine ⟨by simp [he, slotsL, hc2, i1], by simp only [slotsL, hc2, if_false]; exact i2.one hc2, fun i u q => ?_⟩
      rw [he] at q
      simp only [slotsL, hc2, if_false]
      match i with
      | 0 => simp at q; subst q; exact ⟨w, by simp, r1⟩
      | i + 1 => simp only [List.getElem?_cons_succ] at q ⊢; exact i3 i u q
theorem LR.entry {am : List Addr} {as ws : List Value} {n : Nat} (h : SR am as ws) (hn : (entL as).length ≤ n) : LR am (pad n (entL as)) (argsToLocals ws.toArray n) := by
  obtain ⟨h1, h2, h3⟩ := slotsL_ok h
  rw [argsToLocals_eq]
  have hw := h2.pad (n - (slotsL ws).length)
  refine ⟨by simp [pad, h1], ⟨fun i w q1 q2 => ?_, fun i q1 => ?_⟩, fun i v q => ?_⟩
  · rw [List.getElem?_toArray] at q1 ⊢; exact hw.1 _ _ q1 q2
  · rw [List.getElem?_toArray] at q1
    obtain ⟨j, w, e1, e2, e3⟩ := hw.2 _ q1
    exact ⟨j, w, e1, by rw [List.getElem?_toArray]; exact e2, e3⟩
  · have hi : i < (entL as).length := by
      by_cases c : i < (entL as).length
      · exact c
      · unfold pad at q
        rw [List.getElem?_append_right (by omega), List.getElem?_replicate] at q
        split at q
        · cases q
        · cases q
    unfold pad at q
    rw [List.getElem?_append_left hi] at q
    obtain ⟨w, e1, e2⟩ := h3 i v q
    exact ⟨w, by rw [List.getElem?_toArray, List.getElem?_append_left (by omega)]; exact e1, e2⟩
theorem entry_size {ws : List Value} {n : Nat} (h : (slotsL ws).length ≤ n) : (argsToLocals ws.toArray n).size = n := by
  rw [argsToLocals_eq]; simp; omega
/-! ## the heap -/
def aty : Nat → FieldType
  | 0 => .int
  | 1 => .int
  | 2 => .boolean
  | 3 => .byte
  | _ => .long
def CR (P : Prog) (C : String) (Z : State) (am : List Addr) (c : ACell) (h : Heap) (a : Addr) : Prop := match c with
  | .inl fs => Exa Z h a C ∧ fs.length = P.fields.length ∧ ∀ (j : Nat) (v : Value) (n d : String) (t : Nat) (f : Bool), fs[j]? = some v → P.fields[j]? = some (n, d, t, f) → ∃ w, VR am v w ∧ Fld Z h a C n d w
  | .inr (.inl (t, xs)) => ∃ cl, Arr Z h a cl (aty t) ∧ cl.slots.size = xs.length ∧ ∀ (j : Nat) (x : Int32), xs[j]? = some x → cl.slots[j]? = some (.int x)
  | .inr (.inr xs) => ∃ cl, Arr Z h a cl .long ∧ cl.slots.size = xs.length ∧ ∀ (j : Nat) (x : Int64), xs[j]? = some x → cl.slots[j]? = some (.long x)
def HR (P : Prog) (C : String) (Z : State) (n0 : Nat) (am : List Addr) (H : AHeap) (h : Heap) : Prop :=
  am.length = H.length ∧ (∀ (i j : Nat) (a : Addr), am[i]? = some a → am[j]? = some a → i = j) ∧ (∀ (i : Nat) (a : Addr), am[i]? = some a → a < h.size ∧ (P.ro ≤ i → n0 ≤ a)) ∧ ∀ (i : Nat) (c : ACell), H[i]? = some c → ∃ a, am[i]? = some a ∧ CR P C Z am c h a
section Heap
variable {P : Prog} {C : String} {Z : State} {n0 : Nat} {am am' : List Addr} {H : AHeap} {h h' : Heap} {a b : Addr} {c : ACell}
theorem CR.ext (E : Ext h h') (hp : Pre am am') (r : CR P C Z am c h a) : CR P C Z am' c h' a := by
  match c, r with
  | .inl fs, ⟨r1, r2, r3⟩ => exact ⟨r1.ext E, r2, fun j v n d t f q1 q2 => by obtain ⟨w, e1, e2⟩ := r3 j v n d t f q1 q2; exact ⟨w, e1.mono hp, e2.ext E⟩⟩
  | .inr (.inl (t, xs)), ⟨cl, r1, r2⟩ => exact ⟨cl, r1.ext E, r2⟩
  | .inr (.inr xs), ⟨cl, r1, r2⟩ => exact ⟨cl, r1.ext E, r2⟩
theorem CR.other {sl : Nat} {v : Value} (W : Wr h h' b sl v) (hne : a ≠ b) (r : CR P C Z am c h a) : CR P C Z am c h' a := by
  match c, r with
  | .inl fs, ⟨r1, r2, r3⟩ => exact ⟨r1.wr W, r2, fun j v n d t f q1 q2 => by obtain ⟨w, e1, e2⟩ := r3 j v n d t f q1 q2; exact ⟨w, e1, e2.other W (Or.inl hne)⟩⟩
  | .inr (.inl (t, xs)), ⟨cl, r1, r2⟩ => exact ⟨cl, r1.other W hne, r2⟩
  | .inr (.inr xs), ⟨cl, r1, r2⟩ => exact ⟨cl, r1.other W hne, r2⟩
/-- a new cell -/
theorem HR.push (E : Ext h h') (r : HR P C Z n0 am H h) (hlt : h.size < h'.size) (hn : n0 ≤ h.size) (hc : CR P C Z (am ++ [h.size]) c h' h.size) : HR P C Z n0 (am ++ [h.size]) (H ++ [c]) h' := by
  obtain ⟨r1, r2, r3, r4⟩ := r
  have hin : ∀ (i : Nat) (x : Addr), (am ++ [h.size])[i]? = some x → (am[i]? = some x ∧ i < am.length) ∨ (i = am.length ∧ x = h.size) := fun i x q => by
    by_cases ci : i < am.length
    · rw [List.getElem?_append_left ci] at q; exact Or.inl ⟨q, ci⟩
    · rw [List.getElem?_append_right (by omega)] at q
      have : i - am.length = 0 := by
        by_cases z : i - am.length = 0
        · exact z
        · rw [List.getElem?_eq_none (by simp; omega)] at q; cases q
      rw [this] at q
      simp at q
      exact Or.inr ⟨by omega, q.symm⟩
  refine ⟨by simp [r1], fun i j x q1 q2 => ?_, fun i x q => ?_, fun i d q => ?_⟩
  · rcases hin i x q1 with ⟨u1, u2⟩ | ⟨u1, u2⟩ <;> rcases hin j x q2 with ⟨v1, v2⟩ | ⟨v1, v2⟩
    · exact r2 _ _ _ u1 v1
    · subst v2; exact absurd (r3 _ _ u1).1 (Nat.lt_irrefl _)
    · subst u2; exact absurd (r3 _ _ v1).1 (Nat.lt_irrefl _)
    · omega
  · rcases hin i x q with ⟨u1, u2⟩ | ⟨u1, u2⟩
    · have := r3 _ _ u1; exact ⟨Nat.lt_of_lt_of_le this.1 E.1, this.2⟩
    · subst u2; exact ⟨hlt, fun _ => hn⟩
  · by_cases ci : i < H.length
    · rw [List.getElem?_append_left ci] at q
      obtain ⟨x, e1, e2⟩ := r4 i d q
      exact ⟨x, Pre.app am _ _ _ e1, e2.ext E (Pre.app am _)⟩
    · rw [List.getElem?_append_right (by omega)] at q
      have : i - H.length = 0 := by
        by_cases z : i - H.length = 0
        · exact z
        · rw [List.getElem?_eq_none (by simp; omega)] at q; cases q
      rw [this] at q
      simp at q; subst q
      have e : i = am.length := by omega
      exact ⟨h.size, by rw [e]; simp, hc⟩
/-- a cell changed in place -/
theorem HR.upd {i sl : Nat} {v : Value} (W : Wr h h' a sl v) (r : HR P C Z n0 am H h) (hi : am[i]? = some a) (hc : CR P C Z am c h' a) : HR P C Z n0 am (H.set i c) h' := by
  obtain ⟨r1, r2, r3, r4⟩ := r
  refine ⟨by simp [r1], r2, fun j x q => by rw [W.size]; exact r3 _ _ q, fun j d q => ?_⟩
  rw [List.getElem?_set] at q
  by_cases e : i = j
  · subst e
    simp only [if_true] at q
    split at q
    · cases q; exact ⟨a, hi, hc⟩
    · cases q
  · rw [if_neg e] at q
    obtain ⟨x, e1, e2⟩ := r4 j d q
    exact ⟨x, e1, e2.other W fun q => e (r2 _ _ _ hi (q ▸ e1))⟩
theorem inb_spec {n : Nat} {j : Int32} (h : inb n j = true) : ¬ (j < 0 ∨ n ≤ j.toNatClampNeg) := by
  simp only [inb, Bool.and_eq_true, Bool.not_eq_true', decide_eq_false_iff_not] at h
  have h2 : j.toNatClampNeg < n := Nat.le_of_ble_eq_true h.2
  rintro (q | q)
  · exact h.1 q
  · omega
theorem inb_lt {n : Nat} {j : Int32} (h : inb n j = true) : j.toNatClampNeg < n := by
  have := inb_spec h; exact Nat.lt_of_not_le fun q => this (Or.inr q)
theorem rd_at {xs : List Int32} {j : Int32} (h : inb xs.length j = true) : xs[j.toNatClampNeg]? = some (rd xs j) := by
  rw [rd, List.getD_eq_getElem?_getD, List.getElem?_eq_getElem (inb_lt h)]; rfl
theorem rdL_at {xs : List Int64} {j : Int32} (h : inb xs.length j = true) : xs[j.toNatClampNeg]? = some (rdL xs j) := by
  rw [rdL, List.getD_eq_getElem?_getD, List.getElem?_eq_getElem (inb_lt h)]; rfl
theorem CR.wrI {t : Nat} {xs : List Int32} {j x : Int32} (W : Wr h h' a j.toNatClampNeg (.int x)) (r : CR P C Z am (.inr (.inl (t, xs))) h a) : CR P C Z am (.inr (.inl (t, wr xs j x))) h' a := by
  obtain ⟨cl, r1, r2, r3⟩ := r
  refine ⟨_, r1.same W, by rw [sz_set, r2]; simp [wr], fun i y q => ?_⟩
  unfold wr at q
  rw [List.getElem?_set] at q
  by_cases e : j.toNatClampNeg = i
  · rw [if_pos e] at q
    split at q
    · cases q; subst e
      have hs : j.toNatClampNeg < cl.slots.size := by omega
      simp [Cell.setSlot, hs]
    · cases q
  · rw [if_neg e] at q
    simp only [Cell.setSlot]
    rw [Array.getElem?_setIfInBounds_ne e]; exact r3 _ _ q
theorem CR.wrJ {xs : List Int64} {j : Int32} {x : Int64} (W : Wr h h' a j.toNatClampNeg (.long x)) (r : CR P C Z am (.inr (.inr xs)) h a) : CR P C Z am (.inr (.inr (wrL xs j x))) h' a := by
  obtain ⟨cl, r1, r2, r3⟩ := r
  refine ⟨_, r1.same W, by rw [sz_set, r2]; simp [wrL], fun i y q => ?_⟩
  unfold wrL at q
  rw [List.getElem?_set] at q
  by_cases e : j.toNatClampNeg = i
  · rw [if_pos e] at q
    split at q
    · cases q; subst e
      have hs : j.toNatClampNeg < cl.slots.size := by omega
      simp [Cell.setSlot, hs]
    · cases q
  · rw [if_neg e] at q
    simp only [Cell.setSlot]
    rw [Array.getElem?_setIfInBounds_ne e]; exact r3 _ _ q
end Heap
/-! ## what the sheet's words must say -/
def tyOk : Nat → FieldType → Bool
  | 0, .int => true
  | 1, .boolean => true
  | 2, .long => true
  | 3, .array _ => true
  | _, _ => false
def rcv (q : Nat) : Nat := match q with | 0 => 0 | _ => 1
def KindOk (P : Prog) (nm : Nat → MethodName) (C : String) (Z : State) (a0 : Array Value) (q k : Nat) : Prop := match q with
  | 0 => (Cond.static (nm k)).before a0 Z = true
  | 1 => (nm k).name = "<init>" ∧ (Cond.instanceMethod (nm k)).before a0 Z = true ∧ P.ret k = none
  | 2 => (Cond.declares (nm k)).before a0 Z = true ∧ (Cond.instanceMethod (nm k)).before a0 Z = true ∧ (Cond.selects C (nm k) (nm k)).before a0 Z = true
  | _ => (nm k).cls = C ∧ (Cond.instanceMethod (nm k)).before a0 Z = true ∧ (Cond.privateMethod (nm k)).before a0 Z = true
def CallOk (P : Prog) (nm : Nat → MethodName) (bc : Nat → ByteArray) (cn : Nat → String) (C : String) (Z : State) (a0 : Array Value) (c j q k : Nat) : Prop :=
  (Cond.methodLink (cn c) j (nm k)).before a0 Z = true ∧ (Cond.code (nm k) (bc k) (P.maxL k) (P.ret k)).before a0 Z = true ∧ (Cond.initialized (nm k).cls).before a0 Z = true ∧
      (∃ ps r, parseMethodDescriptor (nm k).desc = some ⟨ps, r⟩ ∧ P.pops k = ps.length + rcv q) ∧ plainName (nm k).cls = true ∧ ((nm k).cls ≠ "java/lang/invoke/MethodHandle" ∧ (nm k).cls ≠ "java/lang/invoke/VarHandle") ∧ (nm k).cls = cn (P.cls k) ∧ (P.ini k = true → (nm k).name = "<init>" ∧ (nm k).cls = C) ∧ KindOk P nm C Z a0 q k
def LinkOk (P : Prog) (nm : Nat → MethodName) (bc : Nat → ByteArray) (cn : Nat → String) (C : String) (Z : State) (a0 : Array Value) (c j q k : Nat) : Prop := match q with
  | 4 => (Cond.methodLink (cn c) j Lib.objectInit).before a0 Z = true ∧ (Cond.instanceMethod Lib.objectInit).before a0 Z = true ∧ (Cond.code Lib.objectInit ⟨#[0xb1]⟩ 1 none).before a0 Z = true
  | 5 => (Cond.classLink (cn c) j C).before a0 Z = true
  | q => CallOk P nm bc cn C Z a0 c j q k
def KonOk (cn : Nat → String) (Z : State) (a0 : Array Value) (c j : Nat) (v : Value) : Prop := match v with
  | .int x => (Cond.constant (cn c) j x).before a0 Z = true
  | .long x => (Cond.constantLong (cn c) j x).before a0 Z = true
  | _ => False
def Good (P : Prog) (nm : Nat → MethodName) (bc : Nat → ByteArray) (cn : Nat → String) (C : String) (Z : State) (a0 : Array Value) : Prop :=
  (∀ k pc i np, P.code k pc = some (i, np) → ∃ len, decode (bc k) pc = .ok (i, len) ∧ np = pc + len ∧ (ilen i = 0 ∨ len = ilen i)) ∧
  (∀ c j f, P.fld c j = some f → ∃ n d t fin, P.fields[f]? = some (n, d, t, fin) ∧ (Cond.fieldLink (cn c) j C n d).before a0 Z = true) ∧
  (∀ (f : Nat) n d t (fin : Bool), P.fields[f]? = some (n, d, t, fin) → (bif fin then (Cond.laysFinal C C n d).before a0 Z else (Cond.lays C C n d).before a0 Z) = true ∧ ∃ ty, parseFieldDescriptor d = some ty ∧ tyOk t ty = true ∧ defaultValue ty = dflt t) ∧
  (∀ (f g : Nat) n d t (fin : Bool) n' d' t' (fin' : Bool), P.fields[f]? = some (n, d, t, fin) → P.fields[g]? = some (n', d', t', fin') → f ≠ g → n ≠ n') ∧
  (∀ c j v, P.kon c j = some v → KonOk cn Z a0 c j v) ∧
  (Cond.instantiable C P.objN).before a0 Z = true ∧ (Cond.initialized C).before a0 Z = true ∧
  (∀ k pc t np, P.code k pc = some (.newarray t, np) → (Cond.arrayClass (newarray.typeOf t)).before a0 Z = true) ∧
  (∀ c j q k, P.link c j = some (q, k) → LinkOk P nm bc cn C Z a0 c j q k)
end Jvm.OwnX
namespace Jvm.OwnX
open Sem ClassFile Op Lib Jvm.Stand Jvm.Free Jvm.LawKit Jvm.RoadKit
section Sound
variable {p : Program} {l : Launch} {e : Env} {R : Room} {s : State} {m : MethodId} {args : Array Value} {below : List Frame} {meth : Method} {c : Code} {T : State} {locs : List Loc} {cells slots : Nat}
variable {P : Prog} {nm : Nat → MethodName} {bc : Nat → ByteArray} {cn : Nat → String} {C : String} {Z : State} {a0 : Array Value} {n0 : Nat}
/-- where the walk stands behind a step -/
def Behind (p : Program) (l : Launch) (e : Env) (R : Room) (s : State) (m : MethodId) (args : Array Value) (below : List Frame) (meth : Method) (c : Code) (P : Prog) (C : String) (Z : State) (n0 : Nat) (am : List Addr) (cells slots : Nat)
    (T : State) (pc : Nat) (ls : Array Slot) (st : List Value) (pc' : Nat) (L' : ALoc) (S' : List Value) (H' : AHeap) (dc ds : Nat) : Prop :=
  ∃ T' am' ls' st' locs', Stand p l e R s m args below meth c T' locs' (cells + dc) (slots + ds) ∧ LR am' L' ls' ∧ ls'.size = ls.size ∧ SR am' S' st' ∧ HR P C Z n0 am' H' T'.heap ∧ Pre am am' ∧ Fr n0 locs' ∧ n0 ≤ T'.heap.size ∧
    ∀ target, Steps p.tables e below (T'.setTop (mkF m pc' ls' st')) target → Steps p.tables e below (T.setTop (mkF m pc ls st)) target
theorem Behind.plain {am : List Addr} {H : AHeap} {pc pc' : Nat} {L' : ALoc} {S' : List Value} {ls ls' : Array Slot} {st st' : List Value} (X : Stand p l e R s m args below meth c T locs cells slots) (hL : LR am L' ls') (hz : ls'.size = ls.size) (hS : SR am S' st') (hH : HR P C Z n0 am H T.heap) (hF : Fr n0 locs) (hn : n0 ≤ T.heap.size)
    (hs : ∀ target, Steps p.tables e below (T.setTop (mkF m pc' ls' st')) target → Steps p.tables e below (T.setTop (mkF m pc ls st)) target) : Behind p l e R s m args below meth c P C Z n0 am cells slots T pc ls st pc' L' S' H (H.length - H.length) (hsz P H - hsz P H) :=
  ⟨T, am, ls', st', locs, by simpa using X, hL, hz, hS, hH, Pre.refl _, hF, hn, hs⟩
theorem Behind.plain' {T' : State} {am : List Addr} {H : AHeap} {pc pc' : Nat} {L' : ALoc} {S' : List Value} {ls ls' : Array Slot} {st st' : List Value} (X : Stand p l e R s m args below meth c T' locs cells slots) (eT : T'.heap = T.heap) (hL : LR am L' ls') (hz : ls'.size = ls.size) (hS : SR am S' st') (hH : HR P C Z n0 am H T.heap) (hF : Fr n0 locs) (hn : n0 ≤ T.heap.size)
    (hs : ∀ target, Steps p.tables e below (T'.setTop (mkF m pc' ls' st')) target → Steps p.tables e below (T.setTop (mkF m pc ls st)) target) : Behind p l e R s m args below meth c P C Z n0 am cells slots T pc ls st pc' L' S' H (H.length - H.length) (hsz P H - hsz P H) :=
  ⟨T', am, ls', st', locs, by simpa using X, hL, hz, hS, by rw [eT]; exact hH, Pre.refl _, hF, by rw [eT]; exact hn, hs⟩
theorem tgt_spec {pc t : Nat} {o : Int} (h : tgt pc o = some t) : 0 ≤ (pc : Int) + o ∧ ((pc : Int) + o).toNat = t := by
  unfold tgt at h
  split at h
  · rename_i n hn; cases h; rw [hn]; exact ⟨Int.natCast_nonneg _, rfl⟩
  · cases h
theorem hsz_app (P : Prog) : ∀ (H : AHeap) (c : ACell), hsz P (H ++ [c]) = hsz P H + csz P.objN c
  | [], c => by simp [hsz]
  | x :: r, c => by simp only [List.cons_append, hsz, hsz_app P r c]; omega
theorem hsz_append (P : Prog) : ∀ (H T : AHeap), hsz P (H ++ T) = hsz P H + hsz P T
  | [], T => by simp [hsz]
  | x :: r, T => by simp only [List.cons_append, hsz, hsz_append P r T]; omega
theorem hsz_set (P : Prog) : ∀ (H : AHeap) (i : Nat) (c c' : ACell), H[i]? = some c' → csz P.objN c = csz P.objN c' → hsz P (H.set i c) = hsz P H
  | [], i, c, c', h, _ => by simp at h
  | x :: r, 0, c, c', h, e => by simp at h; subst h; simp [hsz, e]
  | x :: r, i + 1, c, c', h, e => by simp only [List.set_cons_succ, hsz]; rw [List.getElem?_cons_succ] at h; rw [hsz_set P r i c c' h e]
/-- a write -/
theorem Behind.write {T' : State} {am : List Addr} {H : AHeap} {i sl : Nat} {cc cc' : ACell} {a : Addr} {w : Value} {h' : Heap} {pc pc' : Nat} {L' : ALoc} {S' : List Value} {ls : Array Slot} {st st' : List Value} (X : Stand p l e R s m args below meth c T' (locs ++ [⟨a, sl⟩]) cells slots) (eT : T'.heap = h') (W : Wr T.heap h' a sl w)
    (hL : LR am L' ls) (hS : SR am S' st') (hH : HR P C Z n0 am H T.heap) (hi : am[i]? = some a) (hro : P.ro ≤ i) (hc' : H[i]? = some cc') (hcs : csz P.objN cc = csz P.objN cc') (hC : CR P C Z am cc h' a) (hF : Fr n0 locs) (hn : n0 ≤ T.heap.size)
    (hs : ∀ target, Steps p.tables e below (T'.setTop (mkF m pc' ls st')) target → Steps p.tables e below (T.setTop (mkF m pc ls st)) target) :
    Behind p l e R s m args below meth c P C Z n0 am cells slots T pc ls st pc' L' S' (H.set i cc) ((H.set i cc).length - H.length) (hsz P (H.set i cc) - hsz P H) := by
  rw [hsz_set P H i cc cc' hc' hcs]
  refine ⟨T', am, ls, st', _, by simpa using X, hL, rfl, hS, by rw [eT]; exact hH.upd W hi hC, Pre.refl _, Fr.snoc X hF ((hH.2.2.1 _ _ hi).2 hro), by rw [eT, W.size]; exact hn, hs⟩
theorem arr_new {am : List Addr} {h h' : Heap} {cA : ClassId} {q : Nat} {n : Int32} {t : ArrayType} (ht : atyOf t = some q) (hn : ¬ n < 0) (A : Arr Z h' h.size (newA cA (newarray.typeOf t) n) (newarray.typeOf t)) : CR P C Z am (newC q n.toNatClampNeg) h' h.size := by
  have key : ∀ {d : Value}, ∀ j, (Array.replicate n.toNatClampNeg d)[j]? = if j < n.toNatClampNeg then some d else none := fun j => by rw [Array.getElem?_replicate]
  cases t <;> simp only [atyOf, Option.some.injEq, reduceCtorEq] at ht <;> subst ht
  · refine ⟨_, A, by simp [newA], fun j x q => ?_⟩
    rw [List.getElem?_replicate] at q
    split at q
    · cases q; simp only [newA]; rw [key, if_pos (by assumption)]; rfl
    · cases q
  · refine ⟨_, A, by simp [newA], fun j x q => ?_⟩
    rw [List.getElem?_replicate] at q
    split at q
    · cases q; simp only [newA]; rw [key, if_pos (by assumption)]; rfl
    · cases q
  · refine ⟨_, A, by simp [newA], fun j x q => ?_⟩
    rw [List.getElem?_replicate] at q
    split at q
    · cases q; simp only [newA]; rw [key, if_pos (by assumption)]; rfl
    · cases q
  · refine ⟨_, A, by simp [newA], fun j x q => ?_⟩
    rw [List.getElem?_replicate] at q
    split at q
    · cases q; simp only [newA]; rw [key, if_pos (by assumption)]; rfl
    · cases q
theorem csz_new {t : ArrayType} {q : Nat} (N n : Nat) (ht : atyOf t = some q) : csz N (newC q n) = n := by
  cases t <;> simp only [atyOf, Option.some.injEq, reduceCtorEq] at ht <;> subst ht <;> simp [newC, csz]
set_option maxHeartbeats 4000000 in
theorem step_sound (G : Good P nm bc cn C Z a0) {k pc np pc' : Nat} {i : Instr} {L L' : ALoc} {S S' : List Value} {H H' : AHeap} (hcode : P.code k pc = some (i, np)) (h : step P k i np pc L S H = some (pc', L', S', H'))
    (X : Stand p l e R s m args below meth c T locs cells slots) (hx : p.tables.exec = Jvm.exec) (hZ : Z.Warmed39 s.vm) (hby : c.code = bc k) (hml : c.maxLocals = P.maxL k) (hown : s.vm.findClass (cn (P.cls k)) = some m.cls) (hini : P.ini k = true → meth.name = "<init>" ∧ cn (P.cls k) = C)
    (hrf : P.rf k ≤ R.frames) (hrl : P.rl k ≤ R.locals) (hcells : cells + (H'.length - H.length) ≤ R.cells) (hslots : slots + (hsz P H' - hsz P H) ≤ R.slots) {am : List Addr} {ls : Array Slot} {st : List Value} (hlz : ls.size = P.maxL k) (hL : LR am L ls) (hS : SR am S st) (hH : HR P C Z n0 am H T.heap) (hF : Fr n0 locs) (hn : n0 ≤ T.heap.size) :
    Behind p l e R s m args below meth c P C Z n0 am cells slots T pc ls st pc' L' S' H' (H'.length - H.length) (hsz P H' - hsz P H) := by
  obtain ⟨G1, G2, G3, G4, G5, G6, G7, G8, G9⟩ := G
  obtain ⟨len, hdec, rfl, hlen⟩ := G1 _ _ _ _ hcode
  have hd : decode c.code pc = .ok (i, len) := by rw [hby]; exact hdec
  cases i
  case iload_n n =>
    simp only [step] at h
    obtain rfl := hlen.resolve_left (by simp [ilen])
    cases hl : loadI L n.val with
    | none => simp [hl] at h
    | some x =>
      simp only [hl, Option.some.injEq, Prod.mk.injEq] at h; obtain ⟨rfl, rfl, rfl, rfl⟩ := h
      exact Behind.plain X hL rfl ⟨_, _, rfl, rfl, hS⟩ hH hF hn fun target hr => XS.iloadN X.here hx rfl (g := mkF m pc ls st) hd (hL.int hl) hr
  case iload n =>
    simp only [step] at h
    obtain rfl := hlen.resolve_left (by simp [ilen])
    cases hl : loadI L n with
    | none => simp [hl] at h
    | some x =>
      simp only [hl, Option.some.injEq, Prod.mk.injEq] at h; obtain ⟨rfl, rfl, rfl, rfl⟩ := h
      exact Behind.plain X hL rfl ⟨_, _, rfl, rfl, hS⟩ hH hF hn fun target hr => XS.iload X.here hx rfl (g := mkF m pc ls st) hd (hL.int hl) hr
  case lload_n n =>
    simp only [step] at h
    obtain rfl := hlen.resolve_left (by simp [ilen])
    cases hl : loadJ L n.val with
    | none => simp [hl] at h
    | some x =>
      simp only [hl, Option.some.injEq, Prod.mk.injEq] at h; obtain ⟨rfl, rfl, rfl, rfl⟩ := h
      exact Behind.plain X hL rfl ⟨_, _, rfl, rfl, hS⟩ hH hF hn fun target hr => XS.lloadN X.here hx rfl (g := mkF m pc ls st) hd (hL.long hl) hr
  case lload n =>
    simp only [step] at h
    obtain rfl := hlen.resolve_left (by simp [ilen])
    cases hl : loadJ L n with
    | none => simp [hl] at h
    | some x =>
      simp only [hl, Option.some.injEq, Prod.mk.injEq] at h; obtain ⟨rfl, rfl, rfl, rfl⟩ := h
      exact Behind.plain X hL rfl ⟨_, _, rfl, rfl, hS⟩ hH hF hn fun target hr => XS.lload X.here hx rfl (g := mkF m pc ls st) hd (hL.long hl) hr
  case aload_n n =>
    simp only [step] at h
    obtain rfl := hlen.resolve_left (by simp [ilen])
    cases hl : loadA L n.val with
    | none => simp [hl] at h
    | some x =>
      simp only [hl, Option.some.injEq, Prod.mk.injEq] at h; obtain ⟨rfl, rfl, rfl, rfl⟩ := h
      obtain ⟨a, ha, hl'⟩ := hL.ref hl
      exact Behind.plain X hL rfl ⟨_, _, rfl, ⟨a, ha, rfl⟩, hS⟩ hH hF hn fun target hr => XS.aloadN X.here hx rfl (g := mkF m pc ls st) hd hl' rfl hr
  case aload n =>
    simp only [step] at h
    obtain rfl := hlen.resolve_left (by simp [ilen])
    cases hl : loadA L n with
    | none => simp [hl] at h
    | some x =>
      simp only [hl, Option.some.injEq, Prod.mk.injEq] at h; obtain ⟨rfl, rfl, rfl, rfl⟩ := h
      obtain ⟨a, ha, hl'⟩ := hL.ref hl
      exact Behind.plain X hL rfl ⟨_, _, rfl, ⟨a, ha, rfl⟩, hS⟩ hH hF hn fun target hr => XS.aload X.here hx rfl (g := mkF m pc ls st) hd hl' rfl hr
  case istore_n n =>
    simp only [step] at h
    obtain rfl := hlen.resolve_left (by simp [ilen])
    split at h
    · rename_i x r
      cases hl : lput L n.val (.int x) with
      | none => simp [hl] at h
      | some L2 =>
        simp only [hl, Option.some.injEq, Prod.mk.injEq] at h; obtain ⟨rfl, rfl, rfl, rfl⟩ := h
        obtain ⟨_, _, rfl, rfl, hr'⟩ := hS
        obtain ⟨l', h1, h2, h3⟩ := hL.put (w := .int x) hl rfl rfl
        exact Behind.plain X h3 h2 hr' hH hF hn fun target hr => XS.istoreN X.here hx rfl (g := mkF m pc ls _) hd rfl h1 hr
    · cases h
  case istore n =>
    simp only [step] at h
    obtain rfl := hlen.resolve_left (by simp [ilen])
    split at h
    · rename_i x r
      cases hl : lput L n (.int x) with
      | none => simp [hl] at h
      | some L2 =>
        simp only [hl, Option.some.injEq, Prod.mk.injEq] at h; obtain ⟨rfl, rfl, rfl, rfl⟩ := h
        obtain ⟨_, _, rfl, rfl, hr'⟩ := hS
        obtain ⟨l', h1, h2, h3⟩ := hL.put (w := .int x) hl rfl rfl
        exact Behind.plain X h3 h2 hr' hH hF hn fun target hr => XS.istore X.here hx rfl (g := mkF m pc ls _) hd rfl h1 hr
    · cases h
  case lstore_n n =>
    simp only [step] at h
    obtain rfl := hlen.resolve_left (by simp [ilen])
    split at h
    · rename_i x r
      cases hl : lputL L n.val x with
      | none => simp [hl] at h
      | some L2 =>
        simp only [hl, Option.some.injEq, Prod.mk.injEq] at h; obtain ⟨rfl, rfl, rfl, rfl⟩ := h
        obtain ⟨_, _, rfl, rfl, hr'⟩ := hS
        obtain ⟨l', h1, h2, h3⟩ := hL.putL hl
        exact Behind.plain X h3 h2 hr' hH hF hn fun target hr => XS.lstoreN X.here hx rfl (g := mkF m pc ls _) hd rfl h1 hr
    · cases h
  case lstore n =>
    simp only [step] at h
    obtain rfl := hlen.resolve_left (by simp [ilen])
    split at h
    · rename_i x r
      cases hl : lputL L n x with
      | none => simp [hl] at h
      | some L2 =>
        simp only [hl, Option.some.injEq, Prod.mk.injEq] at h; obtain ⟨rfl, rfl, rfl, rfl⟩ := h
        obtain ⟨_, _, rfl, rfl, hr'⟩ := hS
        obtain ⟨l', h1, h2, h3⟩ := hL.putL hl
        exact Behind.plain X h3 h2 hr' hH hF hn fun target hr => XS.lstore X.here hx rfl (g := mkF m pc ls _) hd rfl h1 hr
    · cases h
  case astore_n n =>
    simp only [step] at h
    obtain rfl := hlen.resolve_left (by simp [ilen])
    split at h
    · rename_i x r
      cases hl : lput L n.val (.ref x) with
      | none => simp [hl] at h
      | some L2 =>
        simp only [hl, Option.some.injEq, Prod.mk.injEq] at h; obtain ⟨rfl, rfl, rfl, rfl⟩ := h
        obtain ⟨_, _, rfl, ⟨a, ha, rfl⟩, hr'⟩ := hS
        obtain ⟨l', h1, h2, h3⟩ := hL.put (w := .ref a) hl ⟨a, ha, rfl⟩ rfl
        exact Behind.plain X h3 h2 hr' hH hF hn fun target hr => XS.astoreN X.here hx rfl (g := mkF m pc ls _) hd rfl rfl h1 hr
    · cases h
  case astore n =>
    simp only [step] at h
    obtain rfl := hlen.resolve_left (by simp [ilen])
    split at h
    · rename_i x r
      cases hl : lput L n (.ref x) with
      | none => simp [hl] at h
      | some L2 =>
        simp only [hl, Option.some.injEq, Prod.mk.injEq] at h; obtain ⟨rfl, rfl, rfl, rfl⟩ := h
        obtain ⟨_, _, rfl, ⟨a, ha, rfl⟩, hr'⟩ := hS
        obtain ⟨l', h1, h2, h3⟩ := hL.put (w := .ref a) hl ⟨a, ha, rfl⟩ rfl
        exact Behind.plain X h3 h2 hr' hH hF hn fun target hr => XS.astore X.here hx rfl (g := mkF m pc ls _) hd rfl rfl h1 hr
    · cases h
  case iinc n cst =>
    simp only [step] at h
    obtain rfl := hlen.resolve_left (by simp [ilen])
    cases hl : loadI L n with
    | none => simp [hl] at h
    | some x =>
      cases hp : lput L n (.int (x + Int32.ofInt cst)) with
      | none => simp [hl, hp] at h
      | some L2 =>
        simp only [hl, hp, Option.some.injEq, Prod.mk.injEq] at h; obtain ⟨rfl, rfl, rfl, rfl⟩ := h
        obtain ⟨l', h1, h2, h3⟩ := hL.put (w := .int (x + Int32.ofInt cst)) hp rfl rfl
        exact Behind.plain X h3 h2 hS hH hF hn fun target hr => XS.iinc X.here hx rfl (g := mkF m pc ls st) hd (hL.int hl) h1 hr
  case iconst q =>
    simp only [step] at h
    obtain rfl := hlen.resolve_left (by simp [ilen])
    simp only [Option.some.injEq, Prod.mk.injEq] at h; obtain ⟨rfl, rfl, rfl, rfl⟩ := h
    exact Behind.plain X hL rfl ⟨_, _, rfl, rfl, hS⟩ hH hF hn fun target hr => XS.iconst X.here hx rfl (g := mkF m pc ls st) hd hr
  case bipush q =>
    simp only [step] at h
    obtain rfl := hlen.resolve_left (by simp [ilen])
    simp only [Option.some.injEq, Prod.mk.injEq] at h; obtain ⟨rfl, rfl, rfl, rfl⟩ := h
    exact Behind.plain X hL rfl ⟨_, _, rfl, rfl, hS⟩ hH hF hn fun target hr => XS.bipush X.here hx rfl (g := mkF m pc ls st) hd hr
  case sipush q =>
    simp only [step] at h
    obtain rfl := hlen.resolve_left (by simp [ilen])
    simp only [Option.some.injEq, Prod.mk.injEq] at h; obtain ⟨rfl, rfl, rfl, rfl⟩ := h
    exact Behind.plain X hL rfl ⟨_, _, rfl, rfl, hS⟩ hH hF hn fun target hr => XS.sipush X.here hx rfl (g := mkF m pc ls st) hd hr
  case lconst q =>
    simp only [step] at h
    obtain rfl := hlen.resolve_left (by simp [ilen])
    simp only [Option.some.injEq, Prod.mk.injEq] at h; obtain ⟨rfl, rfl, rfl, rfl⟩ := h
    exact Behind.plain X hL rfl ⟨_, _, rfl, rfl, hS⟩ hH hF hn fun target hr => XS.lconst X.here hx rfl (g := mkF m pc ls st) hd hr
  case ldc j =>
    simp only [step] at h
    obtain rfl := hlen.resolve_left (by simp [ilen])
    split at h
    · rename_i x hk
      simp only [Option.some.injEq, Prod.mk.injEq] at h; obtain ⟨rfl, rfl, rfl, rfl⟩ := h
      have w := G5 _ _ _ hk
      exact Behind.plain X hL rfl ⟨_, _, rfl, rfl, hS⟩ hH hF hn fun target hr => X.ldcInt hx hown (mvT hZ w) (g := mkF m pc ls st) rfl hd _ hr
    · cases h
  case ldc2_w j =>
    simp only [step] at h
    obtain rfl := hlen.resolve_left (by simp [ilen])
    split at h
    · rename_i x hk
      simp only [Option.some.injEq, Prod.mk.injEq] at h; obtain ⟨rfl, rfl, rfl, rfl⟩ := h
      have w := G5 _ _ _ hk
      exact Behind.plain X hL rfl ⟨_, _, rfl, rfl, hS⟩ hH hF hn fun target hr => X.ldc2Long hx hown (mvT hZ w) (g := mkF m pc ls st) rfl hd _ hr
    · cases h
  case idiv =>
    simp only [step] at h
    obtain rfl := hlen.resolve_left (by simp [ilen])
    split at h
    · rename_i y x r
      by_cases hy : y = 0
      · simp [hy] at h
      · simp only [hy, decide_false, cond_false, Option.some.injEq, Prod.mk.injEq] at h; obtain ⟨rfl, rfl, rfl, rfl⟩ := h
        obtain ⟨_, _, rfl, rfl, _, _, rfl, rfl, hr'⟩ := hS
        exact Behind.plain X hL rfl ⟨_, _, rfl, rfl, hr'⟩ hH hF hn fun target hr => XS.idiv X.here hx rfl (g := mkF m pc ls _) hd rfl hy hr
    · cases h
  case irem =>
    simp only [step] at h
    obtain rfl := hlen.resolve_left (by simp [ilen])
    split at h
    · rename_i y x r
      by_cases hy : y = 0
      · simp [hy] at h
      · simp only [hy, decide_false, cond_false, Option.some.injEq, Prod.mk.injEq] at h; obtain ⟨rfl, rfl, rfl, rfl⟩ := h
        obtain ⟨_, _, rfl, rfl, _, _, rfl, rfl, hr'⟩ := hS
        exact Behind.plain X hL rfl ⟨_, _, rfl, rfl, hr'⟩ hH hF hn fun target hr => iremM X hx rfl (g := mkF m pc ls _) hd rfl hy hr
    · cases h
  case lshl =>
    simp only [step] at h
    obtain rfl := hlen.resolve_left (by simp [ilen])
    split at h
    · rename_i y x r
      simp only [Option.some.injEq, Prod.mk.injEq] at h; obtain ⟨rfl, rfl, rfl, rfl⟩ := h
      obtain ⟨_, _, rfl, rfl, _, _, rfl, rfl, hr'⟩ := hS
      exact Behind.plain X hL rfl ⟨_, _, rfl, rfl, hr'⟩ hH hF hn fun target hr => XS.lshl X.here hx rfl (g := mkF m pc ls _) hd rfl hr
    · cases h
  case lushr =>
    simp only [step] at h
    obtain rfl := hlen.resolve_left (by simp [ilen])
    split at h
    · rename_i y x r
      simp only [Option.some.injEq, Prod.mk.injEq] at h; obtain ⟨rfl, rfl, rfl, rfl⟩ := h
      obtain ⟨_, _, rfl, rfl, _, _, rfl, rfl, hr'⟩ := hS
      exact Behind.plain X hL rfl ⟨_, _, rfl, rfl, hr'⟩ hH hF hn fun target hr => XS.lushr X.here hx rfl (g := mkF m pc ls _) hd rfl hr
    · cases h
  case lcmp =>
    simp only [step] at h
    obtain rfl := hlen.resolve_left (by simp [ilen])
    split at h
    · rename_i y x r
      simp only [Option.some.injEq, Prod.mk.injEq] at h; obtain ⟨rfl, rfl, rfl, rfl⟩ := h
      obtain ⟨_, _, rfl, rfl, _, _, rfl, rfl, hr'⟩ := hS
      exact Behind.plain X hL rfl ⟨_, _, rfl, rfl, hr'⟩ hH hF hn fun target hr => XS.lcmp X.here hx rfl (g := mkF m pc ls _) hd rfl hr
    · cases h
  case lneg =>
    simp only [step] at h
    obtain rfl := hlen.resolve_left (by simp [ilen])
    split at h
    · rename_i x r
      simp only [Option.some.injEq, Prod.mk.injEq] at h; obtain ⟨rfl, rfl, rfl, rfl⟩ := h
      obtain ⟨_, _, rfl, rfl, hr'⟩ := hS
      exact Behind.plain X hL rfl ⟨_, _, rfl, rfl, hr'⟩ hH hF hn fun target hr => XS.lneg X.here hx rfl (g := mkF m pc ls _) hd rfl hr
    · cases h
  case i2l =>
    simp only [step] at h
    obtain rfl := hlen.resolve_left (by simp [ilen])
    split at h
    · rename_i x r
      simp only [Option.some.injEq, Prod.mk.injEq] at h; obtain ⟨rfl, rfl, rfl, rfl⟩ := h
      obtain ⟨_, _, rfl, rfl, hr'⟩ := hS
      exact Behind.plain X hL rfl ⟨_, _, rfl, rfl, hr'⟩ hH hF hn fun target hr => XS.i2l X.here hx rfl (g := mkF m pc ls _) hd rfl hr
    · cases h
  case l2i =>
    simp only [step] at h
    obtain rfl := hlen.resolve_left (by simp [ilen])
    split at h
    · rename_i x r
      simp only [Option.some.injEq, Prod.mk.injEq] at h; obtain ⟨rfl, rfl, rfl, rfl⟩ := h
      obtain ⟨_, _, rfl, rfl, hr'⟩ := hS
      exact Behind.plain X hL rfl ⟨_, _, rfl, rfl, hr'⟩ hH hF hn fun target hr => XS.l2i X.here hx rfl (g := mkF m pc ls _) hd rfl hr
    · cases h
  case i2b =>
    simp only [step] at h
    obtain rfl := hlen.resolve_left (by simp [ilen])
    split at h
    · rename_i x r
      simp only [Option.some.injEq, Prod.mk.injEq] at h; obtain ⟨rfl, rfl, rfl, rfl⟩ := h
      obtain ⟨_, _, rfl, rfl, hr'⟩ := hS
      exact Behind.plain X hL rfl ⟨_, _, rfl, rfl, hr'⟩ hH hF hn fun target hr => XS.i2b X.here hx rfl (g := mkF m pc ls _) hd rfl hr
    · cases h
  case dup =>
    simp only [step] at h
    obtain rfl := hlen.resolve_left (by simp [ilen])
    split at h
    · rename_i x r
      simp only [Option.some.injEq, Prod.mk.injEq] at h; obtain ⟨rfl, rfl, rfl, rfl⟩ := h
      obtain ⟨_, _, rfl, ⟨a, ha, rfl⟩, hr'⟩ := hS
      exact Behind.plain X hL rfl ⟨_, _, rfl, ⟨a, ha, rfl⟩, _, _, rfl, ⟨a, ha, rfl⟩, hr'⟩ hH hF hn fun target hr => XS.dup X.here hx rfl (g := mkF m pc ls _) hd rfl rfl hr
    · rename_i x r
      simp only [Option.some.injEq, Prod.mk.injEq] at h; obtain ⟨rfl, rfl, rfl, rfl⟩ := h
      obtain ⟨_, _, rfl, rfl, hr'⟩ := hS
      exact Behind.plain X hL rfl ⟨_, _, rfl, rfl, _, _, rfl, rfl, hr'⟩ hH hF hn fun target hr => XS.dup X.here hx rfl (g := mkF m pc ls _) hd rfl rfl hr
    · cases h
  case dup2 =>
    simp only [step] at h
    obtain rfl := hlen.resolve_left (by simp [ilen])
    split at h
    · rename_i x y r
      simp only [Option.some.injEq, Prod.mk.injEq] at h; obtain ⟨rfl, rfl, rfl, rfl⟩ := h
      obtain ⟨_, _, rfl, rfl, _, _, rfl, ⟨a, ha, rfl⟩, hr'⟩ := hS
      exact Behind.plain X hL rfl ⟨_, _, rfl, rfl, _, _, rfl, ⟨a, ha, rfl⟩, _, _, rfl, rfl, _, _, rfl, ⟨a, ha, rfl⟩, hr'⟩ hH hF hn fun target hr => XT.dup2 X.here hx rfl (g := mkF m pc ls _) hd rfl rfl rfl hr
    · cases h
  case pop =>
    simp only [step] at h
    obtain rfl := hlen.resolve_left (by simp [ilen])
    split at h
    · rename_i x r
      simp only [Option.some.injEq, Prod.mk.injEq] at h; obtain ⟨rfl, rfl, rfl, rfl⟩ := h
      obtain ⟨_, _, rfl, rfl, hr'⟩ := hS
      exact Behind.plain X hL rfl hr' hH hF hn fun target hr => XS.pop X.here hx rfl (g := mkF m pc ls _) hd rfl rfl hr
    · rename_i x r
      simp only [Option.some.injEq, Prod.mk.injEq] at h; obtain ⟨rfl, rfl, rfl, rfl⟩ := h
      obtain ⟨_, _, rfl, ⟨a, ha, rfl⟩, hr'⟩ := hS
      exact Behind.plain X hL rfl hr' hH hF hn fun target hr => XS.pop X.here hx rfl (g := mkF m pc ls _) hd rfl rfl hr
    · cases h
  case goto o =>
    simp only [step] at h
    obtain rfl := hlen.resolve_left (by simp [ilen])
    cases ht : tgt pc o with
    | none => simp [ht] at h
    | some t =>
      simp only [ht, Option.some.injEq, Prod.mk.injEq] at h; obtain ⟨rfl, rfl, rfl, rfl⟩ := h
      exact Behind.plain X hL rfl hS hH hF hn fun target hr => XS.goto X.here hx rfl (g := mkF m pc ls st) (pc0 := pc) rfl hd (tgt_spec ht).1 (tgt_spec ht).2 hr
  case ifCond cd o =>
    simp only [step] at h
    obtain rfl := hlen.resolve_left (by simp [ilen])
    split at h
    · rename_i x r
      obtain ⟨_, _, rfl, rfl, hr'⟩ := hS
      cases hc : if_icmp.holds cd x 0
      · simp only [hc, cond_false, Option.some.injEq, Prod.mk.injEq] at h; obtain ⟨rfl, rfl, rfl, rfl⟩ := h
        exact Behind.plain X hL rfl hr' hH hF hn fun target hr => XS.ifNo X.here hx rfl (g := mkF m pc ls _) hd rfl ((if0 _ _).trans hc) hr
      · cases ht : tgt pc o with
        | none => simp [hc, ht] at h
        | some t =>
          simp only [hc, ht, cond_true, Option.some.injEq, Prod.mk.injEq] at h; obtain ⟨rfl, rfl, rfl, rfl⟩ := h
          exact Behind.plain X hL rfl hr' hH hF hn fun target hr => XS.ifYes X.here hx rfl (g := mkF m pc ls _) (pc0 := pc) rfl hd rfl ((if0 _ _).trans hc) (tgt_spec ht).1 (tgt_spec ht).2 hr
    · cases h
  case if_icmp cd o =>
    simp only [step] at h
    obtain rfl := hlen.resolve_left (by simp [ilen])
    split at h
    · rename_i y x r
      obtain ⟨_, _, rfl, rfl, _, _, rfl, rfl, hr'⟩ := hS
      cases hc : if_icmp.holds cd x y
      · simp only [hc, cond_false, Option.some.injEq, Prod.mk.injEq] at h; obtain ⟨rfl, rfl, rfl, rfl⟩ := h
        exact Behind.plain X hL rfl hr' hH hF hn fun target hr => XS.icmpNo X.here hx rfl (g := mkF m pc ls _) hd rfl hc hr
      · cases ht : tgt pc o with
        | none => simp [hc, ht] at h
        | some t =>
          simp only [hc, ht, cond_true, Option.some.injEq, Prod.mk.injEq] at h; obtain ⟨rfl, rfl, rfl, rfl⟩ := h
          exact Behind.plain X hL rfl hr' hH hF hn fun target hr => XS.icmpYes X.here hx rfl (g := mkF m pc ls _) (pc0 := pc) rfl hd rfl hc (tgt_spec ht).1 (tgt_spec ht).2 hr
    · cases h
  case tableswitch d lo hi offs =>
    simp only [step] at h
    split at h
    · rename_i x r
      obtain ⟨_, _, rfl, rfl, hr'⟩ := hS
      by_cases ho : x.toInt < lo ∨ x.toInt > hi
      · have ho' : (decide (x.toInt < lo) || decide (x.toInt > hi)) = true := by simpa using ho
        cases ht : tgt pc d with
        | none => simp [ho', ht] at h
        | some t =>
          simp only [ho', ht, cond_true, Option.some.injEq, Prod.mk.injEq] at h; obtain ⟨rfl, rfl, rfl, rfl⟩ := h
          exact Behind.plain X hL rfl hr' hH hF hn fun target hr => XS.tswOut X.here hx rfl (g := mkF m pc ls _) (pc0 := pc) rfl hd rfl ho (tgt_spec ht).1 (tgt_spec ht).2 hr
      · have ho' : (decide (x.toInt < lo) || decide (x.toInt > hi)) = false := by simpa using ho
        cases hq : offs.toList[(x.toInt - lo).toNat]? with
        | none => simp [ho', hq] at h
        | some o =>
          cases ht : tgt pc o with
          | none => simp [ho', hq, ht] at h
          | some t =>
            simp only [ho', hq, ht, cond_false, Option.some.injEq, Prod.mk.injEq] at h; obtain ⟨rfl, rfl, rfl, rfl⟩ := h
            exact Behind.plain X hL rfl hr' hH hF hn fun target hr => XS.tswIn X.here hx rfl (g := mkF m pc ls _) (pc0 := pc) rfl hd rfl ho (by rw [← Array.getElem?_toList]; exact hq) (tgt_spec ht).1 (tgt_spec ht).2 hr
    · cases h
  case getfield j =>
    simp only [step] at h
    obtain rfl := hlen.resolve_left (by simp [ilen])
    split at h
    · rename_i a r
      obtain ⟨_, _, rfl, ⟨b, hb, rfl⟩, hr'⟩ := hS
      cases hf : P.fld (P.cls k) j with
      | none => simp [hf] at h
      | some f =>
        cases hg : getC H a f with
        | none => simp [hf, hg] at h
        | some v =>
          simp only [hf, hg, Option.some.injEq, Prod.mk.injEq] at h; obtain ⟨rfl, rfl, rfl, rfl⟩ := h
          obtain ⟨n, d, t, fin, g1, g2⟩ := G2 _ _ _ hf
          unfold getC at hg
          split at hg
          · rename_i fs hfs
            obtain ⟨b', e1, e2, e3, e4⟩ := hH.2.2.2 _ _ hfs
            cases hb.symm.trans e1
            obtain ⟨w, e5, e6⟩ := e4 _ _ _ _ _ _ hg g1
            obtain ⟨T2, X2, e7, s2⟩ := getF X hx hZ hown (host := "") (Or.inl g2) Via.refl rfl e6 (g := mkF m pc ls _) rfl rfl hd
            exact Behind.plain' X2 e7 hL rfl ⟨w, _, rfl, e5, hr'⟩ hH hF hn s2
          · cases hg
    · cases h
  case putfield j =>
    simp only [step] at h
    obtain rfl := hlen.resolve_left (by simp [ilen])
    split at h
    · rename_i v a r
      obtain ⟨w0, _, rfl, hv0, _, _, rfl, ⟨b, hb, rfl⟩, hr'⟩ := hS
      cases hf : P.fld (P.cls k) j with
      | none => simp [hf] at h
      | some f =>
        obtain ⟨n, d, t, fin, g1, g2⟩ := G2 _ _ _ hf
        simp only [hf, g1] at h
        cases hq : (!fin || P.ini k) && Nat.ble P.ro a
        · simp [hq] at h
        · simp only [hq, cond_true] at h
          cases hv : conv t v with
          | none => simp [hv] at h
          | some v' =>
            simp only [hv] at h
            split at h
            · rename_i fs hfs
              cases hz : Nat.ble (f + 1) fs.length
              · simp [hz] at h
              · simp only [hz, cond_true, Option.some.injEq, Prod.mk.injEq] at h; obtain ⟨rfl, rfl, rfl, rfl⟩ := h
                obtain ⟨b', e1, e2, e3, e4⟩ := hH.2.2.2 _ _ hfs
                cases hb.symm.trans e1
                simp only [Bool.and_eq_true, Bool.or_eq_true, Bool.not_eq_true'] at hq
                have hro : P.ro ≤ a := Nat.le_of_ble_eq_true hq.2
                have hfl : f < fs.length := Nat.le_of_ble_eq_true hz
                obtain ⟨l1, ty, l2, l3, l4⟩ := G3 _ _ _ _ _ g1
                obtain ⟨w, hw, hnw, hfw⟩ : ∃ w, VR am v' w ∧ narrow ty w0 = w ∧ fits ty w = true := by
                  unfold conv at hv
                  split at hv
                  · cases hv; cases hv0; cases ty <;> simp only [tyOk, Bool.false_eq_true] at l3; exact ⟨_, rfl, rfl, rfl⟩
                  · cases hv; cases hv0; cases ty <;> simp only [tyOk, Bool.false_eq_true] at l3; exact ⟨_, rfl, rfl, fits_nar_bool _⟩
                  · cases hv; cases hv0; cases ty <;> simp only [tyOk, Bool.false_eq_true] at l3; exact ⟨_, rfl, rfl, rfl⟩
                  · cases hv; obtain ⟨z, hz1, rfl⟩ := hv0; cases ty <;> simp only [tyOk, Bool.false_eq_true] at l3; exact ⟨_, ⟨z, hz1, rfl⟩, rfl, rfl⟩
                  · cases hv
                obtain ⟨old, o1, o2⟩ := e4 f _ _ _ _ _ (List.getElem?_eq_getElem hfl) g1
                have hfin : (Cond.lays C C n d).before a0 Z = true ∨ ((Cond.laysFinal C C n d).before a0 Z = true ∧ cn (P.cls k) = C ∧ meth.name = "<init>") := by
                  cases fin
                  · exact Or.inl l1
                  · obtain ⟨q1, q2⟩ := hini (by simpa using hq.1); exact Or.inr ⟨l1, q2, q1⟩
                obtain ⟨T2, h2, X2, e7, W2, s2⟩ := putFN X hx hZ hown g2 Via.refl rfl o2 e2 hfin G6 l2 hnw hfw (g := mkF m pc ls _) rfl rfl hd
                refine Behind.write (T' := T2) X2 e7 W2 hL hr' hH hb hro hfs rfl ?_ hF hn s2
                refine ⟨e2.wr W2, by rw [List.length_set]; exact e3, fun j' u n' d' t' f' q1 q2 => ?_⟩
                rw [List.getElem?_set] at q1
                by_cases ej : f = j'
                · subst ej
                  rw [if_pos rfl, if_pos hfl] at q1
                  cases q1
                  rw [g1] at q2; cases q2
                  exact ⟨w, hw, o2.same W2⟩
                · rw [if_neg ej] at q1
                  obtain ⟨w', y1, y2⟩ := e4 _ _ _ _ _ _ q1 q2
                  obtain ⟨l1', ty', l2', -, -⟩ := G3 _ _ _ _ _ q2
                  have hl1 : Laid Z a0 C C n d := by cases fin; exact Or.inl l1; exact Or.inr l1
                  have hl2 : Laid Z a0 C C n' d' := by cases f'; exact Or.inl l1'; exact Or.inr l1'
                  exact ⟨w', y1, y2.other W2 (Or.inr (slot_ne hl2 hl1 (G4 _ _ _ _ _ _ _ _ _ _ q2 g1 (Ne.symm ej)) l2' l2))⟩
            · cases h
    · cases h
  case iaload =>
    simp only [step] at h
    obtain rfl := hlen.resolve_left (by simp [ilen])
    split at h
    · rename_i j a r
      obtain ⟨_, _, rfl, rfl, _, _, rfl, ⟨b, hb, rfl⟩, hr'⟩ := hS
      split at h
      · rename_i xs hxs
        cases hj : inb xs.length j
        · simp [hj] at h
        · simp only [hj, cond_true, Option.some.injEq, Prod.mk.injEq] at h; obtain ⟨rfl, rfl, rfl, rfl⟩ := h
          obtain ⟨b', e1, cl, A1, A2, A3⟩ := hH.2.2.2 _ _ hxs
          cases hb.symm.trans e1
          have hin := inb_spec hj
          rw [← A2] at hin
          exact Behind.plain X hL rfl ⟨_, _, rfl, rfl, hr'⟩ hH hF hn fun target hr => X.iaload hx A1.1 (State.isArrayOf_alike hZ.alike A1.2.1) A1.2.2 hin (A3 _ _ (rd_at hj)) (g := mkF m pc ls _) rfl rfl hd _ hr
      · rename_i xs hxs
        cases hj : inb xs.length j
        · simp [hj] at h
        · simp only [hj, cond_true, Option.some.injEq, Prod.mk.injEq] at h; obtain ⟨rfl, rfl, rfl, rfl⟩ := h
          obtain ⟨b', e1, cl, A1, A2, A3⟩ := hH.2.2.2 _ _ hxs
          cases hb.symm.trans e1
          have hin := inb_spec hj
          rw [← A2] at hin
          exact Behind.plain X hL rfl ⟨_, _, rfl, rfl, hr'⟩ hH hF hn fun target hr => X.iaload hx A1.1 (State.isArrayOf_alike hZ.alike A1.2.1) A1.2.2 hin (A3 _ _ (rd_at hj)) (g := mkF m pc ls _) rfl rfl hd _ hr
      · cases h
    · cases h
  case baload =>
    simp only [step] at h
    obtain rfl := hlen.resolve_left (by simp [ilen])
    split at h
    · rename_i j a r
      obtain ⟨_, _, rfl, rfl, _, _, rfl, ⟨b, hb, rfl⟩, hr'⟩ := hS
      split at h
      · rename_i xs hxs
        cases hj : inb xs.length j
        · simp [hj] at h
        · simp only [hj, cond_true, Option.some.injEq, Prod.mk.injEq] at h; obtain ⟨rfl, rfl, rfl, rfl⟩ := h
          obtain ⟨b', e1, cl, A1, A2, A3⟩ := hH.2.2.2 _ _ hxs
          cases hb.symm.trans e1
          have hin := inb_spec hj
          rw [← A2] at hin
          exact Behind.plain X hL rfl ⟨_, _, rfl, rfl, hr'⟩ hH hF hn fun target hr => X.baloadBooleans hx A1.1 (State.isArrayOf_alike hZ.alike A1.2.1) A1.2.2 hin (A3 _ _ (rd_at hj)) (g := mkF m pc ls _) rfl rfl hd _ hr
      · rename_i xs hxs
        cases hj : inb xs.length j
        · simp [hj] at h
        · simp only [hj, cond_true, Option.some.injEq, Prod.mk.injEq] at h; obtain ⟨rfl, rfl, rfl, rfl⟩ := h
          obtain ⟨b', e1, cl, A1, A2, A3⟩ := hH.2.2.2 _ _ hxs
          cases hb.symm.trans e1
          have hin := inb_spec hj
          rw [← A2] at hin
          exact Behind.plain X hL rfl ⟨_, _, rfl, rfl, hr'⟩ hH hF hn fun target hr => X.baloadBytes hx A1.1 (State.isArrayOf_alike hZ.alike A1.2.1) A1.2.2 hin (A3 _ _ (rd_at hj)) (g := mkF m pc ls _) rfl rfl hd _ hr
      · cases h
    · cases h
  case laload =>
    simp only [step] at h
    obtain rfl := hlen.resolve_left (by simp [ilen])
    split at h
    · rename_i j a r
      obtain ⟨_, _, rfl, rfl, _, _, rfl, ⟨b, hb, rfl⟩, hr'⟩ := hS
      split at h
      · rename_i xs hxs
        cases hj : inb xs.length j
        · simp [hj] at h
        · simp only [hj, cond_true, Option.some.injEq, Prod.mk.injEq] at h; obtain ⟨rfl, rfl, rfl, rfl⟩ := h
          obtain ⟨b', e1, cl, A1, A2, A3⟩ := hH.2.2.2 _ _ hxs
          cases hb.symm.trans e1
          have hin := inb_spec hj
          rw [← A2] at hin
          exact Behind.plain X hL rfl ⟨_, _, rfl, rfl, hr'⟩ hH hF hn fun target hr => X.laload hx A1.1 (State.isArrayOf_alike hZ.alike A1.2.1) A1.2.2 hin (A3 _ _ (rdL_at hj)) (g := mkF m pc ls _) rfl rfl hd _ hr
      · cases h
    · cases h
  case iastore =>
    simp only [step] at h
    obtain rfl := hlen.resolve_left (by simp [ilen])
    split at h
    · rename_i x j a r
      obtain ⟨_, _, rfl, rfl, _, _, rfl, rfl, _, _, rfl, ⟨b, hb, rfl⟩, hr'⟩ := hS
      cases hq : Nat.ble P.ro a
      · simp [hq] at h
      · simp only [hq, cond_true] at h
        have hro : P.ro ≤ a := Nat.le_of_ble_eq_true hq
        split at h
        · rename_i xs hxs
          cases hj : inb xs.length j
          · simp [hj] at h
          · simp only [hj, cond_true, Option.some.injEq, Prod.mk.injEq] at h; obtain ⟨rfl, rfl, rfl, rfl⟩ := h
            obtain ⟨b', e1, hcr⟩ := hH.2.2.2 _ _ hxs
            cases hb.symm.trans e1
            have hcr0 := hcr
            obtain ⟨cl, A1, A2, A3⟩ := hcr0
            have hin := inb_spec hj
            rw [← A2] at hin
            obtain ⟨T2, h2, X2, e7, W2, s2⟩ := stI X hx hZ rfl A1 hin (g := mkF m pc ls _) rfl rfl hd
            exact Behind.write (T' := T2) X2 e7 W2 hL hr' hH hb hro hxs (by simp [csz, wr, wrL]) (CR.wrI W2 hcr) hF hn s2
        · cases h
    · cases h
  case bastore =>
    simp only [step] at h
    obtain rfl := hlen.resolve_left (by simp [ilen])
    split at h
    · rename_i x j a r
      obtain ⟨_, _, rfl, rfl, _, _, rfl, rfl, _, _, rfl, ⟨b, hb, rfl⟩, hr'⟩ := hS
      cases hq : Nat.ble P.ro a
      · simp [hq] at h
      · simp only [hq, cond_true] at h
        have hro : P.ro ≤ a := Nat.le_of_ble_eq_true hq
        split at h
        · rename_i xs hxs
          cases hj : inb xs.length j
          · simp [hj] at h
          · simp only [hj, cond_true, Option.some.injEq, Prod.mk.injEq] at h; obtain ⟨rfl, rfl, rfl, rfl⟩ := h
            obtain ⟨b', e1, hcr⟩ := hH.2.2.2 _ _ hxs
            cases hb.symm.trans e1
            have hcr0 := hcr
            obtain ⟨cl, A1, A2, A3⟩ := hcr0
            have hin := inb_spec hj
            rw [← A2] at hin
            obtain ⟨T2, h2, X2, e7, W2, s2⟩ := stZ X hx hZ rfl A1 hin (g := mkF m pc ls _) rfl rfl hd
            exact Behind.write (T' := T2) X2 e7 W2 hL hr' hH hb hro hxs (by simp [csz, wr, wrL]) (CR.wrI W2 hcr) hF hn s2
        · rename_i xs hxs
          cases hj : inb xs.length j
          · simp [hj] at h
          · simp only [hj, cond_true, Option.some.injEq, Prod.mk.injEq] at h; obtain ⟨rfl, rfl, rfl, rfl⟩ := h
            obtain ⟨b', e1, hcr⟩ := hH.2.2.2 _ _ hxs
            cases hb.symm.trans e1
            have hcr0 := hcr
            obtain ⟨cl, A1, A2, A3⟩ := hcr0
            have hin := inb_spec hj
            rw [← A2] at hin
            obtain ⟨T2, h2, X2, e7, W2, s2⟩ := stB X hx hZ rfl A1 hin (g := mkF m pc ls _) rfl rfl hd
            exact Behind.write (T' := T2) X2 e7 W2 hL hr' hH hb hro hxs (by simp [csz, wr, wrL]) (CR.wrI W2 hcr) hF hn s2
        · cases h
    · cases h
  case lastore =>
    simp only [step] at h
    obtain rfl := hlen.resolve_left (by simp [ilen])
    split at h
    · rename_i x j a r
      obtain ⟨_, _, rfl, rfl, _, _, rfl, rfl, _, _, rfl, ⟨b, hb, rfl⟩, hr'⟩ := hS
      cases hq : Nat.ble P.ro a
      · simp [hq] at h
      · simp only [hq, cond_true] at h
        have hro : P.ro ≤ a := Nat.le_of_ble_eq_true hq
        split at h
        · rename_i xs hxs
          cases hj : inb xs.length j
          · simp [hj] at h
          · simp only [hj, cond_true, Option.some.injEq, Prod.mk.injEq] at h; obtain ⟨rfl, rfl, rfl, rfl⟩ := h
            obtain ⟨b', e1, hcr⟩ := hH.2.2.2 _ _ hxs
            cases hb.symm.trans e1
            have hcr0 := hcr
            obtain ⟨cl, A1, A2, A3⟩ := hcr0
            have hin := inb_spec hj
            rw [← A2] at hin
            obtain ⟨T2, h2, X2, e7, W2, s2⟩ := stJ X hx hZ rfl A1 hin (g := mkF m pc ls _) rfl rfl hd
            exact Behind.write (T' := T2) X2 e7 W2 hL hr' hH hb hro hxs (by simp [csz, wr, wrL]) (CR.wrJ W2 hcr) hF hn s2
        · cases h
    · cases h
  case arraylength =>
    simp only [step] at h
    obtain rfl := hlen.resolve_left (by simp [ilen])
    split at h
    · rename_i a r
      obtain ⟨_, _, rfl, ⟨b, hb, rfl⟩, hr'⟩ := hS
      split at h
      · rename_i t xs hxs
        simp only [Option.some.injEq, Prod.mk.injEq] at h; obtain ⟨rfl, rfl, rfl, rfl⟩ := h
        obtain ⟨b', e1, cl, A1, A2, A3⟩ := hH.2.2.2 _ _ hxs
        cases hb.symm.trans e1
        exact Behind.plain X hL rfl ⟨_, _, rfl, rfl, hr'⟩ hH hF hn fun target hr => X.arraylength hx A1.1 (State.isArrayOf_alike hZ.alike A1.2.1) (g := mkF m pc ls _) rfl rfl hd _ (by rw [A2]; exact hr)
      · rename_i xs hxs
        simp only [Option.some.injEq, Prod.mk.injEq] at h; obtain ⟨rfl, rfl, rfl, rfl⟩ := h
        obtain ⟨b', e1, cl, A1, A2, A3⟩ := hH.2.2.2 _ _ hxs
        cases hb.symm.trans e1
        exact Behind.plain X hL rfl ⟨_, _, rfl, rfl, hr'⟩ hH hF hn fun target hr => X.arraylength hx A1.1 (State.isArrayOf_alike hZ.alike A1.2.1) (g := mkF m pc ls _) rfl rfl hd _ (by rw [A2]; exact hr)
      · cases h
    · cases h
  case newarray t =>
    simp only [step] at h
    obtain rfl := hlen.resolve_left (by simp [ilen])
    split at h
    · rename_i n r
      obtain ⟨_, _, rfl, rfl, hr'⟩ := hS
      cases ht : atyOf t with
      | none => simp [ht] at h
      | some q =>
        simp only [ht] at h
        cases hq : (!(decide (n < 0)) && Nat.ble n.toNatClampNeg 60000 && Nat.ble (H.length + 1) P.capC && Nat.ble (hsz P H + n.toNatClampNeg) P.capS)
        · simp [hq] at h
        · simp only [hq, cond_true, Option.some.injEq, Prod.mk.injEq] at h; obtain ⟨rfl, rfl, rfl, rfl⟩ := h
          simp only [Bool.and_eq_true, Bool.not_eq_true', decide_eq_false_iff_not] at hq
          have hcap : n.toNatClampNeg ≤ 60000 := Nat.le_of_ble_eq_true hq.1.1.2
          have hq1 := hq.1.1.1
          have d1 : (H ++ [newC q n.toNatClampNeg]).length - H.length = 1 := by simp
          have d2 : hsz P (H ++ [newC q n.toNatClampNeg]) - hsz P H = n.toNatClampNeg := by rw [hsz_app, csz_new _ _ ht]; omega
          rw [d1] at hcells ⊢; rw [d2] at hslots ⊢
          obtain ⟨T2, h2, cA, X2, e7, E2, A2, s2⟩ := newP X hx hZ (G8 _ _ _ _ hcode) rfl (g := mkF m pc ls _) rfl hd rfl hq1 (cap := n.toNatClampNeg) (Nat.le_refl _) (by omega) hcells hslots
          have hlt : T.heap.size < h2.size := A2.lt
          have hm' := hH.1
          refine ⟨T2, am ++ [T.heap.size], ls, _, locs, X2, hL.mono (Pre.app _ _), rfl, ⟨_, _, rfl, ⟨T.heap.size, by rw [← hm']; simp, rfl⟩, hr'.mono (Pre.app _ _)⟩, by rw [e7]; exact hH.push E2 hlt hn (arr_new ht hq1 A2), Pre.app _ _, hF, by rw [e7]; omega, s2⟩
    · cases h
  case new j =>
    simp only [step] at h
    obtain rfl := hlen.resolve_left (by simp [ilen])
    split at h
    · rename_i q hk
      rw [Bool.cond_eq_ite] at h
      split at h
      case isFalse => cases h
      simp only [Option.some.injEq, Prod.mk.injEq] at h; obtain ⟨rfl, rfl, rfl, rfl⟩ := h
      have w := G9 _ _ _ _ hk
      have d1 : (H ++ [Sum.inl P.fresh]).length - H.length = 1 := by simp
      have d2 : hsz P (H ++ [Sum.inl P.fresh]) - hsz P H = P.objN := by rw [hsz_app]; simp [csz]
      rw [d1] at hcells ⊢; rw [d2] at hslots ⊢
      obtain ⟨T2, h2, X2, e7, E2, A2, D2, -, s2⟩ := newO X hx hZ hown w G6 G7 rfl (g := mkF m pc ls st) rfl hd hcells hslots
      have hlt : T.heap.size < h2.size := A2.lt
      have hm' := hH.1
      refine ⟨T2, am ++ [T.heap.size], ls, _, locs, X2, hL.mono (Pre.app _ _), rfl, ⟨_, _, rfl, ⟨T.heap.size, by rw [← hm']; simp, rfl⟩, hS.mono (Pre.app _ _)⟩, ?_, Pre.app _ _, hF, by rw [e7]; omega, s2⟩
      rw [e7]
      refine hH.push E2 hlt hn ⟨A2, by simp [Prog.fresh], fun j' v n d t f q1 q2 => ?_⟩
      obtain ⟨l1, ty, l2, l3, l4⟩ := G3 _ _ _ _ _ q2
      have hl1 : Laid Z a0 C C n d := by cases f; exact Or.inl l1; exact Or.inr l1
      have hv : v = dflt t := by rw [Prog.fresh, List.getElem?_map, q2] at q1; simpa using q1.symm
      subst hv
      refine ⟨defaultValue ty, ?_, D2 hl1 l2⟩
      rw [l4]; unfold dflt; split <;> rfl
    · cases h
  case invokespecial j =>
    simp only [step] at h
    obtain rfl := hlen.resolve_left (by simp [ilen])
    split at h
    · rename_i a r
      obtain ⟨_, _, rfl, ⟨b, hb, rfl⟩, hr'⟩ := hS
      cases hq : isObjInit P k j && Nat.ble 1 (P.rf k) && Nat.ble (cats r + 12) (P.rl k)
      · simp [hq] at h
      · simp only [hq, cond_true, Option.some.injEq, Prod.mk.injEq] at h; obtain ⟨rfl, rfl, rfl, rfl⟩ := h
        simp only [Bool.and_eq_true] at hq
        have h1 : 1 ≤ P.rf k := Nat.le_of_ble_eq_true hq.1.2
        have h2 : cats r + 12 ≤ P.rl k := Nat.le_of_ble_eq_true hq.2
        have h3 := hq.1.1
        unfold isObjInit at h3
        split at h3
        · rename_i kk hk
          obtain ⟨w1, w2, w3⟩ := G9 _ _ _ _ hk
          obtain ⟨T2, X2, e7, s2⟩ := initO X hx hZ hown w1 w2 w3 rfl (g := mkF m pc ls _) rfl (by rw [hml]; exact hlz) rfl hd (by omega) (W := cats r) (by rw [hr'.cats]; show 2 * 0 + _ ≤ _; omega) (by omega)
          exact Behind.plain' X2 e7 hL rfl hr' hH hF hn s2
        · cases h3
    · cases h
  case iadd =>
    simp only [step] at h
    obtain rfl := hlen.resolve_left (by simp [ilen])
    split at h
    · rename_i y x r
      simp only [aop, Option.some.injEq, Prod.mk.injEq] at h; obtain ⟨rfl, rfl, rfl, rfl⟩ := h
      obtain ⟨_, _, rfl, rfl, _, _, rfl, rfl, hr'⟩ := hS
      exact Behind.plain X hL rfl ⟨_, _, rfl, rfl, hr'⟩ hH hF hn fun target hr => XS.iadd X.here hx rfl (g := mkF m pc ls _) hd rfl hr
    · simp [lop] at h
    · cases h
  case isub =>
    simp only [step] at h
    obtain rfl := hlen.resolve_left (by simp [ilen])
    split at h
    · rename_i y x r
      simp only [aop, Option.some.injEq, Prod.mk.injEq] at h; obtain ⟨rfl, rfl, rfl, rfl⟩ := h
      obtain ⟨_, _, rfl, rfl, _, _, rfl, rfl, hr'⟩ := hS
      exact Behind.plain X hL rfl ⟨_, _, rfl, rfl, hr'⟩ hH hF hn fun target hr => XS.isub X.here hx rfl (g := mkF m pc ls _) hd rfl hr
    · simp [lop] at h
    · cases h
  case imul =>
    simp only [step] at h
    obtain rfl := hlen.resolve_left (by simp [ilen])
    split at h
    · rename_i y x r
      simp only [aop, Option.some.injEq, Prod.mk.injEq] at h; obtain ⟨rfl, rfl, rfl, rfl⟩ := h
      obtain ⟨_, _, rfl, rfl, _, _, rfl, rfl, hr'⟩ := hS
      exact Behind.plain X hL rfl ⟨_, _, rfl, rfl, hr'⟩ hH hF hn fun target hr => XS.imul X.here hx rfl (g := mkF m pc ls _) hd rfl hr
    · simp [lop] at h
    · cases h
  case iand =>
    simp only [step] at h
    obtain rfl := hlen.resolve_left (by simp [ilen])
    split at h
    · rename_i y x r
      simp only [aop, Option.some.injEq, Prod.mk.injEq] at h; obtain ⟨rfl, rfl, rfl, rfl⟩ := h
      obtain ⟨_, _, rfl, rfl, _, _, rfl, rfl, hr'⟩ := hS
      exact Behind.plain X hL rfl ⟨_, _, rfl, rfl, hr'⟩ hH hF hn fun target hr => XS.iand X.here hx rfl (g := mkF m pc ls _) hd rfl hr
    · simp [lop] at h
    · cases h
  case ior =>
    simp only [step] at h
    obtain rfl := hlen.resolve_left (by simp [ilen])
    split at h
    · rename_i y x r
      simp only [aop, Option.some.injEq, Prod.mk.injEq] at h; obtain ⟨rfl, rfl, rfl, rfl⟩ := h
      obtain ⟨_, _, rfl, rfl, _, _, rfl, rfl, hr'⟩ := hS
      exact Behind.plain X hL rfl ⟨_, _, rfl, rfl, hr'⟩ hH hF hn fun target hr => XS.ior X.here hx rfl (g := mkF m pc ls _) hd rfl hr
    · simp [lop] at h
    · cases h
  case ixor =>
    simp only [step] at h
    obtain rfl := hlen.resolve_left (by simp [ilen])
    split at h
    · rename_i y x r
      simp only [aop, Option.some.injEq, Prod.mk.injEq] at h; obtain ⟨rfl, rfl, rfl, rfl⟩ := h
      obtain ⟨_, _, rfl, rfl, _, _, rfl, rfl, hr'⟩ := hS
      exact Behind.plain X hL rfl ⟨_, _, rfl, rfl, hr'⟩ hH hF hn fun target hr => XS.ixor X.here hx rfl (g := mkF m pc ls _) hd rfl hr
    · simp [lop] at h
    · cases h
  case ishl =>
    simp only [step] at h
    obtain rfl := hlen.resolve_left (by simp [ilen])
    split at h
    · rename_i y x r
      simp only [aop, Option.some.injEq, Prod.mk.injEq] at h; obtain ⟨rfl, rfl, rfl, rfl⟩ := h
      obtain ⟨_, _, rfl, rfl, _, _, rfl, rfl, hr'⟩ := hS
      exact Behind.plain X hL rfl ⟨_, _, rfl, rfl, hr'⟩ hH hF hn fun target hr => XS.ishl X.here hx rfl (g := mkF m pc ls _) hd rfl hr
    · simp [lop] at h
    · cases h
  case ishr =>
    simp only [step] at h
    obtain rfl := hlen.resolve_left (by simp [ilen])
    split at h
    · rename_i y x r
      simp only [aop, Option.some.injEq, Prod.mk.injEq] at h; obtain ⟨rfl, rfl, rfl, rfl⟩ := h
      obtain ⟨_, _, rfl, rfl, _, _, rfl, rfl, hr'⟩ := hS
      exact Behind.plain X hL rfl ⟨_, _, rfl, rfl, hr'⟩ hH hF hn fun target hr => XS.ishr X.here hx rfl (g := mkF m pc ls _) hd rfl hr
    · simp [lop] at h
    · cases h
  case iushr =>
    simp only [step] at h
    obtain rfl := hlen.resolve_left (by simp [ilen])
    split at h
    · rename_i y x r
      simp only [aop, Option.some.injEq, Prod.mk.injEq] at h; obtain ⟨rfl, rfl, rfl, rfl⟩ := h
      obtain ⟨_, _, rfl, rfl, _, _, rfl, rfl, hr'⟩ := hS
      exact Behind.plain X hL rfl ⟨_, _, rfl, rfl, hr'⟩ hH hF hn fun target hr => XS.iushr X.here hx rfl (g := mkF m pc ls _) hd rfl hr
    · simp [lop] at h
    · cases h
  case ladd =>
    simp only [step] at h
    obtain rfl := hlen.resolve_left (by simp [ilen])
    split at h
    · simp [aop] at h
    · rename_i y x r
      simp only [lop, Option.some.injEq, Prod.mk.injEq] at h; obtain ⟨rfl, rfl, rfl, rfl⟩ := h
      obtain ⟨_, _, rfl, rfl, _, _, rfl, rfl, hr'⟩ := hS
      exact Behind.plain X hL rfl ⟨_, _, rfl, rfl, hr'⟩ hH hF hn fun target hr => XS.ladd X.here hx rfl (g := mkF m pc ls _) hd rfl hr
    · cases h
  case lsub =>
    simp only [step] at h
    obtain rfl := hlen.resolve_left (by simp [ilen])
    split at h
    · simp [aop] at h
    · rename_i y x r
      simp only [lop, Option.some.injEq, Prod.mk.injEq] at h; obtain ⟨rfl, rfl, rfl, rfl⟩ := h
      obtain ⟨_, _, rfl, rfl, _, _, rfl, rfl, hr'⟩ := hS
      exact Behind.plain X hL rfl ⟨_, _, rfl, rfl, hr'⟩ hH hF hn fun target hr => XS.lsub X.here hx rfl (g := mkF m pc ls _) hd rfl hr
    · cases h
  case lmul =>
    simp only [step] at h
    obtain rfl := hlen.resolve_left (by simp [ilen])
    split at h
    · simp [aop] at h
    · rename_i y x r
      simp only [lop, Option.some.injEq, Prod.mk.injEq] at h; obtain ⟨rfl, rfl, rfl, rfl⟩ := h
      obtain ⟨_, _, rfl, rfl, _, _, rfl, rfl, hr'⟩ := hS
      exact Behind.plain X hL rfl ⟨_, _, rfl, rfl, hr'⟩ hH hF hn fun target hr => XS.lmul X.here hx rfl (g := mkF m pc ls _) hd rfl hr
    · cases h
  case land =>
    simp only [step] at h
    obtain rfl := hlen.resolve_left (by simp [ilen])
    split at h
    · simp [aop] at h
    · rename_i y x r
      simp only [lop, Option.some.injEq, Prod.mk.injEq] at h; obtain ⟨rfl, rfl, rfl, rfl⟩ := h
      obtain ⟨_, _, rfl, rfl, _, _, rfl, rfl, hr'⟩ := hS
      exact Behind.plain X hL rfl ⟨_, _, rfl, rfl, hr'⟩ hH hF hn fun target hr => XS.land X.here hx rfl (g := mkF m pc ls _) hd rfl hr
    · cases h
  case lor =>
    simp only [step] at h
    obtain rfl := hlen.resolve_left (by simp [ilen])
    split at h
    · simp [aop] at h
    · rename_i y x r
      simp only [lop, Option.some.injEq, Prod.mk.injEq] at h; obtain ⟨rfl, rfl, rfl, rfl⟩ := h
      obtain ⟨_, _, rfl, rfl, _, _, rfl, rfl, hr'⟩ := hS
      exact Behind.plain X hL rfl ⟨_, _, rfl, rfl, hr'⟩ hH hF hn fun target hr => XS.lor X.here hx rfl (g := mkF m pc ls _) hd rfl hr
    · cases h
  case lxor =>
    simp only [step] at h
    obtain rfl := hlen.resolve_left (by simp [ilen])
    split at h
    · simp [aop] at h
    · rename_i y x r
      simp only [lop, Option.some.injEq, Prod.mk.injEq] at h; obtain ⟨rfl, rfl, rfl, rfl⟩ := h
      obtain ⟨_, _, rfl, rfl, _, _, rfl, rfl, hr'⟩ := hS
      exact Behind.plain X hL rfl ⟨_, _, rfl, rfl, hr'⟩ hH hF hn fun target hr => XS.lxor X.here hx rfl (g := mkF m pc ls _) hd rfl hr
    · cases h
  all_goals (exfalso; simp only [step] at h; split at h <;> simp [aop, lop] at h)
end Sound
end Jvm.OwnX
namespace Jvm.OwnX
open Sem ClassFile Op Lib Jvm.Stand Jvm.Free Jvm.LawKit Jvm.RoadKit
set_option maxHeartbeats 4000000 in
theorem step_grow {P : Prog} {k pc np pc' : Nat} {i : Instr} {L L' : ALoc} {S S' : List Value} {H H' : AHeap} (h : step P k i np pc L S H = some (pc', L', S', H')) : H.length ≤ H'.length ∧ hsz P H ≤ hsz P H' := by
  cases i <;> simp only [step, Bool.cond_eq_ite] at h
  all_goals (repeat' (split at h))
  all_goals first
    | (cases h; done)
    | (simp only [Option.some.injEq, Prod.mk.injEq] at h; obtain ⟨-, -, -, rfl⟩ := h; exact ⟨Nat.le_refl _, Nat.le_refl _⟩)
    | (simp only [Option.some.injEq, Prod.mk.injEq] at h; obtain ⟨-, -, -, rfl⟩ := h; exact ⟨by simp, by rw [hsz_app]; omega⟩)
    | (simp only [Option.some.injEq, Prod.mk.injEq] at h; obtain ⟨-, -, -, rfl⟩ := h; exact ⟨by simp, Nat.le_of_eq (hsz_set P _ _ _ _ (by assumption) (by simp [csz, wr, wrL])).symm⟩)
set_option maxHeartbeats 4000000 in
theorem step_cap {P : Prog} {k pc np pc' : Nat} {i : Instr} {L L' : ALoc} {S S' : List Value} {H H' : AHeap} (h : step P k i np pc L S H = some (pc', L', S', H')) : (H'.length ≤ H.length ∨ H'.length ≤ P.capC) ∧ (hsz P H' ≤ hsz P H ∨ hsz P H' ≤ P.capS) := by
  cases i <;> simp only [step, Bool.cond_eq_ite] at h
  case newarray t =>
    split at h
    · split at h
      · rename_i q ht
        split at h
        · rename_i hq
          simp only [Option.some.injEq, Prod.mk.injEq] at h; obtain ⟨-, -, -, rfl⟩ := h
          simp only [Bool.and_eq_true] at hq
          have h1 := Nat.le_of_ble_eq_true hq.1.2
          have h2 := Nat.le_of_ble_eq_true hq.2
          exact ⟨Or.inr (by simpa using h1), Or.inr (by rw [hsz_app, csz_new _ _ ht]; exact h2)⟩
        · cases h
      · cases h
    · cases h
  case new j =>
    split at h
    · split at h
      · rename_i hq
        simp only [Option.some.injEq, Prod.mk.injEq] at h; obtain ⟨-, -, -, rfl⟩ := h
        simp only [Bool.and_eq_true] at hq
        have h1 := Nat.le_of_ble_eq_true hq.1
        have h2 := Nat.le_of_ble_eq_true hq.2
        exact ⟨Or.inr (by simpa using h1), Or.inr (by rw [hsz_app]; exact h2)⟩
      · cases h
    · cases h
  all_goals (repeat' (split at h))
  all_goals first
    | (cases h; done)
    | (simp only [Option.some.injEq, Prod.mk.injEq] at h; obtain ⟨-, -, -, rfl⟩ := h; exact ⟨Or.inl (Nat.le_refl _), Or.inl (Nat.le_refl _)⟩)
    | (simp only [Option.some.injEq, Prod.mk.injEq] at h; obtain ⟨-, -, -, rfl⟩ := h; exact ⟨Or.inl (by simp), Or.inl (Nat.le_of_eq (hsz_set P _ _ _ _ (by assumption) (by simp [csz, wr, wrL])))⟩)
theorem run_cap {P : Prog} : ∀ {n k pc : Nat} {L : ALoc} {S : List Value} {H : AHeap} {v : Option Value} {H' : AHeap}, run P n k pc L S H = some (v, H') → (H'.length ≤ H.length ∨ H'.length ≤ P.capC) ∧ (hsz P H' ≤ hsz P H ∨ hsz P H' ≤ P.capS)
  | 0, k, pc, L, S, H, v, H', h => by simp [run] at h
  | n + 1, k, pc, L, S, H, v, H', h => by
    rw [run] at h
    split at h
    · cases h
    · split at h
      · cases h; exact ⟨Or.inl (Nat.le_refl _), Or.inl (Nat.le_refl _)⟩
      · split at h
        · split at h
          · rename_i h1
            have g1 := run_cap h1
            have g2 := run_cap h
            omega
          · cases h
        · split at h
          · rename_i h1
            have g1 := step_cap h1
            have g2 := run_cap h
            omega
          · cases h
theorem run_grow {P : Prog} : ∀ {n k pc : Nat} {L : ALoc} {S : List Value} {H : AHeap} {v : Option Value} {H' : AHeap}, run P n k pc L S H = some (v, H') → H.length ≤ H'.length ∧ hsz P H ≤ hsz P H'
  | 0, k, pc, L, S, H, v, H', h => by simp [run] at h
  | n + 1, k, pc, L, S, H, v, H', h => by
    rw [run] at h
    split at h
    · cases h
    · split at h
      · cases h; exact ⟨Nat.le_refl _, Nat.le_refl _⟩
      · split at h
        · split at h
          · rename_i h1
            have g1 := run_grow h1
            have g2 := run_grow h
            omega
          · cases h
        · split at h
          · rename_i h1
            have g1 := step_grow h1
            have g2 := run_grow h
            omega
          · cases h
def OVR (am : List Addr) (v w : Option Value) : Prop := match v with
  | none => w = none
  | some x => ∃ y, w = some y ∧ VR am x y
theorem callV_spec {P : Prog} {k k' : Nat} {i : Instr} {S as rest : List Value} {H : AHeap} (h : callV P k i S H = some (k', as, rest)) :
    ∃ j q, poolOf i = some j ∧ P.link (P.cls k) j = some (q, k') ∧ kindOk i q = true ∧ S = as.reverse ++ rest ∧ as.length = P.pops k' ∧ P.rf k' + 1 ≤ P.rf k ∧ cats rest + (P.maxL k' + 11) + P.rl k' ≤ P.rl k ∧ recvOk P H q as = true ∧ (entL as).length ≤ P.maxL k' := by
  unfold callV at h
  split at h
  · cases h
  · rename_i j hj
    split at h
    · cases h
    · rename_i q k'' hk
      rw [Bool.cond_eq_ite] at h
      split at h
      · rename_i hc
        simp only [Option.some.injEq, Prod.mk.injEq] at h
        obtain ⟨rfl, rfl, rfl⟩ := h
        simp only [Bool.and_eq_true] at hc
        obtain ⟨⟨⟨⟨⟨c1, c2⟩, c3⟩, c4⟩, c5⟩, c6⟩ := hc
        have c2' := Nat.le_of_ble_eq_true c2
        exact ⟨j, q, hj, hk, c1, by rw [List.reverse_reverse, List.take_append_drop], by simp [c2'], Nat.le_of_ble_eq_true c3, Nat.le_of_ble_eq_true c4, c5, Nat.le_of_ble_eq_true c6⟩
      · cases h
theorem linkOk_call {P : Prog} {nm : Nat → MethodName} {bc : Nat → ByteArray} {cn : Nat → String} {C : String} {Z : State} {a0 : Array Value} {c j q k : Nat} (h4 : q ≠ 4) (h5 : q ≠ 5) (h : LinkOk P nm bc cn C Z a0 c j q k) : CallOk P nm bc cn C Z a0 c j q k := by
  unfold LinkOk at h
  split at h
  · exact absurd rfl h4
  · exact absurd rfl h5
  · exact h
theorem recv_spec {P : Prog} {H : AHeap} {q : Nat} {as : List Value} (h0 : q ≠ 0) (h : recvOk P H q as = true) : ∃ a r fs, as = .ref a :: r ∧ H[a]? = some (.inl fs) := by
  unfold recvOk at h
  split at h
  · exact absurd rfl h0
  · split at h
    · split at h
      · rename_i fs hfs
        exact ⟨_, _, fs, rfl, hfs⟩
      · cases h
    · cases h
theorem retV_spec {P : Prog} {k : Nat} {i : Instr} {S : List Value} {v : Option Value} (h : retV P k i S = some v) :
    (i = .return_ ∧ S = [] ∧ P.ret k = none ∧ v = none) ∨ (∃ x r, i = .ireturn ∧ S = .int x :: r ∧ P.ret k = some .int ∧ v = some (.int x)) ∨ (∃ x r, i = .ireturn ∧ S = .int x :: r ∧ P.ret k = some .boolean ∧ v = some (.int (x &&& 1))) ∨ (∃ x r, i = .lreturn ∧ S = .long x :: r ∧ P.ret k = some .long ∧ v = some (.long x)) := by
  unfold retV at h
  split at h
  · split at h
    · rename_i hr; cases h; exact Or.inl ⟨rfl, rfl, hr, rfl⟩
    · cases h
  · split at h
    · split at h
      · rename_i hr; cases h; exact Or.inr (Or.inl ⟨_, _, rfl, rfl, hr, rfl⟩)
      · rename_i hr; cases h; exact Or.inr (Or.inr (Or.inl ⟨_, _, rfl, rfl, hr, rfl⟩))
      · cases h
    · cases h
  · split at h
    · split at h
      · rename_i hr; cases h; exact Or.inr (Or.inr (Or.inr ⟨_, _, rfl, rfl, hr, rfl⟩))
      · cases h
    · cases h
  · cases h
/-- what a callee's contract says behind it -/
def QC (P : Prog) (C : String) (Z : State) (n0 : Nat) (am : List Addr) (v : Option Value) (H1 : AHeap) (w : Option Value) (h' : Heap) (Lc : List Loc) : Prop := Fr n0 Lc ∧ n0 ≤ h'.size ∧ ∃ am', Pre am am' ∧ HR P C Z n0 am' H1 h' ∧ OVR am' v w
/-- the frame's theorem, for one amount of fuel -/
def SoundAt (P : Prog) (nm : Nat → MethodName) (bc : Nat → ByteArray) (cn : Nat → String) (C : String) (Z : State) (n : Nat) : Prop :=
  ∀ (k pc : Nat) (L : ALoc) (S : List Value) (H : AHeap) (v : Option Value) (H' : AHeap), run P n k pc L S H = some (v, H') →
  ∀ {p : Program} {l : Launch} {e : Env} {R : Room} {s : State} {m : MethodId} {args : Array Value} {below : List Frame} {meth : Method} {c : Code} {T : State} {locs : List Loc} {cells slots n0 : Nat} {am : List Addr} {ls : Array Slot} {st : List Value},
    Stand p l e R s m args below meth c T locs cells slots → p.tables.exec = Jvm.exec → Z.Warmed39 s.vm → c.code = bc k → c.maxLocals = P.maxL k → meth.sig.returnType = P.ret k → s.vm.findClass (cn (P.cls k)) = some m.cls → (P.ini k = true → meth.name = "<init>" ∧ cn (P.cls k) = C) →
    P.rf k ≤ R.frames → P.rl k ≤ R.locals → cells + (H'.length - H.length) ≤ R.cells → slots + (hsz P H' - hsz P H) ≤ R.slots → ls.size = P.maxL k → LR am L ls → SR am S st → HR P C Z n0 am H T.heap → Fr n0 locs → n0 ≤ T.heap.size →
    ∃ T' am' locs' w, Stand p l e R s m args below meth c T' locs' (cells + (H'.length - H.length)) (slots + (hsz P H' - hsz P H)) ∧ HR P C Z n0 am' H' T'.heap ∧ Pre am am' ∧ Fr n0 locs' ∧ OVR am' v w ∧ n0 ≤ T'.heap.size ∧ (P.ret k = none → w = none) ∧
      ∀ fs, (∀ (f : JFrame) (acts : List Action), f.method = m → f.locked = none → f.entered = [] → (doReturn e (T'.setTop f) acts w).1 = T'.setFrames fs) → Steps p.tables e below (T.setTop (mkF m pc ls st)) (T'.setFrames fs)
section Met
variable {P : Prog} {nm : Nat → MethodName} {bc : Nat → ByteArray} {cn : Nat → String} {C : String} {Z : State} {a0 : Array Value}
theorem metOf {n k : Nat} {as : List Value} {H H1 : AHeap} {v : Option Value} (IH : SoundAt P nm bc cn C Z n) (hrun : run P n k 0 (entry P k as) [] H = some (v, H1)) {l : Launch} {wsC : List Cond} {rm : Room} (hpl : plainName (nm k).cls = true) (hcls : (nm k).cls = cn (P.cls k)) (hini : P.ini k = true → (nm k).name = "<init>" ∧ (nm k).cls = C)
    (hrf : P.rf k ≤ rm.frames) (hrl : P.rl k ≤ rm.locals) (hrc : H1.length - H.length ≤ rm.cells) (hrs : hsz P H1 - hsz P H ≤ rm.slots) {am : List Addr} {ws : List Value} {h : Heap} {n0 : Nat} (hS : SR am as ws) (hE : (entL as).length ≤ P.maxL k) (hH : HR P C Z n0 am H h) (hn : n0 ≤ h.size) :
    MetFree l (nm k) (head1 (Cond.code (nm k) (bc k) (P.maxL k) (P.ret k) :: wsC) rm) (fun a U => a = ws.toArray ∧ Z.Warmed39 U.vm ∧ U.heap = h) (fun _ _ _ _ _ => True)
      (fun _ U o U' => ∃ w Lc, o = .returned w ∧ QC P C Z n0 am v H1 w U'.heap Lc ∧ FrameEnd U o U' Lc (H1.length - H.length) (hsz P H1 - hsz P H)) := by
  refine MetFree.of_bodySF (plainFor_of_name hpl) hisR ?_
  intro p e s m args below meth c s₁ Bd hml0 hP hK
  obtain ⟨rfl, hZ, hh⟩ := hP
  have hown : s.vm.findClass (nm k).cls = some m.cls := findClass_of_methodNamed Bd.named
  have hnm := (name_of_methodNamed Bd.named Bd.method).1
  have X0 : Stand p l e rm s m ws.toArray below meth c s₁ [] 0 0 := Stand.of_body Bd
  have e0 : s₁.heap = h := by rw [← hh, Bd.state]; rfl
  have hsl := (slotsL_ok hS).1
  obtain ⟨T', am', locs', w, X', h1, h2, h3, h4, h5, h6, h7⟩ := IH k 0 _ _ _ _ _ hrun X0 Bd.exec hZ Bd.bytes hml0 Bd.returns (by rw [← hcls]; exact hown) (fun q => ⟨by rw [hnm]; exact (hini q).1, by rw [← hcls]; exact (hini q).2⟩) hrf hrl (by omega) (by omega) (entry_size (ws := ws) (n := P.maxL k) (by omega)) (LR.entry hS hE) (st := []) rfl (by rw [e0]; exact hH) (Fr.nil n0) (by rw [e0]; exact hn)
  obtain ⟨fs, hr, hrun', hended, hW, hsame⟩ := X'.leave (v := w) (fun q => h6 (by rw [← Bd.returns]; exact q))
  exact ⟨_, _, h7 fs hr, hrun', hended, w, locs', rfl, ⟨h3, h5, am', h2, h1, h4⟩, ⟨_, rfl⟩, hW, hsame.mono (by omega) (by omega)⟩
variable {p : Program} {l : Launch} {e : Env} {R : Room} {s : State} {m : MethodId} {args : Array Value} {below : List Frame} {meth : Method} {c : Code} {T : State} {locs : List Loc} {cells slots : Nat} {n0 : Nat}
theorem call_sound (G : Good P nm bc cn C Z a0) {n k k' pc np : Nat} {i : Instr} {S as rest : List Value} {H H1 : AHeap} {v : Option Value} (IH : SoundAt P nm bc cn C Z n) (hcode : P.code k pc = some (i, np)) (hcall : callV P k i S H = some (k', as, rest)) (hrun : run P n k' 0 (entry P k' as) [] H = some (v, H1))
    (X : Stand p l e R s m args below meth c T locs cells slots) (hx : p.tables.exec = Jvm.exec) (hZ : Z.Warmed39 s.vm) (hby : c.code = bc k) (hml : c.maxLocals = P.maxL k) (hown : s.vm.findClass (cn (P.cls k)) = some m.cls)
    (hrf : P.rf k ≤ R.frames) (hrl : P.rl k ≤ R.locals) (hcells : cells + (H1.length - H.length) ≤ R.cells) (hslots : slots + (hsz P H1 - hsz P H) ≤ R.slots) {am : List Addr} {ls : Array Slot} {st : List Value} (hlz : ls.size = P.maxL k) (hS : SR am S st) (hH : HR P C Z n0 am H T.heap) (hn : n0 ≤ T.heap.size) :
    ∃ T2 w Lc z, np = pc + 3 ∧ Stand p l e R s m args below meth c T2 (locs ++ Lc) (cells + (H1.length - H.length)) (slots + (hsz P H1 - hsz P H)) ∧ QC P C Z n0 am v H1 w T2.heap Lc ∧ SR am rest z ∧
      ∀ target, Steps p.tables e below (T2.setTop (mkF m (pc + 3) ls (w.toList ++ z))) target → Steps p.tables e below (T.setTop (mkF m pc ls st)) target := by
  obtain ⟨j, q, hj, hk, hkind, rfl, hlen, c3, c4, c5, c6⟩ := callV_spec hcall
  obtain ⟨G1, -, -, -, -, G6, -, -, G9⟩ := G
  obtain ⟨len, hdec, rfl, hlen'⟩ := G1 _ _ _ _ hcode
  have hd : decode c.code pc = .ok (i, len) := by rw [hby]; exact hdec
  obtain ⟨y, z, rfl, hy, hz⟩ := SR.app _ _ hS rfl
  have hws : SR am as y.reverse := by have := hy.rev; rwa [List.reverse_reverse] at this
  have hcz := hz.cats
  have lk := G9 _ _ _ _ hk
  have hq4 : q ≠ 4 := fun q4 => by subst q4; cases i <;> simp [kindOk] at hkind
  have hq5 : q ≠ 5 := fun q5 => by subst q5; cases i <;> simp [kindOk] at hkind
  have lk' : CallOk P nm bc cn C Z a0 (P.cls k) j q k' := linkOk_call hq4 hq5 lk
  obtain ⟨w1, w2, w3, ⟨ps, r, w4, w5⟩, w6, w7, w8, w9, w10⟩ := lk'
  have hM := metOf IH hrun (l := l) (wsC := []) (rm := ({ frames := P.rf k', cells := H1.length - H.length, slots := hsz P H1 - hsz P H, locals := P.rl k' } : Room)) w6 w8 w9 (Nat.le_refl _) (Nat.le_refl _) (Nat.le_refl _) (Nat.le_refl _) hws c6 hH hn
  have hB := backOf (R := R) (p := p) (e := e) (below := below) (args := args) (s := s) (len := 3) (W := cats rest) hM hZ w2 w3 (by show P.rf k' + 1 ≤ _; omega) (by show cats rest + (P.maxL k' + 11) + P.rl k' ≤ _; omega)
  have hyl : y.reverse.length = as.length := hws.len
  have recv : q ≠ 0 → ∃ a r' b ws', as = .ref a :: r' ∧ y.reverse = .ref b :: ws' ∧ Exa Z T.heap b C := fun h0 => by
    obtain ⟨a, r', fs, rfl, hfs⟩ := recv_spec h0 c5
    obtain ⟨_, ws', e1, ⟨b, hb, rfl⟩, -⟩ := hws
    obtain ⟨b', f1, f2, -⟩ := hH.2.2.2 _ _ hfs
    cases hb.symm.trans f1
    exact ⟨a, r', b, ws', rfl, e1, f2⟩
  cases i <;> simp only [poolOf, Option.some.injEq, reduceCtorEq] at hj
  case invokestatic j' =>
    subst hj
    obtain rfl : len = 3 := hlen'.resolve_left (by simp [ilen])
    obtain rfl : q = 0 := by
      match q, hkind with
      | 0, _ => rfl
    obtain ⟨w, _, ⟨T2, L2, k2, n2⟩, -, X2, ⟨Lc, hQ, l1, l2, l3⟩, st2⟩ := Jvm.LawKit.callS X hx (y := nm k') hown (mvT hZ w1) (mvT hZ w10) (mvT hZ w3) (mvT hZ w2) w7 hB (g := mkF m pc ls (y ++ z)) rfl (by rw [hml]; exact hlz) (argsL := y.reverse) (rest := z) (lenOf w4 (by rw [hyl, hlen, w5]; rfl)) (by simp) (by rw [hcz]; show 2 * 0 + _ ≤ _; omega) hd (fun _ _ => ⟨rfl, rfl, hcells, hslots⟩)
    dsimp only [Pt.U, Pt.locs, Pt.cells, Pt.slots] at X2 l1 l2 l3 st2 hQ
    subst l1 l2 l3
    exact ⟨T2, w, Lc, z, rfl, X2, hQ, hz, st2⟩
  case invokespecial j' =>
    subst hj
    obtain rfl : len = 3 := hlen'.resolve_left (by simp [ilen])
    obtain rfl : q = 1 := by
      match q, hkind with
      | 1, _ => rfl
    obtain ⟨a, r', b, ws', ea, ey, hEx⟩ := recv (by decide)
    obtain ⟨w11, w12, w13⟩ := w10
    have ey' : y = ws'.reverse ++ [.ref b] := by rw [← List.reverse_reverse y, ey]; simp
    rw [ey] at hB
    have hl : ws'.length = ps.length := by rw [ey, hlen, w5] at hyl; simpa [rcv] using hyl
    obtain ⟨w, _, ⟨T2, L2, k2, n2⟩, -, X2, ⟨Lc, hQ, l1, l2, l3⟩, st2⟩ := X.specialBack hx (y := nm k') w11 hown (mvT hZ w1) (mvT hZ w12) (bytes := bc k') (maxL := P.maxL k') (mvT hZ (by rw [w13] at w2; exact w2)) w7 hB (g := mkF m pc ls (y ++ z)) rfl (by rw [hml]; exact hlz) (Steps.refl _) (a := b) (argsL := ws') (rest := z) (lenOf w4 hl) (by rw [ey']; simp) (by rw [hcz]; show 2 * 0 + _ ≤ _; omega) hd (fun _ _ => ⟨rfl, rfl, hcells, hslots⟩)
    dsimp only [Pt.U, Pt.locs, Pt.cells, Pt.slots] at X2 l1 l2 l3 st2 hQ
    subst l1 l2 l3
    exact ⟨T2, w, Lc, z, rfl, X2, hQ, hz, fun target hr => st2.trans hr⟩
  case invokevirtual j' =>
    subst hj
    obtain rfl : len = 3 := hlen'.resolve_left (by simp [ilen])
    have hq : q = 2 ∨ q = 3 := by
      match q, hkind with
      | 2, _ => exact Or.inl rfl
      | 3, _ => exact Or.inr rfl
    obtain ⟨a, r', b, ws', ea, ey, hEx⟩ := recv (by omega)
    have ey' : y = ws'.reverse ++ [.ref b] := by rw [← List.reverse_reverse y, ey]; simp
    rw [ey] at hB
    rcases hq with rfl | rfl
    · obtain ⟨w11, w12, w13⟩ := w10
      have hl : ws'.length = ps.length := by rw [ey, hlen, w5] at hyl; simpa [rcv] using hyl
      obtain ⟨cq, kq, qa, qb, qc⟩ := isOf hZ rfl hEx
      obtain ⟨w, _, ⟨T2, L2, k2, n2⟩, -, X2, ⟨Lc, hQ, l1, l2, l3⟩, st2⟩ := X.virtualBack hx (y := nm k') (z := nm k') hown (mvT hZ w1) (mvT hZ w11) (notFace_of_selects (args := #[]) (mvT hZ w13)) (mvT hZ w13) (mvT hZ w12) w7 hB qa qc (g := mkF m pc ls (y ++ z)) rfl (by rw [hml]; exact hlz) (Steps.refl _) (argsL := ws') (rest := z) (lenOf w4 hl) (by rw [ey']; simp) (by rw [hcz]; show 2 * 0 + _ ≤ _; omega) hd (fun _ _ => ⟨rfl, rfl, hcells, hslots⟩)
      dsimp only [Pt.U, Pt.locs, Pt.cells, Pt.slots] at X2 l1 l2 l3 st2 hQ
      subst l1 l2 l3
      exact ⟨T2, w, Lc, z, rfl, X2, hQ, hz, fun target hr => st2.trans hr⟩
    · obtain ⟨w11, w12, w13⟩ := w10
      have hl : ws'.length = ps.length := by rw [ey, hlen, w5] at hyl; simpa [rcv] using hyl
      obtain ⟨cq, q1, q2⟩ := hEx.cell
      obtain ⟨cC, kC, i1, i2, i3, i4, -⟩ := Cond.instantiable_spec (mvT hZ G6 : (Cond.instantiable C P.objN).before #[] s = true)
      have hpriv : s.PrivateAt (nm k') := Cond.privateMethod_at (mvP hZ w13 (args := #[]))
      have hsel : (Cond.selects (nm k').cls (nm k') (nm k')).before args s = true := selects_self_of_private (by rw [w11]; exact i1) i2 (by simpa using (Bool.or_eq_false_iff.mp i4).1) hpriv (mvT hZ w12) w7
      obtain ⟨w, _, ⟨T2, L2, k2, n2⟩, -, X2, ⟨Lc, hQ, l1, l2, l3⟩, st2⟩ := X.privateBack hx (y := nm k') hown (mvT hZ w1) (mvT hZ w12) hsel hpriv (mvT hZ w2) w7 hB (g := mkF m pc ls (y ++ z)) rfl (by rw [hml]; exact hlz) (Steps.refl _) (a := b) q1 q2 (argsL := ws') (rest := z) (lenOf w4 hl) (by rw [ey']; simp) (by rw [hcz]; show 2 * 0 + _ ≤ _; omega) hd (fun _ _ => ⟨rfl, rfl, hcells, hslots⟩)
      dsimp only [Pt.U, Pt.locs, Pt.cells, Pt.slots] at X2 l1 l2 l3 st2 hQ
      subst l1 l2 l3
      exact ⟨T2, w, Lc, z, rfl, X2, hQ, hz, fun target hr => st2.trans hr⟩
theorem ret_sound (G : Good P nm bc cn C Z a0) {k pc np : Nat} {i : Instr} {S : List Value} {v : Option Value} (hcode : P.code k pc = some (i, np)) (h : retV P k i S = some v)
    (X : Stand p l e R s m args below meth c T locs cells slots) (hx : p.tables.exec = Jvm.exec) (hby : c.code = bc k) (hret : meth.sig.returnType = P.ret k) {am : List Addr} {ls : Array Slot} {st : List Value} (hS : SR am S st) :
    ∃ w, OVR am v w ∧ (P.ret k = none → w = none) ∧ ∀ fs, (∀ (f : JFrame) (acts : List Action), f.method = m → f.locked = none → f.entered = [] → (doReturn e (T.setTop f) acts w).1 = T.setFrames fs) → Steps p.tables e below (T.setTop (mkF m pc ls st)) (T.setFrames fs) := by
  obtain ⟨G1, -⟩ := G
  obtain ⟨len, hdec, rfl, hlen⟩ := G1 _ _ _ _ hcode
  have hd : decode c.code pc = .ok (i, len) := by rw [hby]; exact hdec
  rcases retV_spec h with ⟨rfl, rfl, hr, rfl⟩ | ⟨x, r, rfl, rfl, hr, rfl⟩ | ⟨x, r, rfl, rfl, hr, rfl⟩ | ⟨x, r, rfl, rfl, hr, rfl⟩
  · obtain rfl : len = 1 := hlen.resolve_left (by simp [ilen])
    cases hS
    exact ⟨none, rfl, fun _ => rfl, fun fs hl => X.returnOut hx (hret.trans hr) hd hl⟩
  · obtain rfl : len = 1 := hlen.resolve_left (by simp [ilen])
    obtain ⟨_, _, rfl, rfl, hr'⟩ := hS
    exact ⟨some (.int x), ⟨_, rfl, rfl⟩, (fun q => by rw [hr] at q; cases q), fun fs hl => retOut X hx (hret.trans hr) rfl (Or.inl ⟨rfl, Or.inl rfl, x, rfl⟩) hd hl⟩
  · obtain rfl : len = 1 := hlen.resolve_left (by simp [ilen])
    obtain ⟨_, _, rfl, rfl, hr'⟩ := hS
    exact ⟨some (.int (x &&& 1)), ⟨_, rfl, rfl⟩, (fun q => by rw [hr] at q; cases q), fun fs hl => retN X hx (hret.trans hr) (Or.inl rfl) hd hl⟩
  · obtain rfl : len = 1 := hlen.resolve_left (by simp [ilen])
    obtain ⟨_, _, rfl, rfl, hr'⟩ := hS
    exact ⟨some (.long x), ⟨_, rfl, rfl⟩, (fun q => by rw [hr] at q; cases q), fun fs hl => retOut X hx (hret.trans hr) rfl (Or.inr (Or.inl ⟨rfl, rfl, x, rfl⟩)) hd hl⟩
theorem SR.opt {am : List Addr} {v w : Option Value} {S st : List Value} (h : OVR am v w) (hS : SR am S st) : SR am (v.toList ++ S) (w.toList ++ st) := by
  cases v with
  | none => cases h; exact hS
  | some x => obtain ⟨y, rfl, h1⟩ := h; exact ⟨y, st, rfl, h1, hS⟩
theorem sound (G : Good P nm bc cn C Z a0) : ∀ n, SoundAt P nm bc cn C Z n
  | 0 => fun k pc L S H v H' h => by simp [run] at h
  | n + 1 => fun k pc L S H v H' h => by
    have IH := sound G n
    intro p l e R s m args below meth c T locs cells slots n0 am ls st X hx hZ hby hml hret hown hini hrf hrl hcells hslots hlz hL hS hH hF hn
    rw [run] at h
    split at h
    · cases h
    · rename_i i np hcode
      split at h
      · rename_i v' hv
        cases h
        obtain ⟨w, h1, h2, h3⟩ := ret_sound G hcode hv X hx hby hret (ls := ls) hS
        exact ⟨T, am, locs, w, by simpa using X, hH, Pre.refl _, hF, h1, hn, h2, h3⟩
      · split at h
        · rename_i k' as rest hcall
          split at h
          · rename_i v1 H1 hr1
            have g1 := run_grow hr1
            have g2 := run_grow h
            obtain ⟨T2, w, Lc, z, rfl, X2, ⟨q1, q2, am2, q3, q4, q5⟩, hz, st2⟩ := call_sound G IH hcode hcall hr1 X hx hZ hby hml hown hrf hrl (by omega) (by omega) (ls := ls) hlz hS hH hn
            obtain ⟨T', am', locs', w', X', f1, f2, f3, f4, f5, f6, f7⟩ := IH k _ _ _ _ _ _ h X2 hx hZ hby hml hret hown hini hrf hrl (by omega) (by omega) hlz (hL.mono q3) (SR.opt q5 (hz.mono q3)) q4 (Fr.app hF q1) q2
            refine ⟨T', am', locs', w', ?_, f1, q3.trans f2, f3, f4, f5, f6, fun fs hl => st2 _ (f7 fs hl)⟩
            have a1 : cells + (H1.length - H.length) + (H'.length - H1.length) = cells + (H'.length - H.length) := by omega
            have a2 : slots + (hsz P H1 - hsz P H) + (hsz P H' - hsz P H1) = slots + (hsz P H' - hsz P H) := by omega
            rw [a1, a2] at X'; exact X'
          · cases h
        · split at h
          · rename_i pc1 L1 S1 H1 hs1
            have g1 := step_grow hs1
            have g2 := run_grow h
            obtain ⟨T2, am2, ls2, st2, locs2, X2, b1, b2, b3, b4, b5, b6, b7, b8⟩ := step_sound G hcode hs1 X hx hZ hby hml hown hini hrf hrl (by omega) (by omega) hlz hL hS hH hF hn
            obtain ⟨T', am', locs', w', X', f1, f2, f3, f4, f5, f6, f7⟩ := IH k _ _ _ _ _ _ h X2 hx hZ hby hml hret hown hini hrf hrl (by omega) (by omega) (b2.trans hlz) b1 b3 b4 b6 b7
            refine ⟨T', am', locs', w', ?_, f1, b5.trans f2, f3, f4, f5, f6, fun fs hl => b8 _ (f7 fs hl)⟩
            have a1 : cells + (H1.length - H.length) + (H'.length - H1.length) = cells + (H'.length - H.length) := by omega
            have a2 : slots + (hsz P H1 - hsz P H) + (hsz P H' - hsz P H1) = slots + (hsz P H' - hsz P H) := by omega
            rw [a1, a2] at X'; exact X'
          · cases h
end Met
end Jvm.OwnX
namespace Jvm.OwnX
open Sem ClassFile Op Lib Jvm.Stand Jvm.Free Jvm.LawKit Jvm.RoadKit
theorem run_succ {P : Prog} : ∀ (n : Nat) {k pc : Nat} {L : ALoc} {S : List Value} {H : AHeap} {out : Option Value × AHeap}, run P n k pc L S H = some out → run P (n + 1) k pc L S H = some out
  | 0, k, pc, L, S, H, out, h => by simp [run] at h
  | n + 1, k, pc, L, S, H, out, h => by
    rw [run] at h
    rw [run]
    split at h
    · cases h
    · rename_i i np hc
      try simp only [hc]
      split at h
      · rename_i v hv
        try simp only [hv]
        exact h
      · rename_i hv
        try simp only [hv]
        split at h
        · rename_i k' as rest hcall
          try simp only [hcall]
          split at h
          · rename_i v1 H1 h1
            rw [run_succ n h1]; exact run_succ n h
          · cases h
        · rename_i hcall
          try simp only [hcall]
          split at h
          · rename_i pc1 L1 S1 H1 h1
            try simp only [h1]
            exact run_succ n h
          · cases h
theorem run_le {P : Prog} {n m k pc : Nat} {L : ALoc} {S : List Value} {H : AHeap} {out : Option Value × AHeap} (hm : n ≤ m) (h : run P n k pc L S H = some out) : run P m k pc L S H = some out := by
  induction hm with
  | refl => exact h
  | step _ ih => exact run_succ _ ih
section Rules
variable {P : Prog} {k pc np : Nat} {L L' : ALoc} {S r : List Value} {H : AHeap} {out : Option Value × AHeap}
theorem Eval.of_step {i : Instr} {pc' : Nat} {S' : List Value} {H' : AHeap} (hc : P.code k pc = some (i, np)) (h1 : retV P k i S = none) (h2 : callV P k i S H = none) (h3 : step P k i np pc L S H = some (pc', L', S', H')) (h : Eval P k pc' L' S' H' out) : Eval P k pc L S H out := by
  obtain ⟨n, h⟩ := h
  exact ⟨n + 1, by rw [run]; simp only [hc, h1, h2, h3]; exact h⟩
theorem Eval.call {i : Instr} {k' : Nat} {as rest : List Value} {v : Option Value} {H1 : AHeap} (hc : P.code k pc = some (i, np)) (h2 : callV P k i S H = some (k', as, rest)) (he : Eval P k' 0 (entry P k' as) [] H (v, H1)) (h : Eval P k np L (v.toList ++ rest) H1 out) : Eval P k pc L S H out := by
  obtain ⟨n, he⟩ := he
  obtain ⟨m, h⟩ := h
  have h1 : retV P k i S = none := by
    unfold callV at h2
    cases i <;> simp only [poolOf, reduceCtorEq] at h2 <;> rfl
  exact ⟨n + m + 1, by rw [run]; simp only [hc, h1, h2]; rw [run_le (Nat.le_add_right n m) he]; exact run_le (Nat.le_add_left m n) h⟩
theorem Eval.ret {i : Instr} {v : Option Value} (hc : P.code k pc = some (i, np)) (h1 : retV P k i S = some v) : Eval P k pc L S H (v, H) := ⟨1, by rw [run]; simp only [hc, h1]⟩
theorem Eval.eq {out' : Option Value × AHeap} (h : Eval P k pc L S H out') (e : out' = out) : Eval P k pc L S H out := e ▸ h
theorem Eval.iload_n {n : Fin 4} {x : Int32} (hc : P.code k pc = some (.iload_n n, np)) (hl : loadI L n.val = some x) (h : Eval P k np L (.int x :: S) H out) : Eval P k pc L S H out := Eval.of_step hc rfl rfl (by simp only [step, hl]) h
theorem Eval.iload {n : Nat} {x : Int32} (hc : P.code k pc = some (.iload n, np)) (hl : loadI L n = some x) (h : Eval P k np L (.int x :: S) H out) : Eval P k pc L S H out := Eval.of_step hc rfl rfl (by simp only [step, hl]) h
theorem Eval.lload_n {n : Fin 4} {x : Int64} (hc : P.code k pc = some (.lload_n n, np)) (hl : loadJ L n.val = some x) (h : Eval P k np L (.long x :: S) H out) : Eval P k pc L S H out := Eval.of_step hc rfl rfl (by simp only [step, hl]) h
theorem Eval.lload {n : Nat} {x : Int64} (hc : P.code k pc = some (.lload n, np)) (hl : loadJ L n = some x) (h : Eval P k np L (.long x :: S) H out) : Eval P k pc L S H out := Eval.of_step hc rfl rfl (by simp only [step, hl]) h
theorem Eval.aload_n {n : Fin 4} {x : Nat} (hc : P.code k pc = some (.aload_n n, np)) (hl : loadA L n.val = some x) (h : Eval P k np L (.ref x :: S) H out) : Eval P k pc L S H out := Eval.of_step hc rfl rfl (by simp only [step, hl]) h
theorem Eval.aload {n : Nat} {x : Nat} (hc : P.code k pc = some (.aload n, np)) (hl : loadA L n = some x) (h : Eval P k np L (.ref x :: S) H out) : Eval P k pc L S H out := Eval.of_step hc rfl rfl (by simp only [step, hl]) h
theorem Eval.istore_n {n : Fin 4} {x : Int32} (hc : P.code k pc = some (.istore_n n, np)) (hl : lput L n.val (.int x) = some L') (h : Eval P k np L' r H out) : Eval P k pc L (.int x :: r) H out := Eval.of_step hc rfl rfl (by simp only [step, hl]) h
theorem Eval.istore {n : Nat} {x : Int32} (hc : P.code k pc = some (.istore n, np)) (hl : lput L n (.int x) = some L') (h : Eval P k np L' r H out) : Eval P k pc L (.int x :: r) H out := Eval.of_step hc rfl rfl (by simp only [step, hl]) h
theorem Eval.astore_n {n : Fin 4} {x : Nat} (hc : P.code k pc = some (.astore_n n, np)) (hl : lput L n.val (.ref x) = some L') (h : Eval P k np L' r H out) : Eval P k pc L (.ref x :: r) H out := Eval.of_step hc rfl rfl (by simp only [step, hl]) h
theorem Eval.astore {n : Nat} {x : Nat} (hc : P.code k pc = some (.astore n, np)) (hl : lput L n (.ref x) = some L') (h : Eval P k np L' r H out) : Eval P k pc L (.ref x :: r) H out := Eval.of_step hc rfl rfl (by simp only [step, hl]) h
theorem Eval.lstore_n {n : Fin 4} {x : Int64} (hc : P.code k pc = some (.lstore_n n, np)) (hl : lputL L n.val x = some L') (h : Eval P k np L' r H out) : Eval P k pc L (.long x :: r) H out := Eval.of_step hc rfl rfl (by simp only [step, hl]) h
theorem Eval.lstore {n : Nat} {x : Int64} (hc : P.code k pc = some (.lstore n, np)) (hl : lputL L n x = some L') (h : Eval P k np L' r H out) : Eval P k pc L (.long x :: r) H out := Eval.of_step hc rfl rfl (by simp only [step, hl]) h
theorem Eval.iinc {n : Nat} {c : Int} {x : Int32} (hc : P.code k pc = some (.iinc n c, np)) (hl : loadI L n = some x) (hp : lput L n (.int (x + Int32.ofInt c)) = some L') (h : Eval P k np L' S H out) : Eval P k pc L S H out := Eval.of_step hc rfl rfl (by simp only [step, hl, hp]) h
theorem Eval.iconst {c : Int} {x : Int32} (hc : P.code k pc = some (.iconst c, np)) (hx : Int32.ofInt c = x) (h : Eval P k np L (.int x :: S) H out) : Eval P k pc L S H out := Eval.of_step hc rfl rfl (by subst hx; rfl) h
theorem Eval.bipush {c : Int} {x : Int32} (hc : P.code k pc = some (.bipush c, np)) (hx : (Int8.ofInt c).toInt32 = x) (h : Eval P k np L (.int x :: S) H out) : Eval P k pc L S H out := Eval.of_step hc rfl rfl (by subst hx; rfl) h
theorem Eval.sipush {c : Int} {x : Int32} (hc : P.code k pc = some (.sipush c, np)) (hx : (Int16.ofInt c).toInt32 = x) (h : Eval P k np L (.int x :: S) H out) : Eval P k pc L S H out := Eval.of_step hc rfl rfl (by subst hx; rfl) h
theorem Eval.lconst {c : Fin 2} {x : Int64} (hc : P.code k pc = some (.lconst c, np)) (hx : Int64.ofNat c = x) (h : Eval P k np L (.long x :: S) H out) : Eval P k pc L S H out := Eval.of_step hc rfl rfl (by subst hx; rfl) h
theorem Eval.ldc {j : Nat} {x : Int32} (hc : P.code k pc = some (.ldc j, np)) (hx : P.kon (P.cls k) j = some (.int x)) (h : Eval P k np L (.int x :: S) H out) : Eval P k pc L S H out := Eval.of_step hc rfl rfl (by simp only [step, hx]) h
theorem Eval.ldc2_w {j : Nat} {x : Int64} (hc : P.code k pc = some (.ldc2_w j, np)) (hx : P.kon (P.cls k) j = some (.long x)) (h : Eval P k np L (.long x :: S) H out) : Eval P k pc L S H out := Eval.of_step hc rfl rfl (by simp only [step, hx]) h
theorem Eval.idiv {x y : Int32} (hc : P.code k pc = some (.idiv, np)) (hy : ¬ y = 0) (h : Eval P k np L (.int (x / y) :: r) H out) : Eval P k pc L (.int y :: .int x :: r) H out := Eval.of_step hc rfl rfl (by simp [step, hy]) h
theorem Eval.irem {x y : Int32} (hc : P.code k pc = some (.irem, np)) (hy : ¬ y = 0) (h : Eval P k np L (.int (x % y) :: r) H out) : Eval P k pc L (.int y :: .int x :: r) H out := Eval.of_step hc rfl rfl (by simp [step, hy]) h
theorem Eval.iadd {x y : Int32} (hc : P.code k pc = some (.iadd, np))  (h : Eval P k np L (.int (x + y) :: r) H out) : Eval P k pc L (.int y :: .int x :: r) H out := Eval.of_step hc rfl rfl (by rfl) h
theorem Eval.isub {x y : Int32} (hc : P.code k pc = some (.isub, np))  (h : Eval P k np L (.int (x - y) :: r) H out) : Eval P k pc L (.int y :: .int x :: r) H out := Eval.of_step hc rfl rfl (by rfl) h
theorem Eval.imul {x y : Int32} (hc : P.code k pc = some (.imul, np))  (h : Eval P k np L (.int (x * y) :: r) H out) : Eval P k pc L (.int y :: .int x :: r) H out := Eval.of_step hc rfl rfl (by rfl) h
theorem Eval.iand {x y : Int32} (hc : P.code k pc = some (.iand, np))  (h : Eval P k np L (.int (x &&& y) :: r) H out) : Eval P k pc L (.int y :: .int x :: r) H out := Eval.of_step hc rfl rfl (by rfl) h
theorem Eval.ior {x y : Int32} (hc : P.code k pc = some (.ior, np))  (h : Eval P k np L (.int (x ||| y) :: r) H out) : Eval P k pc L (.int y :: .int x :: r) H out := Eval.of_step hc rfl rfl (by rfl) h
theorem Eval.ixor {x y : Int32} (hc : P.code k pc = some (.ixor, np))  (h : Eval P k np L (.int (x ^^^ y) :: r) H out) : Eval P k pc L (.int y :: .int x :: r) H out := Eval.of_step hc rfl rfl (by rfl) h
theorem Eval.ishl {x y : Int32} (hc : P.code k pc = some (.ishl, np))  (h : Eval P k np L (.int (ish x y) :: r) H out) : Eval P k pc L (.int y :: .int x :: r) H out := Eval.of_step hc rfl rfl (by rfl) h
theorem Eval.ishr {x y : Int32} (hc : P.code k pc = some (.ishr, np))  (h : Eval P k np L (.int (isr x y) :: r) H out) : Eval P k pc L (.int y :: .int x :: r) H out := Eval.of_step hc rfl rfl (by rfl) h
theorem Eval.iushr {x y : Int32} (hc : P.code k pc = some (.iushr, np))  (h : Eval P k np L (.int (ush x y) :: r) H out) : Eval P k pc L (.int y :: .int x :: r) H out := Eval.of_step hc rfl rfl (by rfl) h
theorem Eval.ladd {x y : Int64} (hc : P.code k pc = some (.ladd, np))  (h : Eval P k np L (.long (x + y) :: r) H out) : Eval P k pc L (.long y :: .long x :: r) H out := Eval.of_step hc rfl rfl (by rfl) h
theorem Eval.lsub {x y : Int64} (hc : P.code k pc = some (.lsub, np))  (h : Eval P k np L (.long (x - y) :: r) H out) : Eval P k pc L (.long y :: .long x :: r) H out := Eval.of_step hc rfl rfl (by rfl) h
theorem Eval.lmul {x y : Int64} (hc : P.code k pc = some (.lmul, np))  (h : Eval P k np L (.long (x * y) :: r) H out) : Eval P k pc L (.long y :: .long x :: r) H out := Eval.of_step hc rfl rfl (by rfl) h
theorem Eval.land {x y : Int64} (hc : P.code k pc = some (.land, np))  (h : Eval P k np L (.long (x &&& y) :: r) H out) : Eval P k pc L (.long y :: .long x :: r) H out := Eval.of_step hc rfl rfl (by rfl) h
theorem Eval.lor {x y : Int64} (hc : P.code k pc = some (.lor, np))  (h : Eval P k np L (.long (x ||| y) :: r) H out) : Eval P k pc L (.long y :: .long x :: r) H out := Eval.of_step hc rfl rfl (by rfl) h
theorem Eval.lxor {x y : Int64} (hc : P.code k pc = some (.lxor, np))  (h : Eval P k np L (.long (x ^^^ y) :: r) H out) : Eval P k pc L (.long y :: .long x :: r) H out := Eval.of_step hc rfl rfl (by rfl) h
theorem Eval.lshl {x : Int64} {y : Int32} (hc : P.code k pc = some (.lshl, np))  (h : Eval P k np L (.long (lsh x y) :: r) H out) : Eval P k pc L (.int y :: .long x :: r) H out := Eval.of_step hc rfl rfl (by rfl) h
theorem Eval.lushr {x : Int64} {y : Int32} (hc : P.code k pc = some (.lushr, np))  (h : Eval P k np L (.long (lus x y) :: r) H out) : Eval P k pc L (.int y :: .long x :: r) H out := Eval.of_step hc rfl rfl (by rfl) h
theorem Eval.lcmp {x y : Int64} (hc : P.code k pc = some (.lcmp, np))  (h : Eval P k np L (.int (lcm x y) :: r) H out) : Eval P k pc L (.long y :: .long x :: r) H out := Eval.of_step hc rfl rfl (by rfl) h
theorem Eval.lneg {x : Int64} (hc : P.code k pc = some (.lneg, np))  (h : Eval P k np L (.long (-x) :: r) H out) : Eval P k pc L (.long x :: r) H out := Eval.of_step hc rfl rfl (by rfl) h
theorem Eval.i2l {x : Int32} (hc : P.code k pc = some (.i2l, np))  (h : Eval P k np L (.long x.toInt64 :: r) H out) : Eval P k pc L (.int x :: r) H out := Eval.of_step hc rfl rfl (by rfl) h
theorem Eval.l2i {x : Int64} (hc : P.code k pc = some (.l2i, np))  (h : Eval P k np L (.int x.toInt32 :: r) H out) : Eval P k pc L (.long x :: r) H out := Eval.of_step hc rfl rfl (by rfl) h
theorem Eval.i2b {x : Int32} (hc : P.code k pc = some (.i2b, np))  (h : Eval P k np L (.int (i8 x) :: r) H out) : Eval P k pc L (.int x :: r) H out := Eval.of_step hc rfl rfl (by rfl) h
theorem Eval.dupR {x : Nat} (hc : P.code k pc = some (.dup, np))  (h : Eval P k np L (.ref x :: .ref x :: r) H out) : Eval P k pc L (.ref x :: r) H out := Eval.of_step hc rfl rfl (by rfl) h
theorem Eval.dupI {x : Int32} (hc : P.code k pc = some (.dup, np))  (h : Eval P k np L (.int x :: .int x :: r) H out) : Eval P k pc L (.int x :: r) H out := Eval.of_step hc rfl rfl (by rfl) h
theorem Eval.dup2 {x : Int32} {y : Nat} (hc : P.code k pc = some (.dup2, np))  (h : Eval P k np L (.int x :: .ref y :: .int x :: .ref y :: r) H out) : Eval P k pc L (.int x :: .ref y :: r) H out := Eval.of_step hc rfl rfl (by rfl) h
theorem Eval.popI {x : Int32} (hc : P.code k pc = some (.pop, np))  (h : Eval P k np L r H out) : Eval P k pc L (.int x :: r) H out := Eval.of_step hc rfl rfl (by rfl) h
theorem Eval.popR {x : Nat} (hc : P.code k pc = some (.pop, np))  (h : Eval P k np L r H out) : Eval P k pc L (.ref x :: r) H out := Eval.of_step hc rfl rfl (by rfl) h
theorem Eval.goto {o : Int} {t : Nat} (hc : P.code k pc = some (.goto o, np)) (ht : tgt pc o = some t) (h : Eval P k t L S H out) : Eval P k pc L S H out := Eval.of_step hc rfl rfl (by simp only [step, ht]) h
theorem Eval.ifT {cd : ClassFile.Cond} {o : Int} {t : Nat} {x : Int32} (hc : P.code k pc = some (.ifCond cd o, np)) (ht : tgt pc o = some t) (hb : if_icmp.holds cd x 0 = true) (h : Eval P k t L r H out) : Eval P k pc L (.int x :: r) H out := Eval.of_step hc rfl rfl (by simp only [step, ht, hb, cond_true]) h
theorem Eval.ifF {cd : ClassFile.Cond} {o : Int} {x : Int32} (hc : P.code k pc = some (.ifCond cd o, np)) (hb : if_icmp.holds cd x 0 = false) (h : Eval P k np L r H out) : Eval P k pc L (.int x :: r) H out := Eval.of_step hc rfl rfl (by simp only [step, hb, cond_false]) h
theorem Eval.icmpT {cd : ClassFile.Cond} {o : Int} {t : Nat} {x y : Int32} (hc : P.code k pc = some (.if_icmp cd o, np)) (ht : tgt pc o = some t) (hb : if_icmp.holds cd x y = true) (h : Eval P k t L r H out) : Eval P k pc L (.int y :: .int x :: r) H out := Eval.of_step hc rfl rfl (by simp only [step, ht, hb, cond_true]) h
theorem Eval.icmpF {cd : ClassFile.Cond} {o : Int} {x y : Int32} (hc : P.code k pc = some (.if_icmp cd o, np)) (hb : if_icmp.holds cd x y = false) (h : Eval P k np L r H out) : Eval P k pc L (.int y :: .int x :: r) H out := Eval.of_step hc rfl rfl (by simp only [step, hb, cond_false]) h
theorem Eval.tswIn {d lo hi o : Int} {offs : Array Int} {t : Nat} {x : Int32} (hc : P.code k pc = some (.tableswitch d lo hi offs, np)) (h1 : (decide (x.toInt < lo) || decide (x.toInt > hi)) = false) (h2 : offs.toList[(x.toInt - lo).toNat]? = some o) (ht : tgt pc o = some t) (h : Eval P k t L r H out) : Eval P k pc L (.int x :: r) H out := Eval.of_step hc rfl rfl (by simp only [step, h1, h2, ht, cond_false]) h
theorem Eval.tswOut {d lo hi : Int} {offs : Array Int} {t : Nat} {x : Int32} (hc : P.code k pc = some (.tableswitch d lo hi offs, np)) (h1 : (decide (x.toInt < lo) || decide (x.toInt > hi)) = true) (ht : tgt pc d = some t) (h : Eval P k t L r H out) : Eval P k pc L (.int x :: r) H out := Eval.of_step hc rfl rfl (by simp only [step, h1, ht, cond_true]) h
theorem Eval.getfield {j f a : Nat} {v : Value} (hc : P.code k pc = some (.getfield j, np)) (hf : P.fld (P.cls k) j = some f) (hg : getC H a f = some v) (h : Eval P k np L (v :: r) H out) : Eval P k pc L (.ref a :: r) H out := Eval.of_step hc rfl rfl (by simp only [step, hf, hg]) h
/-- the heap with a field written -/
def putC (P : Prog) (k : Nat) (H : AHeap) (a f : Nat) (v : Value) : Option AHeap := match P.fields[f]? with
  | some (_, _, t, fin) => (bif (!fin || P.ini k) && Nat.ble P.ro a then (match conv t v with
    | some v' => (match H[a]? with
      | some (.inl fs) => (bif Nat.ble (f + 1) fs.length then some (H.set a (.inl (fs.set f v'))) else none)
      | _ => none)
    | none => none) else none)
  | none => none
theorem putC_spec {P : Prog} {k a f : Nat} {v : Value} {H H1 : AHeap} (hp : putC P k H a f v = some H1) : ∃ n d t fin v' fs, P.fields[f]? = some (n, d, t, fin) ∧ ((!fin || P.ini k) && Nat.ble P.ro a) = true ∧ conv t v = some v' ∧ H[a]? = some (.inl fs) ∧ Nat.ble (f + 1) fs.length = true ∧ H1 = H.set a (.inl (fs.set f v')) := by
  unfold putC at hp
  simp only [Bool.cond_eq_ite] at hp
  split at hp
  · rename_i n d t fin hq
    split at hp
    · rename_i hc
      split at hp
      · rename_i v' hv
        split at hp
        · rename_i fs hfs
          split at hp
          · rename_i hz
            cases hp; exact ⟨n, d, t, fin, v', fs, hq, hc, hv, hfs, hz, rfl⟩
          · cases hp
        · cases hp
      · cases hp
    · cases hp
  · cases hp
theorem step_put {j f a : Nat} {v : Value} {H1 : AHeap} (hf : P.fld (P.cls k) j = some f) (hp : putC P k H a f v = some H1) : step P k (.putfield j) np pc L (v :: .ref a :: r) H = some (np, L, r, H1) := by
  obtain ⟨n, d, t, fin, v', fs, h1, h2, h3, h4, h5, rfl⟩ := putC_spec hp
  simp only [step, hf, h1, h2, h3, h4, h5, cond_true]
theorem Eval.putfield {j f a : Nat} {v : Value} {H1 : AHeap} (hc : P.code k pc = some (.putfield j, np)) (hf : P.fld (P.cls k) j = some f) (hp : putC P k H a f v = some H1) (h : Eval P k np L r H1 out) : Eval P k pc L (v :: .ref a :: r) H out := Eval.of_step hc rfl rfl (step_put hf hp) h
theorem Eval.iaload0 {a : Nat} {j : Int32} {xs : List Int32} (hc : P.code k pc = some (.iaload, np)) (ha : H[a]? = some (.inr (.inl (0, xs)))) (hj : inb xs.length j = true) (h : Eval P k np L (.int (rd xs j) :: r) H out) : Eval P k pc L (.int j :: .ref a :: r) H out := Eval.of_step hc rfl rfl (by simp only [step, ha, hj, cond_true]) h
theorem Eval.iaload {a : Nat} {j : Int32} {xs : List Int32} (hc : P.code k pc = some (.iaload, np)) (ha : H[a]? = some (.inr (.inl (1, xs)))) (hj : inb xs.length j = true) (h : Eval P k np L (.int (rd xs j) :: r) H out) : Eval P k pc L (.int j :: .ref a :: r) H out := Eval.of_step hc rfl rfl (by simp only [step, ha, hj, cond_true]) h
theorem Eval.baloadZ {a : Nat} {j : Int32} {xs : List Int32} (hc : P.code k pc = some (.baload, np)) (ha : H[a]? = some (.inr (.inl (2, xs)))) (hj : inb xs.length j = true) (h : Eval P k np L (.int (rd xs j) :: r) H out) : Eval P k pc L (.int j :: .ref a :: r) H out := Eval.of_step hc rfl rfl (by simp only [step, ha, hj, cond_true]) h
theorem Eval.baloadB {a : Nat} {j : Int32} {xs : List Int32} (hc : P.code k pc = some (.baload, np)) (ha : H[a]? = some (.inr (.inl (3, xs)))) (hj : inb xs.length j = true) (h : Eval P k np L (.int (rd xs j) :: r) H out) : Eval P k pc L (.int j :: .ref a :: r) H out := Eval.of_step hc rfl rfl (by simp only [step, ha, hj, cond_true]) h
theorem Eval.laload {a : Nat} {j : Int32} {xs : List Int64} (hc : P.code k pc = some (.laload, np)) (ha : H[a]? = some (.inr (.inr xs))) (hj : inb xs.length j = true) (h : Eval P k np L (.long (rdL xs j) :: r) H out) : Eval P k pc L (.int j :: .ref a :: r) H out := Eval.of_step hc rfl rfl (by simp only [step, ha, hj, cond_true]) h
theorem Eval.iastore {a : Nat} {j : Int32} {x : Int32} {xs : List Int32} {H1 : AHeap} (hc : P.code k pc = some (.iastore, np)) (hro : Nat.ble P.ro a = true) (ha : H[a]? = some (.inr (.inl (1, xs)))) (hj : inb xs.length j = true) (hH : H.set a (.inr (.inl (1, wr xs j x))) = H1) (h : Eval P k np L r H1 out) : Eval P k pc L (.int x :: .int j :: .ref a :: r) H out := Eval.of_step hc rfl rfl (by subst hH; simp only [step, hro, ha, hj, cond_true]; try rfl) h
theorem Eval.bastoreZ {a : Nat} {j : Int32} {x : Int32} {xs : List Int32} {H1 : AHeap} (hc : P.code k pc = some (.bastore, np)) (hro : Nat.ble P.ro a = true) (ha : H[a]? = some (.inr (.inl (2, xs)))) (hj : inb xs.length j = true) (hH : H.set a (.inr (.inl (2, wr xs j (x &&& 1)))) = H1) (h : Eval P k np L r H1 out) : Eval P k pc L (.int x :: .int j :: .ref a :: r) H out := Eval.of_step hc rfl rfl (by subst hH; simp only [step, hro, ha, hj, cond_true]; try rfl) h
theorem Eval.bastoreB {a : Nat} {j : Int32} {x : Int32} {xs : List Int32} {H1 : AHeap} (hc : P.code k pc = some (.bastore, np)) (hro : Nat.ble P.ro a = true) (ha : H[a]? = some (.inr (.inl (3, xs)))) (hj : inb xs.length j = true) (hH : H.set a (.inr (.inl (3, wr xs j (i8 x)))) = H1) (h : Eval P k np L r H1 out) : Eval P k pc L (.int x :: .int j :: .ref a :: r) H out := Eval.of_step hc rfl rfl (by subst hH; simp only [step, hro, ha, hj, cond_true]; try rfl) h
theorem Eval.lastore {a : Nat} {j : Int32} {x : Int64} {xs : List Int64} {H1 : AHeap} (hc : P.code k pc = some (.lastore, np)) (hro : Nat.ble P.ro a = true) (ha : H[a]? = some (.inr (.inr xs))) (hj : inb xs.length j = true) (hH : H.set a (.inr (.inr (wrL xs j x))) = H1) (h : Eval P k np L r H1 out) : Eval P k pc L (.long x :: .int j :: .ref a :: r) H out := Eval.of_step hc rfl rfl (by subst hH; simp only [step, hro, ha, hj, cond_true]; try rfl) h
theorem Eval.alenI {a t : Nat} {xs : List Int32} (hc : P.code k pc = some (.arraylength, np)) (ha : H[a]? = some (.inr (.inl (t, xs)))) (h : Eval P k np L (.int xs.length.toInt32 :: r) H out) : Eval P k pc L (.ref a :: r) H out := Eval.of_step hc rfl rfl (by simp only [step, ha]) h
theorem Eval.newarray {t : ArrayType} {n : Int32} {q a z N : Nat} {H1 : AHeap} (hc : P.code k pc = some (.newarray t, np)) (hla : H.length = a) (ht : atyOf t = some q) (hn : decide (n < 0) = false) (hN : n.toNatClampNeg = N) (hb : N ≤ 60000) (hC : a + 1 ≤ P.capC) (hz : hsz P H = z) (hS : z + N ≤ P.capS) (hH : H ++ [newC q N] = H1) (h : Eval P k np L (.ref a :: r) H1 out) : Eval P k pc L (.int n :: r) H out := by
  subst hla hN hz
  have hq : (!(decide (n < 0)) && Nat.ble n.toNatClampNeg 60000 && Nat.ble (H.length + 1) P.capC && Nat.ble (hsz P H + n.toNatClampNeg) P.capS) = true := by
    simp only [hn, Bool.not_false, Bool.true_and, Bool.and_eq_true]
    exact ⟨⟨Nat.ble_eq_true_of_le hb, Nat.ble_eq_true_of_le hC⟩, Nat.ble_eq_true_of_le hS⟩
  exact Eval.of_step hc rfl rfl (by simp only [step, ht, hq, cond_true, hH]) h
theorem Eval.new {j q a z : Nat} {H1 : AHeap} (hc : P.code k pc = some (.new j, np)) (hla : H.length = a) (ht : P.link (P.cls k) j = some (5, q)) (hC : a + 1 ≤ P.capC) (hz : hsz P H = z) (hS : z + P.objN ≤ P.capS) (hH : H ++ [.inl P.fresh] = H1) (h : Eval P k np L (.ref a :: S) H1 out) : Eval P k pc L S H out := by
  subst hla hz
  have hq : (Nat.ble (H.length + 1) P.capC && Nat.ble (hsz P H + P.objN) P.capS) = true := by
    simp only [Bool.and_eq_true]
    exact ⟨Nat.ble_eq_true_of_le hC, Nat.ble_eq_true_of_le hS⟩
  exact Eval.of_step hc rfl rfl (by simp only [step, ht, hq, cond_true, hH]) h
theorem Eval.objInit {j a : Nat} (hc : P.code k pc = some (.invokespecial j, np)) (hq : (isObjInit P k j && Nat.ble 1 (P.rf k) && Nat.ble (cats r + 12) (P.rl k)) = true) (h : Eval P k np L r H out) : Eval P k pc L (.ref a :: r) H out := by
  refine Eval.of_step hc rfl ?_ (by simp only [step, hq, cond_true]) h
  simp only [Bool.and_eq_true] at hq
  have h3 := hq.1.1
  unfold isObjInit at h3
  split at h3
  · rename_i kk hk
    simp [callV, poolOf, hk, kindOk]
  · cases h3
/-- the left knows at least what the right knows -/
def lw : ALoc → ALoc → Prop
  | [], b => b = []
  | a :: r, b => ∃ x r', b = x :: r' ∧ (x = none ∨ x = a) ∧ lw r r'
theorem lw.refl : ∀ L : ALoc, lw L L
  | [] => rfl
  | a :: r => ⟨a, r, rfl, Or.inr rfl, lw.refl r⟩
theorem lw.spec : ∀ {L L' : ALoc}, lw L L' → L.length = L'.length ∧ ∀ (i : Nat) v, L'[i]? = some (some v) → L[i]? = some (some v)
  | [], _, h => by cases h; exact ⟨rfl, fun i v q => by simp at q⟩
  | a :: r, _, ⟨x, r', e, h1, h2⟩ => by
    subst e
    obtain ⟨i1, i2⟩ := lw.spec h2
    refine ⟨by simp [i1], fun i v q => ?_⟩
    cases i with
    | zero =>
      simp only [List.getElem?_cons_zero, Option.some.injEq] at q ⊢
      rcases h1 with rfl | rfl
      · cases q
      · exact q
    | succ i => rw [List.getElem?_cons_succ] at q ⊢; exact i2 i v q
theorem lw.of : ∀ {L L' : ALoc}, L.length = L'.length → (∀ (i : Nat) v, L'[i]? = some (some v) → L[i]? = some (some v)) → lw L L'
  | [], L', h, _ => by cases L' with
    | nil => rfl
    | cons _ _ => simp at h
  | a :: r, L', h, q => by
    cases L' with
    | nil => simp at h
    | cons x r' =>
      refine ⟨x, r', rfl, ?_, lw.of (by simpa using h) fun i v e => ?_⟩
      · cases x with
        | none => exact Or.inl rfl
        | some v => have := q 0 v rfl; simp at this; exact Or.inr this.symm
      · have := q (i + 1) v (by rw [List.getElem?_cons_succ]; exact e); rwa [List.getElem?_cons_succ] at this
theorem lw.kill {L L' : ALoc} (h : lw L L') (i : Nat) : lw (kill1 L i) (kill1 L' i) := by
  obtain ⟨h1, h2⟩ := h.spec
  refine lw.of (by rw [kill1_len, kill1_len, h1]) fun j v q => ?_
  obtain ⟨q1, q2⟩ := kill1_get q
  have q3 := h2 _ _ q1
  unfold kill1
  split
  · exact q3
  · rename_i i
    split
    · rename_i x hx
      by_cases e : i = j
      · subst e; rw [hx] at q3; cases q3; exact absurd rfl (q2 rfl x)
      · rw [List.getElem?_set_ne e]; exact q3
    · exact q3
theorem lw.set {L L' : ALoc} (h : lw L L') (i : Nat) (x : Option Value) : lw (L.set i x) (L'.set i x) := by
  obtain ⟨h1, h2⟩ := h.spec
  refine lw.of (by simp [h1]) fun j v q => ?_
  rw [List.getElem?_set] at q ⊢
  split at q
  · rename_i e
    rw [if_pos e, h1]; exact q
  · rename_i e
    rw [if_neg e]; exact h2 _ _ q
theorem lw.put {L L' L1 : ALoc} (h : lw L L') {i : Nat} {v : Value} (hp : lput L' i v = some L1) : ∃ L2, lput L i v = some L2 ∧ lw L2 L1 := by
  unfold lput at hp ⊢
  rw [h.spec.1]
  rw [Bool.cond_eq_ite] at hp ⊢
  split at hp
  · rename_i hc
    cases hp; exact ⟨_, if_pos hc, (h.kill i).set i _⟩
  · cases hp
theorem lw.putL {L L' L1 : ALoc} (h : lw L L') {i : Nat} {v : Int64} (hp : lputL L' i v = some L1) : ∃ L2, lputL L i v = some L2 ∧ lw L2 L1 := by
  unfold lputL at hp ⊢
  rw [h.spec.1]
  rw [Bool.cond_eq_ite] at hp ⊢
  split at hp
  · rename_i hc
    cases hp; exact ⟨_, if_pos hc, ((h.kill i).set i _).set (i + 1) _⟩
  · cases hp
theorem lw.loadI {L L' : ALoc} (h : lw L L') {i : Nat} {x : Int32} (q : OwnX.loadI L' i = some x) : OwnX.loadI L i = some x := by
  unfold OwnX.loadI at q ⊢
  split at q
  · rename_i y hy
    rw [h.spec.2 _ _ hy]; exact q
  · cases q
theorem lw.loadJ {L L' : ALoc} (h : lw L L') {i : Nat} {x : Int64} (q : OwnX.loadJ L' i = some x) : OwnX.loadJ L i = some x := by
  unfold OwnX.loadJ at q ⊢
  split at q
  · rename_i y hy
    rw [h.spec.2 _ _ hy]; exact q
  · cases q
theorem lw.loadA {L L' : ALoc} (h : lw L L') {i x : Nat} (q : OwnX.loadA L' i = some x) : OwnX.loadA L i = some x := by
  unfold OwnX.loadA at q ⊢
  split at q
  · rename_i y hy
    rw [h.spec.2 _ _ hy]; exact q
  · cases q
set_option maxHeartbeats 4000000 in
theorem step_weak {i : Instr} {pc' : Nat} {S' : List Value} {H' : AHeap} {L1 : ALoc} (hw : lw L L') (h : step P k i np pc L' S H = some (pc', L1, S', H')) : ∃ L2, step P k i np pc L S H = some (pc', L2, S', H') ∧ lw L2 L1 := by
  cases i
  case iload_n n =>
    simp only [step] at h ⊢
    split at h
    · rename_i x hx
      rw [hw.loadI hx]; cases h; exact ⟨L, rfl, hw⟩
    · cases h
  case iload n =>
    simp only [step] at h ⊢
    split at h
    · rename_i x hx
      rw [hw.loadI hx]; cases h; exact ⟨L, rfl, hw⟩
    · cases h
  case lload_n n =>
    simp only [step] at h ⊢
    split at h
    · rename_i x hx
      rw [hw.loadJ hx]; cases h; exact ⟨L, rfl, hw⟩
    · cases h
  case lload n =>
    simp only [step] at h ⊢
    split at h
    · rename_i x hx
      rw [hw.loadJ hx]; cases h; exact ⟨L, rfl, hw⟩
    · cases h
  case aload_n n =>
    simp only [step] at h ⊢
    split at h
    · rename_i x hx
      rw [hw.loadA hx]; cases h; exact ⟨L, rfl, hw⟩
    · cases h
  case aload n =>
    simp only [step] at h ⊢
    split at h
    · rename_i x hx
      rw [hw.loadA hx]; cases h; exact ⟨L, rfl, hw⟩
    · cases h
  case istore_n n =>
    simp only [step] at h ⊢
    split at h
    · split at h
      · rename_i L3 hx
        obtain ⟨L2, e1, e2⟩ := hw.put hx
        cases h; exact ⟨L2, by simp only [e1], e2⟩
      · cases h
    · cases h
  case istore n =>
    simp only [step] at h ⊢
    split at h
    · split at h
      · rename_i L3 hx
        obtain ⟨L2, e1, e2⟩ := hw.put hx
        cases h; exact ⟨L2, by simp only [e1], e2⟩
      · cases h
    · cases h
  case astore_n n =>
    simp only [step] at h ⊢
    split at h
    · split at h
      · rename_i L3 hx
        obtain ⟨L2, e1, e2⟩ := hw.put hx
        cases h; exact ⟨L2, by simp only [e1], e2⟩
      · cases h
    · cases h
  case astore n =>
    simp only [step] at h ⊢
    split at h
    · split at h
      · rename_i L3 hx
        obtain ⟨L2, e1, e2⟩ := hw.put hx
        cases h; exact ⟨L2, by simp only [e1], e2⟩
      · cases h
    · cases h
  case lstore_n n =>
    simp only [step] at h ⊢
    split at h
    · split at h
      · rename_i L3 hx
        obtain ⟨L2, e1, e2⟩ := hw.putL hx
        cases h; exact ⟨L2, by simp only [e1], e2⟩
      · cases h
    · cases h
  case lstore n =>
    simp only [step] at h ⊢
    split at h
    · split at h
      · rename_i L3 hx
        obtain ⟨L2, e1, e2⟩ := hw.putL hx
        cases h; exact ⟨L2, by simp only [e1], e2⟩
      · cases h
    · cases h
  case iinc n c =>
    simp only [step] at h ⊢
    split at h
    · rename_i x hx
      rw [hw.loadI hx]
      split at h
      · rename_i L3 hp
        obtain ⟨L2, e1, e2⟩ := hw.put hp
        cases h; exact ⟨L2, by simp only [e1], e2⟩
      · cases h
    · cases h
  all_goals
    simp only [step, Bool.cond_eq_ite] at h ⊢
    repeat' (split at h)
  all_goals first
    | (cases h; done)
    | (simp only [Option.some.injEq, Prod.mk.injEq] at h; obtain ⟨rfl, rfl, rfl, rfl⟩ := h; refine ⟨L, ?_, hw⟩; first | rfl | (simp only [*, if_true, if_false]; done) | (simp [*]; done))
theorem run_weak : ∀ (n : Nat) {pc : Nat} {L L' : ALoc} {S : List Value} {H : AHeap} {out : Option Value × AHeap}, lw L L' → run P n k pc L' S H = some out → run P n k pc L S H = some out
  | 0, _, _, _, _, _, _, _, h => by simp [run] at h
  | n + 1, pc, L, L', S, H, out, hw, h => by
    rw [run] at h
    rw [run]
    split at h
    · cases h
    · rename_i i np hc
      try simp only [hc]
      split at h
      · rename_i v hv
        try simp only [hv]
        exact h
      · rename_i hv
        try simp only [hv]
        split at h
        · rename_i k' as rest hcall
          try simp only [hcall]
          split at h
          · rename_i v1 H1 h1
            try simp only [h1]
            exact run_weak n hw h
          · cases h
        · rename_i hcall
          try simp only [hcall]
          split at h
          · rename_i pc1 L1 S1 H1 h1
            obtain ⟨L2, e1, e2⟩ := step_weak hw h1
            simp only [e1]; exact run_weak n e2 h
          · cases h
theorem Eval.weak (hw : lw L L') (h : Eval P k pc L' S H out) : Eval P k pc L S H out := by
  obtain ⟨n, h⟩ := h
  exact ⟨n, run_weak n hw h⟩
end Rules
end Jvm.OwnX
namespace Jvm.OwnX
open Sem ClassFile Op Lib Jvm.Stand Jvm.Free Jvm.LawKit Jvm.RoadKit
/-! ## tables as lists -/
def findC : List (Nat × Instr × Nat) → Nat → Option (Instr × Nat)
  | [], _ => none
  | (q, x) :: r, pc => bif Nat.beq q pc then some x else findC r pc
abbrev CodeL := List (ByteArray × List (List (Nat × Instr × Nat)))
def codeAt (cs : CodeL) (k pc : Nat) : Option (Instr × Nat) := match cs[k]? with
  | some (_, ch) => (match ch[pc / 32]? with | some c => findC c pc | none => none)
  | none => none
def bcOf (cs : CodeL) (k : Nat) : ByteArray := match cs[k]? with | some (b, _) => b | none => ⟨#[]⟩
def okI (b : ByteArray) (e : Nat × Instr × Nat) : Bool := match decode b e.1 with
  | .ok (i, len) => decide (i = e.2.1) && Nat.beq (e.1 + len) e.2.2 && (Nat.beq (ilen i) 0 || Nat.beq len (ilen i))
  | _ => false
def okCs (cs : CodeL) : Bool := cs.all fun m => m.2.all fun c => c.all (okI m.1)
def tyCs (ty : ArrayType → Bool) (cs : CodeL) : Bool := cs.all fun m => m.2.all fun c => c.all fun e => match e.2.1 with | .newarray t => ty t | _ => true
theorem findC_mem : ∀ {l : List (Nat × Instr × Nat)} {pc : Nat} {x : Instr × Nat}, findC l pc = some x → (pc, x) ∈ l
  | [], pc, x, h => by cases h
  | (q, y) :: r, pc, x, h => by
    unfold findC at h
    cases hb : Nat.beq q pc
    · rw [hb] at h; exact List.mem_cons_of_mem _ (findC_mem h)
    · rw [hb] at h; cases h
      have : q = pc := Nat.eq_of_beq_eq_true hb
      subst this; exact List.mem_cons_self ..
theorem codeAt_mem {cs : CodeL} {k pc : Nat} {x : Instr × Nat} (h : codeAt cs k pc = some x) : ∃ m ∈ cs, bcOf cs k = m.1 ∧ ∃ c ∈ m.2, (pc, x) ∈ c := by
  unfold codeAt at h
  split at h
  · rename_i b ch hk
    split at h
    · rename_i c hc
      exact ⟨(b, ch), List.mem_of_getElem? hk, by simp [bcOf, hk], c, List.mem_of_getElem? hc, findC_mem h⟩
    · cases h
  · cases h
theorem code_ok {cs : CodeL} (h : okCs cs = true) {k pc : Nat} {i : Instr} {np : Nat} (hc : codeAt cs k pc = some (i, np)) : ∃ len, decode (bcOf cs k) pc = .ok (i, len) ∧ np = pc + len ∧ (ilen i = 0 ∨ len = ilen i) := by
  obtain ⟨m, h1, h2, c, h3, h4⟩ := codeAt_mem hc
  have q := List.all_eq_true.mp (List.all_eq_true.mp (List.all_eq_true.mp h m h1) c h3) _ h4
  unfold okI at q
  rw [h2]
  split at q
  · rename_i i' len hd
    simp only [Bool.and_eq_true, Bool.or_eq_true, decide_eq_true_eq] at q
    obtain ⟨⟨rfl, q2⟩, q3⟩ := q
    refine ⟨len, hd, (Nat.eq_of_beq_eq_true q2).symm, q3.elim (fun z => Or.inl (Nat.eq_of_beq_eq_true z)) fun z => Or.inr (Nat.eq_of_beq_eq_true z)⟩
  · cases q
theorem code_ty {ty : ArrayType → Bool} {cs : CodeL} (h : tyCs ty cs = true) {k pc : Nat} {t : ArrayType} {np : Nat} (hc : codeAt cs k pc = some (.newarray t, np)) : ty t = true := by
  obtain ⟨m, h1, h2, c, h3, h4⟩ := codeAt_mem hc
  exact List.all_eq_true.mp (List.all_eq_true.mp (List.all_eq_true.mp h m h1) c h3) _ h4
def lookT {α : Type} : List (Nat × Nat × α) → Nat → Nat → Option α
  | [], _, _ => none
  | (c', j', x) :: r, c, j => bif Nat.beq j' j && Nat.beq c' c then some x else lookT r c j
theorem lookT_mem {α : Type} : ∀ {l : List (Nat × Nat × α)} {c j : Nat} {x : α}, lookT l c j = some x → (c, j, x) ∈ l
  | [], c, j, x, h => by cases h
  | (c', j', y) :: r, c, j, x, h => by
    unfold lookT at h
    cases hb : (Nat.beq j' j && Nat.beq c' c)
    · rw [hb] at h; exact List.mem_cons_of_mem _ (lookT_mem h)
    · rw [hb] at h; cases h
      simp only [Bool.and_eq_true] at hb
      have h1 : j' = j := Nat.eq_of_beq_eq_true hb.1
      have h2 : c' = c := Nat.eq_of_beq_eq_true hb.2
      subst h1 h2; exact List.mem_cons_self ..
def AllP {α : Type} (p : α → Prop) : List α → Prop
  | [] => True
  | a :: r => p a ∧ AllP p r
theorem AllP.mem {α : Type} {p : α → Prop} : ∀ {l : List α}, AllP p l → ∀ a ∈ l, p a
  | [], _, a, h => nomatch h
  | _ :: _, ⟨h1, h2⟩, a, h => (List.mem_cons.mp h).elim (fun e => e ▸ h1) (AllP.mem h2 a)
def FldOk (P : Prog) (cn : Nat → String) (C : String) (Z : State) (a0 : Array Value) (e : Nat × Nat × Nat) : Prop := ∃ n d t fin, P.fields[e.2.2]? = some (n, d, t, fin) ∧ (Cond.fieldLink (cn e.1) e.2.1 C n d).before a0 Z = true
def FieldOk (C : String) (Z : State) (a0 : Array Value) (e : String × String × Nat × Bool) : Prop := (bif e.2.2.2 then (Cond.laysFinal C C e.1 e.2.1).before a0 Z else (Cond.lays C C e.1 e.2.1).before a0 Z) = true ∧ ∃ ty, parseFieldDescriptor e.2.1 = some ty ∧ tyOk e.2.2.1 ty = true ∧ defaultValue ty = dflt e.2.2.1
theorem good_of {cs : CodeL} {mi : Nat → MI} {links : List (Nat × Nat × Nat × Nat)} {flds : List (Nat × Nat × Nat)} {kons : List (Nat × Nat × Value)} {fields : List (String × String × Nat × Bool)} {objN ro cc cS : Nat} {nm : Nat → MethodName} {cn : Nat → String} {C : String} {Z : State} {a0 : Array Value} {ty : ArrayType → Bool} {P : Prog}
    (hP : P = (codeAt cs, mi, lookT links, lookT flds, lookT kons, fields, objN, ro, cc, cS)) (h1 : okCs cs = true) (h2 : AllP (FldOk P cn C Z a0) flds) (h3 : AllP (FieldOk C Z a0) fields) (h4 : (fields.map (·.1)).Nodup) (h5 : AllP (fun e => KonOk cn Z a0 e.1 e.2.1 e.2.2) kons)
    (h6 : (Cond.instantiable C objN).before a0 Z = true) (h7 : (Cond.initialized C).before a0 Z = true) (h8 : tyCs ty cs = true) (h8' : ∀ t, ty t = true → (Cond.arrayClass (newarray.typeOf t)).before a0 Z = true) (h9 : AllP (fun e => LinkOk P nm (bcOf cs) cn C Z a0 e.1 e.2.1 e.2.2.1 e.2.2.2) links) : Good P nm (bcOf cs) cn C Z a0 := by
  subst hP
  refine ⟨fun k pc i np h => code_ok h1 h, fun c j f h => h2.mem _ (lookT_mem h), fun f n d t fin h => h3.mem _ (List.mem_of_getElem? h), fun f g n d t fin n' d' t' fin' q1 q2 ne e => ?_, fun c j v h => h5.mem _ (lookT_mem h), h6, h7, fun k pc t np h => h8' _ (code_ty h8 h), fun c j q k h => h9.mem _ (lookT_mem h)⟩
  subst e
  have e1 : (fields.map (·.1))[f]? = some n := by rw [List.getElem?_map]; exact congrArg (Option.map (·.1)) q1
  have e2 : (fields.map (·.1))[g]? = some n := by rw [List.getElem?_map]; exact congrArg (Option.map (·.1)) q2
  exact ne ((List.getElem?_inj (List.getElem?_eq_some_iff.mp e1).1 h4).mp (e1.trans e2.symm))
/-! ## what the walks of functions use -/
theorem ite_some {α : Type} {c : Prop} [Decidable c] {a : Option α} {r : α} (h : (if c then a else none) = some r) : c ∧ a = some r := by
  by_cases hc : c
  · rw [if_pos hc] at h; exact ⟨hc, h⟩
  · rw [if_neg hc] at h; cases h
theorem ite_none {α : Type} {c : Prop} [Decidable c] {a : Option α} {r : α} (h : (if c then none else a) = some r) : ¬ c ∧ a = some r := by
  by_cases hc : c
  · rw [if_pos hc] at h; cases h
  · rw [if_neg hc] at h; exact ⟨hc, h⟩
theorem bind_some {α β : Type} {o : Option α} {f : α → Option β} {r : β} (h : o.bind f = some r) : ∃ a, o = some a ∧ f a = some r := Option.bind_eq_some_iff.mp h
section Calls
variable {P : Prog} {k pc np : Nat} {L L' : ALoc} {S S' : List Value} {H H1 : AHeap} {out : Option Value × AHeap} {i : Instr} {k' : Nat} {as rest : List Value}
theorem Eval.callI {x : Int32} (hc : P.code k pc = some (i, np)) (h2 : callV P k i S H = some (k', as, rest)) (he : Eval P k' 0 (entry P k' as) [] H (some (.int x), H1)) (h : Eval P k np L (.int x :: rest) H1 out) : Eval P k pc L S H out := Eval.call hc h2 he h
theorem Eval.callJ {x : Int64} (hc : P.code k pc = some (i, np)) (h2 : callV P k i S H = some (k', as, rest)) (he : Eval P k' 0 (entry P k' as) [] H (some (.long x), H1)) (h : Eval P k np L (.long x :: rest) H1 out) : Eval P k pc L S H out := Eval.call hc h2 he h
theorem Eval.callN (hc : P.code k pc = some (i, np)) (h2 : callV P k i S H = some (k', as, rest)) (he : Eval P k' 0 (entry P k' as) [] H (none, H1)) (h : Eval P k np L rest H1 out) : Eval P k pc L S H out := Eval.call hc h2 he h
theorem Eval.conv (h : Eval P k pc L S H out) (e1 : L = L') (e2 : S = S') : Eval P k pc L' S' H out := e1 ▸ e2 ▸ h
theorem Eval.heap {H' : AHeap} (e : H' = H) (h : Eval P k pc L S H' out) : Eval P k pc L S H out := e ▸ h
theorem Eval.retH {H' : AHeap} {v : Option Value} (e : H' = H) (hc : P.code k pc = some (i, np)) (h1 : retV P k i S = some v) : Eval P k pc L S H (v, H') := e ▸ Eval.ret hc h1
end Calls
end Jvm.OwnX
namespace Jvm.OwnX
open Sem ClassFile Op Lib Jvm.Stand Jvm.Free Jvm.LawKit Jvm.RoadKit
theorem HR.none (P : Prog) (C : String) (Z : State) (n0 : Nat) (h : Heap) : HR P C Z n0 [] [] h := ⟨rfl, fun i j a q => by simp at q, fun i a q => by simp at q, fun i c q => by simp at q⟩
def intOf : Value → Int32
  | .int x => x
  | _ => 0
theorem script_start {P : Prog} {C : String} {s : State} {a : Addr} {c : Cell} (hro : P.ro = 1) (hf : Fit s) (A : Arr s s.heap a c .int) : HR P C s s.heap.size [a] [.inr (.inl (0, c.slots.toList.map intOf))] s.heap := by
  have hlt := (Array.getElem?_eq_some_iff.mp A.1).1
  have hint : ∀ i (hi : i < c.slots.size), ∃ x, c.slots[i] = .int x := fun i hi => by
    have q := hf A.1 hi
    obtain ⟨hs, k, hk, comp, hkind⟩ := A.2.1
    have e : s.slotType? c.cls c.vm i = some .int := by
      cases hq : c.vm <;> first | exact absurd hq (hs _) | simp [State.slotType?, hk, hkind]
    have q2 : fits .int c.slots[i] = true := by simpa [State.fitsSlot, e] using q
    exact fit_I q2 (Or.inl rfl)
  refine ⟨rfl, fun i j x q1 q2 => ?_, fun i x q => ?_, fun i d q => ?_⟩
  · cases i with
    | zero => cases j with
      | zero => rfl
      | succ j => simp at q2
    | succ i => simp at q1
  · cases i with
    | zero => simp at q; subst q; exact ⟨hlt, fun h => by rw [hro] at h; omega⟩
    | succ i => simp at q
  · cases i with
    | zero =>
      simp at q; subst q
      refine ⟨a, rfl, c, A, by simp, fun j x hx => ?_⟩
      rw [List.getElem?_map] at hx
      obtain ⟨v, hv, rfl⟩ := Option.map_eq_some_iff.mp hx
      rw [Array.getElem?_toList] at hv
      obtain ⟨hj, rfl⟩ := Array.getElem?_eq_some_iff.mp hv
      obtain ⟨x, e⟩ := hint j hj
      rw [Array.getElem?_eq_getElem hj, e]; rfl
    | succ i => simp at q
end Jvm.OwnX
namespace Jvm.OwnX
/-! ## plain facts on the functions' words -/
theorem len_wr (xs : List Int32) (j v : Int32) : (wr xs j v).length = xs.length := by simp [wr]
theorem len_wrL (xs : List Int64) (j : Int32) (v : Int64) : (wrL xs j v).length = xs.length := by simp [wrL]
theorem rd_wr_same {xs : List Int32} {j : Int32} (h : inb xs.length j = true) (v : Int32) : rd (wr xs j v) j = v := by
  have := inb_lt h
  simp [rd, wr, List.getD_eq_getElem?_getD, this]
theorem rdL_wrL_same {xs : List Int64} {j : Int32} (h : inb xs.length j = true) (v : Int64) : rdL (wrL xs j v) j = v := by
  have := inb_lt h
  simp [rdL, wrL, List.getD_eq_getElem?_getD, this]
theorem nat_inj {i j : Int32} (hi : ¬ i < 0) (hj : ¬ j < 0) (h : i.toNatClampNeg = j.toNatClampNeg) : i = j := by
  apply Int32.toInt_inj.mp
  simp only [Int32.lt_iff_toInt_lt, Int32.toNatClampNeg, Int32.reduceToInt] at hi hj h; omega
theorem inb_nn {n : Nat} {j : Int32} (h : inb n j = true) : ¬ j < 0 := fun q => inb_spec h (Or.inl q)
theorem rd_wr_ne {xs : List Int32} {i j : Int32} (hi : ¬ i < 0) (hj : ¬ j < 0) (h : i ≠ j) (v : Int32) : rd (wr xs i v) j = rd xs j := by
  have : i.toNatClampNeg ≠ j.toNatClampNeg := fun q => h (nat_inj hi hj q)
  simp [rd, wr, List.getD_eq_getElem?_getD, List.getElem?_set_ne this]
theorem rdL_wrL_ne {xs : List Int64} {i j : Int32} (hi : ¬ i < 0) (hj : ¬ j < 0) (h : i ≠ j) (v : Int64) : rdL (wrL xs i v) j = rdL xs j := by
  have : i.toNatClampNeg ≠ j.toNatClampNeg := fun q => h (nat_inj hi hj q)
  simp [rdL, wrL, List.getD_eq_getElem?_getD, List.getElem?_set_ne this]
theorem rd_rep (n : Nat) (j : Int32) : rd (List.replicate n 0) j = 0 := by
  simp only [rd, List.getD_eq_getElem?_getD, List.getElem?_replicate]; split <;> rfl
theorem rdL_rep (n : Nat) (j : Int32) : rdL (List.replicate n 0) j = 0 := by
  simp only [rdL, List.getD_eq_getElem?_getD, List.getElem?_replicate]; split <;> rfl
theorem inb_iff {n : Nat} {j : Int32} : inb n j = true ↔ 0 ≤ j.toInt ∧ j.toInt < n := by
  simp only [inb, Bool.and_eq_true, Bool.not_eq_true', decide_eq_false_iff_not, Int32.lt_iff_toInt_lt, Int32.reduceToInt]
  constructor
  · rintro ⟨h1, h2⟩
    have h3 := Nat.le_of_ble_eq_true h2
    simp only [Int32.toNatClampNeg] at h3
    omega
  · rintro ⟨h1, h2⟩
    refine ⟨by omega, Nat.ble_eq_true_of_le ?_⟩
    simp only [Int32.toNatClampNeg]; omega
theorem lt32 {x y : Int32} : x < y ↔ x.toInt < y.toInt := Int32.lt_iff_toInt_lt
theorem eq32 {x y : Int32} : x = y ↔ x.toInt = y.toInt := Int32.toInt_inj.symm
end Jvm.OwnX
namespace Jvm.Pilot.@@N@@
open Jvm Jvm.ClassFile Sem Op Lib Jvm.Free Jvm.Stand Jvm.LawKit Jvm.RoadKit Bundle Jvm.Pilot.@@N@@.Jvm.D Jvm.OwnX
/-! # tables (printed by gen.py out of the claim's listing and sheet) -/
def own_cs : CodeL := [
  (code, [
    [(0, .new 7, 3), (3, .dup, 4), (4, .iconst 3, 5), (5, .iload_n 0, 6), (6, .bipush 7, 8), (8, .iand, 9), (9, .iadd, 10), (10, .invokespecial 9, 13), (13, .astore_n 3, 14), (14, .iload_n 1, 15), (15, .iconst 1, 16), (16, .iand, 17), (17, .istore 4, 19), (19, .iload_n 2, 20), (20, .ifCond .ge 7, 23), (23, .iconst 0, 24), (24, .goto 15, 27), (27, .iload_n 2, 28), (28, .bipush 50, 30), (30, .if_icmp .le 8, 33)],
    [(33, .bipush 50, 35), (35, .goto 4, 38), (38, .iload_n 2, 39), (39, .istore 5, 41), (41, .iload 5, 43), (43, .iconst 1, 44), (44, .if_icmp .lt 14, 47), (47, .iload 5, 49), (49, .bipush 8, 51), (51, .if_icmp .gt 7, 54), (54, .iconst 1, 55), (55, .goto 4, 58), (58, .iconst 0, 59), (59, .istore 6, 61), (61, .aload_n 3, 62), (62, .iconst 0, 63), (63, .iload 4, 65)],
    [(65, .iconst 0, 66), (66, .invokevirtual 12, 69), (69, .iconst 3, 70), (70, .if_icmp .eq 5, 73), (73, .iconst 0, 74), (74, .ireturn, 75), (75, .aload_n 3, 76), (76, .iconst 1, 77), (77, .iload 4, 79), (79, .iload_n 2, 80), (80, .invokevirtual 12, 83), (83, .iconst 1, 84), (84, .if_icmp .eq 5, 87), (87, .iconst 0, 88), (88, .ireturn, 89), (89, .aload_n 3, 90), (90, .iconst 2, 91), (91, .iload 4, 93), (93, .iconst 0, 94), (94, .invokevirtual 12, 97)],
    [(97, .iconst 1, 98), (98, .if_icmp .eq 5, 101), (101, .iconst 0, 102), (102, .ireturn, 103), (103, .iconst 1, 104), (104, .istore 7, 106), (106, .iload 7, 108), (108, .bipush 8, 110), (110, .if_icmp .gt 56, 113), (113, .aload_n 3, 114), (114, .iconst 1, 115), (115, .invokevirtual 16, 118), (118, .istore 8, 120), (120, .iload 6, 122), (122, .ifCond .eq 10, 125), (125, .iload 7, 127), (127, .iload 5, 129)],
    [(129, .if_icmp .ge 7, 132), (132, .iconst 1, 133), (133, .goto 16, 136), (136, .iload 7, 138), (138, .iload 5, 140), (140, .if_icmp .ne 7, 143), (143, .iconst 4, 144), (144, .goto 5, 147), (147, .bipush (-2), 149), (149, .istore 9, 151), (151, .iload 8, 153), (153, .iload 9, 155), (155, .if_icmp .eq 5, 158), (158, .iconst 0, 159), (159, .ireturn, 160)],
    [(160, .iinc 7 1, 163), (163, .goto (-57), 166), (166, .iload 6, 168), (168, .ifCond .eq 7, 171), (171, .iconst 2, 172), (172, .goto 4, 175), (175, .iconst 1, 176), (176, .istore 7, 178), (178, .iload 6, 180), (180, .ifCond .eq 8, 183), (183, .iload 5, 185), (185, .goto 5, 188), (188, .bipush 8, 190), (190, .istore 8, 192)],
    [(192, .aload_n 3, 193), (193, .iload 4, 195), (195, .invokevirtual 20, 198), (198, .iload 6, 200), (200, .ifCond .eq 7, 203), (203, .iconst 1, 204), (204, .goto 4, 207), (207, .iconst 0, 208), (208, .if_icmp .eq 5, 211), (211, .iconst 0, 212), (212, .ireturn, 213), (213, .aload_n 3, 214), (214, .iconst 1, 215), (215, .invokevirtual 23, 218), (218, .iload 8, 220), (220, .if_icmp .eq 5, 223), (223, .iconst 0, 224)],
    [(224, .ireturn, 225), (225, .aload_n 3, 226), (226, .iconst 1, 227), (227, .invokevirtual 26, 230), (230, .iload 6, 232), (232, .ifCond .eq 7, 235), (235, .iconst 0, 236), (236, .goto 4, 239), (239, .iconst 1, 240), (240, .if_icmp .eq 5, 243), (243, .iconst 0, 244), (244, .ireturn, 245), (245, .aload_n 3, 246), (246, .iload 4, 248), (248, .invokevirtual 29, 251), (251, .iload 6, 253), (253, .ifCond .eq 7, 256)],
    [(256, .iconst 2, 257), (257, .goto 4, 260), (260, .iconst 3, 261), (261, .if_icmp .eq 5, 264), (264, .iconst 0, 265), (265, .ireturn, 266), (266, .aload_n 3, 267), (267, .iconst 2, 268), (268, .invokevirtual 32, 271), (271, .iload 6, 273), (273, .ifCond .eq 7, 276), (276, .iconst 1, 277), (277, .goto 4, 280), (280, .iconst 2, 281), (281, .if_icmp .eq 5, 284), (284, .iconst 0, 285), (285, .ireturn, 286), (286, .aload_n 3, 287), (287, .iconst 0, 288)],
    [(288, .invokevirtual 35, 291), (291, .iload 7, 293), (293, .if_icmp .eq 5, 296), (296, .iconst 0, 297), (297, .ireturn, 298), (298, .aload_n 3, 299), (299, .iload 7, 301), (301, .invokevirtual 26, 304), (304, .iconst 2, 305), (305, .if_icmp .eq 5, 308), (308, .iconst 0, 309), (309, .ireturn, 310), (310, .aload_n 3, 311), (311, .iload 4, 313), (313, .invokevirtual 38, 316), (316, .iconst (-1), 317), (317, .if_icmp .eq 5, 320)],
    [(320, .iconst 0, 321), (321, .ireturn, 322), (322, .aload_n 3, 323), (323, .iload 7, 325), (325, .invokevirtual 16, 328), (328, .iconst 3, 329), (329, .if_icmp .eq 5, 332), (332, .iconst 0, 333), (333, .ireturn, 334), (334, .iconst 3, 335), (335, .iload 8, 337), (337, .iadd, 338), (338, .iconst 2, 339), (339, .iadd, 340), (340, .istore 9, 342), (342, .aload_n 3, 343), (343, .invokevirtual 41, 346), (346, .iload 9, 348), (348, .if_icmp .eq 5, 351), (351, .iconst 0, 352)],
    [(352, .ireturn, 353), (353, .aload_n 3, 354), (354, .iload 4, 356), (356, .invokevirtual 38, 359), (359, .iload 7, 361), (361, .if_icmp .eq 5, 364), (364, .iconst 0, 365), (365, .ireturn, 366), (366, .aload_n 3, 367), (367, .iload 4, 369), (369, .invokevirtual 45, 372), (372, .iconst 2, 373), (373, .if_icmp .eq 5, 376), (376, .iconst 0, 377), (377, .ireturn, 378), (378, .aload_n 3, 379), (379, .iload 4, 381), (381, .iconst 0, 382), (382, .invokevirtual 48, 385)],
    [(385, .ifCond .eq 5, 388), (388, .iconst 0, 389), (389, .ireturn, 390), (390, .aload_n 3, 391), (391, .iload 4, 393), (393, .iconst 1, 394), (394, .invokevirtual 48, 397), (397, .iload 7, 399), (399, .if_icmp .eq 5, 402), (402, .iconst 0, 403), (403, .ireturn, 404), (404, .aload_n 3, 405), (405, .iload 4, 407), (407, .iload 9, 409), (409, .iconst 1, 410), (410, .isub, 411), (411, .invokevirtual 52, 414), (414, .iconst (-1), 415), (415, .if_icmp .eq 5, 418)],
    [(418, .iconst 0, 419), (419, .ireturn, 420), (420, .aload_n 3, 421), (421, .iload 4, 423), (423, .iload 9, 425), (425, .invokevirtual 52, 428), (428, .iload 7, 430), (430, .if_icmp .eq 5, 433), (433, .iconst 0, 434), (434, .ireturn, 435), (435, .aload_n 3, 436), (436, .iload 4, 438), (438, .iconst 3, 439), (439, .invokevirtual 52, 442), (442, .ifCond .eq 5, 445), (445, .iconst 0, 446), (446, .ireturn, 447), (447, .aload_n 3, 448)],
    [(448, .iload 4, 450), (450, .invokevirtual 29, 453), (453, .iload 6, 455), (455, .ifCond .eq 7, 458), (458, .iconst 1, 459), (459, .goto 4, 462), (462, .iconst 2, 463), (463, .if_icmp .eq 5, 466), (466, .iconst 0, 467), (467, .ireturn, 468), (468, .aload_n 3, 469), (469, .iconst 2, 470), (470, .invokevirtual 32, 473), (473, .iload 6, 475), (475, .ifCond .eq 7, 478), (478, .iconst 0, 479), (479, .goto 4, 482)],
    [(482, .iconst 1, 483), (483, .if_icmp .eq 5, 486), (486, .iconst 0, 487), (487, .ireturn, 488), (488, .aload_n 3, 489), (489, .iconst 1, 490), (490, .iload 4, 492), (492, .isub, 493), (493, .invokevirtual 38, 496), (496, .iconst (-1), 497), (497, .if_icmp .eq 5, 500), (500, .iconst 0, 501), (501, .ireturn, 502), (502, .aload_n 3, 503), (503, .iconst 1, 504), (504, .iload 4, 506), (506, .isub, 507), (507, .invokevirtual 29, 510), (510, .ifCond .ne 7, 513)],
    [(513, .iconst 1, 514), (514, .goto 4, 517), (517, .iconst 0, 518), (518, .ireturn, 519)]]),
  (prog_1_method_1_code, [
    [(0, .aload_n 0, 1), (1, .invokespecial 1, 4), (4, .aload_n 0, 5), (5, .bipush 8, 7), (7, .newarray .int, 9), (9, .putfield 7, 12), (12, .aload_n 0, 13), (13, .bipush 8, 15), (15, .newarray .int, 17), (17, .putfield 13, 20), (20, .aload_n 0, 21), (21, .bipush 8, 23), (23, .newarray .int, 25), (25, .putfield 16, 28), (28, .aload_n 0, 29), (29, .bipush 8, 31), (31, .newarray .int, 33)],
    [(33, .putfield 19, 36), (36, .aload_n 0, 37), (37, .bipush 8, 39), (39, .newarray .int, 41), (41, .putfield 22, 44), (44, .aload_n 0, 45), (45, .bipush 8, 47), (47, .newarray .int, 49), (49, .putfield 25, 52), (52, .aload_n 0, 53), (53, .iconst 2, 54), (54, .newarray .int, 56), (56, .putfield 28, 59), (59, .aload_n 0, 60), (60, .iconst 2, 61), (61, .newarray .int, 63), (63, .putfield 31, 66)],
    [(66, .aload_n 0, 67), (67, .iconst 2, 68), (68, .newarray .int, 70), (70, .putfield 34, 73), (73, .aload_n 0, 74), (74, .iconst 2, 75), (75, .newarray .int, 77), (77, .putfield 37, 80), (80, .aload_n 0, 81), (81, .iconst 2, 82), (82, .newarray .int, 84), (84, .putfield 40, 87), (87, .aload_n 0, 88), (88, .sipush 128, 91), (91, .newarray .int, 93), (93, .putfield 43, 96)],
    [(96, .aload_n 0, 97), (97, .sipush 512, 100), (100, .newarray .int, 102), (102, .putfield 46, 105), (105, .iload_n 1, 106), (106, .istore_n 2, 107), (107, .iload_n 2, 108), (108, .iconst 2, 109), (109, .if_icmp .ge 5, 112), (112, .iconst 2, 113), (113, .istore_n 2, 114), (114, .iload_n 2, 115), (115, .bipush 8, 117), (117, .if_icmp .le 6, 120), (120, .bipush 8, 122), (122, .istore_n 2, 123), (123, .aload_n 0, 124), (124, .iload_n 2, 125), (125, .putfield 49, 128)],
    [(128, .aload_n 0, 129), (129, .iconst 0, 130), (130, .putfield 53, 133), (133, .iconst 0, 134), (134, .istore_n 3, 135), (135, .iload_n 3, 136), (136, .bipush 8, 138), (138, .if_icmp .ge 37, 141), (141, .aload_n 0, 142), (142, .getfield 7, 145), (145, .iload_n 3, 146), (146, .iconst 0, 147), (147, .iastore, 148), (148, .aload_n 0, 149), (149, .getfield 13, 152), (152, .iload_n 3, 153), (153, .iconst (-1), 154), (154, .iastore, 155), (155, .aload_n 0, 156), (156, .getfield 22, 159), (159, .iload_n 3, 160)],
    [(160, .iconst (-1), 161), (161, .iastore, 162), (162, .aload_n 0, 163), (163, .getfield 25, 166), (166, .iload_n 3, 167), (167, .iconst (-1), 168), (168, .iastore, 169), (169, .iinc 3 1, 172), (172, .goto (-37), 175), (175, .iconst 0, 176), (176, .istore_n 3, 177), (177, .iload_n 3, 178), (178, .iconst 2, 179), (179, .if_icmp .ge 23, 182), (182, .aload_n 0, 183), (183, .getfield 28, 186), (186, .iload_n 3, 187), (187, .iconst (-1), 188), (188, .iastore, 189), (189, .aload_n 0, 190), (190, .getfield 31, 193)],
    [(193, .iload_n 3, 194), (194, .iconst (-1), 195), (195, .iastore, 196), (196, .iinc 3 1, 199), (199, .goto (-22), 202), (202, .iconst 0, 203), (203, .istore_n 3, 204), (204, .iload_n 3, 205), (205, .sipush 512, 208), (208, .if_icmp .ge 16, 211), (211, .aload_n 0, 212), (212, .getfield 46, 215), (215, .iload_n 3, 216), (216, .iconst (-1), 217), (217, .iastore, 218), (218, .iinc 3 1, 221), (221, .goto (-17), 224)],
    [(224, .return_, 225)]]),
  (prog_1_method_13_code, [
    [(0, .aload_n 0, 1), (1, .iload_n 1, 2), (2, .invokevirtual 70, 5), (5, .ifCond .ne 6, 8), (8, .bipush (-2), 10), (10, .ireturn, 11), (11, .aload_n 0, 12), (12, .iload_n 2, 13), (13, .invokevirtual 73, 16), (16, .ifCond .ne 6, 19), (19, .bipush (-2), 21), (21, .ireturn, 22), (22, .aload_n 0, 23), (23, .getfield 7, 26), (26, .iload_n 1, 27), (27, .iaload, 28), (28, .ifCond .eq 6, 31), (31, .bipush (-2), 33)],
    [(33, .ireturn, 34), (34, .aload_n 0, 35), (35, .aload_n 0, 36), (36, .getfield 53, 39), (39, .iconst 1, 40), (40, .iadd, 41), (41, .putfield 53, 44), (44, .aload_n 0, 45), (45, .getfield 16, 48), (48, .iload_n 1, 49), (49, .aload_n 0, 50), (50, .iload_n 3, 51), (51, .invokevirtual 76, 54), (54, .iastore, 55), (55, .aload_n 0, 56), (56, .getfield 19, 59), (59, .iload_n 1, 60), (60, .iconst 0, 61), (61, .iastore, 62), (62, .aload_n 0, 63), (63, .getfield 13, 66)],
    [(66, .iload_n 1, 67), (67, .iload_n 2, 68), (68, .iastore, 69), (69, .aload_n 0, 70), (70, .getfield 34, 73), (73, .iload_n 2, 74), (74, .iaload, 75), (75, .ifCond .ne 28, 78), (78, .aload_n 0, 79), (79, .iload_n 1, 80), (80, .iload_n 2, 81), (81, .invokevirtual 79, 84), (84, .aload_n 0, 85), (85, .getfield 7, 88), (88, .iload_n 1, 89), (89, .iconst 3, 90), (90, .iastore, 91), (91, .aload_n 0, 92), (92, .iload_n 1, 93), (93, .iload_n 2, 94), (94, .invokevirtual 83, 97)],
    [(97, .iconst 3, 98), (98, .istore 4, 100), (100, .goto 19, 103), (103, .aload_n 0, 104), (104, .iload_n 1, 105), (105, .iload_n 2, 106), (106, .invokevirtual 79, 109), (109, .aload_n 0, 110), (110, .getfield 7, 113), (113, .iload_n 1, 114), (114, .iconst 1, 115), (115, .iastore, 116), (116, .iconst 1, 117), (117, .istore 4, 119), (119, .aload_n 0, 120), (120, .invokevirtual 86, 123), (123, .iload 4, 125), (125, .ireturn, 126)]]),
  (prog_1_method_2_code, [
    [(0, .iload_n 1, 1), (1, .ifCond .lt 15, 4), (4, .iload_n 1, 5), (5, .aload_n 0, 6), (6, .getfield 49, 9), (9, .if_icmp .ge 7, 12), (12, .iconst 1, 13), (13, .goto 4, 16), (16, .iconst 0, 17), (17, .ireturn, 18)]]),
  (prog_1_method_3_code, [
    [(0, .iload_n 1, 1), (1, .ifCond .eq 8, 4), (4, .iload_n 1, 5), (5, .iconst 1, 6), (6, .if_icmp .ne 7, 9), (9, .iconst 1, 10), (10, .goto 4, 13), (13, .iconst 0, 14), (14, .ireturn, 15)]]),
  (prog_1_method_5_code, [
    [(0, .iload_n 1, 1), (1, .ifCond .ge 5, 4), (4, .iconst 0, 5), (5, .ireturn, 6), (6, .iload_n 1, 7), (7, .bipush 50, 9), (9, .if_icmp .le 6, 12), (12, .bipush 50, 14), (14, .ireturn, 15), (15, .iload_n 1, 16), (16, .ireturn, 17)]]),
  (prog_1_method_8_code, [
    [(0, .aload_n 0, 1), (1, .getfield 31, 4), (4, .iload_n 2, 5), (5, .iaload, 6), (6, .istore_n 3, 7), (7, .iload_n 2, 8), (8, .ifCond .ne 28, 11), (11, .aload_n 0, 12), (12, .getfield 22, 15), (15, .iload_n 1, 16), (16, .iconst (-1), 17), (17, .iastore, 18), (18, .aload_n 0, 19), (19, .iload_n 3, 20), (20, .invokevirtual 60, 23), (23, .ifCond .eq 20, 26), (26, .aload_n 0, 27), (27, .getfield 22, 30), (30, .iload_n 3, 31), (31, .iload_n 1, 32)],
    [(32, .iastore, 33), (33, .goto 10, 36), (36, .aload_n 0, 37), (37, .getfield 25, 40), (40, .iload_n 1, 41), (41, .iload_n 3, 42), (42, .iastore, 43), (43, .iload_n 3, 44), (44, .iconst (-1), 45), (45, .if_icmp .ne 10, 48), (48, .aload_n 0, 49), (49, .getfield 28, 52), (52, .iload_n 2, 53), (53, .iload_n 1, 54), (54, .iastore, 55), (55, .aload_n 0, 56), (56, .getfield 31, 59), (59, .iload_n 2, 60), (60, .iload_n 1, 61), (61, .iastore, 62), (62, .aload_n 0, 63), (63, .getfield 34, 66)],
    [(66, .iload_n 2, 67), (67, .aload_n 0, 68), (68, .getfield 34, 71), (71, .iload_n 2, 72), (72, .iaload, 73), (73, .iconst 1, 74), (74, .iadd, 75), (75, .iastore, 76), (76, .return_, 77)]]),
  (prog_1_method_6_code, [
    [(0, .aload_n 0, 1), (1, .getfield 37, 4), (4, .iload_n 2, 5), (5, .iaload, 6), (6, .istore_n 3, 7), (7, .iload_n 3, 8), (8, .ifCond .lt 21, 11), (11, .iload_n 3, 12), (12, .bipush 64, 14), (14, .if_icmp .ge 15, 17), (17, .aload_n 0, 18), (18, .getfield 43, 21), (21, .iload_n 2, 22), (22, .bipush 64, 24), (24, .imul, 25), (25, .iload_n 3, 26), (26, .iadd, 27), (27, .iload_n 1, 28), (28, .iastore, 29), (29, .aload_n 0, 30), (30, .getfield 37, 33)],
    [(33, .iload_n 2, 34), (34, .iload_n 3, 35), (35, .iconst 1, 36), (36, .iadd, 37), (37, .iastore, 38), (38, .return_, 39)]]),
  (prog_1_method_7_code, [
    [(0, .aload_n 0, 1), (1, .getfield 53, 4), (4, .iconst 1, 5), (5, .if_icmp .lt 53, 8), (8, .aload_n 0, 9), (9, .getfield 53, 12), (12, .sipush 256, 15), (15, .if_icmp .gt 43, 18), (18, .aload_n 0, 19), (19, .iconst 0, 20), (20, .invokevirtual 56, 23), (23, .istore_n 1, 24), (24, .aload_n 0, 25), (25, .iconst 1, 26), (26, .invokevirtual 56, 29), (29, .istore_n 2, 30), (30, .aload_n 0, 31), (31, .getfield 46, 34)],
    [(34, .aload_n 0, 35), (35, .getfield 53, 38), (38, .iconst 1, 39), (39, .isub, 40), (40, .iload_n 1, 41), (41, .iastore, 42), (42, .aload_n 0, 43), (43, .getfield 46, 46), (46, .sipush 256, 49), (49, .aload_n 0, 50), (50, .getfield 53, 53), (53, .iadd, 54), (54, .iconst 1, 55), (55, .isub, 56), (56, .iload_n 2, 57), (57, .iastore, 58), (58, .return_, 59)]]),
  (prog_1_method_17_code, [
    [(0, .aload_n 0, 1), (1, .iload_n 1, 2), (2, .invokevirtual 73, 5), (5, .ifCond .ne 6, 8), (8, .bipush (-2), 10), (10, .ireturn, 11), (11, .aload_n 0, 12), (12, .getfield 28, 15), (15, .iload_n 1, 16), (16, .iaload, 17), (17, .istore_n 2, 18), (18, .aload_n 0, 19), (19, .iload_n 2, 20), (20, .invokevirtual 60, 23), (23, .ifCond .eq 15, 26), (26, .aload_n 0, 27), (27, .getfield 7, 30), (30, .iload_n 2, 31), (31, .iaload, 32)],
    [(32, .iconst 3, 33), (33, .if_icmp .ne 5, 36), (36, .iload_n 2, 37), (37, .ireturn, 38), (38, .iconst (-1), 39), (39, .ireturn, 40)]]),
  (prog_1_method_4_code, [
    [(0, .iload_n 1, 1), (1, .ifCond .lt 13, 4), (4, .iload_n 1, 5), (5, .bipush 8, 7), (7, .if_icmp .ge 7, 10), (10, .iconst 1, 11), (11, .goto 4, 14), (14, .iconst 0, 15), (15, .ireturn, 16)]]),
  (prog_1_method_15_code, [
    [(0, .aload_n 0, 1), (1, .iload_n 1, 2), (2, .invokevirtual 70, 5), (5, .ifCond .ne 6, 8), (8, .bipush (-2), 10), (10, .ireturn, 11), (11, .aload_n 0, 12), (12, .getfield 7, 15), (15, .iload_n 1, 16), (16, .iaload, 17), (17, .ifCond .ne 6, 20), (20, .bipush (-2), 22), (22, .ireturn, 23), (23, .aload_n 0, 24), (24, .aload_n 0, 25), (25, .getfield 53, 28), (28, .iconst 1, 29), (29, .iadd, 30), (30, .putfield 53, 33)],
    [(33, .aload_n 0, 34), (34, .getfield 13, 37), (37, .iload_n 1, 38), (38, .iaload, 39), (39, .istore_n 2, 40), (40, .aload_n 0, 41), (41, .getfield 7, 44), (44, .iload_n 1, 45), (45, .iaload, 46), (46, .istore_n 3, 47), (47, .iconst 3, 48), (48, .istore 4, 50), (50, .iload_n 3, 51), (51, .iconst 2, 52), (52, .if_icmp .ne 19, 55), (55, .aload_n 0, 56), (56, .getfield 7, 59), (59, .iload_n 1, 60), (60, .iconst 3, 61), (61, .iastore, 62), (62, .aload_n 0, 63), (63, .iload_n 1, 64)],
    [(64, .iload_n 2, 65), (65, .invokevirtual 83, 68), (68, .goto 16, 71), (71, .iload_n 3, 72), (72, .iconst 1, 73), (73, .if_icmp .ne 11, 76), (76, .aload_n 0, 77), (77, .iload_n 1, 78), (78, .iload_n 2, 79), (79, .invokevirtual 92, 82), (82, .istore 4, 84), (84, .aload_n 0, 85), (85, .invokevirtual 86, 88), (88, .iload 4, 90), (90, .ireturn, 91)]]),
  (prog_1_method_14_code, [
    [(0, .aload_n 0, 1), (1, .getfield 19, 4), (4, .iload_n 1, 5), (5, .aload_n 0, 6), (6, .getfield 19, 9), (9, .iload_n 1, 10), (10, .iaload, 11), (11, .iconst 1, 12), (12, .iadd, 13), (13, .iastore, 14), (14, .aload_n 0, 15), (15, .getfield 16, 18), (18, .iload_n 1, 19), (19, .iaload, 20), (20, .ifCond .le 54, 23), (23, .aload_n 0, 24), (24, .getfield 19, 27), (27, .iload_n 1, 28), (28, .iaload, 29), (29, .aload_n 0, 30), (30, .getfield 16, 33)],
    [(33, .iload_n 1, 34), (34, .iaload, 35), (35, .if_icmp .lt 39, 38), (38, .aload_n 0, 39), (39, .iload_n 1, 40), (40, .iload_n 2, 41), (41, .invokevirtual 89, 44), (44, .aload_n 0, 45), (45, .getfield 7, 48), (48, .iload_n 1, 49), (49, .iconst 0, 50), (50, .iastore, 51), (51, .aload_n 0, 52), (52, .getfield 13, 55), (55, .iload_n 1, 56), (56, .iconst (-1), 57), (57, .iastore, 58), (58, .aload_n 0, 59), (59, .getfield 40, 62), (62, .iload_n 2, 63), (63, .aload_n 0, 64)],
    [(64, .getfield 40, 67), (67, .iload_n 2, 68), (68, .iaload, 69), (69, .iconst 1, 70), (70, .iadd, 71), (71, .iastore, 72), (72, .iconst 4, 73), (73, .ireturn, 74), (74, .iconst 1, 75), (75, .ireturn, 76)]]),
  (prog_1_method_12_code, [
    [(0, .iload_n 2, 1), (1, .ifCond .ne 56, 4), (4, .aload_n 0, 5), (5, .iload_n 1, 6), (6, .invokevirtual 67, 9), (9, .istore_n 3, 10), (10, .aload_n 0, 11), (11, .iload_n 3, 12), (12, .invokevirtual 60, 15), (15, .ifCond .eq 15, 18), (18, .aload_n 0, 19), (19, .getfield 22, 22), (22, .iload_n 3, 23), (23, .aload_n 0, 24), (24, .getfield 22, 27), (27, .iload_n 1, 28), (28, .iaload, 29), (29, .iastore, 30), (30, .aload_n 0, 31), (31, .getfield 31, 34)],
    [(34, .iconst 0, 35), (35, .iaload, 36), (36, .iload_n 1, 37), (37, .if_icmp .ne 10, 40), (40, .aload_n 0, 41), (41, .getfield 31, 44), (44, .iconst 0, 45), (45, .iload_n 3, 46), (46, .iastore, 47), (47, .aload_n 0, 48), (48, .getfield 22, 51), (51, .iload_n 1, 52), (52, .iconst (-1), 53), (53, .iastore, 54), (54, .goto 58, 57), (57, .aload_n 0, 58), (58, .getfield 25, 61), (61, .iload_n 1, 62), (62, .iaload, 63), (63, .istore_n 3, 64)],
    [(64, .aload_n 0, 65), (65, .iload_n 1, 66), (66, .invokevirtual 64, 69), (69, .istore 4, 71), (71, .aload_n 0, 72), (72, .iload 4, 74), (74, .invokevirtual 60, 77), (77, .ifCond .eq 11, 80), (80, .aload_n 0, 81), (81, .getfield 25, 84), (84, .iload 4, 86), (86, .iload_n 3, 87), (87, .iastore, 88), (88, .aload_n 0, 89), (89, .getfield 31, 92), (92, .iconst 1, 93), (93, .iaload, 94), (94, .iload_n 1, 95), (95, .if_icmp .ne 10, 98)],
    [(98, .aload_n 0, 99), (99, .getfield 31, 102), (102, .iconst 1, 103), (103, .iload_n 3, 104), (104, .iastore, 105), (105, .aload_n 0, 106), (106, .getfield 25, 109), (109, .iload_n 1, 110), (110, .iconst (-1), 111), (111, .iastore, 112), (112, .aload_n 0, 113), (113, .getfield 34, 116), (116, .iload_n 2, 117), (117, .aload_n 0, 118), (118, .getfield 34, 121), (121, .iload_n 2, 122), (122, .iaload, 123), (123, .iconst 1, 124), (124, .isub, 125), (125, .iastore, 126), (126, .return_, 127)]]),
  (prog_1_method_9_code, [
    [(0, .iconst 0, 1), (1, .istore_n 2, 2), (2, .iload_n 2, 3), (3, .aload_n 0, 4), (4, .getfield 49, 7), (7, .if_icmp .ge 45, 10), (10, .iload_n 2, 11), (11, .iload_n 1, 12), (12, .if_icmp .eq 34, 15), (15, .aload_n 0, 16), (16, .getfield 13, 19), (19, .iload_n 2, 20), (20, .iaload, 21), (21, .iconst 1, 22), (22, .if_icmp .ne 24, 25), (25, .aload_n 0, 26), (26, .getfield 7, 29), (29, .iload_n 2, 30), (30, .iaload, 31), (31, .ifCond .eq 15, 34)],
    [(34, .aload_n 0, 35), (35, .getfield 25, 38), (38, .iload_n 2, 39), (39, .iaload, 40), (40, .iload_n 1, 41), (41, .if_icmp .ne 5, 44), (44, .iload_n 2, 45), (45, .ireturn, 46), (46, .iinc 2 1, 49), (49, .goto (-47), 52), (52, .iconst (-1), 53), (53, .ireturn, 54)]]),
  (prog_1_method_28_code, [
    [(0, .aload_n 0, 1), (1, .iload_n 1, 2), (2, .invokevirtual 73, 5), (5, .ifCond .ne 6, 8), (8, .bipush (-2), 10), (10, .ireturn, 11), (11, .aload_n 0, 12), (12, .getfield 40, 15), (15, .iload_n 1, 16), (16, .iaload, 17), (17, .ireturn, 18)]]),
  (prog_1_method_25_code, [
    [(0, .aload_n 0, 1), (1, .iload_n 1, 2), (2, .invokevirtual 70, 5), (5, .ifCond .ne 6, 8), (8, .bipush (-2), 10), (10, .ireturn, 11), (11, .aload_n 0, 12), (12, .getfield 19, 15), (15, .iload_n 1, 16), (16, .iaload, 17), (17, .ireturn, 18)]]),
  (prog_1_method_19_code, [
    [(0, .aload_n 0, 1), (1, .iload_n 1, 2), (2, .invokevirtual 70, 5), (5, .ifCond .ne 6, 8), (8, .bipush (-2), 10), (10, .ireturn, 11), (11, .aload_n 0, 12), (12, .getfield 7, 15), (15, .iload_n 1, 16), (16, .iaload, 17), (17, .ireturn, 18)]]),
  (prog_1_method_24_code, [
    [(0, .aload_n 0, 1), (1, .iload_n 1, 2), (2, .invokevirtual 73, 5), (5, .ifCond .ne 6, 8), (8, .bipush (-2), 10), (10, .ireturn, 11), (11, .aload_n 0, 12), (12, .getfield 34, 15), (15, .iload_n 1, 16), (16, .iaload, 17), (17, .ireturn, 18)]]),
  (prog_1_method_23_code, [
    [(0, .aload_n 0, 1), (1, .iload_n 1, 2), (2, .invokevirtual 70, 5), (5, .ifCond .ne 6, 8), (8, .bipush (-2), 10), (10, .ireturn, 11), (11, .aload_n 0, 12), (12, .getfield 7, 15), (15, .iload_n 1, 16), (16, .iaload, 17), (17, .ifCond .ne 5, 20), (20, .iconst (-1), 21), (21, .ireturn, 22), (22, .aload_n 0, 23), (23, .getfield 13, 26), (26, .iload_n 1, 27), (27, .iaload, 28), (28, .ifCond .ne 9, 31), (31, .aload_n 0, 32)],
    [(32, .iload_n 1, 33), (33, .invokevirtual 99, 36), (36, .ireturn, 37), (37, .aload_n 0, 38), (38, .iload_n 1, 39), (39, .invokevirtual 102, 42), (42, .ireturn, 43)]]),
  (prog_1_method_22_code, [
    [(0, .aload_n 0, 1), (1, .getfield 25, 4), (4, .iload_n 1, 5), (5, .iaload, 6), (6, .istore_n 2, 7), (7, .iconst 0, 8), (8, .istore_n 3, 9), (9, .iconst 0, 10), (10, .istore 4, 12), (12, .iload 4, 14), (14, .bipush 8, 16), (16, .if_icmp .ge 29, 19), (19, .aload_n 0, 20), (20, .iload_n 2, 21), (21, .invokevirtual 60, 24), (24, .ifCond .ne 5, 27), (27, .iload_n 3, 28), (28, .ireturn, 29), (29, .iinc 3 1, 32)],
    [(32, .aload_n 0, 33), (33, .getfield 25, 36), (36, .iload_n 2, 37), (37, .iaload, 38), (38, .istore_n 2, 39), (39, .iinc 4 1, 42), (42, .goto (-30), 45), (45, .iload_n 3, 46), (46, .ireturn, 47)]]),
  (prog_1_method_16_code, [
    [(0, .aload_n 0, 1), (1, .iload_n 1, 2), (2, .invokevirtual 70, 5), (5, .ifCond .ne 6, 8), (8, .bipush (-2), 10), (10, .ireturn, 11), (11, .aload_n 0, 12), (12, .getfield 7, 15), (15, .iload_n 1, 16), (16, .iaload, 17), (17, .iconst 3, 18), (18, .if_icmp .eq 6, 21), (21, .bipush (-2), 23), (23, .ireturn, 24), (24, .aload_n 0, 25), (25, .aload_n 0, 26), (26, .getfield 53, 29), (29, .iconst 1, 30), (30, .iadd, 31), (31, .putfield 53, 34)],
    [(34, .aload_n 0, 35), (35, .getfield 13, 38), (38, .iload_n 1, 39), (39, .iaload, 40), (40, .istore_n 2, 41), (41, .aload_n 0, 42), (42, .iload_n 2, 43), (43, .invokevirtual 96, 46), (46, .istore_n 3, 47), (47, .aload_n 0, 48), (48, .getfield 7, 51), (51, .iload_n 1, 52), (52, .iconst 0, 53), (53, .iastore, 54), (54, .aload_n 0, 55), (55, .getfield 13, 58), (58, .iload_n 1, 59), (59, .iconst (-1), 60), (60, .iastore, 61), (61, .aload_n 0, 62), (62, .iload_n 3, 63), (63, .invokevirtual 60, 66)],
    [(66, .ifCond .eq 10, 69), (69, .aload_n 0, 70), (70, .getfield 7, 73), (73, .iload_n 3, 74), (74, .iconst 2, 75), (75, .iastore, 76), (76, .aload_n 0, 77), (77, .invokevirtual 86, 80), (80, .iload_n 3, 81), (81, .ireturn, 82)]]),
  (prog_1_method_11_code, [
    [(0, .aload_n 0, 1), (1, .getfield 28, 4), (4, .iload_n 1, 5), (5, .iaload, 6), (6, .istore_n 2, 7), (7, .aload_n 0, 8), (8, .iload_n 2, 9), (9, .invokevirtual 60, 12), (12, .ifCond .ne 5, 15), (15, .iconst (-1), 16), (16, .ireturn, 17), (17, .iload_n 1, 18), (18, .ifCond .ne 20, 21), (21, .aload_n 0, 22), (22, .getfield 22, 25), (25, .iload_n 2, 26), (26, .iaload, 27), (27, .istore_n 3, 28), (28, .aload_n 0, 29), (29, .getfield 22, 32)],
    [(32, .iload_n 2, 33), (33, .iconst (-1), 34), (34, .iastore, 35), (35, .goto 31, 38), (38, .aload_n 0, 39), (39, .iload_n 2, 40), (40, .invokevirtual 64, 43), (43, .istore_n 3, 44), (44, .aload_n 0, 45), (45, .iload_n 3, 46), (46, .invokevirtual 60, 49), (49, .ifCond .eq 10, 52), (52, .aload_n 0, 53), (53, .getfield 25, 56), (56, .iload_n 3, 57), (57, .iconst (-1), 58), (58, .iastore, 59), (59, .aload_n 0, 60), (60, .getfield 25, 63), (63, .iload_n 2, 64)],
    [(64, .iconst (-1), 65), (65, .iastore, 66), (66, .aload_n 0, 67), (67, .getfield 28, 70), (70, .iload_n 1, 71), (71, .iload_n 3, 72), (72, .iastore, 73), (73, .iload_n 3, 74), (74, .iconst (-1), 75), (75, .if_icmp .ne 10, 78), (78, .aload_n 0, 79), (79, .getfield 31, 82), (82, .iload_n 1, 83), (83, .iconst (-1), 84), (84, .iastore, 85), (85, .aload_n 0, 86), (86, .getfield 34, 89), (89, .iload_n 1, 90), (90, .aload_n 0, 91), (91, .getfield 34, 94), (94, .iload_n 1, 95), (95, .iaload, 96)],
    [(96, .iconst 1, 97), (97, .isub, 98), (98, .iastore, 99), (99, .iload_n 3, 100), (100, .ireturn, 101)]]),
  (prog_1_method_29_code, [
    [(0, .aload_n 0, 1), (1, .getfield 53, 4), (4, .ireturn, 5)]]),
  (prog_1_method_26_code, [
    [(0, .aload_n 0, 1), (1, .iload_n 1, 2), (2, .invokevirtual 73, 5), (5, .ifCond .ne 6, 8), (8, .bipush (-2), 10), (10, .ireturn, 11), (11, .aload_n 0, 12), (12, .getfield 37, 15), (15, .iload_n 1, 16), (16, .iaload, 17), (17, .ireturn, 18)]]),
  (prog_1_method_27_code, [
    [(0, .aload_n 0, 1), (1, .iload_n 1, 2), (2, .invokevirtual 73, 5), (5, .ifCond .ne 6, 8), (8, .bipush (-2), 10), (10, .ireturn, 11), (11, .iload_n 2, 12), (12, .ifCond .lt 19, 15), (15, .iload_n 2, 16), (16, .aload_n 0, 17), (17, .getfield 37, 20), (20, .iload_n 1, 21), (21, .iaload, 22), (22, .if_icmp .ge 9, 25), (25, .iload_n 2, 26), (26, .bipush 64, 28), (28, .if_icmp .lt 6, 31), (31, .bipush (-2), 33)],
    [(33, .ireturn, 34), (34, .aload_n 0, 35), (35, .getfield 43, 38), (38, .iload_n 1, 39), (39, .bipush 64, 41), (41, .imul, 42), (42, .iload_n 2, 43), (43, .iadd, 44), (44, .iaload, 45), (45, .ireturn, 46)]]),
  (prog_1_method_18_code, [
    [(0, .aload_n 0, 1), (1, .iload_n 1, 2), (2, .invokevirtual 73, 5), (5, .ifCond .ne 6, 8), (8, .bipush (-2), 10), (10, .ireturn, 11), (11, .iload_n 2, 12), (12, .iconst 1, 13), (13, .if_icmp .lt 18, 16), (16, .iload_n 2, 17), (17, .aload_n 0, 18), (18, .getfield 53, 21), (21, .if_icmp .gt 10, 24), (24, .iload_n 2, 25), (25, .sipush 256, 28), (28, .if_icmp .le 6, 31), (31, .bipush (-2), 33)],
    [(33, .ireturn, 34), (34, .aload_n 0, 35), (35, .getfield 46, 38), (38, .iload_n 1, 39), (39, .sipush 256, 42), (42, .imul, 43), (43, .iload_n 2, 44), (44, .iadd, 45), (45, .iconst 1, 46), (46, .isub, 47), (47, .iaload, 48), (48, .ireturn, 49)]]),
  (prog_1_method_10_code, [
    [(0, .aload_n 0, 1), (1, .getfield 28, 4), (4, .iconst 0, 5), (5, .iaload, 6), (6, .istore_n 2, 7), (7, .iconst 0, 8), (8, .istore_n 3, 9), (9, .iload_n 3, 10), (10, .bipush 8, 12), (12, .if_icmp .ge 38, 15), (15, .aload_n 0, 16), (16, .iload_n 2, 17), (17, .invokevirtual 60, 20), (20, .ifCond .ne 5, 23), (23, .iconst (-1), 24), (24, .ireturn, 25), (25, .aload_n 0, 26), (26, .getfield 22, 29), (29, .iload_n 2, 30), (30, .iaload, 31), (31, .iload_n 1, 32)],
    [(32, .if_icmp .ne 5, 35), (35, .iload_n 2, 36), (36, .ireturn, 37), (37, .aload_n 0, 38), (38, .getfield 22, 41), (41, .iload_n 2, 42), (42, .iaload, 43), (43, .istore_n 2, 44), (44, .iinc 3 1, 47), (47, .goto (-38), 50), (50, .iconst (-1), 51), (51, .ireturn, 52)]]),
  (prog_1_method_21_code, [
    [(0, .aload_n 0, 1), (1, .getfield 28, 4), (4, .iconst 0, 5), (5, .iaload, 6), (6, .istore_n 2, 7), (7, .iconst 0, 8), (8, .istore_n 3, 9), (9, .iload_n 3, 10), (10, .bipush 8, 12), (12, .if_icmp .ge 33, 15), (15, .iload_n 2, 16), (16, .iload_n 1, 17), (17, .if_icmp .ne 5, 20), (20, .iload_n 3, 21), (21, .ireturn, 22), (22, .aload_n 0, 23), (23, .iload_n 2, 24), (24, .invokevirtual 60, 27), (27, .ifCond .ne 5, 30), (30, .iconst (-1), 31), (31, .ireturn, 32)],
    [(32, .aload_n 0, 33), (33, .getfield 22, 36), (36, .iload_n 2, 37), (37, .iaload, 38), (38, .istore_n 2, 39), (39, .iinc 3 1, 42), (42, .goto (-33), 45), (45, .iconst (-1), 46), (46, .ireturn, 47)]])]
def own_mis : List MI := [(0, 10, 3, some .boolean, false, 8, 176), (1, 4, 2, none, true, 1, 12), (1, 5, 4, some .int, false, 3, 41), (1, 2, 2, some .boolean, false, 0, 0), (1, 2, 2, some .boolean, false, 0, 0), (1, 2, 2, some .int, false, 0, 0), (1, 4, 3, none, false, 1, 13), (1, 4, 3, none, false, 0, 0), (1, 3, 1, none, false, 2, 27), (1, 3, 2, some .int, false, 1, 13), (1, 2, 2, some .boolean, false, 0, 0), (1, 5, 2, some .int, false, 4, 58), (1, 3, 3, some .int, false, 3, 44), (1, 5, 3, none, false, 2, 28), (1, 3, 2, some .int, false, 0, 0), (1, 2, 2, some .int, false, 1, 13), (1, 2, 2, some .int, false, 1, 13), (1, 2, 2, some .int, false, 1, 13), (1, 2, 2, some .int, false, 1, 13), (1, 2, 2, some .int, false, 2, 29), (1, 5, 2, some .int, false, 1, 13), (1, 4, 2, some .int, false, 3, 41), (1, 4, 2, some .int, false, 1, 14), (1, 1, 1, some .int, false, 0, 0), (1, 2, 2, some .int, false, 1, 13), (1, 3, 3, some .int, false, 1, 13), (1, 3, 3, some .int, false, 1, 13), (1, 4, 2, some .int, false, 1, 13), (1, 4, 2, some .int, false, 1, 13)]
def own_links : List (Nat × Nat × Nat × Nat) := [(0, 9, 1, 1), (1, 1, 4, 0), (0, 12, 2, 2), (1, 70, 3, 3), (1, 73, 3, 4), (1, 76, 3, 5), (1, 79, 3, 6), (1, 83, 3, 7), (1, 86, 3, 8), (1, 56, 2, 9), (1, 60, 3, 10), (0, 16, 2, 11), (1, 92, 3, 12), (1, 89, 3, 13), (1, 64, 3, 14), (0, 20, 2, 15), (0, 23, 2, 16), (0, 26, 2, 17), (0, 29, 2, 18), (0, 32, 2, 19), (1, 102, 3, 20), (0, 35, 2, 21), (1, 96, 3, 22), (0, 38, 2, 9), (0, 41, 2, 23), (0, 45, 2, 24), (0, 48, 2, 25), (0, 52, 2, 26), (1, 67, 3, 27), (1, 99, 3, 28), (0, 7, 5, 0)]
def own_flds : List (Nat × Nat × Nat) := [(1, 7, 0), (1, 13, 1), (1, 16, 2), (1, 19, 3), (1, 22, 4), (1, 25, 5), (1, 28, 6), (1, 31, 7), (1, 34, 8), (1, 37, 9), (1, 40, 10), (1, 43, 11), (1, 46, 12), (1, 49, 13), (1, 53, 14)]
def own_kons : List (Nat × Nat × Value) := []
def own_fields : List (String × String × Nat × Bool) := [("st", "[I", 3, false), ("lk", "[I", 3, false), ("tmo", "[I", 3, false), ("spin", "[I", 3, false), ("nxt0", "[I", 3, false), ("prv1", "[I", 3, false), ("head", "[I", 3, false), ("tail", "[I", 3, false), ("len", "[I", 3, false), ("ent", "[I", 3, false), ("aband", "[I", 3, false), ("log", "[I", 3, false), ("hist", "[I", 3, false), ("n", "I", 0, false), ("clk", "I", 0, false)]
def own_P : Prog := (codeAt own_cs, fun k => own_mis.getD k (0, 0, 0, none, false, 0, 0), lookT own_links, lookT own_flds, lookT own_kons, own_fields, 15, 0, 40, 1536)
def own_nms : List MethodName := [⟨"QueueLocksL3", "law", "(III)Z"⟩, ⟨"QueueLocks", "<init>", "(I)V"⟩, ⟨"QueueLocks", "acquire", "(III)I"⟩, ⟨"QueueLocks", "validThread", "(I)Z"⟩, ⟨"QueueLocks", "validLock", "(I)Z"⟩, ⟨"QueueLocks", "clampTimeout", "(I)I"⟩, ⟨"QueueLocks", "append", "(II)V"⟩, ⟨"QueueLocks", "enter", "(II)V"⟩, ⟨"QueueLocks", "recordHistory", "()V"⟩, ⟨"QueueLocks", "holder", "(I)I"⟩, ⟨"QueueLocks", "inNodes", "(I)Z"⟩, ⟨"QueueLocks", "step", "(I)I"⟩, ⟨"QueueLocks", "spinOnce", "(II)I"⟩, ⟨"QueueLocks", "unlink", "(II)V"⟩, ⟨"QueueLocks", "successorClh", "(I)I"⟩, ⟨"QueueLocks", "abandons", "(I)I"⟩, ⟨"QueueLocks", "spins", "(I)I"⟩, ⟨"QueueLocks", "state", "(I)I"⟩, ⟨"QueueLocks", "queueLength", "(I)I"⟩, ⟨"QueueLocks", "ahead", "(I)I"⟩, ⟨"QueueLocks", "aheadClh", "(I)I"⟩, ⟨"QueueLocks", "release", "(I)I"⟩, ⟨"QueueLocks", "popFront", "(I)I"⟩, ⟨"QueueLocks", "clock", "()I"⟩, ⟨"QueueLocks", "entries", "(I)I"⟩, ⟨"QueueLocks", "entryAt", "(II)I"⟩, ⟨"QueueLocks", "holderAt", "(II)I"⟩, ⟨"QueueLocks", "predecessorMcs", "(I)I"⟩, ⟨"QueueLocks", "aheadMcs", "(I)I"⟩]
def own_nm (k : Nat) : MethodName := own_nms.getD k ⟨"", "", ""⟩
def own_cn (c : Nat) : String := match c with | 0 => "QueueLocksL3" | _ => "QueueLocks"
theorem own_pn0 : plainName "QueueLocksL3" = true := by first | (simp [plainName, overriddenIn]; done) | decide +kernel
theorem own_pn1 : plainName "QueueLocks" = true := by first | (simp [plainName, overriddenIn]; done) | decide +kernel
theorem own_ne0 : "QueueLocksL3" ≠ "java/lang/invoke/MethodHandle" ∧ "QueueLocksL3" ≠ "java/lang/invoke/VarHandle" := by decide
theorem own_ne1 : "QueueLocks" ≠ "java/lang/invoke/MethodHandle" ∧ "QueueLocks" ≠ "java/lang/invoke/VarHandle" := by decide
theorem own_pd0 : parseMethodDescriptor "(I)V" = some ⟨[.int], none⟩ := by decide +kernel
theorem own_pd1 : parseMethodDescriptor "(III)I" = some ⟨[.int, .int, .int], some .int⟩ := by decide +kernel
theorem own_pd2 : parseMethodDescriptor "(I)Z" = some ⟨[.int], some .boolean⟩ := by decide +kernel
theorem own_pd3 : parseMethodDescriptor "(I)I" = some ⟨[.int], some .int⟩ := by decide +kernel
theorem own_pd4 : parseMethodDescriptor "(II)V" = some ⟨[.int, .int], none⟩ := by decide +kernel
theorem own_pd5 : parseMethodDescriptor "()V" = some ⟨[], none⟩ := by decide +kernel
theorem own_pd6 : parseMethodDescriptor "(II)I" = some ⟨[.int, .int], some .int⟩ := by decide +kernel
theorem own_pd7 : parseMethodDescriptor "()I" = some ⟨[], some .int⟩ := by decide +kernel
set_option maxRecDepth 100000 in
theorem own_okcs : okCs own_cs = true := by decide +kernel
def own_ty (t : ArrayType) : Bool := decide (t = .int)
theorem own_tyok : tyCs own_ty own_cs = true := by decide +kernel
theorem own_nodup : (own_fields.map (·.1)).Nodup := by decide +kernel
set_option maxRecDepth 100000 in
set_option maxHeartbeats 4000000 in
theorem own_good {Z : State} {a0 : Array Value} (hw : ∀ d ∈ tables_1, d.before a0 Z = true) : Good own_P own_nm (bcOf own_cs) own_cn "QueueLocks" Z a0 := by
  refine good_of (ty := own_ty) rfl own_okcs ?_ ?_ own_nodup ?_ (hw _ (List.mem_of_getElem? (i := 1) rfl)) (hw _ (List.mem_of_getElem? (i := 2) rfl)) own_tyok ?_ ?_
  · exact ⟨⟨_, _, _, _, rfl, (hw _ (List.mem_of_getElem? (i := 10) rfl))⟩,
      ⟨_, _, _, _, rfl, (hw _ (List.mem_of_getElem? (i := 12) rfl))⟩,
      ⟨_, _, _, _, rfl, (hw _ (List.mem_of_getElem? (i := 14) rfl))⟩,
      ⟨_, _, _, _, rfl, (hw _ (List.mem_of_getElem? (i := 16) rfl))⟩,
      ⟨_, _, _, _, rfl, (hw _ (List.mem_of_getElem? (i := 18) rfl))⟩,
      ⟨_, _, _, _, rfl, (hw _ (List.mem_of_getElem? (i := 20) rfl))⟩,
      ⟨_, _, _, _, rfl, (hw _ (List.mem_of_getElem? (i := 22) rfl))⟩,
      ⟨_, _, _, _, rfl, (hw _ (List.mem_of_getElem? (i := 24) rfl))⟩,
      ⟨_, _, _, _, rfl, (hw _ (List.mem_of_getElem? (i := 26) rfl))⟩,
      ⟨_, _, _, _, rfl, (hw _ (List.mem_of_getElem? (i := 28) rfl))⟩,
      ⟨_, _, _, _, rfl, (hw _ (List.mem_of_getElem? (i := 30) rfl))⟩,
      ⟨_, _, _, _, rfl, (hw _ (List.mem_of_getElem? (i := 32) rfl))⟩,
      ⟨_, _, _, _, rfl, (hw _ (List.mem_of_getElem? (i := 34) rfl))⟩,
      ⟨_, _, _, _, rfl, (hw _ (List.mem_of_getElem? (i := 36) rfl))⟩,
      ⟨_, _, _, _, rfl, (hw _ (List.mem_of_getElem? (i := 38) rfl))⟩,
      trivial⟩
  · exact ⟨⟨(hw _ (List.mem_of_getElem? (i := 11) rfl)), .array .int, by decide, rfl, rfl⟩,
      ⟨(hw _ (List.mem_of_getElem? (i := 13) rfl)), .array .int, by decide, rfl, rfl⟩,
      ⟨(hw _ (List.mem_of_getElem? (i := 15) rfl)), .array .int, by decide, rfl, rfl⟩,
      ⟨(hw _ (List.mem_of_getElem? (i := 17) rfl)), .array .int, by decide, rfl, rfl⟩,
      ⟨(hw _ (List.mem_of_getElem? (i := 19) rfl)), .array .int, by decide, rfl, rfl⟩,
      ⟨(hw _ (List.mem_of_getElem? (i := 21) rfl)), .array .int, by decide, rfl, rfl⟩,
      ⟨(hw _ (List.mem_of_getElem? (i := 23) rfl)), .array .int, by decide, rfl, rfl⟩,
      ⟨(hw _ (List.mem_of_getElem? (i := 25) rfl)), .array .int, by decide, rfl, rfl⟩,
      ⟨(hw _ (List.mem_of_getElem? (i := 27) rfl)), .array .int, by decide, rfl, rfl⟩,
      ⟨(hw _ (List.mem_of_getElem? (i := 29) rfl)), .array .int, by decide, rfl, rfl⟩,
      ⟨(hw _ (List.mem_of_getElem? (i := 31) rfl)), .array .int, by decide, rfl, rfl⟩,
      ⟨(hw _ (List.mem_of_getElem? (i := 33) rfl)), .array .int, by decide, rfl, rfl⟩,
      ⟨(hw _ (List.mem_of_getElem? (i := 35) rfl)), .array .int, by decide, rfl, rfl⟩,
      ⟨(hw _ (List.mem_of_getElem? (i := 37) rfl)), .int, by decide, rfl, rfl⟩,
      ⟨(hw _ (List.mem_of_getElem? (i := 39) rfl)), .int, by decide, rfl, rfl⟩,
      trivial⟩
  · exact trivial
  · intro t ht
    simp only [own_ty, Bool.or_eq_true, decide_eq_true_eq] at ht
    subst ht
    exact (hw _ (List.mem_of_getElem? (i := 9) rfl))
  · exact ⟨⟨(hw _ (List.mem_of_getElem? (i := 3) rfl)), (hw _ (List.mem_of_getElem? (i := 5) rfl)), (hw _ (List.mem_of_getElem? (i := 2) rfl)), ⟨_, _, own_pd0, rfl⟩, own_pn1, own_ne1, rfl, (fun _ => ⟨rfl, rfl⟩), ⟨rfl, (hw _ (List.mem_of_getElem? (i := 4) rfl)), rfl⟩⟩,
      ⟨(hw _ (List.mem_of_getElem? (i := 6) rfl)), (hw _ (List.mem_of_getElem? (i := 7) rfl)), (hw _ (List.mem_of_getElem? (i := 8) rfl))⟩,
      ⟨(hw _ (List.mem_of_getElem? (i := 40) rfl)), (hw _ (List.mem_of_getElem? (i := 44) rfl)), (hw _ (List.mem_of_getElem? (i := 2) rfl)), ⟨_, _, own_pd1, rfl⟩, own_pn1, own_ne1, rfl, (fun h => nomatch h), ⟨(hw _ (List.mem_of_getElem? (i := 41) rfl)), (hw _ (List.mem_of_getElem? (i := 42) rfl)), (hw _ (List.mem_of_getElem? (i := 43) rfl))⟩⟩,
      ⟨(hw _ (List.mem_of_getElem? (i := 45) rfl)), (hw _ (List.mem_of_getElem? (i := 48) rfl)), (hw _ (List.mem_of_getElem? (i := 2) rfl)), ⟨_, _, own_pd2, rfl⟩, own_pn1, own_ne1, rfl, (fun h => nomatch h), ⟨rfl, (hw _ (List.mem_of_getElem? (i := 46) rfl)), (hw _ (List.mem_of_getElem? (i := 47) rfl))⟩⟩,
      ⟨(hw _ (List.mem_of_getElem? (i := 49) rfl)), (hw _ (List.mem_of_getElem? (i := 52) rfl)), (hw _ (List.mem_of_getElem? (i := 2) rfl)), ⟨_, _, own_pd2, rfl⟩, own_pn1, own_ne1, rfl, (fun h => nomatch h), ⟨rfl, (hw _ (List.mem_of_getElem? (i := 50) rfl)), (hw _ (List.mem_of_getElem? (i := 51) rfl))⟩⟩,
      ⟨(hw _ (List.mem_of_getElem? (i := 53) rfl)), (hw _ (List.mem_of_getElem? (i := 56) rfl)), (hw _ (List.mem_of_getElem? (i := 2) rfl)), ⟨_, _, own_pd3, rfl⟩, own_pn1, own_ne1, rfl, (fun h => nomatch h), ⟨rfl, (hw _ (List.mem_of_getElem? (i := 54) rfl)), (hw _ (List.mem_of_getElem? (i := 55) rfl))⟩⟩,
      ⟨(hw _ (List.mem_of_getElem? (i := 57) rfl)), (hw _ (List.mem_of_getElem? (i := 60) rfl)), (hw _ (List.mem_of_getElem? (i := 2) rfl)), ⟨_, _, own_pd4, rfl⟩, own_pn1, own_ne1, rfl, (fun h => nomatch h), ⟨rfl, (hw _ (List.mem_of_getElem? (i := 58) rfl)), (hw _ (List.mem_of_getElem? (i := 59) rfl))⟩⟩,
      ⟨(hw _ (List.mem_of_getElem? (i := 61) rfl)), (hw _ (List.mem_of_getElem? (i := 64) rfl)), (hw _ (List.mem_of_getElem? (i := 2) rfl)), ⟨_, _, own_pd4, rfl⟩, own_pn1, own_ne1, rfl, (fun h => nomatch h), ⟨rfl, (hw _ (List.mem_of_getElem? (i := 62) rfl)), (hw _ (List.mem_of_getElem? (i := 63) rfl))⟩⟩,
      ⟨(hw _ (List.mem_of_getElem? (i := 65) rfl)), (hw _ (List.mem_of_getElem? (i := 68) rfl)), (hw _ (List.mem_of_getElem? (i := 2) rfl)), ⟨_, _, own_pd5, rfl⟩, own_pn1, own_ne1, rfl, (fun h => nomatch h), ⟨rfl, (hw _ (List.mem_of_getElem? (i := 66) rfl)), (hw _ (List.mem_of_getElem? (i := 67) rfl))⟩⟩,
      ⟨(hw _ (List.mem_of_getElem? (i := 69) rfl)), (hw _ (List.mem_of_getElem? (i := 73) rfl)), (hw _ (List.mem_of_getElem? (i := 2) rfl)), ⟨_, _, own_pd3, rfl⟩, own_pn1, own_ne1, rfl, (fun h => nomatch h), ⟨(hw _ (List.mem_of_getElem? (i := 70) rfl)), (hw _ (List.mem_of_getElem? (i := 71) rfl)), (hw _ (List.mem_of_getElem? (i := 72) rfl))⟩⟩,
      ⟨(hw _ (List.mem_of_getElem? (i := 74) rfl)), (hw _ (List.mem_of_getElem? (i := 77) rfl)), (hw _ (List.mem_of_getElem? (i := 2) rfl)), ⟨_, _, own_pd2, rfl⟩, own_pn1, own_ne1, rfl, (fun h => nomatch h), ⟨rfl, (hw _ (List.mem_of_getElem? (i := 75) rfl)), (hw _ (List.mem_of_getElem? (i := 76) rfl))⟩⟩,
      ⟨(hw _ (List.mem_of_getElem? (i := 78) rfl)), (hw _ (List.mem_of_getElem? (i := 82) rfl)), (hw _ (List.mem_of_getElem? (i := 2) rfl)), ⟨_, _, own_pd3, rfl⟩, own_pn1, own_ne1, rfl, (fun h => nomatch h), ⟨(hw _ (List.mem_of_getElem? (i := 79) rfl)), (hw _ (List.mem_of_getElem? (i := 80) rfl)), (hw _ (List.mem_of_getElem? (i := 81) rfl))⟩⟩,
      ⟨(hw _ (List.mem_of_getElem? (i := 83) rfl)), (hw _ (List.mem_of_getElem? (i := 86) rfl)), (hw _ (List.mem_of_getElem? (i := 2) rfl)), ⟨_, _, own_pd6, rfl⟩, own_pn1, own_ne1, rfl, (fun h => nomatch h), ⟨rfl, (hw _ (List.mem_of_getElem? (i := 84) rfl)), (hw _ (List.mem_of_getElem? (i := 85) rfl))⟩⟩,
      ⟨(hw _ (List.mem_of_getElem? (i := 87) rfl)), (hw _ (List.mem_of_getElem? (i := 90) rfl)), (hw _ (List.mem_of_getElem? (i := 2) rfl)), ⟨_, _, own_pd4, rfl⟩, own_pn1, own_ne1, rfl, (fun h => nomatch h), ⟨rfl, (hw _ (List.mem_of_getElem? (i := 88) rfl)), (hw _ (List.mem_of_getElem? (i := 89) rfl))⟩⟩,
      ⟨(hw _ (List.mem_of_getElem? (i := 91) rfl)), (hw _ (List.mem_of_getElem? (i := 94) rfl)), (hw _ (List.mem_of_getElem? (i := 2) rfl)), ⟨_, _, own_pd3, rfl⟩, own_pn1, own_ne1, rfl, (fun h => nomatch h), ⟨rfl, (hw _ (List.mem_of_getElem? (i := 92) rfl)), (hw _ (List.mem_of_getElem? (i := 93) rfl))⟩⟩,
      ⟨(hw _ (List.mem_of_getElem? (i := 95) rfl)), (hw _ (List.mem_of_getElem? (i := 99) rfl)), (hw _ (List.mem_of_getElem? (i := 2) rfl)), ⟨_, _, own_pd3, rfl⟩, own_pn1, own_ne1, rfl, (fun h => nomatch h), ⟨(hw _ (List.mem_of_getElem? (i := 96) rfl)), (hw _ (List.mem_of_getElem? (i := 97) rfl)), (hw _ (List.mem_of_getElem? (i := 98) rfl))⟩⟩,
      ⟨(hw _ (List.mem_of_getElem? (i := 100) rfl)), (hw _ (List.mem_of_getElem? (i := 104) rfl)), (hw _ (List.mem_of_getElem? (i := 2) rfl)), ⟨_, _, own_pd3, rfl⟩, own_pn1, own_ne1, rfl, (fun h => nomatch h), ⟨(hw _ (List.mem_of_getElem? (i := 101) rfl)), (hw _ (List.mem_of_getElem? (i := 102) rfl)), (hw _ (List.mem_of_getElem? (i := 103) rfl))⟩⟩,
      ⟨(hw _ (List.mem_of_getElem? (i := 105) rfl)), (hw _ (List.mem_of_getElem? (i := 109) rfl)), (hw _ (List.mem_of_getElem? (i := 2) rfl)), ⟨_, _, own_pd3, rfl⟩, own_pn1, own_ne1, rfl, (fun h => nomatch h), ⟨(hw _ (List.mem_of_getElem? (i := 106) rfl)), (hw _ (List.mem_of_getElem? (i := 107) rfl)), (hw _ (List.mem_of_getElem? (i := 108) rfl))⟩⟩,
      ⟨(hw _ (List.mem_of_getElem? (i := 110) rfl)), (hw _ (List.mem_of_getElem? (i := 114) rfl)), (hw _ (List.mem_of_getElem? (i := 2) rfl)), ⟨_, _, own_pd3, rfl⟩, own_pn1, own_ne1, rfl, (fun h => nomatch h), ⟨(hw _ (List.mem_of_getElem? (i := 111) rfl)), (hw _ (List.mem_of_getElem? (i := 112) rfl)), (hw _ (List.mem_of_getElem? (i := 113) rfl))⟩⟩,
      ⟨(hw _ (List.mem_of_getElem? (i := 115) rfl)), (hw _ (List.mem_of_getElem? (i := 119) rfl)), (hw _ (List.mem_of_getElem? (i := 2) rfl)), ⟨_, _, own_pd3, rfl⟩, own_pn1, own_ne1, rfl, (fun h => nomatch h), ⟨(hw _ (List.mem_of_getElem? (i := 116) rfl)), (hw _ (List.mem_of_getElem? (i := 117) rfl)), (hw _ (List.mem_of_getElem? (i := 118) rfl))⟩⟩,
      ⟨(hw _ (List.mem_of_getElem? (i := 120) rfl)), (hw _ (List.mem_of_getElem? (i := 123) rfl)), (hw _ (List.mem_of_getElem? (i := 2) rfl)), ⟨_, _, own_pd3, rfl⟩, own_pn1, own_ne1, rfl, (fun h => nomatch h), ⟨rfl, (hw _ (List.mem_of_getElem? (i := 121) rfl)), (hw _ (List.mem_of_getElem? (i := 122) rfl))⟩⟩,
      ⟨(hw _ (List.mem_of_getElem? (i := 124) rfl)), (hw _ (List.mem_of_getElem? (i := 128) rfl)), (hw _ (List.mem_of_getElem? (i := 2) rfl)), ⟨_, _, own_pd3, rfl⟩, own_pn1, own_ne1, rfl, (fun h => nomatch h), ⟨(hw _ (List.mem_of_getElem? (i := 125) rfl)), (hw _ (List.mem_of_getElem? (i := 126) rfl)), (hw _ (List.mem_of_getElem? (i := 127) rfl))⟩⟩,
      ⟨(hw _ (List.mem_of_getElem? (i := 129) rfl)), (hw _ (List.mem_of_getElem? (i := 132) rfl)), (hw _ (List.mem_of_getElem? (i := 2) rfl)), ⟨_, _, own_pd3, rfl⟩, own_pn1, own_ne1, rfl, (fun h => nomatch h), ⟨rfl, (hw _ (List.mem_of_getElem? (i := 130) rfl)), (hw _ (List.mem_of_getElem? (i := 131) rfl))⟩⟩,
      ⟨(hw _ (List.mem_of_getElem? (i := 133) rfl)), (hw _ (List.mem_of_getElem? (i := 73) rfl)), (hw _ (List.mem_of_getElem? (i := 2) rfl)), ⟨_, _, own_pd3, rfl⟩, own_pn1, own_ne1, rfl, (fun h => nomatch h), ⟨(hw _ (List.mem_of_getElem? (i := 70) rfl)), (hw _ (List.mem_of_getElem? (i := 71) rfl)), (hw _ (List.mem_of_getElem? (i := 72) rfl))⟩⟩,
      ⟨(hw _ (List.mem_of_getElem? (i := 134) rfl)), (hw _ (List.mem_of_getElem? (i := 138) rfl)), (hw _ (List.mem_of_getElem? (i := 2) rfl)), ⟨_, _, own_pd7, rfl⟩, own_pn1, own_ne1, rfl, (fun h => nomatch h), ⟨(hw _ (List.mem_of_getElem? (i := 135) rfl)), (hw _ (List.mem_of_getElem? (i := 136) rfl)), (hw _ (List.mem_of_getElem? (i := 137) rfl))⟩⟩,
      ⟨(hw _ (List.mem_of_getElem? (i := 139) rfl)), (hw _ (List.mem_of_getElem? (i := 143) rfl)), (hw _ (List.mem_of_getElem? (i := 2) rfl)), ⟨_, _, own_pd3, rfl⟩, own_pn1, own_ne1, rfl, (fun h => nomatch h), ⟨(hw _ (List.mem_of_getElem? (i := 140) rfl)), (hw _ (List.mem_of_getElem? (i := 141) rfl)), (hw _ (List.mem_of_getElem? (i := 142) rfl))⟩⟩,
      ⟨(hw _ (List.mem_of_getElem? (i := 144) rfl)), (hw _ (List.mem_of_getElem? (i := 148) rfl)), (hw _ (List.mem_of_getElem? (i := 2) rfl)), ⟨_, _, own_pd6, rfl⟩, own_pn1, own_ne1, rfl, (fun h => nomatch h), ⟨(hw _ (List.mem_of_getElem? (i := 145) rfl)), (hw _ (List.mem_of_getElem? (i := 146) rfl)), (hw _ (List.mem_of_getElem? (i := 147) rfl))⟩⟩,
      ⟨(hw _ (List.mem_of_getElem? (i := 149) rfl)), (hw _ (List.mem_of_getElem? (i := 153) rfl)), (hw _ (List.mem_of_getElem? (i := 2) rfl)), ⟨_, _, own_pd6, rfl⟩, own_pn1, own_ne1, rfl, (fun h => nomatch h), ⟨(hw _ (List.mem_of_getElem? (i := 150) rfl)), (hw _ (List.mem_of_getElem? (i := 151) rfl)), (hw _ (List.mem_of_getElem? (i := 152) rfl))⟩⟩,
      ⟨(hw _ (List.mem_of_getElem? (i := 154) rfl)), (hw _ (List.mem_of_getElem? (i := 157) rfl)), (hw _ (List.mem_of_getElem? (i := 2) rfl)), ⟨_, _, own_pd3, rfl⟩, own_pn1, own_ne1, rfl, (fun h => nomatch h), ⟨rfl, (hw _ (List.mem_of_getElem? (i := 155) rfl)), (hw _ (List.mem_of_getElem? (i := 156) rfl))⟩⟩,
      ⟨(hw _ (List.mem_of_getElem? (i := 158) rfl)), (hw _ (List.mem_of_getElem? (i := 161) rfl)), (hw _ (List.mem_of_getElem? (i := 2) rfl)), ⟨_, _, own_pd3, rfl⟩, own_pn1, own_ne1, rfl, (fun h => nomatch h), ⟨rfl, (hw _ (List.mem_of_getElem? (i := 159) rfl)), (hw _ (List.mem_of_getElem? (i := 160) rfl))⟩⟩,
      (hw _ (List.mem_of_getElem? (i := 0) rfl)),
      trivial⟩
/-! # the object's state -/
def Q : Type := List Int32 × List Int32 × List Int32 × List Int32 × List Int32 × List Int32 × List Int32 × List Int32 × List Int32 × List Int32 × List Int32 × List Int32 × List Int32 × Int32 × Int32
def Q.f_st (s : Q) : List Int32 := s.1
def Q.f_lk (s : Q) : List Int32 := s.2.1
def Q.f_tmo (s : Q) : List Int32 := s.2.2.1
def Q.f_spin (s : Q) : List Int32 := s.2.2.2.1
def Q.f_nxt0 (s : Q) : List Int32 := s.2.2.2.2.1
def Q.f_prv1 (s : Q) : List Int32 := s.2.2.2.2.2.1
def Q.f_head (s : Q) : List Int32 := s.2.2.2.2.2.2.1
def Q.f_tail (s : Q) : List Int32 := s.2.2.2.2.2.2.2.1
def Q.f_len (s : Q) : List Int32 := s.2.2.2.2.2.2.2.2.1
def Q.f_ent (s : Q) : List Int32 := s.2.2.2.2.2.2.2.2.2.1
def Q.f_aband (s : Q) : List Int32 := s.2.2.2.2.2.2.2.2.2.2.1
def Q.f_log (s : Q) : List Int32 := s.2.2.2.2.2.2.2.2.2.2.2.1
def Q.f_hist (s : Q) : List Int32 := s.2.2.2.2.2.2.2.2.2.2.2.2.1
def Q.f_n (s : Q) : Int32 := s.2.2.2.2.2.2.2.2.2.2.2.2.2.1
def Q.f_clk (s : Q) : Int32 := s.2.2.2.2.2.2.2.2.2.2.2.2.2.2
def Q.s_st (s : Q) (x : List Int32) : Q := (x, s.2.1, s.2.2.1, s.2.2.2.1, s.2.2.2.2.1, s.2.2.2.2.2.1, s.2.2.2.2.2.2.1, s.2.2.2.2.2.2.2.1, s.2.2.2.2.2.2.2.2.1, s.2.2.2.2.2.2.2.2.2.1, s.2.2.2.2.2.2.2.2.2.2.1, s.2.2.2.2.2.2.2.2.2.2.2.1, s.2.2.2.2.2.2.2.2.2.2.2.2.1, s.2.2.2.2.2.2.2.2.2.2.2.2.2.1, s.2.2.2.2.2.2.2.2.2.2.2.2.2.2)
def Q.s_lk (s : Q) (x : List Int32) : Q := (s.1, x, s.2.2.1, s.2.2.2.1, s.2.2.2.2.1, s.2.2.2.2.2.1, s.2.2.2.2.2.2.1, s.2.2.2.2.2.2.2.1, s.2.2.2.2.2.2.2.2.1, s.2.2.2.2.2.2.2.2.2.1, s.2.2.2.2.2.2.2.2.2.2.1, s.2.2.2.2.2.2.2.2.2.2.2.1, s.2.2.2.2.2.2.2.2.2.2.2.2.1, s.2.2.2.2.2.2.2.2.2.2.2.2.2.1, s.2.2.2.2.2.2.2.2.2.2.2.2.2.2)
def Q.s_tmo (s : Q) (x : List Int32) : Q := (s.1, s.2.1, x, s.2.2.2.1, s.2.2.2.2.1, s.2.2.2.2.2.1, s.2.2.2.2.2.2.1, s.2.2.2.2.2.2.2.1, s.2.2.2.2.2.2.2.2.1, s.2.2.2.2.2.2.2.2.2.1, s.2.2.2.2.2.2.2.2.2.2.1, s.2.2.2.2.2.2.2.2.2.2.2.1, s.2.2.2.2.2.2.2.2.2.2.2.2.1, s.2.2.2.2.2.2.2.2.2.2.2.2.2.1, s.2.2.2.2.2.2.2.2.2.2.2.2.2.2)
def Q.s_spin (s : Q) (x : List Int32) : Q := (s.1, s.2.1, s.2.2.1, x, s.2.2.2.2.1, s.2.2.2.2.2.1, s.2.2.2.2.2.2.1, s.2.2.2.2.2.2.2.1, s.2.2.2.2.2.2.2.2.1, s.2.2.2.2.2.2.2.2.2.1, s.2.2.2.2.2.2.2.2.2.2.1, s.2.2.2.2.2.2.2.2.2.2.2.1, s.2.2.2.2.2.2.2.2.2.2.2.2.1, s.2.2.2.2.2.2.2.2.2.2.2.2.2.1, s.2.2.2.2.2.2.2.2.2.2.2.2.2.2)
def Q.s_nxt0 (s : Q) (x : List Int32) : Q := (s.1, s.2.1, s.2.2.1, s.2.2.2.1, x, s.2.2.2.2.2.1, s.2.2.2.2.2.2.1, s.2.2.2.2.2.2.2.1, s.2.2.2.2.2.2.2.2.1, s.2.2.2.2.2.2.2.2.2.1, s.2.2.2.2.2.2.2.2.2.2.1, s.2.2.2.2.2.2.2.2.2.2.2.1, s.2.2.2.2.2.2.2.2.2.2.2.2.1, s.2.2.2.2.2.2.2.2.2.2.2.2.2.1, s.2.2.2.2.2.2.2.2.2.2.2.2.2.2)
def Q.s_prv1 (s : Q) (x : List Int32) : Q := (s.1, s.2.1, s.2.2.1, s.2.2.2.1, s.2.2.2.2.1, x, s.2.2.2.2.2.2.1, s.2.2.2.2.2.2.2.1, s.2.2.2.2.2.2.2.2.1, s.2.2.2.2.2.2.2.2.2.1, s.2.2.2.2.2.2.2.2.2.2.1, s.2.2.2.2.2.2.2.2.2.2.2.1, s.2.2.2.2.2.2.2.2.2.2.2.2.1, s.2.2.2.2.2.2.2.2.2.2.2.2.2.1, s.2.2.2.2.2.2.2.2.2.2.2.2.2.2)
def Q.s_head (s : Q) (x : List Int32) : Q := (s.1, s.2.1, s.2.2.1, s.2.2.2.1, s.2.2.2.2.1, s.2.2.2.2.2.1, x, s.2.2.2.2.2.2.2.1, s.2.2.2.2.2.2.2.2.1, s.2.2.2.2.2.2.2.2.2.1, s.2.2.2.2.2.2.2.2.2.2.1, s.2.2.2.2.2.2.2.2.2.2.2.1, s.2.2.2.2.2.2.2.2.2.2.2.2.1, s.2.2.2.2.2.2.2.2.2.2.2.2.2.1, s.2.2.2.2.2.2.2.2.2.2.2.2.2.2)
def Q.s_tail (s : Q) (x : List Int32) : Q := (s.1, s.2.1, s.2.2.1, s.2.2.2.1, s.2.2.2.2.1, s.2.2.2.2.2.1, s.2.2.2.2.2.2.1, x, s.2.2.2.2.2.2.2.2.1, s.2.2.2.2.2.2.2.2.2.1, s.2.2.2.2.2.2.2.2.2.2.1, s.2.2.2.2.2.2.2.2.2.2.2.1, s.2.2.2.2.2.2.2.2.2.2.2.2.1, s.2.2.2.2.2.2.2.2.2.2.2.2.2.1, s.2.2.2.2.2.2.2.2.2.2.2.2.2.2)
def Q.s_len (s : Q) (x : List Int32) : Q := (s.1, s.2.1, s.2.2.1, s.2.2.2.1, s.2.2.2.2.1, s.2.2.2.2.2.1, s.2.2.2.2.2.2.1, s.2.2.2.2.2.2.2.1, x, s.2.2.2.2.2.2.2.2.2.1, s.2.2.2.2.2.2.2.2.2.2.1, s.2.2.2.2.2.2.2.2.2.2.2.1, s.2.2.2.2.2.2.2.2.2.2.2.2.1, s.2.2.2.2.2.2.2.2.2.2.2.2.2.1, s.2.2.2.2.2.2.2.2.2.2.2.2.2.2)
def Q.s_ent (s : Q) (x : List Int32) : Q := (s.1, s.2.1, s.2.2.1, s.2.2.2.1, s.2.2.2.2.1, s.2.2.2.2.2.1, s.2.2.2.2.2.2.1, s.2.2.2.2.2.2.2.1, s.2.2.2.2.2.2.2.2.1, x, s.2.2.2.2.2.2.2.2.2.2.1, s.2.2.2.2.2.2.2.2.2.2.2.1, s.2.2.2.2.2.2.2.2.2.2.2.2.1, s.2.2.2.2.2.2.2.2.2.2.2.2.2.1, s.2.2.2.2.2.2.2.2.2.2.2.2.2.2)
def Q.s_aband (s : Q) (x : List Int32) : Q := (s.1, s.2.1, s.2.2.1, s.2.2.2.1, s.2.2.2.2.1, s.2.2.2.2.2.1, s.2.2.2.2.2.2.1, s.2.2.2.2.2.2.2.1, s.2.2.2.2.2.2.2.2.1, s.2.2.2.2.2.2.2.2.2.1, x, s.2.2.2.2.2.2.2.2.2.2.2.1, s.2.2.2.2.2.2.2.2.2.2.2.2.1, s.2.2.2.2.2.2.2.2.2.2.2.2.2.1, s.2.2.2.2.2.2.2.2.2.2.2.2.2.2)
def Q.s_log (s : Q) (x : List Int32) : Q := (s.1, s.2.1, s.2.2.1, s.2.2.2.1, s.2.2.2.2.1, s.2.2.2.2.2.1, s.2.2.2.2.2.2.1, s.2.2.2.2.2.2.2.1, s.2.2.2.2.2.2.2.2.1, s.2.2.2.2.2.2.2.2.2.1, s.2.2.2.2.2.2.2.2.2.2.1, x, s.2.2.2.2.2.2.2.2.2.2.2.2.1, s.2.2.2.2.2.2.2.2.2.2.2.2.2.1, s.2.2.2.2.2.2.2.2.2.2.2.2.2.2)
def Q.s_hist (s : Q) (x : List Int32) : Q := (s.1, s.2.1, s.2.2.1, s.2.2.2.1, s.2.2.2.2.1, s.2.2.2.2.2.1, s.2.2.2.2.2.2.1, s.2.2.2.2.2.2.2.1, s.2.2.2.2.2.2.2.2.1, s.2.2.2.2.2.2.2.2.2.1, s.2.2.2.2.2.2.2.2.2.2.1, s.2.2.2.2.2.2.2.2.2.2.2.1, x, s.2.2.2.2.2.2.2.2.2.2.2.2.2.1, s.2.2.2.2.2.2.2.2.2.2.2.2.2.2)
def Q.s_n (s : Q) (x : Int32) : Q := (s.1, s.2.1, s.2.2.1, s.2.2.2.1, s.2.2.2.2.1, s.2.2.2.2.2.1, s.2.2.2.2.2.2.1, s.2.2.2.2.2.2.2.1, s.2.2.2.2.2.2.2.2.1, s.2.2.2.2.2.2.2.2.2.1, s.2.2.2.2.2.2.2.2.2.2.1, s.2.2.2.2.2.2.2.2.2.2.2.1, s.2.2.2.2.2.2.2.2.2.2.2.2.1, x, s.2.2.2.2.2.2.2.2.2.2.2.2.2.2)
def Q.s_clk (s : Q) (x : Int32) : Q := (s.1, s.2.1, s.2.2.1, s.2.2.2.1, s.2.2.2.2.1, s.2.2.2.2.2.1, s.2.2.2.2.2.2.1, s.2.2.2.2.2.2.2.1, s.2.2.2.2.2.2.2.2.1, s.2.2.2.2.2.2.2.2.2.1, s.2.2.2.2.2.2.2.2.2.2.1, s.2.2.2.2.2.2.2.2.2.2.2.1, s.2.2.2.2.2.2.2.2.2.2.2.2.1, s.2.2.2.2.2.2.2.2.2.2.2.2.2.1, x)
def Q0 : Q := (List.replicate 8 0, List.replicate 8 0, List.replicate 8 0, List.replicate 8 0, List.replicate 8 0, List.replicate 8 0, List.replicate 2 0, List.replicate 2 0, List.replicate 2 0, List.replicate 2 0, List.replicate 2 0, List.replicate 128 0, List.replicate 512 0, (0 : Int32), (0 : Int32))
def Q.mk (q0 : List Int32) (q1 : List Int32) (q2 : List Int32) (q3 : List Int32) (q4 : List Int32) (q5 : List Int32) (q6 : List Int32) (q7 : List Int32) (q8 : List Int32) (q9 : List Int32) (q10 : List Int32) (q11 : List Int32) (q12 : List Int32) (q13 : Int32) (q14 : Int32) : Q := (q0, q1, q2, q3, q4, q5, q6, q7, q8, q9, q10, q11, q12, q13, q14)
theorem own_f_st {q0 : List Int32} {q1 : List Int32} {q2 : List Int32} {q3 : List Int32} {q4 : List Int32} {q5 : List Int32} {q6 : List Int32} {q7 : List Int32} {q8 : List Int32} {q9 : List Int32} {q10 : List Int32} {q11 : List Int32} {q12 : List Int32} {q13 : Int32} {q14 : Int32} : (Q.mk q0 q1 q2 q3 q4 q5 q6 q7 q8 q9 q10 q11 q12 q13 q14).f_st = q0 := by have _h := trivial; exact rfl
theorem own_f_lk {q0 : List Int32} {q1 : List Int32} {q2 : List Int32} {q3 : List Int32} {q4 : List Int32} {q5 : List Int32} {q6 : List Int32} {q7 : List Int32} {q8 : List Int32} {q9 : List Int32} {q10 : List Int32} {q11 : List Int32} {q12 : List Int32} {q13 : Int32} {q14 : Int32} : (Q.mk q0 q1 q2 q3 q4 q5 q6 q7 q8 q9 q10 q11 q12 q13 q14).f_lk = q1 := by have _h := trivial; exact rfl
theorem own_f_tmo {q0 : List Int32} {q1 : List Int32} {q2 : List Int32} {q3 : List Int32} {q4 : List Int32} {q5 : List Int32} {q6 : List Int32} {q7 : List Int32} {q8 : List Int32} {q9 : List Int32} {q10 : List Int32} {q11 : List Int32} {q12 : List Int32} {q13 : Int32} {q14 : Int32} : (Q.mk q0 q1 q2 q3 q4 q5 q6 q7 q8 q9 q10 q11 q12 q13 q14).f_tmo = q2 := by have _h := trivial; exact rfl
theorem own_f_spin {q0 : List Int32} {q1 : List Int32} {q2 : List Int32} {q3 : List Int32} {q4 : List Int32} {q5 : List Int32} {q6 : List Int32} {q7 : List Int32} {q8 : List Int32} {q9 : List Int32} {q10 : List Int32} {q11 : List Int32} {q12 : List Int32} {q13 : Int32} {q14 : Int32} : (Q.mk q0 q1 q2 q3 q4 q5 q6 q7 q8 q9 q10 q11 q12 q13 q14).f_spin = q3 := by have _h := trivial; exact rfl
theorem own_f_nxt0 {q0 : List Int32} {q1 : List Int32} {q2 : List Int32} {q3 : List Int32} {q4 : List Int32} {q5 : List Int32} {q6 : List Int32} {q7 : List Int32} {q8 : List Int32} {q9 : List Int32} {q10 : List Int32} {q11 : List Int32} {q12 : List Int32} {q13 : Int32} {q14 : Int32} : (Q.mk q0 q1 q2 q3 q4 q5 q6 q7 q8 q9 q10 q11 q12 q13 q14).f_nxt0 = q4 := by have _h := trivial; exact rfl
theorem own_f_prv1 {q0 : List Int32} {q1 : List Int32} {q2 : List Int32} {q3 : List Int32} {q4 : List Int32} {q5 : List Int32} {q6 : List Int32} {q7 : List Int32} {q8 : List Int32} {q9 : List Int32} {q10 : List Int32} {q11 : List Int32} {q12 : List Int32} {q13 : Int32} {q14 : Int32} : (Q.mk q0 q1 q2 q3 q4 q5 q6 q7 q8 q9 q10 q11 q12 q13 q14).f_prv1 = q5 := by have _h := trivial; exact rfl
theorem own_f_head {q0 : List Int32} {q1 : List Int32} {q2 : List Int32} {q3 : List Int32} {q4 : List Int32} {q5 : List Int32} {q6 : List Int32} {q7 : List Int32} {q8 : List Int32} {q9 : List Int32} {q10 : List Int32} {q11 : List Int32} {q12 : List Int32} {q13 : Int32} {q14 : Int32} : (Q.mk q0 q1 q2 q3 q4 q5 q6 q7 q8 q9 q10 q11 q12 q13 q14).f_head = q6 := by have _h := trivial; exact rfl
theorem own_f_tail {q0 : List Int32} {q1 : List Int32} {q2 : List Int32} {q3 : List Int32} {q4 : List Int32} {q5 : List Int32} {q6 : List Int32} {q7 : List Int32} {q8 : List Int32} {q9 : List Int32} {q10 : List Int32} {q11 : List Int32} {q12 : List Int32} {q13 : Int32} {q14 : Int32} : (Q.mk q0 q1 q2 q3 q4 q5 q6 q7 q8 q9 q10 q11 q12 q13 q14).f_tail = q7 := by have _h := trivial; exact rfl
theorem own_f_len {q0 : List Int32} {q1 : List Int32} {q2 : List Int32} {q3 : List Int32} {q4 : List Int32} {q5 : List Int32} {q6 : List Int32} {q7 : List Int32} {q8 : List Int32} {q9 : List Int32} {q10 : List Int32} {q11 : List Int32} {q12 : List Int32} {q13 : Int32} {q14 : Int32} : (Q.mk q0 q1 q2 q3 q4 q5 q6 q7 q8 q9 q10 q11 q12 q13 q14).f_len = q8 := by have _h := trivial; exact rfl
theorem own_f_ent {q0 : List Int32} {q1 : List Int32} {q2 : List Int32} {q3 : List Int32} {q4 : List Int32} {q5 : List Int32} {q6 : List Int32} {q7 : List Int32} {q8 : List Int32} {q9 : List Int32} {q10 : List Int32} {q11 : List Int32} {q12 : List Int32} {q13 : Int32} {q14 : Int32} : (Q.mk q0 q1 q2 q3 q4 q5 q6 q7 q8 q9 q10 q11 q12 q13 q14).f_ent = q9 := by have _h := trivial; exact rfl
theorem own_f_aband {q0 : List Int32} {q1 : List Int32} {q2 : List Int32} {q3 : List Int32} {q4 : List Int32} {q5 : List Int32} {q6 : List Int32} {q7 : List Int32} {q8 : List Int32} {q9 : List Int32} {q10 : List Int32} {q11 : List Int32} {q12 : List Int32} {q13 : Int32} {q14 : Int32} : (Q.mk q0 q1 q2 q3 q4 q5 q6 q7 q8 q9 q10 q11 q12 q13 q14).f_aband = q10 := by have _h := trivial; exact rfl
theorem own_f_log {q0 : List Int32} {q1 : List Int32} {q2 : List Int32} {q3 : List Int32} {q4 : List Int32} {q5 : List Int32} {q6 : List Int32} {q7 : List Int32} {q8 : List Int32} {q9 : List Int32} {q10 : List Int32} {q11 : List Int32} {q12 : List Int32} {q13 : Int32} {q14 : Int32} : (Q.mk q0 q1 q2 q3 q4 q5 q6 q7 q8 q9 q10 q11 q12 q13 q14).f_log = q11 := by have _h := trivial; exact rfl
theorem own_f_hist {q0 : List Int32} {q1 : List Int32} {q2 : List Int32} {q3 : List Int32} {q4 : List Int32} {q5 : List Int32} {q6 : List Int32} {q7 : List Int32} {q8 : List Int32} {q9 : List Int32} {q10 : List Int32} {q11 : List Int32} {q12 : List Int32} {q13 : Int32} {q14 : Int32} : (Q.mk q0 q1 q2 q3 q4 q5 q6 q7 q8 q9 q10 q11 q12 q13 q14).f_hist = q12 := by have _h := trivial; exact rfl
theorem own_f_n {q0 : List Int32} {q1 : List Int32} {q2 : List Int32} {q3 : List Int32} {q4 : List Int32} {q5 : List Int32} {q6 : List Int32} {q7 : List Int32} {q8 : List Int32} {q9 : List Int32} {q10 : List Int32} {q11 : List Int32} {q12 : List Int32} {q13 : Int32} {q14 : Int32} : (Q.mk q0 q1 q2 q3 q4 q5 q6 q7 q8 q9 q10 q11 q12 q13 q14).f_n = q13 := by have _h := trivial; exact rfl
theorem own_f_clk {q0 : List Int32} {q1 : List Int32} {q2 : List Int32} {q3 : List Int32} {q4 : List Int32} {q5 : List Int32} {q6 : List Int32} {q7 : List Int32} {q8 : List Int32} {q9 : List Int32} {q10 : List Int32} {q11 : List Int32} {q12 : List Int32} {q13 : Int32} {q14 : Int32} : (Q.mk q0 q1 q2 q3 q4 q5 q6 q7 q8 q9 q10 q11 q12 q13 q14).f_clk = q14 := by have _h := trivial; exact rfl
theorem own_e_st (s : Q) (x : List Int32) : s.s_st x = Q.mk x s.f_lk s.f_tmo s.f_spin s.f_nxt0 s.f_prv1 s.f_head s.f_tail s.f_len s.f_ent s.f_aband s.f_log s.f_hist s.f_n s.f_clk := by have _h := trivial; exact rfl
theorem own_e_lk (s : Q) (x : List Int32) : s.s_lk x = Q.mk s.f_st x s.f_tmo s.f_spin s.f_nxt0 s.f_prv1 s.f_head s.f_tail s.f_len s.f_ent s.f_aband s.f_log s.f_hist s.f_n s.f_clk := by have _h := trivial; exact rfl
theorem own_e_tmo (s : Q) (x : List Int32) : s.s_tmo x = Q.mk s.f_st s.f_lk x s.f_spin s.f_nxt0 s.f_prv1 s.f_head s.f_tail s.f_len s.f_ent s.f_aband s.f_log s.f_hist s.f_n s.f_clk := by have _h := trivial; exact rfl
theorem own_e_spin (s : Q) (x : List Int32) : s.s_spin x = Q.mk s.f_st s.f_lk s.f_tmo x s.f_nxt0 s.f_prv1 s.f_head s.f_tail s.f_len s.f_ent s.f_aband s.f_log s.f_hist s.f_n s.f_clk := by have _h := trivial; exact rfl
theorem own_e_nxt0 (s : Q) (x : List Int32) : s.s_nxt0 x = Q.mk s.f_st s.f_lk s.f_tmo s.f_spin x s.f_prv1 s.f_head s.f_tail s.f_len s.f_ent s.f_aband s.f_log s.f_hist s.f_n s.f_clk := by have _h := trivial; exact rfl
theorem own_e_prv1 (s : Q) (x : List Int32) : s.s_prv1 x = Q.mk s.f_st s.f_lk s.f_tmo s.f_spin s.f_nxt0 x s.f_head s.f_tail s.f_len s.f_ent s.f_aband s.f_log s.f_hist s.f_n s.f_clk := by have _h := trivial; exact rfl
theorem own_e_head (s : Q) (x : List Int32) : s.s_head x = Q.mk s.f_st s.f_lk s.f_tmo s.f_spin s.f_nxt0 s.f_prv1 x s.f_tail s.f_len s.f_ent s.f_aband s.f_log s.f_hist s.f_n s.f_clk := by have _h := trivial; exact rfl
theorem own_e_tail (s : Q) (x : List Int32) : s.s_tail x = Q.mk s.f_st s.f_lk s.f_tmo s.f_spin s.f_nxt0 s.f_prv1 s.f_head x s.f_len s.f_ent s.f_aband s.f_log s.f_hist s.f_n s.f_clk := by have _h := trivial; exact rfl
theorem own_e_len (s : Q) (x : List Int32) : s.s_len x = Q.mk s.f_st s.f_lk s.f_tmo s.f_spin s.f_nxt0 s.f_prv1 s.f_head s.f_tail x s.f_ent s.f_aband s.f_log s.f_hist s.f_n s.f_clk := by have _h := trivial; exact rfl
theorem own_e_ent (s : Q) (x : List Int32) : s.s_ent x = Q.mk s.f_st s.f_lk s.f_tmo s.f_spin s.f_nxt0 s.f_prv1 s.f_head s.f_tail s.f_len x s.f_aband s.f_log s.f_hist s.f_n s.f_clk := by have _h := trivial; exact rfl
theorem own_e_aband (s : Q) (x : List Int32) : s.s_aband x = Q.mk s.f_st s.f_lk s.f_tmo s.f_spin s.f_nxt0 s.f_prv1 s.f_head s.f_tail s.f_len s.f_ent x s.f_log s.f_hist s.f_n s.f_clk := by have _h := trivial; exact rfl
theorem own_e_log (s : Q) (x : List Int32) : s.s_log x = Q.mk s.f_st s.f_lk s.f_tmo s.f_spin s.f_nxt0 s.f_prv1 s.f_head s.f_tail s.f_len s.f_ent s.f_aband x s.f_hist s.f_n s.f_clk := by have _h := trivial; exact rfl
theorem own_e_hist (s : Q) (x : List Int32) : s.s_hist x = Q.mk s.f_st s.f_lk s.f_tmo s.f_spin s.f_nxt0 s.f_prv1 s.f_head s.f_tail s.f_len s.f_ent s.f_aband s.f_log x s.f_n s.f_clk := by have _h := trivial; exact rfl
theorem own_e_n (s : Q) (x : Int32) : s.s_n x = Q.mk s.f_st s.f_lk s.f_tmo s.f_spin s.f_nxt0 s.f_prv1 s.f_head s.f_tail s.f_len s.f_ent s.f_aband s.f_log s.f_hist x s.f_clk := by have _h := trivial; exact rfl
theorem own_e_clk (s : Q) (x : Int32) : s.s_clk x = Q.mk s.f_st s.f_lk s.f_tmo s.f_spin s.f_nxt0 s.f_prv1 s.f_head s.f_tail s.f_len s.f_ent s.f_aband s.f_log s.f_hist s.f_n x := by have _h := trivial; exact rfl
theorem own_z_st : Q0.f_st = List.replicate 8 0 := by have _h := trivial; exact rfl
theorem own_z_lk : Q0.f_lk = List.replicate 8 0 := by have _h := trivial; exact rfl
theorem own_z_tmo : Q0.f_tmo = List.replicate 8 0 := by have _h := trivial; exact rfl
theorem own_z_spin : Q0.f_spin = List.replicate 8 0 := by have _h := trivial; exact rfl
theorem own_z_nxt0 : Q0.f_nxt0 = List.replicate 8 0 := by have _h := trivial; exact rfl
theorem own_z_prv1 : Q0.f_prv1 = List.replicate 8 0 := by have _h := trivial; exact rfl
theorem own_z_head : Q0.f_head = List.replicate 2 0 := by have _h := trivial; exact rfl
theorem own_z_tail : Q0.f_tail = List.replicate 2 0 := by have _h := trivial; exact rfl
theorem own_z_len : Q0.f_len = List.replicate 2 0 := by have _h := trivial; exact rfl
theorem own_z_ent : Q0.f_ent = List.replicate 2 0 := by have _h := trivial; exact rfl
theorem own_z_aband : Q0.f_aband = List.replicate 2 0 := by have _h := trivial; exact rfl
theorem own_z_log : Q0.f_log = List.replicate 128 0 := by have _h := trivial; exact rfl
theorem own_z_hist : Q0.f_hist = List.replicate 512 0 := by have _h := trivial; exact rfl
theorem own_z_n : Q0.f_n = (0 : Int32) := by have _h := trivial; exact rfl
theorem own_z_clk : Q0.f_clk = (0 : Int32) := by have _h := trivial; exact rfl
abbrev W0 (R : AHeap) : AHeap := R
def own_cells1 (q0 : List Int32) (q1 : List Int32) (q2 : List Int32) (q3 : List Int32) (q4 : List Int32) (q5 : List Int32) (q6 : List Int32) (q7 : List Int32) (q8 : List Int32) (q9 : List Int32) (q10 : List Int32) (q11 : List Int32) (q12 : List Int32) (q13 : Int32) (q14 : Int32) (R : AHeap) : AHeap := .inl [.ref 1, .ref 2, .ref 3, .ref 4, .ref 5, .ref 6, .ref 7, .ref 8, .ref 9, .ref 10, .ref 11, .ref 12, .ref 13, .int q13, .int q14] ::
  .inr (.inl (1, q0)) ::
  .inr (.inl (1, q1)) ::
  .inr (.inl (1, q2)) ::
  .inr (.inl (1, q3)) ::
  .inr (.inl (1, q4)) ::
  .inr (.inl (1, q5)) ::
  .inr (.inl (1, q6)) ::
  .inr (.inl (1, q7)) ::
  .inr (.inl (1, q8)) ::
  .inr (.inl (1, q9)) ::
  .inr (.inl (1, q10)) ::
  .inr (.inl (1, q11)) ::
  .inr (.inl (1, q12)) ::
  R
def C1 (q0 : List Int32) (q1 : List Int32) (q2 : List Int32) (q3 : List Int32) (q4 : List Int32) (q5 : List Int32) (q6 : List Int32) (q7 : List Int32) (q8 : List Int32) (q9 : List Int32) (q10 : List Int32) (q11 : List Int32) (q12 : List Int32) (q13 : Int32) (q14 : Int32) (R : AHeap) : AHeap := own_cells1 q0 q1 q2 q3 q4 q5 q6 q7 q8 q9 q10 q11 q12 q13 q14 R
abbrev W1 (s : Q) (R : AHeap) : AHeap := C1 s.f_st s.f_lk s.f_tmo s.f_spin s.f_nxt0 s.f_prv1 s.f_head s.f_tail s.f_len s.f_ent s.f_aband s.f_log s.f_hist s.f_n s.f_clk R
theorem own_g1_st {q0 : List Int32} {q1 : List Int32} {q2 : List Int32} {q3 : List Int32} {q4 : List Int32} {q5 : List Int32} {q6 : List Int32} {q7 : List Int32} {q8 : List Int32} {q9 : List Int32} {q10 : List Int32} {q11 : List Int32} {q12 : List Int32} {q13 : Int32} {q14 : Int32} {R : AHeap} : getC (C1 q0 q1 q2 q3 q4 q5 q6 q7 q8 q9 q10 q11 q12 q13 q14 R) 0 0 = some (.ref 1) := rfl
theorem own_a1_st {q0 : List Int32} {q1 : List Int32} {q2 : List Int32} {q3 : List Int32} {q4 : List Int32} {q5 : List Int32} {q6 : List Int32} {q7 : List Int32} {q8 : List Int32} {q9 : List Int32} {q10 : List Int32} {q11 : List Int32} {q12 : List Int32} {q13 : Int32} {q14 : Int32} {R : AHeap} : (C1 q0 q1 q2 q3 q4 q5 q6 q7 q8 q9 q10 q11 q12 q13 q14 R)[1]? = some (.inr (.inl (1, q0))) := rfl
theorem own_s1_st {q0 : List Int32} {q1 : List Int32} {q2 : List Int32} {q3 : List Int32} {q4 : List Int32} {q5 : List Int32} {q6 : List Int32} {q7 : List Int32} {q8 : List Int32} {q9 : List Int32} {q10 : List Int32} {q11 : List Int32} {q12 : List Int32} {q13 : Int32} {q14 : Int32} {R : AHeap} {x : List Int32} : (C1 q0 q1 q2 q3 q4 q5 q6 q7 q8 q9 q10 q11 q12 q13 q14 R).set 1 (.inr (.inl (1, x))) = (C1 x q1 q2 q3 q4 q5 q6 q7 q8 q9 q10 q11 q12 q13 q14 R) := rfl
theorem own_g1_lk {q0 : List Int32} {q1 : List Int32} {q2 : List Int32} {q3 : List Int32} {q4 : List Int32} {q5 : List Int32} {q6 : List Int32} {q7 : List Int32} {q8 : List Int32} {q9 : List Int32} {q10 : List Int32} {q11 : List Int32} {q12 : List Int32} {q13 : Int32} {q14 : Int32} {R : AHeap} : getC (C1 q0 q1 q2 q3 q4 q5 q6 q7 q8 q9 q10 q11 q12 q13 q14 R) 0 1 = some (.ref 2) := rfl
theorem own_a1_lk {q0 : List Int32} {q1 : List Int32} {q2 : List Int32} {q3 : List Int32} {q4 : List Int32} {q5 : List Int32} {q6 : List Int32} {q7 : List Int32} {q8 : List Int32} {q9 : List Int32} {q10 : List Int32} {q11 : List Int32} {q12 : List Int32} {q13 : Int32} {q14 : Int32} {R : AHeap} : (C1 q0 q1 q2 q3 q4 q5 q6 q7 q8 q9 q10 q11 q12 q13 q14 R)[2]? = some (.inr (.inl (1, q1))) := rfl
theorem own_s1_lk {q0 : List Int32} {q1 : List Int32} {q2 : List Int32} {q3 : List Int32} {q4 : List Int32} {q5 : List Int32} {q6 : List Int32} {q7 : List Int32} {q8 : List Int32} {q9 : List Int32} {q10 : List Int32} {q11 : List Int32} {q12 : List Int32} {q13 : Int32} {q14 : Int32} {R : AHeap} {x : List Int32} : (C1 q0 q1 q2 q3 q4 q5 q6 q7 q8 q9 q10 q11 q12 q13 q14 R).set 2 (.inr (.inl (1, x))) = (C1 q0 x q2 q3 q4 q5 q6 q7 q8 q9 q10 q11 q12 q13 q14 R) := rfl
theorem own_g1_tmo {q0 : List Int32} {q1 : List Int32} {q2 : List Int32} {q3 : List Int32} {q4 : List Int32} {q5 : List Int32} {q6 : List Int32} {q7 : List Int32} {q8 : List Int32} {q9 : List Int32} {q10 : List Int32} {q11 : List Int32} {q12 : List Int32} {q13 : Int32} {q14 : Int32} {R : AHeap} : getC (C1 q0 q1 q2 q3 q4 q5 q6 q7 q8 q9 q10 q11 q12 q13 q14 R) 0 2 = some (.ref 3) := rfl
theorem own_a1_tmo {q0 : List Int32} {q1 : List Int32} {q2 : List Int32} {q3 : List Int32} {q4 : List Int32} {q5 : List Int32} {q6 : List Int32} {q7 : List Int32} {q8 : List Int32} {q9 : List Int32} {q10 : List Int32} {q11 : List Int32} {q12 : List Int32} {q13 : Int32} {q14 : Int32} {R : AHeap} : (C1 q0 q1 q2 q3 q4 q5 q6 q7 q8 q9 q10 q11 q12 q13 q14 R)[3]? = some (.inr (.inl (1, q2))) := rfl
theorem own_s1_tmo {q0 : List Int32} {q1 : List Int32} {q2 : List Int32} {q3 : List Int32} {q4 : List Int32} {q5 : List Int32} {q6 : List Int32} {q7 : List Int32} {q8 : List Int32} {q9 : List Int32} {q10 : List Int32} {q11 : List Int32} {q12 : List Int32} {q13 : Int32} {q14 : Int32} {R : AHeap} {x : List Int32} : (C1 q0 q1 q2 q3 q4 q5 q6 q7 q8 q9 q10 q11 q12 q13 q14 R).set 3 (.inr (.inl (1, x))) = (C1 q0 q1 x q3 q4 q5 q6 q7 q8 q9 q10 q11 q12 q13 q14 R) := rfl
theorem own_g1_spin {q0 : List Int32} {q1 : List Int32} {q2 : List Int32} {q3 : List Int32} {q4 : List Int32} {q5 : List Int32} {q6 : List Int32} {q7 : List Int32} {q8 : List Int32} {q9 : List Int32} {q10 : List Int32} {q11 : List Int32} {q12 : List Int32} {q13 : Int32} {q14 : Int32} {R : AHeap} : getC (C1 q0 q1 q2 q3 q4 q5 q6 q7 q8 q9 q10 q11 q12 q13 q14 R) 0 3 = some (.ref 4) := rfl
theorem own_a1_spin {q0 : List Int32} {q1 : List Int32} {q2 : List Int32} {q3 : List Int32} {q4 : List Int32} {q5 : List Int32} {q6 : List Int32} {q7 : List Int32} {q8 : List Int32} {q9 : List Int32} {q10 : List Int32} {q11 : List Int32} {q12 : List Int32} {q13 : Int32} {q14 : Int32} {R : AHeap} : (C1 q0 q1 q2 q3 q4 q5 q6 q7 q8 q9 q10 q11 q12 q13 q14 R)[4]? = some (.inr (.inl (1, q3))) := rfl
theorem own_s1_spin {q0 : List Int32} {q1 : List Int32} {q2 : List Int32} {q3 : List Int32} {q4 : List Int32} {q5 : List Int32} {q6 : List Int32} {q7 : List Int32} {q8 : List Int32} {q9 : List Int32} {q10 : List Int32} {q11 : List Int32} {q12 : List Int32} {q13 : Int32} {q14 : Int32} {R : AHeap} {x : List Int32} : (C1 q0 q1 q2 q3 q4 q5 q6 q7 q8 q9 q10 q11 q12 q13 q14 R).set 4 (.inr (.inl (1, x))) = (C1 q0 q1 q2 x q4 q5 q6 q7 q8 q9 q10 q11 q12 q13 q14 R) := rfl
theorem own_g1_nxt0 {q0 : List Int32} {q1 : List Int32} {q2 : List Int32} {q3 : List Int32} {q4 : List Int32} {q5 : List Int32} {q6 : List Int32} {q7 : List Int32} {q8 : List Int32} {q9 : List Int32} {q10 : List Int32} {q11 : List Int32} {q12 : List Int32} {q13 : Int32} {q14 : Int32} {R : AHeap} : getC (C1 q0 q1 q2 q3 q4 q5 q6 q7 q8 q9 q10 q11 q12 q13 q14 R) 0 4 = some (.ref 5) := rfl
theorem own_a1_nxt0 {q0 : List Int32} {q1 : List Int32} {q2 : List Int32} {q3 : List Int32} {q4 : List Int32} {q5 : List Int32} {q6 : List Int32} {q7 : List Int32} {q8 : List Int32} {q9 : List Int32} {q10 : List Int32} {q11 : List Int32} {q12 : List Int32} {q13 : Int32} {q14 : Int32} {R : AHeap} : (C1 q0 q1 q2 q3 q4 q5 q6 q7 q8 q9 q10 q11 q12 q13 q14 R)[5]? = some (.inr (.inl (1, q4))) := rfl
theorem own_s1_nxt0 {q0 : List Int32} {q1 : List Int32} {q2 : List Int32} {q3 : List Int32} {q4 : List Int32} {q5 : List Int32} {q6 : List Int32} {q7 : List Int32} {q8 : List Int32} {q9 : List Int32} {q10 : List Int32} {q11 : List Int32} {q12 : List Int32} {q13 : Int32} {q14 : Int32} {R : AHeap} {x : List Int32} : (C1 q0 q1 q2 q3 q4 q5 q6 q7 q8 q9 q10 q11 q12 q13 q14 R).set 5 (.inr (.inl (1, x))) = (C1 q0 q1 q2 q3 x q5 q6 q7 q8 q9 q10 q11 q12 q13 q14 R) := rfl
theorem own_g1_prv1 {q0 : List Int32} {q1 : List Int32} {q2 : List Int32} {q3 : List Int32} {q4 : List Int32} {q5 : List Int32} {q6 : List Int32} {q7 : List Int32} {q8 : List Int32} {q9 : List Int32} {q10 : List Int32} {q11 : List Int32} {q12 : List Int32} {q13 : Int32} {q14 : Int32} {R : AHeap} : getC (C1 q0 q1 q2 q3 q4 q5 q6 q7 q8 q9 q10 q11 q12 q13 q14 R) 0 5 = some (.ref 6) := rfl
theorem own_a1_prv1 {q0 : List Int32} {q1 : List Int32} {q2 : List Int32} {q3 : List Int32} {q4 : List Int32} {q5 : List Int32} {q6 : List Int32} {q7 : List Int32} {q8 : List Int32} {q9 : List Int32} {q10 : List Int32} {q11 : List Int32} {q12 : List Int32} {q13 : Int32} {q14 : Int32} {R : AHeap} : (C1 q0 q1 q2 q3 q4 q5 q6 q7 q8 q9 q10 q11 q12 q13 q14 R)[6]? = some (.inr (.inl (1, q5))) := rfl
theorem own_s1_prv1 {q0 : List Int32} {q1 : List Int32} {q2 : List Int32} {q3 : List Int32} {q4 : List Int32} {q5 : List Int32} {q6 : List Int32} {q7 : List Int32} {q8 : List Int32} {q9 : List Int32} {q10 : List Int32} {q11 : List Int32} {q12 : List Int32} {q13 : Int32} {q14 : Int32} {R : AHeap} {x : List Int32} : (C1 q0 q1 q2 q3 q4 q5 q6 q7 q8 q9 q10 q11 q12 q13 q14 R).set 6 (.inr (.inl (1, x))) = (C1 q0 q1 q2 q3 q4 x q6 q7 q8 q9 q10 q11 q12 q13 q14 R) := rfl
theorem own_g1_head {q0 : List Int32} {q1 : List Int32} {q2 : List Int32} {q3 : List Int32} {q4 : List Int32} {q5 : List Int32} {q6 : List Int32} {q7 : List Int32} {q8 : List Int32} {q9 : List Int32} {q10 : List Int32} {q11 : List Int32} {q12 : List Int32} {q13 : Int32} {q14 : Int32} {R : AHeap} : getC (C1 q0 q1 q2 q3 q4 q5 q6 q7 q8 q9 q10 q11 q12 q13 q14 R) 0 6 = some (.ref 7) := rfl
theorem own_a1_head {q0 : List Int32} {q1 : List Int32} {q2 : List Int32} {q3 : List Int32} {q4 : List Int32} {q5 : List Int32} {q6 : List Int32} {q7 : List Int32} {q8 : List Int32} {q9 : List Int32} {q10 : List Int32} {q11 : List Int32} {q12 : List Int32} {q13 : Int32} {q14 : Int32} {R : AHeap} : (C1 q0 q1 q2 q3 q4 q5 q6 q7 q8 q9 q10 q11 q12 q13 q14 R)[7]? = some (.inr (.inl (1, q6))) := rfl
theorem own_s1_head {q0 : List Int32} {q1 : List Int32} {q2 : List Int32} {q3 : List Int32} {q4 : List Int32} {q5 : List Int32} {q6 : List Int32} {q7 : List Int32} {q8 : List Int32} {q9 : List Int32} {q10 : List Int32} {q11 : List Int32} {q12 : List Int32} {q13 : Int32} {q14 : Int32} {R : AHeap} {x : List Int32} : (C1 q0 q1 q2 q3 q4 q5 q6 q7 q8 q9 q10 q11 q12 q13 q14 R).set 7 (.inr (.inl (1, x))) = (C1 q0 q1 q2 q3 q4 q5 x q7 q8 q9 q10 q11 q12 q13 q14 R) := rfl
theorem own_g1_tail {q0 : List Int32} {q1 : List Int32} {q2 : List Int32} {q3 : List Int32} {q4 : List Int32} {q5 : List Int32} {q6 : List Int32} {q7 : List Int32} {q8 : List Int32} {q9 : List Int32} {q10 : List Int32} {q11 : List Int32} {q12 : List Int32} {q13 : Int32} {q14 : Int32} {R : AHeap} : getC (C1 q0 q1 q2 q3 q4 q5 q6 q7 q8 q9 q10 q11 q12 q13 q14 R) 0 7 = some (.ref 8) := rfl
theorem own_a1_tail {q0 : List Int32} {q1 : List Int32} {q2 : List Int32} {q3 : List Int32} {q4 : List Int32} {q5 : List Int32} {q6 : List Int32} {q7 : List Int32} {q8 : List Int32} {q9 : List Int32} {q10 : List Int32} {q11 : List Int32} {q12 : List Int32} {q13 : Int32} {q14 : Int32} {R : AHeap} : (C1 q0 q1 q2 q3 q4 q5 q6 q7 q8 q9 q10 q11 q12 q13 q14 R)[8]? = some (.inr (.inl (1, q7))) := rfl
theorem own_s1_tail {q0 : List Int32} {q1 : List Int32} {q2 : List Int32} {q3 : List Int32} {q4 : List Int32} {q5 : List Int32} {q6 : List Int32} {q7 : List Int32} {q8 : List Int32} {q9 : List Int32} {q10 : List Int32} {q11 : List Int32} {q12 : List Int32} {q13 : Int32} {q14 : Int32} {R : AHeap} {x : List Int32} : (C1 q0 q1 q2 q3 q4 q5 q6 q7 q8 q9 q10 q11 q12 q13 q14 R).set 8 (.inr (.inl (1, x))) = (C1 q0 q1 q2 q3 q4 q5 q6 x q8 q9 q10 q11 q12 q13 q14 R) := rfl
theorem own_g1_len {q0 : List Int32} {q1 : List Int32} {q2 : List Int32} {q3 : List Int32} {q4 : List Int32} {q5 : List Int32} {q6 : List Int32} {q7 : List Int32} {q8 : List Int32} {q9 : List Int32} {q10 : List Int32} {q11 : List Int32} {q12 : List Int32} {q13 : Int32} {q14 : Int32} {R : AHeap} : getC (C1 q0 q1 q2 q3 q4 q5 q6 q7 q8 q9 q10 q11 q12 q13 q14 R) 0 8 = some (.ref 9) := rfl
theorem own_a1_len {q0 : List Int32} {q1 : List Int32} {q2 : List Int32} {q3 : List Int32} {q4 : List Int32} {q5 : List Int32} {q6 : List Int32} {q7 : List Int32} {q8 : List Int32} {q9 : List Int32} {q10 : List Int32} {q11 : List Int32} {q12 : List Int32} {q13 : Int32} {q14 : Int32} {R : AHeap} : (C1 q0 q1 q2 q3 q4 q5 q6 q7 q8 q9 q10 q11 q12 q13 q14 R)[9]? = some (.inr (.inl (1, q8))) := rfl
theorem own_s1_len {q0 : List Int32} {q1 : List Int32} {q2 : List Int32} {q3 : List Int32} {q4 : List Int32} {q5 : List Int32} {q6 : List Int32} {q7 : List Int32} {q8 : List Int32} {q9 : List Int32} {q10 : List Int32} {q11 : List Int32} {q12 : List Int32} {q13 : Int32} {q14 : Int32} {R : AHeap} {x : List Int32} : (C1 q0 q1 q2 q3 q4 q5 q6 q7 q8 q9 q10 q11 q12 q13 q14 R).set 9 (.inr (.inl (1, x))) = (C1 q0 q1 q2 q3 q4 q5 q6 q7 x q9 q10 q11 q12 q13 q14 R) := rfl
theorem own_g1_ent {q0 : List Int32} {q1 : List Int32} {q2 : List Int32} {q3 : List Int32} {q4 : List Int32} {q5 : List Int32} {q6 : List Int32} {q7 : List Int32} {q8 : List Int32} {q9 : List Int32} {q10 : List Int32} {q11 : List Int32} {q12 : List Int32} {q13 : Int32} {q14 : Int32} {R : AHeap} : getC (C1 q0 q1 q2 q3 q4 q5 q6 q7 q8 q9 q10 q11 q12 q13 q14 R) 0 9 = some (.ref 10) := rfl
theorem own_a1_ent {q0 : List Int32} {q1 : List Int32} {q2 : List Int32} {q3 : List Int32} {q4 : List Int32} {q5 : List Int32} {q6 : List Int32} {q7 : List Int32} {q8 : List Int32} {q9 : List Int32} {q10 : List Int32} {q11 : List Int32} {q12 : List Int32} {q13 : Int32} {q14 : Int32} {R : AHeap} : (C1 q0 q1 q2 q3 q4 q5 q6 q7 q8 q9 q10 q11 q12 q13 q14 R)[10]? = some (.inr (.inl (1, q9))) := rfl
theorem own_s1_ent {q0 : List Int32} {q1 : List Int32} {q2 : List Int32} {q3 : List Int32} {q4 : List Int32} {q5 : List Int32} {q6 : List Int32} {q7 : List Int32} {q8 : List Int32} {q9 : List Int32} {q10 : List Int32} {q11 : List Int32} {q12 : List Int32} {q13 : Int32} {q14 : Int32} {R : AHeap} {x : List Int32} : (C1 q0 q1 q2 q3 q4 q5 q6 q7 q8 q9 q10 q11 q12 q13 q14 R).set 10 (.inr (.inl (1, x))) = (C1 q0 q1 q2 q3 q4 q5 q6 q7 q8 x q10 q11 q12 q13 q14 R) := rfl
theorem own_g1_aband {q0 : List Int32} {q1 : List Int32} {q2 : List Int32} {q3 : List Int32} {q4 : List Int32} {q5 : List Int32} {q6 : List Int32} {q7 : List Int32} {q8 : List Int32} {q9 : List Int32} {q10 : List Int32} {q11 : List Int32} {q12 : List Int32} {q13 : Int32} {q14 : Int32} {R : AHeap} : getC (C1 q0 q1 q2 q3 q4 q5 q6 q7 q8 q9 q10 q11 q12 q13 q14 R) 0 10 = some (.ref 11) := rfl
theorem own_a1_aband {q0 : List Int32} {q1 : List Int32} {q2 : List Int32} {q3 : List Int32} {q4 : List Int32} {q5 : List Int32} {q6 : List Int32} {q7 : List Int32} {q8 : List Int32} {q9 : List Int32} {q10 : List Int32} {q11 : List Int32} {q12 : List Int32} {q13 : Int32} {q14 : Int32} {R : AHeap} : (C1 q0 q1 q2 q3 q4 q5 q6 q7 q8 q9 q10 q11 q12 q13 q14 R)[11]? = some (.inr (.inl (1, q10))) := rfl
theorem own_s1_aband {q0 : List Int32} {q1 : List Int32} {q2 : List Int32} {q3 : List Int32} {q4 : List Int32} {q5 : List Int32} {q6 : List Int32} {q7 : List Int32} {q8 : List Int32} {q9 : List Int32} {q10 : List Int32} {q11 : List Int32} {q12 : List Int32} {q13 : Int32} {q14 : Int32} {R : AHeap} {x : List Int32} : (C1 q0 q1 q2 q3 q4 q5 q6 q7 q8 q9 q10 q11 q12 q13 q14 R).set 11 (.inr (.inl (1, x))) = (C1 q0 q1 q2 q3 q4 q5 q6 q7 q8 q9 x q11 q12 q13 q14 R) := rfl
theorem own_g1_log {q0 : List Int32} {q1 : List Int32} {q2 : List Int32} {q3 : List Int32} {q4 : List Int32} {q5 : List Int32} {q6 : List Int32} {q7 : List Int32} {q8 : List Int32} {q9 : List Int32} {q10 : List Int32} {q11 : List Int32} {q12 : List Int32} {q13 : Int32} {q14 : Int32} {R : AHeap} : getC (C1 q0 q1 q2 q3 q4 q5 q6 q7 q8 q9 q10 q11 q12 q13 q14 R) 0 11 = some (.ref 12) := rfl
theorem own_a1_log {q0 : List Int32} {q1 : List Int32} {q2 : List Int32} {q3 : List Int32} {q4 : List Int32} {q5 : List Int32} {q6 : List Int32} {q7 : List Int32} {q8 : List Int32} {q9 : List Int32} {q10 : List Int32} {q11 : List Int32} {q12 : List Int32} {q13 : Int32} {q14 : Int32} {R : AHeap} : (C1 q0 q1 q2 q3 q4 q5 q6 q7 q8 q9 q10 q11 q12 q13 q14 R)[12]? = some (.inr (.inl (1, q11))) := rfl
theorem own_s1_log {q0 : List Int32} {q1 : List Int32} {q2 : List Int32} {q3 : List Int32} {q4 : List Int32} {q5 : List Int32} {q6 : List Int32} {q7 : List Int32} {q8 : List Int32} {q9 : List Int32} {q10 : List Int32} {q11 : List Int32} {q12 : List Int32} {q13 : Int32} {q14 : Int32} {R : AHeap} {x : List Int32} : (C1 q0 q1 q2 q3 q4 q5 q6 q7 q8 q9 q10 q11 q12 q13 q14 R).set 12 (.inr (.inl (1, x))) = (C1 q0 q1 q2 q3 q4 q5 q6 q7 q8 q9 q10 x q12 q13 q14 R) := rfl
theorem own_g1_hist {q0 : List Int32} {q1 : List Int32} {q2 : List Int32} {q3 : List Int32} {q4 : List Int32} {q5 : List Int32} {q6 : List Int32} {q7 : List Int32} {q8 : List Int32} {q9 : List Int32} {q10 : List Int32} {q11 : List Int32} {q12 : List Int32} {q13 : Int32} {q14 : Int32} {R : AHeap} : getC (C1 q0 q1 q2 q3 q4 q5 q6 q7 q8 q9 q10 q11 q12 q13 q14 R) 0 12 = some (.ref 13) := rfl
theorem own_a1_hist {q0 : List Int32} {q1 : List Int32} {q2 : List Int32} {q3 : List Int32} {q4 : List Int32} {q5 : List Int32} {q6 : List Int32} {q7 : List Int32} {q8 : List Int32} {q9 : List Int32} {q10 : List Int32} {q11 : List Int32} {q12 : List Int32} {q13 : Int32} {q14 : Int32} {R : AHeap} : (C1 q0 q1 q2 q3 q4 q5 q6 q7 q8 q9 q10 q11 q12 q13 q14 R)[13]? = some (.inr (.inl (1, q12))) := rfl
theorem own_s1_hist {q0 : List Int32} {q1 : List Int32} {q2 : List Int32} {q3 : List Int32} {q4 : List Int32} {q5 : List Int32} {q6 : List Int32} {q7 : List Int32} {q8 : List Int32} {q9 : List Int32} {q10 : List Int32} {q11 : List Int32} {q12 : List Int32} {q13 : Int32} {q14 : Int32} {R : AHeap} {x : List Int32} : (C1 q0 q1 q2 q3 q4 q5 q6 q7 q8 q9 q10 q11 q12 q13 q14 R).set 13 (.inr (.inl (1, x))) = (C1 q0 q1 q2 q3 q4 q5 q6 q7 q8 q9 q10 q11 x q13 q14 R) := rfl
theorem own_g1_n {q0 : List Int32} {q1 : List Int32} {q2 : List Int32} {q3 : List Int32} {q4 : List Int32} {q5 : List Int32} {q6 : List Int32} {q7 : List Int32} {q8 : List Int32} {q9 : List Int32} {q10 : List Int32} {q11 : List Int32} {q12 : List Int32} {q13 : Int32} {q14 : Int32} {R : AHeap} : getC (C1 q0 q1 q2 q3 q4 q5 q6 q7 q8 q9 q10 q11 q12 q13 q14 R) 0 13 = some (.int q13) := rfl
theorem own_p1_n {q0 : List Int32} {q1 : List Int32} {q2 : List Int32} {q3 : List Int32} {q4 : List Int32} {q5 : List Int32} {q6 : List Int32} {q7 : List Int32} {q8 : List Int32} {q9 : List Int32} {q10 : List Int32} {q11 : List Int32} {q12 : List Int32} {q13 : Int32} {q14 : Int32} {R : AHeap} {k : Nat} {x : Int32} : putC own_P k (C1 q0 q1 q2 q3 q4 q5 q6 q7 q8 q9 q10 q11 q12 q13 q14 R) 0 13 (.int x) = some (C1 q0 q1 q2 q3 q4 q5 q6 q7 q8 q9 q10 q11 q12 x q14 R) := rfl
theorem own_g1_clk {q0 : List Int32} {q1 : List Int32} {q2 : List Int32} {q3 : List Int32} {q4 : List Int32} {q5 : List Int32} {q6 : List Int32} {q7 : List Int32} {q8 : List Int32} {q9 : List Int32} {q10 : List Int32} {q11 : List Int32} {q12 : List Int32} {q13 : Int32} {q14 : Int32} {R : AHeap} : getC (C1 q0 q1 q2 q3 q4 q5 q6 q7 q8 q9 q10 q11 q12 q13 q14 R) 0 14 = some (.int q14) := rfl
theorem own_p1_clk {q0 : List Int32} {q1 : List Int32} {q2 : List Int32} {q3 : List Int32} {q4 : List Int32} {q5 : List Int32} {q6 : List Int32} {q7 : List Int32} {q8 : List Int32} {q9 : List Int32} {q10 : List Int32} {q11 : List Int32} {q12 : List Int32} {q13 : Int32} {q14 : Int32} {R : AHeap} {k : Nat} {x : Int32} : putC own_P k (C1 q0 q1 q2 q3 q4 q5 q6 q7 q8 q9 q10 q11 q12 q13 q14 R) 0 14 (.int x) = some (C1 q0 q1 q2 q3 q4 q5 q6 q7 q8 q9 q10 q11 q12 q13 x R) := rfl
def Q.len (s : Q) : List Nat := [s.f_st.length, s.f_lk.length, s.f_tmo.length, s.f_spin.length, s.f_nxt0.length, s.f_prv1.length, s.f_head.length, s.f_tail.length, s.f_len.length, s.f_ent.length, s.f_aband.length, s.f_log.length, s.f_hist.length]
theorem own_lenmk {q0 : List Int32} {q1 : List Int32} {q2 : List Int32} {q3 : List Int32} {q4 : List Int32} {q5 : List Int32} {q6 : List Int32} {q7 : List Int32} {q8 : List Int32} {q9 : List Int32} {q10 : List Int32} {q11 : List Int32} {q12 : List Int32} {q13 : Int32} {q14 : Int32} : (Q.mk q0 q1 q2 q3 q4 q5 q6 q7 q8 q9 q10 q11 q12 q13 q14).len = [q0.length, q1.length, q2.length, q3.length, q4.length, q5.length, q6.length, q7.length, q8.length, q9.length, q10.length, q11.length, q12.length] := by have _h := trivial; exact rfl
theorem own_objN : own_P.objN = 15 := rfl
theorem own_mk1 {q0 : List Int32} {q1 : List Int32} {q2 : List Int32} {q3 : List Int32} {q4 : List Int32} {q5 : List Int32} {q6 : List Int32} {q7 : List Int32} {q8 : List Int32} {q9 : List Int32} {q10 : List Int32} {q11 : List Int32} {q12 : List Int32} {q13 : Int32} {q14 : Int32} {R : AHeap} : W1 (Q.mk q0 q1 q2 q3 q4 q5 q6 q7 q8 q9 q10 q11 q12 q13 q14) R = C1 q0 q1 q2 q3 q4 q5 q6 q7 q8 q9 q10 q11 q12 q13 q14 R := rfl
abbrev j_init_l135_K (res : Q) (out : Option Value × AHeap) : Prop := Eval own_P 1 175 [some (.ref 0), none, none, none] [] (W1 res []) out

abbrev j_init_l135_N (s : Q) (res : Q) : Prop := Q.len res = Q.len s
def j_init_l135 : Nat → Q → Int32 → Option (Q)
  | 0, _, _ => none
  | n + 1, s, v3 => (if v3 < (8 : Int32) then (if inb s.f_st.length v3 = true then (if inb s.f_lk.length v3 = true then (if inb s.f_nxt0.length v3 = true then (if inb s.f_prv1.length v3 = true then (j_init_l135 n (Q.mk (wr s.f_st v3 (0 : Int32)) (wr s.f_lk v3 (-1 : Int32)) s.f_tmo s.f_spin (wr s.f_nxt0 v3 (-1 : Int32)) (wr s.f_prv1 v3 (-1 : Int32)) s.f_head s.f_tail s.f_len s.f_ent s.f_aband s.f_log s.f_hist s.f_n s.f_clk) (v3 + (1 : Int32))) else none) else none) else none) else none) else some (s))
theorem ln_j_init_l135 : ∀ {n : Nat} {s : Q} {v3 : Int32} {res : Q}, j_init_l135 n s v3 = some res → j_init_l135_N s res := by
  intro n
  induction n with
  | zero => intro _ _ res h; cases h
  | succ n hrec0 =>
    have hrec : ∀ (s : Q) (v3 : Int32) {res : Q}, j_init_l135 n s v3 = some res → j_init_l135_N s res := by intros; apply hrec0; assumption
    intro s v3 res h
    rw [j_init_l135] at h
    by_cases hc5 : v3 < (8 : Int32)
    · rw [if_pos hc5] at h
      obtain ⟨hb6, h⟩ := ite_some h
      obtain ⟨hb7, h⟩ := ite_some h
      obtain ⟨hb8, h⟩ := ite_some h
      obtain ⟨hb9, h⟩ := ite_some h
      exact (hrec _ _ h).trans (Eq.trans (show Q.len (Q.mk (wr s.f_st v3 (0 : Int32)) (wr s.f_lk v3 (-1 : Int32)) s.f_tmo s.f_spin (wr s.f_nxt0 v3 (-1 : Int32)) (wr s.f_prv1 v3 (-1 : Int32)) s.f_head s.f_tail s.f_len s.f_ent s.f_aband s.f_log s.f_hist s.f_n s.f_clk) = Q.len s from own_lenmk.trans (by first | (simp only [len_wr, len_wrL] <;> rfl) | rfl)) rfl)
    · rw [if_neg hc5] at h
      have hr0 := Option.some.inj h
      subst hr0
      show Q.len s = _
      exact rfl
set_option maxRecDepth 100000 in
theorem ev_j_init_l135 : ∀ (n : Nat) (s : Q) (v3 : Int32) {res : Q} {out : Option Value × AHeap}, j_init_l135 n s v3 = some res → j_init_l135_K res out → Eval own_P 1 135 [some (.ref 0), none, none, some (.int v3)] [] (W1 s []) out := by
  intro n
  induction n with
  | zero => intro _ _ res out h hk; cases h
  | succ n hrec =>
    intro s v3 res out h hk
    rw [j_init_l135] at h
    refine Eval.iload_n rfl rfl ?_
    refine Eval.bipush (x := (8 : Int32)) rfl rfl ?_
    by_cases hc5 : v3 < (8 : Int32)
    · rw [if_pos hc5] at h
      refine Eval.icmpF rfl (tlt hc5).2.1 ?_
      refine Eval.aload_n rfl rfl ?_
      refine Eval.getfield rfl rfl own_g1_st ?_
      refine Eval.iload_n rfl rfl ?_
      refine Eval.iconst (x := (0 : Int32)) rfl rfl ?_
      obtain ⟨hb6, h⟩ := ite_some h
      refine Eval.iastore rfl rfl own_a1_st hb6 own_s1_st ?_
      refine Eval.aload_n rfl rfl ?_
      refine Eval.getfield rfl rfl own_g1_lk ?_
      refine Eval.iload_n rfl rfl ?_
      refine Eval.iconst (x := (-1 : Int32)) rfl rfl ?_
      obtain ⟨hb7, h⟩ := ite_some h
      refine Eval.iastore rfl rfl own_a1_lk hb7 own_s1_lk ?_
      refine Eval.aload_n rfl rfl ?_
      refine Eval.getfield rfl rfl own_g1_nxt0 ?_
      refine Eval.iload_n rfl rfl ?_
      refine Eval.iconst (x := (-1 : Int32)) rfl rfl ?_
      obtain ⟨hb8, h⟩ := ite_some h
      refine Eval.iastore rfl rfl own_a1_nxt0 hb8 own_s1_nxt0 ?_
      refine Eval.aload_n rfl rfl ?_
      refine Eval.getfield rfl rfl own_g1_prv1 ?_
      refine Eval.iload_n rfl rfl ?_
      refine Eval.iconst (x := (-1 : Int32)) rfl rfl ?_
      obtain ⟨hb9, h⟩ := ite_some h
      refine Eval.iastore rfl rfl own_a1_prv1 hb9 own_s1_prv1 ?_
      refine Eval.iinc (L' := [some (.ref 0), none, none, some (.int (v3 + (1 : Int32)))]) rfl rfl rfl ?_
      refine Eval.goto (t := 135) rfl rfl ?_
      refine Eval.heap own_mk1 ?_
      exact hrec _ _ h hk
    · rw [if_neg hc5] at h
      refine Eval.icmpT (t := 175) rfl rfl (flt hc5).2.1 ?_
      cases h
      refine Eval.weak (L' := [some (.ref 0), none, none, none]) ⟨_, _, rfl, Or.inr rfl, _, _, rfl, Or.inl rfl, _, _, rfl, Or.inl rfl, _, _, rfl, Or.inl rfl, rfl⟩ ?_
      exact hk
abbrev j_init_l177_K (res : Q) (out : Option Value × AHeap) : Prop := Eval own_P 1 202 [some (.ref 0), none, none, none] [] (W1 res []) out

abbrev j_init_l177_N (s : Q) (res : Q) : Prop := Q.len res = Q.len s
def j_init_l177 : Nat → Q → Int32 → Option (Q)
  | 0, _, _ => none
  | n + 1, s, v3 => (if v3 < (2 : Int32) then (if inb s.f_head.length v3 = true then (if inb s.f_tail.length v3 = true then (j_init_l177 n (Q.mk s.f_st s.f_lk s.f_tmo s.f_spin s.f_nxt0 s.f_prv1 (wr s.f_head v3 (-1 : Int32)) (wr s.f_tail v3 (-1 : Int32)) s.f_len s.f_ent s.f_aband s.f_log s.f_hist s.f_n s.f_clk) (v3 + (1 : Int32))) else none) else none) else some (s))
theorem ln_j_init_l177 : ∀ {n : Nat} {s : Q} {v3 : Int32} {res : Q}, j_init_l177 n s v3 = some res → j_init_l177_N s res := by
  intro n
  induction n with
  | zero => intro _ _ res h; cases h
  | succ n hrec0 =>
    have hrec : ∀ (s : Q) (v3 : Int32) {res : Q}, j_init_l177 n s v3 = some res → j_init_l177_N s res := by intros; apply hrec0; assumption
    intro s v3 res h
    rw [j_init_l177] at h
    by_cases hc13 : v3 < (2 : Int32)
    · rw [if_pos hc13] at h
      obtain ⟨hb14, h⟩ := ite_some h
      obtain ⟨hb15, h⟩ := ite_some h
      exact (hrec _ _ h).trans (Eq.trans (show Q.len (Q.mk s.f_st s.f_lk s.f_tmo s.f_spin s.f_nxt0 s.f_prv1 (wr s.f_head v3 (-1 : Int32)) (wr s.f_tail v3 (-1 : Int32)) s.f_len s.f_ent s.f_aband s.f_log s.f_hist s.f_n s.f_clk) = Q.len s from own_lenmk.trans (by first | (simp only [len_wr, len_wrL] <;> rfl) | rfl)) rfl)
    · rw [if_neg hc13] at h
      have hr0 := Option.some.inj h
      subst hr0
      show Q.len s = _
      exact rfl
set_option maxRecDepth 100000 in
theorem ev_j_init_l177 : ∀ (n : Nat) (s : Q) (v3 : Int32) {res : Q} {out : Option Value × AHeap}, j_init_l177 n s v3 = some res → j_init_l177_K res out → Eval own_P 1 177 [some (.ref 0), none, none, some (.int v3)] [] (W1 s []) out := by
  intro n
  induction n with
  | zero => intro _ _ res out h hk; cases h
  | succ n hrec =>
    intro s v3 res out h hk
    rw [j_init_l177] at h
    refine Eval.iload_n rfl rfl ?_
    refine Eval.iconst (x := (2 : Int32)) rfl rfl ?_
    by_cases hc13 : v3 < (2 : Int32)
    · rw [if_pos hc13] at h
      refine Eval.icmpF rfl (tlt hc13).2.1 ?_
      refine Eval.aload_n rfl rfl ?_
      refine Eval.getfield rfl rfl own_g1_head ?_
      refine Eval.iload_n rfl rfl ?_
      refine Eval.iconst (x := (-1 : Int32)) rfl rfl ?_
      obtain ⟨hb14, h⟩ := ite_some h
      refine Eval.iastore rfl rfl own_a1_head hb14 own_s1_head ?_
      refine Eval.aload_n rfl rfl ?_
      refine Eval.getfield rfl rfl own_g1_tail ?_
      refine Eval.iload_n rfl rfl ?_
      refine Eval.iconst (x := (-1 : Int32)) rfl rfl ?_
      obtain ⟨hb15, h⟩ := ite_some h
      refine Eval.iastore rfl rfl own_a1_tail hb15 own_s1_tail ?_
      refine Eval.iinc (L' := [some (.ref 0), none, none, some (.int (v3 + (1 : Int32)))]) rfl rfl rfl ?_
      refine Eval.goto (t := 177) rfl rfl ?_
      refine Eval.heap own_mk1 ?_
      exact hrec _ _ h hk
    · rw [if_neg hc13] at h
      refine Eval.icmpT (t := 202) rfl rfl (flt hc13).2.1 ?_
      cases h
      refine Eval.weak (L' := [some (.ref 0), none, none, none]) ⟨_, _, rfl, Or.inr rfl, _, _, rfl, Or.inl rfl, _, _, rfl, Or.inl rfl, _, _, rfl, Or.inl rfl, rfl⟩ ?_
      exact hk
abbrev j_init_l204_K (res : Q) (out : Option Value × AHeap) : Prop := Eval own_P 1 224 [none, none, none, none] [] (W1 res []) out

abbrev j_init_l204_N (s : Q) (res : Q) : Prop := Q.len res = Q.len s
def j_init_l204 : Nat → Q → Int32 → Option (Q)
  | 0, _, _ => none
  | n + 1, s, v3 => (if v3 < (512 : Int32) then (if inb s.f_hist.length v3 = true then (j_init_l204 n (Q.mk s.f_st s.f_lk s.f_tmo s.f_spin s.f_nxt0 s.f_prv1 s.f_head s.f_tail s.f_len s.f_ent s.f_aband s.f_log (wr s.f_hist v3 (-1 : Int32)) s.f_n s.f_clk) (v3 + (1 : Int32))) else none) else some (s))
theorem ln_j_init_l204 : ∀ {n : Nat} {s : Q} {v3 : Int32} {res : Q}, j_init_l204 n s v3 = some res → j_init_l204_N s res := by
  intro n
  induction n with
  | zero => intro _ _ res h; cases h
  | succ n hrec0 =>
    have hrec : ∀ (s : Q) (v3 : Int32) {res : Q}, j_init_l204 n s v3 = some res → j_init_l204_N s res := by intros; apply hrec0; assumption
    intro s v3 res h
    rw [j_init_l204] at h
    by_cases hc19 : v3 < (512 : Int32)
    · rw [if_pos hc19] at h
      obtain ⟨hb20, h⟩ := ite_some h
      exact (hrec _ _ h).trans (Eq.trans (show Q.len (Q.mk s.f_st s.f_lk s.f_tmo s.f_spin s.f_nxt0 s.f_prv1 s.f_head s.f_tail s.f_len s.f_ent s.f_aband s.f_log (wr s.f_hist v3 (-1 : Int32)) s.f_n s.f_clk) = Q.len s from own_lenmk.trans (by first | (simp only [len_wr, len_wrL] <;> rfl) | rfl)) rfl)
    · rw [if_neg hc19] at h
      have hr0 := Option.some.inj h
      subst hr0
      show Q.len s = _
      exact rfl
set_option maxRecDepth 100000 in
theorem ev_j_init_l204 : ∀ (n : Nat) (s : Q) (v3 : Int32) {res : Q} {out : Option Value × AHeap}, j_init_l204 n s v3 = some res → j_init_l204_K res out → Eval own_P 1 204 [some (.ref 0), none, none, some (.int v3)] [] (W1 s []) out := by
  intro n
  induction n with
  | zero => intro _ _ res out h hk; cases h
  | succ n hrec =>
    intro s v3 res out h hk
    rw [j_init_l204] at h
    refine Eval.iload_n rfl rfl ?_
    refine Eval.sipush (x := (512 : Int32)) rfl rfl ?_
    by_cases hc19 : v3 < (512 : Int32)
    · rw [if_pos hc19] at h
      refine Eval.icmpF rfl (tlt hc19).2.1 ?_
      refine Eval.aload_n rfl rfl ?_
      refine Eval.getfield rfl rfl own_g1_hist ?_
      refine Eval.iload_n rfl rfl ?_
      refine Eval.iconst (x := (-1 : Int32)) rfl rfl ?_
      obtain ⟨hb20, h⟩ := ite_some h
      refine Eval.iastore rfl rfl own_a1_hist hb20 own_s1_hist ?_
      refine Eval.iinc (L' := [some (.ref 0), none, none, some (.int (v3 + (1 : Int32)))]) rfl rfl rfl ?_
      refine Eval.goto (t := 204) rfl rfl ?_
      refine Eval.heap own_mk1 ?_
      exact hrec _ _ h hk
    · rw [if_neg hc19] at h
      refine Eval.icmpT (t := 224) rfl rfl (flt hc19).2.1 ?_
      cases h
      refine Eval.weak (L' := [none, none, none, none]) ⟨_, _, rfl, Or.inl rfl, _, _, rfl, Or.inl rfl, _, _, rfl, Or.inl rfl, _, _, rfl, Or.inl rfl, rfl⟩ ?_
      exact hk
def j_init_b123 (s : Q) (v2 : Int32) : Option (Q) := ((j_init_l135 3000 (Q.mk s.f_st s.f_lk s.f_tmo s.f_spin s.f_nxt0 s.f_prv1 s.f_head s.f_tail s.f_len s.f_ent s.f_aband s.f_log s.f_hist v2 (0 : Int32)) (0 : Int32)).bind fun p10 => ((j_init_l177 3000 p10 (0 : Int32)).bind fun p16 => ((j_init_l204 3000 p16 (0 : Int32)).bind fun p21 => some (p21))))
theorem ln_j_init_b123 {s : Q} {v2 : Int32} {res : Q} (h : j_init_b123 s v2 = some res) : Q.len res = Q.len s := by
  rw [j_init_b123] at h
  obtain ⟨p10, hq11, h⟩ := bind_some h
  have hl12 : Q.len p10 = _ := Eq.trans (ln_j_init_l135 hq11) (Eq.trans (show Q.len (Q.mk s.f_st s.f_lk s.f_tmo s.f_spin s.f_nxt0 s.f_prv1 s.f_head s.f_tail s.f_len s.f_ent s.f_aband s.f_log s.f_hist v2 (0 : Int32)) = Q.len s from own_lenmk.trans (by first | (simp only [len_wr, len_wrL] <;> rfl) | rfl)) rfl)
  obtain ⟨p16, hq17, h⟩ := bind_some h
  have hl18 : Q.len p16 = _ := Eq.trans (ln_j_init_l177 hq17) hl12
  obtain ⟨p21, hq22, h⟩ := bind_some h
  have hl23 : Q.len p21 = _ := Eq.trans (ln_j_init_l204 hq22) hl18
  have hr0 := Option.some.inj h
  subst hr0
  show Q.len p21 = _
  exact hl23
set_option maxRecDepth 100000 in
theorem ev_j_init_b123 (s : Q) (v2 : Int32) {res : Q} {out : Option Value × AHeap} (h : j_init_b123 s v2 = some res) (hk : out = (none, (W1 res []))) : Eval own_P 1 123 [some (.ref 0), none, some (.int v2), none] [] (W1 s []) out := by
  rw [j_init_b123] at h
  refine Eval.aload_n rfl rfl ?_
  refine Eval.iload_n rfl rfl ?_
  refine Eval.putfield rfl rfl own_p1_n ?_
  refine Eval.aload_n rfl rfl ?_
  refine Eval.iconst (x := (0 : Int32)) rfl rfl ?_
  refine Eval.putfield rfl rfl own_p1_clk ?_
  refine Eval.iconst (x := (0 : Int32)) rfl rfl ?_
  refine Eval.istore_n (L' := [some (.ref 0), none, some (.int v2), some (.int (0 : Int32))]) rfl rfl ?_
  refine Eval.heap own_mk1 ?_
  refine Eval.weak (L' := [some (.ref 0), none, none, some (.int (0 : Int32))]) ⟨_, _, rfl, Or.inr rfl, _, _, rfl, Or.inl rfl, _, _, rfl, Or.inl rfl, _, _, rfl, Or.inr rfl, rfl⟩ ?_
  obtain ⟨p10, hq11, h⟩ := bind_some h
  refine ev_j_init_l135 _ (Q.mk s.f_st s.f_lk s.f_tmo s.f_spin s.f_nxt0 s.f_prv1 s.f_head s.f_tail s.f_len s.f_ent s.f_aband s.f_log s.f_hist v2 (0 : Int32)) (0 : Int32) hq11 ?_
  show Eval own_P 1 175 [some (.ref 0), none, none, none] [] (W1 p10 []) out
  refine Eval.iconst (x := (0 : Int32)) rfl rfl ?_
  refine Eval.istore_n (L' := [some (.ref 0), none, none, some (.int (0 : Int32))]) rfl rfl ?_
  obtain ⟨p16, hq17, h⟩ := bind_some h
  refine ev_j_init_l177 _ p10 (0 : Int32) hq17 ?_
  show Eval own_P 1 202 [some (.ref 0), none, none, none] [] (W1 p16 []) out
  refine Eval.iconst (x := (0 : Int32)) rfl rfl ?_
  refine Eval.istore_n (L' := [some (.ref 0), none, none, some (.int (0 : Int32))]) rfl rfl ?_
  obtain ⟨p21, hq22, h⟩ := bind_some h
  refine ev_j_init_l204 _ p16 (0 : Int32) hq22 ?_
  show Eval own_P 1 224 [none, none, none, none] [] (W1 p21 []) out
  cases h
  subst hk
  exact Eval.ret rfl rfl
def j_init_b114 (s : Q) (v2 : Int32) : Option (Q) := (j_init_b123 s (if (8 : Int32) < v2 then (8 : Int32) else v2))
theorem ln_j_init_b114 {s : Q} {v2 : Int32} {res : Q} (h : j_init_b114 s v2 = some res) : Q.len res = Q.len s := by
  rw [j_init_b114] at h
  exact Eq.trans (ln_j_init_b123 h) rfl
set_option maxRecDepth 100000 in
theorem ev_j_init_b114 (s : Q) (v2 : Int32) {res : Q} {out : Option Value × AHeap} (h : j_init_b114 s v2 = some res) (hk : out = (none, (W1 res []))) : Eval own_P 1 114 [some (.ref 0), none, some (.int v2), none] [] (W1 s []) out := by
  rw [j_init_b114] at h
  refine Eval.iload_n rfl rfl ?_
  refine Eval.bipush (x := (8 : Int32)) rfl rfl ?_
  suffices hJ4 : Eval own_P 1 123 [some (.ref 0), none, some (.int (if (8 : Int32) < v2 then (8 : Int32) else v2)), none] [] (W1 s []) out by
    by_cases hc3 : (8 : Int32) < v2
    · refine Eval.icmpF rfl (tlt hc3).2.2.2 ?_
      refine Eval.bipush (x := (8 : Int32)) rfl rfl ?_
      refine Eval.istore_n (L' := [some (.ref 0), none, some (.int (8 : Int32)), none]) rfl rfl ?_
      exact (Eval.conv hJ4 (by simp only [if_pos hc3]) rfl)
    · refine Eval.icmpT (t := 123) rfl rfl (flt hc3).2.2.2 ?_
      exact (Eval.conv hJ4 (by simp only [if_neg hc3]) rfl)
  exact ev_j_init_b123 s (if (8 : Int32) < v2 then (8 : Int32) else v2) h hk
def j_init_b105 (s : Q) (v1 : Int32) : Option (Q) := (j_init_b114 s (if v1 < (2 : Int32) then (2 : Int32) else v1))
theorem ln_j_init_b105 {s : Q} {v1 : Int32} {res : Q} (h : j_init_b105 s v1 = some res) : Q.len res = Q.len s := by
  rw [j_init_b105] at h
  exact Eq.trans (ln_j_init_b114 h) rfl
set_option maxRecDepth 100000 in
theorem ev_j_init_b105 (s : Q) (v1 : Int32) {res : Q} {out : Option Value × AHeap} (h : j_init_b105 s v1 = some res) (hk : out = (none, (W1 res []))) : Eval own_P 1 105 [some (.ref 0), some (.int v1), none, none] [] (W1 s []) out := by
  rw [j_init_b105] at h
  refine Eval.iload_n rfl rfl ?_
  refine Eval.istore_n (L' := [some (.ref 0), some (.int v1), some (.int v1), none]) rfl rfl ?_
  refine Eval.iload_n rfl rfl ?_
  refine Eval.iconst (x := (2 : Int32)) rfl rfl ?_
  suffices hJ2 : Eval own_P 1 114 [some (.ref 0), none, some (.int (if v1 < (2 : Int32) then (2 : Int32) else v1)), none] [] (W1 s []) out by
    by_cases hc1 : v1 < (2 : Int32)
    · refine Eval.icmpF rfl (tlt hc1).2.1 ?_
      refine Eval.iconst (x := (2 : Int32)) rfl rfl ?_
      refine Eval.istore_n (L' := [some (.ref 0), some (.int v1), some (.int (2 : Int32)), none]) rfl rfl ?_
      refine Eval.weak (L' := [some (.ref 0), none, some (.int (2 : Int32)), none]) ⟨_, _, rfl, Or.inr rfl, _, _, rfl, Or.inl rfl, _, _, rfl, Or.inr rfl, _, _, rfl, Or.inl rfl, rfl⟩ ?_
      exact (Eval.conv hJ2 (by simp only [if_pos hc1]) rfl)
    · refine Eval.icmpT (t := 114) rfl rfl (flt hc1).2.1 ?_
      refine Eval.weak (L' := [some (.ref 0), none, some (.int v1), none]) ⟨_, _, rfl, Or.inr rfl, _, _, rfl, Or.inl rfl, _, _, rfl, Or.inr rfl, _, _, rfl, Or.inl rfl, rfl⟩ ?_
      exact (Eval.conv hJ2 (by simp only [if_neg hc1]) rfl)
  exact ev_j_init_b114 s (if v1 < (2 : Int32) then (2 : Int32) else v1) h hk
def j_init (v1 : Int32) : Option (Q) := (j_init_b105 Q0 v1)
theorem ln_j_init {v1 : Int32} {res : Q} (h : j_init v1 = some res) : Q.len res = Q.len Q0 := by
  rw [j_init] at h
  exact Eq.trans (ln_j_init_b105 h) rfl
set_option maxRecDepth 100000 in
theorem ev_j_init (v1 : Int32) {res : Q} {out : Option Value × AHeap} (h : j_init v1 = some res) (hk : out = (none, (W1 res []))) : Eval own_P 1 0 [some (.ref 0), some (.int v1), none, none] [] (W0 [.inl [.null, .null, .null, .null, .null, .null, .null, .null, .null, .null, .null, .null, .null, .int (0 : Int32), .int (0 : Int32)]]) out := by
  rw [j_init] at h
  refine Eval.aload_n rfl rfl ?_
  refine Eval.objInit rfl rfl ?_
  refine Eval.aload_n rfl rfl ?_
  refine Eval.bipush (x := (8 : Int32)) rfl rfl ?_
  refine Eval.newarray (z := 15) (N := 8) (a := 1) (H1 := (W0 [.inl [.null, .null, .null, .null, .null, .null, .null, .null, .null, .null, .null, .null, .null, .int (0 : Int32), .int (0 : Int32)], .inr (.inl (1, List.replicate 8 0))])) rfl rfl rfl rfl rfl (by decide) (by decide) (by unfold W0; simp only [hsz, csz, own_objN, List.length_replicate]) (by decide) rfl ?_
  refine Eval.putfield (H1 := (W0 [.inl [.ref 1, .null, .null, .null, .null, .null, .null, .null, .null, .null, .null, .null, .null, .int (0 : Int32), .int (0 : Int32)], .inr (.inl (1, List.replicate 8 0))])) rfl rfl rfl ?_
  refine Eval.aload_n rfl rfl ?_
  refine Eval.bipush (x := (8 : Int32)) rfl rfl ?_
  refine Eval.newarray (z := 23) (N := 8) (a := 2) (H1 := (W0 [.inl [.ref 1, .null, .null, .null, .null, .null, .null, .null, .null, .null, .null, .null, .null, .int (0 : Int32), .int (0 : Int32)], .inr (.inl (1, List.replicate 8 0)), .inr (.inl (1, List.replicate 8 0))])) rfl rfl rfl rfl rfl (by decide) (by decide) (by unfold W0; simp only [hsz, csz, own_objN, List.length_replicate]) (by decide) rfl ?_
  refine Eval.putfield (H1 := (W0 [.inl [.ref 1, .ref 2, .null, .null, .null, .null, .null, .null, .null, .null, .null, .null, .null, .int (0 : Int32), .int (0 : Int32)], .inr (.inl (1, List.replicate 8 0)), .inr (.inl (1, List.replicate 8 0))])) rfl rfl rfl ?_
  refine Eval.aload_n rfl rfl ?_
  refine Eval.bipush (x := (8 : Int32)) rfl rfl ?_
  refine Eval.newarray (z := 31) (N := 8) (a := 3) (H1 := (W0 [.inl [.ref 1, .ref 2, .null, .null, .null, .null, .null, .null, .null, .null, .null, .null, .null, .int (0 : Int32), .int (0 : Int32)], .inr (.inl (1, List.replicate 8 0)), .inr (.inl (1, List.replicate 8 0)), .inr (.inl (1, List.replicate 8 0))])) rfl rfl rfl rfl rfl (by decide) (by decide) (by unfold W0; simp only [hsz, csz, own_objN, List.length_replicate]) (by decide) rfl ?_
  refine Eval.putfield (H1 := (W0 [.inl [.ref 1, .ref 2, .ref 3, .null, .null, .null, .null, .null, .null, .null, .null, .null, .null, .int (0 : Int32), .int (0 : Int32)], .inr (.inl (1, List.replicate 8 0)), .inr (.inl (1, List.replicate 8 0)), .inr (.inl (1, List.replicate 8 0))])) rfl rfl rfl ?_
  refine Eval.aload_n rfl rfl ?_
  refine Eval.bipush (x := (8 : Int32)) rfl rfl ?_
  refine Eval.newarray (z := 39) (N := 8) (a := 4) (H1 := (W0 [.inl [.ref 1, .ref 2, .ref 3, .null, .null, .null, .null, .null, .null, .null, .null, .null, .null, .int (0 : Int32), .int (0 : Int32)], .inr (.inl (1, List.replicate 8 0)), .inr (.inl (1, List.replicate 8 0)), .inr (.inl (1, List.replicate 8 0)), .inr (.inl (1, List.replicate 8 0))])) rfl rfl rfl rfl rfl (by decide) (by decide) (by unfold W0; simp only [hsz, csz, own_objN, List.length_replicate]) (by decide) rfl ?_
  refine Eval.putfield (H1 := (W0 [.inl [.ref 1, .ref 2, .ref 3, .ref 4, .null, .null, .null, .null, .null, .null, .null, .null, .null, .int (0 : Int32), .int (0 : Int32)], .inr (.inl (1, List.replicate 8 0)), .inr (.inl (1, List.replicate 8 0)), .inr (.inl (1, List.replicate 8 0)), .inr (.inl (1, List.replicate 8 0))])) rfl rfl rfl ?_
  refine Eval.aload_n rfl rfl ?_
  refine Eval.bipush (x := (8 : Int32)) rfl rfl ?_
  refine Eval.newarray (z := 47) (N := 8) (a := 5) (H1 := (W0 [.inl [.ref 1, .ref 2, .ref 3, .ref 4, .null, .null, .null, .null, .null, .null, .null, .null, .null, .int (0 : Int32), .int (0 : Int32)], .inr (.inl (1, List.replicate 8 0)), .inr (.inl (1, List.replicate 8 0)), .inr (.inl (1, List.replicate 8 0)), .inr (.inl (1, List.replicate 8 0)), .inr (.inl (1, List.replicate 8 0))])) rfl rfl rfl rfl rfl (by decide) (by decide) (by unfold W0; simp only [hsz, csz, own_objN, List.length_replicate]) (by decide) rfl ?_
  refine Eval.putfield (H1 := (W0 [.inl [.ref 1, .ref 2, .ref 3, .ref 4, .ref 5, .null, .null, .null, .null, .null, .null, .null, .null, .int (0 : Int32), .int (0 : Int32)], .inr (.inl (1, List.replicate 8 0)), .inr (.inl (1, List.replicate 8 0)), .inr (.inl (1, List.replicate 8 0)), .inr (.inl (1, List.replicate 8 0)), .inr (.inl (1, List.replicate 8 0))])) rfl rfl rfl ?_
  refine Eval.aload_n rfl rfl ?_
  refine Eval.bipush (x := (8 : Int32)) rfl rfl ?_
  refine Eval.newarray (z := 55) (N := 8) (a := 6) (H1 := (W0 [.inl [.ref 1, .ref 2, .ref 3, .ref 4, .ref 5, .null, .null, .null, .null, .null, .null, .null, .null, .int (0 : Int32), .int (0 : Int32)], .inr (.inl (1, List.replicate 8 0)), .inr (.inl (1, List.replicate 8 0)), .inr (.inl (1, List.replicate 8 0)), .inr (.inl (1, List.replicate 8 0)), .inr (.inl (1, List.replicate 8 0)), .inr (.inl (1, List.replicate 8 0))])) rfl rfl rfl rfl rfl (by decide) (by decide) (by unfold W0; simp only [hsz, csz, own_objN, List.length_replicate]) (by decide) rfl ?_
  refine Eval.putfield (H1 := (W0 [.inl [.ref 1, .ref 2, .ref 3, .ref 4, .ref 5, .ref 6, .null, .null, .null, .null, .null, .null, .null, .int (0 : Int32), .int (0 : Int32)], .inr (.inl (1, List.replicate 8 0)), .inr (.inl (1, List.replicate 8 0)), .inr (.inl (1, List.replicate 8 0)), .inr (.inl (1, List.replicate 8 0)), .inr (.inl (1, List.replicate 8 0)), .inr (.inl (1, List.replicate 8 0))])) rfl rfl rfl ?_
  refine Eval.aload_n rfl rfl ?_
  refine Eval.iconst (x := (2 : Int32)) rfl rfl ?_
  refine Eval.newarray (z := 63) (N := 2) (a := 7) (H1 := (W0 [.inl [.ref 1, .ref 2, .ref 3, .ref 4, .ref 5, .ref 6, .null, .null, .null, .null, .null, .null, .null, .int (0 : Int32), .int (0 : Int32)], .inr (.inl (1, List.replicate 8 0)), .inr (.inl (1, List.replicate 8 0)), .inr (.inl (1, List.replicate 8 0)), .inr (.inl (1, List.replicate 8 0)), .inr (.inl (1, List.replicate 8 0)), .inr (.inl (1, List.replicate 8 0)), .inr (.inl (1, List.replicate 2 0))])) rfl rfl rfl rfl rfl (by decide) (by decide) (by unfold W0; simp only [hsz, csz, own_objN, List.length_replicate]) (by decide) rfl ?_
  refine Eval.putfield (H1 := (W0 [.inl [.ref 1, .ref 2, .ref 3, .ref 4, .ref 5, .ref 6, .ref 7, .null, .null, .null, .null, .null, .null, .int (0 : Int32), .int (0 : Int32)], .inr (.inl (1, List.replicate 8 0)), .inr (.inl (1, List.replicate 8 0)), .inr (.inl (1, List.replicate 8 0)), .inr (.inl (1, List.replicate 8 0)), .inr (.inl (1, List.replicate 8 0)), .inr (.inl (1, List.replicate 8 0)), .inr (.inl (1, List.replicate 2 0))])) rfl rfl rfl ?_
  refine Eval.aload_n rfl rfl ?_
  refine Eval.iconst (x := (2 : Int32)) rfl rfl ?_
  refine Eval.newarray (z := 65) (N := 2) (a := 8) (H1 := (W0 [.inl [.ref 1, .ref 2, .ref 3, .ref 4, .ref 5, .ref 6, .ref 7, .null, .null, .null, .null, .null, .null, .int (0 : Int32), .int (0 : Int32)], .inr (.inl (1, List.replicate 8 0)), .inr (.inl (1, List.replicate 8 0)), .inr (.inl (1, List.replicate 8 0)), .inr (.inl (1, List.replicate 8 0)), .inr (.inl (1, List.replicate 8 0)), .inr (.inl (1, List.replicate 8 0)), .inr (.inl (1, List.replicate 2 0)), .inr (.inl (1, List.replicate 2 0))])) rfl rfl rfl rfl rfl (by decide) (by decide) (by unfold W0; simp only [hsz, csz, own_objN, List.length_replicate]) (by decide) rfl ?_
  refine Eval.putfield (H1 := (W0 [.inl [.ref 1, .ref 2, .ref 3, .ref 4, .ref 5, .ref 6, .ref 7, .ref 8, .null, .null, .null, .null, .null, .int (0 : Int32), .int (0 : Int32)], .inr (.inl (1, List.replicate 8 0)), .inr (.inl (1, List.replicate 8 0)), .inr (.inl (1, List.replicate 8 0)), .inr (.inl (1, List.replicate 8 0)), .inr (.inl (1, List.replicate 8 0)), .inr (.inl (1, List.replicate 8 0)), .inr (.inl (1, List.replicate 2 0)), .inr (.inl (1, List.replicate 2 0))])) rfl rfl rfl ?_
  refine Eval.aload_n rfl rfl ?_
  refine Eval.iconst (x := (2 : Int32)) rfl rfl ?_
  refine Eval.newarray (z := 67) (N := 2) (a := 9) (H1 := (W0 [.inl [.ref 1, .ref 2, .ref 3, .ref 4, .ref 5, .ref 6, .ref 7, .ref 8, .null, .null, .null, .null, .null, .int (0 : Int32), .int (0 : Int32)], .inr (.inl (1, List.replicate 8 0)), .inr (.inl (1, List.replicate 8 0)), .inr (.inl (1, List.replicate 8 0)), .inr (.inl (1, List.replicate 8 0)), .inr (.inl (1, List.replicate 8 0)), .inr (.inl (1, List.replicate 8 0)), .inr (.inl (1, List.replicate 2 0)), .inr (.inl (1, List.replicate 2 0)), .inr (.inl (1, List.replicate 2 0))])) rfl rfl rfl rfl rfl (by decide) (by decide) (by unfold W0; simp only [hsz, csz, own_objN, List.length_replicate]) (by decide) rfl ?_
  refine Eval.putfield (H1 := (W0 [.inl [.ref 1, .ref 2, .ref 3, .ref 4, .ref 5, .ref 6, .ref 7, .ref 8, .ref 9, .null, .null, .null, .null, .int (0 : Int32), .int (0 : Int32)], .inr (.inl (1, List.replicate 8 0)), .inr (.inl (1, List.replicate 8 0)), .inr (.inl (1, List.replicate 8 0)), .inr (.inl (1, List.replicate 8 0)), .inr (.inl (1, List.replicate 8 0)), .inr (.inl (1, List.replicate 8 0)), .inr (.inl (1, List.replicate 2 0)), .inr (.inl (1, List.replicate 2 0)), .inr (.inl (1, List.replicate 2 0))])) rfl rfl rfl ?_
  refine Eval.aload_n rfl rfl ?_
  refine Eval.iconst (x := (2 : Int32)) rfl rfl ?_
  refine Eval.newarray (z := 69) (N := 2) (a := 10) (H1 := (W0 [.inl [.ref 1, .ref 2, .ref 3, .ref 4, .ref 5, .ref 6, .ref 7, .ref 8, .ref 9, .null, .null, .null, .null, .int (0 : Int32), .int (0 : Int32)], .inr (.inl (1, List.replicate 8 0)), .inr (.inl (1, List.replicate 8 0)), .inr (.inl (1, List.replicate 8 0)), .inr (.inl (1, List.replicate 8 0)), .inr (.inl (1, List.replicate 8 0)), .inr (.inl (1, List.replicate 8 0)), .inr (.inl (1, List.replicate 2 0)), .inr (.inl (1, List.replicate 2 0)), .inr (.inl (1, List.replicate 2 0)), .inr (.inl (1, List.replicate 2 0))])) rfl rfl rfl rfl rfl (by decide) (by decide) (by unfold W0; simp only [hsz, csz, own_objN, List.length_replicate]) (by decide) rfl ?_
  refine Eval.putfield (H1 := (W0 [.inl [.ref 1, .ref 2, .ref 3, .ref 4, .ref 5, .ref 6, .ref 7, .ref 8, .ref 9, .ref 10, .null, .null, .null, .int (0 : Int32), .int (0 : Int32)], .inr (.inl (1, List.replicate 8 0)), .inr (.inl (1, List.replicate 8 0)), .inr (.inl (1, List.replicate 8 0)), .inr (.inl (1, List.replicate 8 0)), .inr (.inl (1, List.replicate 8 0)), .inr (.inl (1, List.replicate 8 0)), .inr (.inl (1, List.replicate 2 0)), .inr (.inl (1, List.replicate 2 0)), .inr (.inl (1, List.replicate 2 0)), .inr (.inl (1, List.replicate 2 0))])) rfl rfl rfl ?_
  refine Eval.aload_n rfl rfl ?_
  refine Eval.iconst (x := (2 : Int32)) rfl rfl ?_
  refine Eval.newarray (z := 71) (N := 2) (a := 11) (H1 := (W0 [.inl [.ref 1, .ref 2, .ref 3, .ref 4, .ref 5, .ref 6, .ref 7, .ref 8, .ref 9, .ref 10, .null, .null, .null, .int (0 : Int32), .int (0 : Int32)], .inr (.inl (1, List.replicate 8 0)), .inr (.inl (1, List.replicate 8 0)), .inr (.inl (1, List.replicate 8 0)), .inr (.inl (1, List.replicate 8 0)), .inr (.inl (1, List.replicate 8 0)), .inr (.inl (1, List.replicate 8 0)), .inr (.inl (1, List.replicate 2 0)), .inr (.inl (1, List.replicate 2 0)), .inr (.inl (1, List.replicate 2 0)), .inr (.inl (1, List.replicate 2 0)), .inr (.inl (1, List.replicate 2 0))])) rfl rfl rfl rfl rfl (by decide) (by decide) (by unfold W0; simp only [hsz, csz, own_objN, List.length_replicate]) (by decide) rfl ?_
  refine Eval.putfield (H1 := (W0 [.inl [.ref 1, .ref 2, .ref 3, .ref 4, .ref 5, .ref 6, .ref 7, .ref 8, .ref 9, .ref 10, .ref 11, .null, .null, .int (0 : Int32), .int (0 : Int32)], .inr (.inl (1, List.replicate 8 0)), .inr (.inl (1, List.replicate 8 0)), .inr (.inl (1, List.replicate 8 0)), .inr (.inl (1, List.replicate 8 0)), .inr (.inl (1, List.replicate 8 0)), .inr (.inl (1, List.replicate 8 0)), .inr (.inl (1, List.replicate 2 0)), .inr (.inl (1, List.replicate 2 0)), .inr (.inl (1, List.replicate 2 0)), .inr (.inl (1, List.replicate 2 0)), .inr (.inl (1, List.replicate 2 0))])) rfl rfl rfl ?_
  refine Eval.aload_n rfl rfl ?_
  refine Eval.sipush (x := (128 : Int32)) rfl rfl ?_
  refine Eval.newarray (z := 73) (N := 128) (a := 12) (H1 := (W0 [.inl [.ref 1, .ref 2, .ref 3, .ref 4, .ref 5, .ref 6, .ref 7, .ref 8, .ref 9, .ref 10, .ref 11, .null, .null, .int (0 : Int32), .int (0 : Int32)], .inr (.inl (1, List.replicate 8 0)), .inr (.inl (1, List.replicate 8 0)), .inr (.inl (1, List.replicate 8 0)), .inr (.inl (1, List.replicate 8 0)), .inr (.inl (1, List.replicate 8 0)), .inr (.inl (1, List.replicate 8 0)), .inr (.inl (1, List.replicate 2 0)), .inr (.inl (1, List.replicate 2 0)), .inr (.inl (1, List.replicate 2 0)), .inr (.inl (1, List.replicate 2 0)), .inr (.inl (1, List.replicate 2 0)), .inr (.inl (1, List.replicate 128 0))])) rfl rfl rfl rfl rfl (by decide) (by decide) (by unfold W0; simp only [hsz, csz, own_objN, List.length_replicate]) (by decide) rfl ?_
  refine Eval.putfield (H1 := (W0 [.inl [.ref 1, .ref 2, .ref 3, .ref 4, .ref 5, .ref 6, .ref 7, .ref 8, .ref 9, .ref 10, .ref 11, .ref 12, .null, .int (0 : Int32), .int (0 : Int32)], .inr (.inl (1, List.replicate 8 0)), .inr (.inl (1, List.replicate 8 0)), .inr (.inl (1, List.replicate 8 0)), .inr (.inl (1, List.replicate 8 0)), .inr (.inl (1, List.replicate 8 0)), .inr (.inl (1, List.replicate 8 0)), .inr (.inl (1, List.replicate 2 0)), .inr (.inl (1, List.replicate 2 0)), .inr (.inl (1, List.replicate 2 0)), .inr (.inl (1, List.replicate 2 0)), .inr (.inl (1, List.replicate 2 0)), .inr (.inl (1, List.replicate 128 0))])) rfl rfl rfl ?_
  refine Eval.aload_n rfl rfl ?_
  refine Eval.sipush (x := (512 : Int32)) rfl rfl ?_
  refine Eval.newarray (z := 201) (N := 512) (a := 13) (H1 := (W0 [.inl [.ref 1, .ref 2, .ref 3, .ref 4, .ref 5, .ref 6, .ref 7, .ref 8, .ref 9, .ref 10, .ref 11, .ref 12, .null, .int (0 : Int32), .int (0 : Int32)], .inr (.inl (1, List.replicate 8 0)), .inr (.inl (1, List.replicate 8 0)), .inr (.inl (1, List.replicate 8 0)), .inr (.inl (1, List.replicate 8 0)), .inr (.inl (1, List.replicate 8 0)), .inr (.inl (1, List.replicate 8 0)), .inr (.inl (1, List.replicate 2 0)), .inr (.inl (1, List.replicate 2 0)), .inr (.inl (1, List.replicate 2 0)), .inr (.inl (1, List.replicate 2 0)), .inr (.inl (1, List.replicate 2 0)), .inr (.inl (1, List.replicate 128 0)), .inr (.inl (1, List.replicate 512 0))])) rfl rfl rfl rfl rfl (by decide) (by decide) (by unfold W0; simp only [hsz, csz, own_objN, List.length_replicate]) (by decide) rfl ?_
  refine Eval.putfield (H1 := (W0 [.inl [.ref 1, .ref 2, .ref 3, .ref 4, .ref 5, .ref 6, .ref 7, .ref 8, .ref 9, .ref 10, .ref 11, .ref 12, .ref 13, .int (0 : Int32), .int (0 : Int32)], .inr (.inl (1, List.replicate 8 0)), .inr (.inl (1, List.replicate 8 0)), .inr (.inl (1, List.replicate 8 0)), .inr (.inl (1, List.replicate 8 0)), .inr (.inl (1, List.replicate 8 0)), .inr (.inl (1, List.replicate 8 0)), .inr (.inl (1, List.replicate 2 0)), .inr (.inl (1, List.replicate 2 0)), .inr (.inl (1, List.replicate 2 0)), .inr (.inl (1, List.replicate 2 0)), .inr (.inl (1, List.replicate 2 0)), .inr (.inl (1, List.replicate 128 0)), .inr (.inl (1, List.replicate 512 0))])) rfl rfl rfl ?_
  show Eval own_P 1 105 [some (.ref 0), some (.int v1), none, none] [] (W1 Q0 []) out
  exact ev_j_init_b105 Q0 v1 h hk
def j_validThread (s : Q) (v1 : Int32) : Int32 := (if v1 < (0 : Int32) then ((0 : Int32)) else (if v1 < s.f_n then ((1 : Int32)) else ((0 : Int32))))
set_option maxRecDepth 100000 in
theorem ev_j_validThread (R : AHeap) (s : Q) (v1 : Int32) {res : Int32} {out : Option Value × AHeap} (h : j_validThread s v1 = res) (hk : out = (some (.int res), (W1 s R))) : Eval own_P 3 0 [some (.ref 0), some (.int v1)] [] (W1 s R) out := by
  rw [j_validThread] at h
  refine Eval.iload_n rfl rfl ?_
  by_cases hc32 : v1 < (0 : Int32)
  · rw [if_pos hc32] at h
    refine Eval.ifT (t := 16) rfl rfl (tlt hc32).1 ?_
    refine Eval.iconst (x := (0 : Int32)) rfl rfl ?_
    subst h
    subst hk
    exact Eval.ret rfl rfl
  · rw [if_neg hc32] at h
    refine Eval.ifF rfl (flt hc32).1 ?_
    refine Eval.iload_n rfl rfl ?_
    refine Eval.aload_n rfl rfl ?_
    refine Eval.getfield rfl rfl own_g1_n ?_
    by_cases hc33 : v1 < s.f_n
    · rw [if_pos hc33] at h
      refine Eval.icmpF rfl (tlt hc33).2.1 ?_
      refine Eval.iconst (x := (1 : Int32)) rfl rfl ?_
      refine Eval.goto (t := 17) rfl rfl ?_
      subst h
      subst hk
      exact Eval.ret rfl rfl
    · rw [if_neg hc33] at h
      refine Eval.icmpT (t := 16) rfl rfl (flt hc33).2.1 ?_
      refine Eval.iconst (x := (0 : Int32)) rfl rfl ?_
      subst h
      subst hk
      exact Eval.ret rfl rfl
def j_validLock_b9 : Int32 := ((1 : Int32))
set_option maxRecDepth 100000 in
theorem ev_j_validLock_b9 (H : AHeap) (a : Nat) {res : Int32} {out : Option Value × AHeap} (h : j_validLock_b9 = res) (hk : out = (some (.int res), H)) : Eval own_P 4 9 [none, none] [] H out := by
  rw [j_validLock_b9] at h
  refine Eval.iconst (x := (1 : Int32)) rfl rfl ?_
  refine Eval.goto (t := 14) rfl rfl ?_
  subst h
  subst hk
  exact Eval.ret rfl rfl
def j_validLock (v1 : Int32) : Int32 := (if v1 = (0 : Int32) then (j_validLock_b9) else (if v1 = (1 : Int32) then (j_validLock_b9) else ((0 : Int32))))
set_option maxRecDepth 100000 in
theorem ev_j_validLock (H : AHeap) (a : Nat) (v1 : Int32) {res : Int32} {out : Option Value × AHeap} (h : j_validLock v1 = res) (hk : out = (some (.int res), H)) : Eval own_P 4 0 [some (.ref a), some (.int v1)] [] H out := by
  rw [j_validLock] at h
  refine Eval.iload_n rfl rfl ?_
  by_cases hc35 : v1 = (0 : Int32)
  · rw [if_pos hc35] at h
    refine Eval.ifT (t := 9) rfl rfl (teq hc35).1 ?_
    refine Eval.weak (L' := [none, none]) ⟨_, _, rfl, Or.inl rfl, _, _, rfl, Or.inl rfl, rfl⟩ ?_
    exact ev_j_validLock_b9 H a h hk
  · rw [if_neg hc35] at h
    refine Eval.ifF rfl (feq hc35).1 ?_
    refine Eval.iload_n rfl rfl ?_
    refine Eval.iconst (x := (1 : Int32)) rfl rfl ?_
    by_cases hc36 : v1 = (1 : Int32)
    · rw [if_pos hc36] at h
      refine Eval.icmpF rfl (teq hc36).2 ?_
      refine Eval.weak (L' := [none, none]) ⟨_, _, rfl, Or.inl rfl, _, _, rfl, Or.inl rfl, rfl⟩ ?_
      exact ev_j_validLock_b9 H a h hk
    · rw [if_neg hc36] at h
      refine Eval.icmpT (t := 13) rfl rfl (feq hc36).2 ?_
      refine Eval.iconst (x := (0 : Int32)) rfl rfl ?_
      subst h
      subst hk
      exact Eval.ret rfl rfl
def j_clampTimeout (v1 : Int32) : Int32 := (if v1 < (0 : Int32) then ((0 : Int32)) else (if (50 : Int32) < v1 then ((50 : Int32)) else (v1)))
set_option maxRecDepth 100000 in
theorem ev_j_clampTimeout (H : AHeap) (a : Nat) (v1 : Int32) {res : Int32} {out : Option Value × AHeap} (h : j_clampTimeout v1 = res) (hk : out = (some (.int res), H)) : Eval own_P 5 0 [some (.ref a), some (.int v1)] [] H out := by
  rw [j_clampTimeout] at h
  refine Eval.iload_n rfl rfl ?_
  by_cases hc40 : v1 < (0 : Int32)
  · rw [if_pos hc40] at h
    refine Eval.ifF rfl (tlt hc40).2.1 ?_
    refine Eval.iconst (x := (0 : Int32)) rfl rfl ?_
    subst h
    subst hk
    exact Eval.ret rfl rfl
  · rw [if_neg hc40] at h
    refine Eval.ifT (t := 6) rfl rfl (flt hc40).2.1 ?_
    refine Eval.iload_n rfl rfl ?_
    refine Eval.bipush (x := (50 : Int32)) rfl rfl ?_
    by_cases hc41 : (50 : Int32) < v1
    · rw [if_pos hc41] at h
      refine Eval.icmpF rfl (tlt hc41).2.2.2 ?_
      refine Eval.bipush (x := (50 : Int32)) rfl rfl ?_
      subst h
      subst hk
      exact Eval.ret rfl rfl
    · rw [if_neg hc41] at h
      refine Eval.icmpT (t := 15) rfl rfl (flt hc41).2.2.2 ?_
      refine Eval.iload_n rfl rfl ?_
      subst h
      subst hk
      exact Eval.ret rfl rfl
def j_inNodes (v1 : Int32) : Int32 := (if v1 < (0 : Int32) then ((0 : Int32)) else (if v1 < (8 : Int32) then ((1 : Int32)) else ((0 : Int32))))
set_option maxRecDepth 100000 in
theorem ev_j_inNodes (H : AHeap) (a : Nat) (v1 : Int32) {res : Int32} {out : Option Value × AHeap} (h : j_inNodes v1 = res) (hk : out = (some (.int res), H)) : Eval own_P 10 0 [some (.ref a), some (.int v1)] [] H out := by
  rw [j_inNodes] at h
  refine Eval.iload_n rfl rfl ?_
  by_cases hc52 : v1 < (0 : Int32)
  · rw [if_pos hc52] at h
    refine Eval.ifT (t := 14) rfl rfl (tlt hc52).1 ?_
    refine Eval.iconst (x := (0 : Int32)) rfl rfl ?_
    subst h
    subst hk
    exact Eval.ret rfl rfl
  · rw [if_neg hc52] at h
    refine Eval.ifF rfl (flt hc52).1 ?_
    refine Eval.iload_n rfl rfl ?_
    refine Eval.bipush (x := (8 : Int32)) rfl rfl ?_
    by_cases hc53 : v1 < (8 : Int32)
    · rw [if_pos hc53] at h
      refine Eval.icmpF rfl (tlt hc53).2.1 ?_
      refine Eval.iconst (x := (1 : Int32)) rfl rfl ?_
      refine Eval.goto (t := 15) rfl rfl ?_
      subst h
      subst hk
      exact Eval.ret rfl rfl
    · rw [if_neg hc53] at h
      refine Eval.icmpT (t := 14) rfl rfl (flt hc53).2.1 ?_
      refine Eval.iconst (x := (0 : Int32)) rfl rfl ?_
      subst h
      subst hk
      exact Eval.ret rfl rfl
def j_append_b55 (s : Q) (v1 : Int32) (v2 : Int32) : Option (Q) := (if inb s.f_tail.length v2 = true then (if inb s.f_len.length v2 = true then (if inb s.f_len.length v2 = true then some ((Q.mk s.f_st s.f_lk s.f_tmo s.f_spin s.f_nxt0 s.f_prv1 s.f_head (wr s.f_tail v2 v1) (wr s.f_len v2 ((rd s.f_len v2) + (1 : Int32))) s.f_ent s.f_aband s.f_log s.f_hist s.f_n s.f_clk)) else none) else none) else none)
theorem ln_j_append_b55 {s : Q} {v1 : Int32} {v2 : Int32} {res : Q} (h : j_append_b55 s v1 v2 = some res) : Q.len res = Q.len s := by
  rw [j_append_b55] at h
  obtain ⟨hb59, h⟩ := ite_some h
  obtain ⟨hb60, h⟩ := ite_some h
  obtain ⟨hb61, h⟩ := ite_some h
  have hr0 := Option.some.inj h
  subst hr0
  show Q.len (Q.mk s.f_st s.f_lk s.f_tmo s.f_spin s.f_nxt0 s.f_prv1 s.f_head (wr s.f_tail v2 v1) (wr s.f_len v2 ((rd s.f_len v2) + (1 : Int32))) s.f_ent s.f_aband s.f_log s.f_hist s.f_n s.f_clk) = _
  exact (Eq.trans (show Q.len (Q.mk s.f_st s.f_lk s.f_tmo s.f_spin s.f_nxt0 s.f_prv1 s.f_head (wr s.f_tail v2 v1) (wr s.f_len v2 ((rd s.f_len v2) + (1 : Int32))) s.f_ent s.f_aband s.f_log s.f_hist s.f_n s.f_clk) = Q.len s from own_lenmk.trans (by first | (simp only [len_wr, len_wrL] <;> rfl) | rfl)) rfl)
set_option maxRecDepth 100000 in
theorem ev_j_append_b55 (R : AHeap) (s : Q) (v1 : Int32) (v2 : Int32) {res : Q} {out : Option Value × AHeap} (h : j_append_b55 s v1 v2 = some res) (hk : out = (none, (W1 res R))) : Eval own_P 6 55 [some (.ref 0), some (.int v1), some (.int v2), none] [] (W1 s R) out := by
  rw [j_append_b55] at h
  refine Eval.aload_n rfl rfl ?_
  refine Eval.getfield rfl rfl own_g1_tail ?_
  refine Eval.iload_n rfl rfl ?_
  refine Eval.iload_n rfl rfl ?_
  obtain ⟨hb59, h⟩ := ite_some h
  refine Eval.iastore rfl rfl own_a1_tail hb59 own_s1_tail ?_
  refine Eval.aload_n rfl rfl ?_
  refine Eval.getfield rfl rfl own_g1_len ?_
  refine Eval.iload_n rfl rfl ?_
  refine Eval.aload_n rfl rfl ?_
  refine Eval.getfield rfl rfl own_g1_len ?_
  refine Eval.iload_n rfl rfl ?_
  obtain ⟨hb60, h⟩ := ite_some h
  refine Eval.iaload rfl own_a1_len hb60 ?_
  refine Eval.iconst (x := (1 : Int32)) rfl rfl ?_
  refine Eval.iadd rfl ?_
  obtain ⟨hb61, h⟩ := ite_some h
  refine Eval.iastore rfl rfl own_a1_len hb61 own_s1_len ?_
  cases h
  subst hk
  exact Eval.retH own_mk1 rfl rfl
def j_append_b43 (s : Q) (v1 : Int32) (v2 : Int32) (v3 : Int32) : Option (Q) := (if v3 = (-1 : Int32) then (if inb s.f_head.length v2 = true then (j_append_b55 (Q.mk s.f_st s.f_lk s.f_tmo s.f_spin s.f_nxt0 s.f_prv1 (wr s.f_head v2 v1) s.f_tail s.f_len s.f_ent s.f_aband s.f_log s.f_hist s.f_n s.f_clk) v1 v2) else none) else (j_append_b55 s v1 v2))
theorem ln_j_append_b43 {s : Q} {v1 : Int32} {v2 : Int32} {v3 : Int32} {res : Q} (h : j_append_b43 s v1 v2 v3 = some res) : Q.len res = Q.len s := by
  rw [j_append_b43] at h
  by_cases hc57 : v3 = (-1 : Int32)
  · rw [if_pos hc57] at h
    obtain ⟨hb58, h⟩ := ite_some h
    exact Eq.trans (ln_j_append_b55 h) (Eq.trans (show Q.len (Q.mk s.f_st s.f_lk s.f_tmo s.f_spin s.f_nxt0 s.f_prv1 (wr s.f_head v2 v1) s.f_tail s.f_len s.f_ent s.f_aband s.f_log s.f_hist s.f_n s.f_clk) = Q.len s from own_lenmk.trans (by first | (simp only [len_wr, len_wrL] <;> rfl) | rfl)) rfl)
  · rw [if_neg hc57] at h
    exact Eq.trans (ln_j_append_b55 h) rfl
set_option maxRecDepth 100000 in
theorem ev_j_append_b43 (R : AHeap) (s : Q) (v1 : Int32) (v2 : Int32) (v3 : Int32) {res : Q} {out : Option Value × AHeap} (h : j_append_b43 s v1 v2 v3 = some res) (hk : out = (none, (W1 res R))) : Eval own_P 6 43 [some (.ref 0), some (.int v1), some (.int v2), some (.int v3)] [] (W1 s R) out := by
  rw [j_append_b43] at h
  refine Eval.iload_n rfl rfl ?_
  refine Eval.iconst (x := (-1 : Int32)) rfl rfl ?_
  by_cases hc57 : v3 = (-1 : Int32)
  · rw [if_pos hc57] at h
    refine Eval.icmpF rfl (teq hc57).2 ?_
    refine Eval.aload_n rfl rfl ?_
    refine Eval.getfield rfl rfl own_g1_head ?_
    refine Eval.iload_n rfl rfl ?_
    refine Eval.iload_n rfl rfl ?_
    obtain ⟨hb58, h⟩ := ite_some h
    refine Eval.iastore rfl rfl own_a1_head hb58 own_s1_head ?_
    refine Eval.heap own_mk1 ?_
    refine Eval.weak (L' := [some (.ref 0), some (.int v1), some (.int v2), none]) ⟨_, _, rfl, Or.inr rfl, _, _, rfl, Or.inr rfl, _, _, rfl, Or.inr rfl, _, _, rfl, Or.inl rfl, rfl⟩ ?_
    exact ev_j_append_b55 R (Q.mk s.f_st s.f_lk s.f_tmo s.f_spin s.f_nxt0 s.f_prv1 (wr s.f_head v2 v1) s.f_tail s.f_len s.f_ent s.f_aband s.f_log s.f_hist s.f_n s.f_clk) v1 v2 h hk
  · rw [if_neg hc57] at h
    refine Eval.icmpT (t := 55) rfl rfl (feq hc57).2 ?_
    refine Eval.weak (L' := [some (.ref 0), some (.int v1), some (.int v2), none]) ⟨_, _, rfl, Or.inr rfl, _, _, rfl, Or.inr rfl, _, _, rfl, Or.inr rfl, _, _, rfl, Or.inl rfl, rfl⟩ ?_
    exact ev_j_append_b55 R s v1 v2 h hk
def j_append (s : Q) (v1 : Int32) (v2 : Int32) : Option (Q) := (if inb s.f_tail.length v2 = true then (if v2 = (0 : Int32) then (if inb s.f_nxt0.length v1 = true then (if (j_inNodes (rd s.f_tail v2)) = (0 : Int32) then (j_append_b43 (Q.mk s.f_st s.f_lk s.f_tmo s.f_spin (wr s.f_nxt0 v1 (-1 : Int32)) s.f_prv1 s.f_head s.f_tail s.f_len s.f_ent s.f_aband s.f_log s.f_hist s.f_n s.f_clk) v1 v2 (rd s.f_tail v2)) else (if inb (wr s.f_nxt0 v1 (-1 : Int32)).length (rd s.f_tail v2) = true then (j_append_b43 (Q.mk s.f_st s.f_lk s.f_tmo s.f_spin (wr (wr s.f_nxt0 v1 (-1 : Int32)) (rd s.f_tail v2) v1) s.f_prv1 s.f_head s.f_tail s.f_len s.f_ent s.f_aband s.f_log s.f_hist s.f_n s.f_clk) v1 v2 (rd s.f_tail v2)) else none)) else none) else (if inb s.f_prv1.length v1 = true then (j_append_b43 (Q.mk s.f_st s.f_lk s.f_tmo s.f_spin s.f_nxt0 (wr s.f_prv1 v1 (rd s.f_tail v2)) s.f_head s.f_tail s.f_len s.f_ent s.f_aband s.f_log s.f_hist s.f_n s.f_clk) v1 v2 (rd s.f_tail v2)) else none)) else none)
theorem ln_j_append {s : Q} {v1 : Int32} {v2 : Int32} {res : Q} (h : j_append s v1 v2 = some res) : Q.len res = Q.len s := by
  rw [j_append] at h
  obtain ⟨hb48, h⟩ := ite_some h
  by_cases hc50 : v2 = (0 : Int32)
  · rw [if_pos hc50] at h
    obtain ⟨hb51, h⟩ := ite_some h
    by_cases hc55 : (j_inNodes (rd s.f_tail v2)) = (0 : Int32)
    · rw [if_pos hc55] at h
      exact Eq.trans (ln_j_append_b43 h) (Eq.trans (show Q.len (Q.mk s.f_st s.f_lk s.f_tmo s.f_spin (wr s.f_nxt0 v1 (-1 : Int32)) s.f_prv1 s.f_head s.f_tail s.f_len s.f_ent s.f_aband s.f_log s.f_hist s.f_n s.f_clk) = Q.len s from own_lenmk.trans (by first | (simp only [len_wr, len_wrL] <;> rfl) | rfl)) rfl)
    · rw [if_neg hc55] at h
      obtain ⟨hb62, h⟩ := ite_some h
      exact Eq.trans (ln_j_append_b43 h) (Eq.trans (show Q.len (Q.mk s.f_st s.f_lk s.f_tmo s.f_spin (wr (wr s.f_nxt0 v1 (-1 : Int32)) (rd s.f_tail v2) v1) s.f_prv1 s.f_head s.f_tail s.f_len s.f_ent s.f_aband s.f_log s.f_hist s.f_n s.f_clk) = Q.len s from own_lenmk.trans (by first | (simp only [len_wr, len_wrL] <;> rfl) | rfl)) rfl)
  · rw [if_neg hc50] at h
    obtain ⟨hb63, h⟩ := ite_some h
    exact Eq.trans (ln_j_append_b43 h) (Eq.trans (show Q.len (Q.mk s.f_st s.f_lk s.f_tmo s.f_spin s.f_nxt0 (wr s.f_prv1 v1 (rd s.f_tail v2)) s.f_head s.f_tail s.f_len s.f_ent s.f_aband s.f_log s.f_hist s.f_n s.f_clk) = Q.len s from own_lenmk.trans (by first | (simp only [len_wr, len_wrL] <;> rfl) | rfl)) rfl)
set_option maxRecDepth 100000 in
theorem ev_j_append (R : AHeap) (s : Q) (v1 : Int32) (v2 : Int32) {res : Q} {out : Option Value × AHeap} (h : j_append s v1 v2 = some res) (hk : out = (none, (W1 res R))) : Eval own_P 6 0 [some (.ref 0), some (.int v1), some (.int v2), none] [] (W1 s R) out := by
  rw [j_append] at h
  refine Eval.aload_n rfl rfl ?_
  refine Eval.getfield rfl rfl own_g1_tail ?_
  refine Eval.iload_n rfl rfl ?_
  obtain ⟨hb48, h⟩ := ite_some h
  refine Eval.iaload rfl own_a1_tail hb48 ?_
  refine Eval.istore_n (L' := [some (.ref 0), some (.int v1), some (.int v2), some (.int (rd s.f_tail v2))]) rfl rfl ?_
  refine Eval.iload_n rfl rfl ?_
  by_cases hc50 : v2 = (0 : Int32)
  · rw [if_pos hc50] at h
    refine Eval.ifF rfl (teq hc50).2 ?_
    refine Eval.aload_n rfl rfl ?_
    refine Eval.getfield rfl rfl own_g1_nxt0 ?_
    refine Eval.iload_n rfl rfl ?_
    refine Eval.iconst (x := (-1 : Int32)) rfl rfl ?_
    obtain ⟨hb51, h⟩ := ite_some h
    refine Eval.iastore rfl rfl own_a1_nxt0 hb51 own_s1_nxt0 ?_
    refine Eval.aload_n rfl rfl ?_
    refine Eval.iload_n rfl rfl ?_
    refine Eval.callI (rest := []) (x := (j_inNodes (rd s.f_tail v2))) (H1 := (C1 s.f_st s.f_lk s.f_tmo s.f_spin (wr s.f_nxt0 v1 (-1 : Int32)) s.f_prv1 s.f_head s.f_tail s.f_len s.f_ent s.f_aband s.f_log s.f_hist s.f_n s.f_clk R)) rfl rfl (ev_j_inNodes (C1 s.f_st s.f_lk s.f_tmo s.f_spin (wr s.f_nxt0 v1 (-1 : Int32)) s.f_prv1 s.f_head s.f_tail s.f_len s.f_ent s.f_aband s.f_log s.f_hist s.f_n s.f_clk R) 0 (rd s.f_tail v2) rfl rfl) ?_
    by_cases hc55 : (j_inNodes (rd s.f_tail v2)) = (0 : Int32)
    · rw [if_pos hc55] at h
      refine Eval.ifT (t := 43) rfl rfl (teq hc55).1 ?_
      refine Eval.heap own_mk1 ?_
      exact ev_j_append_b43 R (Q.mk s.f_st s.f_lk s.f_tmo s.f_spin (wr s.f_nxt0 v1 (-1 : Int32)) s.f_prv1 s.f_head s.f_tail s.f_len s.f_ent s.f_aband s.f_log s.f_hist s.f_n s.f_clk) v1 v2 (rd s.f_tail v2) h hk
    · rw [if_neg hc55] at h
      refine Eval.ifF rfl (feq hc55).1 ?_
      refine Eval.aload_n rfl rfl ?_
      refine Eval.getfield rfl rfl own_g1_nxt0 ?_
      refine Eval.iload_n rfl rfl ?_
      refine Eval.iload_n rfl rfl ?_
      obtain ⟨hb62, h⟩ := ite_some h
      refine Eval.iastore rfl rfl own_a1_nxt0 hb62 own_s1_nxt0 ?_
      refine Eval.goto (t := 43) rfl rfl ?_
      refine Eval.heap own_mk1 ?_
      exact ev_j_append_b43 R (Q.mk s.f_st s.f_lk s.f_tmo s.f_spin (wr (wr s.f_nxt0 v1 (-1 : Int32)) (rd s.f_tail v2) v1) s.f_prv1 s.f_head s.f_tail s.f_len s.f_ent s.f_aband s.f_log s.f_hist s.f_n s.f_clk) v1 v2 (rd s.f_tail v2) h hk
  · rw [if_neg hc50] at h
    refine Eval.ifT (t := 36) rfl rfl (feq hc50).2 ?_
    refine Eval.aload_n rfl rfl ?_
    refine Eval.getfield rfl rfl own_g1_prv1 ?_
    refine Eval.iload_n rfl rfl ?_
    refine Eval.iload_n rfl rfl ?_
    obtain ⟨hb63, h⟩ := ite_some h
    refine Eval.iastore rfl rfl own_a1_prv1 hb63 own_s1_prv1 ?_
    refine Eval.heap own_mk1 ?_
    exact ev_j_append_b43 R (Q.mk s.f_st s.f_lk s.f_tmo s.f_spin s.f_nxt0 (wr s.f_prv1 v1 (rd s.f_tail v2)) s.f_head s.f_tail s.f_len s.f_ent s.f_aband s.f_log s.f_hist s.f_n s.f_clk) v1 v2 (rd s.f_tail v2) h hk
def j_enter_b29 (s : Q) (v2 : Int32) (v3 : Int32) : Option (Q) := (if inb s.f_ent.length v2 = true then some ((Q.mk s.f_st s.f_lk s.f_tmo s.f_spin s.f_nxt0 s.f_prv1 s.f_head s.f_tail s.f_len (wr s.f_ent v2 (v3 + (1 : Int32))) s.f_aband s.f_log s.f_hist s.f_n s.f_clk)) else none)
theorem ln_j_enter_b29 {s : Q} {v2 : Int32} {v3 : Int32} {res : Q} (h : j_enter_b29 s v2 v3 = some res) : Q.len res = Q.len s := by
  rw [j_enter_b29] at h
  obtain ⟨hb72, h⟩ := ite_some h
  have hr0 := Option.some.inj h
  subst hr0
  show Q.len (Q.mk s.f_st s.f_lk s.f_tmo s.f_spin s.f_nxt0 s.f_prv1 s.f_head s.f_tail s.f_len (wr s.f_ent v2 (v3 + (1 : Int32))) s.f_aband s.f_log s.f_hist s.f_n s.f_clk) = _
  exact (Eq.trans (show Q.len (Q.mk s.f_st s.f_lk s.f_tmo s.f_spin s.f_nxt0 s.f_prv1 s.f_head s.f_tail s.f_len (wr s.f_ent v2 (v3 + (1 : Int32))) s.f_aband s.f_log s.f_hist s.f_n s.f_clk) = Q.len s from own_lenmk.trans (by first | (simp only [len_wr, len_wrL] <;> rfl) | rfl)) rfl)
set_option maxRecDepth 100000 in
theorem ev_j_enter_b29 (R : AHeap) (s : Q) (v2 : Int32) (v3 : Int32) {res : Q} {out : Option Value × AHeap} (h : j_enter_b29 s v2 v3 = some res) (hk : out = (none, (W1 res R))) : Eval own_P 7 29 [some (.ref 0), none, some (.int v2), some (.int v3)] [] (W1 s R) out := by
  rw [j_enter_b29] at h
  refine Eval.aload_n rfl rfl ?_
  refine Eval.getfield rfl rfl own_g1_ent ?_
  refine Eval.iload_n rfl rfl ?_
  refine Eval.iload_n rfl rfl ?_
  refine Eval.iconst (x := (1 : Int32)) rfl rfl ?_
  refine Eval.iadd rfl ?_
  obtain ⟨hb72, h⟩ := ite_some h
  refine Eval.iastore rfl rfl own_a1_ent hb72 own_s1_ent ?_
  cases h
  subst hk
  exact Eval.retH own_mk1 rfl rfl
def j_enter (s : Q) (v1 : Int32) (v2 : Int32) : Option (Q) := (if inb s.f_ent.length v2 = true then (if (rd s.f_ent v2) < (0 : Int32) then (j_enter_b29 s v2 (rd s.f_ent v2)) else (if (rd s.f_ent v2) < (64 : Int32) then (if inb s.f_log.length ((v2 * (64 : Int32)) + (rd s.f_ent v2)) = true then (j_enter_b29 (Q.mk s.f_st s.f_lk s.f_tmo s.f_spin s.f_nxt0 s.f_prv1 s.f_head s.f_tail s.f_len s.f_ent s.f_aband (wr s.f_log ((v2 * (64 : Int32)) + (rd s.f_ent v2)) v1) s.f_hist s.f_n s.f_clk) v2 (rd s.f_ent v2)) else none) else (j_enter_b29 s v2 (rd s.f_ent v2)))) else none)
theorem ln_j_enter {s : Q} {v1 : Int32} {v2 : Int32} {res : Q} (h : j_enter s v1 v2 = some res) : Q.len res = Q.len s := by
  rw [j_enter] at h
  obtain ⟨hb68, h⟩ := ite_some h
  by_cases hc71 : (rd s.f_ent v2) < (0 : Int32)
  · rw [if_pos hc71] at h
    exact Eq.trans (ln_j_enter_b29 h) rfl
  · rw [if_neg hc71] at h
    by_cases hc74 : (rd s.f_ent v2) < (64 : Int32)
    · rw [if_pos hc74] at h
      obtain ⟨hb75, h⟩ := ite_some h
      exact Eq.trans (ln_j_enter_b29 h) (Eq.trans (show Q.len (Q.mk s.f_st s.f_lk s.f_tmo s.f_spin s.f_nxt0 s.f_prv1 s.f_head s.f_tail s.f_len s.f_ent s.f_aband (wr s.f_log ((v2 * (64 : Int32)) + (rd s.f_ent v2)) v1) s.f_hist s.f_n s.f_clk) = Q.len s from own_lenmk.trans (by first | (simp only [len_wr, len_wrL] <;> rfl) | rfl)) rfl)
    · rw [if_neg hc74] at h
      exact Eq.trans (ln_j_enter_b29 h) rfl
set_option maxRecDepth 100000 in
theorem ev_j_enter (R : AHeap) (s : Q) (v1 : Int32) (v2 : Int32) {res : Q} {out : Option Value × AHeap} (h : j_enter s v1 v2 = some res) (hk : out = (none, (W1 res R))) : Eval own_P 7 0 [some (.ref 0), some (.int v1), some (.int v2), none] [] (W1 s R) out := by
  rw [j_enter] at h
  refine Eval.aload_n rfl rfl ?_
  refine Eval.getfield rfl rfl own_g1_ent ?_
  refine Eval.iload_n rfl rfl ?_
  obtain ⟨hb68, h⟩ := ite_some h
  refine Eval.iaload rfl own_a1_ent hb68 ?_
  refine Eval.istore_n (L' := [some (.ref 0), some (.int v1), some (.int v2), some (.int (rd s.f_ent v2))]) rfl rfl ?_
  refine Eval.iload_n rfl rfl ?_
  by_cases hc71 : (rd s.f_ent v2) < (0 : Int32)
  · rw [if_pos hc71] at h
    refine Eval.ifT (t := 29) rfl rfl (tlt hc71).1 ?_
    refine Eval.weak (L' := [some (.ref 0), none, some (.int v2), some (.int (rd s.f_ent v2))]) ⟨_, _, rfl, Or.inr rfl, _, _, rfl, Or.inl rfl, _, _, rfl, Or.inr rfl, _, _, rfl, Or.inr rfl, rfl⟩ ?_
    exact ev_j_enter_b29 R s v2 (rd s.f_ent v2) h hk
  · rw [if_neg hc71] at h
    refine Eval.ifF rfl (flt hc71).1 ?_
    refine Eval.iload_n rfl rfl ?_
    refine Eval.bipush (x := (64 : Int32)) rfl rfl ?_
    by_cases hc74 : (rd s.f_ent v2) < (64 : Int32)
    · rw [if_pos hc74] at h
      refine Eval.icmpF rfl (tlt hc74).2.1 ?_
      refine Eval.aload_n rfl rfl ?_
      refine Eval.getfield rfl rfl own_g1_log ?_
      refine Eval.iload_n rfl rfl ?_
      refine Eval.bipush (x := (64 : Int32)) rfl rfl ?_
      refine Eval.imul rfl ?_
      refine Eval.iload_n rfl rfl ?_
      refine Eval.iadd rfl ?_
      refine Eval.iload_n rfl rfl ?_
      obtain ⟨hb75, h⟩ := ite_some h
      refine Eval.iastore rfl rfl own_a1_log hb75 own_s1_log ?_
      refine Eval.heap own_mk1 ?_
      refine Eval.weak (L' := [some (.ref 0), none, some (.int v2), some (.int (rd s.f_ent v2))]) ⟨_, _, rfl, Or.inr rfl, _, _, rfl, Or.inl rfl, _, _, rfl, Or.inr rfl, _, _, rfl, Or.inr rfl, rfl⟩ ?_
      exact ev_j_enter_b29 R (Q.mk s.f_st s.f_lk s.f_tmo s.f_spin s.f_nxt0 s.f_prv1 s.f_head s.f_tail s.f_len s.f_ent s.f_aband (wr s.f_log ((v2 * (64 : Int32)) + (rd s.f_ent v2)) v1) s.f_hist s.f_n s.f_clk) v2 (rd s.f_ent v2) h hk
    · rw [if_neg hc74] at h
      refine Eval.icmpT (t := 29) rfl rfl (flt hc74).2.1 ?_
      refine Eval.weak (L' := [some (.ref 0), none, some (.int v2), some (.int (rd s.f_ent v2))]) ⟨_, _, rfl, Or.inr rfl, _, _, rfl, Or.inl rfl, _, _, rfl, Or.inr rfl, _, _, rfl, Or.inr rfl, rfl⟩ ?_
      exact ev_j_enter_b29 R s v2 (rd s.f_ent v2) h hk
def j_holder (s : Q) (v1 : Int32) : Option (Int32) := (if (j_validLock v1) = (0 : Int32) then some ((-2 : Int32)) else (if inb s.f_head.length v1 = true then (if (j_inNodes (rd s.f_head v1)) = (0 : Int32) then some ((-1 : Int32)) else (if inb s.f_st.length (rd s.f_head v1) = true then (if (rd s.f_st (rd s.f_head v1)) = (3 : Int32) then some ((rd s.f_head v1)) else some ((-1 : Int32))) else none)) else none))
set_option maxRecDepth 100000 in
theorem ev_j_holder (R : AHeap) (s : Q) (v1 : Int32) {res : Int32} {out : Option Value × AHeap} (h : j_holder s v1 = some res) (hk : out = (some (.int res), (W1 s R))) : Eval own_P 9 0 [some (.ref 0), some (.int v1), none] [] (W1 s R) out := by
  rw [j_holder] at h
  refine Eval.aload_n rfl rfl ?_
  refine Eval.iload_n rfl rfl ?_
  refine Eval.callI (rest := []) (x := (j_validLock v1)) (H1 := (W1 s R)) rfl rfl (ev_j_validLock (W1 s R) 0 v1 rfl rfl) ?_
  by_cases hc81 : (j_validLock v1) = (0 : Int32)
  · rw [if_pos hc81] at h
    refine Eval.ifF rfl (teq hc81).2 ?_
    refine Eval.bipush (x := (-2 : Int32)) rfl rfl ?_
    cases h
    subst hk
    exact Eval.ret rfl rfl
  · rw [if_neg hc81] at h
    refine Eval.ifT (t := 11) rfl rfl (feq hc81).2 ?_
    refine Eval.aload_n rfl rfl ?_
    refine Eval.getfield rfl rfl own_g1_head ?_
    refine Eval.iload_n rfl rfl ?_
    obtain ⟨hb82, h⟩ := ite_some h
    refine Eval.iaload rfl own_a1_head hb82 ?_
    refine Eval.istore_n (L' := [some (.ref 0), some (.int v1), some (.int (rd s.f_head v1))]) rfl rfl ?_
    refine Eval.aload_n rfl rfl ?_
    refine Eval.iload_n rfl rfl ?_
    refine Eval.callI (rest := []) (x := (j_inNodes (rd s.f_head v1))) (H1 := (W1 s R)) rfl rfl (ev_j_inNodes (W1 s R) 0 (rd s.f_head v1) rfl rfl) ?_
    by_cases hc83 : (j_inNodes (rd s.f_head v1)) = (0 : Int32)
    · rw [if_pos hc83] at h
      refine Eval.ifT (t := 38) rfl rfl (teq hc83).1 ?_
      refine Eval.iconst (x := (-1 : Int32)) rfl rfl ?_
      cases h
      subst hk
      exact Eval.ret rfl rfl
    · rw [if_neg hc83] at h
      refine Eval.ifF rfl (feq hc83).1 ?_
      refine Eval.aload_n rfl rfl ?_
      refine Eval.getfield rfl rfl own_g1_st ?_
      refine Eval.iload_n rfl rfl ?_
      obtain ⟨hb84, h⟩ := ite_some h
      refine Eval.iaload rfl own_a1_st hb84 ?_
      refine Eval.iconst (x := (3 : Int32)) rfl rfl ?_
      by_cases hc85 : (rd s.f_st (rd s.f_head v1)) = (3 : Int32)
      · rw [if_pos hc85] at h
        refine Eval.icmpF rfl (teq hc85).2 ?_
        refine Eval.iload_n rfl rfl ?_
        cases h
        subst hk
        exact Eval.ret rfl rfl
      · rw [if_neg hc85] at h
        refine Eval.icmpT (t := 38) rfl rfl (feq hc85).2 ?_
        refine Eval.iconst (x := (-1 : Int32)) rfl rfl ?_
        cases h
        subst hk
        exact Eval.ret rfl rfl
def j_recordHistory (s : Q) : Option (Q) := (if s.f_clk < (1 : Int32) then some (s) else (if (256 : Int32) < s.f_clk then some (s) else ((j_holder s (0 : Int32)).bind fun p86 => ((j_holder s (1 : Int32)).bind fun p88 => (if inb s.f_hist.length (s.f_clk - (1 : Int32)) = true then (if inb (wr s.f_hist (s.f_clk - (1 : Int32)) p86).length (((256 : Int32) + s.f_clk) - (1 : Int32)) = true then some ((Q.mk s.f_st s.f_lk s.f_tmo s.f_spin s.f_nxt0 s.f_prv1 s.f_head s.f_tail s.f_len s.f_ent s.f_aband s.f_log (wr (wr s.f_hist (s.f_clk - (1 : Int32)) p86) (((256 : Int32) + s.f_clk) - (1 : Int32)) p88) s.f_n s.f_clk)) else none) else none)))))
theorem ln_j_recordHistory {s : Q} {res : Q} (h : j_recordHistory s = some res) : Q.len res = Q.len s := by
  rw [j_recordHistory] at h
  by_cases hc79 : s.f_clk < (1 : Int32)
  · rw [if_pos hc79] at h
    have hr0 := Option.some.inj h
    subst hr0
    show Q.len s = _
    exact rfl
  · rw [if_neg hc79] at h
    by_cases hc80 : (256 : Int32) < s.f_clk
    · rw [if_pos hc80] at h
      have hr0 := Option.some.inj h
      subst hr0
      show Q.len s = _
      exact rfl
    · rw [if_neg hc80] at h
      obtain ⟨p86, hq87, h⟩ := bind_some h
      obtain ⟨p88, hq89, h⟩ := bind_some h
      obtain ⟨hb90, h⟩ := ite_some h
      obtain ⟨hb91, h⟩ := ite_some h
      have hr0 := Option.some.inj h
      subst hr0
      show Q.len (Q.mk s.f_st s.f_lk s.f_tmo s.f_spin s.f_nxt0 s.f_prv1 s.f_head s.f_tail s.f_len s.f_ent s.f_aband s.f_log (wr (wr s.f_hist (s.f_clk - (1 : Int32)) p86) (((256 : Int32) + s.f_clk) - (1 : Int32)) p88) s.f_n s.f_clk) = _
      exact (Eq.trans (show Q.len (Q.mk s.f_st s.f_lk s.f_tmo s.f_spin s.f_nxt0 s.f_prv1 s.f_head s.f_tail s.f_len s.f_ent s.f_aband s.f_log (wr (wr s.f_hist (s.f_clk - (1 : Int32)) p86) (((256 : Int32) + s.f_clk) - (1 : Int32)) p88) s.f_n s.f_clk) = Q.len s from own_lenmk.trans (by first | (simp only [len_wr, len_wrL] <;> rfl) | rfl)) rfl)
set_option maxRecDepth 100000 in
theorem ev_j_recordHistory (R : AHeap) (s : Q) {res : Q} {out : Option Value × AHeap} (h : j_recordHistory s = some res) (hk : out = (none, (W1 res R))) : Eval own_P 8 0 [some (.ref 0), none, none] [] (W1 s R) out := by
  rw [j_recordHistory] at h
  refine Eval.aload_n rfl rfl ?_
  refine Eval.getfield rfl rfl own_g1_clk ?_
  refine Eval.iconst (x := (1 : Int32)) rfl rfl ?_
  by_cases hc79 : s.f_clk < (1 : Int32)
  · rw [if_pos hc79] at h
    refine Eval.icmpT (t := 58) rfl rfl (tlt hc79).1 ?_
    cases h
    subst hk
    exact Eval.ret rfl rfl
  · rw [if_neg hc79] at h
    refine Eval.icmpF rfl (flt hc79).1 ?_
    refine Eval.aload_n rfl rfl ?_
    refine Eval.getfield rfl rfl own_g1_clk ?_
    refine Eval.sipush (x := (256 : Int32)) rfl rfl ?_
    by_cases hc80 : (256 : Int32) < s.f_clk
    · rw [if_pos hc80] at h
      refine Eval.icmpT (t := 58) rfl rfl (tlt hc80).2.2.1 ?_
      cases h
      subst hk
      exact Eval.ret rfl rfl
    · rw [if_neg hc80] at h
      refine Eval.icmpF rfl (flt hc80).2.2.1 ?_
      refine Eval.aload_n rfl rfl ?_
      refine Eval.iconst (x := (0 : Int32)) rfl rfl ?_
      obtain ⟨p86, hq87, h⟩ := bind_some h
      refine Eval.callI (rest := []) (x := p86) (H1 := (W1 s R)) rfl rfl (ev_j_holder R s (0 : Int32) hq87 rfl) ?_
      refine Eval.istore_n (L' := [some (.ref 0), some (.int p86), none]) rfl rfl ?_
      refine Eval.aload_n rfl rfl ?_
      refine Eval.iconst (x := (1 : Int32)) rfl rfl ?_
      obtain ⟨p88, hq89, h⟩ := bind_some h
      refine Eval.callI (rest := []) (x := p88) (H1 := (W1 s R)) rfl rfl (ev_j_holder R s (1 : Int32) hq89 rfl) ?_
      refine Eval.istore_n (L' := [some (.ref 0), some (.int p86), some (.int p88)]) rfl rfl ?_
      refine Eval.aload_n rfl rfl ?_
      refine Eval.getfield rfl rfl own_g1_hist ?_
      refine Eval.aload_n rfl rfl ?_
      refine Eval.getfield rfl rfl own_g1_clk ?_
      refine Eval.iconst (x := (1 : Int32)) rfl rfl ?_
      refine Eval.isub rfl ?_
      refine Eval.iload_n rfl rfl ?_
      obtain ⟨hb90, h⟩ := ite_some h
      refine Eval.iastore rfl rfl own_a1_hist hb90 own_s1_hist ?_
      refine Eval.aload_n rfl rfl ?_
      refine Eval.getfield rfl rfl own_g1_hist ?_
      refine Eval.sipush (x := (256 : Int32)) rfl rfl ?_
      refine Eval.aload_n rfl rfl ?_
      refine Eval.getfield rfl rfl own_g1_clk ?_
      refine Eval.iadd rfl ?_
      refine Eval.iconst (x := (1 : Int32)) rfl rfl ?_
      refine Eval.isub rfl ?_
      refine Eval.iload_n rfl rfl ?_
      obtain ⟨hb91, h⟩ := ite_some h
      refine Eval.iastore rfl rfl own_a1_hist hb91 own_s1_hist ?_
      cases h
      subst hk
      exact Eval.retH own_mk1 rfl rfl
def j_acquire_b119 (s : Q) (v4 : Int32) : Option (Int32 × Q) := ((j_recordHistory s).bind fun p92 => some (v4, p92))
theorem ln_j_acquire_b119 {s : Q} {v4 : Int32} {res : Int32 × Q} (h : j_acquire_b119 s v4 = some res) : Q.len res.2 = Q.len s := by
  rw [j_acquire_b119] at h
  obtain ⟨p92, hq93, h⟩ := bind_some h
  have hl94 := (ln_j_recordHistory hq93).trans rfl
  have hr0 := Option.some.inj h
  subst hr0
  show Q.len p92 = _
  exact hl94
set_option maxRecDepth 100000 in
theorem ev_j_acquire_b119 (R : AHeap) (s : Q) (v4 : Int32) {res : Int32 × Q} {out : Option Value × AHeap} (h : j_acquire_b119 s v4 = some res) (hk : out = (some (.int res.1), (W1 res.2 R))) : Eval own_P 2 119 [some (.ref 0), none, none, none, some (.int v4)] [] (W1 s R) out := by
  rw [j_acquire_b119] at h
  refine Eval.aload_n rfl rfl ?_
  obtain ⟨p92, hq93, h⟩ := bind_some h
  refine Eval.callN (rest := []) (H1 := (W1 p92 R)) rfl rfl (ev_j_recordHistory R s hq93 rfl) ?_
  refine Eval.iload rfl rfl ?_
  cases h
  subst hk
  exact Eval.ret rfl rfl
def j_acquire (s : Q) (v1 : Int32) (v2 : Int32) (v3 : Int32) : Option (Int32 × Q) := (if (j_validThread s v1) = (0 : Int32) then some ((-2 : Int32), s) else (if (j_validLock v2) = (0 : Int32) then some ((-2 : Int32), s) else (if inb s.f_st.length v1 = true then (if (rd s.f_st v1) = (0 : Int32) then (if inb s.f_tmo.length v1 = true then (if inb s.f_spin.length v1 = true then (if inb s.f_lk.length v1 = true then (if inb s.f_len.length v2 = true then (if (rd s.f_len v2) = (0 : Int32) then ((j_append (Q.mk s.f_st (wr s.f_lk v1 v2) (wr s.f_tmo v1 (j_clampTimeout v3)) (wr s.f_spin v1 (0 : Int32)) s.f_nxt0 s.f_prv1 s.f_head s.f_tail s.f_len s.f_ent s.f_aband s.f_log s.f_hist s.f_n (s.f_clk + (1 : Int32))) v1 v2).bind fun p64 => (if inb p64.f_st.length v1 = true then ((j_enter (Q.mk (wr p64.f_st v1 (3 : Int32)) p64.f_lk p64.f_tmo p64.f_spin p64.f_nxt0 p64.f_prv1 p64.f_head p64.f_tail p64.f_len p64.f_ent p64.f_aband p64.f_log p64.f_hist p64.f_n p64.f_clk) v1 v2).bind fun p76 => (j_acquire_b119 p76 (3 : Int32))) else none)) else ((j_append (Q.mk s.f_st (wr s.f_lk v1 v2) (wr s.f_tmo v1 (j_clampTimeout v3)) (wr s.f_spin v1 (0 : Int32)) s.f_nxt0 s.f_prv1 s.f_head s.f_tail s.f_len s.f_ent s.f_aband s.f_log s.f_hist s.f_n (s.f_clk + (1 : Int32))) v1 v2).bind fun p95 => (if inb p95.f_st.length v1 = true then (j_acquire_b119 (Q.mk (wr p95.f_st v1 (1 : Int32)) p95.f_lk p95.f_tmo p95.f_spin p95.f_nxt0 p95.f_prv1 p95.f_head p95.f_tail p95.f_len p95.f_ent p95.f_aband p95.f_log p95.f_hist p95.f_n p95.f_clk) (1 : Int32)) else none))) else none) else none) else none) else none) else some ((-2 : Int32), s)) else none)))
theorem ln_j_acquire {s : Q} {v1 : Int32} {v2 : Int32} {v3 : Int32} {res : Int32 × Q} (h : j_acquire s v1 v2 v3 = some res) : Q.len res.2 = Q.len s := by
  rw [j_acquire] at h
  by_cases hc34 : (j_validThread s v1) = (0 : Int32)
  · rw [if_pos hc34] at h
    have hr0 := Option.some.inj h
    subst hr0
    show Q.len s = _
    exact rfl
  · rw [if_neg hc34] at h
    by_cases hc37 : (j_validLock v2) = (0 : Int32)
    · rw [if_pos hc37] at h
      have hr0 := Option.some.inj h
      subst hr0
      show Q.len s = _
      exact rfl
    · rw [if_neg hc37] at h
      obtain ⟨hb38, h⟩ := ite_some h
      by_cases hc39 : (rd s.f_st v1) = (0 : Int32)
      · rw [if_pos hc39] at h
        obtain ⟨hb42, h⟩ := ite_some h
        obtain ⟨hb43, h⟩ := ite_some h
        obtain ⟨hb44, h⟩ := ite_some h
        obtain ⟨hb45, h⟩ := ite_some h
        by_cases hc47 : (rd s.f_len v2) = (0 : Int32)
        · rw [if_pos hc47] at h
          obtain ⟨p64, hq65, h⟩ := bind_some h
          have hl66 := (ln_j_append hq65).trans (Eq.trans (show Q.len (Q.mk s.f_st (wr s.f_lk v1 v2) (wr s.f_tmo v1 (j_clampTimeout v3)) (wr s.f_spin v1 (0 : Int32)) s.f_nxt0 s.f_prv1 s.f_head s.f_tail s.f_len s.f_ent s.f_aband s.f_log s.f_hist s.f_n (s.f_clk + (1 : Int32))) = Q.len s from own_lenmk.trans (by first | (simp only [len_wr, len_wrL] <;> rfl) | rfl)) rfl)
          obtain ⟨hb67, h⟩ := ite_some h
          obtain ⟨p76, hq77, h⟩ := bind_some h
          have hl78 := (ln_j_enter hq77).trans (Eq.trans (show Q.len (Q.mk (wr p64.f_st v1 (3 : Int32)) p64.f_lk p64.f_tmo p64.f_spin p64.f_nxt0 p64.f_prv1 p64.f_head p64.f_tail p64.f_len p64.f_ent p64.f_aband p64.f_log p64.f_hist p64.f_n p64.f_clk) = Q.len p64 from own_lenmk.trans (by first | (simp only [len_wr, len_wrL] <;> rfl) | rfl)) hl66)
          exact Eq.trans (ln_j_acquire_b119 h) hl78
        · rw [if_neg hc47] at h
          obtain ⟨p95, hq96, h⟩ := bind_some h
          have hl97 := (ln_j_append hq96).trans (Eq.trans (show Q.len (Q.mk s.f_st (wr s.f_lk v1 v2) (wr s.f_tmo v1 (j_clampTimeout v3)) (wr s.f_spin v1 (0 : Int32)) s.f_nxt0 s.f_prv1 s.f_head s.f_tail s.f_len s.f_ent s.f_aband s.f_log s.f_hist s.f_n (s.f_clk + (1 : Int32))) = Q.len s from own_lenmk.trans (by first | (simp only [len_wr, len_wrL] <;> rfl) | rfl)) rfl)
          obtain ⟨hb98, h⟩ := ite_some h
          exact Eq.trans (ln_j_acquire_b119 h) (Eq.trans (show Q.len (Q.mk (wr p95.f_st v1 (1 : Int32)) p95.f_lk p95.f_tmo p95.f_spin p95.f_nxt0 p95.f_prv1 p95.f_head p95.f_tail p95.f_len p95.f_ent p95.f_aband p95.f_log p95.f_hist p95.f_n p95.f_clk) = Q.len p95 from own_lenmk.trans (by first | (simp only [len_wr, len_wrL] <;> rfl) | rfl)) hl97)
      · rw [if_neg hc39] at h
        have hr0 := Option.some.inj h
        subst hr0
        show Q.len s = _
        exact rfl
set_option maxRecDepth 100000 in
theorem ev_j_acquire (R : AHeap) (s : Q) (v1 : Int32) (v2 : Int32) (v3 : Int32) {res : Int32 × Q} {out : Option Value × AHeap} (h : j_acquire s v1 v2 v3 = some res) (hk : out = (some (.int res.1), (W1 res.2 R))) : Eval own_P 2 0 [some (.ref 0), some (.int v1), some (.int v2), some (.int v3), none] [] (W1 s R) out := by
  rw [j_acquire] at h
  refine Eval.aload_n rfl rfl ?_
  refine Eval.iload_n rfl rfl ?_
  refine Eval.callI (rest := []) (x := (j_validThread s v1)) (H1 := (W1 s R)) rfl rfl (ev_j_validThread R s v1 rfl rfl) ?_
  by_cases hc34 : (j_validThread s v1) = (0 : Int32)
  · rw [if_pos hc34] at h
    refine Eval.ifF rfl (teq hc34).2 ?_
    refine Eval.bipush (x := (-2 : Int32)) rfl rfl ?_
    cases h
    subst hk
    exact Eval.ret rfl rfl
  · rw [if_neg hc34] at h
    refine Eval.ifT (t := 11) rfl rfl (feq hc34).2 ?_
    refine Eval.aload_n rfl rfl ?_
    refine Eval.iload_n rfl rfl ?_
    refine Eval.callI (rest := []) (x := (j_validLock v2)) (H1 := (W1 s R)) rfl rfl (ev_j_validLock (W1 s R) 0 v2 rfl rfl) ?_
    by_cases hc37 : (j_validLock v2) = (0 : Int32)
    · rw [if_pos hc37] at h
      refine Eval.ifF rfl (teq hc37).2 ?_
      refine Eval.bipush (x := (-2 : Int32)) rfl rfl ?_
      cases h
      subst hk
      exact Eval.ret rfl rfl
    · rw [if_neg hc37] at h
      refine Eval.ifT (t := 22) rfl rfl (feq hc37).2 ?_
      refine Eval.aload_n rfl rfl ?_
      refine Eval.getfield rfl rfl own_g1_st ?_
      refine Eval.iload_n rfl rfl ?_
      obtain ⟨hb38, h⟩ := ite_some h
      refine Eval.iaload rfl own_a1_st hb38 ?_
      by_cases hc39 : (rd s.f_st v1) = (0 : Int32)
      · rw [if_pos hc39] at h
        refine Eval.ifT (t := 34) rfl rfl (teq hc39).1 ?_
        refine Eval.aload_n rfl rfl ?_
        refine Eval.aload_n rfl rfl ?_
        refine Eval.getfield rfl rfl own_g1_clk ?_
        refine Eval.iconst (x := (1 : Int32)) rfl rfl ?_
        refine Eval.iadd rfl ?_
        refine Eval.putfield rfl rfl own_p1_clk ?_
        refine Eval.aload_n rfl rfl ?_
        refine Eval.getfield rfl rfl own_g1_tmo ?_
        refine Eval.iload_n rfl rfl ?_
        refine Eval.aload_n rfl rfl ?_
        refine Eval.iload_n rfl rfl ?_
        refine Eval.callI (rest := [.int v1, .ref 3]) (x := (j_clampTimeout v3)) (H1 := (C1 s.f_st s.f_lk s.f_tmo s.f_spin s.f_nxt0 s.f_prv1 s.f_head s.f_tail s.f_len s.f_ent s.f_aband s.f_log s.f_hist s.f_n (s.f_clk + (1 : Int32)) R)) rfl rfl (ev_j_clampTimeout (C1 s.f_st s.f_lk s.f_tmo s.f_spin s.f_nxt0 s.f_prv1 s.f_head s.f_tail s.f_len s.f_ent s.f_aband s.f_log s.f_hist s.f_n (s.f_clk + (1 : Int32)) R) 0 v3 rfl rfl) ?_
        obtain ⟨hb42, h⟩ := ite_some h
        refine Eval.iastore rfl rfl own_a1_tmo hb42 own_s1_tmo ?_
        refine Eval.aload_n rfl rfl ?_
        refine Eval.getfield rfl rfl own_g1_spin ?_
        refine Eval.iload_n rfl rfl ?_
        refine Eval.iconst (x := (0 : Int32)) rfl rfl ?_
        obtain ⟨hb43, h⟩ := ite_some h
        refine Eval.iastore rfl rfl own_a1_spin hb43 own_s1_spin ?_
        refine Eval.aload_n rfl rfl ?_
        refine Eval.getfield rfl rfl own_g1_lk ?_
        refine Eval.iload_n rfl rfl ?_
        refine Eval.iload_n rfl rfl ?_
        obtain ⟨hb44, h⟩ := ite_some h
        refine Eval.iastore rfl rfl own_a1_lk hb44 own_s1_lk ?_
        refine Eval.aload_n rfl rfl ?_
        refine Eval.getfield rfl rfl own_g1_len ?_
        refine Eval.iload_n rfl rfl ?_
        obtain ⟨hb45, h⟩ := ite_some h
        refine Eval.iaload rfl own_a1_len hb45 ?_
        by_cases hc47 : (rd s.f_len v2) = (0 : Int32)
        · rw [if_pos hc47] at h
          refine Eval.ifF rfl (teq hc47).2 ?_
          refine Eval.aload_n rfl rfl ?_
          refine Eval.iload_n rfl rfl ?_
          refine Eval.iload_n rfl rfl ?_
          obtain ⟨p64, hq65, h⟩ := bind_some h
          refine Eval.callN (rest := []) (H1 := (W1 p64 R)) rfl rfl (Eval.heap own_mk1 (ev_j_append R (Q.mk s.f_st (wr s.f_lk v1 v2) (wr s.f_tmo v1 (j_clampTimeout v3)) (wr s.f_spin v1 (0 : Int32)) s.f_nxt0 s.f_prv1 s.f_head s.f_tail s.f_len s.f_ent s.f_aband s.f_log s.f_hist s.f_n (s.f_clk + (1 : Int32))) v1 v2 hq65 rfl)) ?_
          refine Eval.aload_n rfl rfl ?_
          refine Eval.getfield rfl rfl own_g1_st ?_
          refine Eval.iload_n rfl rfl ?_
          refine Eval.iconst (x := (3 : Int32)) rfl rfl ?_
          obtain ⟨hb67, h⟩ := ite_some h
          refine Eval.iastore rfl rfl own_a1_st hb67 own_s1_st ?_
          refine Eval.aload_n rfl rfl ?_
          refine Eval.iload_n rfl rfl ?_
          refine Eval.iload_n rfl rfl ?_
          obtain ⟨p76, hq77, h⟩ := bind_some h
          refine Eval.callN (rest := []) (H1 := (W1 p76 R)) rfl rfl (Eval.heap own_mk1 (ev_j_enter R (Q.mk (wr p64.f_st v1 (3 : Int32)) p64.f_lk p64.f_tmo p64.f_spin p64.f_nxt0 p64.f_prv1 p64.f_head p64.f_tail p64.f_len p64.f_ent p64.f_aband p64.f_log p64.f_hist p64.f_n p64.f_clk) v1 v2 hq77 rfl)) ?_
          refine Eval.iconst (x := (3 : Int32)) rfl rfl ?_
          refine Eval.istore (L' := [some (.ref 0), some (.int v1), some (.int v2), some (.int v3), some (.int (3 : Int32))]) rfl rfl ?_
          refine Eval.goto (t := 119) rfl rfl ?_
          refine Eval.weak (L' := [some (.ref 0), none, none, none, some (.int (3 : Int32))]) ⟨_, _, rfl, Or.inr rfl, _, _, rfl, Or.inl rfl, _, _, rfl, Or.inl rfl, _, _, rfl, Or.inl rfl, _, _, rfl, Or.inr rfl, rfl⟩ ?_
          exact ev_j_acquire_b119 R p76 (3 : Int32) h hk
        · rw [if_neg hc47] at h
          refine Eval.ifT (t := 103) rfl rfl (feq hc47).2 ?_
          refine Eval.aload_n rfl rfl ?_
          refine Eval.iload_n rfl rfl ?_
          refine Eval.iload_n rfl rfl ?_
          obtain ⟨p95, hq96, h⟩ := bind_some h
          refine Eval.callN (rest := []) (H1 := (W1 p95 R)) rfl rfl (Eval.heap own_mk1 (ev_j_append R (Q.mk s.f_st (wr s.f_lk v1 v2) (wr s.f_tmo v1 (j_clampTimeout v3)) (wr s.f_spin v1 (0 : Int32)) s.f_nxt0 s.f_prv1 s.f_head s.f_tail s.f_len s.f_ent s.f_aband s.f_log s.f_hist s.f_n (s.f_clk + (1 : Int32))) v1 v2 hq96 rfl)) ?_
          refine Eval.aload_n rfl rfl ?_
          refine Eval.getfield rfl rfl own_g1_st ?_
          refine Eval.iload_n rfl rfl ?_
          refine Eval.iconst (x := (1 : Int32)) rfl rfl ?_
          obtain ⟨hb98, h⟩ := ite_some h
          refine Eval.iastore rfl rfl own_a1_st hb98 own_s1_st ?_
          refine Eval.iconst (x := (1 : Int32)) rfl rfl ?_
          refine Eval.istore (L' := [some (.ref 0), some (.int v1), some (.int v2), some (.int v3), some (.int (1 : Int32))]) rfl rfl ?_
          refine Eval.heap own_mk1 ?_
          refine Eval.weak (L' := [some (.ref 0), none, none, none, some (.int (1 : Int32))]) ⟨_, _, rfl, Or.inr rfl, _, _, rfl, Or.inl rfl, _, _, rfl, Or.inl rfl, _, _, rfl, Or.inl rfl, _, _, rfl, Or.inr rfl, rfl⟩ ?_
          exact ev_j_acquire_b119 R (Q.mk (wr p95.f_st v1 (1 : Int32)) p95.f_lk p95.f_tmo p95.f_spin p95.f_nxt0 p95.f_prv1 p95.f_head p95.f_tail p95.f_len p95.f_ent p95.f_aband p95.f_log p95.f_hist p95.f_n p95.f_clk) (1 : Int32) h hk
      · rw [if_neg hc39] at h
        refine Eval.ifF rfl (feq hc39).1 ?_
        refine Eval.bipush (x := (-2 : Int32)) rfl rfl ?_
        cases h
        subst hk
        exact Eval.ret rfl rfl
abbrev law_l106_K (res : (Q) ⊕ (Int32 × Int32 × Int32 × Q)) (out : Option Value × AHeap) : Prop := Sum.elim (fun res => Eval own_P 0 158 [none, none, none, none, none, none, none, none, none, none] [] (W1 res []) out) (fun res => Eval own_P 0 166 [none, none, none, some (.ref 0), some (.int res.1), some (.int res.2.1), some (.int res.2.2.1), none, none, none] [] (W1 res.2.2.2 []) out) res

def j_step_b84 (s : Q) (v4 : Int32) : Option (Int32 × Q) := ((j_recordHistory s).bind fun p120 => some (v4, p120))
theorem ln_j_step_b84 {s : Q} {v4 : Int32} {res : Int32 × Q} (h : j_step_b84 s v4 = some res) : Q.len res.2 = Q.len s := by
  rw [j_step_b84] at h
  obtain ⟨p120, hq121, h⟩ := bind_some h
  have hl122 := (ln_j_recordHistory hq121).trans rfl
  have hr0 := Option.some.inj h
  subst hr0
  show Q.len p120 = _
  exact hl122
set_option maxRecDepth 100000 in
theorem ev_j_step_b84 (R : AHeap) (s : Q) (v4 : Int32) {res : Int32 × Q} {out : Option Value × AHeap} (h : j_step_b84 s v4 = some res) (hk : out = (some (.int res.1), (W1 res.2 R))) : Eval own_P 11 84 [some (.ref 0), none, none, none, some (.int v4)] [] (W1 s R) out := by
  rw [j_step_b84] at h
  refine Eval.aload_n rfl rfl ?_
  obtain ⟨p120, hq121, h⟩ := bind_some h
  refine Eval.callN (rest := []) (H1 := (W1 p120 R)) rfl rfl (ev_j_recordHistory R s hq121 rfl) ?_
  refine Eval.iload rfl rfl ?_
  cases h
  subst hk
  exact Eval.ret rfl rfl
abbrev j_predecessorMcs_l9_K (R : AHeap) (s : Q) (res : (Unit) ⊕ ((Int32) ⊕ (Unit))) (out : Option Value × AHeap) : Prop := Sum.elim (fun res => Eval own_P 27 23 [none, none, none, none] [] (W1 s R) out) (fun res => Sum.elim (fun res => Eval own_P 27 35 [none, none, some (.int res), none] [] (W1 s R) out) (fun res => Eval own_P 27 50 [none, none, none, none] [] (W1 s R) out) res) res

def j_predecessorMcs_l9 : Nat → Q → Int32 → Int32 → Int32 → Option ((Unit) ⊕ ((Int32) ⊕ (Unit)))
  | 0, _, _, _, _ => none
  | n + 1, s, v1, v2, v3 => (if v3 < (8 : Int32) then (if (j_inNodes v2) = (0 : Int32) then some (.inl ()) else (if inb s.f_nxt0.length v2 = true then (if (rd s.f_nxt0 v2) = v1 then some (.inr (.inl (v2))) else (if inb s.f_nxt0.length v2 = true then (j_predecessorMcs_l9 n s v1 (rd s.f_nxt0 v2) (v3 + (1 : Int32))) else none)) else none)) else some (.inr (.inr ())))
set_option maxRecDepth 100000 in
theorem ev_j_predecessorMcs_l9 (R : AHeap) : ∀ (n : Nat) (s : Q) (v1 : Int32) (v2 : Int32) (v3 : Int32) {res : (Unit) ⊕ ((Int32) ⊕ (Unit))} {out : Option Value × AHeap}, j_predecessorMcs_l9 n s v1 v2 v3 = some res → j_predecessorMcs_l9_K R s res out → Eval own_P 27 9 [some (.ref 0), some (.int v1), some (.int v2), some (.int v3)] [] (W1 s R) out := by
  intro n
  induction n with
  | zero => intro _ _ _ _ res out h hk; cases h
  | succ n hrec =>
    intro s v1 v2 v3 res out h hk
    rw [j_predecessorMcs_l9] at h
    refine Eval.iload_n rfl rfl ?_
    refine Eval.bipush (x := (8 : Int32)) rfl rfl ?_
    by_cases hc135 : v3 < (8 : Int32)
    · rw [if_pos hc135] at h
      refine Eval.icmpF rfl (tlt hc135).2.1 ?_
      refine Eval.aload_n rfl rfl ?_
      refine Eval.iload_n rfl rfl ?_
      refine Eval.callI (rest := []) (x := (j_inNodes v2)) (H1 := (W1 s R)) rfl rfl (ev_j_inNodes (W1 s R) 0 v2 rfl rfl) ?_
      by_cases hc136 : (j_inNodes v2) = (0 : Int32)
      · rw [if_pos hc136] at h
        refine Eval.ifF rfl (teq hc136).2 ?_
        cases h
        refine Eval.weak (L' := [none, none, none, none]) ⟨_, _, rfl, Or.inl rfl, _, _, rfl, Or.inl rfl, _, _, rfl, Or.inl rfl, _, _, rfl, Or.inl rfl, rfl⟩ ?_
        exact hk
      · rw [if_neg hc136] at h
        refine Eval.ifT (t := 25) rfl rfl (feq hc136).2 ?_
        refine Eval.aload_n rfl rfl ?_
        refine Eval.getfield rfl rfl own_g1_nxt0 ?_
        refine Eval.iload_n rfl rfl ?_
        obtain ⟨hb137, h⟩ := ite_some h
        refine Eval.iaload rfl own_a1_nxt0 hb137 ?_
        refine Eval.iload_n rfl rfl ?_
        by_cases hc138 : (rd s.f_nxt0 v2) = v1
        · rw [if_pos hc138] at h
          refine Eval.icmpF rfl (teq hc138).2 ?_
          cases h
          refine Eval.weak (L' := [none, none, some (.int v2), none]) ⟨_, _, rfl, Or.inl rfl, _, _, rfl, Or.inl rfl, _, _, rfl, Or.inr rfl, _, _, rfl, Or.inl rfl, rfl⟩ ?_
          exact hk
        · rw [if_neg hc138] at h
          refine Eval.icmpT (t := 37) rfl rfl (feq hc138).2 ?_
          refine Eval.aload_n rfl rfl ?_
          refine Eval.getfield rfl rfl own_g1_nxt0 ?_
          refine Eval.iload_n rfl rfl ?_
          obtain ⟨hb139, h⟩ := ite_some h
          refine Eval.iaload rfl own_a1_nxt0 hb139 ?_
          refine Eval.istore_n (L' := [some (.ref 0), some (.int v1), some (.int (rd s.f_nxt0 v2)), some (.int v3)]) rfl rfl ?_
          refine Eval.iinc (L' := [some (.ref 0), some (.int v1), some (.int (rd s.f_nxt0 v2)), some (.int (v3 + (1 : Int32)))]) rfl rfl rfl ?_
          refine Eval.goto (t := 9) rfl rfl ?_
          exact hrec _ _ _ _ h hk
    · rw [if_neg hc135] at h
      refine Eval.icmpT (t := 50) rfl rfl (flt hc135).2.1 ?_
      cases h
      refine Eval.weak (L' := [none, none, none, none]) ⟨_, _, rfl, Or.inl rfl, _, _, rfl, Or.inl rfl, _, _, rfl, Or.inl rfl, _, _, rfl, Or.inl rfl, rfl⟩ ?_
      exact hk
def j_predecessorMcs (s : Q) (v1 : Int32) : Option (Int32) := (if inb s.f_head.length (0 : Int32) = true then ((j_predecessorMcs_l9 3000 s v1 (rd s.f_head (0 : Int32)) (0 : Int32)).bind fun p140 => Sum.elim (fun p142 => some ((-1 : Int32))) (fun p143 => Sum.elim (fun p144 => some (p144)) (fun p145 => some ((-1 : Int32))) p143) p140) else none)
set_option maxRecDepth 100000 in
theorem ev_j_predecessorMcs (R : AHeap) (s : Q) (v1 : Int32) {res : Int32} {out : Option Value × AHeap} (h : j_predecessorMcs s v1 = some res) (hk : out = (some (.int res), (W1 s R))) : Eval own_P 27 0 [some (.ref 0), some (.int v1), none, none] [] (W1 s R) out := by
  rw [j_predecessorMcs] at h
  refine Eval.aload_n rfl rfl ?_
  refine Eval.getfield rfl rfl own_g1_head ?_
  refine Eval.iconst (x := (0 : Int32)) rfl rfl ?_
  obtain ⟨hb134, h⟩ := ite_some h
  refine Eval.iaload rfl own_a1_head hb134 ?_
  refine Eval.istore_n (L' := [some (.ref 0), some (.int v1), some (.int (rd s.f_head (0 : Int32))), none]) rfl rfl ?_
  refine Eval.iconst (x := (0 : Int32)) rfl rfl ?_
  refine Eval.istore_n (L' := [some (.ref 0), some (.int v1), some (.int (rd s.f_head (0 : Int32))), some (.int (0 : Int32))]) rfl rfl ?_
  obtain ⟨p140, hq141, h⟩ := bind_some h
  rcases p140 with p142 | p143
  · dsimp only [Sum.elim] at h
    refine ev_j_predecessorMcs_l9 R _ s v1 (rd s.f_head (0 : Int32)) (0 : Int32) hq141 ?_
    show Eval own_P 27 23 [none, none, none, none] [] (W1 s R) out
    refine Eval.iconst (x := (-1 : Int32)) rfl rfl ?_
    cases h
    subst hk
    exact Eval.ret rfl rfl
  · dsimp only [Sum.elim] at h
    rcases p143 with p144 | p145
    · dsimp only [Sum.elim] at h
      refine ev_j_predecessorMcs_l9 R _ s v1 (rd s.f_head (0 : Int32)) (0 : Int32) hq141 ?_
      show Eval own_P 27 35 [none, none, some (.int p144), none] [] (W1 s R) out
      refine Eval.iload_n rfl rfl ?_
      cases h
      subst hk
      exact Eval.ret rfl rfl
    · dsimp only [Sum.elim] at h
      refine ev_j_predecessorMcs_l9 R _ s v1 (rd s.f_head (0 : Int32)) (0 : Int32) hq141 ?_
      show Eval own_P 27 50 [none, none, none, none] [] (W1 s R) out
      refine Eval.iconst (x := (-1 : Int32)) rfl rfl ?_
      cases h
      subst hk
      exact Eval.ret rfl rfl
def j_unlink_b112 (s : Q) (v2 : Int32) : Option (Q) := (if inb s.f_len.length v2 = true then (if inb s.f_len.length v2 = true then some ((Q.mk s.f_st s.f_lk s.f_tmo s.f_spin s.f_nxt0 s.f_prv1 s.f_head s.f_tail (wr s.f_len v2 ((rd s.f_len v2) - (1 : Int32))) s.f_ent s.f_aband s.f_log s.f_hist s.f_n s.f_clk)) else none) else none)
theorem ln_j_unlink_b112 {s : Q} {v2 : Int32} {res : Q} (h : j_unlink_b112 s v2 = some res) : Q.len res = Q.len s := by
  rw [j_unlink_b112] at h
  obtain ⟨hb155, h⟩ := ite_some h
  obtain ⟨hb156, h⟩ := ite_some h
  have hr0 := Option.some.inj h
  subst hr0
  show Q.len (Q.mk s.f_st s.f_lk s.f_tmo s.f_spin s.f_nxt0 s.f_prv1 s.f_head s.f_tail (wr s.f_len v2 ((rd s.f_len v2) - (1 : Int32))) s.f_ent s.f_aband s.f_log s.f_hist s.f_n s.f_clk) = _
  exact (Eq.trans (show Q.len (Q.mk s.f_st s.f_lk s.f_tmo s.f_spin s.f_nxt0 s.f_prv1 s.f_head s.f_tail (wr s.f_len v2 ((rd s.f_len v2) - (1 : Int32))) s.f_ent s.f_aband s.f_log s.f_hist s.f_n s.f_clk) = Q.len s from own_lenmk.trans (by first | (simp only [len_wr, len_wrL] <;> rfl) | rfl)) rfl)
set_option maxRecDepth 100000 in
theorem ev_j_unlink_b112 (R : AHeap) (s : Q) (v2 : Int32) {res : Q} {out : Option Value × AHeap} (h : j_unlink_b112 s v2 = some res) (hk : out = (none, (W1 res R))) : Eval own_P 13 112 [some (.ref 0), none, some (.int v2), none, none] [] (W1 s R) out := by
  rw [j_unlink_b112] at h
  refine Eval.aload_n rfl rfl ?_
  refine Eval.getfield rfl rfl own_g1_len ?_
  refine Eval.iload_n rfl rfl ?_
  refine Eval.aload_n rfl rfl ?_
  refine Eval.getfield rfl rfl own_g1_len ?_
  refine Eval.iload_n rfl rfl ?_
  obtain ⟨hb155, h⟩ := ite_some h
  refine Eval.iaload rfl own_a1_len hb155 ?_
  refine Eval.iconst (x := (1 : Int32)) rfl rfl ?_
  refine Eval.isub rfl ?_
  obtain ⟨hb156, h⟩ := ite_some h
  refine Eval.iastore rfl rfl own_a1_len hb156 own_s1_len ?_
  cases h
  subst hk
  exact Eval.retH own_mk1 rfl rfl
def j_unlink_b47 (s : Q) (v1 : Int32) (v2 : Int32) : Option (Q) := (if inb s.f_nxt0.length v1 = true then (j_unlink_b112 (Q.mk s.f_st s.f_lk s.f_tmo s.f_spin (wr s.f_nxt0 v1 (-1 : Int32)) s.f_prv1 s.f_head s.f_tail s.f_len s.f_ent s.f_aband s.f_log s.f_hist s.f_n s.f_clk) v2) else none)
theorem ln_j_unlink_b47 {s : Q} {v1 : Int32} {v2 : Int32} {res : Q} (h : j_unlink_b47 s v1 v2 = some res) : Q.len res = Q.len s := by
  rw [j_unlink_b47] at h
  obtain ⟨hb154, h⟩ := ite_some h
  exact Eq.trans (ln_j_unlink_b112 h) (Eq.trans (show Q.len (Q.mk s.f_st s.f_lk s.f_tmo s.f_spin (wr s.f_nxt0 v1 (-1 : Int32)) s.f_prv1 s.f_head s.f_tail s.f_len s.f_ent s.f_aband s.f_log s.f_hist s.f_n s.f_clk) = Q.len s from own_lenmk.trans (by first | (simp only [len_wr, len_wrL] <;> rfl) | rfl)) rfl)
set_option maxRecDepth 100000 in
theorem ev_j_unlink_b47 (R : AHeap) (s : Q) (v1 : Int32) (v2 : Int32) {res : Q} {out : Option Value × AHeap} (h : j_unlink_b47 s v1 v2 = some res) (hk : out = (none, (W1 res R))) : Eval own_P 13 47 [some (.ref 0), some (.int v1), some (.int v2), none, none] [] (W1 s R) out := by
  rw [j_unlink_b47] at h
  refine Eval.aload_n rfl rfl ?_
  refine Eval.getfield rfl rfl own_g1_nxt0 ?_
  refine Eval.iload_n rfl rfl ?_
  refine Eval.iconst (x := (-1 : Int32)) rfl rfl ?_
  obtain ⟨hb154, h⟩ := ite_some h
  refine Eval.iastore rfl rfl own_a1_nxt0 hb154 own_s1_nxt0 ?_
  refine Eval.goto (t := 112) rfl rfl ?_
  refine Eval.heap own_mk1 ?_
  refine Eval.weak (L' := [some (.ref 0), none, some (.int v2), none, none]) ⟨_, _, rfl, Or.inr rfl, _, _, rfl, Or.inl rfl, _, _, rfl, Or.inr rfl, _, _, rfl, Or.inl rfl, _, _, rfl, Or.inl rfl, rfl⟩ ?_
  exact ev_j_unlink_b112 R (Q.mk s.f_st s.f_lk s.f_tmo s.f_spin (wr s.f_nxt0 v1 (-1 : Int32)) s.f_prv1 s.f_head s.f_tail s.f_len s.f_ent s.f_aband s.f_log s.f_hist s.f_n s.f_clk) v2 h hk
def j_unlink_b30 (s : Q) (v1 : Int32) (v2 : Int32) (v3 : Int32) : Option (Q) := (if inb s.f_tail.length (0 : Int32) = true then (if (rd s.f_tail (0 : Int32)) = v1 then (if inb s.f_tail.length (0 : Int32) = true then (j_unlink_b47 (Q.mk s.f_st s.f_lk s.f_tmo s.f_spin s.f_nxt0 s.f_prv1 s.f_head (wr s.f_tail (0 : Int32) v3) s.f_len s.f_ent s.f_aband s.f_log s.f_hist s.f_n s.f_clk) v1 v2) else none) else (j_unlink_b47 s v1 v2)) else none)
theorem ln_j_unlink_b30 {s : Q} {v1 : Int32} {v2 : Int32} {v3 : Int32} {res : Q} (h : j_unlink_b30 s v1 v2 v3 = some res) : Q.len res = Q.len s := by
  rw [j_unlink_b30] at h
  obtain ⟨hb150, h⟩ := ite_some h
  by_cases hc152 : (rd s.f_tail (0 : Int32)) = v1
  · rw [if_pos hc152] at h
    obtain ⟨hb153, h⟩ := ite_some h
    exact Eq.trans (ln_j_unlink_b47 h) (Eq.trans (show Q.len (Q.mk s.f_st s.f_lk s.f_tmo s.f_spin s.f_nxt0 s.f_prv1 s.f_head (wr s.f_tail (0 : Int32) v3) s.f_len s.f_ent s.f_aband s.f_log s.f_hist s.f_n s.f_clk) = Q.len s from own_lenmk.trans (by first | (simp only [len_wr, len_wrL] <;> rfl) | rfl)) rfl)
  · rw [if_neg hc152] at h
    exact Eq.trans (ln_j_unlink_b47 h) rfl
set_option maxRecDepth 100000 in
theorem ev_j_unlink_b30 (R : AHeap) (s : Q) (v1 : Int32) (v2 : Int32) (v3 : Int32) {res : Q} {out : Option Value × AHeap} (h : j_unlink_b30 s v1 v2 v3 = some res) (hk : out = (none, (W1 res R))) : Eval own_P 13 30 [some (.ref 0), some (.int v1), some (.int v2), some (.int v3), none] [] (W1 s R) out := by
  rw [j_unlink_b30] at h
  refine Eval.aload_n rfl rfl ?_
  refine Eval.getfield rfl rfl own_g1_tail ?_
  refine Eval.iconst (x := (0 : Int32)) rfl rfl ?_
  obtain ⟨hb150, h⟩ := ite_some h
  refine Eval.iaload rfl own_a1_tail hb150 ?_
  refine Eval.iload_n rfl rfl ?_
  by_cases hc152 : (rd s.f_tail (0 : Int32)) = v1
  · rw [if_pos hc152] at h
    refine Eval.icmpF rfl (teq hc152).2 ?_
    refine Eval.aload_n rfl rfl ?_
    refine Eval.getfield rfl rfl own_g1_tail ?_
    refine Eval.iconst (x := (0 : Int32)) rfl rfl ?_
    refine Eval.iload_n rfl rfl ?_
    obtain ⟨hb153, h⟩ := ite_some h
    refine Eval.iastore rfl rfl own_a1_tail hb153 own_s1_tail ?_
    refine Eval.heap own_mk1 ?_
    refine Eval.weak (L' := [some (.ref 0), some (.int v1), some (.int v2), none, none]) ⟨_, _, rfl, Or.inr rfl, _, _, rfl, Or.inr rfl, _, _, rfl, Or.inr rfl, _, _, rfl, Or.inl rfl, _, _, rfl, Or.inl rfl, rfl⟩ ?_
    exact ev_j_unlink_b47 R (Q.mk s.f_st s.f_lk s.f_tmo s.f_spin s.f_nxt0 s.f_prv1 s.f_head (wr s.f_tail (0 : Int32) v3) s.f_len s.f_ent s.f_aband s.f_log s.f_hist s.f_n s.f_clk) v1 v2 h hk
  · rw [if_neg hc152] at h
    refine Eval.icmpT (t := 47) rfl rfl (feq hc152).2 ?_
    refine Eval.weak (L' := [some (.ref 0), some (.int v1), some (.int v2), none, none]) ⟨_, _, rfl, Or.inr rfl, _, _, rfl, Or.inr rfl, _, _, rfl, Or.inr rfl, _, _, rfl, Or.inl rfl, _, _, rfl, Or.inl rfl, rfl⟩ ?_
    exact ev_j_unlink_b47 R s v1 v2 h hk
abbrev j_successorClh_l2_K (R : AHeap) (s : Q) (res : (Int32) ⊕ (Unit)) (out : Option Value × AHeap) : Prop := Sum.elim (fun res => Eval own_P 14 44 [none, none, some (.int res)] [] (W1 s R) out) (fun res => Eval own_P 14 52 [none, none, none] [] (W1 s R) out) res

def j_successorClh_b46 (go_ : Q → Int32 → Int32 → Option ((Int32) ⊕ (Unit))) (s : Q) (v1 : Int32) (v2 : Int32) : Option ((Int32) ⊕ (Unit)) := (go_ s v1 (v2 + (1 : Int32)))
set_option maxRecDepth 100000 in
theorem ev_j_successorClh_b46 (R : AHeap) (go_ : Q → Int32 → Int32 → Option ((Int32) ⊕ (Unit))) (hrec : ∀ (s : Q) (v1 : Int32) (v2 : Int32) {res : (Int32) ⊕ (Unit)} {out : Option Value × AHeap}, go_ s v1 v2 = some res → j_successorClh_l2_K R s res out → Eval own_P 14 2 [some (.ref 0), some (.int v1), some (.int v2)] [] (W1 s R) out) (s : Q) (v1 : Int32) (v2 : Int32) {res : (Int32) ⊕ (Unit)} {out : Option Value × AHeap} (h : j_successorClh_b46 go_ s v1 v2 = some res) (hk : j_successorClh_l2_K R s res out) : Eval own_P 14 46 [some (.ref 0), some (.int v1), some (.int v2)] [] (W1 s R) out := by
  rw [j_successorClh_b46] at h
  refine Eval.iinc (L' := [some (.ref 0), some (.int v1), some (.int (v2 + (1 : Int32)))]) rfl rfl rfl ?_
  refine Eval.goto (t := 2) rfl rfl ?_
  exact hrec _ _ _ h hk
def j_successorClh_l2 : Nat → Q → Int32 → Int32 → Option ((Int32) ⊕ (Unit))
  | 0, _, _, _ => none
  | n + 1, s, v1, v2 => (if v2 < s.f_n then (if v2 = v1 then (j_successorClh_b46 (j_successorClh_l2 n) s v1 v2) else (if inb s.f_lk.length v2 = true then (if (rd s.f_lk v2) = (1 : Int32) then (if inb s.f_st.length v2 = true then (if (rd s.f_st v2) = (0 : Int32) then (j_successorClh_b46 (j_successorClh_l2 n) s v1 v2) else (if inb s.f_prv1.length v2 = true then (if (rd s.f_prv1 v2) = v1 then some (.inl (v2)) else (j_successorClh_b46 (j_successorClh_l2 n) s v1 v2)) else none)) else none) else (j_successorClh_b46 (j_successorClh_l2 n) s v1 v2)) else none)) else some (.inr ()))
set_option maxRecDepth 100000 in
theorem ev_j_successorClh_l2 (R : AHeap) : ∀ (n : Nat) (s : Q) (v1 : Int32) (v2 : Int32) {res : (Int32) ⊕ (Unit)} {out : Option Value × AHeap}, j_successorClh_l2 n s v1 v2 = some res → j_successorClh_l2_K R s res out → Eval own_P 14 2 [some (.ref 0), some (.int v1), some (.int v2)] [] (W1 s R) out := by
  intro n
  induction n with
  | zero => intro _ _ _ res out h hk; cases h
  | succ n hrec =>
    intro s v1 v2 res out h hk
    rw [j_successorClh_l2] at h
    refine Eval.iload_n rfl rfl ?_
    refine Eval.aload_n rfl rfl ?_
    refine Eval.getfield rfl rfl own_g1_n ?_
    by_cases hc160 : v2 < s.f_n
    · rw [if_pos hc160] at h
      refine Eval.icmpF rfl (tlt hc160).2.1 ?_
      refine Eval.iload_n rfl rfl ?_
      refine Eval.iload_n rfl rfl ?_
      by_cases hc161 : v2 = v1
      · rw [if_pos hc161] at h
        refine Eval.icmpT (t := 46) rfl rfl (teq hc161).1 ?_
        exact ev_j_successorClh_b46 R _ hrec s v1 v2 h hk
      · rw [if_neg hc161] at h
        refine Eval.icmpF rfl (feq hc161).1 ?_
        refine Eval.aload_n rfl rfl ?_
        refine Eval.getfield rfl rfl own_g1_lk ?_
        refine Eval.iload_n rfl rfl ?_
        obtain ⟨hb162, h⟩ := ite_some h
        refine Eval.iaload rfl own_a1_lk hb162 ?_
        refine Eval.iconst (x := (1 : Int32)) rfl rfl ?_
        by_cases hc163 : (rd s.f_lk v2) = (1 : Int32)
        · rw [if_pos hc163] at h
          refine Eval.icmpF rfl (teq hc163).2 ?_
          refine Eval.aload_n rfl rfl ?_
          refine Eval.getfield rfl rfl own_g1_st ?_
          refine Eval.iload_n rfl rfl ?_
          obtain ⟨hb164, h⟩ := ite_some h
          refine Eval.iaload rfl own_a1_st hb164 ?_
          by_cases hc165 : (rd s.f_st v2) = (0 : Int32)
          · rw [if_pos hc165] at h
            refine Eval.ifT (t := 46) rfl rfl (teq hc165).1 ?_
            exact ev_j_successorClh_b46 R _ hrec s v1 v2 h hk
          · rw [if_neg hc165] at h
            refine Eval.ifF rfl (feq hc165).1 ?_
            refine Eval.aload_n rfl rfl ?_
            refine Eval.getfield rfl rfl own_g1_prv1 ?_
            refine Eval.iload_n rfl rfl ?_
            obtain ⟨hb166, h⟩ := ite_some h
            refine Eval.iaload rfl own_a1_prv1 hb166 ?_
            refine Eval.iload_n rfl rfl ?_
            by_cases hc167 : (rd s.f_prv1 v2) = v1
            · rw [if_pos hc167] at h
              refine Eval.icmpF rfl (teq hc167).2 ?_
              cases h
              refine Eval.weak (L' := [none, none, some (.int v2)]) ⟨_, _, rfl, Or.inl rfl, _, _, rfl, Or.inl rfl, _, _, rfl, Or.inr rfl, rfl⟩ ?_
              exact hk
            · rw [if_neg hc167] at h
              refine Eval.icmpT (t := 46) rfl rfl (feq hc167).2 ?_
              exact ev_j_successorClh_b46 R _ hrec s v1 v2 h hk
        · rw [if_neg hc163] at h
          refine Eval.icmpT (t := 46) rfl rfl (feq hc163).2 ?_
          exact ev_j_successorClh_b46 R _ hrec s v1 v2 h hk
    · rw [if_neg hc160] at h
      refine Eval.icmpT (t := 52) rfl rfl (flt hc160).2.1 ?_
      cases h
      refine Eval.weak (L' := [none, none, none]) ⟨_, _, rfl, Or.inl rfl, _, _, rfl, Or.inl rfl, _, _, rfl, Or.inl rfl, rfl⟩ ?_
      exact hk
def j_successorClh (s : Q) (v1 : Int32) : Option (Int32) := ((j_successorClh_l2 3000 s v1 (0 : Int32)).bind fun p168 => Sum.elim (fun p170 => some (p170)) (fun p171 => some ((-1 : Int32))) p168)
set_option maxRecDepth 100000 in
theorem ev_j_successorClh (R : AHeap) (s : Q) (v1 : Int32) {res : Int32} {out : Option Value × AHeap} (h : j_successorClh s v1 = some res) (hk : out = (some (.int res), (W1 s R))) : Eval own_P 14 0 [some (.ref 0), some (.int v1), none] [] (W1 s R) out := by
  rw [j_successorClh] at h
  refine Eval.iconst (x := (0 : Int32)) rfl rfl ?_
  refine Eval.istore_n (L' := [some (.ref 0), some (.int v1), some (.int (0 : Int32))]) rfl rfl ?_
  obtain ⟨p168, hq169, h⟩ := bind_some h
  rcases p168 with p170 | p171
  · dsimp only [Sum.elim] at h
    refine ev_j_successorClh_l2 R _ s v1 (0 : Int32) hq169 ?_
    show Eval own_P 14 44 [none, none, some (.int p170)] [] (W1 s R) out
    refine Eval.iload_n rfl rfl ?_
    cases h
    subst hk
    exact Eval.ret rfl rfl
  · dsimp only [Sum.elim] at h
    refine ev_j_successorClh_l2 R _ s v1 (0 : Int32) hq169 ?_
    show Eval own_P 14 52 [none, none, none] [] (W1 s R) out
    refine Eval.iconst (x := (-1 : Int32)) rfl rfl ?_
    cases h
    subst hk
    exact Eval.ret rfl rfl
def j_unlink_b105 (s : Q) (v1 : Int32) (v2 : Int32) : Option (Q) := (if inb s.f_prv1.length v1 = true then (j_unlink_b112 (Q.mk s.f_st s.f_lk s.f_tmo s.f_spin s.f_nxt0 (wr s.f_prv1 v1 (-1 : Int32)) s.f_head s.f_tail s.f_len s.f_ent s.f_aband s.f_log s.f_hist s.f_n s.f_clk) v2) else none)
theorem ln_j_unlink_b105 {s : Q} {v1 : Int32} {v2 : Int32} {res : Q} (h : j_unlink_b105 s v1 v2 = some res) : Q.len res = Q.len s := by
  rw [j_unlink_b105] at h
  obtain ⟨hb180, h⟩ := ite_some h
  exact Eq.trans (ln_j_unlink_b112 h) (Eq.trans (show Q.len (Q.mk s.f_st s.f_lk s.f_tmo s.f_spin s.f_nxt0 (wr s.f_prv1 v1 (-1 : Int32)) s.f_head s.f_tail s.f_len s.f_ent s.f_aband s.f_log s.f_hist s.f_n s.f_clk) = Q.len s from own_lenmk.trans (by first | (simp only [len_wr, len_wrL] <;> rfl) | rfl)) rfl)
set_option maxRecDepth 100000 in
theorem ev_j_unlink_b105 (R : AHeap) (s : Q) (v1 : Int32) (v2 : Int32) {res : Q} {out : Option Value × AHeap} (h : j_unlink_b105 s v1 v2 = some res) (hk : out = (none, (W1 res R))) : Eval own_P 13 105 [some (.ref 0), some (.int v1), some (.int v2), none, none] [] (W1 s R) out := by
  rw [j_unlink_b105] at h
  refine Eval.aload_n rfl rfl ?_
  refine Eval.getfield rfl rfl own_g1_prv1 ?_
  refine Eval.iload_n rfl rfl ?_
  refine Eval.iconst (x := (-1 : Int32)) rfl rfl ?_
  obtain ⟨hb180, h⟩ := ite_some h
  refine Eval.iastore rfl rfl own_a1_prv1 hb180 own_s1_prv1 ?_
  refine Eval.heap own_mk1 ?_
  refine Eval.weak (L' := [some (.ref 0), none, some (.int v2), none, none]) ⟨_, _, rfl, Or.inr rfl, _, _, rfl, Or.inl rfl, _, _, rfl, Or.inr rfl, _, _, rfl, Or.inl rfl, _, _, rfl, Or.inl rfl, rfl⟩ ?_
  exact ev_j_unlink_b112 R (Q.mk s.f_st s.f_lk s.f_tmo s.f_spin s.f_nxt0 (wr s.f_prv1 v1 (-1 : Int32)) s.f_head s.f_tail s.f_len s.f_ent s.f_aband s.f_log s.f_hist s.f_n s.f_clk) v2 h hk
def j_unlink_b88 (s : Q) (v1 : Int32) (v2 : Int32) (v3 : Int32) : Option (Q) := (if inb s.f_tail.length (1 : Int32) = true then (if (rd s.f_tail (1 : Int32)) = v1 then (if inb s.f_tail.length (1 : Int32) = true then (j_unlink_b105 (Q.mk s.f_st s.f_lk s.f_tmo s.f_spin s.f_nxt0 s.f_prv1 s.f_head (wr s.f_tail (1 : Int32) v3) s.f_len s.f_ent s.f_aband s.f_log s.f_hist s.f_n s.f_clk) v1 v2) else none) else (j_unlink_b105 s v1 v2)) else none)
theorem ln_j_unlink_b88 {s : Q} {v1 : Int32} {v2 : Int32} {v3 : Int32} {res : Q} (h : j_unlink_b88 s v1 v2 v3 = some res) : Q.len res = Q.len s := by
  rw [j_unlink_b88] at h
  obtain ⟨hb176, h⟩ := ite_some h
  by_cases hc178 : (rd s.f_tail (1 : Int32)) = v1
  · rw [if_pos hc178] at h
    obtain ⟨hb179, h⟩ := ite_some h
    exact Eq.trans (ln_j_unlink_b105 h) (Eq.trans (show Q.len (Q.mk s.f_st s.f_lk s.f_tmo s.f_spin s.f_nxt0 s.f_prv1 s.f_head (wr s.f_tail (1 : Int32) v3) s.f_len s.f_ent s.f_aband s.f_log s.f_hist s.f_n s.f_clk) = Q.len s from own_lenmk.trans (by first | (simp only [len_wr, len_wrL] <;> rfl) | rfl)) rfl)
  · rw [if_neg hc178] at h
    exact Eq.trans (ln_j_unlink_b105 h) rfl
set_option maxRecDepth 100000 in
theorem ev_j_unlink_b88 (R : AHeap) (s : Q) (v1 : Int32) (v2 : Int32) (v3 : Int32) {res : Q} {out : Option Value × AHeap} (h : j_unlink_b88 s v1 v2 v3 = some res) (hk : out = (none, (W1 res R))) : Eval own_P 13 88 [some (.ref 0), some (.int v1), some (.int v2), some (.int v3), none] [] (W1 s R) out := by
  rw [j_unlink_b88] at h
  refine Eval.aload_n rfl rfl ?_
  refine Eval.getfield rfl rfl own_g1_tail ?_
  refine Eval.iconst (x := (1 : Int32)) rfl rfl ?_
  obtain ⟨hb176, h⟩ := ite_some h
  refine Eval.iaload rfl own_a1_tail hb176 ?_
  refine Eval.iload_n rfl rfl ?_
  by_cases hc178 : (rd s.f_tail (1 : Int32)) = v1
  · rw [if_pos hc178] at h
    refine Eval.icmpF rfl (teq hc178).2 ?_
    refine Eval.aload_n rfl rfl ?_
    refine Eval.getfield rfl rfl own_g1_tail ?_
    refine Eval.iconst (x := (1 : Int32)) rfl rfl ?_
    refine Eval.iload_n rfl rfl ?_
    obtain ⟨hb179, h⟩ := ite_some h
    refine Eval.iastore rfl rfl own_a1_tail hb179 own_s1_tail ?_
    refine Eval.heap own_mk1 ?_
    refine Eval.weak (L' := [some (.ref 0), some (.int v1), some (.int v2), none, none]) ⟨_, _, rfl, Or.inr rfl, _, _, rfl, Or.inr rfl, _, _, rfl, Or.inr rfl, _, _, rfl, Or.inl rfl, _, _, rfl, Or.inl rfl, rfl⟩ ?_
    exact ev_j_unlink_b105 R (Q.mk s.f_st s.f_lk s.f_tmo s.f_spin s.f_nxt0 s.f_prv1 s.f_head (wr s.f_tail (1 : Int32) v3) s.f_len s.f_ent s.f_aband s.f_log s.f_hist s.f_n s.f_clk) v1 v2 h hk
  · rw [if_neg hc178] at h
    refine Eval.icmpT (t := 105) rfl rfl (feq hc178).2 ?_
    refine Eval.weak (L' := [some (.ref 0), some (.int v1), some (.int v2), none, none]) ⟨_, _, rfl, Or.inr rfl, _, _, rfl, Or.inr rfl, _, _, rfl, Or.inr rfl, _, _, rfl, Or.inl rfl, _, _, rfl, Or.inl rfl, rfl⟩ ?_
    exact ev_j_unlink_b105 R s v1 v2 h hk
def j_unlink (s : Q) (v1 : Int32) (v2 : Int32) : Option (Q) := (if v2 = (0 : Int32) then ((j_predecessorMcs s v1).bind fun p146 => (if (j_inNodes p146) = (0 : Int32) then (j_unlink_b30 s v1 v2 p146) else (if inb s.f_nxt0.length v1 = true then (if inb s.f_nxt0.length p146 = true then (j_unlink_b30 (Q.mk s.f_st s.f_lk s.f_tmo s.f_spin (wr s.f_nxt0 p146 (rd s.f_nxt0 v1)) s.f_prv1 s.f_head s.f_tail s.f_len s.f_ent s.f_aband s.f_log s.f_hist s.f_n s.f_clk) v1 v2 p146) else none) else none))) else (if inb s.f_prv1.length v1 = true then ((j_successorClh s v1).bind fun p172 => (if (j_inNodes p172) = (0 : Int32) then (j_unlink_b88 s v1 v2 (rd s.f_prv1 v1)) else (if inb s.f_prv1.length p172 = true then (j_unlink_b88 (Q.mk s.f_st s.f_lk s.f_tmo s.f_spin s.f_nxt0 (wr s.f_prv1 p172 (rd s.f_prv1 v1)) s.f_head s.f_tail s.f_len s.f_ent s.f_aband s.f_log s.f_hist s.f_n s.f_clk) v1 v2 (rd s.f_prv1 v1)) else none))) else none))
theorem ln_j_unlink {s : Q} {v1 : Int32} {v2 : Int32} {res : Q} (h : j_unlink s v1 v2 = some res) : Q.len res = Q.len s := by
  rw [j_unlink] at h
  by_cases hc133 : v2 = (0 : Int32)
  · rw [if_pos hc133] at h
    obtain ⟨p146, hq147, h⟩ := bind_some h
    by_cases hc149 : (j_inNodes p146) = (0 : Int32)
    · rw [if_pos hc149] at h
      exact Eq.trans (ln_j_unlink_b30 h) rfl
    · rw [if_neg hc149] at h
      obtain ⟨hb157, h⟩ := ite_some h
      obtain ⟨hb158, h⟩ := ite_some h
      exact Eq.trans (ln_j_unlink_b30 h) (Eq.trans (show Q.len (Q.mk s.f_st s.f_lk s.f_tmo s.f_spin (wr s.f_nxt0 p146 (rd s.f_nxt0 v1)) s.f_prv1 s.f_head s.f_tail s.f_len s.f_ent s.f_aband s.f_log s.f_hist s.f_n s.f_clk) = Q.len s from own_lenmk.trans (by first | (simp only [len_wr, len_wrL] <;> rfl) | rfl)) rfl)
  · rw [if_neg hc133] at h
    obtain ⟨hb159, h⟩ := ite_some h
    obtain ⟨p172, hq173, h⟩ := bind_some h
    by_cases hc175 : (j_inNodes p172) = (0 : Int32)
    · rw [if_pos hc175] at h
      exact Eq.trans (ln_j_unlink_b88 h) rfl
    · rw [if_neg hc175] at h
      obtain ⟨hb181, h⟩ := ite_some h
      exact Eq.trans (ln_j_unlink_b88 h) (Eq.trans (show Q.len (Q.mk s.f_st s.f_lk s.f_tmo s.f_spin s.f_nxt0 (wr s.f_prv1 p172 (rd s.f_prv1 v1)) s.f_head s.f_tail s.f_len s.f_ent s.f_aband s.f_log s.f_hist s.f_n s.f_clk) = Q.len s from own_lenmk.trans (by first | (simp only [len_wr, len_wrL] <;> rfl) | rfl)) rfl)
set_option maxRecDepth 100000 in
theorem ev_j_unlink (R : AHeap) (s : Q) (v1 : Int32) (v2 : Int32) {res : Q} {out : Option Value × AHeap} (h : j_unlink s v1 v2 = some res) (hk : out = (none, (W1 res R))) : Eval own_P 13 0 [some (.ref 0), some (.int v1), some (.int v2), none, none] [] (W1 s R) out := by
  rw [j_unlink] at h
  refine Eval.iload_n rfl rfl ?_
  by_cases hc133 : v2 = (0 : Int32)
  · rw [if_pos hc133] at h
    refine Eval.ifF rfl (teq hc133).2 ?_
    refine Eval.aload_n rfl rfl ?_
    refine Eval.iload_n rfl rfl ?_
    obtain ⟨p146, hq147, h⟩ := bind_some h
    refine Eval.callI (rest := []) (x := p146) (H1 := (W1 s R)) rfl rfl (ev_j_predecessorMcs R s v1 hq147 rfl) ?_
    refine Eval.istore_n (L' := [some (.ref 0), some (.int v1), some (.int v2), some (.int p146), none]) rfl rfl ?_
    refine Eval.aload_n rfl rfl ?_
    refine Eval.iload_n rfl rfl ?_
    refine Eval.callI (rest := []) (x := (j_inNodes p146)) (H1 := (W1 s R)) rfl rfl (ev_j_inNodes (W1 s R) 0 p146 rfl rfl) ?_
    by_cases hc149 : (j_inNodes p146) = (0 : Int32)
    · rw [if_pos hc149] at h
      refine Eval.ifT (t := 30) rfl rfl (teq hc149).1 ?_
      exact ev_j_unlink_b30 R s v1 v2 p146 h hk
    · rw [if_neg hc149] at h
      refine Eval.ifF rfl (feq hc149).1 ?_
      refine Eval.aload_n rfl rfl ?_
      refine Eval.getfield rfl rfl own_g1_nxt0 ?_
      refine Eval.iload_n rfl rfl ?_
      refine Eval.aload_n rfl rfl ?_
      refine Eval.getfield rfl rfl own_g1_nxt0 ?_
      refine Eval.iload_n rfl rfl ?_
      obtain ⟨hb157, h⟩ := ite_some h
      refine Eval.iaload rfl own_a1_nxt0 hb157 ?_
      obtain ⟨hb158, h⟩ := ite_some h
      refine Eval.iastore rfl rfl own_a1_nxt0 hb158 own_s1_nxt0 ?_
      refine Eval.heap own_mk1 ?_
      exact ev_j_unlink_b30 R (Q.mk s.f_st s.f_lk s.f_tmo s.f_spin (wr s.f_nxt0 p146 (rd s.f_nxt0 v1)) s.f_prv1 s.f_head s.f_tail s.f_len s.f_ent s.f_aband s.f_log s.f_hist s.f_n s.f_clk) v1 v2 p146 h hk
  · rw [if_neg hc133] at h
    refine Eval.ifT (t := 57) rfl rfl (feq hc133).2 ?_
    refine Eval.aload_n rfl rfl ?_
    refine Eval.getfield rfl rfl own_g1_prv1 ?_
    refine Eval.iload_n rfl rfl ?_
    obtain ⟨hb159, h⟩ := ite_some h
    refine Eval.iaload rfl own_a1_prv1 hb159 ?_
    refine Eval.istore_n (L' := [some (.ref 0), some (.int v1), some (.int v2), some (.int (rd s.f_prv1 v1)), none]) rfl rfl ?_
    refine Eval.aload_n rfl rfl ?_
    refine Eval.iload_n rfl rfl ?_
    obtain ⟨p172, hq173, h⟩ := bind_some h
    refine Eval.callI (rest := []) (x := p172) (H1 := (W1 s R)) rfl rfl (ev_j_successorClh R s v1 hq173 rfl) ?_
    refine Eval.istore (L' := [some (.ref 0), some (.int v1), some (.int v2), some (.int (rd s.f_prv1 v1)), some (.int p172)]) rfl rfl ?_
    refine Eval.aload_n rfl rfl ?_
    refine Eval.iload rfl rfl ?_
    refine Eval.callI (rest := []) (x := (j_inNodes p172)) (H1 := (W1 s R)) rfl rfl (ev_j_inNodes (W1 s R) 0 p172 rfl rfl) ?_
    by_cases hc175 : (j_inNodes p172) = (0 : Int32)
    · rw [if_pos hc175] at h
      refine Eval.ifT (t := 88) rfl rfl (teq hc175).1 ?_
      refine Eval.weak (L' := [some (.ref 0), some (.int v1), some (.int v2), some (.int (rd s.f_prv1 v1)), none]) ⟨_, _, rfl, Or.inr rfl, _, _, rfl, Or.inr rfl, _, _, rfl, Or.inr rfl, _, _, rfl, Or.inr rfl, _, _, rfl, Or.inl rfl, rfl⟩ ?_
      exact ev_j_unlink_b88 R s v1 v2 (rd s.f_prv1 v1) h hk
    · rw [if_neg hc175] at h
      refine Eval.ifF rfl (feq hc175).1 ?_
      refine Eval.aload_n rfl rfl ?_
      refine Eval.getfield rfl rfl own_g1_prv1 ?_
      refine Eval.iload rfl rfl ?_
      refine Eval.iload_n rfl rfl ?_
      obtain ⟨hb181, h⟩ := ite_some h
      refine Eval.iastore rfl rfl own_a1_prv1 hb181 own_s1_prv1 ?_
      refine Eval.heap own_mk1 ?_
      refine Eval.weak (L' := [some (.ref 0), some (.int v1), some (.int v2), some (.int (rd s.f_prv1 v1)), none]) ⟨_, _, rfl, Or.inr rfl, _, _, rfl, Or.inr rfl, _, _, rfl, Or.inr rfl, _, _, rfl, Or.inr rfl, _, _, rfl, Or.inl rfl, rfl⟩ ?_
      exact ev_j_unlink_b88 R (Q.mk s.f_st s.f_lk s.f_tmo s.f_spin s.f_nxt0 (wr s.f_prv1 p172 (rd s.f_prv1 v1)) s.f_head s.f_tail s.f_len s.f_ent s.f_aband s.f_log s.f_hist s.f_n s.f_clk) v1 v2 (rd s.f_prv1 v1) h hk
def j_spinOnce (s : Q) (v1 : Int32) (v2 : Int32) : Option (Int32 × Q) := (if inb s.f_spin.length v1 = true then (if inb s.f_spin.length v1 = true then (if inb s.f_tmo.length v1 = true then (if (0 : Int32) < (rd s.f_tmo v1) then (if inb (wr s.f_spin v1 ((rd s.f_spin v1) + (1 : Int32))).length v1 = true then (if inb s.f_tmo.length v1 = true then (if (rd (wr s.f_spin v1 ((rd s.f_spin v1) + (1 : Int32))) v1) < (rd s.f_tmo v1) then some ((1 : Int32), (Q.mk s.f_st s.f_lk s.f_tmo (wr s.f_spin v1 ((rd s.f_spin v1) + (1 : Int32))) s.f_nxt0 s.f_prv1 s.f_head s.f_tail s.f_len s.f_ent s.f_aband s.f_log s.f_hist s.f_n s.f_clk)) else ((j_unlink (Q.mk s.f_st s.f_lk s.f_tmo (wr s.f_spin v1 ((rd s.f_spin v1) + (1 : Int32))) s.f_nxt0 s.f_prv1 s.f_head s.f_tail s.f_len s.f_ent s.f_aband s.f_log s.f_hist s.f_n s.f_clk) v1 v2).bind fun p182 => (if inb p182.f_st.length v1 = true then (if inb p182.f_lk.length v1 = true then (if inb p182.f_aband.length v2 = true then (if inb p182.f_aband.length v2 = true then some ((4 : Int32), (Q.mk (wr p182.f_st v1 (0 : Int32)) (wr p182.f_lk v1 (-1 : Int32)) p182.f_tmo p182.f_spin p182.f_nxt0 p182.f_prv1 p182.f_head p182.f_tail p182.f_len p182.f_ent (wr p182.f_aband v2 ((rd p182.f_aband v2) + (1 : Int32))) p182.f_log p182.f_hist p182.f_n p182.f_clk)) else none) else none) else none) else none))) else none) else none) else some ((1 : Int32), (Q.mk s.f_st s.f_lk s.f_tmo (wr s.f_spin v1 ((rd s.f_spin v1) + (1 : Int32))) s.f_nxt0 s.f_prv1 s.f_head s.f_tail s.f_len s.f_ent s.f_aband s.f_log s.f_hist s.f_n s.f_clk))) else none) else none) else none)
theorem ln_j_spinOnce {s : Q} {v1 : Int32} {v2 : Int32} {res : Int32 × Q} (h : j_spinOnce s v1 v2 = some res) : Q.len res.2 = Q.len s := by
  rw [j_spinOnce] at h
  obtain ⟨hb125, h⟩ := ite_some h
  obtain ⟨hb126, h⟩ := ite_some h
  obtain ⟨hb127, h⟩ := ite_some h
  by_cases hc128 : (0 : Int32) < (rd s.f_tmo v1)
  · rw [if_pos hc128] at h
    obtain ⟨hb129, h⟩ := ite_some h
    obtain ⟨hb130, h⟩ := ite_some h
    by_cases hc131 : (rd (wr s.f_spin v1 ((rd s.f_spin v1) + (1 : Int32))) v1) < (rd s.f_tmo v1)
    · rw [if_pos hc131] at h
      have hr0 := Option.some.inj h
      subst hr0
      show Q.len (Q.mk s.f_st s.f_lk s.f_tmo (wr s.f_spin v1 ((rd s.f_spin v1) + (1 : Int32))) s.f_nxt0 s.f_prv1 s.f_head s.f_tail s.f_len s.f_ent s.f_aband s.f_log s.f_hist s.f_n s.f_clk) = _
      exact (Eq.trans (show Q.len (Q.mk s.f_st s.f_lk s.f_tmo (wr s.f_spin v1 ((rd s.f_spin v1) + (1 : Int32))) s.f_nxt0 s.f_prv1 s.f_head s.f_tail s.f_len s.f_ent s.f_aband s.f_log s.f_hist s.f_n s.f_clk) = Q.len s from own_lenmk.trans (by first | (simp only [len_wr, len_wrL] <;> rfl) | rfl)) rfl)
    · rw [if_neg hc131] at h
      obtain ⟨p182, hq183, h⟩ := bind_some h
      have hl184 := (ln_j_unlink hq183).trans (Eq.trans (show Q.len (Q.mk s.f_st s.f_lk s.f_tmo (wr s.f_spin v1 ((rd s.f_spin v1) + (1 : Int32))) s.f_nxt0 s.f_prv1 s.f_head s.f_tail s.f_len s.f_ent s.f_aband s.f_log s.f_hist s.f_n s.f_clk) = Q.len s from own_lenmk.trans (by first | (simp only [len_wr, len_wrL] <;> rfl) | rfl)) rfl)
      obtain ⟨hb185, h⟩ := ite_some h
      obtain ⟨hb186, h⟩ := ite_some h
      obtain ⟨hb187, h⟩ := ite_some h
      obtain ⟨hb188, h⟩ := ite_some h
      have hr0 := Option.some.inj h
      subst hr0
      show Q.len (Q.mk (wr p182.f_st v1 (0 : Int32)) (wr p182.f_lk v1 (-1 : Int32)) p182.f_tmo p182.f_spin p182.f_nxt0 p182.f_prv1 p182.f_head p182.f_tail p182.f_len p182.f_ent (wr p182.f_aband v2 ((rd p182.f_aband v2) + (1 : Int32))) p182.f_log p182.f_hist p182.f_n p182.f_clk) = _
      exact (Eq.trans (show Q.len (Q.mk (wr p182.f_st v1 (0 : Int32)) (wr p182.f_lk v1 (-1 : Int32)) p182.f_tmo p182.f_spin p182.f_nxt0 p182.f_prv1 p182.f_head p182.f_tail p182.f_len p182.f_ent (wr p182.f_aband v2 ((rd p182.f_aband v2) + (1 : Int32))) p182.f_log p182.f_hist p182.f_n p182.f_clk) = Q.len p182 from own_lenmk.trans (by first | (simp only [len_wr, len_wrL] <;> rfl) | rfl)) hl184)
  · rw [if_neg hc128] at h
    have hr0 := Option.some.inj h
    subst hr0
    show Q.len (Q.mk s.f_st s.f_lk s.f_tmo (wr s.f_spin v1 ((rd s.f_spin v1) + (1 : Int32))) s.f_nxt0 s.f_prv1 s.f_head s.f_tail s.f_len s.f_ent s.f_aband s.f_log s.f_hist s.f_n s.f_clk) = _
    exact (Eq.trans (show Q.len (Q.mk s.f_st s.f_lk s.f_tmo (wr s.f_spin v1 ((rd s.f_spin v1) + (1 : Int32))) s.f_nxt0 s.f_prv1 s.f_head s.f_tail s.f_len s.f_ent s.f_aband s.f_log s.f_hist s.f_n s.f_clk) = Q.len s from own_lenmk.trans (by first | (simp only [len_wr, len_wrL] <;> rfl) | rfl)) rfl)
set_option maxRecDepth 100000 in
theorem ev_j_spinOnce (R : AHeap) (s : Q) (v1 : Int32) (v2 : Int32) {res : Int32 × Q} {out : Option Value × AHeap} (h : j_spinOnce s v1 v2 = some res) (hk : out = (some (.int res.1), (W1 res.2 R))) : Eval own_P 12 0 [some (.ref 0), some (.int v1), some (.int v2)] [] (W1 s R) out := by
  rw [j_spinOnce] at h
  refine Eval.aload_n rfl rfl ?_
  refine Eval.getfield rfl rfl own_g1_spin ?_
  refine Eval.iload_n rfl rfl ?_
  refine Eval.aload_n rfl rfl ?_
  refine Eval.getfield rfl rfl own_g1_spin ?_
  refine Eval.iload_n rfl rfl ?_
  obtain ⟨hb125, h⟩ := ite_some h
  refine Eval.iaload rfl own_a1_spin hb125 ?_
  refine Eval.iconst (x := (1 : Int32)) rfl rfl ?_
  refine Eval.iadd rfl ?_
  obtain ⟨hb126, h⟩ := ite_some h
  refine Eval.iastore rfl rfl own_a1_spin hb126 own_s1_spin ?_
  refine Eval.aload_n rfl rfl ?_
  refine Eval.getfield rfl rfl own_g1_tmo ?_
  refine Eval.iload_n rfl rfl ?_
  obtain ⟨hb127, h⟩ := ite_some h
  refine Eval.iaload rfl own_a1_tmo hb127 ?_
  by_cases hc128 : (0 : Int32) < (rd s.f_tmo v1)
  · rw [if_pos hc128] at h
    refine Eval.ifF rfl (tlt hc128).2.2.2 ?_
    refine Eval.aload_n rfl rfl ?_
    refine Eval.getfield rfl rfl own_g1_spin ?_
    refine Eval.iload_n rfl rfl ?_
    obtain ⟨hb129, h⟩ := ite_some h
    refine Eval.iaload rfl own_a1_spin hb129 ?_
    refine Eval.aload_n rfl rfl ?_
    refine Eval.getfield rfl rfl own_g1_tmo ?_
    refine Eval.iload_n rfl rfl ?_
    obtain ⟨hb130, h⟩ := ite_some h
    refine Eval.iaload rfl own_a1_tmo hb130 ?_
    by_cases hc131 : (rd (wr s.f_spin v1 ((rd s.f_spin v1) + (1 : Int32))) v1) < (rd s.f_tmo v1)
    · rw [if_pos hc131] at h
      refine Eval.icmpT (t := 74) rfl rfl (tlt hc131).1 ?_
      refine Eval.iconst (x := (1 : Int32)) rfl rfl ?_
      cases h
      subst hk
      exact Eval.retH own_mk1 rfl rfl
    · rw [if_neg hc131] at h
      refine Eval.icmpF rfl (flt hc131).1 ?_
      refine Eval.aload_n rfl rfl ?_
      refine Eval.iload_n rfl rfl ?_
      refine Eval.iload_n rfl rfl ?_
      obtain ⟨p182, hq183, h⟩ := bind_some h
      refine Eval.callN (rest := []) (H1 := (W1 p182 R)) rfl rfl (Eval.heap own_mk1 (ev_j_unlink R (Q.mk s.f_st s.f_lk s.f_tmo (wr s.f_spin v1 ((rd s.f_spin v1) + (1 : Int32))) s.f_nxt0 s.f_prv1 s.f_head s.f_tail s.f_len s.f_ent s.f_aband s.f_log s.f_hist s.f_n s.f_clk) v1 v2 hq183 rfl)) ?_
      refine Eval.aload_n rfl rfl ?_
      refine Eval.getfield rfl rfl own_g1_st ?_
      refine Eval.iload_n rfl rfl ?_
      refine Eval.iconst (x := (0 : Int32)) rfl rfl ?_
      obtain ⟨hb185, h⟩ := ite_some h
      refine Eval.iastore rfl rfl own_a1_st hb185 own_s1_st ?_
      refine Eval.aload_n rfl rfl ?_
      refine Eval.getfield rfl rfl own_g1_lk ?_
      refine Eval.iload_n rfl rfl ?_
      refine Eval.iconst (x := (-1 : Int32)) rfl rfl ?_
      obtain ⟨hb186, h⟩ := ite_some h
      refine Eval.iastore rfl rfl own_a1_lk hb186 own_s1_lk ?_
      refine Eval.aload_n rfl rfl ?_
      refine Eval.getfield rfl rfl own_g1_aband ?_
      refine Eval.iload_n rfl rfl ?_
      refine Eval.aload_n rfl rfl ?_
      refine Eval.getfield rfl rfl own_g1_aband ?_
      refine Eval.iload_n rfl rfl ?_
      obtain ⟨hb187, h⟩ := ite_some h
      refine Eval.iaload rfl own_a1_aband hb187 ?_
      refine Eval.iconst (x := (1 : Int32)) rfl rfl ?_
      refine Eval.iadd rfl ?_
      obtain ⟨hb188, h⟩ := ite_some h
      refine Eval.iastore rfl rfl own_a1_aband hb188 own_s1_aband ?_
      refine Eval.iconst (x := (4 : Int32)) rfl rfl ?_
      cases h
      subst hk
      exact Eval.retH own_mk1 rfl rfl
  · rw [if_neg hc128] at h
    refine Eval.ifT (t := 74) rfl rfl (flt hc128).2.2.2 ?_
    refine Eval.iconst (x := (1 : Int32)) rfl rfl ?_
    cases h
    subst hk
    exact Eval.retH own_mk1 rfl rfl
def j_step (s : Q) (v1 : Int32) : Option (Int32 × Q) := (if (j_validThread s v1) = (0 : Int32) then some ((-2 : Int32), s) else (if inb s.f_st.length v1 = true then (if (rd s.f_st v1) = (0 : Int32) then some ((-2 : Int32), s) else (if inb s.f_lk.length v1 = true then (if inb s.f_st.length v1 = true then (if (rd s.f_st v1) = (2 : Int32) then (if inb s.f_st.length v1 = true then ((j_enter (Q.mk (wr s.f_st v1 (3 : Int32)) s.f_lk s.f_tmo s.f_spin s.f_nxt0 s.f_prv1 s.f_head s.f_tail s.f_len s.f_ent s.f_aband s.f_log s.f_hist s.f_n (s.f_clk + (1 : Int32))) v1 (rd s.f_lk v1)).bind fun p117 => (j_step_b84 p117 (3 : Int32))) else none) else (if (rd s.f_st v1) = (1 : Int32) then ((j_spinOnce (Q.mk s.f_st s.f_lk s.f_tmo s.f_spin s.f_nxt0 s.f_prv1 s.f_head s.f_tail s.f_len s.f_ent s.f_aband s.f_log s.f_hist s.f_n (s.f_clk + (1 : Int32))) v1 (rd s.f_lk v1)).bind fun p189 => (j_step_b84 p189.2 p189.1)) else (j_step_b84 (Q.mk s.f_st s.f_lk s.f_tmo s.f_spin s.f_nxt0 s.f_prv1 s.f_head s.f_tail s.f_len s.f_ent s.f_aband s.f_log s.f_hist s.f_n (s.f_clk + (1 : Int32))) (3 : Int32)))) else none) else none)) else none))
theorem ln_j_step {s : Q} {v1 : Int32} {res : Int32 × Q} (h : j_step s v1 = some res) : Q.len res.2 = Q.len s := by
  rw [j_step] at h
  by_cases hc109 : (j_validThread s v1) = (0 : Int32)
  · rw [if_pos hc109] at h
    have hr0 := Option.some.inj h
    subst hr0
    show Q.len s = _
    exact rfl
  · rw [if_neg hc109] at h
    obtain ⟨hb110, h⟩ := ite_some h
    by_cases hc111 : (rd s.f_st v1) = (0 : Int32)
    · rw [if_pos hc111] at h
      have hr0 := Option.some.inj h
      subst hr0
      show Q.len s = _
      exact rfl
    · rw [if_neg hc111] at h
      obtain ⟨hb112, h⟩ := ite_some h
      obtain ⟨hb113, h⟩ := ite_some h
      by_cases hc115 : (rd s.f_st v1) = (2 : Int32)
      · rw [if_pos hc115] at h
        obtain ⟨hb116, h⟩ := ite_some h
        obtain ⟨p117, hq118, h⟩ := bind_some h
        have hl119 := (ln_j_enter hq118).trans (Eq.trans (show Q.len (Q.mk (wr s.f_st v1 (3 : Int32)) s.f_lk s.f_tmo s.f_spin s.f_nxt0 s.f_prv1 s.f_head s.f_tail s.f_len s.f_ent s.f_aband s.f_log s.f_hist s.f_n (s.f_clk + (1 : Int32))) = Q.len s from own_lenmk.trans (by first | (simp only [len_wr, len_wrL] <;> rfl) | rfl)) rfl)
        exact Eq.trans (ln_j_step_b84 h) hl119
      · rw [if_neg hc115] at h
        by_cases hc124 : (rd s.f_st v1) = (1 : Int32)
        · rw [if_pos hc124] at h
          obtain ⟨p189, hq190, h⟩ := bind_some h
          have hl191 := (ln_j_spinOnce hq190).trans (Eq.trans (show Q.len (Q.mk s.f_st s.f_lk s.f_tmo s.f_spin s.f_nxt0 s.f_prv1 s.f_head s.f_tail s.f_len s.f_ent s.f_aband s.f_log s.f_hist s.f_n (s.f_clk + (1 : Int32))) = Q.len s from own_lenmk.trans (by first | (simp only [len_wr, len_wrL] <;> rfl) | rfl)) rfl)
          exact Eq.trans (ln_j_step_b84 h) hl191
        · rw [if_neg hc124] at h
          exact Eq.trans (ln_j_step_b84 h) (Eq.trans (show Q.len (Q.mk s.f_st s.f_lk s.f_tmo s.f_spin s.f_nxt0 s.f_prv1 s.f_head s.f_tail s.f_len s.f_ent s.f_aband s.f_log s.f_hist s.f_n (s.f_clk + (1 : Int32))) = Q.len s from own_lenmk.trans (by first | (simp only [len_wr, len_wrL] <;> rfl) | rfl)) rfl)
set_option maxRecDepth 100000 in
theorem ev_j_step (R : AHeap) (s : Q) (v1 : Int32) {res : Int32 × Q} {out : Option Value × AHeap} (h : j_step s v1 = some res) (hk : out = (some (.int res.1), (W1 res.2 R))) : Eval own_P 11 0 [some (.ref 0), some (.int v1), none, none, none] [] (W1 s R) out := by
  rw [j_step] at h
  refine Eval.aload_n rfl rfl ?_
  refine Eval.iload_n rfl rfl ?_
  refine Eval.callI (rest := []) (x := (j_validThread s v1)) (H1 := (W1 s R)) rfl rfl (ev_j_validThread R s v1 rfl rfl) ?_
  by_cases hc109 : (j_validThread s v1) = (0 : Int32)
  · rw [if_pos hc109] at h
    refine Eval.ifF rfl (teq hc109).2 ?_
    refine Eval.bipush (x := (-2 : Int32)) rfl rfl ?_
    cases h
    subst hk
    exact Eval.ret rfl rfl
  · rw [if_neg hc109] at h
    refine Eval.ifT (t := 11) rfl rfl (feq hc109).2 ?_
    refine Eval.aload_n rfl rfl ?_
    refine Eval.getfield rfl rfl own_g1_st ?_
    refine Eval.iload_n rfl rfl ?_
    obtain ⟨hb110, h⟩ := ite_some h
    refine Eval.iaload rfl own_a1_st hb110 ?_
    by_cases hc111 : (rd s.f_st v1) = (0 : Int32)
    · rw [if_pos hc111] at h
      refine Eval.ifF rfl (teq hc111).2 ?_
      refine Eval.bipush (x := (-2 : Int32)) rfl rfl ?_
      cases h
      subst hk
      exact Eval.ret rfl rfl
    · rw [if_neg hc111] at h
      refine Eval.ifT (t := 23) rfl rfl (feq hc111).2 ?_
      refine Eval.aload_n rfl rfl ?_
      refine Eval.aload_n rfl rfl ?_
      refine Eval.getfield rfl rfl own_g1_clk ?_
      refine Eval.iconst (x := (1 : Int32)) rfl rfl ?_
      refine Eval.iadd rfl ?_
      refine Eval.putfield rfl rfl own_p1_clk ?_
      refine Eval.aload_n rfl rfl ?_
      refine Eval.getfield rfl rfl own_g1_lk ?_
      refine Eval.iload_n rfl rfl ?_
      obtain ⟨hb112, h⟩ := ite_some h
      refine Eval.iaload rfl own_a1_lk hb112 ?_
      refine Eval.istore_n (L' := [some (.ref 0), some (.int v1), some (.int (rd s.f_lk v1)), none, none]) rfl rfl ?_
      refine Eval.aload_n rfl rfl ?_
      refine Eval.getfield rfl rfl own_g1_st ?_
      refine Eval.iload_n rfl rfl ?_
      obtain ⟨hb113, h⟩ := ite_some h
      refine Eval.iaload rfl own_a1_st hb113 ?_
      refine Eval.istore_n (L' := [some (.ref 0), some (.int v1), some (.int (rd s.f_lk v1)), some (.int (rd s.f_st v1)), none]) rfl rfl ?_
      refine Eval.iconst (x := (3 : Int32)) rfl rfl ?_
      refine Eval.istore (L' := [some (.ref 0), some (.int v1), some (.int (rd s.f_lk v1)), some (.int (rd s.f_st v1)), some (.int (3 : Int32))]) rfl rfl ?_
      refine Eval.iload_n rfl rfl ?_
      refine Eval.iconst (x := (2 : Int32)) rfl rfl ?_
      by_cases hc115 : (rd s.f_st v1) = (2 : Int32)
      · rw [if_pos hc115] at h
        refine Eval.icmpF rfl (teq hc115).2 ?_
        refine Eval.aload_n rfl rfl ?_
        refine Eval.getfield rfl rfl own_g1_st ?_
        refine Eval.iload_n rfl rfl ?_
        refine Eval.iconst (x := (3 : Int32)) rfl rfl ?_
        obtain ⟨hb116, h⟩ := ite_some h
        refine Eval.iastore rfl rfl own_a1_st hb116 own_s1_st ?_
        refine Eval.aload_n rfl rfl ?_
        refine Eval.iload_n rfl rfl ?_
        refine Eval.iload_n rfl rfl ?_
        obtain ⟨p117, hq118, h⟩ := bind_some h
        refine Eval.callN (rest := []) (H1 := (W1 p117 R)) rfl rfl (Eval.heap own_mk1 (ev_j_enter R (Q.mk (wr s.f_st v1 (3 : Int32)) s.f_lk s.f_tmo s.f_spin s.f_nxt0 s.f_prv1 s.f_head s.f_tail s.f_len s.f_ent s.f_aband s.f_log s.f_hist s.f_n (s.f_clk + (1 : Int32))) v1 (rd s.f_lk v1) hq118 rfl)) ?_
        refine Eval.goto (t := 84) rfl rfl ?_
        refine Eval.weak (L' := [some (.ref 0), none, none, none, some (.int (3 : Int32))]) ⟨_, _, rfl, Or.inr rfl, _, _, rfl, Or.inl rfl, _, _, rfl, Or.inl rfl, _, _, rfl, Or.inl rfl, _, _, rfl, Or.inr rfl, rfl⟩ ?_
        exact ev_j_step_b84 R p117 (3 : Int32) h hk
      · rw [if_neg hc115] at h
        refine Eval.icmpT (t := 71) rfl rfl (feq hc115).2 ?_
        refine Eval.iload_n rfl rfl ?_
        refine Eval.iconst (x := (1 : Int32)) rfl rfl ?_
        by_cases hc124 : (rd s.f_st v1) = (1 : Int32)
        · rw [if_pos hc124] at h
          refine Eval.icmpF rfl (teq hc124).2 ?_
          refine Eval.aload_n rfl rfl ?_
          refine Eval.iload_n rfl rfl ?_
          refine Eval.iload_n rfl rfl ?_
          obtain ⟨p189, hq190, h⟩ := bind_some h
          refine Eval.callI (rest := []) (x := p189.1) (H1 := (W1 p189.2 R)) rfl rfl (Eval.heap own_mk1 (ev_j_spinOnce R (Q.mk s.f_st s.f_lk s.f_tmo s.f_spin s.f_nxt0 s.f_prv1 s.f_head s.f_tail s.f_len s.f_ent s.f_aband s.f_log s.f_hist s.f_n (s.f_clk + (1 : Int32))) v1 (rd s.f_lk v1) hq190 rfl)) ?_
          refine Eval.istore (L' := [some (.ref 0), some (.int v1), some (.int (rd s.f_lk v1)), some (.int (rd s.f_st v1)), some (.int p189.1)]) rfl rfl ?_
          refine Eval.weak (L' := [some (.ref 0), none, none, none, some (.int p189.1)]) ⟨_, _, rfl, Or.inr rfl, _, _, rfl, Or.inl rfl, _, _, rfl, Or.inl rfl, _, _, rfl, Or.inl rfl, _, _, rfl, Or.inr rfl, rfl⟩ ?_
          exact ev_j_step_b84 R p189.2 p189.1 h hk
        · rw [if_neg hc124] at h
          refine Eval.icmpT (t := 84) rfl rfl (feq hc124).2 ?_
          refine Eval.heap own_mk1 ?_
          refine Eval.weak (L' := [some (.ref 0), none, none, none, some (.int (3 : Int32))]) ⟨_, _, rfl, Or.inr rfl, _, _, rfl, Or.inl rfl, _, _, rfl, Or.inl rfl, _, _, rfl, Or.inl rfl, _, _, rfl, Or.inr rfl, rfl⟩ ?_
          exact ev_j_step_b84 R (Q.mk s.f_st s.f_lk s.f_tmo s.f_spin s.f_nxt0 s.f_prv1 s.f_head s.f_tail s.f_len s.f_ent s.f_aband s.f_log s.f_hist s.f_n (s.f_clk + (1 : Int32))) (3 : Int32) h hk
def law_b149 (go_ : Q → Int32 → Int32 → Int32 → Int32 → Option ((Q) ⊕ (Int32 × Int32 × Int32 × Q))) (s : Q) (v4 : Int32) (v5 : Int32) (v6 : Int32) (v7 : Int32) (v8 : Int32) (w0 : Int32) : Option ((Q) ⊕ (Int32 × Int32 × Int32 × Q)) := (if v8 = w0 then (go_ s v4 v5 v6 (v7 + (1 : Int32))) else some (.inl (s)))
set_option maxRecDepth 100000 in
theorem ev_law_b149 (go_ : Q → Int32 → Int32 → Int32 → Int32 → Option ((Q) ⊕ (Int32 × Int32 × Int32 × Q))) (hrec : ∀ (s : Q) (v4 : Int32) (v5 : Int32) (v6 : Int32) (v7 : Int32) {res : (Q) ⊕ (Int32 × Int32 × Int32 × Q)} {out : Option Value × AHeap}, go_ s v4 v5 v6 v7 = some res → law_l106_K res out → Eval own_P 0 106 [none, none, none, some (.ref 0), some (.int v4), some (.int v5), some (.int v6), some (.int v7), none, none] [] (W1 s []) out) (s : Q) (v4 : Int32) (v5 : Int32) (v6 : Int32) (v7 : Int32) (v8 : Int32) (w0 : Int32) {res : (Q) ⊕ (Int32 × Int32 × Int32 × Q)} {out : Option Value × AHeap} (h : law_b149 go_ s v4 v5 v6 v7 v8 w0 = some res) (hk : law_l106_K res out) : Eval own_P 0 149 [none, none, none, some (.ref 0), some (.int v4), some (.int v5), some (.int v6), some (.int v7), some (.int v8), none] [.int w0] (W1 s []) out := by
  rw [law_b149] at h
  refine Eval.istore (L' := [none, none, none, some (.ref 0), some (.int v4), some (.int v5), some (.int v6), some (.int v7), some (.int v8), some (.int w0)]) rfl rfl ?_
  refine Eval.iload rfl rfl ?_
  refine Eval.iload rfl rfl ?_
  by_cases hc198 : v8 = w0
  · rw [if_pos hc198] at h
    refine Eval.icmpT (t := 160) rfl rfl (teq hc198).1 ?_
    refine Eval.iinc (L' := [none, none, none, some (.ref 0), some (.int v4), some (.int v5), some (.int v6), some (.int (v7 + (1 : Int32))), some (.int v8), some (.int w0)]) rfl rfl rfl ?_
    refine Eval.goto (t := 106) rfl rfl ?_
    refine Eval.weak (L' := [none, none, none, some (.ref 0), some (.int v4), some (.int v5), some (.int v6), some (.int (v7 + (1 : Int32))), none, none]) ⟨_, _, rfl, Or.inl rfl, _, _, rfl, Or.inl rfl, _, _, rfl, Or.inl rfl, _, _, rfl, Or.inr rfl, _, _, rfl, Or.inr rfl, _, _, rfl, Or.inr rfl, _, _, rfl, Or.inr rfl, _, _, rfl, Or.inr rfl, _, _, rfl, Or.inl rfl, _, _, rfl, Or.inl rfl, rfl⟩ ?_
    exact hrec _ _ _ _ _ h hk
  · rw [if_neg hc198] at h
    refine Eval.icmpF rfl (feq hc198).1 ?_
    cases h
    refine Eval.weak (L' := [none, none, none, none, none, none, none, none, none, none]) ⟨_, _, rfl, Or.inl rfl, _, _, rfl, Or.inl rfl, _, _, rfl, Or.inl rfl, _, _, rfl, Or.inl rfl, _, _, rfl, Or.inl rfl, _, _, rfl, Or.inl rfl, _, _, rfl, Or.inl rfl, _, _, rfl, Or.inl rfl, _, _, rfl, Or.inl rfl, _, _, rfl, Or.inl rfl, rfl⟩ ?_
    exact hk
def law_l106 : Nat → Q → Int32 → Int32 → Int32 → Int32 → Option ((Q) ⊕ (Int32 × Int32 × Int32 × Q))
  | 0, _, _, _, _, _ => none
  | n + 1, s, v4, v5, v6, v7 => (if (8 : Int32) < v7 then some (.inr (v4, v5, v6, s)) else ((j_step s (1 : Int32)).bind fun p192 => (law_b149 (law_l106 n) p192.2 v4 v5 v6 v7 p192.1 (if v6 = (0 : Int32) then (1 : Int32) else (if v7 < v5 then (1 : Int32) else (if v7 = v5 then (4 : Int32) else (-2 : Int32)))))))
set_option maxRecDepth 100000 in
theorem ev_law_l106 : ∀ (n : Nat) (s : Q) (v4 : Int32) (v5 : Int32) (v6 : Int32) (v7 : Int32) {res : (Q) ⊕ (Int32 × Int32 × Int32 × Q)} {out : Option Value × AHeap}, law_l106 n s v4 v5 v6 v7 = some res → law_l106_K res out → Eval own_P 0 106 [none, none, none, some (.ref 0), some (.int v4), some (.int v5), some (.int v6), some (.int v7), none, none] [] (W1 s []) out := by
  intro n
  induction n with
  | zero => intro _ _ _ _ _ res out h hk; cases h
  | succ n hrec =>
    intro s v4 v5 v6 v7 res out h hk
    rw [law_l106] at h
    refine Eval.iload rfl rfl ?_
    refine Eval.bipush (x := (8 : Int32)) rfl rfl ?_
    by_cases hc108 : (8 : Int32) < v7
    · rw [if_pos hc108] at h
      refine Eval.icmpT (t := 166) rfl rfl (tlt hc108).2.2.1 ?_
      cases h
      refine Eval.weak (L' := [none, none, none, some (.ref 0), some (.int v4), some (.int v5), some (.int v6), none, none, none]) ⟨_, _, rfl, Or.inl rfl, _, _, rfl, Or.inl rfl, _, _, rfl, Or.inl rfl, _, _, rfl, Or.inr rfl, _, _, rfl, Or.inr rfl, _, _, rfl, Or.inr rfl, _, _, rfl, Or.inr rfl, _, _, rfl, Or.inl rfl, _, _, rfl, Or.inl rfl, _, _, rfl, Or.inl rfl, rfl⟩ ?_
      exact hk
    · rw [if_neg hc108] at h
      refine Eval.icmpF rfl (flt hc108).2.2.1 ?_
      refine Eval.aload_n rfl rfl ?_
      refine Eval.iconst (x := (1 : Int32)) rfl rfl ?_
      obtain ⟨p192, hq193, h⟩ := bind_some h
      refine Eval.callI (rest := []) (x := p192.1) (H1 := (W1 p192.2 [])) rfl rfl (ev_j_step [] s (1 : Int32) hq193 rfl) ?_
      refine Eval.istore (L' := [none, none, none, some (.ref 0), some (.int v4), some (.int v5), some (.int v6), some (.int v7), some (.int p192.1), none]) rfl rfl ?_
      refine Eval.iload rfl rfl ?_
      suffices hJ197 : Eval own_P 0 149 [none, none, none, some (.ref 0), some (.int v4), some (.int v5), some (.int v6), some (.int v7), some (.int p192.1), none] [.int (if v6 = (0 : Int32) then (1 : Int32) else (if v7 < v5 then (1 : Int32) else (if v7 = v5 then (4 : Int32) else (-2 : Int32))))] (W1 p192.2 []) out by
        by_cases hc194 : v6 = (0 : Int32)
        · refine Eval.ifT (t := 132) rfl rfl (teq hc194).1 ?_
          refine Eval.iconst (x := (1 : Int32)) rfl rfl ?_
          refine Eval.goto (t := 149) rfl rfl ?_
          exact (Eval.conv hJ197 rfl (by simp only [if_pos hc194]))
        · refine Eval.ifF rfl (feq hc194).1 ?_
          refine Eval.iload rfl rfl ?_
          refine Eval.iload rfl rfl ?_
          by_cases hc195 : v7 < v5
          · refine Eval.icmpF rfl (tlt hc195).2.1 ?_
            refine Eval.iconst (x := (1 : Int32)) rfl rfl ?_
            refine Eval.goto (t := 149) rfl rfl ?_
            exact (Eval.conv hJ197 rfl (by simp only [if_neg hc194, if_pos hc195]))
          · refine Eval.icmpT (t := 136) rfl rfl (flt hc195).2.1 ?_
            refine Eval.iload rfl rfl ?_
            refine Eval.iload rfl rfl ?_
            by_cases hc196 : v7 = v5
            · refine Eval.icmpF rfl (teq hc196).2 ?_
              refine Eval.iconst (x := (4 : Int32)) rfl rfl ?_
              refine Eval.goto (t := 149) rfl rfl ?_
              exact (Eval.conv hJ197 rfl (by simp only [if_neg hc194, if_neg hc195, if_pos hc196]))
            · refine Eval.icmpT (t := 147) rfl rfl (feq hc196).2 ?_
              refine Eval.bipush (x := (-2 : Int32)) rfl rfl ?_
              exact (Eval.conv hJ197 rfl (by simp only [if_neg hc194, if_neg hc195, if_neg hc196]))
      exact ev_law_b149 _ hrec p192.2 v4 v5 v6 v7 p192.1 (if v6 = (0 : Int32) then (1 : Int32) else (if v7 < v5 then (1 : Int32) else (if v7 = v5 then (4 : Int32) else (-2 : Int32)))) h hk
def j_abandons (s : Q) (v1 : Int32) : Option (Int32) := (if (j_validLock v1) = (0 : Int32) then some ((-2 : Int32)) else (if inb s.f_aband.length v1 = true then some ((rd s.f_aband v1)) else none))
set_option maxRecDepth 100000 in
theorem ev_j_abandons (R : AHeap) (s : Q) (v1 : Int32) {res : Int32} {out : Option Value × AHeap} (h : j_abandons s v1 = some res) (hk : out = (some (.int res), (W1 s R))) : Eval own_P 15 0 [some (.ref 0), some (.int v1)] [] (W1 s R) out := by
  rw [j_abandons] at h
  refine Eval.aload_n rfl rfl ?_
  refine Eval.iload_n rfl rfl ?_
  refine Eval.callI (rest := []) (x := (j_validLock v1)) (H1 := (W1 s R)) rfl rfl (ev_j_validLock (W1 s R) 0 v1 rfl rfl) ?_
  by_cases hc207 : (j_validLock v1) = (0 : Int32)
  · rw [if_pos hc207] at h
    refine Eval.ifF rfl (teq hc207).2 ?_
    refine Eval.bipush (x := (-2 : Int32)) rfl rfl ?_
    cases h
    subst hk
    exact Eval.ret rfl rfl
  · rw [if_neg hc207] at h
    refine Eval.ifT (t := 11) rfl rfl (feq hc207).2 ?_
    refine Eval.aload_n rfl rfl ?_
    refine Eval.getfield rfl rfl own_g1_aband ?_
    refine Eval.iload_n rfl rfl ?_
    obtain ⟨hb208, h⟩ := ite_some h
    refine Eval.iaload rfl own_a1_aband hb208 ?_
    cases h
    subst hk
    exact Eval.ret rfl rfl
def j_spins (s : Q) (v1 : Int32) : Option (Int32) := (if (j_validThread s v1) = (0 : Int32) then some ((-2 : Int32)) else (if inb s.f_spin.length v1 = true then some ((rd s.f_spin v1)) else none))
set_option maxRecDepth 100000 in
theorem ev_j_spins (R : AHeap) (s : Q) (v1 : Int32) {res : Int32} {out : Option Value × AHeap} (h : j_spins s v1 = some res) (hk : out = (some (.int res), (W1 s R))) : Eval own_P 16 0 [some (.ref 0), some (.int v1)] [] (W1 s R) out := by
  rw [j_spins] at h
  refine Eval.aload_n rfl rfl ?_
  refine Eval.iload_n rfl rfl ?_
  refine Eval.callI (rest := []) (x := (j_validThread s v1)) (H1 := (W1 s R)) rfl rfl (ev_j_validThread R s v1 rfl rfl) ?_
  by_cases hc214 : (j_validThread s v1) = (0 : Int32)
  · rw [if_pos hc214] at h
    refine Eval.ifF rfl (teq hc214).2 ?_
    refine Eval.bipush (x := (-2 : Int32)) rfl rfl ?_
    cases h
    subst hk
    exact Eval.ret rfl rfl
  · rw [if_neg hc214] at h
    refine Eval.ifT (t := 11) rfl rfl (feq hc214).2 ?_
    refine Eval.aload_n rfl rfl ?_
    refine Eval.getfield rfl rfl own_g1_spin ?_
    refine Eval.iload_n rfl rfl ?_
    obtain ⟨hb215, h⟩ := ite_some h
    refine Eval.iaload rfl own_a1_spin hb215 ?_
    cases h
    subst hk
    exact Eval.ret rfl rfl
def j_state (s : Q) (v1 : Int32) : Option (Int32) := (if (j_validThread s v1) = (0 : Int32) then some ((-2 : Int32)) else (if inb s.f_st.length v1 = true then some ((rd s.f_st v1)) else none))
set_option maxRecDepth 100000 in
theorem ev_j_state (R : AHeap) (s : Q) (v1 : Int32) {res : Int32} {out : Option Value × AHeap} (h : j_state s v1 = some res) (hk : out = (some (.int res), (W1 s R))) : Eval own_P 17 0 [some (.ref 0), some (.int v1)] [] (W1 s R) out := by
  rw [j_state] at h
  refine Eval.aload_n rfl rfl ?_
  refine Eval.iload_n rfl rfl ?_
  refine Eval.callI (rest := []) (x := (j_validThread s v1)) (H1 := (W1 s R)) rfl rfl (ev_j_validThread R s v1 rfl rfl) ?_
  by_cases hc219 : (j_validThread s v1) = (0 : Int32)
  · rw [if_pos hc219] at h
    refine Eval.ifF rfl (teq hc219).2 ?_
    refine Eval.bipush (x := (-2 : Int32)) rfl rfl ?_
    cases h
    subst hk
    exact Eval.ret rfl rfl
  · rw [if_neg hc219] at h
    refine Eval.ifT (t := 11) rfl rfl (feq hc219).2 ?_
    refine Eval.aload_n rfl rfl ?_
    refine Eval.getfield rfl rfl own_g1_st ?_
    refine Eval.iload_n rfl rfl ?_
    obtain ⟨hb220, h⟩ := ite_some h
    refine Eval.iaload rfl own_a1_st hb220 ?_
    cases h
    subst hk
    exact Eval.ret rfl rfl
def j_queueLength (s : Q) (v1 : Int32) : Option (Int32) := (if (j_validLock v1) = (0 : Int32) then some ((-2 : Int32)) else (if inb s.f_len.length v1 = true then some ((rd s.f_len v1)) else none))
set_option maxRecDepth 100000 in
theorem ev_j_queueLength (R : AHeap) (s : Q) (v1 : Int32) {res : Int32} {out : Option Value × AHeap} (h : j_queueLength s v1 = some res) (hk : out = (some (.int res), (W1 s R))) : Eval own_P 18 0 [some (.ref 0), some (.int v1)] [] (W1 s R) out := by
  rw [j_queueLength] at h
  refine Eval.aload_n rfl rfl ?_
  refine Eval.iload_n rfl rfl ?_
  refine Eval.callI (rest := []) (x := (j_validLock v1)) (H1 := (W1 s R)) rfl rfl (ev_j_validLock (W1 s R) 0 v1 rfl rfl) ?_
  by_cases hc226 : (j_validLock v1) = (0 : Int32)
  · rw [if_pos hc226] at h
    refine Eval.ifF rfl (teq hc226).2 ?_
    refine Eval.bipush (x := (-2 : Int32)) rfl rfl ?_
    cases h
    subst hk
    exact Eval.ret rfl rfl
  · rw [if_neg hc226] at h
    refine Eval.ifT (t := 11) rfl rfl (feq hc226).2 ?_
    refine Eval.aload_n rfl rfl ?_
    refine Eval.getfield rfl rfl own_g1_len ?_
    refine Eval.iload_n rfl rfl ?_
    obtain ⟨hb227, h⟩ := ite_some h
    refine Eval.iaload rfl own_a1_len hb227 ?_
    cases h
    subst hk
    exact Eval.ret rfl rfl
abbrev j_aheadMcs_l9_K (R : AHeap) (s : Q) (res : (Int32) ⊕ ((Unit) ⊕ (Unit))) (out : Option Value × AHeap) : Prop := Sum.elim (fun res => Eval own_P 28 20 [none, none, none, some (.int res)] [] (W1 s R) out) (fun res => Sum.elim (fun res => Eval own_P 28 30 [none, none, none, none] [] (W1 s R) out) (fun res => Eval own_P 28 45 [none, none, none, none] [] (W1 s R) out) res) res

def j_aheadMcs_l9 : Nat → Q → Int32 → Int32 → Int32 → Option ((Int32) ⊕ ((Unit) ⊕ (Unit)))
  | 0, _, _, _, _ => none
  | n + 1, s, v1, v2, v3 => (if v3 < (8 : Int32) then (if v2 = v1 then some (.inl (v3)) else (if (j_inNodes v2) = (0 : Int32) then some (.inr (.inl ())) else (if inb s.f_nxt0.length v2 = true then (j_aheadMcs_l9 n s v1 (rd s.f_nxt0 v2) (v3 + (1 : Int32))) else none))) else some (.inr (.inr ())))
set_option maxRecDepth 100000 in
theorem ev_j_aheadMcs_l9 (R : AHeap) : ∀ (n : Nat) (s : Q) (v1 : Int32) (v2 : Int32) (v3 : Int32) {res : (Int32) ⊕ ((Unit) ⊕ (Unit))} {out : Option Value × AHeap}, j_aheadMcs_l9 n s v1 v2 v3 = some res → j_aheadMcs_l9_K R s res out → Eval own_P 28 9 [some (.ref 0), some (.int v1), some (.int v2), some (.int v3)] [] (W1 s R) out := by
  intro n
  induction n with
  | zero => intro _ _ _ _ res out h hk; cases h
  | succ n hrec =>
    intro s v1 v2 v3 res out h hk
    rw [j_aheadMcs_l9] at h
    refine Eval.iload_n rfl rfl ?_
    refine Eval.bipush (x := (8 : Int32)) rfl rfl ?_
    by_cases hc239 : v3 < (8 : Int32)
    · rw [if_pos hc239] at h
      refine Eval.icmpF rfl (tlt hc239).2.1 ?_
      refine Eval.iload_n rfl rfl ?_
      refine Eval.iload_n rfl rfl ?_
      by_cases hc240 : v2 = v1
      · rw [if_pos hc240] at h
        refine Eval.icmpF rfl (teq hc240).2 ?_
        cases h
        refine Eval.weak (L' := [none, none, none, some (.int v3)]) ⟨_, _, rfl, Or.inl rfl, _, _, rfl, Or.inl rfl, _, _, rfl, Or.inl rfl, _, _, rfl, Or.inr rfl, rfl⟩ ?_
        exact hk
      · rw [if_neg hc240] at h
        refine Eval.icmpT (t := 22) rfl rfl (feq hc240).2 ?_
        refine Eval.aload_n rfl rfl ?_
        refine Eval.iload_n rfl rfl ?_
        refine Eval.callI (rest := []) (x := (j_inNodes v2)) (H1 := (W1 s R)) rfl rfl (ev_j_inNodes (W1 s R) 0 v2 rfl rfl) ?_
        by_cases hc241 : (j_inNodes v2) = (0 : Int32)
        · rw [if_pos hc241] at h
          refine Eval.ifF rfl (teq hc241).2 ?_
          cases h
          refine Eval.weak (L' := [none, none, none, none]) ⟨_, _, rfl, Or.inl rfl, _, _, rfl, Or.inl rfl, _, _, rfl, Or.inl rfl, _, _, rfl, Or.inl rfl, rfl⟩ ?_
          exact hk
        · rw [if_neg hc241] at h
          refine Eval.ifT (t := 32) rfl rfl (feq hc241).2 ?_
          refine Eval.aload_n rfl rfl ?_
          refine Eval.getfield rfl rfl own_g1_nxt0 ?_
          refine Eval.iload_n rfl rfl ?_
          obtain ⟨hb242, h⟩ := ite_some h
          refine Eval.iaload rfl own_a1_nxt0 hb242 ?_
          refine Eval.istore_n (L' := [some (.ref 0), some (.int v1), some (.int (rd s.f_nxt0 v2)), some (.int v3)]) rfl rfl ?_
          refine Eval.iinc (L' := [some (.ref 0), some (.int v1), some (.int (rd s.f_nxt0 v2)), some (.int (v3 + (1 : Int32)))]) rfl rfl rfl ?_
          refine Eval.goto (t := 9) rfl rfl ?_
          exact hrec _ _ _ _ h hk
    · rw [if_neg hc239] at h
      refine Eval.icmpT (t := 45) rfl rfl (flt hc239).2.1 ?_
      cases h
      refine Eval.weak (L' := [none, none, none, none]) ⟨_, _, rfl, Or.inl rfl, _, _, rfl, Or.inl rfl, _, _, rfl, Or.inl rfl, _, _, rfl, Or.inl rfl, rfl⟩ ?_
      exact hk
def j_aheadMcs (s : Q) (v1 : Int32) : Option (Int32) := (if inb s.f_head.length (0 : Int32) = true then ((j_aheadMcs_l9 3000 s v1 (rd s.f_head (0 : Int32)) (0 : Int32)).bind fun p243 => Sum.elim (fun p245 => some (p245)) (fun p246 => Sum.elim (fun p247 => some ((-1 : Int32))) (fun p248 => some ((-1 : Int32))) p246) p243) else none)
set_option maxRecDepth 100000 in
theorem ev_j_aheadMcs (R : AHeap) (s : Q) (v1 : Int32) {res : Int32} {out : Option Value × AHeap} (h : j_aheadMcs s v1 = some res) (hk : out = (some (.int res), (W1 s R))) : Eval own_P 28 0 [some (.ref 0), some (.int v1), none, none] [] (W1 s R) out := by
  rw [j_aheadMcs] at h
  refine Eval.aload_n rfl rfl ?_
  refine Eval.getfield rfl rfl own_g1_head ?_
  refine Eval.iconst (x := (0 : Int32)) rfl rfl ?_
  obtain ⟨hb238, h⟩ := ite_some h
  refine Eval.iaload rfl own_a1_head hb238 ?_
  refine Eval.istore_n (L' := [some (.ref 0), some (.int v1), some (.int (rd s.f_head (0 : Int32))), none]) rfl rfl ?_
  refine Eval.iconst (x := (0 : Int32)) rfl rfl ?_
  refine Eval.istore_n (L' := [some (.ref 0), some (.int v1), some (.int (rd s.f_head (0 : Int32))), some (.int (0 : Int32))]) rfl rfl ?_
  obtain ⟨p243, hq244, h⟩ := bind_some h
  rcases p243 with p245 | p246
  · dsimp only [Sum.elim] at h
    refine ev_j_aheadMcs_l9 R _ s v1 (rd s.f_head (0 : Int32)) (0 : Int32) hq244 ?_
    show Eval own_P 28 20 [none, none, none, some (.int p245)] [] (W1 s R) out
    refine Eval.iload_n rfl rfl ?_
    cases h
    subst hk
    exact Eval.ret rfl rfl
  · dsimp only [Sum.elim] at h
    rcases p246 with p247 | p248
    · dsimp only [Sum.elim] at h
      refine ev_j_aheadMcs_l9 R _ s v1 (rd s.f_head (0 : Int32)) (0 : Int32) hq244 ?_
      show Eval own_P 28 30 [none, none, none, none] [] (W1 s R) out
      refine Eval.iconst (x := (-1 : Int32)) rfl rfl ?_
      cases h
      subst hk
      exact Eval.ret rfl rfl
    · dsimp only [Sum.elim] at h
      refine ev_j_aheadMcs_l9 R _ s v1 (rd s.f_head (0 : Int32)) (0 : Int32) hq244 ?_
      show Eval own_P 28 45 [none, none, none, none] [] (W1 s R) out
      refine Eval.iconst (x := (-1 : Int32)) rfl rfl ?_
      cases h
      subst hk
      exact Eval.ret rfl rfl
abbrev j_aheadClh_l12_K (R : AHeap) (s : Q) (res : (Int32) ⊕ (Int32)) (out : Option Value × AHeap) : Prop := Sum.elim (fun res => Eval own_P 20 27 [none, none, none, some (.int res), none] [] (W1 s R) out) (fun res => Eval own_P 20 45 [none, none, none, some (.int res), none] [] (W1 s R) out) res

def j_aheadClh_l12 : Nat → Q → Int32 → Int32 → Int32 → Option ((Int32) ⊕ (Int32))
  | 0, _, _, _, _ => none
  | n + 1, s, v2, v3, v4 => (if v4 < (8 : Int32) then (if (j_inNodes v2) = (0 : Int32) then some (.inl (v3)) else (if inb s.f_prv1.length v2 = true then (j_aheadClh_l12 n s (rd s.f_prv1 v2) (v3 + (1 : Int32)) (v4 + (1 : Int32))) else none)) else some (.inr (v3)))
set_option maxRecDepth 100000 in
theorem ev_j_aheadClh_l12 (R : AHeap) : ∀ (n : Nat) (s : Q) (v2 : Int32) (v3 : Int32) (v4 : Int32) {res : (Int32) ⊕ (Int32)} {out : Option Value × AHeap}, j_aheadClh_l12 n s v2 v3 v4 = some res → j_aheadClh_l12_K R s res out → Eval own_P 20 12 [some (.ref 0), none, some (.int v2), some (.int v3), some (.int v4)] [] (W1 s R) out := by
  intro n
  induction n with
  | zero => intro _ _ _ _ res out h hk; cases h
  | succ n hrec =>
    intro s v2 v3 v4 res out h hk
    rw [j_aheadClh_l12] at h
    refine Eval.iload rfl rfl ?_
    refine Eval.bipush (x := (8 : Int32)) rfl rfl ?_
    by_cases hc252 : v4 < (8 : Int32)
    · rw [if_pos hc252] at h
      refine Eval.icmpF rfl (tlt hc252).2.1 ?_
      refine Eval.aload_n rfl rfl ?_
      refine Eval.iload_n rfl rfl ?_
      refine Eval.callI (rest := []) (x := (j_inNodes v2)) (H1 := (W1 s R)) rfl rfl (ev_j_inNodes (W1 s R) 0 v2 rfl rfl) ?_
      by_cases hc253 : (j_inNodes v2) = (0 : Int32)
      · rw [if_pos hc253] at h
        refine Eval.ifF rfl (teq hc253).2 ?_
        cases h
        refine Eval.weak (L' := [none, none, none, some (.int v3), none]) ⟨_, _, rfl, Or.inl rfl, _, _, rfl, Or.inl rfl, _, _, rfl, Or.inl rfl, _, _, rfl, Or.inr rfl, _, _, rfl, Or.inl rfl, rfl⟩ ?_
        exact hk
      · rw [if_neg hc253] at h
        refine Eval.ifT (t := 29) rfl rfl (feq hc253).2 ?_
        refine Eval.iinc (L' := [some (.ref 0), none, some (.int v2), some (.int (v3 + (1 : Int32))), some (.int v4)]) rfl rfl rfl ?_
        refine Eval.aload_n rfl rfl ?_
        refine Eval.getfield rfl rfl own_g1_prv1 ?_
        refine Eval.iload_n rfl rfl ?_
        obtain ⟨hb254, h⟩ := ite_some h
        refine Eval.iaload rfl own_a1_prv1 hb254 ?_
        refine Eval.istore_n (L' := [some (.ref 0), none, some (.int (rd s.f_prv1 v2)), some (.int (v3 + (1 : Int32))), some (.int v4)]) rfl rfl ?_
        refine Eval.iinc (L' := [some (.ref 0), none, some (.int (rd s.f_prv1 v2)), some (.int (v3 + (1 : Int32))), some (.int (v4 + (1 : Int32)))]) rfl rfl rfl ?_
        refine Eval.goto (t := 12) rfl rfl ?_
        exact hrec _ _ _ _ h hk
    · rw [if_neg hc252] at h
      refine Eval.icmpT (t := 45) rfl rfl (flt hc252).2.1 ?_
      cases h
      refine Eval.weak (L' := [none, none, none, some (.int v3), none]) ⟨_, _, rfl, Or.inl rfl, _, _, rfl, Or.inl rfl, _, _, rfl, Or.inl rfl, _, _, rfl, Or.inr rfl, _, _, rfl, Or.inl rfl, rfl⟩ ?_
      exact hk
def j_aheadClh (s : Q) (v1 : Int32) : Option (Int32) := (if inb s.f_prv1.length v1 = true then ((j_aheadClh_l12 3000 s (rd s.f_prv1 v1) (0 : Int32) (0 : Int32)).bind fun p255 => Sum.elim (fun p257 => some (p257)) (fun p258 => some (p258)) p255) else none)
set_option maxRecDepth 100000 in
theorem ev_j_aheadClh (R : AHeap) (s : Q) (v1 : Int32) {res : Int32} {out : Option Value × AHeap} (h : j_aheadClh s v1 = some res) (hk : out = (some (.int res), (W1 s R))) : Eval own_P 20 0 [some (.ref 0), some (.int v1), none, none, none] [] (W1 s R) out := by
  rw [j_aheadClh] at h
  refine Eval.aload_n rfl rfl ?_
  refine Eval.getfield rfl rfl own_g1_prv1 ?_
  refine Eval.iload_n rfl rfl ?_
  obtain ⟨hb251, h⟩ := ite_some h
  refine Eval.iaload rfl own_a1_prv1 hb251 ?_
  refine Eval.istore_n (L' := [some (.ref 0), some (.int v1), some (.int (rd s.f_prv1 v1)), none, none]) rfl rfl ?_
  refine Eval.iconst (x := (0 : Int32)) rfl rfl ?_
  refine Eval.istore_n (L' := [some (.ref 0), some (.int v1), some (.int (rd s.f_prv1 v1)), some (.int (0 : Int32)), none]) rfl rfl ?_
  refine Eval.iconst (x := (0 : Int32)) rfl rfl ?_
  refine Eval.istore (L' := [some (.ref 0), some (.int v1), some (.int (rd s.f_prv1 v1)), some (.int (0 : Int32)), some (.int (0 : Int32))]) rfl rfl ?_
  refine Eval.weak (L' := [some (.ref 0), none, some (.int (rd s.f_prv1 v1)), some (.int (0 : Int32)), some (.int (0 : Int32))]) ⟨_, _, rfl, Or.inr rfl, _, _, rfl, Or.inl rfl, _, _, rfl, Or.inr rfl, _, _, rfl, Or.inr rfl, _, _, rfl, Or.inr rfl, rfl⟩ ?_
  obtain ⟨p255, hq256, h⟩ := bind_some h
  rcases p255 with p257 | p258
  · dsimp only [Sum.elim] at h
    refine ev_j_aheadClh_l12 R _ s (rd s.f_prv1 v1) (0 : Int32) (0 : Int32) hq256 ?_
    show Eval own_P 20 27 [none, none, none, some (.int p257), none] [] (W1 s R) out
    refine Eval.iload_n rfl rfl ?_
    cases h
    subst hk
    exact Eval.ret rfl rfl
  · dsimp only [Sum.elim] at h
    refine ev_j_aheadClh_l12 R _ s (rd s.f_prv1 v1) (0 : Int32) (0 : Int32) hq256 ?_
    show Eval own_P 20 45 [none, none, none, some (.int p258), none] [] (W1 s R) out
    refine Eval.iload_n rfl rfl ?_
    cases h
    subst hk
    exact Eval.ret rfl rfl
def j_ahead (s : Q) (v1 : Int32) : Option (Int32) := (if (j_validThread s v1) = (0 : Int32) then some ((-2 : Int32)) else (if inb s.f_st.length v1 = true then (if (rd s.f_st v1) = (0 : Int32) then some ((-1 : Int32)) else (if inb s.f_lk.length v1 = true then (if (rd s.f_lk v1) = (0 : Int32) then ((j_aheadMcs s v1).bind fun p249 => some (p249)) else ((j_aheadClh s v1).bind fun p259 => some (p259))) else none)) else none))
set_option maxRecDepth 100000 in
theorem ev_j_ahead (R : AHeap) (s : Q) (v1 : Int32) {res : Int32} {out : Option Value × AHeap} (h : j_ahead s v1 = some res) (hk : out = (some (.int res), (W1 s R))) : Eval own_P 19 0 [some (.ref 0), some (.int v1)] [] (W1 s R) out := by
  rw [j_ahead] at h
  refine Eval.aload_n rfl rfl ?_
  refine Eval.iload_n rfl rfl ?_
  refine Eval.callI (rest := []) (x := (j_validThread s v1)) (H1 := (W1 s R)) rfl rfl (ev_j_validThread R s v1 rfl rfl) ?_
  by_cases hc233 : (j_validThread s v1) = (0 : Int32)
  · rw [if_pos hc233] at h
    refine Eval.ifF rfl (teq hc233).2 ?_
    refine Eval.bipush (x := (-2 : Int32)) rfl rfl ?_
    cases h
    subst hk
    exact Eval.ret rfl rfl
  · rw [if_neg hc233] at h
    refine Eval.ifT (t := 11) rfl rfl (feq hc233).2 ?_
    refine Eval.aload_n rfl rfl ?_
    refine Eval.getfield rfl rfl own_g1_st ?_
    refine Eval.iload_n rfl rfl ?_
    obtain ⟨hb234, h⟩ := ite_some h
    refine Eval.iaload rfl own_a1_st hb234 ?_
    by_cases hc235 : (rd s.f_st v1) = (0 : Int32)
    · rw [if_pos hc235] at h
      refine Eval.ifF rfl (teq hc235).2 ?_
      refine Eval.iconst (x := (-1 : Int32)) rfl rfl ?_
      cases h
      subst hk
      exact Eval.ret rfl rfl
    · rw [if_neg hc235] at h
      refine Eval.ifT (t := 22) rfl rfl (feq hc235).2 ?_
      refine Eval.aload_n rfl rfl ?_
      refine Eval.getfield rfl rfl own_g1_lk ?_
      refine Eval.iload_n rfl rfl ?_
      obtain ⟨hb236, h⟩ := ite_some h
      refine Eval.iaload rfl own_a1_lk hb236 ?_
      by_cases hc237 : (rd s.f_lk v1) = (0 : Int32)
      · rw [if_pos hc237] at h
        refine Eval.ifF rfl (teq hc237).2 ?_
        refine Eval.aload_n rfl rfl ?_
        refine Eval.iload_n rfl rfl ?_
        obtain ⟨p249, hq250, h⟩ := bind_some h
        refine Eval.callI (rest := []) (x := p249) (H1 := (W1 s R)) rfl rfl (ev_j_aheadMcs R s v1 hq250 rfl) ?_
        cases h
        subst hk
        exact Eval.ret rfl rfl
      · rw [if_neg hc237] at h
        refine Eval.ifT (t := 37) rfl rfl (feq hc237).2 ?_
        refine Eval.aload_n rfl rfl ?_
        refine Eval.iload_n rfl rfl ?_
        obtain ⟨p259, hq260, h⟩ := bind_some h
        refine Eval.callI (rest := []) (x := p259) (H1 := (W1 s R)) rfl rfl (ev_j_aheadClh R s v1 hq260 rfl) ?_
        cases h
        subst hk
        exact Eval.ret rfl rfl
def j_popFront_b85 (s : Q) (v1 : Int32) (v3 : Int32) : Option (Int32 × Q) := (if inb s.f_len.length v1 = true then (if inb s.f_len.length v1 = true then some (v3, (Q.mk s.f_st s.f_lk s.f_tmo s.f_spin s.f_nxt0 s.f_prv1 s.f_head s.f_tail (wr s.f_len v1 ((rd s.f_len v1) - (1 : Int32))) s.f_ent s.f_aband s.f_log s.f_hist s.f_n s.f_clk)) else none) else none)
theorem ln_j_popFront_b85 {s : Q} {v1 : Int32} {v3 : Int32} {res : Int32 × Q} (h : j_popFront_b85 s v1 v3 = some res) : Q.len res.2 = Q.len s := by
  rw [j_popFront_b85] at h
  obtain ⟨hb280, h⟩ := ite_some h
  obtain ⟨hb281, h⟩ := ite_some h
  have hr0 := Option.some.inj h
  subst hr0
  show Q.len (Q.mk s.f_st s.f_lk s.f_tmo s.f_spin s.f_nxt0 s.f_prv1 s.f_head s.f_tail (wr s.f_len v1 ((rd s.f_len v1) - (1 : Int32))) s.f_ent s.f_aband s.f_log s.f_hist s.f_n s.f_clk) = _
  exact (Eq.trans (show Q.len (Q.mk s.f_st s.f_lk s.f_tmo s.f_spin s.f_nxt0 s.f_prv1 s.f_head s.f_tail (wr s.f_len v1 ((rd s.f_len v1) - (1 : Int32))) s.f_ent s.f_aband s.f_log s.f_hist s.f_n s.f_clk) = Q.len s from own_lenmk.trans (by first | (simp only [len_wr, len_wrL] <;> rfl) | rfl)) rfl)
set_option maxRecDepth 100000 in
theorem ev_j_popFront_b85 (R : AHeap) (s : Q) (v1 : Int32) (v3 : Int32) {res : Int32 × Q} {out : Option Value × AHeap} (h : j_popFront_b85 s v1 v3 = some res) (hk : out = (some (.int res.1), (W1 res.2 R))) : Eval own_P 22 85 [some (.ref 0), some (.int v1), none, some (.int v3)] [] (W1 s R) out := by
  rw [j_popFront_b85] at h
  refine Eval.aload_n rfl rfl ?_
  refine Eval.getfield rfl rfl own_g1_len ?_
  refine Eval.iload_n rfl rfl ?_
  refine Eval.aload_n rfl rfl ?_
  refine Eval.getfield rfl rfl own_g1_len ?_
  refine Eval.iload_n rfl rfl ?_
  obtain ⟨hb280, h⟩ := ite_some h
  refine Eval.iaload rfl own_a1_len hb280 ?_
  refine Eval.iconst (x := (1 : Int32)) rfl rfl ?_
  refine Eval.isub rfl ?_
  obtain ⟨hb281, h⟩ := ite_some h
  refine Eval.iastore rfl rfl own_a1_len hb281 own_s1_len ?_
  refine Eval.iload_n rfl rfl ?_
  cases h
  subst hk
  exact Eval.retH own_mk1 rfl rfl
def j_popFront_b66 (s : Q) (v1 : Int32) (v3 : Int32) : Option (Int32 × Q) := (if inb s.f_head.length v1 = true then (if v3 = (-1 : Int32) then (if inb s.f_tail.length v1 = true then (j_popFront_b85 (Q.mk s.f_st s.f_lk s.f_tmo s.f_spin s.f_nxt0 s.f_prv1 (wr s.f_head v1 v3) (wr s.f_tail v1 (-1 : Int32)) s.f_len s.f_ent s.f_aband s.f_log s.f_hist s.f_n s.f_clk) v1 v3) else none) else (j_popFront_b85 (Q.mk s.f_st s.f_lk s.f_tmo s.f_spin s.f_nxt0 s.f_prv1 (wr s.f_head v1 v3) s.f_tail s.f_len s.f_ent s.f_aband s.f_log s.f_hist s.f_n s.f_clk) v1 v3)) else none)
theorem ln_j_popFront_b66 {s : Q} {v1 : Int32} {v3 : Int32} {res : Int32 × Q} (h : j_popFront_b66 s v1 v3 = some res) : Q.len res.2 = Q.len s := by
  rw [j_popFront_b66] at h
  obtain ⟨hb276, h⟩ := ite_some h
  by_cases hc278 : v3 = (-1 : Int32)
  · rw [if_pos hc278] at h
    obtain ⟨hb279, h⟩ := ite_some h
    exact Eq.trans (ln_j_popFront_b85 h) (Eq.trans (show Q.len (Q.mk s.f_st s.f_lk s.f_tmo s.f_spin s.f_nxt0 s.f_prv1 (wr s.f_head v1 v3) (wr s.f_tail v1 (-1 : Int32)) s.f_len s.f_ent s.f_aband s.f_log s.f_hist s.f_n s.f_clk) = Q.len s from own_lenmk.trans (by first | (simp only [len_wr, len_wrL] <;> rfl) | rfl)) rfl)
  · rw [if_neg hc278] at h
    exact Eq.trans (ln_j_popFront_b85 h) (Eq.trans (show Q.len (Q.mk s.f_st s.f_lk s.f_tmo s.f_spin s.f_nxt0 s.f_prv1 (wr s.f_head v1 v3) s.f_tail s.f_len s.f_ent s.f_aband s.f_log s.f_hist s.f_n s.f_clk) = Q.len s from own_lenmk.trans (by first | (simp only [len_wr, len_wrL] <;> rfl) | rfl)) rfl)
set_option maxRecDepth 100000 in
theorem ev_j_popFront_b66 (R : AHeap) (s : Q) (v1 : Int32) (v3 : Int32) {res : Int32 × Q} {out : Option Value × AHeap} (h : j_popFront_b66 s v1 v3 = some res) (hk : out = (some (.int res.1), (W1 res.2 R))) : Eval own_P 22 66 [some (.ref 0), some (.int v1), none, some (.int v3)] [] (W1 s R) out := by
  rw [j_popFront_b66] at h
  refine Eval.aload_n rfl rfl ?_
  refine Eval.getfield rfl rfl own_g1_head ?_
  refine Eval.iload_n rfl rfl ?_
  refine Eval.iload_n rfl rfl ?_
  obtain ⟨hb276, h⟩ := ite_some h
  refine Eval.iastore rfl rfl own_a1_head hb276 own_s1_head ?_
  refine Eval.iload_n rfl rfl ?_
  refine Eval.iconst (x := (-1 : Int32)) rfl rfl ?_
  by_cases hc278 : v3 = (-1 : Int32)
  · rw [if_pos hc278] at h
    refine Eval.icmpF rfl (teq hc278).2 ?_
    refine Eval.aload_n rfl rfl ?_
    refine Eval.getfield rfl rfl own_g1_tail ?_
    refine Eval.iload_n rfl rfl ?_
    refine Eval.iconst (x := (-1 : Int32)) rfl rfl ?_
    obtain ⟨hb279, h⟩ := ite_some h
    refine Eval.iastore rfl rfl own_a1_tail hb279 own_s1_tail ?_
    refine Eval.heap own_mk1 ?_
    exact ev_j_popFront_b85 R (Q.mk s.f_st s.f_lk s.f_tmo s.f_spin s.f_nxt0 s.f_prv1 (wr s.f_head v1 v3) (wr s.f_tail v1 (-1 : Int32)) s.f_len s.f_ent s.f_aband s.f_log s.f_hist s.f_n s.f_clk) v1 v3 h hk
  · rw [if_neg hc278] at h
    refine Eval.icmpT (t := 85) rfl rfl (feq hc278).2 ?_
    refine Eval.heap own_mk1 ?_
    exact ev_j_popFront_b85 R (Q.mk s.f_st s.f_lk s.f_tmo s.f_spin s.f_nxt0 s.f_prv1 (wr s.f_head v1 v3) s.f_tail s.f_len s.f_ent s.f_aband s.f_log s.f_hist s.f_n s.f_clk) v1 v3 h hk
def j_popFront_b59 (s : Q) (v1 : Int32) (v2 : Int32) (v3 : Int32) : Option (Int32 × Q) := (if inb s.f_prv1.length v2 = true then (j_popFront_b66 (Q.mk s.f_st s.f_lk s.f_tmo s.f_spin s.f_nxt0 (wr s.f_prv1 v2 (-1 : Int32)) s.f_head s.f_tail s.f_len s.f_ent s.f_aband s.f_log s.f_hist s.f_n s.f_clk) v1 v3) else none)
theorem ln_j_popFront_b59 {s : Q} {v1 : Int32} {v2 : Int32} {v3 : Int32} {res : Int32 × Q} (h : j_popFront_b59 s v1 v2 v3 = some res) : Q.len res.2 = Q.len s := by
  rw [j_popFront_b59] at h
  obtain ⟨hb286, h⟩ := ite_some h
  exact Eq.trans (ln_j_popFront_b66 h) (Eq.trans (show Q.len (Q.mk s.f_st s.f_lk s.f_tmo s.f_spin s.f_nxt0 (wr s.f_prv1 v2 (-1 : Int32)) s.f_head s.f_tail s.f_len s.f_ent s.f_aband s.f_log s.f_hist s.f_n s.f_clk) = Q.len s from own_lenmk.trans (by first | (simp only [len_wr, len_wrL] <;> rfl) | rfl)) rfl)
set_option maxRecDepth 100000 in
theorem ev_j_popFront_b59 (R : AHeap) (s : Q) (v1 : Int32) (v2 : Int32) (v3 : Int32) {res : Int32 × Q} {out : Option Value × AHeap} (h : j_popFront_b59 s v1 v2 v3 = some res) (hk : out = (some (.int res.1), (W1 res.2 R))) : Eval own_P 22 59 [some (.ref 0), some (.int v1), some (.int v2), some (.int v3)] [] (W1 s R) out := by
  rw [j_popFront_b59] at h
  refine Eval.aload_n rfl rfl ?_
  refine Eval.getfield rfl rfl own_g1_prv1 ?_
  refine Eval.iload_n rfl rfl ?_
  refine Eval.iconst (x := (-1 : Int32)) rfl rfl ?_
  obtain ⟨hb286, h⟩ := ite_some h
  refine Eval.iastore rfl rfl own_a1_prv1 hb286 own_s1_prv1 ?_
  refine Eval.heap own_mk1 ?_
  refine Eval.weak (L' := [some (.ref 0), some (.int v1), none, some (.int v3)]) ⟨_, _, rfl, Or.inr rfl, _, _, rfl, Or.inr rfl, _, _, rfl, Or.inl rfl, _, _, rfl, Or.inr rfl, rfl⟩ ?_
  exact ev_j_popFront_b66 R (Q.mk s.f_st s.f_lk s.f_tmo s.f_spin s.f_nxt0 (wr s.f_prv1 v2 (-1 : Int32)) s.f_head s.f_tail s.f_len s.f_ent s.f_aband s.f_log s.f_hist s.f_n s.f_clk) v1 v3 h hk
def j_popFront (s : Q) (v1 : Int32) : Option (Int32 × Q) := (if inb s.f_head.length v1 = true then (if (j_inNodes (rd s.f_head v1)) = (0 : Int32) then some ((-1 : Int32), s) else (if v1 = (0 : Int32) then (if inb s.f_nxt0.length (rd s.f_head v1) = true then (if inb s.f_nxt0.length (rd s.f_head v1) = true then (j_popFront_b66 (Q.mk s.f_st s.f_lk s.f_tmo s.f_spin (wr s.f_nxt0 (rd s.f_head v1) (-1 : Int32)) s.f_prv1 s.f_head s.f_tail s.f_len s.f_ent s.f_aband s.f_log s.f_hist s.f_n s.f_clk) v1 (rd s.f_nxt0 (rd s.f_head v1))) else none) else none) else ((j_successorClh s (rd s.f_head v1)).bind fun p282 => (if (j_inNodes p282) = (0 : Int32) then (j_popFront_b59 s v1 (rd s.f_head v1) p282) else (if inb s.f_prv1.length p282 = true then (j_popFront_b59 (Q.mk s.f_st s.f_lk s.f_tmo s.f_spin s.f_nxt0 (wr s.f_prv1 p282 (-1 : Int32)) s.f_head s.f_tail s.f_len s.f_ent s.f_aband s.f_log s.f_hist s.f_n s.f_clk) v1 (rd s.f_head v1) p282) else none))))) else none)
theorem ln_j_popFront {s : Q} {v1 : Int32} {res : Int32 × Q} (h : j_popFront s v1 = some res) : Q.len res.2 = Q.len s := by
  rw [j_popFront] at h
  obtain ⟨hb270, h⟩ := ite_some h
  by_cases hc271 : (j_inNodes (rd s.f_head v1)) = (0 : Int32)
  · rw [if_pos hc271] at h
    have hr0 := Option.some.inj h
    subst hr0
    show Q.len s = _
    exact rfl
  · rw [if_neg hc271] at h
    by_cases hc273 : v1 = (0 : Int32)
    · rw [if_pos hc273] at h
      obtain ⟨hb274, h⟩ := ite_some h
      obtain ⟨hb275, h⟩ := ite_some h
      exact Eq.trans (ln_j_popFront_b66 h) (Eq.trans (show Q.len (Q.mk s.f_st s.f_lk s.f_tmo s.f_spin (wr s.f_nxt0 (rd s.f_head v1) (-1 : Int32)) s.f_prv1 s.f_head s.f_tail s.f_len s.f_ent s.f_aband s.f_log s.f_hist s.f_n s.f_clk) = Q.len s from own_lenmk.trans (by first | (simp only [len_wr, len_wrL] <;> rfl) | rfl)) rfl)
    · rw [if_neg hc273] at h
      obtain ⟨p282, hq283, h⟩ := bind_some h
      by_cases hc285 : (j_inNodes p282) = (0 : Int32)
      · rw [if_pos hc285] at h
        exact Eq.trans (ln_j_popFront_b59 h) rfl
      · rw [if_neg hc285] at h
        obtain ⟨hb287, h⟩ := ite_some h
        exact Eq.trans (ln_j_popFront_b59 h) (Eq.trans (show Q.len (Q.mk s.f_st s.f_lk s.f_tmo s.f_spin s.f_nxt0 (wr s.f_prv1 p282 (-1 : Int32)) s.f_head s.f_tail s.f_len s.f_ent s.f_aband s.f_log s.f_hist s.f_n s.f_clk) = Q.len s from own_lenmk.trans (by first | (simp only [len_wr, len_wrL] <;> rfl) | rfl)) rfl)
set_option maxRecDepth 100000 in
theorem ev_j_popFront (R : AHeap) (s : Q) (v1 : Int32) {res : Int32 × Q} {out : Option Value × AHeap} (h : j_popFront s v1 = some res) (hk : out = (some (.int res.1), (W1 res.2 R))) : Eval own_P 22 0 [some (.ref 0), some (.int v1), none, none] [] (W1 s R) out := by
  rw [j_popFront] at h
  refine Eval.aload_n rfl rfl ?_
  refine Eval.getfield rfl rfl own_g1_head ?_
  refine Eval.iload_n rfl rfl ?_
  obtain ⟨hb270, h⟩ := ite_some h
  refine Eval.iaload rfl own_a1_head hb270 ?_
  refine Eval.istore_n (L' := [some (.ref 0), some (.int v1), some (.int (rd s.f_head v1)), none]) rfl rfl ?_
  refine Eval.aload_n rfl rfl ?_
  refine Eval.iload_n rfl rfl ?_
  refine Eval.callI (rest := []) (x := (j_inNodes (rd s.f_head v1))) (H1 := (W1 s R)) rfl rfl (ev_j_inNodes (W1 s R) 0 (rd s.f_head v1) rfl rfl) ?_
  by_cases hc271 : (j_inNodes (rd s.f_head v1)) = (0 : Int32)
  · rw [if_pos hc271] at h
    refine Eval.ifF rfl (teq hc271).2 ?_
    refine Eval.iconst (x := (-1 : Int32)) rfl rfl ?_
    cases h
    subst hk
    exact Eval.ret rfl rfl
  · rw [if_neg hc271] at h
    refine Eval.ifT (t := 17) rfl rfl (feq hc271).2 ?_
    refine Eval.iload_n rfl rfl ?_
    by_cases hc273 : v1 = (0 : Int32)
    · rw [if_pos hc273] at h
      refine Eval.ifF rfl (teq hc273).2 ?_
      refine Eval.aload_n rfl rfl ?_
      refine Eval.getfield rfl rfl own_g1_nxt0 ?_
      refine Eval.iload_n rfl rfl ?_
      obtain ⟨hb274, h⟩ := ite_some h
      refine Eval.iaload rfl own_a1_nxt0 hb274 ?_
      refine Eval.istore_n (L' := [some (.ref 0), some (.int v1), some (.int (rd s.f_head v1)), some (.int (rd s.f_nxt0 (rd s.f_head v1)))]) rfl rfl ?_
      refine Eval.aload_n rfl rfl ?_
      refine Eval.getfield rfl rfl own_g1_nxt0 ?_
      refine Eval.iload_n rfl rfl ?_
      refine Eval.iconst (x := (-1 : Int32)) rfl rfl ?_
      obtain ⟨hb275, h⟩ := ite_some h
      refine Eval.iastore rfl rfl own_a1_nxt0 hb275 own_s1_nxt0 ?_
      refine Eval.goto (t := 66) rfl rfl ?_
      refine Eval.heap own_mk1 ?_
      refine Eval.weak (L' := [some (.ref 0), some (.int v1), none, some (.int (rd s.f_nxt0 (rd s.f_head v1)))]) ⟨_, _, rfl, Or.inr rfl, _, _, rfl, Or.inr rfl, _, _, rfl, Or.inl rfl, _, _, rfl, Or.inr rfl, rfl⟩ ?_
      exact ev_j_popFront_b66 R (Q.mk s.f_st s.f_lk s.f_tmo s.f_spin (wr s.f_nxt0 (rd s.f_head v1) (-1 : Int32)) s.f_prv1 s.f_head s.f_tail s.f_len s.f_ent s.f_aband s.f_log s.f_hist s.f_n s.f_clk) v1 (rd s.f_nxt0 (rd s.f_head v1)) h hk
    · rw [if_neg hc273] at h
      refine Eval.ifT (t := 38) rfl rfl (feq hc273).2 ?_
      refine Eval.aload_n rfl rfl ?_
      refine Eval.iload_n rfl rfl ?_
      obtain ⟨p282, hq283, h⟩ := bind_some h
      refine Eval.callI (rest := []) (x := p282) (H1 := (W1 s R)) rfl rfl (ev_j_successorClh R s (rd s.f_head v1) hq283 rfl) ?_
      refine Eval.istore_n (L' := [some (.ref 0), some (.int v1), some (.int (rd s.f_head v1)), some (.int p282)]) rfl rfl ?_
      refine Eval.aload_n rfl rfl ?_
      refine Eval.iload_n rfl rfl ?_
      refine Eval.callI (rest := []) (x := (j_inNodes p282)) (H1 := (W1 s R)) rfl rfl (ev_j_inNodes (W1 s R) 0 p282 rfl rfl) ?_
      by_cases hc285 : (j_inNodes p282) = (0 : Int32)
      · rw [if_pos hc285] at h
        refine Eval.ifT (t := 59) rfl rfl (teq hc285).1 ?_
        exact ev_j_popFront_b59 R s v1 (rd s.f_head v1) p282 h hk
      · rw [if_neg hc285] at h
        refine Eval.ifF rfl (feq hc285).1 ?_
        refine Eval.aload_n rfl rfl ?_
        refine Eval.getfield rfl rfl own_g1_prv1 ?_
        refine Eval.iload_n rfl rfl ?_
        refine Eval.iconst (x := (-1 : Int32)) rfl rfl ?_
        obtain ⟨hb287, h⟩ := ite_some h
        refine Eval.iastore rfl rfl own_a1_prv1 hb287 own_s1_prv1 ?_
        refine Eval.heap own_mk1 ?_
        exact ev_j_popFront_b59 R (Q.mk s.f_st s.f_lk s.f_tmo s.f_spin s.f_nxt0 (wr s.f_prv1 p282 (-1 : Int32)) s.f_head s.f_tail s.f_len s.f_ent s.f_aband s.f_log s.f_hist s.f_n s.f_clk) v1 (rd s.f_head v1) p282 h hk
def j_release_b76 (s : Q) (v3 : Int32) : Option (Int32 × Q) := ((j_recordHistory s).bind fun p295 => some (v3, p295))
theorem ln_j_release_b76 {s : Q} {v3 : Int32} {res : Int32 × Q} (h : j_release_b76 s v3 = some res) : Q.len res.2 = Q.len s := by
  rw [j_release_b76] at h
  obtain ⟨p295, hq296, h⟩ := bind_some h
  have hl297 := (ln_j_recordHistory hq296).trans rfl
  have hr0 := Option.some.inj h
  subst hr0
  show Q.len p295 = _
  exact hl297
set_option maxRecDepth 100000 in
theorem ev_j_release_b76 (R : AHeap) (s : Q) (v3 : Int32) {res : Int32 × Q} {out : Option Value × AHeap} (h : j_release_b76 s v3 = some res) (hk : out = (some (.int res.1), (W1 res.2 R))) : Eval own_P 21 76 [some (.ref 0), none, none, some (.int v3)] [] (W1 s R) out := by
  rw [j_release_b76] at h
  refine Eval.aload_n rfl rfl ?_
  obtain ⟨p295, hq296, h⟩ := bind_some h
  refine Eval.callN (rest := []) (H1 := (W1 p295 R)) rfl rfl (ev_j_recordHistory R s hq296 rfl) ?_
  refine Eval.iload_n rfl rfl ?_
  cases h
  subst hk
  exact Eval.ret rfl rfl
def j_release (s : Q) (v1 : Int32) : Option (Int32 × Q) := (if (j_validThread s v1) = (0 : Int32) then some ((-2 : Int32), s) else (if inb s.f_st.length v1 = true then (if (rd s.f_st v1) = (3 : Int32) then (if inb s.f_lk.length v1 = true then ((j_popFront (Q.mk s.f_st s.f_lk s.f_tmo s.f_spin s.f_nxt0 s.f_prv1 s.f_head s.f_tail s.f_len s.f_ent s.f_aband s.f_log s.f_hist s.f_n (s.f_clk + (1 : Int32))) (rd s.f_lk v1)).bind fun p288 => (if inb p288.2.f_st.length v1 = true then (if inb p288.2.f_lk.length v1 = true then (if (j_inNodes p288.1) = (0 : Int32) then (j_release_b76 (Q.mk (wr p288.2.f_st v1 (0 : Int32)) (wr p288.2.f_lk v1 (-1 : Int32)) p288.2.f_tmo p288.2.f_spin p288.2.f_nxt0 p288.2.f_prv1 p288.2.f_head p288.2.f_tail p288.2.f_len p288.2.f_ent p288.2.f_aband p288.2.f_log p288.2.f_hist p288.2.f_n p288.2.f_clk) p288.1) else (if inb (wr p288.2.f_st v1 (0 : Int32)).length p288.1 = true then (j_release_b76 (Q.mk (wr (wr p288.2.f_st v1 (0 : Int32)) p288.1 (2 : Int32)) (wr p288.2.f_lk v1 (-1 : Int32)) p288.2.f_tmo p288.2.f_spin p288.2.f_nxt0 p288.2.f_prv1 p288.2.f_head p288.2.f_tail p288.2.f_len p288.2.f_ent p288.2.f_aband p288.2.f_log p288.2.f_hist p288.2.f_n p288.2.f_clk) p288.1) else none)) else none) else none)) else none) else some ((-2 : Int32), s)) else none))
theorem ln_j_release {s : Q} {v1 : Int32} {res : Int32 × Q} (h : j_release s v1 = some res) : Q.len res.2 = Q.len s := by
  rw [j_release] at h
  by_cases hc266 : (j_validThread s v1) = (0 : Int32)
  · rw [if_pos hc266] at h
    have hr0 := Option.some.inj h
    subst hr0
    show Q.len s = _
    exact rfl
  · rw [if_neg hc266] at h
    obtain ⟨hb267, h⟩ := ite_some h
    by_cases hc268 : (rd s.f_st v1) = (3 : Int32)
    · rw [if_pos hc268] at h
      obtain ⟨hb269, h⟩ := ite_some h
      obtain ⟨p288, hq289, h⟩ := bind_some h
      have hl290 := (ln_j_popFront hq289).trans (Eq.trans (show Q.len (Q.mk s.f_st s.f_lk s.f_tmo s.f_spin s.f_nxt0 s.f_prv1 s.f_head s.f_tail s.f_len s.f_ent s.f_aband s.f_log s.f_hist s.f_n (s.f_clk + (1 : Int32))) = Q.len s from own_lenmk.trans (by first | (simp only [len_wr, len_wrL] <;> rfl) | rfl)) rfl)
      obtain ⟨hb291, h⟩ := ite_some h
      obtain ⟨hb292, h⟩ := ite_some h
      by_cases hc294 : (j_inNodes p288.1) = (0 : Int32)
      · rw [if_pos hc294] at h
        exact Eq.trans (ln_j_release_b76 h) (Eq.trans (show Q.len (Q.mk (wr p288.2.f_st v1 (0 : Int32)) (wr p288.2.f_lk v1 (-1 : Int32)) p288.2.f_tmo p288.2.f_spin p288.2.f_nxt0 p288.2.f_prv1 p288.2.f_head p288.2.f_tail p288.2.f_len p288.2.f_ent p288.2.f_aband p288.2.f_log p288.2.f_hist p288.2.f_n p288.2.f_clk) = Q.len p288.2 from own_lenmk.trans (by first | (simp only [len_wr, len_wrL] <;> rfl) | rfl)) hl290)
      · rw [if_neg hc294] at h
        obtain ⟨hb298, h⟩ := ite_some h
        exact Eq.trans (ln_j_release_b76 h) (Eq.trans (show Q.len (Q.mk (wr (wr p288.2.f_st v1 (0 : Int32)) p288.1 (2 : Int32)) (wr p288.2.f_lk v1 (-1 : Int32)) p288.2.f_tmo p288.2.f_spin p288.2.f_nxt0 p288.2.f_prv1 p288.2.f_head p288.2.f_tail p288.2.f_len p288.2.f_ent p288.2.f_aband p288.2.f_log p288.2.f_hist p288.2.f_n p288.2.f_clk) = Q.len p288.2 from own_lenmk.trans (by first | (simp only [len_wr, len_wrL] <;> rfl) | rfl)) hl290)
    · rw [if_neg hc268] at h
      have hr0 := Option.some.inj h
      subst hr0
      show Q.len s = _
      exact rfl
set_option maxRecDepth 100000 in
theorem ev_j_release (R : AHeap) (s : Q) (v1 : Int32) {res : Int32 × Q} {out : Option Value × AHeap} (h : j_release s v1 = some res) (hk : out = (some (.int res.1), (W1 res.2 R))) : Eval own_P 21 0 [some (.ref 0), some (.int v1), none, none] [] (W1 s R) out := by
  rw [j_release] at h
  refine Eval.aload_n rfl rfl ?_
  refine Eval.iload_n rfl rfl ?_
  refine Eval.callI (rest := []) (x := (j_validThread s v1)) (H1 := (W1 s R)) rfl rfl (ev_j_validThread R s v1 rfl rfl) ?_
  by_cases hc266 : (j_validThread s v1) = (0 : Int32)
  · rw [if_pos hc266] at h
    refine Eval.ifF rfl (teq hc266).2 ?_
    refine Eval.bipush (x := (-2 : Int32)) rfl rfl ?_
    cases h
    subst hk
    exact Eval.ret rfl rfl
  · rw [if_neg hc266] at h
    refine Eval.ifT (t := 11) rfl rfl (feq hc266).2 ?_
    refine Eval.aload_n rfl rfl ?_
    refine Eval.getfield rfl rfl own_g1_st ?_
    refine Eval.iload_n rfl rfl ?_
    obtain ⟨hb267, h⟩ := ite_some h
    refine Eval.iaload rfl own_a1_st hb267 ?_
    refine Eval.iconst (x := (3 : Int32)) rfl rfl ?_
    by_cases hc268 : (rd s.f_st v1) = (3 : Int32)
    · rw [if_pos hc268] at h
      refine Eval.icmpT (t := 24) rfl rfl (teq hc268).1 ?_
      refine Eval.aload_n rfl rfl ?_
      refine Eval.aload_n rfl rfl ?_
      refine Eval.getfield rfl rfl own_g1_clk ?_
      refine Eval.iconst (x := (1 : Int32)) rfl rfl ?_
      refine Eval.iadd rfl ?_
      refine Eval.putfield rfl rfl own_p1_clk ?_
      refine Eval.aload_n rfl rfl ?_
      refine Eval.getfield rfl rfl own_g1_lk ?_
      refine Eval.iload_n rfl rfl ?_
      obtain ⟨hb269, h⟩ := ite_some h
      refine Eval.iaload rfl own_a1_lk hb269 ?_
      refine Eval.istore_n (L' := [some (.ref 0), some (.int v1), some (.int (rd s.f_lk v1)), none]) rfl rfl ?_
      refine Eval.aload_n rfl rfl ?_
      refine Eval.iload_n rfl rfl ?_
      obtain ⟨p288, hq289, h⟩ := bind_some h
      refine Eval.callI (rest := []) (x := p288.1) (H1 := (W1 p288.2 R)) rfl rfl (Eval.heap own_mk1 (ev_j_popFront R (Q.mk s.f_st s.f_lk s.f_tmo s.f_spin s.f_nxt0 s.f_prv1 s.f_head s.f_tail s.f_len s.f_ent s.f_aband s.f_log s.f_hist s.f_n (s.f_clk + (1 : Int32))) (rd s.f_lk v1) hq289 rfl)) ?_
      refine Eval.istore_n (L' := [some (.ref 0), some (.int v1), some (.int (rd s.f_lk v1)), some (.int p288.1)]) rfl rfl ?_
      refine Eval.aload_n rfl rfl ?_
      refine Eval.getfield rfl rfl own_g1_st ?_
      refine Eval.iload_n rfl rfl ?_
      refine Eval.iconst (x := (0 : Int32)) rfl rfl ?_
      obtain ⟨hb291, h⟩ := ite_some h
      refine Eval.iastore rfl rfl own_a1_st hb291 own_s1_st ?_
      refine Eval.aload_n rfl rfl ?_
      refine Eval.getfield rfl rfl own_g1_lk ?_
      refine Eval.iload_n rfl rfl ?_
      refine Eval.iconst (x := (-1 : Int32)) rfl rfl ?_
      obtain ⟨hb292, h⟩ := ite_some h
      refine Eval.iastore rfl rfl own_a1_lk hb292 own_s1_lk ?_
      refine Eval.aload_n rfl rfl ?_
      refine Eval.iload_n rfl rfl ?_
      refine Eval.callI (rest := []) (x := (j_inNodes p288.1)) (H1 := (C1 (wr p288.2.f_st v1 (0 : Int32)) (wr p288.2.f_lk v1 (-1 : Int32)) p288.2.f_tmo p288.2.f_spin p288.2.f_nxt0 p288.2.f_prv1 p288.2.f_head p288.2.f_tail p288.2.f_len p288.2.f_ent p288.2.f_aband p288.2.f_log p288.2.f_hist p288.2.f_n p288.2.f_clk R)) rfl rfl (ev_j_inNodes (C1 (wr p288.2.f_st v1 (0 : Int32)) (wr p288.2.f_lk v1 (-1 : Int32)) p288.2.f_tmo p288.2.f_spin p288.2.f_nxt0 p288.2.f_prv1 p288.2.f_head p288.2.f_tail p288.2.f_len p288.2.f_ent p288.2.f_aband p288.2.f_log p288.2.f_hist p288.2.f_n p288.2.f_clk R) 0 p288.1 rfl rfl) ?_
      by_cases hc294 : (j_inNodes p288.1) = (0 : Int32)
      · rw [if_pos hc294] at h
        refine Eval.ifT (t := 76) rfl rfl (teq hc294).1 ?_
        refine Eval.heap own_mk1 ?_
        refine Eval.weak (L' := [some (.ref 0), none, none, some (.int p288.1)]) ⟨_, _, rfl, Or.inr rfl, _, _, rfl, Or.inl rfl, _, _, rfl, Or.inl rfl, _, _, rfl, Or.inr rfl, rfl⟩ ?_
        exact ev_j_release_b76 R (Q.mk (wr p288.2.f_st v1 (0 : Int32)) (wr p288.2.f_lk v1 (-1 : Int32)) p288.2.f_tmo p288.2.f_spin p288.2.f_nxt0 p288.2.f_prv1 p288.2.f_head p288.2.f_tail p288.2.f_len p288.2.f_ent p288.2.f_aband p288.2.f_log p288.2.f_hist p288.2.f_n p288.2.f_clk) p288.1 h hk
      · rw [if_neg hc294] at h
        refine Eval.ifF rfl (feq hc294).1 ?_
        refine Eval.aload_n rfl rfl ?_
        refine Eval.getfield rfl rfl own_g1_st ?_
        refine Eval.iload_n rfl rfl ?_
        refine Eval.iconst (x := (2 : Int32)) rfl rfl ?_
        obtain ⟨hb298, h⟩ := ite_some h
        refine Eval.iastore rfl rfl own_a1_st hb298 own_s1_st ?_
        refine Eval.heap own_mk1 ?_
        refine Eval.weak (L' := [some (.ref 0), none, none, some (.int p288.1)]) ⟨_, _, rfl, Or.inr rfl, _, _, rfl, Or.inl rfl, _, _, rfl, Or.inl rfl, _, _, rfl, Or.inr rfl, rfl⟩ ?_
        exact ev_j_release_b76 R (Q.mk (wr (wr p288.2.f_st v1 (0 : Int32)) p288.1 (2 : Int32)) (wr p288.2.f_lk v1 (-1 : Int32)) p288.2.f_tmo p288.2.f_spin p288.2.f_nxt0 p288.2.f_prv1 p288.2.f_head p288.2.f_tail p288.2.f_len p288.2.f_ent p288.2.f_aband p288.2.f_log p288.2.f_hist p288.2.f_n p288.2.f_clk) p288.1 h hk
    · rw [if_neg hc268] at h
      refine Eval.icmpF rfl (feq hc268).1 ?_
      refine Eval.bipush (x := (-2 : Int32)) rfl rfl ?_
      cases h
      subst hk
      exact Eval.ret rfl rfl
def j_clock (s : Q) : Int32 := (s.f_clk)
set_option maxRecDepth 100000 in
theorem ev_j_clock (R : AHeap) (s : Q) {res : Int32} {out : Option Value × AHeap} (h : j_clock s = res) (hk : out = (some (.int res), (W1 s R))) : Eval own_P 23 0 [some (.ref 0)] [] (W1 s R) out := by
  rw [j_clock] at h
  refine Eval.aload_n rfl rfl ?_
  refine Eval.getfield rfl rfl own_g1_clk ?_
  subst h
  subst hk
  exact Eval.ret rfl rfl
def j_entries (s : Q) (v1 : Int32) : Option (Int32) := (if (j_validLock v1) = (0 : Int32) then some ((-2 : Int32)) else (if inb s.f_ent.length v1 = true then some ((rd s.f_ent v1)) else none))
set_option maxRecDepth 100000 in
theorem ev_j_entries (R : AHeap) (s : Q) (v1 : Int32) {res : Int32} {out : Option Value × AHeap} (h : j_entries s v1 = some res) (hk : out = (some (.int res), (W1 s R))) : Eval own_P 24 0 [some (.ref 0), some (.int v1)] [] (W1 s R) out := by
  rw [j_entries] at h
  refine Eval.aload_n rfl rfl ?_
  refine Eval.iload_n rfl rfl ?_
  refine Eval.callI (rest := []) (x := (j_validLock v1)) (H1 := (W1 s R)) rfl rfl (ev_j_validLock (W1 s R) 0 v1 rfl rfl) ?_
  by_cases hc315 : (j_validLock v1) = (0 : Int32)
  · rw [if_pos hc315] at h
    refine Eval.ifF rfl (teq hc315).2 ?_
    refine Eval.bipush (x := (-2 : Int32)) rfl rfl ?_
    cases h
    subst hk
    exact Eval.ret rfl rfl
  · rw [if_neg hc315] at h
    refine Eval.ifT (t := 11) rfl rfl (feq hc315).2 ?_
    refine Eval.aload_n rfl rfl ?_
    refine Eval.getfield rfl rfl own_g1_ent ?_
    refine Eval.iload_n rfl rfl ?_
    obtain ⟨hb316, h⟩ := ite_some h
    refine Eval.iaload rfl own_a1_ent hb316 ?_
    cases h
    subst hk
    exact Eval.ret rfl rfl
def j_entryAt (s : Q) (v1 : Int32) (v2 : Int32) : Option (Int32) := (if (j_validLock v1) = (0 : Int32) then some ((-2 : Int32)) else (if v2 < (0 : Int32) then some ((-2 : Int32)) else (if inb s.f_ent.length v1 = true then (if v2 < (rd s.f_ent v1) then (if v2 < (64 : Int32) then (if inb s.f_log.length ((v1 * (64 : Int32)) + v2) = true then some ((rd s.f_log ((v1 * (64 : Int32)) + v2))) else none) else some ((-2 : Int32))) else some ((-2 : Int32))) else none)))
set_option maxRecDepth 100000 in
theorem ev_j_entryAt (R : AHeap) (s : Q) (v1 : Int32) (v2 : Int32) {res : Int32} {out : Option Value × AHeap} (h : j_entryAt s v1 v2 = some res) (hk : out = (some (.int res), (W1 s R))) : Eval own_P 25 0 [some (.ref 0), some (.int v1), some (.int v2)] [] (W1 s R) out := by
  rw [j_entryAt] at h
  refine Eval.aload_n rfl rfl ?_
  refine Eval.iload_n rfl rfl ?_
  refine Eval.callI (rest := []) (x := (j_validLock v1)) (H1 := (W1 s R)) rfl rfl (ev_j_validLock (W1 s R) 0 v1 rfl rfl) ?_
  by_cases hc320 : (j_validLock v1) = (0 : Int32)
  · rw [if_pos hc320] at h
    refine Eval.ifF rfl (teq hc320).2 ?_
    refine Eval.bipush (x := (-2 : Int32)) rfl rfl ?_
    cases h
    subst hk
    exact Eval.ret rfl rfl
  · rw [if_neg hc320] at h
    refine Eval.ifT (t := 11) rfl rfl (feq hc320).2 ?_
    refine Eval.iload_n rfl rfl ?_
    by_cases hc321 : v2 < (0 : Int32)
    · rw [if_pos hc321] at h
      refine Eval.ifT (t := 31) rfl rfl (tlt hc321).1 ?_
      refine Eval.bipush (x := (-2 : Int32)) rfl rfl ?_
      cases h
      subst hk
      exact Eval.ret rfl rfl
    · rw [if_neg hc321] at h
      refine Eval.ifF rfl (flt hc321).1 ?_
      refine Eval.iload_n rfl rfl ?_
      refine Eval.aload_n rfl rfl ?_
      refine Eval.getfield rfl rfl own_g1_ent ?_
      refine Eval.iload_n rfl rfl ?_
      obtain ⟨hb322, h⟩ := ite_some h
      refine Eval.iaload rfl own_a1_ent hb322 ?_
      by_cases hc323 : v2 < (rd s.f_ent v1)
      · rw [if_pos hc323] at h
        refine Eval.icmpF rfl (tlt hc323).2.1 ?_
        refine Eval.iload_n rfl rfl ?_
        refine Eval.bipush (x := (64 : Int32)) rfl rfl ?_
        by_cases hc324 : v2 < (64 : Int32)
        · rw [if_pos hc324] at h
          refine Eval.icmpT (t := 34) rfl rfl (tlt hc324).1 ?_
          refine Eval.aload_n rfl rfl ?_
          refine Eval.getfield rfl rfl own_g1_log ?_
          refine Eval.iload_n rfl rfl ?_
          refine Eval.bipush (x := (64 : Int32)) rfl rfl ?_
          refine Eval.imul rfl ?_
          refine Eval.iload_n rfl rfl ?_
          refine Eval.iadd rfl ?_
          obtain ⟨hb325, h⟩ := ite_some h
          refine Eval.iaload rfl own_a1_log hb325 ?_
          cases h
          subst hk
          exact Eval.ret rfl rfl
        · rw [if_neg hc324] at h
          refine Eval.icmpF rfl (flt hc324).1 ?_
          refine Eval.bipush (x := (-2 : Int32)) rfl rfl ?_
          cases h
          subst hk
          exact Eval.ret rfl rfl
      · rw [if_neg hc323] at h
        refine Eval.icmpT (t := 31) rfl rfl (flt hc323).2.1 ?_
        refine Eval.bipush (x := (-2 : Int32)) rfl rfl ?_
        cases h
        subst hk
        exact Eval.ret rfl rfl
def j_holderAt (s : Q) (v1 : Int32) (v2 : Int32) : Option (Int32) := (if (j_validLock v1) = (0 : Int32) then some ((-2 : Int32)) else (if v2 < (1 : Int32) then some ((-2 : Int32)) else (if s.f_clk < v2 then some ((-2 : Int32)) else (if (256 : Int32) < v2 then some ((-2 : Int32)) else (if inb s.f_hist.length (((v1 * (256 : Int32)) + v2) - (1 : Int32)) = true then some ((rd s.f_hist (((v1 * (256 : Int32)) + v2) - (1 : Int32)))) else none)))))
set_option maxRecDepth 100000 in
theorem ev_j_holderAt (R : AHeap) (s : Q) (v1 : Int32) (v2 : Int32) {res : Int32} {out : Option Value × AHeap} (h : j_holderAt s v1 v2 = some res) (hk : out = (some (.int res), (W1 s R))) : Eval own_P 26 0 [some (.ref 0), some (.int v1), some (.int v2)] [] (W1 s R) out := by
  rw [j_holderAt] at h
  refine Eval.aload_n rfl rfl ?_
  refine Eval.iload_n rfl rfl ?_
  refine Eval.callI (rest := []) (x := (j_validLock v1)) (H1 := (W1 s R)) rfl rfl (ev_j_validLock (W1 s R) 0 v1 rfl rfl) ?_
  by_cases hc332 : (j_validLock v1) = (0 : Int32)
  · rw [if_pos hc332] at h
    refine Eval.ifF rfl (teq hc332).2 ?_
    refine Eval.bipush (x := (-2 : Int32)) rfl rfl ?_
    cases h
    subst hk
    exact Eval.ret rfl rfl
  · rw [if_neg hc332] at h
    refine Eval.ifT (t := 11) rfl rfl (feq hc332).2 ?_
    refine Eval.iload_n rfl rfl ?_
    refine Eval.iconst (x := (1 : Int32)) rfl rfl ?_
    by_cases hc333 : v2 < (1 : Int32)
    · rw [if_pos hc333] at h
      refine Eval.icmpT (t := 31) rfl rfl (tlt hc333).1 ?_
      refine Eval.bipush (x := (-2 : Int32)) rfl rfl ?_
      cases h
      subst hk
      exact Eval.ret rfl rfl
    · rw [if_neg hc333] at h
      refine Eval.icmpF rfl (flt hc333).1 ?_
      refine Eval.iload_n rfl rfl ?_
      refine Eval.aload_n rfl rfl ?_
      refine Eval.getfield rfl rfl own_g1_clk ?_
      by_cases hc334 : s.f_clk < v2
      · rw [if_pos hc334] at h
        refine Eval.icmpT (t := 31) rfl rfl (tlt hc334).2.2.1 ?_
        refine Eval.bipush (x := (-2 : Int32)) rfl rfl ?_
        cases h
        subst hk
        exact Eval.ret rfl rfl
      · rw [if_neg hc334] at h
        refine Eval.icmpF rfl (flt hc334).2.2.1 ?_
        refine Eval.iload_n rfl rfl ?_
        refine Eval.sipush (x := (256 : Int32)) rfl rfl ?_
        by_cases hc335 : (256 : Int32) < v2
        · rw [if_pos hc335] at h
          refine Eval.icmpF rfl (tlt hc335).2.2.2 ?_
          refine Eval.bipush (x := (-2 : Int32)) rfl rfl ?_
          cases h
          subst hk
          exact Eval.ret rfl rfl
        · rw [if_neg hc335] at h
          refine Eval.icmpT (t := 34) rfl rfl (flt hc335).2.2.2 ?_
          refine Eval.aload_n rfl rfl ?_
          refine Eval.getfield rfl rfl own_g1_hist ?_
          refine Eval.iload_n rfl rfl ?_
          refine Eval.sipush (x := (256 : Int32)) rfl rfl ?_
          refine Eval.imul rfl ?_
          refine Eval.iload_n rfl rfl ?_
          refine Eval.iadd rfl ?_
          refine Eval.iconst (x := (1 : Int32)) rfl rfl ?_
          refine Eval.isub rfl ?_
          obtain ⟨hb336, h⟩ := ite_some h
          refine Eval.iaload rfl own_a1_hist hb336 ?_
          cases h
          subst hk
          exact Eval.ret rfl rfl
def law_b483 (s : Q) (v4 : Int32) (w0 : Int32) (w1 : Int32) : Option (Int32 × Q) := (if w0 = w1 then ((j_holder s ((1 : Int32) - v4)).bind fun p356 => (if p356 = (-1 : Int32) then ((j_queueLength s ((1 : Int32) - v4)).bind fun p359 => (if p359 = (0 : Int32) then some ((1 : Int32), s) else some ((0 : Int32), s))) else some ((0 : Int32), s))) else some ((0 : Int32), s))
set_option maxRecDepth 100000 in
theorem ev_law_b483 (s : Q) (v4 : Int32) (w0 : Int32) (w1 : Int32) {res : Int32 × Q} {out : Option Value × AHeap} (h : law_b483 s v4 w0 w1 = some res) (hk : out = (some (.int res.1), (W1 res.2 []))) : Eval own_P 0 483 [none, none, none, some (.ref 0), some (.int v4), none, none, none, none, none] [.int w1, .int w0] (W1 s []) out := by
  rw [law_b483] at h
  by_cases hc355 : w0 = w1
  · rw [if_pos hc355] at h
    refine Eval.icmpT (t := 488) rfl rfl (teq hc355).1 ?_
    refine Eval.aload_n rfl rfl ?_
    refine Eval.iconst (x := (1 : Int32)) rfl rfl ?_
    refine Eval.iload rfl rfl ?_
    refine Eval.isub rfl ?_
    obtain ⟨p356, hq357, h⟩ := bind_some h
    refine Eval.callI (rest := []) (x := p356) (H1 := (W1 s [])) rfl rfl (ev_j_holder [] s ((1 : Int32) - v4) hq357 rfl) ?_
    refine Eval.iconst (x := (-1 : Int32)) rfl rfl ?_
    by_cases hc358 : p356 = (-1 : Int32)
    · rw [if_pos hc358] at h
      refine Eval.icmpT (t := 502) rfl rfl (teq hc358).1 ?_
      refine Eval.aload_n rfl rfl ?_
      refine Eval.iconst (x := (1 : Int32)) rfl rfl ?_
      refine Eval.iload rfl rfl ?_
      refine Eval.isub rfl ?_
      obtain ⟨p359, hq360, h⟩ := bind_some h
      refine Eval.callI (rest := []) (x := p359) (H1 := (W1 s [])) rfl rfl (ev_j_queueLength [] s ((1 : Int32) - v4) hq360 rfl) ?_
      by_cases hc361 : p359 = (0 : Int32)
      · rw [if_pos hc361] at h
        refine Eval.ifF rfl (teq hc361).2 ?_
        refine Eval.iconst (x := (1 : Int32)) rfl rfl ?_
        refine Eval.goto (t := 518) rfl rfl ?_
        cases h
        subst hk
        exact Eval.ret rfl rfl
      · rw [if_neg hc361] at h
        refine Eval.ifT (t := 517) rfl rfl (feq hc361).2 ?_
        refine Eval.iconst (x := (0 : Int32)) rfl rfl ?_
        cases h
        subst hk
        exact Eval.ret rfl rfl
    · rw [if_neg hc358] at h
      refine Eval.icmpF rfl (feq hc358).1 ?_
      refine Eval.iconst (x := (0 : Int32)) rfl rfl ?_
      cases h
      subst hk
      exact Eval.ret rfl rfl
  · rw [if_neg hc355] at h
    refine Eval.icmpF rfl (feq hc355).1 ?_
    refine Eval.iconst (x := (0 : Int32)) rfl rfl ?_
    cases h
    subst hk
    exact Eval.ret rfl rfl
def law_b463 (s : Q) (v4 : Int32) (v6 : Int32) (w0 : Int32) (w1 : Int32) : Option (Int32 × Q) := (if w0 = w1 then ((j_ahead s (2 : Int32)).bind fun p351 => (law_b483 s v4 p351 (if v6 = (0 : Int32) then (1 : Int32) else (0 : Int32)))) else some ((0 : Int32), s))
set_option maxRecDepth 100000 in
theorem ev_law_b463 (s : Q) (v4 : Int32) (v6 : Int32) (w0 : Int32) (w1 : Int32) {res : Int32 × Q} {out : Option Value × AHeap} (h : law_b463 s v4 v6 w0 w1 = some res) (hk : out = (some (.int res.1), (W1 res.2 []))) : Eval own_P 0 463 [none, none, none, some (.ref 0), some (.int v4), none, some (.int v6), none, none, none] [.int w1, .int w0] (W1 s []) out := by
  rw [law_b463] at h
  by_cases hc350 : w0 = w1
  · rw [if_pos hc350] at h
    refine Eval.icmpT (t := 468) rfl rfl (teq hc350).1 ?_
    refine Eval.aload_n rfl rfl ?_
    refine Eval.iconst (x := (2 : Int32)) rfl rfl ?_
    obtain ⟨p351, hq352, h⟩ := bind_some h
    refine Eval.callI (rest := []) (x := p351) (H1 := (W1 s [])) rfl rfl (ev_j_ahead [] s (2 : Int32) hq352 rfl) ?_
    refine Eval.iload rfl rfl ?_
    suffices hJ354 : Eval own_P 0 483 [none, none, none, some (.ref 0), some (.int v4), none, none, none, none, none] [.int (if v6 = (0 : Int32) then (1 : Int32) else (0 : Int32)), .int p351] (W1 s []) out by
      by_cases hc353 : v6 = (0 : Int32)
      · refine Eval.ifT (t := 482) rfl rfl (teq hc353).1 ?_
        refine Eval.iconst (x := (1 : Int32)) rfl rfl ?_
        refine Eval.weak (L' := [none, none, none, some (.ref 0), some (.int v4), none, none, none, none, none]) ⟨_, _, rfl, Or.inl rfl, _, _, rfl, Or.inl rfl, _, _, rfl, Or.inl rfl, _, _, rfl, Or.inr rfl, _, _, rfl, Or.inr rfl, _, _, rfl, Or.inl rfl, _, _, rfl, Or.inl rfl, _, _, rfl, Or.inl rfl, _, _, rfl, Or.inl rfl, _, _, rfl, Or.inl rfl, rfl⟩ ?_
        exact (Eval.conv hJ354 rfl (by simp only [if_pos hc353]))
      · refine Eval.ifF rfl (feq hc353).1 ?_
        refine Eval.iconst (x := (0 : Int32)) rfl rfl ?_
        refine Eval.goto (t := 483) rfl rfl ?_
        refine Eval.weak (L' := [none, none, none, some (.ref 0), some (.int v4), none, none, none, none, none]) ⟨_, _, rfl, Or.inl rfl, _, _, rfl, Or.inl rfl, _, _, rfl, Or.inl rfl, _, _, rfl, Or.inr rfl, _, _, rfl, Or.inr rfl, _, _, rfl, Or.inl rfl, _, _, rfl, Or.inl rfl, _, _, rfl, Or.inl rfl, _, _, rfl, Or.inl rfl, _, _, rfl, Or.inl rfl, rfl⟩ ?_
        exact (Eval.conv hJ354 rfl (by simp only [if_neg hc353]))
    exact ev_law_b483 s v4 p351 (if v6 = (0 : Int32) then (1 : Int32) else (0 : Int32)) h hk
  · rw [if_neg hc350] at h
    refine Eval.icmpF rfl (feq hc350).1 ?_
    refine Eval.iconst (x := (0 : Int32)) rfl rfl ?_
    cases h
    subst hk
    exact Eval.ret rfl rfl
def law_b281 (s : Q) (v4 : Int32) (v6 : Int32) (v7 : Int32) (v8 : Int32) (w0 : Int32) (w1 : Int32) : Option (Int32 × Q) := (if w0 = w1 then ((j_release s (0 : Int32)).bind fun p299 => (if p299.1 = v7 then ((j_state p299.2 v7).bind fun p302 => (if p302 = (2 : Int32) then ((j_holder p299.2 v4).bind fun p305 => (if p305 = (-1 : Int32) then ((j_step p299.2 v7).bind fun p308 => (if p308.1 = (3 : Int32) then (if (j_clock p308.2) = (((3 : Int32) + v8) + (2 : Int32)) then ((j_holder p308.2 v4).bind fun p312 => (if p312 = v7 then ((j_entries p308.2 v4).bind fun p317 => (if p317 = (2 : Int32) then ((j_entryAt p308.2 v4 (0 : Int32)).bind fun p326 => (if p326 = (0 : Int32) then ((j_entryAt p308.2 v4 (1 : Int32)).bind fun p329 => (if p329 = v7 then ((j_holderAt p308.2 v4 ((((3 : Int32) + v8) + (2 : Int32)) - (1 : Int32))).bind fun p337 => (if p337 = (-1 : Int32) then ((j_holderAt p308.2 v4 (((3 : Int32) + v8) + (2 : Int32))).bind fun p340 => (if p340 = v7 then ((j_holderAt p308.2 v4 (3 : Int32)).bind fun p343 => (if p343 = (0 : Int32) then ((j_queueLength p308.2 v4).bind fun p346 => (law_b463 p308.2 v4 v6 p346 (if v6 = (0 : Int32) then (2 : Int32) else (1 : Int32)))) else some ((0 : Int32), p308.2))) else some ((0 : Int32), p308.2))) else some ((0 : Int32), p308.2))) else some ((0 : Int32), p308.2))) else some ((0 : Int32), p308.2))) else some ((0 : Int32), p308.2))) else some ((0 : Int32), p308.2))) else some ((0 : Int32), p308.2)) else some ((0 : Int32), p308.2))) else some ((0 : Int32), p299.2))) else some ((0 : Int32), p299.2))) else some ((0 : Int32), p299.2))) else some ((0 : Int32), s))
set_option maxRecDepth 100000 in
theorem ev_law_b281 (s : Q) (v4 : Int32) (v6 : Int32) (v7 : Int32) (v8 : Int32) (w0 : Int32) (w1 : Int32) {res : Int32 × Q} {out : Option Value × AHeap} (h : law_b281 s v4 v6 v7 v8 w0 w1 = some res) (hk : out = (some (.int res.1), (W1 res.2 []))) : Eval own_P 0 281 [none, none, none, some (.ref 0), some (.int v4), none, some (.int v6), some (.int v7), some (.int v8), none] [.int w1, .int w0] (W1 s []) out := by
  rw [law_b281] at h
  by_cases hc265 : w0 = w1
  · rw [if_pos hc265] at h
    refine Eval.icmpT (t := 286) rfl rfl (teq hc265).1 ?_
    refine Eval.aload_n rfl rfl ?_
    refine Eval.iconst (x := (0 : Int32)) rfl rfl ?_
    obtain ⟨p299, hq300, h⟩ := bind_some h
    refine Eval.callI (rest := []) (x := p299.1) (H1 := (W1 p299.2 [])) rfl rfl (ev_j_release [] s (0 : Int32) hq300 rfl) ?_
    refine Eval.iload rfl rfl ?_
    by_cases hc301 : p299.1 = v7
    · rw [if_pos hc301] at h
      refine Eval.icmpT (t := 298) rfl rfl (teq hc301).1 ?_
      refine Eval.aload_n rfl rfl ?_
      refine Eval.iload rfl rfl ?_
      obtain ⟨p302, hq303, h⟩ := bind_some h
      refine Eval.callI (rest := []) (x := p302) (H1 := (W1 p299.2 [])) rfl rfl (ev_j_state [] p299.2 v7 hq303 rfl) ?_
      refine Eval.iconst (x := (2 : Int32)) rfl rfl ?_
      by_cases hc304 : p302 = (2 : Int32)
      · rw [if_pos hc304] at h
        refine Eval.icmpT (t := 310) rfl rfl (teq hc304).1 ?_
        refine Eval.aload_n rfl rfl ?_
        refine Eval.iload rfl rfl ?_
        obtain ⟨p305, hq306, h⟩ := bind_some h
        refine Eval.callI (rest := []) (x := p305) (H1 := (W1 p299.2 [])) rfl rfl (ev_j_holder [] p299.2 v4 hq306 rfl) ?_
        refine Eval.iconst (x := (-1 : Int32)) rfl rfl ?_
        by_cases hc307 : p305 = (-1 : Int32)
        · rw [if_pos hc307] at h
          refine Eval.icmpT (t := 322) rfl rfl (teq hc307).1 ?_
          refine Eval.aload_n rfl rfl ?_
          refine Eval.iload rfl rfl ?_
          obtain ⟨p308, hq309, h⟩ := bind_some h
          refine Eval.callI (rest := []) (x := p308.1) (H1 := (W1 p308.2 [])) rfl rfl (ev_j_step [] p299.2 v7 hq309 rfl) ?_
          refine Eval.iconst (x := (3 : Int32)) rfl rfl ?_
          by_cases hc310 : p308.1 = (3 : Int32)
          · rw [if_pos hc310] at h
            refine Eval.icmpT (t := 334) rfl rfl (teq hc310).1 ?_
            refine Eval.iconst (x := (3 : Int32)) rfl rfl ?_
            refine Eval.iload rfl rfl ?_
            refine Eval.iadd rfl ?_
            refine Eval.iconst (x := (2 : Int32)) rfl rfl ?_
            refine Eval.iadd rfl ?_
            refine Eval.istore (L' := [none, none, none, some (.ref 0), some (.int v4), none, some (.int v6), some (.int v7), some (.int v8), some (.int (((3 : Int32) + v8) + (2 : Int32)))]) rfl rfl ?_
            refine Eval.aload_n rfl rfl ?_
            refine Eval.callI (rest := []) (x := (j_clock p308.2)) (H1 := (W1 p308.2 [])) rfl rfl (ev_j_clock [] p308.2 rfl rfl) ?_
            refine Eval.iload rfl rfl ?_
            by_cases hc311 : (j_clock p308.2) = (((3 : Int32) + v8) + (2 : Int32))
            · rw [if_pos hc311] at h
              refine Eval.icmpT (t := 353) rfl rfl (teq hc311).1 ?_
              refine Eval.aload_n rfl rfl ?_
              refine Eval.iload rfl rfl ?_
              obtain ⟨p312, hq313, h⟩ := bind_some h
              refine Eval.callI (rest := []) (x := p312) (H1 := (W1 p308.2 [])) rfl rfl (ev_j_holder [] p308.2 v4 hq313 rfl) ?_
              refine Eval.iload rfl rfl ?_
              by_cases hc314 : p312 = v7
              · rw [if_pos hc314] at h
                refine Eval.icmpT (t := 366) rfl rfl (teq hc314).1 ?_
                refine Eval.aload_n rfl rfl ?_
                refine Eval.iload rfl rfl ?_
                obtain ⟨p317, hq318, h⟩ := bind_some h
                refine Eval.callI (rest := []) (x := p317) (H1 := (W1 p308.2 [])) rfl rfl (ev_j_entries [] p308.2 v4 hq318 rfl) ?_
                refine Eval.iconst (x := (2 : Int32)) rfl rfl ?_
                by_cases hc319 : p317 = (2 : Int32)
                · rw [if_pos hc319] at h
                  refine Eval.icmpT (t := 378) rfl rfl (teq hc319).1 ?_
                  refine Eval.aload_n rfl rfl ?_
                  refine Eval.iload rfl rfl ?_
                  refine Eval.iconst (x := (0 : Int32)) rfl rfl ?_
                  obtain ⟨p326, hq327, h⟩ := bind_some h
                  refine Eval.callI (rest := []) (x := p326) (H1 := (W1 p308.2 [])) rfl rfl (ev_j_entryAt [] p308.2 v4 (0 : Int32) hq327 rfl) ?_
                  by_cases hc328 : p326 = (0 : Int32)
                  · rw [if_pos hc328] at h
                    refine Eval.ifT (t := 390) rfl rfl (teq hc328).1 ?_
                    refine Eval.aload_n rfl rfl ?_
                    refine Eval.iload rfl rfl ?_
                    refine Eval.iconst (x := (1 : Int32)) rfl rfl ?_
                    obtain ⟨p329, hq330, h⟩ := bind_some h
                    refine Eval.callI (rest := []) (x := p329) (H1 := (W1 p308.2 [])) rfl rfl (ev_j_entryAt [] p308.2 v4 (1 : Int32) hq330 rfl) ?_
                    refine Eval.iload rfl rfl ?_
                    by_cases hc331 : p329 = v7
                    · rw [if_pos hc331] at h
                      refine Eval.icmpT (t := 404) rfl rfl (teq hc331).1 ?_
                      refine Eval.aload_n rfl rfl ?_
                      refine Eval.iload rfl rfl ?_
                      refine Eval.iload rfl rfl ?_
                      refine Eval.iconst (x := (1 : Int32)) rfl rfl ?_
                      refine Eval.isub rfl ?_
                      obtain ⟨p337, hq338, h⟩ := bind_some h
                      refine Eval.callI (rest := []) (x := p337) (H1 := (W1 p308.2 [])) rfl rfl (ev_j_holderAt [] p308.2 v4 ((((3 : Int32) + v8) + (2 : Int32)) - (1 : Int32)) hq338 rfl) ?_
                      refine Eval.iconst (x := (-1 : Int32)) rfl rfl ?_
                      by_cases hc339 : p337 = (-1 : Int32)
                      · rw [if_pos hc339] at h
                        refine Eval.icmpT (t := 420) rfl rfl (teq hc339).1 ?_
                        refine Eval.aload_n rfl rfl ?_
                        refine Eval.iload rfl rfl ?_
                        refine Eval.iload rfl rfl ?_
                        obtain ⟨p340, hq341, h⟩ := bind_some h
                        refine Eval.callI (rest := []) (x := p340) (H1 := (W1 p308.2 [])) rfl rfl (ev_j_holderAt [] p308.2 v4 (((3 : Int32) + v8) + (2 : Int32)) hq341 rfl) ?_
                        refine Eval.iload rfl rfl ?_
                        by_cases hc342 : p340 = v7
                        · rw [if_pos hc342] at h
                          refine Eval.icmpT (t := 435) rfl rfl (teq hc342).1 ?_
                          refine Eval.aload_n rfl rfl ?_
                          refine Eval.iload rfl rfl ?_
                          refine Eval.iconst (x := (3 : Int32)) rfl rfl ?_
                          obtain ⟨p343, hq344, h⟩ := bind_some h
                          refine Eval.callI (rest := []) (x := p343) (H1 := (W1 p308.2 [])) rfl rfl (ev_j_holderAt [] p308.2 v4 (3 : Int32) hq344 rfl) ?_
                          by_cases hc345 : p343 = (0 : Int32)
                          · rw [if_pos hc345] at h
                            refine Eval.ifT (t := 447) rfl rfl (teq hc345).1 ?_
                            refine Eval.aload_n rfl rfl ?_
                            refine Eval.iload rfl rfl ?_
                            obtain ⟨p346, hq347, h⟩ := bind_some h
                            refine Eval.callI (rest := []) (x := p346) (H1 := (W1 p308.2 [])) rfl rfl (ev_j_queueLength [] p308.2 v4 hq347 rfl) ?_
                            refine Eval.iload rfl rfl ?_
                            suffices hJ349 : Eval own_P 0 463 [none, none, none, some (.ref 0), some (.int v4), none, some (.int v6), none, none, none] [.int (if v6 = (0 : Int32) then (2 : Int32) else (1 : Int32)), .int p346] (W1 p308.2 []) out by
                              by_cases hc348 : v6 = (0 : Int32)
                              · refine Eval.ifT (t := 462) rfl rfl (teq hc348).1 ?_
                                refine Eval.iconst (x := (2 : Int32)) rfl rfl ?_
                                refine Eval.weak (L' := [none, none, none, some (.ref 0), some (.int v4), none, some (.int v6), none, none, none]) ⟨_, _, rfl, Or.inl rfl, _, _, rfl, Or.inl rfl, _, _, rfl, Or.inl rfl, _, _, rfl, Or.inr rfl, _, _, rfl, Or.inr rfl, _, _, rfl, Or.inl rfl, _, _, rfl, Or.inr rfl, _, _, rfl, Or.inl rfl, _, _, rfl, Or.inl rfl, _, _, rfl, Or.inl rfl, rfl⟩ ?_
                                exact (Eval.conv hJ349 rfl (by simp only [if_pos hc348]))
                              · refine Eval.ifF rfl (feq hc348).1 ?_
                                refine Eval.iconst (x := (1 : Int32)) rfl rfl ?_
                                refine Eval.goto (t := 463) rfl rfl ?_
                                refine Eval.weak (L' := [none, none, none, some (.ref 0), some (.int v4), none, some (.int v6), none, none, none]) ⟨_, _, rfl, Or.inl rfl, _, _, rfl, Or.inl rfl, _, _, rfl, Or.inl rfl, _, _, rfl, Or.inr rfl, _, _, rfl, Or.inr rfl, _, _, rfl, Or.inl rfl, _, _, rfl, Or.inr rfl, _, _, rfl, Or.inl rfl, _, _, rfl, Or.inl rfl, _, _, rfl, Or.inl rfl, rfl⟩ ?_
                                exact (Eval.conv hJ349 rfl (by simp only [if_neg hc348]))
                            exact ev_law_b463 p308.2 v4 v6 p346 (if v6 = (0 : Int32) then (2 : Int32) else (1 : Int32)) h hk
                          · rw [if_neg hc345] at h
                            refine Eval.ifF rfl (feq hc345).1 ?_
                            refine Eval.iconst (x := (0 : Int32)) rfl rfl ?_
                            cases h
                            subst hk
                            exact Eval.ret rfl rfl
                        · rw [if_neg hc342] at h
                          refine Eval.icmpF rfl (feq hc342).1 ?_
                          refine Eval.iconst (x := (0 : Int32)) rfl rfl ?_
                          cases h
                          subst hk
                          exact Eval.ret rfl rfl
                      · rw [if_neg hc339] at h
                        refine Eval.icmpF rfl (feq hc339).1 ?_
                        refine Eval.iconst (x := (0 : Int32)) rfl rfl ?_
                        cases h
                        subst hk
                        exact Eval.ret rfl rfl
                    · rw [if_neg hc331] at h
                      refine Eval.icmpF rfl (feq hc331).1 ?_
                      refine Eval.iconst (x := (0 : Int32)) rfl rfl ?_
                      cases h
                      subst hk
                      exact Eval.ret rfl rfl
                  · rw [if_neg hc328] at h
                    refine Eval.ifF rfl (feq hc328).1 ?_
                    refine Eval.iconst (x := (0 : Int32)) rfl rfl ?_
                    cases h
                    subst hk
                    exact Eval.ret rfl rfl
                · rw [if_neg hc319] at h
                  refine Eval.icmpF rfl (feq hc319).1 ?_
                  refine Eval.iconst (x := (0 : Int32)) rfl rfl ?_
                  cases h
                  subst hk
                  exact Eval.ret rfl rfl
              · rw [if_neg hc314] at h
                refine Eval.icmpF rfl (feq hc314).1 ?_
                refine Eval.iconst (x := (0 : Int32)) rfl rfl ?_
                cases h
                subst hk
                exact Eval.ret rfl rfl
            · rw [if_neg hc311] at h
              refine Eval.icmpF rfl (feq hc311).1 ?_
              refine Eval.iconst (x := (0 : Int32)) rfl rfl ?_
              cases h
              subst hk
              exact Eval.ret rfl rfl
          · rw [if_neg hc310] at h
            refine Eval.icmpF rfl (feq hc310).1 ?_
            refine Eval.iconst (x := (0 : Int32)) rfl rfl ?_
            cases h
            subst hk
            exact Eval.ret rfl rfl
        · rw [if_neg hc307] at h
          refine Eval.icmpF rfl (feq hc307).1 ?_
          refine Eval.iconst (x := (0 : Int32)) rfl rfl ?_
          cases h
          subst hk
          exact Eval.ret rfl rfl
      · rw [if_neg hc304] at h
        refine Eval.icmpF rfl (feq hc304).1 ?_
        refine Eval.iconst (x := (0 : Int32)) rfl rfl ?_
        cases h
        subst hk
        exact Eval.ret rfl rfl
    · rw [if_neg hc301] at h
      refine Eval.icmpF rfl (feq hc301).1 ?_
      refine Eval.iconst (x := (0 : Int32)) rfl rfl ?_
      cases h
      subst hk
      exact Eval.ret rfl rfl
  · rw [if_neg hc265] at h
    refine Eval.icmpF rfl (feq hc265).1 ?_
    refine Eval.iconst (x := (0 : Int32)) rfl rfl ?_
    cases h
    subst hk
    exact Eval.ret rfl rfl
def law_b261 (s : Q) (v4 : Int32) (v6 : Int32) (v7 : Int32) (v8 : Int32) (w0 : Int32) (w1 : Int32) : Option (Int32 × Q) := (if w0 = w1 then ((j_ahead s (2 : Int32)).bind fun p261 => (law_b281 s v4 v6 v7 v8 p261 (if v6 = (0 : Int32) then (2 : Int32) else (1 : Int32)))) else some ((0 : Int32), s))
set_option maxRecDepth 100000 in
theorem ev_law_b261 (s : Q) (v4 : Int32) (v6 : Int32) (v7 : Int32) (v8 : Int32) (w0 : Int32) (w1 : Int32) {res : Int32 × Q} {out : Option Value × AHeap} (h : law_b261 s v4 v6 v7 v8 w0 w1 = some res) (hk : out = (some (.int res.1), (W1 res.2 []))) : Eval own_P 0 261 [none, none, none, some (.ref 0), some (.int v4), none, some (.int v6), some (.int v7), some (.int v8), none] [.int w1, .int w0] (W1 s []) out := by
  rw [law_b261] at h
  by_cases hc232 : w0 = w1
  · rw [if_pos hc232] at h
    refine Eval.icmpT (t := 266) rfl rfl (teq hc232).1 ?_
    refine Eval.aload_n rfl rfl ?_
    refine Eval.iconst (x := (2 : Int32)) rfl rfl ?_
    obtain ⟨p261, hq262, h⟩ := bind_some h
    refine Eval.callI (rest := []) (x := p261) (H1 := (W1 s [])) rfl rfl (ev_j_ahead [] s (2 : Int32) hq262 rfl) ?_
    refine Eval.iload rfl rfl ?_
    suffices hJ264 : Eval own_P 0 281 [none, none, none, some (.ref 0), some (.int v4), none, some (.int v6), some (.int v7), some (.int v8), none] [.int (if v6 = (0 : Int32) then (2 : Int32) else (1 : Int32)), .int p261] (W1 s []) out by
      by_cases hc263 : v6 = (0 : Int32)
      · refine Eval.ifT (t := 280) rfl rfl (teq hc263).1 ?_
        refine Eval.iconst (x := (2 : Int32)) rfl rfl ?_
        exact (Eval.conv hJ264 rfl (by simp only [if_pos hc263]))
      · refine Eval.ifF rfl (feq hc263).1 ?_
        refine Eval.iconst (x := (1 : Int32)) rfl rfl ?_
        refine Eval.goto (t := 281) rfl rfl ?_
        exact (Eval.conv hJ264 rfl (by simp only [if_neg hc263]))
    exact ev_law_b281 s v4 v6 v7 v8 p261 (if v6 = (0 : Int32) then (2 : Int32) else (1 : Int32)) h hk
  · rw [if_neg hc232] at h
    refine Eval.icmpF rfl (feq hc232).1 ?_
    refine Eval.iconst (x := (0 : Int32)) rfl rfl ?_
    cases h
    subst hk
    exact Eval.ret rfl rfl
def law_b240 (s : Q) (v4 : Int32) (v6 : Int32) (v7 : Int32) (v8 : Int32) (w0 : Int32) (w1 : Int32) : Option (Int32 × Q) := (if w0 = w1 then ((j_queueLength s v4).bind fun p228 => (law_b261 s v4 v6 v7 v8 p228 (if v6 = (0 : Int32) then (3 : Int32) else (2 : Int32)))) else some ((0 : Int32), s))
set_option maxRecDepth 100000 in
theorem ev_law_b240 (s : Q) (v4 : Int32) (v6 : Int32) (v7 : Int32) (v8 : Int32) (w0 : Int32) (w1 : Int32) {res : Int32 × Q} {out : Option Value × AHeap} (h : law_b240 s v4 v6 v7 v8 w0 w1 = some res) (hk : out = (some (.int res.1), (W1 res.2 []))) : Eval own_P 0 240 [none, none, none, some (.ref 0), some (.int v4), none, some (.int v6), some (.int v7), some (.int v8), none] [.int w1, .int w0] (W1 s []) out := by
  rw [law_b240] at h
  by_cases hc225 : w0 = w1
  · rw [if_pos hc225] at h
    refine Eval.icmpT (t := 245) rfl rfl (teq hc225).1 ?_
    refine Eval.aload_n rfl rfl ?_
    refine Eval.iload rfl rfl ?_
    obtain ⟨p228, hq229, h⟩ := bind_some h
    refine Eval.callI (rest := []) (x := p228) (H1 := (W1 s [])) rfl rfl (ev_j_queueLength [] s v4 hq229 rfl) ?_
    refine Eval.iload rfl rfl ?_
    suffices hJ231 : Eval own_P 0 261 [none, none, none, some (.ref 0), some (.int v4), none, some (.int v6), some (.int v7), some (.int v8), none] [.int (if v6 = (0 : Int32) then (3 : Int32) else (2 : Int32)), .int p228] (W1 s []) out by
      by_cases hc230 : v6 = (0 : Int32)
      · refine Eval.ifT (t := 260) rfl rfl (teq hc230).1 ?_
        refine Eval.iconst (x := (3 : Int32)) rfl rfl ?_
        exact (Eval.conv hJ231 rfl (by simp only [if_pos hc230]))
      · refine Eval.ifF rfl (feq hc230).1 ?_
        refine Eval.iconst (x := (2 : Int32)) rfl rfl ?_
        refine Eval.goto (t := 261) rfl rfl ?_
        exact (Eval.conv hJ231 rfl (by simp only [if_neg hc230]))
    exact ev_law_b261 s v4 v6 v7 v8 p228 (if v6 = (0 : Int32) then (3 : Int32) else (2 : Int32)) h hk
  · rw [if_neg hc225] at h
    refine Eval.icmpF rfl (feq hc225).1 ?_
    refine Eval.iconst (x := (0 : Int32)) rfl rfl ?_
    cases h
    subst hk
    exact Eval.ret rfl rfl
def law_b208 (s : Q) (v4 : Int32) (v6 : Int32) (v7 : Int32) (v8 : Int32) (w0 : Int32) (w1 : Int32) : Option (Int32 × Q) := (if w0 = w1 then ((j_spins s (1 : Int32)).bind fun p216 => (if p216 = v8 then ((j_state s (1 : Int32)).bind fun p221 => (law_b240 s v4 v6 v7 v8 p221 (if v6 = (0 : Int32) then (1 : Int32) else (0 : Int32)))) else some ((0 : Int32), s))) else some ((0 : Int32), s))
set_option maxRecDepth 100000 in
theorem ev_law_b208 (s : Q) (v4 : Int32) (v6 : Int32) (v7 : Int32) (v8 : Int32) (w0 : Int32) (w1 : Int32) {res : Int32 × Q} {out : Option Value × AHeap} (h : law_b208 s v4 v6 v7 v8 w0 w1 = some res) (hk : out = (some (.int res.1), (W1 res.2 []))) : Eval own_P 0 208 [none, none, none, some (.ref 0), some (.int v4), none, some (.int v6), some (.int v7), some (.int v8), none] [.int w1, .int w0] (W1 s []) out := by
  rw [law_b208] at h
  by_cases hc213 : w0 = w1
  · rw [if_pos hc213] at h
    refine Eval.icmpT (t := 213) rfl rfl (teq hc213).1 ?_
    refine Eval.aload_n rfl rfl ?_
    refine Eval.iconst (x := (1 : Int32)) rfl rfl ?_
    obtain ⟨p216, hq217, h⟩ := bind_some h
    refine Eval.callI (rest := []) (x := p216) (H1 := (W1 s [])) rfl rfl (ev_j_spins [] s (1 : Int32) hq217 rfl) ?_
    refine Eval.iload rfl rfl ?_
    by_cases hc218 : p216 = v8
    · rw [if_pos hc218] at h
      refine Eval.icmpT (t := 225) rfl rfl (teq hc218).1 ?_
      refine Eval.aload_n rfl rfl ?_
      refine Eval.iconst (x := (1 : Int32)) rfl rfl ?_
      obtain ⟨p221, hq222, h⟩ := bind_some h
      refine Eval.callI (rest := []) (x := p221) (H1 := (W1 s [])) rfl rfl (ev_j_state [] s (1 : Int32) hq222 rfl) ?_
      refine Eval.iload rfl rfl ?_
      suffices hJ224 : Eval own_P 0 240 [none, none, none, some (.ref 0), some (.int v4), none, some (.int v6), some (.int v7), some (.int v8), none] [.int (if v6 = (0 : Int32) then (1 : Int32) else (0 : Int32)), .int p221] (W1 s []) out by
        by_cases hc223 : v6 = (0 : Int32)
        · refine Eval.ifT (t := 239) rfl rfl (teq hc223).1 ?_
          refine Eval.iconst (x := (1 : Int32)) rfl rfl ?_
          exact (Eval.conv hJ224 rfl (by simp only [if_pos hc223]))
        · refine Eval.ifF rfl (feq hc223).1 ?_
          refine Eval.iconst (x := (0 : Int32)) rfl rfl ?_
          refine Eval.goto (t := 240) rfl rfl ?_
          exact (Eval.conv hJ224 rfl (by simp only [if_neg hc223]))
      exact ev_law_b240 s v4 v6 v7 v8 p221 (if v6 = (0 : Int32) then (1 : Int32) else (0 : Int32)) h hk
    · rw [if_neg hc218] at h
      refine Eval.icmpF rfl (feq hc218).1 ?_
      refine Eval.iconst (x := (0 : Int32)) rfl rfl ?_
      cases h
      subst hk
      exact Eval.ret rfl rfl
  · rw [if_neg hc213] at h
    refine Eval.icmpF rfl (feq hc213).1 ?_
    refine Eval.iconst (x := (0 : Int32)) rfl rfl ?_
    cases h
    subst hk
    exact Eval.ret rfl rfl
def law_b190 (s : Q) (v4 : Int32) (v6 : Int32) (v7 : Int32) (w0 : Int32) : Option (Int32 × Q) := ((j_abandons s v4).bind fun p209 => (law_b208 s v4 v6 v7 w0 p209 (if v6 = (0 : Int32) then (0 : Int32) else (1 : Int32))))
set_option maxRecDepth 100000 in
theorem ev_law_b190 (s : Q) (v4 : Int32) (v6 : Int32) (v7 : Int32) (w0 : Int32) {res : Int32 × Q} {out : Option Value × AHeap} (h : law_b190 s v4 v6 v7 w0 = some res) (hk : out = (some (.int res.1), (W1 res.2 []))) : Eval own_P 0 190 [none, none, none, some (.ref 0), some (.int v4), none, some (.int v6), some (.int v7), none, none] [.int w0] (W1 s []) out := by
  rw [law_b190] at h
  refine Eval.istore (L' := [none, none, none, some (.ref 0), some (.int v4), none, some (.int v6), some (.int v7), some (.int w0), none]) rfl rfl ?_
  refine Eval.aload_n rfl rfl ?_
  refine Eval.iload rfl rfl ?_
  obtain ⟨p209, hq210, h⟩ := bind_some h
  refine Eval.callI (rest := []) (x := p209) (H1 := (W1 s [])) rfl rfl (ev_j_abandons [] s v4 hq210 rfl) ?_
  refine Eval.iload rfl rfl ?_
  suffices hJ212 : Eval own_P 0 208 [none, none, none, some (.ref 0), some (.int v4), none, some (.int v6), some (.int v7), some (.int w0), none] [.int (if v6 = (0 : Int32) then (0 : Int32) else (1 : Int32)), .int p209] (W1 s []) out by
    by_cases hc211 : v6 = (0 : Int32)
    · refine Eval.ifT (t := 207) rfl rfl (teq hc211).1 ?_
      refine Eval.iconst (x := (0 : Int32)) rfl rfl ?_
      exact (Eval.conv hJ212 rfl (by simp only [if_pos hc211]))
    · refine Eval.ifF rfl (feq hc211).1 ?_
      refine Eval.iconst (x := (1 : Int32)) rfl rfl ?_
      refine Eval.goto (t := 208) rfl rfl ?_
      exact (Eval.conv hJ212 rfl (by simp only [if_neg hc211]))
  exact ev_law_b208 s v4 v6 v7 w0 p209 (if v6 = (0 : Int32) then (0 : Int32) else (1 : Int32)) h hk
def law_b176 (s : Q) (v4 : Int32) (v5 : Int32) (v6 : Int32) (w0 : Int32) : Option (Int32 × Q) := (law_b190 s v4 v6 w0 (if v6 = (0 : Int32) then (8 : Int32) else v5))
set_option maxRecDepth 100000 in
theorem ev_law_b176 (s : Q) (v4 : Int32) (v5 : Int32) (v6 : Int32) (w0 : Int32) {res : Int32 × Q} {out : Option Value × AHeap} (h : law_b176 s v4 v5 v6 w0 = some res) (hk : out = (some (.int res.1), (W1 res.2 []))) : Eval own_P 0 176 [none, none, none, some (.ref 0), some (.int v4), some (.int v5), some (.int v6), none, none, none] [.int w0] (W1 s []) out := by
  rw [law_b176] at h
  refine Eval.istore (L' := [none, none, none, some (.ref 0), some (.int v4), some (.int v5), some (.int v6), some (.int w0), none, none]) rfl rfl ?_
  refine Eval.iload rfl rfl ?_
  suffices hJ206 : Eval own_P 0 190 [none, none, none, some (.ref 0), some (.int v4), none, some (.int v6), some (.int w0), none, none] [.int (if v6 = (0 : Int32) then (8 : Int32) else v5)] (W1 s []) out by
    by_cases hc205 : v6 = (0 : Int32)
    · refine Eval.ifT (t := 188) rfl rfl (teq hc205).1 ?_
      refine Eval.bipush (x := (8 : Int32)) rfl rfl ?_
      refine Eval.weak (L' := [none, none, none, some (.ref 0), some (.int v4), none, some (.int v6), some (.int w0), none, none]) ⟨_, _, rfl, Or.inl rfl, _, _, rfl, Or.inl rfl, _, _, rfl, Or.inl rfl, _, _, rfl, Or.inr rfl, _, _, rfl, Or.inr rfl, _, _, rfl, Or.inl rfl, _, _, rfl, Or.inr rfl, _, _, rfl, Or.inr rfl, _, _, rfl, Or.inl rfl, _, _, rfl, Or.inl rfl, rfl⟩ ?_
      exact (Eval.conv hJ206 rfl (by simp only [if_pos hc205]))
    · refine Eval.ifF rfl (feq hc205).1 ?_
      refine Eval.iload rfl rfl ?_
      refine Eval.goto (t := 190) rfl rfl ?_
      refine Eval.weak (L' := [none, none, none, some (.ref 0), some (.int v4), none, some (.int v6), some (.int w0), none, none]) ⟨_, _, rfl, Or.inl rfl, _, _, rfl, Or.inl rfl, _, _, rfl, Or.inl rfl, _, _, rfl, Or.inr rfl, _, _, rfl, Or.inr rfl, _, _, rfl, Or.inl rfl, _, _, rfl, Or.inr rfl, _, _, rfl, Or.inr rfl, _, _, rfl, Or.inl rfl, _, _, rfl, Or.inl rfl, rfl⟩ ?_
      exact (Eval.conv hJ206 rfl (by simp only [if_neg hc205]))
  exact ev_law_b190 s v4 v6 w0 (if v6 = (0 : Int32) then (8 : Int32) else v5) h hk
def law_b59 (s : Q) (v2 : Int32) (v4 : Int32) (v5 : Int32) (w0 : Int32) : Option (Int32 × Q) := ((j_acquire s (0 : Int32) v4 (0 : Int32)).bind fun p99 => (if p99.1 = (3 : Int32) then ((j_acquire p99.2 (1 : Int32) v4 v2).bind fun p102 => (if p102.1 = (1 : Int32) then ((j_acquire p102.2 (2 : Int32) v4 (0 : Int32)).bind fun p105 => (if p105.1 = (1 : Int32) then ((law_l106 3000 p105.2 v4 v5 w0 (1 : Int32)).bind fun p199 => Sum.elim (fun p201 => some ((0 : Int32), p201)) (fun p202 => (law_b176 p202.2.2.2 p202.1 p202.2.1 p202.2.2.1 (if p202.2.2.1 = (0 : Int32) then (1 : Int32) else (2 : Int32)))) p199) else some ((0 : Int32), p105.2))) else some ((0 : Int32), p102.2))) else some ((0 : Int32), p99.2)))
set_option maxRecDepth 100000 in
theorem ev_law_b59 (s : Q) (v2 : Int32) (v4 : Int32) (v5 : Int32) (w0 : Int32) {res : Int32 × Q} {out : Option Value × AHeap} (h : law_b59 s v2 v4 v5 w0 = some res) (hk : out = (some (.int res.1), (W1 res.2 []))) : Eval own_P 0 59 [none, none, some (.int v2), some (.ref 0), some (.int v4), some (.int v5), none, none, none, none] [.int w0] (W1 s []) out := by
  rw [law_b59] at h
  refine Eval.istore (L' := [none, none, some (.int v2), some (.ref 0), some (.int v4), some (.int v5), some (.int w0), none, none, none]) rfl rfl ?_
  refine Eval.aload_n rfl rfl ?_
  refine Eval.iconst (x := (0 : Int32)) rfl rfl ?_
  refine Eval.iload rfl rfl ?_
  refine Eval.iconst (x := (0 : Int32)) rfl rfl ?_
  obtain ⟨p99, hq100, h⟩ := bind_some h
  refine Eval.callI (rest := []) (x := p99.1) (H1 := (W1 p99.2 [])) rfl rfl (ev_j_acquire [] s (0 : Int32) v4 (0 : Int32) hq100 rfl) ?_
  refine Eval.iconst (x := (3 : Int32)) rfl rfl ?_
  by_cases hc101 : p99.1 = (3 : Int32)
  · rw [if_pos hc101] at h
    refine Eval.icmpT (t := 75) rfl rfl (teq hc101).1 ?_
    refine Eval.aload_n rfl rfl ?_
    refine Eval.iconst (x := (1 : Int32)) rfl rfl ?_
    refine Eval.iload rfl rfl ?_
    refine Eval.iload_n rfl rfl ?_
    obtain ⟨p102, hq103, h⟩ := bind_some h
    refine Eval.callI (rest := []) (x := p102.1) (H1 := (W1 p102.2 [])) rfl rfl (ev_j_acquire [] p99.2 (1 : Int32) v4 v2 hq103 rfl) ?_
    refine Eval.iconst (x := (1 : Int32)) rfl rfl ?_
    by_cases hc104 : p102.1 = (1 : Int32)
    · rw [if_pos hc104] at h
      refine Eval.icmpT (t := 89) rfl rfl (teq hc104).1 ?_
      refine Eval.aload_n rfl rfl ?_
      refine Eval.iconst (x := (2 : Int32)) rfl rfl ?_
      refine Eval.iload rfl rfl ?_
      refine Eval.iconst (x := (0 : Int32)) rfl rfl ?_
      obtain ⟨p105, hq106, h⟩ := bind_some h
      refine Eval.callI (rest := []) (x := p105.1) (H1 := (W1 p105.2 [])) rfl rfl (ev_j_acquire [] p102.2 (2 : Int32) v4 (0 : Int32) hq106 rfl) ?_
      refine Eval.iconst (x := (1 : Int32)) rfl rfl ?_
      by_cases hc107 : p105.1 = (1 : Int32)
      · rw [if_pos hc107] at h
        refine Eval.icmpT (t := 103) rfl rfl (teq hc107).1 ?_
        refine Eval.iconst (x := (1 : Int32)) rfl rfl ?_
        refine Eval.istore (L' := [none, none, some (.int v2), some (.ref 0), some (.int v4), some (.int v5), some (.int w0), some (.int (1 : Int32)), none, none]) rfl rfl ?_
        refine Eval.weak (L' := [none, none, none, some (.ref 0), some (.int v4), some (.int v5), some (.int w0), some (.int (1 : Int32)), none, none]) ⟨_, _, rfl, Or.inl rfl, _, _, rfl, Or.inl rfl, _, _, rfl, Or.inl rfl, _, _, rfl, Or.inr rfl, _, _, rfl, Or.inr rfl, _, _, rfl, Or.inr rfl, _, _, rfl, Or.inr rfl, _, _, rfl, Or.inr rfl, _, _, rfl, Or.inl rfl, _, _, rfl, Or.inl rfl, rfl⟩ ?_
        obtain ⟨p199, hq200, h⟩ := bind_some h
        rcases p199 with p201 | p202
        · dsimp only [Sum.elim] at h
          refine ev_law_l106 _ p105.2 v4 v5 w0 (1 : Int32) hq200 ?_
          show Eval own_P 0 158 [none, none, none, none, none, none, none, none, none, none] [] (W1 p201 []) out
          refine Eval.iconst (x := (0 : Int32)) rfl rfl ?_
          cases h
          subst hk
          exact Eval.ret rfl rfl
        · dsimp only [Sum.elim] at h
          refine ev_law_l106 _ p105.2 v4 v5 w0 (1 : Int32) hq200 ?_
          show Eval own_P 0 166 [none, none, none, some (.ref 0), some (.int p202.1), some (.int p202.2.1), some (.int p202.2.2.1), none, none, none] [] (W1 p202.2.2.2 []) out
          refine Eval.iload rfl rfl ?_
          suffices hJ204 : Eval own_P 0 176 [none, none, none, some (.ref 0), some (.int p202.1), some (.int p202.2.1), some (.int p202.2.2.1), none, none, none] [.int (if p202.2.2.1 = (0 : Int32) then (1 : Int32) else (2 : Int32))] (W1 p202.2.2.2 []) out by
            by_cases hc203 : p202.2.2.1 = (0 : Int32)
            · refine Eval.ifT (t := 175) rfl rfl (teq hc203).1 ?_
              refine Eval.iconst (x := (1 : Int32)) rfl rfl ?_
              exact (Eval.conv hJ204 rfl (by simp only [if_pos hc203]))
            · refine Eval.ifF rfl (feq hc203).1 ?_
              refine Eval.iconst (x := (2 : Int32)) rfl rfl ?_
              refine Eval.goto (t := 176) rfl rfl ?_
              exact (Eval.conv hJ204 rfl (by simp only [if_neg hc203]))
          exact ev_law_b176 p202.2.2.2 p202.1 p202.2.1 p202.2.2.1 (if p202.2.2.1 = (0 : Int32) then (1 : Int32) else (2 : Int32)) h hk
      · rw [if_neg hc107] at h
        refine Eval.icmpF rfl (feq hc107).1 ?_
        refine Eval.iconst (x := (0 : Int32)) rfl rfl ?_
        cases h
        subst hk
        exact Eval.ret rfl rfl
    · rw [if_neg hc104] at h
      refine Eval.icmpF rfl (feq hc104).1 ?_
      refine Eval.iconst (x := (0 : Int32)) rfl rfl ?_
      cases h
      subst hk
      exact Eval.ret rfl rfl
  · rw [if_neg hc101] at h
    refine Eval.icmpF rfl (feq hc101).1 ?_
    refine Eval.iconst (x := (0 : Int32)) rfl rfl ?_
    cases h
    subst hk
    exact Eval.ret rfl rfl
def law_b39 (s : Q) (v2 : Int32) (v4 : Int32) (w0 : Int32) : Option (Int32 × Q) := (law_b59 s v2 v4 w0 (if w0 < (1 : Int32) then (0 : Int32) else (if (8 : Int32) < w0 then (0 : Int32) else (1 : Int32))))
set_option maxRecDepth 100000 in
theorem ev_law_b39 (s : Q) (v2 : Int32) (v4 : Int32) (w0 : Int32) {res : Int32 × Q} {out : Option Value × AHeap} (h : law_b39 s v2 v4 w0 = some res) (hk : out = (some (.int res.1), (W1 res.2 []))) : Eval own_P 0 39 [none, none, some (.int v2), some (.ref 0), some (.int v4), none, none, none, none, none] [.int w0] (W1 s []) out := by
  rw [law_b39] at h
  refine Eval.istore (L' := [none, none, some (.int v2), some (.ref 0), some (.int v4), some (.int w0), none, none, none, none]) rfl rfl ?_
  refine Eval.iload rfl rfl ?_
  refine Eval.iconst (x := (1 : Int32)) rfl rfl ?_
  suffices hJ31 : Eval own_P 0 59 [none, none, some (.int v2), some (.ref 0), some (.int v4), some (.int w0), none, none, none, none] [.int (if w0 < (1 : Int32) then (0 : Int32) else (if (8 : Int32) < w0 then (0 : Int32) else (1 : Int32)))] (W1 s []) out by
    by_cases hc29 : w0 < (1 : Int32)
    · refine Eval.icmpT (t := 58) rfl rfl (tlt hc29).1 ?_
      refine Eval.iconst (x := (0 : Int32)) rfl rfl ?_
      exact (Eval.conv hJ31 rfl (by simp only [if_pos hc29]))
    · refine Eval.icmpF rfl (flt hc29).1 ?_
      refine Eval.iload rfl rfl ?_
      refine Eval.bipush (x := (8 : Int32)) rfl rfl ?_
      by_cases hc30 : (8 : Int32) < w0
      · refine Eval.icmpT (t := 58) rfl rfl (tlt hc30).2.2.1 ?_
        refine Eval.iconst (x := (0 : Int32)) rfl rfl ?_
        exact (Eval.conv hJ31 rfl (by simp only [if_neg hc29, if_pos hc30]))
      · refine Eval.icmpF rfl (flt hc30).2.2.1 ?_
        refine Eval.iconst (x := (1 : Int32)) rfl rfl ?_
        refine Eval.goto (t := 59) rfl rfl ?_
        exact (Eval.conv hJ31 rfl (by simp only [if_neg hc29, if_neg hc30]))
  exact ev_law_b59 s v2 v4 w0 (if w0 < (1 : Int32) then (0 : Int32) else (if (8 : Int32) < w0 then (0 : Int32) else (1 : Int32))) h hk
def law (v0 : Int32) (v1 : Int32) (v2 : Int32) : Option (Int32 × Q) := ((j_init ((3 : Int32) + (v0 &&& (7 : Int32)))).bind fun p24 => (law_b39 p24 v2 (v1 &&& (1 : Int32)) (if v2 < (0 : Int32) then (0 : Int32) else (if (50 : Int32) < v2 then (50 : Int32) else v2))))
set_option maxRecDepth 100000 in
theorem ev_law (v0 : Int32) (v1 : Int32) (v2 : Int32) {res : Int32 × Q} {out : Option Value × AHeap} (h : law v0 v1 v2 = some res) (hk : out = (some (.int res.1), (W1 res.2 []))) : Eval own_P 0 0 [some (.int v0), some (.int v1), some (.int v2), none, none, none, none, none, none, none] [] (W0 []) out := by
  rw [law] at h
  refine Eval.new (z := 0) (a := 0) (H1 := (W0 [.inl (Prog.fresh own_P)])) rfl rfl rfl (by decide) rfl (by decide) rfl ?_
  refine Eval.dupR rfl ?_
  refine Eval.iconst (x := (3 : Int32)) rfl rfl ?_
  refine Eval.iload_n rfl rfl ?_
  refine Eval.bipush (x := (7 : Int32)) rfl rfl ?_
  refine Eval.iand rfl ?_
  refine Eval.iadd rfl ?_
  obtain ⟨p24, hq25, h⟩ := bind_some h
  refine Eval.callN (rest := [.ref 0]) (H1 := (W1 p24 [])) rfl rfl (ev_j_init ((3 : Int32) + (v0 &&& (7 : Int32))) hq25 rfl) ?_
  refine Eval.astore_n (L' := [some (.int v0), some (.int v1), some (.int v2), some (.ref 0), none, none, none, none, none, none]) rfl rfl ?_
  refine Eval.iload_n rfl rfl ?_
  refine Eval.iconst (x := (1 : Int32)) rfl rfl ?_
  refine Eval.iand rfl ?_
  refine Eval.istore (L' := [some (.int v0), some (.int v1), some (.int v2), some (.ref 0), some (.int (v1 &&& (1 : Int32))), none, none, none, none, none]) rfl rfl ?_
  refine Eval.iload_n rfl rfl ?_
  suffices hJ28 : Eval own_P 0 39 [none, none, some (.int v2), some (.ref 0), some (.int (v1 &&& (1 : Int32))), none, none, none, none, none] [.int (if v2 < (0 : Int32) then (0 : Int32) else (if (50 : Int32) < v2 then (50 : Int32) else v2))] (W1 p24 []) out by
    by_cases hc26 : v2 < (0 : Int32)
    · refine Eval.ifF rfl (tlt hc26).2.1 ?_
      refine Eval.iconst (x := (0 : Int32)) rfl rfl ?_
      refine Eval.goto (t := 39) rfl rfl ?_
      refine Eval.weak (L' := [none, none, some (.int v2), some (.ref 0), some (.int (v1 &&& (1 : Int32))), none, none, none, none, none]) ⟨_, _, rfl, Or.inl rfl, _, _, rfl, Or.inl rfl, _, _, rfl, Or.inr rfl, _, _, rfl, Or.inr rfl, _, _, rfl, Or.inr rfl, _, _, rfl, Or.inl rfl, _, _, rfl, Or.inl rfl, _, _, rfl, Or.inl rfl, _, _, rfl, Or.inl rfl, _, _, rfl, Or.inl rfl, rfl⟩ ?_
      exact (Eval.conv hJ28 rfl (by simp only [if_pos hc26]))
    · refine Eval.ifT (t := 27) rfl rfl (flt hc26).2.1 ?_
      refine Eval.iload_n rfl rfl ?_
      refine Eval.bipush (x := (50 : Int32)) rfl rfl ?_
      by_cases hc27 : (50 : Int32) < v2
      · refine Eval.icmpF rfl (tlt hc27).2.2.2 ?_
        refine Eval.bipush (x := (50 : Int32)) rfl rfl ?_
        refine Eval.goto (t := 39) rfl rfl ?_
        refine Eval.weak (L' := [none, none, some (.int v2), some (.ref 0), some (.int (v1 &&& (1 : Int32))), none, none, none, none, none]) ⟨_, _, rfl, Or.inl rfl, _, _, rfl, Or.inl rfl, _, _, rfl, Or.inr rfl, _, _, rfl, Or.inr rfl, _, _, rfl, Or.inr rfl, _, _, rfl, Or.inl rfl, _, _, rfl, Or.inl rfl, _, _, rfl, Or.inl rfl, _, _, rfl, Or.inl rfl, _, _, rfl, Or.inl rfl, rfl⟩ ?_
        exact (Eval.conv hJ28 rfl (by simp only [if_neg hc26, if_pos hc27]))
      · refine Eval.icmpT (t := 38) rfl rfl (flt hc27).2.2.2 ?_
        refine Eval.iload_n rfl rfl ?_
        refine Eval.weak (L' := [none, none, some (.int v2), some (.ref 0), some (.int (v1 &&& (1 : Int32))), none, none, none, none, none]) ⟨_, _, rfl, Or.inl rfl, _, _, rfl, Or.inl rfl, _, _, rfl, Or.inr rfl, _, _, rfl, Or.inr rfl, _, _, rfl, Or.inr rfl, _, _, rfl, Or.inl rfl, _, _, rfl, Or.inl rfl, _, _, rfl, Or.inl rfl, _, _, rfl, Or.inl rfl, _, _, rfl, Or.inl rfl, rfl⟩ ?_
        exact (Eval.conv hJ28 rfl (by simp only [if_neg hc26, if_neg hc27]))
  exact ev_law_b39 p24 v2 (v1 &&& (1 : Int32)) (if v2 < (0 : Int32) then (0 : Int32) else (if (50 : Int32) < v2 then (50 : Int32) else v2)) h hk
theorem own_rdc {n : Nat} {c j : Int32} (h : inb n j = true) : rd (List.replicate n c) j = c := by
  have q := rd_at (xs := List.replicate n c) (j := j) (by simpa using h)
  rw [List.getElem?_replicate] at q
  split at q
  · exact (Option.some.inj q).symm
  · cases q
theorem own_n2i {i : Nat} (h : i < 2147483648) : (Int32.ofNat i).toInt = i := by
  rw [Int32.toInt_ofNat']
  simp only [Int32.size, Int.bmod_def]
  omega
theorem own_n2n {i : Nat} (h : i < 2147483648) : (Int32.ofNat i).toNatClampNeg = i := by
  simp only [Int32.toNatClampNeg, own_n2i h]; omega
theorem own_succ (i : Nat) : Int32.ofNat i + 1 = Int32.ofNat (i + 1) := (Int32.ofNat_add i 1).symm
theorem own_inbN {n i : Nat} (h : i < n) (hn : n < 2147483648) : inb n (Int32.ofNat i) = true := inb_iff.mpr (by rw [own_n2i (by omega)]; omega)
theorem own_ltN {i k : Nat} (hi : i < 2147483648) (hk : k < 2147483648) : Int32.ofNat i < Int32.ofNat k ↔ i < k := by
  rw [lt32, own_n2i hi, own_n2i hk]; omega
theorem own_wrA {A r : List Int32} {d x : Int32} {i : Nat} (hi : A.length = i) (h : i < 2147483648) : wr (A ++ d :: r) (Int32.ofNat i) x = A ++ x :: r := by
  unfold wr
  rw [own_n2n h, ← hi]
  simp
theorem own_repS (i : Nat) (c : Int32) (r : List Int32) : List.replicate i c ++ c :: r = List.replicate (i + 1) c ++ r := by
  rw [List.replicate_succ']; simp
theorem own_add {x y : Int32} (h1 : -2147483648 ≤ x.toInt + y.toInt) (h2 : x.toInt + y.toInt < 2147483648) : (x + y).toInt = x.toInt + y.toInt := by
  rw [Int32.toInt_add, Int.bmod_def]
  omega
theorem own_sub {x y : Int32} (h1 : -2147483648 ≤ x.toInt - y.toInt) (h2 : x.toInt - y.toInt < 2147483648) : (x - y).toInt = x.toInt - y.toInt := by
  rw [Int32.toInt_sub, Int.bmod_def]
  omega
theorem own_mul {x y : Int32} (h1 : -2147483648 ≤ x.toInt * y.toInt) (h2 : x.toInt * y.toInt < 2147483648) : (x * y).toInt = x.toInt * y.toInt := by
  rw [Int32.toInt_mul, Int.bmod_def]
  omega
theorem own_eta (s : Q) : Q.mk s.f_st s.f_lk s.f_tmo s.f_spin s.f_nxt0 s.f_prv1 s.f_head s.f_tail s.f_len s.f_ent s.f_aband s.f_log s.f_hist s.f_n s.f_clk = s := rfl
theorem own_wrc (n : Nat) (c j : Int32) : wr (List.replicate n c) j c = List.replicate n c := by simp [wr, List.set_replicate_self]

theorem own_l135 : ∀ (m i n : Nat) (s : Q), i + m = 8 → m < n → s.f_st = List.replicate 8 0 → s.f_lk = List.replicate i (-1) ++ List.replicate m 0 → s.f_nxt0 = List.replicate i (-1) ++ List.replicate m 0 → s.f_prv1 = List.replicate i (-1) ++ List.replicate m 0 →
    j_init_l135 n s (Int32.ofNat i) = some (((s.s_lk (List.replicate 8 (-1))).s_nxt0 (List.replicate 8 (-1))).s_prv1 (List.replicate 8 (-1)))
  | 0, i, n + 1, s, h1, h2, h3, h4, h5, h6 => by
    obtain rfl : i = 8 := by omega
    have key : ∀ X, s.f_lk = X → s.f_nxt0 = X → s.f_prv1 = X → ((s.s_lk X).s_nxt0 X).s_prv1 X = s := by
      intro X e1 e2 e3
      conv => rhs; rw [← own_eta s, e1, e2, e3]
      rfl
    rw [key _ (by simpa using h4) (by simpa using h5) (by simpa using h6), j_init_l135, if_neg (by decide)]
  | m + 1, i, n + 1, s, h1, h2, h3, h4, h5, h6 => by
    have hi : i < 8 := by omega
    have hb : inb 8 (Int32.ofNat i) = true := own_inbN hi (by decide)
    have hl : (List.replicate i (-1 : Int32) ++ List.replicate (m + 1) 0).length = 8 := by simp <;> omega
    rw [j_init_l135, if_pos (show Int32.ofNat i < 8 from (own_ltN (k := 8) (by omega) (by decide)).mpr hi)]
    rw [h3, h4, h5, h6, hl, List.length_replicate, if_pos hb, if_pos hb, if_pos hb, if_pos hb, own_wrc, List.replicate_succ (n := m), own_wrA (by simp) (by omega), own_succ, own_repS]
    rw [own_l135 m (i + 1) n _ (by omega) (by omega) rfl rfl rfl rfl]
    simp only [own_f_st, own_e_st, own_z_st, own_f_lk, own_e_lk, own_z_lk, own_f_tmo, own_e_tmo, own_z_tmo, own_f_spin, own_e_spin, own_z_spin, own_f_nxt0, own_e_nxt0, own_z_nxt0, own_f_prv1, own_e_prv1, own_z_prv1, own_f_head, own_e_head, own_z_head, own_f_tail, own_e_tail, own_z_tail, own_f_len, own_e_len, own_z_len, own_f_ent, own_e_ent, own_z_ent, own_f_aband, own_e_aband, own_z_aband, own_f_log, own_e_log, own_z_log, own_f_hist, own_e_hist, own_z_hist, own_f_n, own_e_n, own_z_n, own_f_clk, own_e_clk, own_z_clk, h3]
theorem own_l204 : ∀ (m i n : Nat) (s : Q), i + m = 512 → m < n → s.f_hist = List.replicate i (-1) ++ List.replicate m 0 → j_init_l204 n s (Int32.ofNat i) = some (s.s_hist (List.replicate 512 (-1)))
  | 0, i, n + 1, s, h1, h2, h3 => by
    obtain rfl : i = 512 := by omega
    have key : ∀ X, s.f_hist = X → s.s_hist X = s := by
      intro X e1
      conv => rhs; rw [← own_eta s, e1]
      rfl
    rw [key _ (by simpa [-List.reduceReplicate] using h3), j_init_l204, if_neg (by decide)]
  | m + 1, i, n + 1, s, h1, h2, h3 => by
    have hi : i < 512 := by omega
    have hb : inb 512 (Int32.ofNat i) = true := own_inbN hi (by decide)
    have hl : (List.replicate i (-1 : Int32) ++ List.replicate (m + 1) 0).length = 512 := by simp <;> omega
    rw [j_init_l204, if_pos (show Int32.ofNat i < 512 from (own_ltN (k := 512) (by omega) (by decide)).mpr hi)]
    rw [h3, hl, if_pos hb, List.replicate_succ (n := m), own_wrA (by simp) (by omega), own_succ, own_repS]
    rw [own_l204 m (i + 1) n _ (by omega) (by omega) rfl]
    rfl
def own_nc (v : Int32) : Int32 := if v < 2 then 2 else if 8 < v then 8 else v
theorem own_nc_b (v : Int32) : 2 ≤ (own_nc v).toInt ∧ (own_nc v).toInt ≤ 8 := by
  unfold own_nc
  split
  · decide
  · split
    · decide
    · rename_i h1 h2; simp only [lt32, Int32.reduceToInt] at h1 h2; omega
def own_S (n : Int32) : Q := Q.mk (List.replicate 8 0) (List.replicate 8 (-1)) (List.replicate 8 0) (List.replicate 8 0) (List.replicate 8 (-1)) (List.replicate 8 (-1)) [-1, -1] [-1, -1] (List.replicate 2 0) (List.replicate 2 0) (List.replicate 2 0) (List.replicate 128 0) (List.replicate 512 (-1)) n 0
theorem own_init (v : Int32) : j_init v = some (own_S (own_nc v)) := by
  have e : (if (8 : Int32) < (if v < (2 : Int32) then (2 : Int32) else v) then (8 : Int32) else (if v < (2 : Int32) then (2 : Int32) else v)) = own_nc v := by
    unfold own_nc
    split
    · rfl
    · rfl
  simp only [j_init, j_init_b105, j_init_b114, j_init_b123, e]
  rw [show (0 : Int32) = Int32.ofNat 0 from rfl, own_l135 8 0 3000 _ rfl (by decide) (by simp only [own_f_st, own_z_st]) (by simp only [own_f_lk, own_z_lk]; rfl) (by simp only [own_f_nxt0, own_z_nxt0]; rfl) (by simp only [own_f_prv1, own_z_prv1]; rfl), Option.bind_some]
  have e2 : ∀ s : Q, s.f_head = [0, 0] → s.f_tail = [0, 0] → j_init_l177 3000 s (Int32.ofNat 0) = some ((s.s_head [-1, -1]).s_tail [-1, -1]) := by
    intro s h1 h2
    simp [j_init_l177, own_f_st, own_e_st, own_z_st, own_f_lk, own_e_lk, own_z_lk, own_f_tmo, own_e_tmo, own_z_tmo, own_f_spin, own_e_spin, own_z_spin, own_f_nxt0, own_e_nxt0, own_z_nxt0, own_f_prv1, own_e_prv1, own_z_prv1, own_f_head, own_e_head, own_z_head, own_f_tail, own_e_tail, own_z_tail, own_f_len, own_e_len, own_z_len, own_f_ent, own_e_ent, own_z_ent, own_f_aband, own_e_aband, own_z_aband, own_f_log, own_e_log, own_z_log, own_f_hist, own_e_hist, own_z_hist, own_f_n, own_e_n, own_z_n, own_f_clk, own_e_clk, own_z_clk, h1, h2, wr, inb, Nat.ble_eq]
  rw [e2 _ rfl rfl, Option.bind_some, own_l204 512 0 3000 _ rfl (by decide) rfl, Option.bind_some]
  rfl

theorem own_ofN {x : Int32} (h : 0 ≤ x.toInt) : x = Int32.ofNat x.toInt.toNat := by
  apply Int32.toInt_inj.mp
  have q : x.toInt < 2147483648 := by have := Int32.toInt_lt x; simpa using this
  rw [own_n2i (by omega)]; omega
theorem own_cb (v : Int32) : 0 ≤ (j_clampTimeout v).toInt ∧ (j_clampTimeout v).toInt ≤ 50 := by
  unfold j_clampTimeout
  split
  · decide
  · split
    · decide
    · rename_i h1 h2; simp only [lt32, Int32.reduceToInt] at h1 h2; omega
theorem own_idem (v : Int32) : j_clampTimeout (j_clampTimeout v) = j_clampTimeout v := by
  have h := own_cb v
  generalize j_clampTimeout v = w at h
  unfold j_clampTimeout
  rw [if_neg (by simp only [lt32, Int32.reduceToInt]; omega), if_neg (by simp only [lt32, Int32.reduceToInt]; omega)]
theorem own_ct (s : Q) (a b w : Int32) : j_acquire s a b w = j_acquire s a b (j_clampTimeout w) := by
  simp only [j_acquire, own_idem]
theorem own_red (v0 v1 v2 : Int32) : law v0 v1 v2 = law (v0 &&& 7) (v1 &&& 1) (j_clampTimeout v2) := by
  have e7 : v0 &&& 7 &&& 7 = v0 &&& 7 := by rw [Int32.and_assoc]; rfl
  have e1 : v1 &&& 1 &&& 1 = v1 &&& 1 := by rw [Int32.and_assoc]; rfl
  have ec : ∀ w : Int32, (if w < 0 then (0 : Int32) else (if 50 < w then 50 else w)) = j_clampTimeout w := fun w => rfl
  have ea : ∀ s l, j_acquire s 1 l v2 = j_acquire s 1 l (j_clampTimeout v2) := fun s l => own_ct s 1 l v2
  simp only [law, law_b39, law_b59, e7, e1, ec, ea, own_idem]
set_option maxHeartbeats 0 in
theorem own_a00 : ∀ t : Fin 51, (law_b39 (own_S 3) (Int32.ofNat t.val) 0 (Int32.ofNat t.val)).map (·.1) = some 1 := by decide +kernel
set_option maxHeartbeats 0 in
theorem own_a01 : ∀ t : Fin 51, (law_b39 (own_S 3) (Int32.ofNat t.val) 1 (Int32.ofNat t.val)).map (·.1) = some 1 := by decide +kernel
set_option maxHeartbeats 0 in
theorem own_a10 : ∀ t : Fin 51, (law_b39 (own_S 4) (Int32.ofNat t.val) 0 (Int32.ofNat t.val)).map (·.1) = some 1 := by decide +kernel
set_option maxHeartbeats 0 in
theorem own_a11 : ∀ t : Fin 51, (law_b39 (own_S 4) (Int32.ofNat t.val) 1 (Int32.ofNat t.val)).map (·.1) = some 1 := by decide +kernel
set_option maxHeartbeats 0 in
theorem own_a20 : ∀ t : Fin 51, (law_b39 (own_S 5) (Int32.ofNat t.val) 0 (Int32.ofNat t.val)).map (·.1) = some 1 := by decide +kernel
set_option maxHeartbeats 0 in
theorem own_a21 : ∀ t : Fin 51, (law_b39 (own_S 5) (Int32.ofNat t.val) 1 (Int32.ofNat t.val)).map (·.1) = some 1 := by decide +kernel
set_option maxHeartbeats 0 in
theorem own_a30 : ∀ t : Fin 51, (law_b39 (own_S 6) (Int32.ofNat t.val) 0 (Int32.ofNat t.val)).map (·.1) = some 1 := by decide +kernel
set_option maxHeartbeats 0 in
theorem own_a31 : ∀ t : Fin 51, (law_b39 (own_S 6) (Int32.ofNat t.val) 1 (Int32.ofNat t.val)).map (·.1) = some 1 := by decide +kernel
set_option maxHeartbeats 0 in
theorem own_a40 : ∀ t : Fin 51, (law_b39 (own_S 7) (Int32.ofNat t.val) 0 (Int32.ofNat t.val)).map (·.1) = some 1 := by decide +kernel
set_option maxHeartbeats 0 in
theorem own_a41 : ∀ t : Fin 51, (law_b39 (own_S 7) (Int32.ofNat t.val) 1 (Int32.ofNat t.val)).map (·.1) = some 1 := by decide +kernel
set_option maxHeartbeats 0 in
theorem own_a50 : ∀ t : Fin 51, (law_b39 (own_S 8) (Int32.ofNat t.val) 0 (Int32.ofNat t.val)).map (·.1) = some 1 := by decide +kernel
set_option maxHeartbeats 0 in
theorem own_a51 : ∀ t : Fin 51, (law_b39 (own_S 8) (Int32.ofNat t.val) 1 (Int32.ofNat t.val)).map (·.1) = some 1 := by decide +kernel
theorem own_all : ∀ k : Fin 6, ∀ l : Fin 2, ∀ t : Fin 51, (law_b39 (own_S (Int32.ofNat (3 + k.val))) (Int32.ofNat t.val) (Int32.ofNat l.val) (Int32.ofNat t.val)).map (·.1) = some 1
  | ⟨0, _⟩, ⟨0, _⟩, t => own_a00 t
  | ⟨0, _⟩, ⟨1, _⟩, t => own_a01 t
  | ⟨1, _⟩, ⟨0, _⟩, t => own_a10 t
  | ⟨1, _⟩, ⟨1, _⟩, t => own_a11 t
  | ⟨2, _⟩, ⟨0, _⟩, t => own_a20 t
  | ⟨2, _⟩, ⟨1, _⟩, t => own_a21 t
  | ⟨3, _⟩, ⟨0, _⟩, t => own_a30 t
  | ⟨3, _⟩, ⟨1, _⟩, t => own_a31 t
  | ⟨4, _⟩, ⟨0, _⟩, t => own_a40 t
  | ⟨4, _⟩, ⟨1, _⟩, t => own_a41 t
  | ⟨5, _⟩, ⟨0, _⟩, t => own_a50 t
  | ⟨5, _⟩, ⟨1, _⟩, t => own_a51 t
theorem own_n38 : ∀ k : Fin 8, ∃ j : Fin 6, own_nc (3 + Int32.ofNat k.val) = Int32.ofNat (3 + j.val) := by decide +kernel
theorem own_law (v0 v1 v2 : Int32) : (law v0 v1 v2).map (·.1) = some 1 := by
  rw [own_red]
  have a0 := c_and v0 7 (by decide)
  have a1 := c_and v1 1 (by decide)
  have a2 := own_cb v2
  have r0 : (7 : Int32).toInt = 7 := rfl
  have r1 : (1 : Int32).toInt = 1 := rfl
  have e7 : v0 &&& 7 &&& 7 = v0 &&& 7 := by rw [Int32.and_assoc]; rfl
  have e1 : v1 &&& 1 &&& 1 = v1 &&& 1 := by rw [Int32.and_assoc]; rfl
  unfold law
  rw [e7, e1, show (if j_clampTimeout v2 < 0 then (0 : Int32) else (if 50 < j_clampTimeout v2 then 50 else j_clampTimeout v2)) = j_clampTimeout v2 from own_idem v2, own_init, Option.bind_some]
  obtain ⟨j, hj⟩ := own_n38 ⟨(v0 &&& 7).toInt.toNat, by omega⟩
  rw [← own_ofN a0.1] at hj
  rw [hj, own_ofN a1.1, own_ofN a2.1]
  exact own_all j ⟨(v1 &&& 1).toInt.toNat, by omega⟩ ⟨(j_clampTimeout v2).toInt.toNat, by omega⟩

set_option maxRecDepth 65536 in
set_option maxHeartbeats 4000000 in
theorem comes_1 {Post : Tables → Env → Array Value → State → Outcome → State → Prop} (hpost : ∀ tb e args s v u, (limb_1_1.after args s (.returned v) u = true ∧ limb_1_2.after args s (.returned v) u = true ∧ True) → FrameEnd s (.returned v) u (Jvm.fieldLocs frame_1_writes args s ++ Jvm.arrayLocs frame_1_arrays args s ++ Jvm.staticLocs frame_1_statics s) 40 1536 → Post tb e args s (.returned v) u) :
    ArmFor flags0 classFile x code maxLocals ret World_1 tables_1 room_1 Calls_1 rest_1 Pre_1 Post := by
  intro l hfl _ _ p e ha hc hk s m args below hf hA hF happ hP
  obtain ⟨hcalls, hrest, hpre⟩ := hP
  obtain ⟨-, -, -, hnamed, -, -, -, hat⟩ := (Spec.applies_iff hf).mp happ
  obtain ⟨hg, hn⟩ := and_e (Cond.before_iff.mp (show (Jvm.Cond.and given_1 narrow_1).before args s = true from hpre))
  obtain ⟨hcnt, h0⟩ := and_e hg
  obtain ⟨w0, w1, w2, rfl⟩ : ∃ w0 w1 w2 : Value, args = #[w0, w1, w2] := by
    have hs : args.size = 3 := by simpa [Cond.value, given_1] using hcnt
    obtain ⟨L⟩ := args
    match L, hs with
    | [w0, w1, w2], _ => exact ⟨w0, w1, w2, rfl⟩
  have hw := fun d (hd : d ∈ tables_1) => atoms_spec (ws := Jvm.Cond.code x code maxLocals ret :: tables_1) hat d (List.mem_cons_of_mem _ hd)
  obtain ⟨q0, h1⟩ := and_e h0
  obtain ⟨i0, e0⟩ := is_v q0
  obtain rfl : w0 = .int i0 := Option.some.inj e0
  obtain ⟨q1, h2⟩ := and_e h1
  obtain ⟨i1, e1⟩ := is_v q1
  obtain rfl : w1 = .int i1 := Option.some.inj e1
  obtain ⟨i2, e2⟩ := is_v h2
  obtain rfl : w2 = .int i2 := Option.some.inj e2
  have hL := own_law i0 i1 i2
  obtain ⟨res, hres, hr1⟩ := Option.map_eq_some_iff.mp hL
  obtain ⟨n, hrun⟩ := ev_law i0 i1 i2 hres rfl
  have hr1' : res.1 = 1 := hr1
  rw [hr1'] at hrun
  have hcap := run_cap hrun
  have hcC : own_P.capC = 40 := rfl
  have hcS : own_P.capS = 1536 := rfl
  rw [hcC, hcS] at hcap
  have hc1 : (W0 []).length = 0 := rfl
  have hc2 : hsz own_P (W0 []) = 0 := rfl
  have hM := metOf (sound (own_good hw) n) (k := 0) (as := [.int i0, .int i1, .int i2]) (H := (W0 [])) hrun (l := l) (wsC := tables_1) (rm := room_1) own_pn0 rfl (fun h => nomatch h) (by decide) (by decide) (by show _ ≤ 40; omega) (by show _ ≤ 1536; omega) (am := []) (ws := [.int i0, .int i1, .int i2]) (h := s.heap) (n0 := s.heap.size) ⟨_, _, rfl, rfl, _, _, rfl, rfl, _, _, rfl, rfl, rfl⟩ (Nat.le_of_ble_eq_true rfl) (HR.none _ _ _ _ _) (Nat.le_refl _)
  obtain ⟨n, o, h1, h2, h3, w, L, rfl, ⟨N, -, am', -, -, hv⟩, hq⟩ := hM p e ha hc hk s m _ below hf ((Spec.applies_iff_loose hf).mp happ).1 ⟨rfl, State.Warmed39.refl s, rfl⟩ trivial
  obtain ⟨y, rfl, rfl⟩ := hv
  exact ⟨n, _, h1, h2, h3, hpost _ _ _ _ _ _ ⟨Cond.after_iff.mpr rfl, Cond.after_iff.mpr (eq_i res_at (Term.int_eval (1)) rfl), trivial⟩ ⟨hq.1, hq.2.1, (hq.2.2.sift fun y hy => Or.inr (N y hy)).mono (by omega) (by omega)⟩⟩
theorem main_1_1 : Claimed_1_1 := comes_1 fun _ _ _ _ _ _ h hF => ⟨h.1, hF⟩
theorem main_1_2 : Claimed_1_2 := comes_1 fun _ _ _ _ _ _ h hF => ⟨h.2.1, hF⟩
end Jvm.Pilot.@@N@@
namespace Jvm.Pilot.@@N@@
open Jvm Jvm.ClassFile Sem Op Lib Jvm.Free Jvm.Stand Jvm.Pilot.@@N@@.Jvm.D
/-! MADE BY PROGRAM (witnessworld.py) out of the Statement's table words and the real class files: 9 classes; the members and pool entries that the words name. The judged class is class 1, her method 1. -/
namespace start1
open Jvm.ClassFile
def u (s : String) : CpInfo := .utf8 (stringToUtf16 s)
/-- a pool by its gaps: so many unusable entries, then the entry; so many at the end -/
def gap : Nat → List CpInfo → List CpInfo
  | 0, r => r
  | n + 1, r => .unusable :: gap n r
def poolList (es : List (Nat × CpInfo)) (last : Nat) : List CpInfo := es.foldr (fun e r => gap e.1 (e.2 :: r)) (gap last [])
def pool (es : List (Nat × CpInfo)) (last : Nat) : Array CpInfo := ⟨poolList es last⟩
def fileOf (pool : Array CpInfo) (this : Nat) (attrs : Array Attribute := #[]) (ms : Array MethodInfo := #[]) (fl : Nat := 33) (sup : Nat := 0) (ifs : Array Nat := #[]) (fds : Array FieldInfo := #[]) : ClassFile where
  minorVersion := 0
  majorVersion := 65
  constantPool := pool
  accessFlags := fl
  thisClass := this
  superClass := sup
  interfaces := ifs
  fields := fds
  methods := ms
  attributes := attrs
def plain (name : String) (sup : Option ClassId) : Class where
  name := name
  kind := .ordinary
  loader := none
  accessFlags := 33
  super := sup
  interfaces := #[]
  cf := none
  fields := #[]
  methods := #[]
  instanceTypes := #[]
  staticTypes := #[]
  resolved := #[]
  callSites := []
  init := .initialized
  statics := none
  mirror := none

def pool0 : Array CpInfo := pool [(5, u "<init>"), (0, u "()V"), (1, .class_ 10), (1, u "java/lang/Object")] 113

def k0c0 : Code := { maxStack := 0, maxLocals := 1, code := object_method_1_code, exceptionTable := #[], attributes := #[] }
def k0m0 : Method := { name := "<init>", desc := "()V", sig := { parameters := [], returnType := none }, accessFlags := 1, code := some k0c0 }
/-- java/lang/Object -/
def k0 : Class := { plain "java/lang/Object" none with
  accessFlags := 33
  interfaces := #[]
  cf := some (fileOf pool0 8 #[] #[{ accessFlags := 1, nameIndex := 5, descriptorIndex := 6, attributes := #[] }] 33 0 #[] #[])
  fields := #[]
  methods := #[k0m0]
  instanceTypes := #[]
  staticTypes := #[]
  resolved := Array.replicate 124 none
  statics := none }

def pool1 : Array CpInfo := pool [(2, .class_ 4), (1, u "java/lang/Object"), (0, u "<init>"), (0, u "()V"), (0, .class_ 8), (0, u "QueueLocks"), (0, .methodref 7 10), (0, .nameAndType 5 11), (0, u "(I)V"), (0, .methodref 7 13), (0, .nameAndType 14 15), (0, u "acquire"), (0, u "(III)I"), (0, .methodref 7 17), (0, .nameAndType 18 19), (0, u "step"), (0, u "(I)I"), (0, .methodref 7 21), (0, .nameAndType 22 19), (0, u "abandons"), (0, .methodref 7 24), (0, .nameAndType 25 19), (0, u "spins"), (0, .methodref 7 27), (0, .nameAndType 28 19), (0, u "state"), (0, .methodref 7 30), (0, .nameAndType 31 19), (0, u "queueLength"), (0, .methodref 7 33), (0, .nameAndType 34 19), (0, u "ahead"), (0, .methodref 7 36), (0, .nameAndType 37 19), (0, u "release"), (0, .methodref 7 39), (0, .nameAndType 40 19), (0, u "holder"), (0, .methodref 7 42), (0, .nameAndType 43 44), (0, u "clock"), (0, u "()I"), (0, .methodref 7 46), (0, .nameAndType 47 19), (0, u "entries"), (0, .methodref 7 49), (0, .nameAndType 50 51), (0, u "entryAt"), (0, u "(II)I"), (0, .methodref 7 53), (0, .nameAndType 54 51), (0, u "holderAt"), (0, .class_ 56), (0, u "QueueLocksL3"), (2, u "law"), (0, u "(III)Z")] 3

def k1m0 : Method := { name := "<init>", desc := "()V", sig := { parameters := [], returnType := none }, accessFlags := 1, code := none }
def k1c1 : Code := { maxStack := 5, maxLocals := 10, code := code, exceptionTable := #[], attributes := #[] }
def k1m1 : Method := { name := "law", desc := "(III)Z", sig := { parameters := [.int, .int, .int], returnType := some .boolean }, accessFlags := 9, code := some k1c1 }
/-- QueueLocksL3 -/
def k1 : Class := { plain "QueueLocksL3" (some 0) with
  accessFlags := 33
  interfaces := #[]
  cf := some (fileOf pool1 55 #[] #[{ accessFlags := 1, nameIndex := 5, descriptorIndex := 6, attributes := #[] }, { accessFlags := 9, nameIndex := 59, descriptorIndex := 60, attributes := #[] }] 33 2 #[] #[])
  fields := #[]
  methods := #[k1m0, k1m1]
  instanceTypes := #[]
  staticTypes := #[]
  resolved := Array.replicate 64 none
  statics := none }

def pool2 : Array CpInfo := pool [(1, .methodref 2 3), (0, .class_ 4), (0, .nameAndType 5 6), (0, u "java/lang/Object"), (0, u "<init>"), (0, u "()V"), (0, .fieldref 8 9), (0, .class_ 10), (0, .nameAndType 11 12), (0, u "QueueLocks"), (0, u "st"), (0, u "[I"), (0, .fieldref 8 14), (0, .nameAndType 15 12), (0, u "lk"), (0, .fieldref 8 17), (0, .nameAndType 18 12), (0, u "tmo"), (0, .fieldref 8 20), (0, .nameAndType 21 12), (0, u "spin"), (0, .fieldref 8 23), (0, .nameAndType 24 12), (0, u "nxt0"), (0, .fieldref 8 26), (0, .nameAndType 27 12), (0, u "prv1"), (0, .fieldref 8 29), (0, .nameAndType 30 12), (0, u "head"), (0, .fieldref 8 32), (0, .nameAndType 33 12), (0, u "tail"), (0, .fieldref 8 35), (0, .nameAndType 36 12), (0, u "len"), (0, .fieldref 8 38), (0, .nameAndType 39 12), (0, u "ent"), (0, .fieldref 8 41), (0, .nameAndType 42 12), (0, u "aband"), (0, .fieldref 8 44), (0, .nameAndType 45 12), (0, u "log"), (0, .fieldref 8 47), (0, .nameAndType 48 12), (0, u "hist"), (0, .fieldref 8 50), (0, .nameAndType 51 52), (0, u "n"), (0, u "I"), (0, .fieldref 8 54), (0, .nameAndType 55 52), (0, u "clk"), (0, .methodref 8 57), (0, .nameAndType 58 59), (0, u "holder"), (0, u "(I)I"), (0, .methodref 8 61), (0, .nameAndType 62 63), (0, u "inNodes"), (0, u "(I)Z"), (0, .methodref 8 65), (0, .nameAndType 66 59), (0, u "successorClh"), (0, .methodref 8 68), (0, .nameAndType 69 59), (0, u "predecessorMcs"), (0, .methodref 8 71), (0, .nameAndType 72 63), (0, u "validThread"), (0, .methodref 8 74), (0, .nameAndType 75 63), (0, u "validLock"), (0, .methodref 8 77), (0, .nameAndType 78 59), (0, u "clampTimeout"), (0, .methodref 8 80), (0, .nameAndType 81 82), (0, u "append"), (0, u "(II)V"), (0, .methodref 8 84), (0, .nameAndType 85 82), (0, u "enter"), (0, .methodref 8 87), (0, .nameAndType 88 6), (0, u "recordHistory"), (0, .methodref 8 90), (0, .nameAndType 91 82), (0, u "unlink"), (0, .methodref 8 93), (0, .nameAndType 94 95), (0, u "spinOnce"), (0, u "(II)I"), (0, .methodref 8 97), (0, .nameAndType 98 59), (0, u "popFront"), (0, .methodref 8 100), (0, .nameAndType 101 59), (0, u "aheadMcs"), (0, .methodref 8 103), (0, .nameAndType 104 59), (0, u "aheadClh"), (0, u "MCS"), (2, u "CLH"), (1, u "IDLE"), (0, u "WAITING"), (0, u "GRANTED"), (1, u "HOLDING"), (1, u "ABANDONED"), (1, u "NONE"), (1, u "REFUSED"), (1, u "MIN_THREADS"), (0, u "MAX_THREADS"), (1, u "MAX_TIMEOUT"), (1, u "LOG_SIZE"), (1, u "HISTORY_SIZE"), (1, u "(I)V"), (3, u "acquire"), (0, u "(III)I"), (0, u "step"), (0, u "release"), (0, u "holderAt"), (0, u "state"), (1, u "ahead"), (0, u "queueLength"), (0, u "spins"), (0, u "entries"), (0, u "entryAt"), (0, u "abandons"), (0, u "clock"), (0, u "()I")] 2

def k2c0 : Code := { maxStack := 3, maxLocals := 4, code := prog_1_method_1_code, exceptionTable := #[], attributes := #[] }
def k2m0 : Method := { name := "<init>", desc := "(I)V", sig := { parameters := [.int], returnType := none }, accessFlags := 1, code := some k2c0 }
def k2c1 : Code := { maxStack := 2, maxLocals := 2, code := prog_1_method_2_code, exceptionTable := #[], attributes := #[] }
def k2m1 : Method := { name := "validThread", desc := "(I)Z", sig := { parameters := [.int], returnType := some .boolean }, accessFlags := 2, code := some k2c1 }
def k2c2 : Code := { maxStack := 2, maxLocals := 2, code := prog_1_method_3_code, exceptionTable := #[], attributes := #[] }
def k2m2 : Method := { name := "validLock", desc := "(I)Z", sig := { parameters := [.int], returnType := some .boolean }, accessFlags := 2, code := some k2c2 }
def k2c3 : Code := { maxStack := 2, maxLocals := 2, code := prog_1_method_4_code, exceptionTable := #[], attributes := #[] }
def k2m3 : Method := { name := "inNodes", desc := "(I)Z", sig := { parameters := [.int], returnType := some .boolean }, accessFlags := 2, code := some k2c3 }
def k2c4 : Code := { maxStack := 2, maxLocals := 2, code := prog_1_method_5_code, exceptionTable := #[], attributes := #[] }
def k2m4 : Method := { name := "clampTimeout", desc := "(I)I", sig := { parameters := [.int], returnType := some .int }, accessFlags := 2, code := some k2c4 }
def k2c5 : Code := { maxStack := 4, maxLocals := 4, code := prog_1_method_6_code, exceptionTable := #[], attributes := #[] }
def k2m5 : Method := { name := "enter", desc := "(II)V", sig := { parameters := [.int, .int], returnType := none }, accessFlags := 2, code := some k2c5 }
def k2c6 : Code := { maxStack := 3, maxLocals := 3, code := prog_1_method_7_code, exceptionTable := #[], attributes := #[] }
def k2m6 : Method := { name := "recordHistory", desc := "()V", sig := { parameters := [], returnType := none }, accessFlags := 2, code := some k2c6 }
def k2c7 : Code := { maxStack := 4, maxLocals := 4, code := prog_1_method_8_code, exceptionTable := #[], attributes := #[] }
def k2m7 : Method := { name := "append", desc := "(II)V", sig := { parameters := [.int, .int], returnType := none }, accessFlags := 2, code := some k2c7 }
def k2c8 : Code := { maxStack := 2, maxLocals := 3, code := prog_1_method_9_code, exceptionTable := #[], attributes := #[] }
def k2m8 : Method := { name := "successorClh", desc := "(I)I", sig := { parameters := [.int], returnType := some .int }, accessFlags := 2, code := some k2c8 }
def k2c9 : Code := { maxStack := 2, maxLocals := 4, code := prog_1_method_10_code, exceptionTable := #[], attributes := #[] }
def k2m9 : Method := { name := "predecessorMcs", desc := "(I)I", sig := { parameters := [.int], returnType := some .int }, accessFlags := 2, code := some k2c9 }
def k2c10 : Code := { maxStack := 4, maxLocals := 4, code := prog_1_method_11_code, exceptionTable := #[], attributes := #[] }
def k2m10 : Method := { name := "popFront", desc := "(I)I", sig := { parameters := [.int], returnType := some .int }, accessFlags := 2, code := some k2c10 }
def k2c11 : Code := { maxStack := 4, maxLocals := 5, code := prog_1_method_12_code, exceptionTable := #[], attributes := #[] }
def k2m11 : Method := { name := "unlink", desc := "(II)V", sig := { parameters := [.int, .int], returnType := none }, accessFlags := 2, code := some k2c11 }
def k2c12 : Code := { maxStack := 4, maxLocals := 5, code := prog_1_method_13_code, exceptionTable := #[], attributes := #[] }
def k2m12 : Method := { name := "acquire", desc := "(III)I", sig := { parameters := [.int, .int, .int], returnType := some .int }, accessFlags := 1, code := some k2c12 }
def k2c13 : Code := { maxStack := 4, maxLocals := 3, code := prog_1_method_14_code, exceptionTable := #[], attributes := #[] }
def k2m13 : Method := { name := "spinOnce", desc := "(II)I", sig := { parameters := [.int, .int], returnType := some .int }, accessFlags := 2, code := some k2c13 }
def k2c14 : Code := { maxStack := 3, maxLocals := 5, code := prog_1_method_15_code, exceptionTable := #[], attributes := #[] }
def k2m14 : Method := { name := "step", desc := "(I)I", sig := { parameters := [.int], returnType := some .int }, accessFlags := 1, code := some k2c14 }
def k2c15 : Code := { maxStack := 3, maxLocals := 4, code := prog_1_method_16_code, exceptionTable := #[], attributes := #[] }
def k2m15 : Method := { name := "release", desc := "(I)I", sig := { parameters := [.int], returnType := some .int }, accessFlags := 1, code := some k2c15 }
def k2c16 : Code := { maxStack := 2, maxLocals := 3, code := prog_1_method_17_code, exceptionTable := #[], attributes := #[] }
def k2m16 : Method := { name := "holder", desc := "(I)I", sig := { parameters := [.int], returnType := some .int }, accessFlags := 1, code := some k2c16 }
def k2c17 : Code := { maxStack := 3, maxLocals := 3, code := prog_1_method_18_code, exceptionTable := #[], attributes := #[] }
def k2m17 : Method := { name := "holderAt", desc := "(II)I", sig := { parameters := [.int, .int], returnType := some .int }, accessFlags := 1, code := some k2c17 }
def k2c18 : Code := { maxStack := 2, maxLocals := 2, code := prog_1_method_19_code, exceptionTable := #[], attributes := #[] }
def k2m18 : Method := { name := "state", desc := "(I)I", sig := { parameters := [.int], returnType := some .int }, accessFlags := 1, code := some k2c18 }
def k2c19 : Code := { maxStack := 2, maxLocals := 4, code := prog_1_method_21_code, exceptionTable := #[], attributes := #[] }
def k2m19 : Method := { name := "aheadMcs", desc := "(I)I", sig := { parameters := [.int], returnType := some .int }, accessFlags := 2, code := some k2c19 }
def k2c20 : Code := { maxStack := 2, maxLocals := 5, code := prog_1_method_22_code, exceptionTable := #[], attributes := #[] }
def k2m20 : Method := { name := "aheadClh", desc := "(I)I", sig := { parameters := [.int], returnType := some .int }, accessFlags := 2, code := some k2c20 }
def k2c21 : Code := { maxStack := 2, maxLocals := 2, code := prog_1_method_23_code, exceptionTable := #[], attributes := #[] }
def k2m21 : Method := { name := "ahead", desc := "(I)I", sig := { parameters := [.int], returnType := some .int }, accessFlags := 1, code := some k2c21 }
def k2c22 : Code := { maxStack := 2, maxLocals := 2, code := prog_1_method_24_code, exceptionTable := #[], attributes := #[] }
def k2m22 : Method := { name := "queueLength", desc := "(I)I", sig := { parameters := [.int], returnType := some .int }, accessFlags := 1, code := some k2c22 }
def k2c23 : Code := { maxStack := 2, maxLocals := 2, code := prog_1_method_25_code, exceptionTable := #[], attributes := #[] }
def k2m23 : Method := { name := "spins", desc := "(I)I", sig := { parameters := [.int], returnType := some .int }, accessFlags := 1, code := some k2c23 }
def k2c24 : Code := { maxStack := 2, maxLocals := 2, code := prog_1_method_26_code, exceptionTable := #[], attributes := #[] }
def k2m24 : Method := { name := "entries", desc := "(I)I", sig := { parameters := [.int], returnType := some .int }, accessFlags := 1, code := some k2c24 }
def k2c25 : Code := { maxStack := 3, maxLocals := 3, code := prog_1_method_27_code, exceptionTable := #[], attributes := #[] }
def k2m25 : Method := { name := "entryAt", desc := "(II)I", sig := { parameters := [.int, .int], returnType := some .int }, accessFlags := 1, code := some k2c25 }
def k2c26 : Code := { maxStack := 2, maxLocals := 2, code := prog_1_method_28_code, exceptionTable := #[], attributes := #[] }
def k2m26 : Method := { name := "abandons", desc := "(I)I", sig := { parameters := [.int], returnType := some .int }, accessFlags := 1, code := some k2c26 }
def k2c27 : Code := { maxStack := 1, maxLocals := 1, code := prog_1_method_29_code, exceptionTable := #[], attributes := #[] }
def k2m27 : Method := { name := "clock", desc := "()I", sig := { parameters := [], returnType := some .int }, accessFlags := 1, code := some k2c27 }
/-- QueueLocks -/
def k2 : Class := { plain "QueueLocks" (some 0) with
  accessFlags := 49
  interfaces := #[]
  cf := some (fileOf pool2 8 #[] #[{ accessFlags := 1, nameIndex := 5, descriptorIndex := 131, attributes := #[] }, { accessFlags := 2, nameIndex := 72, descriptorIndex := 63, attributes := #[] }, { accessFlags := 2, nameIndex := 75, descriptorIndex := 63, attributes := #[] }, { accessFlags := 2, nameIndex := 62, descriptorIndex := 63, attributes := #[] }, { accessFlags := 2, nameIndex := 78, descriptorIndex := 59, attributes := #[] }, { accessFlags := 2, nameIndex := 85, descriptorIndex := 82, attributes := #[] }, { accessFlags := 2, nameIndex := 88, descriptorIndex := 6, attributes := #[] }, { accessFlags := 2, nameIndex := 81, descriptorIndex := 82, attributes := #[] }, { accessFlags := 2, nameIndex := 66, descriptorIndex := 59, attributes := #[] }, { accessFlags := 2, nameIndex := 69, descriptorIndex := 59, attributes := #[] }, { accessFlags := 2, nameIndex := 98, descriptorIndex := 59, attributes := #[] }, { accessFlags := 2, nameIndex := 91, descriptorIndex := 82, attributes := #[] }, { accessFlags := 1, nameIndex := 135, descriptorIndex := 136, attributes := #[] }, { accessFlags := 2, nameIndex := 94, descriptorIndex := 95, attributes := #[] }, { accessFlags := 1, nameIndex := 137, descriptorIndex := 59, attributes := #[] }, { accessFlags := 1, nameIndex := 138, descriptorIndex := 59, attributes := #[] }, { accessFlags := 1, nameIndex := 58, descriptorIndex := 59, attributes := #[] }, { accessFlags := 1, nameIndex := 139, descriptorIndex := 95, attributes := #[] }, { accessFlags := 1, nameIndex := 140, descriptorIndex := 59, attributes := #[] }, { accessFlags := 2, nameIndex := 101, descriptorIndex := 59, attributes := #[] }, { accessFlags := 2, nameIndex := 104, descriptorIndex := 59, attributes := #[] }, { accessFlags := 1, nameIndex := 142, descriptorIndex := 59, attributes := #[] }, { accessFlags := 1, nameIndex := 143, descriptorIndex := 59, attributes := #[] }, { accessFlags := 1, nameIndex := 144, descriptorIndex := 59, attributes := #[] }, { accessFlags := 1, nameIndex := 145, descriptorIndex := 59, attributes := #[] }, { accessFlags := 1, nameIndex := 146, descriptorIndex := 95, attributes := #[] }, { accessFlags := 1, nameIndex := 147, descriptorIndex := 59, attributes := #[] }, { accessFlags := 1, nameIndex := 148, descriptorIndex := 149, attributes := #[] }] 49 2 #[] #[{ accessFlags := 25, nameIndex := 105, descriptorIndex := 52, attributes := #[] }, { accessFlags := 25, nameIndex := 108, descriptorIndex := 52, attributes := #[] }, { accessFlags := 25, nameIndex := 110, descriptorIndex := 52, attributes := #[] }, { accessFlags := 25, nameIndex := 111, descriptorIndex := 52, attributes := #[] }, { accessFlags := 25, nameIndex := 112, descriptorIndex := 52, attributes := #[] }, { accessFlags := 25, nameIndex := 114, descriptorIndex := 52, attributes := #[] }, { accessFlags := 25, nameIndex := 116, descriptorIndex := 52, attributes := #[] }, { accessFlags := 25, nameIndex := 118, descriptorIndex := 52, attributes := #[] }, { accessFlags := 25, nameIndex := 120, descriptorIndex := 52, attributes := #[] }, { accessFlags := 25, nameIndex := 122, descriptorIndex := 52, attributes := #[] }, { accessFlags := 25, nameIndex := 123, descriptorIndex := 52, attributes := #[] }, { accessFlags := 25, nameIndex := 125, descriptorIndex := 52, attributes := #[] }, { accessFlags := 25, nameIndex := 127, descriptorIndex := 52, attributes := #[] }, { accessFlags := 25, nameIndex := 129, descriptorIndex := 52, attributes := #[] }, { accessFlags := 2, nameIndex := 51, descriptorIndex := 52, attributes := #[] }, { accessFlags := 2, nameIndex := 55, descriptorIndex := 52, attributes := #[] }, { accessFlags := 2, nameIndex := 11, descriptorIndex := 12, attributes := #[] }, { accessFlags := 2, nameIndex := 15, descriptorIndex := 12, attributes := #[] }, { accessFlags := 2, nameIndex := 18, descriptorIndex := 12, attributes := #[] }, { accessFlags := 2, nameIndex := 21, descriptorIndex := 12, attributes := #[] }, { accessFlags := 2, nameIndex := 24, descriptorIndex := 12, attributes := #[] }, { accessFlags := 2, nameIndex := 27, descriptorIndex := 12, attributes := #[] }, { accessFlags := 2, nameIndex := 30, descriptorIndex := 12, attributes := #[] }, { accessFlags := 2, nameIndex := 33, descriptorIndex := 12, attributes := #[] }, { accessFlags := 2, nameIndex := 36, descriptorIndex := 12, attributes := #[] }, { accessFlags := 2, nameIndex := 39, descriptorIndex := 12, attributes := #[] }, { accessFlags := 2, nameIndex := 42, descriptorIndex := 12, attributes := #[] }, { accessFlags := 2, nameIndex := 45, descriptorIndex := 12, attributes := #[] }, { accessFlags := 2, nameIndex := 48, descriptorIndex := 12, attributes := #[] }])
  fields := #[{ name := "MCS", type := .int, accessFlags := 25, slot := 0, constantValue := 0 }, { name := "CLH", type := .int, accessFlags := 25, slot := 1, constantValue := 0 }, { name := "IDLE", type := .int, accessFlags := 25, slot := 2, constantValue := 0 }, { name := "WAITING", type := .int, accessFlags := 25, slot := 3, constantValue := 0 }, { name := "GRANTED", type := .int, accessFlags := 25, slot := 4, constantValue := 0 }, { name := "HOLDING", type := .int, accessFlags := 25, slot := 5, constantValue := 0 }, { name := "ABANDONED", type := .int, accessFlags := 25, slot := 6, constantValue := 0 }, { name := "NONE", type := .int, accessFlags := 25, slot := 7, constantValue := 0 }, { name := "REFUSED", type := .int, accessFlags := 25, slot := 8, constantValue := 0 }, { name := "MIN_THREADS", type := .int, accessFlags := 25, slot := 9, constantValue := 0 }, { name := "MAX_THREADS", type := .int, accessFlags := 25, slot := 10, constantValue := 0 }, { name := "MAX_TIMEOUT", type := .int, accessFlags := 25, slot := 11, constantValue := 0 }, { name := "LOG_SIZE", type := .int, accessFlags := 25, slot := 12, constantValue := 0 }, { name := "HISTORY_SIZE", type := .int, accessFlags := 25, slot := 13, constantValue := 0 }, { name := "n", type := .int, accessFlags := 2, slot := 0, constantValue := 0 }, { name := "clk", type := .int, accessFlags := 2, slot := 1, constantValue := 0 }, { name := "st", type := (.array .int), accessFlags := 2, slot := 2, constantValue := 0 }, { name := "lk", type := (.array .int), accessFlags := 2, slot := 3, constantValue := 0 }, { name := "tmo", type := (.array .int), accessFlags := 2, slot := 4, constantValue := 0 }, { name := "spin", type := (.array .int), accessFlags := 2, slot := 5, constantValue := 0 }, { name := "nxt0", type := (.array .int), accessFlags := 2, slot := 6, constantValue := 0 }, { name := "prv1", type := (.array .int), accessFlags := 2, slot := 7, constantValue := 0 }, { name := "head", type := (.array .int), accessFlags := 2, slot := 8, constantValue := 0 }, { name := "tail", type := (.array .int), accessFlags := 2, slot := 9, constantValue := 0 }, { name := "len", type := (.array .int), accessFlags := 2, slot := 10, constantValue := 0 }, { name := "ent", type := (.array .int), accessFlags := 2, slot := 11, constantValue := 0 }, { name := "aband", type := (.array .int), accessFlags := 2, slot := 12, constantValue := 0 }, { name := "log", type := (.array .int), accessFlags := 2, slot := 13, constantValue := 0 }, { name := "hist", type := (.array .int), accessFlags := 2, slot := 14, constantValue := 0 }]
  methods := #[k2m0, k2m1, k2m2, k2m3, k2m4, k2m5, k2m6, k2m7, k2m8, k2m9, k2m10, k2m11, k2m12, k2m13, k2m14, k2m15, k2m16, k2m17, k2m18, k2m19, k2m20, k2m21, k2m22, k2m23, k2m24, k2m25, k2m26, k2m27]
  instanceTypes := #[.int, .int, (.array .int), (.array .int), (.array .int), (.array .int), (.array .int), (.array .int), (.array .int), (.array .int), (.array .int), (.array .int), (.array .int), (.array .int), (.array .int)]
  staticTypes := #[.int, .int, .int, .int, .int, .int, .int, .int, .int, .int, .int, .int, .int, .int]
  resolved := Array.replicate 152 none
  statics := none }

def pool3 : Array CpInfo := pool [(1, u "java/lang/Cloneable"), (0, .class_ 1), (0, u "java/lang/Object"), (0, .class_ 3)] 3

/-- java/lang/Cloneable -/
def k3 : Class := { plain "java/lang/Cloneable" (some 0) with
  accessFlags := 1537
  interfaces := #[]
  cf := some (fileOf pool3 2 #[] #[] 1537 4 #[] #[])
  fields := #[]
  methods := #[]
  instanceTypes := #[]
  staticTypes := #[]
  resolved := Array.replicate 8 none
  statics := none }

def pool4 : Array CpInfo := pool [(1, u "java/io/Serializable"), (0, .class_ 1), (0, u "java/lang/Object"), (0, .class_ 3)] 3

/-- java/io/Serializable -/
def k4 : Class := { plain "java/io/Serializable" (some 0) with
  accessFlags := 1537
  interfaces := #[]
  cf := some (fileOf pool4 2 #[] #[] 1537 4 #[] #[])
  fields := #[]
  methods := #[]
  instanceTypes := #[]
  staticTypes := #[]
  resolved := Array.replicate 8 none
  statics := none }

/-- the primitive byte -/
def k5 : Class := { plain "byte" none with kind := .primitive 'B', accessFlags := 0x411 }
/-- [B -/
def k6 : Class := { plain "[B" (some 0) with kind := .array 5 .byte, interfaces := #[3, 4], accessFlags := 1041 }

/-- the primitive int -/
def k7 : Class := { plain "int" none with kind := .primitive 'I', accessFlags := 0x411 }
/-- [I -/
def k8 : Class := { plain "[I" (some 0) with kind := .array 7 .int, interfaces := #[3, 4], accessFlags := 1041 }

def heap : Heap := #[]
def classes : Array Class := #[k0, k1, k2, k3, k4, k5, k6, k7, k8]
def interned : List (Array UInt16 × Addr) := []
def slotsUsed : Nat := 0
def theMethod : MethodId := ⟨1, 1⟩
def args0 : Array Value := #[.int 1, .int 1, .int 1]
def aboutOver (below : List Frame) : State where
  vm := { classes := classes, interned := interned.toArray }
  heap := heap
  slotsUsed := slotsUsed
  threads := #[{ frames := .invoking theMethod args0 :: below }]
def below0 : List Frame := [.native { method := ⟨0, 0⟩, args := #[] }]
def about1 : State := aboutOver below0
def p0 : Program := .bare "" "" ""
def e0 : Env := launch0.env 0 0 0
theorem w_frames : about1.frames = Frame.invoking theMethod args0 :: below0 := rfl
set_option maxRecDepth 65536 in
theorem w_args : argsFit about1.vm theMethod args0 = true := by decide +kernel
set_option maxRecDepth 65536 in
theorem w_heap : heapFits about1 = true := by decide +kernel
set_option maxRecDepth 65536 in
theorem w_runnable : about1.curStatus? = some .runnable := by decide +kernel
set_option maxRecDepth 65536 in
theorem w_alone : about1.alone = true := by decide +kernel
set_option maxRecDepth 65536 in
theorem w_named : about1.methodNamed? x = some theMethod := by decide +kernel
set_option maxRecDepth 65536 in
theorem w_hears : about1.hears theMethod below0 = true := by decide +kernel
set_option maxRecDepth 65536 in
theorem w_ripe : about1.ripe theMethod args0 below0 = true := by decide +kernel
theorem w_running : about1.status = .running := rfl
set_option maxRecDepth 65536 in
theorem w_room : about1.hasRoom e0.platform room_1 = true :=
  launch0.hasRoom_least _ room_1 (by decide +kernel) (by decide +kernel) (by decide +kernel) (by decide +kernel) (by decide +kernel) (by decide +kernel)
theorem allAtoms_all (ts : List Jvm.Cond) (a : Array Jvm.Value) (st : Jvm.State) : (allAtoms ts).before a st = ts.all (fun c => c.before a st) := by
  induction ts with
  | nil => rfl
  | cons c t ih =>
    show (Jvm.Cond.and c (allAtoms t)).before a st = _
    rw [Jvm.Cond.before_and, ih, List.all_cons]
def words1 : List Jvm.Cond := Jvm.Cond.code x code maxLocals ret :: tables_1
/-- a 'code' word, met by the world's own term for the bytes: nothing is compared byte by byte -/
theorem code_word {y : MethodName} {bytes : ByteArray} {mx : Nat} {rt : Option FieldType} {a : Array Value} {s : State} {m : MethodId} {meth : Method} {c : Code} (h1 : s.methodNamed? y = some m) (h2 : s.vm.method? m = some meth) (h3 : meth.code = some c) (h4 : c.code = bytes)
    (h5 : (c.maxLocals == mx && c.exceptionTable.isEmpty && decide (c.maxStack ≤ mostOperands) && decide (meth.sig.returnType = rt) && !meth.locks && decide (parseMethodDescriptor y.desc = some meth.sig)) = true) : (Jvm.Cond.code y bytes mx rt).before a s = true := by
  simp only [Bool.and_eq_true, beq_iff_eq, Bool.not_eq_true', decide_eq_true_eq] at h5
  obtain ⟨⟨⟨⟨⟨g1, g2⟩, g3⟩, g4⟩, g5⟩, g6⟩ := h5
  simp [Cond.before, Cond.holds, Cond.value, h1, h2, h3, h4, g1, g2, g3, g4, g5, g6]
def isCode : Jvm.Cond → Bool
  | .code _ _ _ _ => true
  | _ => false
theorem all_split {L : List Jvm.Cond} {P : Jvm.Cond → Bool} (h1 : L.all (fun c => isCode c || P c) = true) (h2 : ∀ c ∈ L.filter isCode, P c = true) : L.all P = true := by
  refine List.all_eq_true.mpr fun c hc => ?_
  have h := List.all_eq_true.mp h1 c hc
  rcases Bool.eq_false_or_eq_true (isCode c) with hi | hi
  · exact h2 c (List.mem_filter.mpr ⟨hc, hi⟩)
  · simpa [hi] using h
set_option maxRecDepth 65536 in
theorem w_c0 : (Jvm.Cond.code x code maxLocals ret).before args0 about1 = true := code_word (m := ⟨1, 1⟩) (meth := k1m1) (c := k1c1) (by decide +kernel) rfl rfl rfl (by decide +kernel)
set_option maxRecDepth 65536 in
theorem w_c1 : (Jvm.Cond.code ({ cls := "QueueLocks", name := "<init>", desc := "(I)V" } : Jvm.MethodName) prog_1_method_1_code (4 : Nat) (Option.none : Option Jvm.ClassFile.FieldType)).before args0 about1 = true := code_word (m := ⟨2, 0⟩) (meth := k2m0) (c := k2c0) (by decide +kernel) rfl rfl rfl (by decide +kernel)
set_option maxRecDepth 65536 in
theorem w_c2 : (Jvm.Cond.code ({ cls := "java/lang/Object", name := "<init>", desc := "()V" } : Jvm.MethodName) object_method_1_code (1 : Nat) (Option.none : Option Jvm.ClassFile.FieldType)).before args0 about1 = true := code_word (m := ⟨0, 0⟩) (meth := k0m0) (c := k0c0) (by decide +kernel) rfl rfl rfl (by decide +kernel)
set_option maxRecDepth 65536 in
theorem w_c3 : (Jvm.Cond.code ({ cls := "QueueLocks", name := "acquire", desc := "(III)I" } : Jvm.MethodName) prog_1_method_13_code (5 : Nat) (Option.some Jvm.ClassFile.FieldType.int)).before args0 about1 = true := code_word (m := ⟨2, 12⟩) (meth := k2m12) (c := k2c12) (by decide +kernel) rfl rfl rfl (by decide +kernel)
set_option maxRecDepth 65536 in
theorem w_c4 : (Jvm.Cond.code ({ cls := "QueueLocks", name := "validThread", desc := "(I)Z" } : Jvm.MethodName) prog_1_method_2_code (2 : Nat) (Option.some Jvm.ClassFile.FieldType.boolean)).before args0 about1 = true := code_word (m := ⟨2, 1⟩) (meth := k2m1) (c := k2c1) (by decide +kernel) rfl rfl rfl (by decide +kernel)
set_option maxRecDepth 65536 in
theorem w_c5 : (Jvm.Cond.code ({ cls := "QueueLocks", name := "validLock", desc := "(I)Z" } : Jvm.MethodName) prog_1_method_3_code (2 : Nat) (Option.some Jvm.ClassFile.FieldType.boolean)).before args0 about1 = true := code_word (m := ⟨2, 2⟩) (meth := k2m2) (c := k2c2) (by decide +kernel) rfl rfl rfl (by decide +kernel)
set_option maxRecDepth 65536 in
theorem w_c6 : (Jvm.Cond.code ({ cls := "QueueLocks", name := "clampTimeout", desc := "(I)I" } : Jvm.MethodName) prog_1_method_5_code (2 : Nat) (Option.some Jvm.ClassFile.FieldType.int)).before args0 about1 = true := code_word (m := ⟨2, 4⟩) (meth := k2m4) (c := k2c4) (by decide +kernel) rfl rfl rfl (by decide +kernel)
set_option maxRecDepth 65536 in
theorem w_c7 : (Jvm.Cond.code ({ cls := "QueueLocks", name := "append", desc := "(II)V" } : Jvm.MethodName) prog_1_method_8_code (4 : Nat) (Option.none : Option Jvm.ClassFile.FieldType)).before args0 about1 = true := code_word (m := ⟨2, 7⟩) (meth := k2m7) (c := k2c7) (by decide +kernel) rfl rfl rfl (by decide +kernel)
set_option maxRecDepth 65536 in
theorem w_c8 : (Jvm.Cond.code ({ cls := "QueueLocks", name := "enter", desc := "(II)V" } : Jvm.MethodName) prog_1_method_6_code (4 : Nat) (Option.none : Option Jvm.ClassFile.FieldType)).before args0 about1 = true := code_word (m := ⟨2, 5⟩) (meth := k2m5) (c := k2c5) (by decide +kernel) rfl rfl rfl (by decide +kernel)
set_option maxRecDepth 65536 in
theorem w_c9 : (Jvm.Cond.code ({ cls := "QueueLocks", name := "recordHistory", desc := "()V" } : Jvm.MethodName) prog_1_method_7_code (3 : Nat) (Option.none : Option Jvm.ClassFile.FieldType)).before args0 about1 = true := code_word (m := ⟨2, 6⟩) (meth := k2m6) (c := k2c6) (by decide +kernel) rfl rfl rfl (by decide +kernel)
set_option maxRecDepth 65536 in
theorem w_c10 : (Jvm.Cond.code ({ cls := "QueueLocks", name := "holder", desc := "(I)I" } : Jvm.MethodName) prog_1_method_17_code (3 : Nat) (Option.some Jvm.ClassFile.FieldType.int)).before args0 about1 = true := code_word (m := ⟨2, 16⟩) (meth := k2m16) (c := k2c16) (by decide +kernel) rfl rfl rfl (by decide +kernel)
set_option maxRecDepth 65536 in
theorem w_c11 : (Jvm.Cond.code ({ cls := "QueueLocks", name := "inNodes", desc := "(I)Z" } : Jvm.MethodName) prog_1_method_4_code (2 : Nat) (Option.some Jvm.ClassFile.FieldType.boolean)).before args0 about1 = true := code_word (m := ⟨2, 3⟩) (meth := k2m3) (c := k2c3) (by decide +kernel) rfl rfl rfl (by decide +kernel)
set_option maxRecDepth 65536 in
theorem w_c12 : (Jvm.Cond.code ({ cls := "QueueLocks", name := "step", desc := "(I)I" } : Jvm.MethodName) prog_1_method_15_code (5 : Nat) (Option.some Jvm.ClassFile.FieldType.int)).before args0 about1 = true := code_word (m := ⟨2, 14⟩) (meth := k2m14) (c := k2c14) (by decide +kernel) rfl rfl rfl (by decide +kernel)
set_option maxRecDepth 65536 in
theorem w_c13 : (Jvm.Cond.code ({ cls := "QueueLocks", name := "spinOnce", desc := "(II)I" } : Jvm.MethodName) prog_1_method_14_code (3 : Nat) (Option.some Jvm.ClassFile.FieldType.int)).before args0 about1 = true := code_word (m := ⟨2, 13⟩) (meth := k2m13) (c := k2c13) (by decide +kernel) rfl rfl rfl (by decide +kernel)
set_option maxRecDepth 65536 in
theorem w_c14 : (Jvm.Cond.code ({ cls := "QueueLocks", name := "unlink", desc := "(II)V" } : Jvm.MethodName) prog_1_method_12_code (5 : Nat) (Option.none : Option Jvm.ClassFile.FieldType)).before args0 about1 = true := code_word (m := ⟨2, 11⟩) (meth := k2m11) (c := k2c11) (by decide +kernel) rfl rfl rfl (by decide +kernel)
set_option maxRecDepth 65536 in
theorem w_c15 : (Jvm.Cond.code ({ cls := "QueueLocks", name := "successorClh", desc := "(I)I" } : Jvm.MethodName) prog_1_method_9_code (3 : Nat) (Option.some Jvm.ClassFile.FieldType.int)).before args0 about1 = true := code_word (m := ⟨2, 8⟩) (meth := k2m8) (c := k2c8) (by decide +kernel) rfl rfl rfl (by decide +kernel)
set_option maxRecDepth 65536 in
theorem w_c16 : (Jvm.Cond.code ({ cls := "QueueLocks", name := "abandons", desc := "(I)I" } : Jvm.MethodName) prog_1_method_28_code (2 : Nat) (Option.some Jvm.ClassFile.FieldType.int)).before args0 about1 = true := code_word (m := ⟨2, 26⟩) (meth := k2m26) (c := k2c26) (by decide +kernel) rfl rfl rfl (by decide +kernel)
set_option maxRecDepth 65536 in
theorem w_c17 : (Jvm.Cond.code ({ cls := "QueueLocks", name := "spins", desc := "(I)I" } : Jvm.MethodName) prog_1_method_25_code (2 : Nat) (Option.some Jvm.ClassFile.FieldType.int)).before args0 about1 = true := code_word (m := ⟨2, 23⟩) (meth := k2m23) (c := k2c23) (by decide +kernel) rfl rfl rfl (by decide +kernel)
set_option maxRecDepth 65536 in
theorem w_c18 : (Jvm.Cond.code ({ cls := "QueueLocks", name := "state", desc := "(I)I" } : Jvm.MethodName) prog_1_method_19_code (2 : Nat) (Option.some Jvm.ClassFile.FieldType.int)).before args0 about1 = true := code_word (m := ⟨2, 18⟩) (meth := k2m18) (c := k2c18) (by decide +kernel) rfl rfl rfl (by decide +kernel)
set_option maxRecDepth 65536 in
theorem w_c19 : (Jvm.Cond.code ({ cls := "QueueLocks", name := "queueLength", desc := "(I)I" } : Jvm.MethodName) prog_1_method_24_code (2 : Nat) (Option.some Jvm.ClassFile.FieldType.int)).before args0 about1 = true := code_word (m := ⟨2, 22⟩) (meth := k2m22) (c := k2c22) (by decide +kernel) rfl rfl rfl (by decide +kernel)
set_option maxRecDepth 65536 in
theorem w_c20 : (Jvm.Cond.code ({ cls := "QueueLocks", name := "ahead", desc := "(I)I" } : Jvm.MethodName) prog_1_method_23_code (2 : Nat) (Option.some Jvm.ClassFile.FieldType.int)).before args0 about1 = true := code_word (m := ⟨2, 21⟩) (meth := k2m21) (c := k2c21) (by decide +kernel) rfl rfl rfl (by decide +kernel)
set_option maxRecDepth 65536 in
theorem w_c21 : (Jvm.Cond.code ({ cls := "QueueLocks", name := "aheadClh", desc := "(I)I" } : Jvm.MethodName) prog_1_method_22_code (5 : Nat) (Option.some Jvm.ClassFile.FieldType.int)).before args0 about1 = true := code_word (m := ⟨2, 20⟩) (meth := k2m20) (c := k2c20) (by decide +kernel) rfl rfl rfl (by decide +kernel)
set_option maxRecDepth 65536 in
theorem w_c22 : (Jvm.Cond.code ({ cls := "QueueLocks", name := "release", desc := "(I)I" } : Jvm.MethodName) prog_1_method_16_code (4 : Nat) (Option.some Jvm.ClassFile.FieldType.int)).before args0 about1 = true := code_word (m := ⟨2, 15⟩) (meth := k2m15) (c := k2c15) (by decide +kernel) rfl rfl rfl (by decide +kernel)
set_option maxRecDepth 65536 in
theorem w_c23 : (Jvm.Cond.code ({ cls := "QueueLocks", name := "popFront", desc := "(I)I" } : Jvm.MethodName) prog_1_method_11_code (4 : Nat) (Option.some Jvm.ClassFile.FieldType.int)).before args0 about1 = true := code_word (m := ⟨2, 10⟩) (meth := k2m10) (c := k2c10) (by decide +kernel) rfl rfl rfl (by decide +kernel)
set_option maxRecDepth 65536 in
theorem w_c24 : (Jvm.Cond.code ({ cls := "QueueLocks", name := "clock", desc := "()I" } : Jvm.MethodName) prog_1_method_29_code (1 : Nat) (Option.some Jvm.ClassFile.FieldType.int)).before args0 about1 = true := code_word (m := ⟨2, 27⟩) (meth := k2m27) (c := k2c27) (by decide +kernel) rfl rfl rfl (by decide +kernel)
set_option maxRecDepth 65536 in
theorem w_c25 : (Jvm.Cond.code ({ cls := "QueueLocks", name := "entries", desc := "(I)I" } : Jvm.MethodName) prog_1_method_26_code (2 : Nat) (Option.some Jvm.ClassFile.FieldType.int)).before args0 about1 = true := code_word (m := ⟨2, 24⟩) (meth := k2m24) (c := k2c24) (by decide +kernel) rfl rfl rfl (by decide +kernel)
set_option maxRecDepth 65536 in
theorem w_c26 : (Jvm.Cond.code ({ cls := "QueueLocks", name := "entryAt", desc := "(II)I" } : Jvm.MethodName) prog_1_method_27_code (3 : Nat) (Option.some Jvm.ClassFile.FieldType.int)).before args0 about1 = true := code_word (m := ⟨2, 25⟩) (meth := k2m25) (c := k2c25) (by decide +kernel) rfl rfl rfl (by decide +kernel)
set_option maxRecDepth 65536 in
theorem w_c27 : (Jvm.Cond.code ({ cls := "QueueLocks", name := "holderAt", desc := "(II)I" } : Jvm.MethodName) prog_1_method_18_code (3 : Nat) (Option.some Jvm.ClassFile.FieldType.int)).before args0 about1 = true := code_word (m := ⟨2, 17⟩) (meth := k2m17) (c := k2c17) (by decide +kernel) rfl rfl rfl (by decide +kernel)
set_option maxRecDepth 65536 in
theorem w_c28 : (Jvm.Cond.code ({ cls := "QueueLocks", name := "predecessorMcs", desc := "(I)I" } : Jvm.MethodName) prog_1_method_10_code (4 : Nat) (Option.some Jvm.ClassFile.FieldType.int)).before args0 about1 = true := code_word (m := ⟨2, 9⟩) (meth := k2m9) (c := k2c9) (by decide +kernel) rfl rfl rfl (by decide +kernel)
set_option maxRecDepth 65536 in
theorem w_c29 : (Jvm.Cond.code ({ cls := "QueueLocks", name := "aheadMcs", desc := "(I)I" } : Jvm.MethodName) prog_1_method_21_code (4 : Nat) (Option.some Jvm.ClassFile.FieldType.int)).before args0 about1 = true := code_word (m := ⟨2, 19⟩) (meth := k2m19) (c := k2c19) (by decide +kernel) rfl rfl rfl (by decide +kernel)
def codes1 : List Jvm.Cond := [Jvm.Cond.code x code maxLocals ret, Jvm.Cond.code ({ cls := "QueueLocks", name := "<init>", desc := "(I)V" } : Jvm.MethodName) prog_1_method_1_code (4 : Nat) (Option.none : Option Jvm.ClassFile.FieldType), Jvm.Cond.code ({ cls := "java/lang/Object", name := "<init>", desc := "()V" } : Jvm.MethodName) object_method_1_code (1 : Nat) (Option.none : Option Jvm.ClassFile.FieldType), Jvm.Cond.code ({ cls := "QueueLocks", name := "acquire", desc := "(III)I" } : Jvm.MethodName) prog_1_method_13_code (5 : Nat) (Option.some Jvm.ClassFile.FieldType.int), Jvm.Cond.code ({ cls := "QueueLocks", name := "validThread", desc := "(I)Z" } : Jvm.MethodName) prog_1_method_2_code (2 : Nat) (Option.some Jvm.ClassFile.FieldType.boolean), Jvm.Cond.code ({ cls := "QueueLocks", name := "validLock", desc := "(I)Z" } : Jvm.MethodName) prog_1_method_3_code (2 : Nat) (Option.some Jvm.ClassFile.FieldType.boolean), Jvm.Cond.code ({ cls := "QueueLocks", name := "clampTimeout", desc := "(I)I" } : Jvm.MethodName) prog_1_method_5_code (2 : Nat) (Option.some Jvm.ClassFile.FieldType.int), Jvm.Cond.code ({ cls := "QueueLocks", name := "append", desc := "(II)V" } : Jvm.MethodName) prog_1_method_8_code (4 : Nat) (Option.none : Option Jvm.ClassFile.FieldType), Jvm.Cond.code ({ cls := "QueueLocks", name := "enter", desc := "(II)V" } : Jvm.MethodName) prog_1_method_6_code (4 : Nat) (Option.none : Option Jvm.ClassFile.FieldType), Jvm.Cond.code ({ cls := "QueueLocks", name := "recordHistory", desc := "()V" } : Jvm.MethodName) prog_1_method_7_code (3 : Nat) (Option.none : Option Jvm.ClassFile.FieldType), Jvm.Cond.code ({ cls := "QueueLocks", name := "holder", desc := "(I)I" } : Jvm.MethodName) prog_1_method_17_code (3 : Nat) (Option.some Jvm.ClassFile.FieldType.int), Jvm.Cond.code ({ cls := "QueueLocks", name := "inNodes", desc := "(I)Z" } : Jvm.MethodName) prog_1_method_4_code (2 : Nat) (Option.some Jvm.ClassFile.FieldType.boolean), Jvm.Cond.code ({ cls := "QueueLocks", name := "step", desc := "(I)I" } : Jvm.MethodName) prog_1_method_15_code (5 : Nat) (Option.some Jvm.ClassFile.FieldType.int), Jvm.Cond.code ({ cls := "QueueLocks", name := "spinOnce", desc := "(II)I" } : Jvm.MethodName) prog_1_method_14_code (3 : Nat) (Option.some Jvm.ClassFile.FieldType.int), Jvm.Cond.code ({ cls := "QueueLocks", name := "unlink", desc := "(II)V" } : Jvm.MethodName) prog_1_method_12_code (5 : Nat) (Option.none : Option Jvm.ClassFile.FieldType), Jvm.Cond.code ({ cls := "QueueLocks", name := "successorClh", desc := "(I)I" } : Jvm.MethodName) prog_1_method_9_code (3 : Nat) (Option.some Jvm.ClassFile.FieldType.int), Jvm.Cond.code ({ cls := "QueueLocks", name := "abandons", desc := "(I)I" } : Jvm.MethodName) prog_1_method_28_code (2 : Nat) (Option.some Jvm.ClassFile.FieldType.int), Jvm.Cond.code ({ cls := "QueueLocks", name := "spins", desc := "(I)I" } : Jvm.MethodName) prog_1_method_25_code (2 : Nat) (Option.some Jvm.ClassFile.FieldType.int), Jvm.Cond.code ({ cls := "QueueLocks", name := "state", desc := "(I)I" } : Jvm.MethodName) prog_1_method_19_code (2 : Nat) (Option.some Jvm.ClassFile.FieldType.int), Jvm.Cond.code ({ cls := "QueueLocks", name := "queueLength", desc := "(I)I" } : Jvm.MethodName) prog_1_method_24_code (2 : Nat) (Option.some Jvm.ClassFile.FieldType.int), Jvm.Cond.code ({ cls := "QueueLocks", name := "ahead", desc := "(I)I" } : Jvm.MethodName) prog_1_method_23_code (2 : Nat) (Option.some Jvm.ClassFile.FieldType.int), Jvm.Cond.code ({ cls := "QueueLocks", name := "aheadClh", desc := "(I)I" } : Jvm.MethodName) prog_1_method_22_code (5 : Nat) (Option.some Jvm.ClassFile.FieldType.int), Jvm.Cond.code ({ cls := "QueueLocks", name := "release", desc := "(I)I" } : Jvm.MethodName) prog_1_method_16_code (4 : Nat) (Option.some Jvm.ClassFile.FieldType.int), Jvm.Cond.code ({ cls := "QueueLocks", name := "popFront", desc := "(I)I" } : Jvm.MethodName) prog_1_method_11_code (4 : Nat) (Option.some Jvm.ClassFile.FieldType.int), Jvm.Cond.code ({ cls := "QueueLocks", name := "clock", desc := "()I" } : Jvm.MethodName) prog_1_method_29_code (1 : Nat) (Option.some Jvm.ClassFile.FieldType.int), Jvm.Cond.code ({ cls := "QueueLocks", name := "entries", desc := "(I)I" } : Jvm.MethodName) prog_1_method_26_code (2 : Nat) (Option.some Jvm.ClassFile.FieldType.int), Jvm.Cond.code ({ cls := "QueueLocks", name := "entryAt", desc := "(II)I" } : Jvm.MethodName) prog_1_method_27_code (3 : Nat) (Option.some Jvm.ClassFile.FieldType.int), Jvm.Cond.code ({ cls := "QueueLocks", name := "holderAt", desc := "(II)I" } : Jvm.MethodName) prog_1_method_18_code (3 : Nat) (Option.some Jvm.ClassFile.FieldType.int), Jvm.Cond.code ({ cls := "QueueLocks", name := "predecessorMcs", desc := "(I)I" } : Jvm.MethodName) prog_1_method_10_code (4 : Nat) (Option.some Jvm.ClassFile.FieldType.int), Jvm.Cond.code ({ cls := "QueueLocks", name := "aheadMcs", desc := "(I)I" } : Jvm.MethodName) prog_1_method_21_code (4 : Nat) (Option.some Jvm.ClassFile.FieldType.int)]
set_option maxRecDepth 65536 in
theorem codes_eq : words1.filter isCode = codes1 := rfl
theorem w_codes : ∀ c ∈ words1.filter isCode, c.before args0 about1 = true := by
  rw [codes_eq]
  intro c hc
  simp only [codes1, List.mem_cons, List.not_mem_nil, or_false] at hc
  rcases hc with rfl | rfl | rfl | rfl | rfl | rfl | rfl | rfl | rfl | rfl | rfl | rfl | rfl | rfl | rfl | rfl | rfl | rfl | rfl | rfl | rfl | rfl | rfl | rfl | rfl | rfl | rfl | rfl | rfl | rfl
  · exact w_c0
  · exact w_c1
  · exact w_c2
  · exact w_c3
  · exact w_c4
  · exact w_c5
  · exact w_c6
  · exact w_c7
  · exact w_c8
  · exact w_c9
  · exact w_c10
  · exact w_c11
  · exact w_c12
  · exact w_c13
  · exact w_c14
  · exact w_c15
  · exact w_c16
  · exact w_c17
  · exact w_c18
  · exact w_c19
  · exact w_c20
  · exact w_c21
  · exact w_c22
  · exact w_c23
  · exact w_c24
  · exact w_c25
  · exact w_c26
  · exact w_c27
  · exact w_c28
  · exact w_c29
set_option maxRecDepth 65536 in
theorem w_t1 : (words1.take 24).all (fun c => isCode c || c.before args0 about1) = true := by decide +kernel
set_option maxRecDepth 65536 in
theorem w_t2 : ((words1.drop 24).take 24).all (fun c => isCode c || c.before args0 about1) = true := by decide +kernel
set_option maxRecDepth 65536 in
theorem w_t3 : (((words1.drop 24).drop 24).take 24).all (fun c => isCode c || c.before args0 about1) = true := by decide +kernel
set_option maxRecDepth 65536 in
theorem w_t4 : ((((words1.drop 24).drop 24).drop 24).take 24).all (fun c => isCode c || c.before args0 about1) = true := by decide +kernel
set_option maxRecDepth 65536 in
theorem w_t5 : (((((words1.drop 24).drop 24).drop 24).drop 24).take 24).all (fun c => isCode c || c.before args0 about1) = true := by decide +kernel
set_option maxRecDepth 65536 in
theorem w_t6 : ((((((words1.drop 24).drop 24).drop 24).drop 24).drop 24).take 24).all (fun c => isCode c || c.before args0 about1) = true := by decide +kernel
set_option maxRecDepth 65536 in
theorem w_t7 : ((((((words1.drop 24).drop 24).drop 24).drop 24).drop 24).drop 24).all (fun c => isCode c || c.before args0 about1) = true := by decide +kernel
theorem w_tables : (allAtoms (Jvm.Cond.code x code maxLocals ret :: tables_1)).before args0 about1 = true := by
  rw [allAtoms_all]
  show words1.all (fun c => c.before args0 about1) = true
  refine all_split ?_ w_codes
  rw [← List.take_append_drop 24 words1, List.all_append, w_t1, ← List.take_append_drop 24 (words1.drop 24), List.all_append, w_t2, ← List.take_append_drop 24 ((words1.drop 24).drop 24), List.all_append, w_t3, ← List.take_append_drop 24 (((words1.drop 24).drop 24).drop 24), List.all_append, w_t4, ← List.take_append_drop 24 ((((words1.drop 24).drop 24).drop 24).drop 24), List.all_append, w_t5, ← List.take_append_drop 24 (((((words1.drop 24).drop 24).drop 24).drop 24).drop 24), List.all_append, w_t6, w_t7]
  rfl
set_option maxRecDepth 65536 in
theorem w_case : (Jvm.Cond.and given_1 narrow_1).before args0 about1 = true := by decide +kernel
theorem w_applies : (headSpec (Jvm.Cond.code x code maxLocals ret :: tables_1) room_1).applies x e0.platform about1 = true :=
  (Spec.applies_iff w_frames).mpr ⟨w_running, w_runnable, w_alone, w_named, w_hears, w_ripe, w_room, w_tables⟩
theorem atStart : AtStart classFile x code maxLocals ret World_1 tables_1 room_1 Calls_1 rest_1 Pre_1 launch0 p0 e0 about1 theMethod args0 below0 :=
  ⟨lists_1, trivial, launch0.admits_env _ _ _, launch0.least_env, fairChoices_fair.cas, fairChoices_fair.clock, w_frames, w_args, w_heap, w_applies, trivial, trivial, w_case⟩
end start1
theorem witness_1 : WitnessClaimed_1 := ⟨start1.p0, start1.e0, start1.about1, start1.theMethod, start1.args0, start1.below0, start1.atStart⟩
end Jvm.Pilot.@@N@@
