import JvmDerived
import JvmDerived.Pilot.@@N@@Statement
import JvmDerived.Pilot.@@N@@Code
set_option linter.unusedVariables false
set_option linter.unusedSimpArgs false
/-! # A small executor over an abstract heap, and that it is sound for the model (Stand's family). Same text in every claim. -/
namespace Jvm.OwnX
open Sem ClassFile Op Lib Jvm.Stand Jvm.Free Jvm.LawKit Jvm.RoadKit
/-- a cell: an object's fields; an array of ints (0: handed in; 1), booleans (2), bytes (3); an array of longs -/
abbrev ACell := Sum (List Value) (Sum (Nat × List Int32) (List Int64))
abbrev AHeap := List ACell
abbrev ALoc := List (Option Value)
/-- a method: class, maxLocals, how many it pops, what it returns, is it a constructor, frames, locals -/
abbrev MI := Nat × Nat × Nat × Option FieldType × Bool × Nat × Nat
/-- code | methods | method links (kind, callee) | field links | constants | fields (name, descriptor, kind, final) | slots of an object | read-only cells | cells at most | slots at most -/
def Prog : Type := (Nat → Nat → Option (Instr × Nat)) × (Nat → MI) × (Nat → Nat → Option (Nat × Nat)) × (Nat → Nat → Option Nat) × (Nat → Nat → Option Value) × List (String × String × Nat × Bool) × Nat × Nat × Nat × Nat
def Prog.code (P : Prog) : Nat → Nat → Option (Instr × Nat) := P.1
def Prog.mi (P : Prog) : Nat → MI := P.2.1
def Prog.link (P : Prog) : Nat → Nat → Option (Nat × Nat) := P.2.2.1
def Prog.fld (P : Prog) : Nat → Nat → Option Nat := P.2.2.2.1
def Prog.kon (P : Prog) : Nat → Nat → Option Value := P.2.2.2.2.1
def Prog.fields (P : Prog) : List (String × String × Nat × Bool) := P.2.2.2.2.2.1
def Prog.objN (P : Prog) : Nat := P.2.2.2.2.2.2.1
def Prog.ro (P : Prog) : Nat := P.2.2.2.2.2.2.2.1
def Prog.capC (P : Prog) : Nat := P.2.2.2.2.2.2.2.2.1
def Prog.capS (P : Prog) : Nat := P.2.2.2.2.2.2.2.2.2
def Prog.cls (P : Prog) (k : Nat) : Nat := (P.mi k).1
def Prog.maxL (P : Prog) (k : Nat) : Nat := (P.mi k).2.1
def Prog.pops (P : Prog) (k : Nat) : Nat := (P.mi k).2.2.1
def Prog.ret (P : Prog) (k : Nat) : Option FieldType := (P.mi k).2.2.2.1
def Prog.ini (P : Prog) (k : Nat) : Bool := (P.mi k).2.2.2.2.1
def Prog.rf (P : Prog) (k : Nat) : Nat := (P.mi k).2.2.2.2.2.1
def Prog.rl (P : Prog) (k : Nat) : Nat := (P.mi k).2.2.2.2.2.2
def dflt : Nat → Value
  | 0 => .int 0
  | 1 => .int 0
  | 2 => .long 0
  | _ => .null
def Prog.fresh (P : Prog) : List Value := P.fields.map fun f => dflt f.2.2.1
/-- is j a place of an array of n -/
def inb (n : Nat) (j : Int32) : Bool := !(decide (j < 0)) && Nat.ble (j.toNatClampNeg + 1) n
def rd (xs : List Int32) (j : Int32) : Int32 := xs.getD j.toNatClampNeg 0
def wr (xs : List Int32) (j : Int32) (v : Int32) : List Int32 := xs.set j.toNatClampNeg v
def rdL (xs : List Int64) (j : Int32) : Int64 := xs.getD j.toNatClampNeg 0
def wrL (xs : List Int64) (j : Int32) (v : Int64) : List Int64 := xs.set j.toNatClampNeg v
def kill1 (L : ALoc) (i : Nat) : ALoc :=
  match i with
  | 0 => L
  | i + 1 => match L[i]? with
    | some (some (.long _)) => L.set i none
    | _ => L
def lput (L : ALoc) (i : Nat) (v : Value) : Option ALoc := bif Nat.ble (i + 1) L.length then some ((kill1 L i).set i (some v)) else none
def lputL (L : ALoc) (i : Nat) (v : Int64) : Option ALoc := bif Nat.ble (i + 2) L.length then some (((kill1 L i).set i (some (.long v))).set (i + 1) none) else none
def entL : List Value → ALoc
  | [] => []
  | .long v :: r => some (.long v) :: none :: entL r
  | v :: r => some v :: entL r
def pad (n : Nat) (L : ALoc) : ALoc := L ++ List.replicate (n - L.length) none
def entry (P : Prog) (k : Nat) (as : List Value) : ALoc := pad (P.maxL k) (entL as)
def cat (v : Value) : Nat := match v with | .long _ => 2 | _ => 1
def cats : List Value → Nat
  | [] => 0
  | v :: r => cat v + cats r
def okV : Value → Bool
  | .int _ => true | .long _ => true | .ref _ => true | .null => true | _ => false
def csz : Nat → ACell → Nat
  | n, .inl _ => n
  | _, .inr (.inl (0, _)) => 0
  | _, .inr (.inl (_, x)) => x.length
  | _, .inr (.inr x) => x.length
def hsz (P : Prog) : AHeap → Nat
  | [] => 0
  | c :: r => csz P.objN c + hsz P r
/-- how long an instruction is (0: as decode says) -/
def ilen : Instr → Nat
  | .iload _ => 2 | .lload _ => 2 | .aload _ => 2 | .istore _ => 2 | .lstore _ => 2 | .astore _ => 2 | .bipush _ => 2 | .ldc _ => 2 | .newarray _ => 2
  | .iinc _ _ => 3 | .sipush _ => 3 | .goto _ => 3 | .ifCond _ _ => 3 | .if_icmp _ _ => 3 | .getfield _ => 3 | .putfield _ => 3 | .new _ => 3 | .invokespecial _ => 3 | .invokestatic _ => 3 | .invokevirtual _ => 3 | .ldc2_w _ => 3
  | .tableswitch _ _ _ _ => 0
  | _ => 1
def tgt (pc : Nat) (o : Int) : Option Nat := match (pc : Int) + o with | .ofNat n => some n | .negSucc _ => none
def ish (x y : Int32) : Int32 := x <<< (y &&& 31)
def isr (x y : Int32) : Int32 := x >>> (y &&& 31)
def ush (x y : Int32) : Int32 := (x.toUInt32 >>> (y &&& 31).toUInt32).toInt32
def lsh (x : Int64) (y : Int32) : Int64 := x <<< (y &&& 0x3f).toInt64
def lus (x : Int64) (y : Int32) : Int64 := (x.toUInt64 >>> (y &&& 0x3f).toInt64.toUInt64).toInt64
def lcm (x y : Int64) : Int32 := if x > y then 1 else if x = y then 0 else -1
def i8 (x : Int32) : Int32 := x.toInt8.toInt32
def aop : Instr → Option (Int32 → Int32 → Int32)
  | .iadd => some fun x y => x + y
  | .isub => some fun x y => x - y
  | .imul => some fun x y => x * y
  | .iand => some fun x y => x &&& y
  | .ior => some fun x y => x ||| y
  | .ixor => some fun x y => x ^^^ y
  | .ishl => some fun x y => x <<< (y &&& 31)
  | .ishr => some fun x y => x >>> (y &&& 31)
  | .iushr => some fun x y => (x.toUInt32 >>> (y &&& 31).toUInt32).toInt32
  | _ => none
def lop : Instr → Option (Int64 → Int64 → Int64)
  | .ladd => some fun x y => x + y
  | .lsub => some fun x y => x - y
  | .lmul => some fun x y => x * y
  | .land => some fun x y => x &&& y
  | .lor => some fun x y => x ||| y
  | .lxor => some fun x y => x ^^^ y
  | _ => none
def loadI (L : ALoc) (n : Nat) : Option Int32 := match L[n]? with | some (some (.int x)) => some x | _ => none
def loadJ (L : ALoc) (n : Nat) : Option Int64 := match L[n]? with | some (some (.long x)) => some x | _ => none
def loadA (L : ALoc) (n : Nat) : Option Nat := match L[n]? with | some (some (.ref a)) => some a | _ => none
def getC (H : AHeap) (a j : Nat) : Option Value := match H[a]? with | some (.inl fs) => fs[j]? | _ => none
def conv (t : Nat) (v : Value) : Option Value :=
  match t, v with
  | 0, .int x => some (.int x)
  | 1, .int x => some (.int (x &&& 1))
  | 2, .long x => some (.long x)
  | 3, .ref a => some (.ref a)
  | _, _ => none
/-- a step within one frame -/
abbrev St := Nat × ALoc × List Value × AHeap
def atyOf : ArrayType → Option Nat
  | .int => some 1 | .boolean => some 2 | .byte => some 3 | .long => some 4 | _ => none
def newC (t n : Nat) : ACell := match t with | 4 => .inr (.inr (List.replicate n 0)) | t => .inr (.inl (t, List.replicate n 0))
def isObjInit (P : Prog) (k j : Nat) : Bool := match P.link (P.cls k) j with | some (4, _) => true | _ => false
/-- what is stored into an array of that kind -/
def narA (t : Nat) (x : Int32) : Int32 := match t with | 2 => x &&& 1 | 3 => x.toInt8.toInt32 | _ => x
def step (P : Prog) (k : Nat) (i : Instr) (np pc : Nat) (L : ALoc) (S : List Value) (H : AHeap) : Option St :=
  match i with
  | .iload_n n => match loadI L n.val with | some x => some (np, L, .int x :: S, H) | none => none
  | .iload n => match loadI L n with | some x => some (np, L, .int x :: S, H) | none => none
  | .lload_n n => match loadJ L n.val with | some x => some (np, L, .long x :: S, H) | none => none
  | .lload n => match loadJ L n with | some x => some (np, L, .long x :: S, H) | none => none
  | .aload_n n => match loadA L n.val with | some x => some (np, L, .ref x :: S, H) | none => none
  | .aload n => match loadA L n with | some x => some (np, L, .ref x :: S, H) | none => none
  | .istore_n n => match S with | .int x :: r => (match lput L n.val (.int x) with | some L' => some (np, L', r, H) | none => none) | _ => none
  | .istore n => match S with | .int x :: r => (match lput L n (.int x) with | some L' => some (np, L', r, H) | none => none) | _ => none
  | .astore_n n => match S with | .ref x :: r => (match lput L n.val (.ref x) with | some L' => some (np, L', r, H) | none => none) | _ => none
  | .astore n => match S with | .ref x :: r => (match lput L n (.ref x) with | some L' => some (np, L', r, H) | none => none) | _ => none
  | .lstore_n n => match S with | .long x :: r => (match lputL L n.val x with | some L' => some (np, L', r, H) | none => none) | _ => none
  | .lstore n => match S with | .long x :: r => (match lputL L n x with | some L' => some (np, L', r, H) | none => none) | _ => none
  | .iinc n c => match loadI L n with | some x => (match lput L n (.int (x + Int32.ofInt c)) with | some L' => some (np, L', S, H) | none => none) | none => none
  | .iconst c => some (np, L, .int (Int32.ofInt c) :: S, H)
  | .bipush c => some (np, L, .int (Int8.ofInt c).toInt32 :: S, H)
  | .sipush c => some (np, L, .int (Int16.ofInt c).toInt32 :: S, H)
  | .lconst c => some (np, L, .long (Int64.ofNat c) :: S, H)
  | .ldc j => match P.kon (P.cls k) j with | some (.int x) => some (np, L, .int x :: S, H) | _ => none
  | .ldc2_w j => match P.kon (P.cls k) j with | some (.long x) => some (np, L, .long x :: S, H) | _ => none
  | .idiv => match S with | .int y :: .int x :: r => (bif decide (y = 0) then none else some (np, L, .int (x / y) :: r, H)) | _ => none
  | .irem => match S with | .int y :: .int x :: r => (bif decide (y = 0) then none else some (np, L, .int (x % y) :: r, H)) | _ => none
  | .lshl => match S with | .int y :: .long x :: r => some (np, L, .long (x <<< (y &&& 0x3f).toInt64) :: r, H) | _ => none
  | .lushr => match S with | .int y :: .long x :: r => some (np, L, .long ((x.toUInt64 >>> (y &&& 0x3f).toInt64.toUInt64).toInt64) :: r, H) | _ => none
  | .lcmp => match S with | .long y :: .long x :: r => some (np, L, .int (if x > y then 1 else if x = y then 0 else -1) :: r, H) | _ => none
  | .lneg => match S with | .long x :: r => some (np, L, .long (-x) :: r, H) | _ => none
  | .i2l => match S with | .int x :: r => some (np, L, .long x.toInt64 :: r, H) | _ => none
  | .l2i => match S with | .long x :: r => some (np, L, .int x.toInt32 :: r, H) | _ => none
  | .i2b => match S with | .int x :: r => some (np, L, .int x.toInt8.toInt32 :: r, H) | _ => none
  | .dup => match S with | .ref x :: r => some (np, L, .ref x :: .ref x :: r, H) | .int x :: r => some (np, L, .int x :: .int x :: r, H) | _ => none
  | .dup2 => match S with | .int x :: .ref y :: r => some (np, L, .int x :: .ref y :: .int x :: .ref y :: r, H) | _ => none
  | .pop => match S with | .int _ :: r => some (np, L, r, H) | .ref _ :: r => some (np, L, r, H) | _ => none
  | .goto o => match tgt pc o with | some t => some (t, L, S, H) | none => none
  | .ifCond cd o => match S with
    | .int x :: r => (bif if_icmp.holds cd x 0 then (match tgt pc o with | some t => some (t, L, r, H) | none => none) else some (np, L, r, H))
    | _ => none
  | .if_icmp cd o => match S with
    | .int y :: .int x :: r => (bif if_icmp.holds cd x y then (match tgt pc o with | some t => some (t, L, r, H) | none => none) else some (np, L, r, H))
    | _ => none
  | .tableswitch d lo hi offs => match S with
    | .int x :: r => (bif decide (x.toInt < lo) || decide (x.toInt > hi) then (match tgt pc d with | some t => some (t, L, r, H) | none => none)
        else (match offs.toList[(x.toInt - lo).toNat]? with | some o => (match tgt pc o with | some t => some (t, L, r, H) | none => none) | none => none))
    | _ => none
  | .getfield j => match S with
    | .ref a :: r => (match P.fld (P.cls k) j with | some f => (match getC H a f with | some v => some (np, L, v :: r, H) | none => none) | none => none)
    | _ => none
  | .putfield j => match S with
    | v :: .ref a :: r => (match P.fld (P.cls k) j with
      | some f => (match P.fields[f]? with
        | some (_, _, t, fin) => (bif (!fin || P.ini k) && Nat.ble P.ro a then (match conv t v with
          | some v' => (match H[a]? with
            | some (.inl fs) => (bif Nat.ble (f + 1) fs.length then some (np, L, r, H.set a (.inl (fs.set f v'))) else none)
            | _ => none)
          | none => none) else none)
        | none => none)
      | none => none)
    | _ => none
  | .iaload => match S with
    | .int j :: .ref a :: r => (match H[a]? with
      | some (.inr (.inl (1, xs))) => (bif inb xs.length j then some (np, L, .int (rd xs j) :: r, H) else none)
      | some (.inr (.inl (0, xs))) => (bif inb xs.length j then some (np, L, .int (rd xs j) :: r, H) else none)
      | _ => none)
    | _ => none
  | .baload => match S with
    | .int j :: .ref a :: r => (match H[a]? with
      | some (.inr (.inl (2, xs))) => (bif inb xs.length j then some (np, L, .int (rd xs j) :: r, H) else none)
      | some (.inr (.inl (3, xs))) => (bif inb xs.length j then some (np, L, .int (rd xs j) :: r, H) else none)
      | _ => none)
    | _ => none
  | .laload => match S with
    | .int j :: .ref a :: r => (match H[a]? with | some (.inr (.inr xs)) => (bif inb xs.length j then some (np, L, .long (rdL xs j) :: r, H) else none) | _ => none)
    | _ => none
  | .iastore => match S with
    | .int x :: .int j :: .ref a :: r => (bif Nat.ble P.ro a then (match H[a]? with | some (.inr (.inl (1, xs))) => (bif inb xs.length j then some (np, L, r, H.set a (.inr (.inl (1, wr xs j x)))) else none) | _ => none) else none)
    | _ => none
  | .bastore => match S with
    | .int x :: .int j :: .ref a :: r => (bif Nat.ble P.ro a then (match H[a]? with
      | some (.inr (.inl (2, xs))) => (bif inb xs.length j then some (np, L, r, H.set a (.inr (.inl (2, wr xs j (x &&& 1))))) else none)
      | some (.inr (.inl (3, xs))) => (bif inb xs.length j then some (np, L, r, H.set a (.inr (.inl (3, wr xs j x.toInt8.toInt32)))) else none)
      | _ => none) else none)
    | _ => none
  | .lastore => match S with
    | .long x :: .int j :: .ref a :: r => (bif Nat.ble P.ro a then (match H[a]? with | some (.inr (.inr xs)) => (bif inb xs.length j then some (np, L, r, H.set a (.inr (.inr (wrL xs j x)))) else none) | _ => none) else none)
    | _ => none
  | .arraylength => match S with
    | .ref a :: r => (match H[a]? with
      | some (.inr (.inl (_, xs))) => some (np, L, .int xs.length.toInt32 :: r, H)
      | some (.inr (.inr xs)) => some (np, L, .int xs.length.toInt32 :: r, H)
      | _ => none)
    | _ => none
  | .newarray t => match S with
    | .int n :: r => (match atyOf t with | some q => (bif !(decide (n < 0)) && Nat.ble n.toNatClampNeg 60000 && Nat.ble (H.length + 1) P.capC && Nat.ble (hsz P H + n.toNatClampNeg) P.capS then some (np, L, .ref H.length :: r, H ++ [newC q n.toNatClampNeg]) else none) | none => none)
    | _ => none
  | .new j => match P.link (P.cls k) j with | some (5, _) => (bif Nat.ble (H.length + 1) P.capC && Nat.ble (hsz P H + P.objN) P.capS then some (np, L, .ref H.length :: S, H ++ [.inl P.fresh]) else none) | _ => none
  | .invokespecial j => match S with
    | .ref _ :: r => (bif isObjInit P k j && Nat.ble 1 (P.rf k) && Nat.ble (cats r + 12) (P.rl k) then some (np, L, r, H) else none)
    | _ => none
  | i => match S with
    | .int y :: .int x :: r => (match aop i with | some f => some (np, L, .int (f x y) :: r, H) | none => none)
    | .long y :: .long x :: r => (match lop i with | some f => some (np, L, .long (f x y) :: r, H) | none => none)
    | _ => none
/-- what a return hands back -/
def retV (P : Prog) (k : Nat) (i : Instr) (S : List Value) : Option (Option Value) :=
  match i with
  | .return_ => match S, P.ret k with | [], none => some none | _, _ => none
  | .ireturn => match S with
    | .int x :: _ => (match P.ret k with | some .int => some (some (.int x)) | some .boolean => some (some (.int (x &&& 1))) | _ => none)
    | _ => none
  | .lreturn => match S with | .long x :: _ => (match P.ret k with | some .long => some (some (.long x)) | _ => none) | _ => none
  | _ => none
def kindOk : Instr → Nat → Bool
  | .invokestatic _, 0 => true
  | .invokespecial _, 1 => true
  | .invokevirtual _, 2 => true
  | .invokevirtual _, 3 => true
  | _, _ => false
def poolOf : Instr → Option Nat
  | .invokestatic j => some j
  | .invokespecial j => some j
  | .invokevirtual j => some j
  | _ => none
/-- the receiver is there -/
def recvOk (P : Prog) (H : AHeap) (q : Nat) (as : List Value) : Bool :=
  match q with
  | 0 => true
  | _ => match as with
    | .ref a :: _ => (match H[a]? with | some (.inl _) => true | _ => false)
    | _ => false
def callV (P : Prog) (k : Nat) (i : Instr) (S : List Value) (H : AHeap) : Option (Nat × List Value × List Value) :=
  match poolOf i with
  | none => none
  | some j => match P.link (P.cls k) j with
    | none => none
    | some (q, k') =>
      bif kindOk i q && Nat.ble (P.pops k') S.length && Nat.ble (P.rf k' + 1) (P.rf k) && Nat.ble (cats (S.drop (P.pops k')) + (P.maxL k' + 11) + P.rl k') (P.rl k) && recvOk P H q (S.take (P.pops k')).reverse && Nat.ble (entL (S.take (P.pops k')).reverse).length (P.maxL k') then
        some (k', (S.take (P.pops k')).reverse, S.drop (P.pops k'))
      else none
def run (P : Prog) : Nat → Nat → Nat → ALoc → List Value → AHeap → Option (Option Value × AHeap)
  | 0, _, _, _, _, _ => none
  | n + 1, k, pc, L, S, H =>
    match P.code k pc with
    | none => none
    | some (i, np) =>
      match retV P k i S with
      | some v => some (v, H)
      | none =>
        match callV P k i S H with
        | some (k', as, rest) =>
          (match run P n k' 0 (entry P k' as) [] H with
          | some (v, H1) => run P n k np L (v.toList ++ rest) H1
          | none => none)
        | none =>
          (match step P k i np pc L S H with
          | some (pc', L', S', H') => run P n k pc' L' S' H'
          | none => none)
def Eval (P : Prog) (k pc : Nat) (L : ALoc) (S : List Value) (H : AHeap) (out : Option Value × AHeap) : Prop := ∃ n, run P n k pc L S H = some out
end Jvm.OwnX
namespace Jvm.OwnX
open Sem ClassFile Op Lib Jvm.Stand Jvm.Free Jvm.LawKit Jvm.RoadKit
/-! ## values, stacks, local variables -/
def VR (am : List Addr) (v w : Value) : Prop := match v with
  | .ref i => ∃ a, am[i]? = some a ∧ w = .ref a
  | .int x => w = .int x
  | .long x => w = .long x
  | .null => w = .null
  | _ => False
def SR (am : List Addr) : List Value → List Value → Prop
  | [], ws => ws = []
  | v :: vs, ws => ∃ w ws', ws = w :: ws' ∧ VR am v w ∧ SR am vs ws'
def Pre (am am' : List Addr) : Prop := ∀ (i : Nat) (a : Addr), am[i]? = some a → am'[i]? = some a
theorem Pre.refl (am : List Addr) : Pre am am := fun _ _ h => h
theorem Pre.trans {a b c : List Addr} (h : Pre a b) (h' : Pre b c) : Pre a c := fun i x q => h' i x (h i x q)
theorem Pre.app (am : List Addr) (x : Addr) : Pre am (am ++ [x]) := fun i a h => by
  rw [List.getElem?_append_left (List.getElem?_eq_some_iff.mp h).1]; exact h
theorem VR.mono {am am' : List Addr} (h : Pre am am') {v w : Value} (r : VR am v w) : VR am' v w := by
  cases v <;> simp only [VR] at r ⊢ <;> try exact r
  obtain ⟨a, h1, h2⟩ := r; exact ⟨a, h _ _ h1, h2⟩
theorem SR.mono {am am' : List Addr} (h : Pre am am') : ∀ {S ws : List Value}, SR am S ws → SR am' S ws
  | [], _, r => r
  | _ :: _, _, ⟨w, ws', e, r1, r2⟩ => ⟨w, ws', e, r1.mono h, SR.mono h r2⟩
theorem VR.cat {am : List Addr} {v w : Value} (r : VR am v w) : w.category = OwnX.cat v := by
  cases v <;> simp only [VR] at r
  · subst r; rfl
  · subst r; rfl
  · subst r; rfl
  · obtain ⟨a, -, rfl⟩ := r; rfl
theorem SR.cats {am : List Addr} : ∀ {S ws : List Value}, SR am S ws → (ws.map fun v => v.category).sum = OwnX.cats S
  | [], _, r => by cases r; rfl
  | v :: vs, _, ⟨w, ws', e, r1, r2⟩ => by subst e; simp [OwnX.cats, r1.cat, SR.cats r2]
theorem SR.app {am : List Addr} : ∀ {S ws : List Value} (A B : List Value), SR am S ws → S = A ++ B → ∃ x y, ws = x ++ y ∧ SR am A x ∧ SR am B y
  | S, ws, [], B, r, e => ⟨[], ws, rfl, rfl, by rw [show B = S from by simpa using e.symm]; exact r⟩
  | S, ws, v :: A, B, r, e => by
    subst e
    obtain ⟨w, ws', rfl, r1, r2⟩ := r
    obtain ⟨x, y, rfl, h1, h2⟩ := SR.app A B r2 rfl
    exact ⟨w :: x, y, rfl, ⟨w, x, rfl, r1, h1⟩, h2⟩
theorem SR.join {am : List Addr} : ∀ {A x B y : List Value}, SR am A x → SR am B y → SR am (A ++ B) (x ++ y)
  | [], _, _, _, h, h' => by cases h; exact h'
  | _ :: _, _, _, _, ⟨w, ws', e, r1, r2⟩, h' => by subst e; exact ⟨w, _, rfl, r1, SR.join r2 h'⟩
theorem SR.rev {am : List Addr} : ∀ {A x : List Value}, SR am A x → SR am A.reverse x.reverse
  | [], _, h => by cases h; rfl
  | _ :: _, _, ⟨w, ws', e, r1, r2⟩ => by
    subst e
    rw [List.reverse_cons, List.reverse_cons]
    exact SR.join (SR.rev r2) ⟨w, [], rfl, r1, rfl⟩
theorem SR.len {am : List Addr} : ∀ {A x : List Value}, SR am A x → x.length = A.length
  | [], _, h => by cases h; rfl
  | _ :: _, _, ⟨w, ws', e, r1, r2⟩ => by subst e; simp [SR.len r2]
def WFL (l : Array Slot) : Prop := (∀ (i : Nat) w, l[i]? = some (.val w) → w.category = 2 → l[i + 1]? = some .second) ∧ (∀ (i : Nat), l[i]? = some .second → ∃ (j : Nat) (w : Value), i = j + 1 ∧ l[j]? = some (.val w) ∧ w.category = 2)
/-- the places of the variables behind a store of one word -/
def After1 (l l' : Array Slot) (i : Nat) (v : Value) : Prop := ∀ j : Nat, l'[j]? = if j = i then some (.val v) else if j + 1 = i ∧ l[i]? = some .second then some .unset else if j = i + 1 ∧ l[j]? = some .second then some .unset else l[j]?
theorem sib (l : Array Slot) (i j : Nat) (x : Slot) (hi : i < l.size) : (l.setIfInBounds i x)[j]? = if j = i then some x else l[j]? := by
  by_cases h : j = i
  · subst h; simp [hi]
  · simp [Array.getElem?_setIfInBounds_ne (Ne.symm h), h]
theorem store1w {l : Array Slot} {i : Nat} {v : Value} (hw : WFL l) (hi : i < l.size) (hv : v.category = 1) : ∃ l', storeLocals l i v = some l' ∧ l'.size = l.size ∧ After1 l l' i v := by
  have hv2 : ¬ v.category = 2 := by omega
  have hg : l[i]? = some l[i] := Array.getElem?_eq_getElem hi
  cases hq : l[i] with
  | unset =>
    rw [hq] at hg
    refine ⟨l.setIfInBounds i (.val v), by simp [storeLocals, storeSelf, setAt, hg, hq, hi, hv2], by simp, fun j => ?_⟩
    rw [sib _ _ _ _ hi, hg]
    by_cases h : j = i
    · simp [h]
    · simp only [h, if_false, reduceCtorEq, and_false, Option.some.injEq]
      by_cases h2 : j = i + 1 ∧ l[j]? = some .second
      · obtain ⟨j', w, e1, e2, e3⟩ := hw.2 _ h2.2
        have : j' = i := by omega
        subst this; rw [hg] at e2; cases e2
      · simp [h2]
  | second =>
    rw [hq] at hg
    obtain ⟨j0, w, e1, e2, e3⟩ := hw.2 _ hg
    subst e1
    have hj0 : j0 < l.size := by omega
    refine ⟨(l.setIfInBounds j0 .unset).setIfInBounds (j0 + 1) (.val v), by simp [storeLocals, storeSelf, setAt, hg, hq, hi, hv2, hj0], by simp, fun j => ?_⟩
    rw [sib _ _ _ _ (by simpa using hi), sib _ _ _ _ hj0, hg]
    by_cases h : j = j0 + 1
    · simp [h]
    · by_cases h3 : j = j0
      · subst h3; simp
      · have h4 : ¬ (j + 1 = j0 + 1) := by omega
        by_cases h2 : j = j0 + 1 + 1 ∧ l[j]? = some .second
        · obtain ⟨j', w', f1, f2, f3⟩ := hw.2 _ h2.2
          have : j' = j0 + 1 := by omega
          subst this; rw [hg] at f2; cases f2
        · simp [h, h3, h2]
  | val old =>
    rw [hq] at hg
    by_cases hc : old.category = 2
    · have h1 := hw.1 _ _ hg hc
      have h1' := (Array.getElem?_eq_some_iff.mp h1).1
      refine ⟨(l.setIfInBounds (i + 1) .unset).setIfInBounds i (.val v), by simp [storeLocals, storeSelf, setAt, hg, hq, hi, hv2, hc, h1'], by simp, fun j => ?_⟩
      rw [sib _ _ _ _ (by simpa using hi), sib _ _ _ _ h1', hg]
      by_cases h : j = i
      · simp [h]
      · by_cases h3 : j = i + 1
        · subst h3; simp [h1]
        · simp [h, h3]
    · refine ⟨l.setIfInBounds i (.val v), by simp [storeLocals, storeSelf, setAt, hg, hq, hi, hv2, hc], by simp, fun j => ?_⟩
      rw [sib _ _ _ _ hi, hg]
      by_cases h : j = i
      · simp [h]
      · simp only [h, if_false, reduceCtorEq, and_false, Option.some.injEq]
        by_cases h2 : j = i + 1 ∧ l[j]? = some .second
        · obtain ⟨j', w, e1, e2, e3⟩ := hw.2 _ h2.2
          have : j' = i := by omega
          subst this; rw [hg] at e2; cases e2; exact absurd e3 hc
        · simp [h2]
theorem After1.wf {l l' : Array Slot} {i : Nat} {v : Value} (hw : WFL l) (hv : v.category = 1) (A : After1 l l' i v) : WFL l' := by
  refine ⟨fun j w h1 h2 => ?_, fun j h1 => ?_⟩
  · rw [A j] at h1
    by_cases c1 : j = i
    · simp only [c1, if_true, Option.some.injEq, Slot.val.injEq] at h1; subst h1; omega
    · rw [if_neg c1] at h1
      by_cases c2 : j + 1 = i ∧ l[i]? = some .second
      · rw [if_pos c2] at h1; cases h1
      · rw [if_neg c2] at h1
        by_cases c3 : j = i + 1 ∧ l[j]? = some .second
        · rw [if_pos c3] at h1; cases h1
        · rw [if_neg c3] at h1
          have h3 := hw.1 _ _ h1 h2
          rw [A (j + 1)]
          have n1 : ¬ (j + 1 = i) := fun q => c2 ⟨q, q ▸ h3⟩
          have n2 : ¬ (j + 1 + 1 = i ∧ l[i]? = some .second) := fun ⟨q1, q2⟩ => by
            obtain ⟨j', w', f1, f2, f3⟩ := hw.2 _ q2
            have : j' = j + 1 := by omega
            subst this; rw [h3] at f2; cases f2
          have n3 : ¬ (j + 1 = i + 1 ∧ l[j + 1]? = some .second) := fun ⟨q1, _⟩ => c1 (by omega)
          rw [if_neg n1, if_neg n2, if_neg n3]; exact h3
  · rw [A j] at h1
    by_cases c1 : j = i
    · rw [if_pos c1] at h1; cases h1
    · rw [if_neg c1] at h1
      by_cases c2 : j + 1 = i ∧ l[i]? = some .second
      · rw [if_pos c2] at h1; cases h1
      · rw [if_neg c2] at h1
        by_cases c3 : j = i + 1 ∧ l[j]? = some .second
        · rw [if_pos c3] at h1; cases h1
        · rw [if_neg c3] at h1
          obtain ⟨j', w, e1, e2, e3⟩ := hw.2 _ h1
          refine ⟨j', w, e1, ?_, e3⟩
          rw [A j']
          have n1 : ¬ (j' = i) := fun q => c3 ⟨by omega, h1⟩
          have n2 : ¬ (j' + 1 = i ∧ l[i]? = some .second) := fun ⟨q, _⟩ => c1 (by omega)
          have n3 : ¬ (j' = i + 1 ∧ l[j']? = some .second) := fun ⟨_, q⟩ => by rw [e2] at q; cases q
          rw [if_neg n1, if_neg n2, if_neg n3]; exact e2
def lng (o : Option Slot) : Bool := match o with | some (.val w) => decide (w.category = 2) | _ => false
theorem lng_iff (o : Option Slot) : lng o = true ↔ ∃ w, o = some (.val w) ∧ w.category = 2 := by
  unfold lng
  split
  · rename_i w; simp
  · rename_i h; simp; intro w hw; exact absurd hw (h w)
/-- behind a store of a long -/
def After2 (l l' : Array Slot) (i : Nat) (v : Value) : Prop := ∀ j : Nat, l'[j]? = if j = i then some (.val v) else if j = i + 1 then some .second else if j + 1 = i ∧ l[i]? = some .second then some .unset else if j = i + 2 ∧ l[j]? = some .second then some .unset else l[j]?
theorem self2 {l : Array Slot} {i : Nat} {v : Value} (hi : i + 1 < l.size) (hv : v.category = 2) (hz : ∀ w, l[i + 1]? = some (.val w) → w.category = 2 → i + 2 < l.size) :
    ∃ l', storeSelf l i v = some l' ∧ l'.size = l.size ∧ ∀ j : Nat, l'[j]? = if j = i then some (.val v) else if j = i + 1 then some .second else if j = i + 2 ∧ lng l[i + 1]? = true then some .unset else l[j]? := by
  have hi0 : i < l.size := by omega
  have hg : l[i + 1]? = some l[i + 1] := Array.getElem?_eq_getElem hi
  have hne : (l.setIfInBounds i (.val v))[i + 1]? = l[i + 1]? := Array.getElem?_setIfInBounds_ne (by omega)
  have hplain : (∀ w, l[i + 1] = .val w → ¬ w.category = 2) → storeSelf l i v = some ((l.setIfInBounds i (.val v)).setIfInBounds (i + 1) .second) := fun hn => by
    cases hq : l[i + 1] with
    | val w => simp [storeSelf, setAt, hi0, hv, hne, hg, hq, hn _ hq, hi]
    | unset => simp [storeSelf, setAt, hi0, hv, hne, hg, hq, hi]
    | second => simp [storeSelf, setAt, hi0, hv, hne, hg, hq, hi]
  by_cases hx : ∃ w, l[i + 1] = .val w ∧ w.category = 2
  · obtain ⟨w, hw1, hw2⟩ := hx
    have h2 := hz w (by rw [hg, hw1]) hw2
    refine ⟨((l.setIfInBounds i (.val v)).setIfInBounds (i + 2) .unset).setIfInBounds (i + 1) .second, by simp [storeSelf, setAt, hi0, hv, hne, hg, hw1, hw2, hi, h2], by simp, fun j => ?_⟩
    rw [sib _ _ _ _ (by simpa using hi), sib _ _ _ _ (by simpa using h2), sib _ _ _ _ hi0]
    have hE : lng l[i + 1]? = true := (lng_iff _).mpr ⟨w, by rw [hg, hw1], hw2⟩
    by_cases c1 : j = i
    · subst c1; simp
    · by_cases c2 : j = i + 1
      · subst c2; simp
      · by_cases c3 : j = i + 2
        · subst c3; simp [hE]
        · simp [c1, c2, c3]
  · refine ⟨_, hplain fun w h1 h2 => hx ⟨w, h1, h2⟩, by simp, fun j => ?_⟩
    rw [sib _ _ _ _ (by simpa using hi), sib _ _ _ _ hi0]
    have hE : ¬ lng l[i + 1]? = true := fun q => by
      obtain ⟨w, q1, q2⟩ := (lng_iff _).mp q
      exact hx ⟨w, by rw [hg] at q1; exact Option.some.inj q1, q2⟩
    by_cases c1 : j = i
    · subst c1; simp
    · by_cases c2 : j = i + 1
      · subst c2; simp
      · simp [c1, c2, hE]
theorem store2w {l : Array Slot} {i : Nat} {v : Value} (hw : WFL l) (hi : i + 1 < l.size) (hv : v.category = 2) : ∃ l', storeLocals l i v = some l' ∧ l'.size = l.size ∧ After2 l l' i v := by
  have hi0 : i < l.size := by omega
  have hg : l[i]? = some l[i] := Array.getElem?_eq_getElem hi0
  have hz : ∀ w, l[i + 1]? = some (.val w) → w.category = 2 → i + 2 < l.size := fun w q1 q2 => (Array.getElem?_eq_some_iff.mp (hw.1 _ _ q1 q2)).1
  have hsec : ∀ j : Nat, (j = i + 2 ∧ lng l[i + 1]? = true) ↔ (j = i + 2 ∧ l[j]? = some .second) := fun j => by
    constructor
    · rintro ⟨rfl, q⟩
      obtain ⟨w, q1, q2⟩ := (lng_iff _).mp q
      exact ⟨rfl, hw.1 _ _ q1 q2⟩
    · rintro ⟨rfl, q⟩
      obtain ⟨j', w, e1, e2, e3⟩ := hw.2 _ q
      have : j' = i + 1 := by omega
      subst this; exact ⟨rfl, (lng_iff _).mpr ⟨w, e2, e3⟩⟩
  cases hq : l[i] with
  | unset =>
    rw [hq] at hg
    obtain ⟨l', h1, h2, h3⟩ := self2 hi hv hz
    refine ⟨l', by simp [storeLocals, hg, hq, hi0, h1], h2, fun j => ?_⟩
    rw [h3 j, hg]; simp only [hsec, reduceCtorEq, and_false, if_false, Option.some.injEq]
  | second =>
    rw [hq] at hg
    obtain ⟨j0, w, e1, e2, e3⟩ := hw.2 _ hg
    subst e1
    have hj0 : j0 < l.size := by omega
    have hi' : j0 + 1 + 1 < (l.setIfInBounds j0 .unset).size := by simpa using hi
    have hk : ∀ j : Nat, j ≠ j0 → (l.setIfInBounds j0 .unset)[j]? = l[j]? := fun j h => Array.getElem?_setIfInBounds_ne (Ne.symm h)
    obtain ⟨l', h1, h2, h3⟩ := self2 (l := l.setIfInBounds j0 .unset) hi' hv (fun w q1 q2 => by rw [hk _ (by omega)] at q1; simpa using hz w q1 q2)
    refine ⟨l', by simp [storeLocals, setAt, hg, hq, hi0, hj0, h1], by simpa using h2, fun j => ?_⟩
    rw [h3 j, hg, hk (j0 + 1 + 1) (by omega)]; simp only [hsec]
    by_cases c1 : j = j0 + 1
    · simp [c1]
    · by_cases c2 : j = j0 + 1 + 1
      · simp [c2]
      · by_cases c3 : j = j0
        · subst c3; simp [hj0]
        · rw [hk _ c3]
          have : ¬ (j + 1 = j0 + 1) := by omega
          simp [c1, c2, c3]
  | val old =>
    rw [hq] at hg
    by_cases hc : old.category = 2
    · have g1 := hw.1 _ _ hg hc
      have hi' : i + 1 < (l.setIfInBounds (i + 1) .unset).size := by simpa using hi
      have hk : ∀ j : Nat, j ≠ i + 1 → (l.setIfInBounds (i + 1) .unset)[j]? = l[j]? := fun j h => Array.getElem?_setIfInBounds_ne (Ne.symm h)
      have hk1 : (l.setIfInBounds (i + 1) .unset)[i + 1]? = some .unset := by simp [hi]
      obtain ⟨l', h1, h2, h3⟩ := self2 (l := l.setIfInBounds (i + 1) .unset) hi' hv (fun w q1 q2 => by rw [hk1] at q1; cases q1)
      refine ⟨l', by simp [storeLocals, setAt, hg, hq, hi0, hc, hi, h1], by simpa using h2, fun j => ?_⟩
      rw [h3 j, hg, hk1]
      by_cases c1 : j = i
      · simp [c1]
      · by_cases c2 : j = i + 1
        · simp [c2]
        · rw [hk _ c2]
          have c3 : ¬ (j = i + 2 ∧ l[j]? = some .second) := fun ⟨q1, q2⟩ => by
            subst q1
            obtain ⟨j', w, e1, e2, e3⟩ := hw.2 _ q2
            have : j' = i + 1 := by omega
            subst this; rw [g1] at e2; cases e2
          simp [c1, c2, c3, lng]
    · obtain ⟨l', h1, h2, h3⟩ := self2 hi hv hz
      refine ⟨l', by simp [storeLocals, hg, hq, hi0, hc, h1], h2, fun j => ?_⟩
      rw [h3 j, hg]; simp only [hsec, reduceCtorEq, and_false, if_false, Option.some.injEq]
theorem After2.wf {l l' : Array Slot} {i : Nat} {v : Value} (hw : WFL l) (hv : v.category = 2) (A : After2 l l' i v) : WFL l' := by
  refine ⟨fun j w h1 h2 => ?_, fun j h1 => ?_⟩
  · rw [A j] at h1
    by_cases c1 : j = i
    · subst c1; rw [A (j + 1)]; simp
    · rw [if_neg c1] at h1
      by_cases c0 : j = i + 1
      · rw [if_pos c0] at h1; cases h1
      · rw [if_neg c0] at h1
        by_cases c2 : j + 1 = i ∧ l[i]? = some .second
        · rw [if_pos c2] at h1; cases h1
        · rw [if_neg c2] at h1
          by_cases c3 : j = i + 2 ∧ l[j]? = some .second
          · rw [if_pos c3] at h1; cases h1
          · rw [if_neg c3] at h1
            have h3 := hw.1 _ _ h1 h2
            rw [A (j + 1)]
            have n1 : ¬ (j + 1 = i) := fun q => c2 ⟨q, q ▸ h3⟩
            have n0 : ¬ (j + 1 = i + 1) := by omega
            have n2 : ¬ (j + 1 + 1 = i ∧ l[i]? = some .second) := fun ⟨q1, q2⟩ => by
              obtain ⟨j', w', f1, f2, f3⟩ := hw.2 _ q2
              have : j' = j + 1 := by omega
              subst this; rw [h3] at f2; cases f2
            have n3 : ¬ (j + 1 = i + 2 ∧ l[j + 1]? = some .second) := fun ⟨q1, _⟩ => c0 (by omega)
            rw [if_neg n1, if_neg n0, if_neg n2, if_neg n3]; exact h3
  · rw [A j] at h1
    by_cases c1 : j = i
    · rw [if_pos c1] at h1; cases h1
    · rw [if_neg c1] at h1
      by_cases c0 : j = i + 1
      · subst c0; exact ⟨i, v, rfl, by rw [A i]; simp, hv⟩
      · rw [if_neg c0] at h1
        by_cases c2 : j + 1 = i ∧ l[i]? = some .second
        · rw [if_pos c2] at h1; cases h1
        · rw [if_neg c2] at h1
          by_cases c3 : j = i + 2 ∧ l[j]? = some .second
          · rw [if_pos c3] at h1; cases h1
          · rw [if_neg c3] at h1
            obtain ⟨j', w, e1, e2, e3⟩ := hw.2 _ h1
            refine ⟨j', w, e1, ?_, e3⟩
            rw [A j']
            have n1 : ¬ (j' = i) := fun q => c0 (by omega)
            have n0 : ¬ (j' = i + 1) := fun q => c3 ⟨by omega, h1⟩
            have n2 : ¬ (j' + 1 = i ∧ l[i]? = some .second) := fun ⟨q, _⟩ => c1 (by omega)
            have n3 : ¬ (j' = i + 2 ∧ l[j']? = some .second) := fun ⟨_, q⟩ => by rw [e2] at q; cases q
            rw [if_neg n1, if_neg n0, if_neg n2, if_neg n3]; exact e2
def LR (am : List Addr) (L : ALoc) (l : Array Slot) : Prop := L.length = l.size ∧ WFL l ∧ ∀ (i : Nat) v, L[i]? = some (some v) → ∃ w, l[i]? = some (.val w) ∧ VR am v w
theorem LR.mono {am am' : List Addr} (h : Pre am am') {L : ALoc} {l : Array Slot} (r : LR am L l) : LR am' L l :=
  ⟨r.1, r.2.1, fun i v q => by obtain ⟨w, h1, h2⟩ := r.2.2 i v q; exact ⟨w, h1, h2.mono h⟩⟩
theorem kill1_len (L : ALoc) (i : Nat) : (kill1 L i).length = L.length := by
  unfold kill1; split
  · rfl
  · split <;> simp
theorem kill1_get {L : ALoc} {i j : Nat} {v : Value} (h : (kill1 L i)[j]? = some (some v)) : L[j]? = some (some v) ∧ (j + 1 = i → ∀ x, v ≠ .long x) := by
  unfold kill1 at h
  split at h
  · exact ⟨h, fun q => by omega⟩
  · rename_i i
    split at h
    · rename_i x hx
      by_cases e : j = i
      · subst e
        rw [List.getElem?_set] at h
        split at h
        · split at h <;> simp at h
        · omega
      · rw [List.getElem?_set_ne (Ne.symm e)] at h
        exact ⟨h, fun q => absurd (by omega) e⟩
    · rename_i hn
      refine ⟨h, fun q x e => ?_⟩
      have : j = i := by omega
      subst this; subst e; exact hn x h
theorem LR.put {am : List Addr} {L L' : ALoc} {l : Array Slot} {i : Nat} {v w : Value} (r : LR am L l) (h : lput L i v = some L') (hv : VR am v w) (hc : w.category = 1) : ∃ l', storeLocals l i w = some l' ∧ l'.size = l.size ∧ LR am L' l' := by
  unfold lput at h
  cases hb : Nat.ble (i + 1) L.length
  · rw [hb] at h; cases h
  · rw [hb] at h
    have hi : i < L.length := Nat.le_of_ble_eq_true hb
    simp only [cond_true, Option.some.injEq] at h
    obtain ⟨l', h1, h2, h3⟩ := store1w (v := w) r.2.1 (by rw [← r.1]; exact hi) hc
    refine ⟨l', h1, h2, ?_, h3.wf r.2.1 hc, fun j u hu => ?_⟩
    · rw [← h]; simp [kill1_len, r.1, h2]
    · rw [← h, List.getElem?_set] at hu
      rw [h3 j]
      by_cases c : i = j
      · subst c
        simp only [if_true] at hu
        split at hu
        · cases hu; exact ⟨w, by simp, hv⟩
        · cases hu
      · rw [if_neg c] at hu
        obtain ⟨q1, q2⟩ := kill1_get hu
        obtain ⟨w', q3, q4⟩ := r.2.2 j u q1
        have n1 : ¬ (j = i) := fun q => c q.symm
        have n2 : ¬ (j + 1 = i ∧ l[i]? = some .second) := fun ⟨a1, a2⟩ => by
          obtain ⟨j', w2, e1, e2, e3⟩ := r.2.1.2 _ a2
          have : j' = j := by omega
          subst this; rw [q3] at e2; cases e2
          have q5 := q4.cat
          rw [e3] at q5
          cases u <;> simp [OwnX.cat] at q5
          exact q2 a1 _ rfl
        have n3 : ¬ (j = i + 1 ∧ l[j]? = some .second) := fun ⟨_, q⟩ => by rw [q3] at q; cases q
        exact ⟨w', by rw [if_neg n1, if_neg n2, if_neg n3]; exact q3, q4⟩
theorem LR.putL {am : List Addr} {L L' : ALoc} {l : Array Slot} {i : Nat} {x : Int64} (r : LR am L l) (h : lputL L i x = some L') : ∃ l', storeLocals l i (.long x) = some l' ∧ l'.size = l.size ∧ LR am L' l' := by
  unfold lputL at h
  cases hb : Nat.ble (i + 2) L.length
  · rw [hb] at h; cases h
  · rw [hb] at h
    have hi : i + 1 < L.length := Nat.le_of_ble_eq_true hb
    simp only [cond_true, Option.some.injEq] at h
    obtain ⟨l', h1, h2, h3⟩ := store2w (v := .long x) r.2.1 (by rw [← r.1]; exact hi) rfl
    refine ⟨l', h1, h2, ?_, h3.wf r.2.1 rfl, fun j u hu => ?_⟩
    · rw [← h]; simp [kill1_len, r.1, h2]
    · rw [← h, List.getElem?_set] at hu
      rw [h3 j]
      by_cases c0 : i + 1 = j
      · subst c0
        simp only [if_true] at hu
        split at hu <;> cases hu
      · rw [if_neg c0, List.getElem?_set] at hu
        by_cases c : i = j
        · subst c
          simp only [if_true] at hu
          split at hu
          · cases hu; exact ⟨.long x, by simp, rfl⟩
          · cases hu
        · rw [if_neg c] at hu
          obtain ⟨q1, q2⟩ := kill1_get hu
          obtain ⟨w', q3, q4⟩ := r.2.2 j u q1
          have n1 : ¬ (j = i) := fun q => c q.symm
          have n0 : ¬ (j = i + 1) := fun q => c0 q.symm
          have n2 : ¬ (j + 1 = i ∧ l[i]? = some .second) := fun ⟨a1, a2⟩ => by
            obtain ⟨j', w2, e1, e2, e3⟩ := r.2.1.2 _ a2
            have : j' = j := by omega
            subst this; rw [q3] at e2; cases e2
            have q5 := q4.cat
            rw [e3] at q5
            cases u <;> simp [OwnX.cat] at q5
            exact q2 a1 _ rfl
          have n3 : ¬ (j = i + 2 ∧ l[j]? = some .second) := fun ⟨_, q⟩ => by rw [q3] at q; cases q
          exact ⟨w', by rw [if_neg n1, if_neg n0, if_neg n2, if_neg n3]; exact q3, q4⟩
theorem LR.int {am : List Addr} {L : ALoc} {l : Array Slot} {i : Nat} {x : Int32} (r : LR am L l) (h : loadI L i = some x) : l[i]? = some (.val (.int x)) := by
  unfold loadI at h
  split at h
  · rename_i y hy
    cases h
    obtain ⟨w, h1, h2⟩ := r.2.2 _ _ hy
    cases h2; exact h1
  · cases h
theorem LR.long {am : List Addr} {L : ALoc} {l : Array Slot} {i : Nat} {x : Int64} (r : LR am L l) (h : loadJ L i = some x) : l[i]? = some (.val (.long x)) := by
  unfold loadJ at h
  split at h
  · rename_i y hy
    cases h
    obtain ⟨w, h1, h2⟩ := r.2.2 _ _ hy
    cases h2; exact h1
  · cases h
theorem LR.ref {am : List Addr} {L : ALoc} {l : Array Slot} {i x : Nat} (r : LR am L l) (h : loadA L i = some x) : ∃ a, am[x]? = some a ∧ l[i]? = some (.val (.ref a)) := by
  unfold loadA at h
  split at h
  · rename_i y hy
    cases h
    obtain ⟨w, h1, a, h2, rfl⟩ := r.2.2 _ _ hy
    exact ⟨a, h2, h1⟩
  · cases h
end Jvm.OwnX
namespace Jvm.OwnX
open Sem ClassFile Op Lib Jvm.Stand Jvm.Free Jvm.LawKit Jvm.RoadKit
/-! ## the entry's variables -/
def slotsL : List Value → List Slot
  | [] => []
  | v :: r => if v.category = 2 then .val v :: .second :: slotsL r else .val v :: slotsL r
theorem fold_slots : ∀ (ws : List Value) (acc : Array Slot), ws.foldl (fun acc v => if v.category = 2 then (acc.push (.val v)).push .second else acc.push (.val v)) acc = acc ++ (slotsL ws).toArray
  | [], acc => by simp [slotsL]
  | v :: r, acc => by
    rw [List.foldl_cons, fold_slots r]
    by_cases h : v.category = 2
    · simp only [h, if_true, slotsL]; apply Array.ext'; simp
    · simp only [h, if_false, slotsL]; apply Array.ext'; simp
theorem argsToLocals_eq (ws : List Value) (n : Nat) : argsToLocals ws.toArray n = (slotsL ws ++ List.replicate (n - (slotsL ws).length) Slot.unset).toArray := by
  unfold argsToLocals
  have h : Array.foldl (fun acc v => if v.category = 2 then (acc.push (.val v)).push .second else acc.push (.val v)) #[] ws.toArray = (slotsL ws).toArray := by
    rw [List.foldl_toArray, fold_slots]; simp
  simp only [h]
  apply Array.ext'; simp
def WFl (s : List Slot) : Prop := (∀ (i : Nat) (w : Value), s[i]? = some (Slot.val w) → w.category = 2 → s[i + 1]? = some Slot.second) ∧ (∀ (i : Nat), s[i]? = some Slot.second → ∃ (j : Nat) (w : Value), i = j + 1 ∧ s[j]? = some (Slot.val w) ∧ w.category = 2)
theorem WFl.nil : WFl [] := ⟨fun i w h => by simp at h, fun i h => by simp at h⟩
theorem WFl.one {s : List Slot} (h : WFl s) {v : Value} (hv : ¬ v.category = 2) : WFl (.val v :: s) := by
  refine ⟨fun i w h1 h2 => ?_, fun i h1 => ?_⟩
  · cases i with
    | zero => simp at h1; subst h1; exact absurd h2 hv
    | succ i => rw [List.getElem?_cons_succ] at h1 ⊢; exact h.1 _ _ h1 h2
  · cases i with
    | zero => simp at h1
    | succ i =>
      rw [List.getElem?_cons_succ] at h1
      obtain ⟨j, w, rfl, e2, e3⟩ := h.2 _ h1
      exact ⟨j + 1, w, rfl, by rw [List.getElem?_cons_succ]; exact e2, e3⟩
theorem WFl.two {s : List Slot} (h : WFl s) {v : Value} (hv : v.category = 2) : WFl (.val v :: .second :: s) := by
  refine ⟨fun i w h1 h2 => ?_, fun i h1 => ?_⟩
  · match i with
    | 0 => simp
    | 1 => simp at h1
    | i + 2 => simp only [List.getElem?_cons_succ] at h1 ⊢; exact h.1 _ _ h1 h2
  · match i with
    | 0 => simp at h1
    | 1 => exact ⟨0, v, rfl, by simp, hv⟩
    | i + 2 =>
      simp only [List.getElem?_cons_succ] at h1
      obtain ⟨j, w, rfl, e2, e3⟩ := h.2 _ h1
      exact ⟨j + 2, w, rfl, by simp only [List.getElem?_cons_succ]; exact e2, e3⟩
theorem WFl.pad {s : List Slot} (h : WFl s) (n : Nat) : WFl (s ++ List.replicate n Slot.unset) := by
  have hk : ∀ (i : Nat) (x : Slot), (s ++ List.replicate n Slot.unset)[i]? = some x → x ≠ Slot.unset → s[i]? = some x := fun i x q hx => by
    by_cases c : i < s.length
    · rw [List.getElem?_append_left c] at q; exact q
    · rw [List.getElem?_append_right (by omega), List.getElem?_replicate] at q
      split at q
      · cases q; exact absurd rfl hx
      · cases q
  have hl : ∀ (i : Nat) (x : Slot), s[i]? = some x → (s ++ List.replicate n Slot.unset)[i]? = some x := fun i x q => by
    rw [List.getElem?_append_left (List.getElem?_eq_some_iff.mp q).1]; exact q
  refine ⟨fun i w h1 h2 => hl _ _ (h.1 _ _ (hk _ _ h1 (by simp)) h2), fun i h1 => ?_⟩
  obtain ⟨j, w, e1, e2, e3⟩ := h.2 _ (hk _ _ h1 (by simp))
  exact ⟨j, w, e1, hl _ _ e2, e3⟩
theorem slotsL_ok {am : List Addr} : ∀ {as ws : List Value}, SR am as ws → (entL as).length = (slotsL ws).length ∧ WFl (slotsL ws) ∧ ∀ (i : Nat) (v : Value), (entL as)[i]? = some (some v) → ∃ w, (slotsL ws)[i]? = some (Slot.val w) ∧ VR am v w
  | [], _, h => by cases h; exact ⟨rfl, WFl.nil, fun i v q => by simp [entL] at q⟩
  | v :: r, _, ⟨w, ws', e, r1, r2⟩ => by
    subst e
    obtain ⟨i1, i2, i3⟩ := slotsL_ok r2
    have hc := r1.cat
    by_cases h2 : ∃ x, v = .long x
    · obtain ⟨x, rfl⟩ := h2
      have hc2 : w.category = 2 := hc
      refine ⟨by simp [entL, slotsL, hc2, i1], by simp only [slotsL, hc2, if_true]; exact i2.two hc2, fun i u q => ?_⟩
      simp only [slotsL, hc2, if_true, entL] at q ⊢
      match i with
      | 0 => simp at q; subst q; exact ⟨w, by simp, r1⟩
      | 1 => simp at q
      | i + 2 => simp only [List.getElem?_cons_succ] at q ⊢; exact i3 i u q
    · have hv1 : OwnX.cat v = 1 := by cases v <;> first | rfl | (exact absurd ⟨_, rfl⟩ h2)
      have hc2 : ¬ w.category = 2 := by rw [hc, hv1]; decide
      have he : entL (v :: r) = some v :: entL r := by cases v <;> first | rfl | (exact absurd ⟨_, rfl⟩ h2)
      refine ⟨by simp [he, slotsL, hc2, i1], by simp only [slotsL, hc2, if_false]; exact i2.one hc2, fun i u q => ?_⟩
      rw [he] at q
      simp only [slotsL, hc2, if_false]
      match i with
      | 0 => simp at q; subst q; exact ⟨w, by simp, r1⟩
      | i + 1 => simp only [List.getElem?_cons_succ] at q ⊢; exact i3 i u q
theorem LR.entry {am : List Addr} {as ws : List Value} {n : Nat} (h : SR am as ws) (hn : (entL as).length ≤ n) : LR am (pad n (entL as)) (argsToLocals ws.toArray n) := by
  obtain ⟨h1, h2, h3⟩ := slotsL_ok h
  rw [argsToLocals_eq]
  have hw := h2.pad (n - (slotsL ws).length)
  refine ⟨by simp [pad, h1], ⟨fun i w q1 q2 => ?_, fun i q1 => ?_⟩, fun i v q => ?_⟩
  · rw [List.getElem?_toArray] at q1 ⊢; exact hw.1 _ _ q1 q2
  · rw [List.getElem?_toArray] at q1
    obtain ⟨j, w, e1, e2, e3⟩ := hw.2 _ q1
    exact ⟨j, w, e1, by rw [List.getElem?_toArray]; exact e2, e3⟩
  · have hi : i < (entL as).length := by
      by_cases c : i < (entL as).length
      · exact c
      · unfold pad at q
        rw [List.getElem?_append_right (by omega), List.getElem?_replicate] at q
        split at q
        · cases q
        · cases q
    unfold pad at q
    rw [List.getElem?_append_left hi] at q
    obtain ⟨w, e1, e2⟩ := h3 i v q
    exact ⟨w, by rw [List.getElem?_toArray, List.getElem?_append_left (by omega)]; exact e1, e2⟩
theorem entry_size {ws : List Value} {n : Nat} (h : (slotsL ws).length ≤ n) : (argsToLocals ws.toArray n).size = n := by
  rw [argsToLocals_eq]; simp; omega
/-! ## the heap -/
def aty : Nat → FieldType
  | 0 => .int
  | 1 => .int
  | 2 => .boolean
  | 3 => .byte
  | _ => .long
def CR (P : Prog) (C : String) (Z : State) (am : List Addr) (c : ACell) (h : Heap) (a : Addr) : Prop := match c with
  | .inl fs => Exa Z h a C ∧ fs.length = P.fields.length ∧ ∀ (j : Nat) (v : Value) (n d : String) (t : Nat) (f : Bool), fs[j]? = some v → P.fields[j]? = some (n, d, t, f) → ∃ w, VR am v w ∧ Fld Z h a C n d w
  | .inr (.inl (t, xs)) => ∃ cl, Arr Z h a cl (aty t) ∧ cl.slots.size = xs.length ∧ ∀ (j : Nat) (x : Int32), xs[j]? = some x → cl.slots[j]? = some (.int x)
  | .inr (.inr xs) => ∃ cl, Arr Z h a cl .long ∧ cl.slots.size = xs.length ∧ ∀ (j : Nat) (x : Int64), xs[j]? = some x → cl.slots[j]? = some (.long x)
def HR (P : Prog) (C : String) (Z : State) (n0 : Nat) (am : List Addr) (H : AHeap) (h : Heap) : Prop :=
  am.length = H.length ∧ (∀ (i j : Nat) (a : Addr), am[i]? = some a → am[j]? = some a → i = j) ∧ (∀ (i : Nat) (a : Addr), am[i]? = some a → a < h.size ∧ (P.ro ≤ i → n0 ≤ a)) ∧ ∀ (i : Nat) (c : ACell), H[i]? = some c → ∃ a, am[i]? = some a ∧ CR P C Z am c h a
section Heap
variable {P : Prog} {C : String} {Z : State} {n0 : Nat} {am am' : List Addr} {H : AHeap} {h h' : Heap} {a b : Addr} {c : ACell}
theorem CR.ext (E : Ext h h') (hp : Pre am am') (r : CR P C Z am c h a) : CR P C Z am' c h' a := by
  match c, r with
  | .inl fs, ⟨r1, r2, r3⟩ => exact ⟨r1.ext E, r2, fun j v n d t f q1 q2 => by obtain ⟨w, e1, e2⟩ := r3 j v n d t f q1 q2; exact ⟨w, e1.mono hp, e2.ext E⟩⟩
  | .inr (.inl (t, xs)), ⟨cl, r1, r2⟩ => exact ⟨cl, r1.ext E, r2⟩
  | .inr (.inr xs), ⟨cl, r1, r2⟩ => exact ⟨cl, r1.ext E, r2⟩
theorem CR.other {sl : Nat} {v : Value} (W : Wr h h' b sl v) (hne : a ≠ b) (r : CR P C Z am c h a) : CR P C Z am c h' a := by
  match c, r with
  | .inl fs, ⟨r1, r2, r3⟩ => exact ⟨r1.wr W, r2, fun j v n d t f q1 q2 => by obtain ⟨w, e1, e2⟩ := r3 j v n d t f q1 q2; exact ⟨w, e1, e2.other W (Or.inl hne)⟩⟩
  | .inr (.inl (t, xs)), ⟨cl, r1, r2⟩ => exact ⟨cl, r1.other W hne, r2⟩
  | .inr (.inr xs), ⟨cl, r1, r2⟩ => exact ⟨cl, r1.other W hne, r2⟩
/-- a new cell -/
theorem HR.push (E : Ext h h') (r : HR P C Z n0 am H h) (hlt : h.size < h'.size) (hn : n0 ≤ h.size) (hc : CR P C Z (am ++ [h.size]) c h' h.size) : HR P C Z n0 (am ++ [h.size]) (H ++ [c]) h' := by
  obtain ⟨r1, r2, r3, r4⟩ := r
  have hin : ∀ (i : Nat) (x : Addr), (am ++ [h.size])[i]? = some x → (am[i]? = some x ∧ i < am.length) ∨ (i = am.length ∧ x = h.size) := fun i x q => by
    by_cases ci : i < am.length
    · rw [List.getElem?_append_left ci] at q; exact Or.inl ⟨q, ci⟩
    · rw [List.getElem?_append_right (by omega)] at q
      have : i - am.length = 0 := by
        by_cases z : i - am.length = 0
        · exact z
        · rw [List.getElem?_eq_none (by simp; omega)] at q; cases q
      rw [this] at q
      simp at q
      exact Or.inr ⟨by omega, q.symm⟩
  refine ⟨by simp [r1], fun i j x q1 q2 => ?_, fun i x q => ?_, fun i d q => ?_⟩
  · rcases hin i x q1 with ⟨u1, u2⟩ | ⟨u1, u2⟩ <;> rcases hin j x q2 with ⟨v1, v2⟩ | ⟨v1, v2⟩
    · exact r2 _ _ _ u1 v1
    · subst v2; exact absurd (r3 _ _ u1).1 (Nat.lt_irrefl _)
    · subst u2; exact absurd (r3 _ _ v1).1 (Nat.lt_irrefl _)
    · omega
  · rcases hin i x q with ⟨u1, u2⟩ | ⟨u1, u2⟩
    · have := r3 _ _ u1; exact ⟨Nat.lt_of_lt_of_le this.1 E.1, this.2⟩
    · subst u2; exact ⟨hlt, fun _ => hn⟩
  · by_cases ci : i < H.length
    · rw [List.getElem?_append_left ci] at q
      obtain ⟨x, e1, e2⟩ := r4 i d q
      exact ⟨x, Pre.app am _ _ _ e1, e2.ext E (Pre.app am _)⟩
    · rw [List.getElem?_append_right (by omega)] at q
      have : i - H.length = 0 := by
        by_cases z : i - H.length = 0
        · exact z
        · rw [List.getElem?_eq_none (by simp; omega)] at q; cases q
      rw [this] at q
      simp at q; subst q
      have e : i = am.length := by omega
      exact ⟨h.size, by rw [e]; simp, hc⟩
/-- a cell changed in place -/
theorem HR.upd {i sl : Nat} {v : Value} (W : Wr h h' a sl v) (r : HR P C Z n0 am H h) (hi : am[i]? = some a) (hc : CR P C Z am c h' a) : HR P C Z n0 am (H.set i c) h' := by
  obtain ⟨r1, r2, r3, r4⟩ := r
  refine ⟨by simp [r1], r2, fun j x q => by rw [W.size]; exact r3 _ _ q, fun j d q => ?_⟩
  rw [List.getElem?_set] at q
  by_cases e : i = j
  · subst e
    simp only [if_true] at q
    split at q
    · cases q; exact ⟨a, hi, hc⟩
    · cases q
  · rw [if_neg e] at q
    obtain ⟨x, e1, e2⟩ := r4 j d q
    exact ⟨x, e1, e2.other W fun q => e (r2 _ _ _ hi (q ▸ e1))⟩
theorem inb_spec {n : Nat} {j : Int32} (h : inb n j = true) : ¬ (j < 0 ∨ n ≤ j.toNatClampNeg) := by
  simp only [inb, Bool.and_eq_true, Bool.not_eq_true', decide_eq_false_iff_not] at h
  have h2 : j.toNatClampNeg < n := Nat.le_of_ble_eq_true h.2
  rintro (q | q)
  · exact h.1 q
  · omega
theorem inb_lt {n : Nat} {j : Int32} (h : inb n j = true) : j.toNatClampNeg < n := by
  have := inb_spec h; exact Nat.lt_of_not_le fun q => this (Or.inr q)
theorem rd_at {xs : List Int32} {j : Int32} (h : inb xs.length j = true) : xs[j.toNatClampNeg]? = some (rd xs j) := by
  rw [rd, List.getD_eq_getElem?_getD, List.getElem?_eq_getElem (inb_lt h)]; rfl
theorem rdL_at {xs : List Int64} {j : Int32} (h : inb xs.length j = true) : xs[j.toNatClampNeg]? = some (rdL xs j) := by
  rw [rdL, List.getD_eq_getElem?_getD, List.getElem?_eq_getElem (inb_lt h)]; rfl
theorem CR.wrI {t : Nat} {xs : List Int32} {j x : Int32} (W : Wr h h' a j.toNatClampNeg (.int x)) (r : CR P C Z am (.inr (.inl (t, xs))) h a) : CR P C Z am (.inr (.inl (t, wr xs j x))) h' a := by
  obtain ⟨cl, r1, r2, r3⟩ := r
  refine ⟨_, r1.same W, by rw [sz_set, r2]; simp [wr], fun i y q => ?_⟩
  unfold wr at q
  rw [List.getElem?_set] at q
  by_cases e : j.toNatClampNeg = i
  · rw [if_pos e] at q
    split at q
    · cases q; subst e
      have hs : j.toNatClampNeg < cl.slots.size := by omega
      simp [Cell.setSlot, hs]
    · cases q
  · rw [if_neg e] at q
    simp only [Cell.setSlot]
    rw [Array.getElem?_setIfInBounds_ne e]; exact r3 _ _ q
theorem CR.wrJ {xs : List Int64} {j : Int32} {x : Int64} (W : Wr h h' a j.toNatClampNeg (.long x)) (r : CR P C Z am (.inr (.inr xs)) h a) : CR P C Z am (.inr (.inr (wrL xs j x))) h' a := by
  obtain ⟨cl, r1, r2, r3⟩ := r
  refine ⟨_, r1.same W, by rw [sz_set, r2]; simp [wrL], fun i y q => ?_⟩
  unfold wrL at q
  rw [List.getElem?_set] at q
  by_cases e : j.toNatClampNeg = i
  · rw [if_pos e] at q
    split at q
    · cases q; subst e
      have hs : j.toNatClampNeg < cl.slots.size := by omega
      simp [Cell.setSlot, hs]
    · cases q
  · rw [if_neg e] at q
    simp only [Cell.setSlot]
    rw [Array.getElem?_setIfInBounds_ne e]; exact r3 _ _ q
end Heap
/-! ## what the sheet's words must say -/
def tyOk : Nat → FieldType → Bool
  | 0, .int => true
  | 1, .boolean => true
  | 2, .long => true
  | 3, .array _ => true
  | _, _ => false
def rcv (q : Nat) : Nat := match q with | 0 => 0 | _ => 1
def KindOk (P : Prog) (nm : Nat → MethodName) (C : String) (Z : State) (a0 : Array Value) (q k : Nat) : Prop := match q with
  | 0 => (Cond.static (nm k)).before a0 Z = true
  | 1 => (nm k).name = "<init>" ∧ (Cond.instanceMethod (nm k)).before a0 Z = true ∧ P.ret k = none
  | 2 => (Cond.declares (nm k)).before a0 Z = true ∧ (Cond.instanceMethod (nm k)).before a0 Z = true ∧ (Cond.selects C (nm k) (nm k)).before a0 Z = true
  | _ => (nm k).cls = C ∧ (Cond.instanceMethod (nm k)).before a0 Z = true ∧ (Cond.privateMethod (nm k)).before a0 Z = true
def CallOk (P : Prog) (nm : Nat → MethodName) (bc : Nat → ByteArray) (cn : Nat → String) (C : String) (Z : State) (a0 : Array Value) (c j q k : Nat) : Prop :=
  (Cond.methodLink (cn c) j (nm k)).before a0 Z = true ∧ (Cond.code (nm k) (bc k) (P.maxL k) (P.ret k)).before a0 Z = true ∧ (Cond.initialized (nm k).cls).before a0 Z = true ∧
      (∃ ps r, parseMethodDescriptor (nm k).desc = some ⟨ps, r⟩ ∧ P.pops k = ps.length + rcv q) ∧ plainName (nm k).cls = true ∧ ((nm k).cls ≠ "java/lang/invoke/MethodHandle" ∧ (nm k).cls ≠ "java/lang/invoke/VarHandle") ∧ (nm k).cls = cn (P.cls k) ∧ (P.ini k = true → (nm k).name = "<init>" ∧ (nm k).cls = C) ∧ KindOk P nm C Z a0 q k
def LinkOk (P : Prog) (nm : Nat → MethodName) (bc : Nat → ByteArray) (cn : Nat → String) (C : String) (Z : State) (a0 : Array Value) (c j q k : Nat) : Prop := match q with
  | 4 => (Cond.methodLink (cn c) j Lib.objectInit).before a0 Z = true ∧ (Cond.instanceMethod Lib.objectInit).before a0 Z = true ∧ (Cond.code Lib.objectInit ⟨#[0xb1]⟩ 1 none).before a0 Z = true
  | 5 => (Cond.classLink (cn c) j C).before a0 Z = true
  | q => CallOk P nm bc cn C Z a0 c j q k
def KonOk (cn : Nat → String) (Z : State) (a0 : Array Value) (c j : Nat) (v : Value) : Prop := match v with
  | .int x => (Cond.constant (cn c) j x).before a0 Z = true
  | .long x => (Cond.constantLong (cn c) j x).before a0 Z = true
  | _ => False
def Good (P : Prog) (nm : Nat → MethodName) (bc : Nat → ByteArray) (cn : Nat → String) (C : String) (Z : State) (a0 : Array Value) : Prop :=
  (∀ k pc i np, P.code k pc = some (i, np) → ∃ len, decode (bc k) pc = .ok (i, len) ∧ np = pc + len ∧ (ilen i = 0 ∨ len = ilen i)) ∧
  (∀ c j f, P.fld c j = some f → ∃ n d t fin, P.fields[f]? = some (n, d, t, fin) ∧ (Cond.fieldLink (cn c) j C n d).before a0 Z = true) ∧
  (∀ (f : Nat) n d t (fin : Bool), P.fields[f]? = some (n, d, t, fin) → (bif fin then (Cond.laysFinal C C n d).before a0 Z else (Cond.lays C C n d).before a0 Z) = true ∧ ∃ ty, parseFieldDescriptor d = some ty ∧ tyOk t ty = true ∧ defaultValue ty = dflt t) ∧
  (∀ (f g : Nat) n d t (fin : Bool) n' d' t' (fin' : Bool), P.fields[f]? = some (n, d, t, fin) → P.fields[g]? = some (n', d', t', fin') → f ≠ g → n ≠ n') ∧
  (∀ c j v, P.kon c j = some v → KonOk cn Z a0 c j v) ∧
  (Cond.instantiable C P.objN).before a0 Z = true ∧ (Cond.initialized C).before a0 Z = true ∧
  (∀ k pc t np, P.code k pc = some (.newarray t, np) → (Cond.arrayClass (newarray.typeOf t)).before a0 Z = true) ∧
  (∀ c j q k, P.link c j = some (q, k) → LinkOk P nm bc cn C Z a0 c j q k)
end Jvm.OwnX
namespace Jvm.OwnX
open Sem ClassFile Op Lib Jvm.Stand Jvm.Free Jvm.LawKit Jvm.RoadKit
section Sound
variable {p : Program} {l : Launch} {e : Env} {R : Room} {s : State} {m : MethodId} {args : Array Value} {below : List Frame} {meth : Method} {c : Code} {T : State} {locs : List Loc} {cells slots : Nat}
variable {P : Prog} {nm : Nat → MethodName} {bc : Nat → ByteArray} {cn : Nat → String} {C : String} {Z : State} {a0 : Array Value} {n0 : Nat}
/-- where the walk stands behind a step -/
def Behind (p : Program) (l : Launch) (e : Env) (R : Room) (s : State) (m : MethodId) (args : Array Value) (below : List Frame) (meth : Method) (c : Code) (P : Prog) (C : String) (Z : State) (n0 : Nat) (am : List Addr) (cells slots : Nat)
    (T : State) (pc : Nat) (ls : Array Slot) (st : List Value) (pc' : Nat) (L' : ALoc) (S' : List Value) (H' : AHeap) (dc ds : Nat) : Prop :=
  ∃ T' am' ls' st' locs', Stand p l e R s m args below meth c T' locs' (cells + dc) (slots + ds) ∧ LR am' L' ls' ∧ ls'.size = ls.size ∧ SR am' S' st' ∧ HR P C Z n0 am' H' T'.heap ∧ Pre am am' ∧ Fr n0 locs' ∧ n0 ≤ T'.heap.size ∧
    ∀ target, Steps p.tables e below (T'.setTop (mkF m pc' ls' st')) target → Steps p.tables e below (T.setTop (mkF m pc ls st)) target
theorem Behind.plain {am : List Addr} {H : AHeap} {pc pc' : Nat} {L' : ALoc} {S' : List Value} {ls ls' : Array Slot} {st st' : List Value} (X : Stand p l e R s m args below meth c T locs cells slots) (hL : LR am L' ls') (hz : ls'.size = ls.size) (hS : SR am S' st') (hH : HR P C Z n0 am H T.heap) (hF : Fr n0 locs) (hn : n0 ≤ T.heap.size)
    (hs : ∀ target, Steps p.tables e below (T.setTop (mkF m pc' ls' st')) target → Steps p.tables e below (T.setTop (mkF m pc ls st)) target) : Behind p l e R s m args below meth c P C Z n0 am cells slots T pc ls st pc' L' S' H (H.length - H.length) (hsz P H - hsz P H) :=
  ⟨T, am, ls', st', locs, by simpa using X, hL, hz, hS, hH, Pre.refl _, hF, hn, hs⟩
theorem Behind.plain' {T' : State} {am : List Addr} {H : AHeap} {pc pc' : Nat} {L' : ALoc} {S' : List Value} {ls ls' : Array Slot} {st st' : List Value} (X : Stand p l e R s m args below meth c T' locs cells slots) (eT : T'.heap = T.heap) (hL : LR am L' ls') (hz : ls'.size = ls.size) (hS : SR am S' st') (hH : HR P C Z n0 am H T.heap) (hF : Fr n0 locs) (hn : n0 ≤ T.heap.size)
    (hs : ∀ target, Steps p.tables e below (T'.setTop (mkF m pc' ls' st')) target → Steps p.tables e below (T.setTop (mkF m pc ls st)) target) : Behind p l e R s m args below meth c P C Z n0 am cells slots T pc ls st pc' L' S' H (H.length - H.length) (hsz P H - hsz P H) :=
  ⟨T', am, ls', st', locs, by simpa using X, hL, hz, hS, by rw [eT]; exact hH, Pre.refl _, hF, by rw [eT]; exact hn, hs⟩
theorem tgt_spec {pc t : Nat} {o : Int} (h : tgt pc o = some t) : 0 ≤ (pc : Int) + o ∧ ((pc : Int) + o).toNat = t := by
  unfold tgt at h
  split at h
  · rename_i n hn; cases h; rw [hn]; exact ⟨Int.natCast_nonneg _, rfl⟩
  · cases h
theorem hsz_app (P : Prog) : ∀ (H : AHeap) (c : ACell), hsz P (H ++ [c]) = hsz P H + csz P.objN c
  | [], c => by simp [hsz]
  | x :: r, c => by simp only [List.cons_append, hsz, hsz_app P r c]; omega
theorem hsz_append (P : Prog) : ∀ (H T : AHeap), hsz P (H ++ T) = hsz P H + hsz P T
  | [], T => by simp [hsz]
  | x :: r, T => by simp only [List.cons_append, hsz, hsz_append P r T]; omega
theorem hsz_set (P : Prog) : ∀ (H : AHeap) (i : Nat) (c c' : ACell), H[i]? = some c' → csz P.objN c = csz P.objN c' → hsz P (H.set i c) = hsz P H
  | [], i, c, c', h, _ => by simp at h
  | x :: r, 0, c, c', h, e => by simp at h; subst h; simp [hsz, e]
  | x :: r, i + 1, c, c', h, e => by simp only [List.set_cons_succ, hsz]; rw [List.getElem?_cons_succ] at h; rw [hsz_set P r i c c' h e]
/-- a write -/
theorem Behind.write {T' : State} {am : List Addr} {H : AHeap} {i sl : Nat} {cc cc' : ACell} {a : Addr} {w : Value} {h' : Heap} {pc pc' : Nat} {L' : ALoc} {S' : List Value} {ls : Array Slot} {st st' : List Value} (X : Stand p l e R s m args below meth c T' (locs ++ [⟨a, sl⟩]) cells slots) (eT : T'.heap = h') (W : Wr T.heap h' a sl w)
    (hL : LR am L' ls) (hS : SR am S' st') (hH : HR P C Z n0 am H T.heap) (hi : am[i]? = some a) (hro : P.ro ≤ i) (hc' : H[i]? = some cc') (hcs : csz P.objN cc = csz P.objN cc') (hC : CR P C Z am cc h' a) (hF : Fr n0 locs) (hn : n0 ≤ T.heap.size)
    (hs : ∀ target, Steps p.tables e below (T'.setTop (mkF m pc' ls st')) target → Steps p.tables e below (T.setTop (mkF m pc ls st)) target) :
    Behind p l e R s m args below meth c P C Z n0 am cells slots T pc ls st pc' L' S' (H.set i cc) ((H.set i cc).length - H.length) (hsz P (H.set i cc) - hsz P H) := by
  rw [hsz_set P H i cc cc' hc' hcs]
  refine ⟨T', am, ls, st', _, by simpa using X, hL, rfl, hS, by rw [eT]; exact hH.upd W hi hC, Pre.refl _, Fr.snoc X hF ((hH.2.2.1 _ _ hi).2 hro), by rw [eT, W.size]; exact hn, hs⟩
theorem arr_new {am : List Addr} {h h' : Heap} {cA : ClassId} {q : Nat} {n : Int32} {t : ArrayType} (ht : atyOf t = some q) (hn : ¬ n < 0) (A : Arr Z h' h.size (newA cA (newarray.typeOf t) n) (newarray.typeOf t)) : CR P C Z am (newC q n.toNatClampNeg) h' h.size := by
  have key : ∀ {d : Value}, ∀ j, (Array.replicate n.toNatClampNeg d)[j]? = if j < n.toNatClampNeg then some d else none := fun j => by rw [Array.getElem?_replicate]
  cases t <;> simp only [atyOf, Option.some.injEq, reduceCtorEq] at ht <;> subst ht
  · refine ⟨_, A, by simp [newA], fun j x q => ?_⟩
    rw [List.getElem?_replicate] at q
    split at q
    · cases q; simp only [newA]; rw [key, if_pos (by assumption)]; rfl
    · cases q
  · refine ⟨_, A, by simp [newA], fun j x q => ?_⟩
    rw [List.getElem?_replicate] at q
    split at q
    · cases q; simp only [newA]; rw [key, if_pos (by assumption)]; rfl
    · cases q
  · refine ⟨_, A, by simp [newA], fun j x q => ?_⟩
    rw [List.getElem?_replicate] at q
    split at q
    · cases q; simp only [newA]; rw [key, if_pos (by assumption)]; rfl
    · cases q
  · refine ⟨_, A, by simp [newA], fun j x q => ?_⟩
    rw [List.getElem?_replicate] at q
    split at q
    · cases q; simp only [newA]; rw [key, if_pos (by assumption)]; rfl
    · cases q
theorem csz_new {t : ArrayType} {q : Nat} (N n : Nat) (ht : atyOf t = some q) : csz N (newC q n) = n := by
  cases t <;> simp only [atyOf, Option.some.injEq, reduceCtorEq] at ht <;> subst ht <;> simp [newC, csz]
set_option maxHeartbeats 4000000 in
theorem step_sound (G : Good P nm bc cn C Z a0) {k pc np pc' : Nat} {i : Instr} {L L' : ALoc} {S S' : List Value} {H H' : AHeap} (hcode : P.code k pc = some (i, np)) (h : step P k i np pc L S H = some (pc', L', S', H'))
    (X : Stand p l e R s m args below meth c T locs cells slots) (hx : p.tables.exec = Jvm.exec) (hZ : Z.Warmed39 s.vm) (hby : c.code = bc k) (hml : c.maxLocals = P.maxL k) (hown : s.vm.findClass (cn (P.cls k)) = some m.cls) (hini : P.ini k = true → meth.name = "<init>" ∧ cn (P.cls k) = C)
    (hrf : P.rf k ≤ R.frames) (hrl : P.rl k ≤ R.locals) (hcells : cells + (H'.length - H.length) ≤ R.cells) (hslots : slots + (hsz P H' - hsz P H) ≤ R.slots) {am : List Addr} {ls : Array Slot} {st : List Value} (hlz : ls.size = P.maxL k) (hL : LR am L ls) (hS : SR am S st) (hH : HR P C Z n0 am H T.heap) (hF : Fr n0 locs) (hn : n0 ≤ T.heap.size) :
    Behind p l e R s m args below meth c P C Z n0 am cells slots T pc ls st pc' L' S' H' (H'.length - H.length) (hsz P H' - hsz P H) := by
  obtain ⟨G1, G2, G3, G4, G5, G6, G7, G8, G9⟩ := G
  obtain ⟨len, hdec, rfl, hlen⟩ := G1 _ _ _ _ hcode
  have hd : decode c.code pc = .ok (i, len) := by rw [hby]; exact hdec
  cases i
  case iload_n n =>
    simp only [step] at h
    obtain rfl := hlen.resolve_left (by simp [ilen])
    cases hl : loadI L n.val with
    | none => simp [hl] at h
    | some x =>
      simp only [hl, Option.some.injEq, Prod.mk.injEq] at h; obtain ⟨rfl, rfl, rfl, rfl⟩ := h
      exact Behind.plain X hL rfl ⟨_, _, rfl, rfl, hS⟩ hH hF hn fun target hr => XS.iloadN X.here hx rfl (g := mkF m pc ls st) hd (hL.int hl) hr
  case iload n =>
    simp only [step] at h
    obtain rfl := hlen.resolve_left (by simp [ilen])
    cases hl : loadI L n with
    | none => simp [hl] at h
    | some x =>
      simp only [hl, Option.some.injEq, Prod.mk.injEq] at h; obtain ⟨rfl, rfl, rfl, rfl⟩ := h
      exact Behind.plain X hL rfl ⟨_, _, rfl, rfl, hS⟩ hH hF hn fun target hr => XS.iload X.here hx rfl (g := mkF m pc ls st) hd (hL.int hl) hr
  case lload_n n =>
    simp only [step] at h
    obtain rfl := hlen.resolve_left (by simp [ilen])
    cases hl : loadJ L n.val with
    | none => simp [hl] at h
    | some x =>
      simp only [hl, Option.some.injEq, Prod.mk.injEq] at h; obtain ⟨rfl, rfl, rfl, rfl⟩ := h
      exact Behind.plain X hL rfl ⟨_, _, rfl, rfl, hS⟩ hH hF hn fun target hr => XS.lloadN X.here hx rfl (g := mkF m pc ls st) hd (hL.long hl) hr
  case lload n =>
    simp only [step] at h
    obtain rfl := hlen.resolve_left (by simp [ilen])
    cases hl : loadJ L n with
    | none => simp [hl] at h
    | some x =>
      simp only [hl, Option.some.injEq, Prod.mk.injEq] at h; obtain ⟨rfl, rfl, rfl, rfl⟩ := h
      exact Behind.plain X hL rfl ⟨_, _, rfl, rfl, hS⟩ hH hF hn fun target hr => XS.lload X.here hx rfl (g := mkF m pc ls st) hd (hL.long hl) hr
  case aload_n n =>
    simp only [step] at h
    obtain rfl := hlen.resolve_left (by simp [ilen])
    cases hl : loadA L n.val with
    | none => simp [hl] at h
    | some x =>
      simp only [hl, Option.some.injEq, Prod.mk.injEq] at h; obtain ⟨rfl, rfl, rfl, rfl⟩ := h
      obtain ⟨a, ha, hl'⟩ := hL.ref hl
      exact Behind.plain X hL rfl ⟨_, _, rfl, ⟨a, ha, rfl⟩, hS⟩ hH hF hn fun target hr => XS.aloadN X.here hx rfl (g := mkF m pc ls st) hd hl' rfl hr
  case aload n =>
    simp only [step] at h
    obtain rfl := hlen.resolve_left (by simp [ilen])
    cases hl : loadA L n with
    | none => simp [hl] at h
    | some x =>
      simp only [hl, Option.some.injEq, Prod.mk.injEq] at h; obtain ⟨rfl, rfl, rfl, rfl⟩ := h
      obtain ⟨a, ha, hl'⟩ := hL.ref hl
      exact Behind.plain X hL rfl ⟨_, _, rfl, ⟨a, ha, rfl⟩, hS⟩ hH hF hn fun target hr => XS.aload X.here hx rfl (g := mkF m pc ls st) hd hl' rfl hr
  case istore_n n =>
    simp only [step] at h
    obtain rfl := hlen.resolve_left (by simp [ilen])
    split at h
    · rename_i x r
      cases hl : lput L n.val (.int x) with
      | none => simp [hl] at h
      | some L2 =>
        simp only [hl, Option.some.injEq, Prod.mk.injEq] at h; obtain ⟨rfl, rfl, rfl, rfl⟩ := h
        obtain ⟨_, _, rfl, rfl, hr'⟩ := hS
        obtain ⟨l', h1, h2, h3⟩ := hL.put (w := .int x) hl rfl rfl
        exact Behind.plain X h3 h2 hr' hH hF hn fun target hr => XS.istoreN X.here hx rfl (g := mkF m pc ls _) hd rfl h1 hr
    · cases h
  case istore n =>
    simp only [step] at h
    obtain rfl := hlen.resolve_left (by simp [ilen])
    split at h
    · rename_i x r
      cases hl : lput L n (.int x) with
      | none => simp [hl] at h
      | some L2 =>
        simp only [hl, Option.some.injEq, Prod.mk.injEq] at h; obtain ⟨rfl, rfl, rfl, rfl⟩ := h
        obtain ⟨_, _, rfl, rfl, hr'⟩ := hS
        obtain ⟨l', h1, h2, h3⟩ := hL.put (w := .int x) hl rfl rfl
        exact Behind.plain X h3 h2 hr' hH hF hn fun target hr => XS.istore X.here hx rfl (g := mkF m pc ls _) hd rfl h1 hr
    · cases h
  case lstore_n n =>
    simp only [step] at h
    obtain rfl := hlen.resolve_left (by simp [ilen])
    split at h
    · rename_i x r
      cases hl : lputL L n.val x with
      | none => simp [hl] at h
      | some L2 =>
        simp only [hl, Option.some.injEq, Prod.mk.injEq] at h; obtain ⟨rfl, rfl, rfl, rfl⟩ := h
        obtain ⟨_, _, rfl, rfl, hr'⟩ := hS
        obtain ⟨l', h1, h2, h3⟩ := hL.putL hl
        exact Behind.plain X h3 h2 hr' hH hF hn fun target hr => XS.lstoreN X.here hx rfl (g := mkF m pc ls _) hd rfl h1 hr
    · cases h
  case lstore n =>
    simp only [step] at h
    obtain rfl := hlen.resolve_left (by simp [ilen])
    split at h
    · rename_i x r
      cases hl : lputL L n x with
      | none => simp [hl] at h
      | some L2 =>
        simp only [hl, Option.some.injEq, Prod.mk.injEq] at h; obtain ⟨rfl, rfl, rfl, rfl⟩ := h
        obtain ⟨_, _, rfl, rfl, hr'⟩ := hS
        obtain ⟨l', h1, h2, h3⟩ := hL.putL hl
        exact Behind.plain X h3 h2 hr' hH hF hn fun target hr => XS.lstore X.here hx rfl (g := mkF m pc ls _) hd rfl h1 hr
    · cases h
  case astore_n n =>
    simp only [step] at h
    obtain rfl := hlen.resolve_left (by simp [ilen])
    split at h
    · rename_i x r
      cases hl : lput L n.val (.ref x) with
      | none => simp [hl] at h
      | some L2 =>
        simp only [hl, Option.some.injEq, Prod.mk.injEq] at h; obtain ⟨rfl, rfl, rfl, rfl⟩ := h
        obtain ⟨_, _, rfl, ⟨a, ha, rfl⟩, hr'⟩ := hS
        obtain ⟨l', h1, h2, h3⟩ := hL.put (w := .ref a) hl ⟨a, ha, rfl⟩ rfl
        exact Behind.plain X h3 h2 hr' hH hF hn fun target hr => XS.astoreN X.here hx rfl (g := mkF m pc ls _) hd rfl rfl h1 hr
    · cases h
  case astore n =>
    simp only [step] at h
    obtain rfl := hlen.resolve_left (by simp [ilen])
    split at h
    · rename_i x r
      cases hl : lput L n (.ref x) with
      | none => simp [hl] at h
      | some L2 =>
        simp only [hl, Option.some.injEq, Prod.mk.injEq] at h; obtain ⟨rfl, rfl, rfl, rfl⟩ := h
        obtain ⟨_, _, rfl, ⟨a, ha, rfl⟩, hr'⟩ := hS
        obtain ⟨l', h1, h2, h3⟩ := hL.put (w := .ref a) hl ⟨a, ha, rfl⟩ rfl
        exact Behind.plain X h3 h2 hr' hH hF hn fun target hr => XS.astore X.here hx rfl (g := mkF m pc ls _) hd rfl rfl h1 hr
    · cases h
  case iinc n cst =>
    simp only [step] at h
    obtain rfl := hlen.resolve_left (by simp [ilen])
    cases hl : loadI L n with
    | none => simp [hl] at h
    | some x =>
      cases hp : lput L n (.int (x + Int32.ofInt cst)) with
      | none => simp [hl, hp] at h
      | some L2 =>
        simp only [hl, hp, Option.some.injEq, Prod.mk.injEq] at h; obtain ⟨rfl, rfl, rfl, rfl⟩ := h
        obtain ⟨l', h1, h2, h3⟩ := hL.put (w := .int (x + Int32.ofInt cst)) hp rfl rfl
        exact Behind.plain X h3 h2 hS hH hF hn fun target hr => XS.iinc X.here hx rfl (g := mkF m pc ls st) hd (hL.int hl) h1 hr
  case iconst q =>
    simp only [step] at h
    obtain rfl := hlen.resolve_left (by simp [ilen])
    simp only [Option.some.injEq, Prod.mk.injEq] at h; obtain ⟨rfl, rfl, rfl, rfl⟩ := h
    exact Behind.plain X hL rfl ⟨_, _, rfl, rfl, hS⟩ hH hF hn fun target hr => XS.iconst X.here hx rfl (g := mkF m pc ls st) hd hr
  case bipush q =>
    simp only [step] at h
    obtain rfl := hlen.resolve_left (by simp [ilen])
    simp only [Option.some.injEq, Prod.mk.injEq] at h; obtain ⟨rfl, rfl, rfl, rfl⟩ := h
    exact Behind.plain X hL rfl ⟨_, _, rfl, rfl, hS⟩ hH hF hn fun target hr => XS.bipush X.here hx rfl (g := mkF m pc ls st) hd hr
  case sipush q =>
    simp only [step] at h
    obtain rfl := hlen.resolve_left (by simp [ilen])
    simp only [Option.some.injEq, Prod.mk.injEq] at h; obtain ⟨rfl, rfl, rfl, rfl⟩ := h
    exact Behind.plain X hL rfl ⟨_, _, rfl, rfl, hS⟩ hH hF hn fun target hr => XS.sipush X.here hx rfl (g := mkF m pc ls st) hd hr
  case lconst q =>
    simp only [step] at h
    obtain rfl := hlen.resolve_left (by simp [ilen])
    simp only [Option.some.injEq, Prod.mk.injEq] at h; obtain ⟨rfl, rfl, rfl, rfl⟩ := h
    exact Behind.plain X hL rfl ⟨_, _, rfl, rfl, hS⟩ hH hF hn fun target hr => XS.lconst X.here hx rfl (g := mkF m pc ls st) hd hr
  case ldc j =>
    simp only [step] at h
    obtain rfl := hlen.resolve_left (by simp [ilen])
    split at h
    · rename_i x hk
      simp only [Option.some.injEq, Prod.mk.injEq] at h; obtain ⟨rfl, rfl, rfl, rfl⟩ := h
      have w := G5 _ _ _ hk
      exact Behind.plain X hL rfl ⟨_, _, rfl, rfl, hS⟩ hH hF hn fun target hr => X.ldcInt hx hown (mvT hZ w) (g := mkF m pc ls st) rfl hd _ hr
    · cases h
  case ldc2_w j =>
    simp only [step] at h
    obtain rfl := hlen.resolve_left (by simp [ilen])
    split at h
    · rename_i x hk
      simp only [Option.some.injEq, Prod.mk.injEq] at h; obtain ⟨rfl, rfl, rfl, rfl⟩ := h
      have w := G5 _ _ _ hk
      exact Behind.plain X hL rfl ⟨_, _, rfl, rfl, hS⟩ hH hF hn fun target hr => X.ldc2Long hx hown (mvT hZ w) (g := mkF m pc ls st) rfl hd _ hr
    · cases h
  case idiv =>
    simp only [step] at h
    obtain rfl := hlen.resolve_left (by simp [ilen])
    split at h
    · rename_i y x r
      by_cases hy : y = 0
      · simp [hy] at h
      · simp only [hy, decide_false, cond_false, Option.some.injEq, Prod.mk.injEq] at h; obtain ⟨rfl, rfl, rfl, rfl⟩ := h
        obtain ⟨_, _, rfl, rfl, _, _, rfl, rfl, hr'⟩ := hS
        exact Behind.plain X hL rfl ⟨_, _, rfl, rfl, hr'⟩ hH hF hn fun target hr => XS.idiv X.here hx rfl (g := mkF m pc ls _) hd rfl hy hr
    · cases h
  case irem =>
    simp only [step] at h
    obtain rfl := hlen.resolve_left (by simp [ilen])
    split at h
    · rename_i y x r
      by_cases hy : y = 0
      · simp [hy] at h
      · simp only [hy, decide_false, cond_false, Option.some.injEq, Prod.mk.injEq] at h; obtain ⟨rfl, rfl, rfl, rfl⟩ := h
        obtain ⟨_, _, rfl, rfl, _, _, rfl, rfl, hr'⟩ := hS
        exact Behind.plain X hL rfl ⟨_, _, rfl, rfl, hr'⟩ hH hF hn fun target hr => iremM X hx rfl (g := mkF m pc ls _) hd rfl hy hr
    · cases h
  case lshl =>
    simp only [step] at h
    obtain rfl := hlen.resolve_left (by simp [ilen])
    split at h
    · rename_i y x r
      simp only [Option.some.injEq, Prod.mk.injEq] at h; obtain ⟨rfl, rfl, rfl, rfl⟩ := h
      obtain ⟨_, _, rfl, rfl, _, _, rfl, rfl, hr'⟩ := hS
      exact Behind.plain X hL rfl ⟨_, _, rfl, rfl, hr'⟩ hH hF hn fun target hr => XS.lshl X.here hx rfl (g := mkF m pc ls _) hd rfl hr
    · cases h
  case lushr =>
    simp only [step] at h
    obtain rfl := hlen.resolve_left (by simp [ilen])
    split at h
    · rename_i y x r
      simp only [Option.some.injEq, Prod.mk.injEq] at h; obtain ⟨rfl, rfl, rfl, rfl⟩ := h
      obtain ⟨_, _, rfl, rfl, _, _, rfl, rfl, hr'⟩ := hS
      exact Behind.plain X hL rfl ⟨_, _, rfl, rfl, hr'⟩ hH hF hn fun target hr => XS.lushr X.here hx rfl (g := mkF m pc ls _) hd rfl hr
    · cases h
  case lcmp =>
    simp only [step] at h
    obtain rfl := hlen.resolve_left (by simp [ilen])
    split at h
    · rename_i y x r
      simp only [Option.some.injEq, Prod.mk.injEq] at h; obtain ⟨rfl, rfl, rfl, rfl⟩ := h
      obtain ⟨_, _, rfl, rfl, _, _, rfl, rfl, hr'⟩ := hS
      exact Behind.plain X hL rfl ⟨_, _, rfl, rfl, hr'⟩ hH hF hn fun target hr => XS.lcmp X.here hx rfl (g := mkF m pc ls _) hd rfl hr
    · cases h
  case lneg =>
    simp only [step] at h
    obtain rfl := hlen.resolve_left (by simp [ilen])
    split at h
    · rename_i x r
      simp only [Option.some.injEq, Prod.mk.injEq] at h; obtain ⟨rfl, rfl, rfl, rfl⟩ := h
      obtain ⟨_, _, rfl, rfl, hr'⟩ := hS
      exact Behind.plain X hL rfl ⟨_, _, rfl, rfl, hr'⟩ hH hF hn fun target hr => XS.lneg X.here hx rfl (g := mkF m pc ls _) hd rfl hr
    · cases h
  case i2l =>
    simp only [step] at h
    obtain rfl := hlen.resolve_left (by simp [ilen])
    split at h
    · rename_i x r
      simp only [Option.some.injEq, Prod.mk.injEq] at h; obtain ⟨rfl, rfl, rfl, rfl⟩ := h
      obtain ⟨_, _, rfl, rfl, hr'⟩ := hS
      exact Behind.plain X hL rfl ⟨_, _, rfl, rfl, hr'⟩ hH hF hn fun target hr => XS.i2l X.here hx rfl (g := mkF m pc ls _) hd rfl hr
    · cases h
  case l2i =>
    simp only [step] at h
    obtain rfl := hlen.resolve_left (by simp [ilen])
    split at h
    · rename_i x r
      simp only [Option.some.injEq, Prod.mk.injEq] at h; obtain ⟨rfl, rfl, rfl, rfl⟩ := h
      obtain ⟨_, _, rfl, rfl, hr'⟩ := hS
      exact Behind.plain X hL rfl ⟨_, _, rfl, rfl, hr'⟩ hH hF hn fun target hr => XS.l2i X.here hx rfl (g := mkF m pc ls _) hd rfl hr
    · cases h
  case i2b =>
    simp only [step] at h
    obtain rfl := hlen.resolve_left (by simp [ilen])
    split at h
    · rename_i x r
      simp only [Option.some.injEq, Prod.mk.injEq] at h; obtain ⟨rfl, rfl, rfl, rfl⟩ := h
      obtain ⟨_, _, rfl, rfl, hr'⟩ := hS
      exact Behind.plain X hL rfl ⟨_, _, rfl, rfl, hr'⟩ hH hF hn fun target hr => XS.i2b X.here hx rfl (g := mkF m pc ls _) hd rfl hr
    · cases h
  case dup =>
    simp only [step] at h
    obtain rfl := hlen.resolve_left (by simp [ilen])
    split at h
    · rename_i x r
      simp only [Option.some.injEq, Prod.mk.injEq] at h; obtain ⟨rfl, rfl, rfl, rfl⟩ := h
      obtain ⟨_, _, rfl, ⟨a, ha, rfl⟩, hr'⟩ := hS
      exact Behind.plain X hL rfl ⟨_, _, rfl, ⟨a, ha, rfl⟩, _, _, rfl, ⟨a, ha, rfl⟩, hr'⟩ hH hF hn fun target hr => XS.dup X.here hx rfl (g := mkF m pc ls _) hd rfl rfl hr
    · rename_i x r
      simp only [Option.some.injEq, Prod.mk.injEq] at h; obtain ⟨rfl, rfl, rfl, rfl⟩ := h
      obtain ⟨_, _, rfl, rfl, hr'⟩ := hS
      exact Behind.plain X hL rfl ⟨_, _, rfl, rfl, _, _, rfl, rfl, hr'⟩ hH hF hn fun target hr => XS.dup X.here hx rfl (g := mkF m pc ls _) hd rfl rfl hr
    · cases h
  case dup2 =>
    simp only [step] at h
    obtain rfl := hlen.resolve_left (by simp [ilen])
    split at h
    · rename_i x y r
      simp only [Option.some.injEq, Prod.mk.injEq] at h; obtain ⟨rfl, rfl, rfl, rfl⟩ := h
      obtain ⟨_, _, rfl, rfl, _, _, rfl, ⟨a, ha, rfl⟩, hr'⟩ := hS
      exact Behind.plain X hL rfl ⟨_, _, rfl, rfl, _, _, rfl, ⟨a, ha, rfl⟩, _, _, rfl, rfl, _, _, rfl, ⟨a, ha, rfl⟩, hr'⟩ hH hF hn fun target hr => XT.dup2 X.here hx rfl (g := mkF m pc ls _) hd rfl rfl rfl hr
    · cases h
  case pop =>
    simp only [step] at h
    obtain rfl := hlen.resolve_left (by simp [ilen])
    split at h
    · rename_i x r
      simp only [Option.some.injEq, Prod.mk.injEq] at h; obtain ⟨rfl, rfl, rfl, rfl⟩ := h
      obtain ⟨_, _, rfl, rfl, hr'⟩ := hS
      exact Behind.plain X hL rfl hr' hH hF hn fun target hr => XS.pop X.here hx rfl (g := mkF m pc ls _) hd rfl rfl hr
    · rename_i x r
      simp only [Option.some.injEq, Prod.mk.injEq] at h; obtain ⟨rfl, rfl, rfl, rfl⟩ := h
      obtain ⟨_, _, rfl, ⟨a, ha, rfl⟩, hr'⟩ := hS
      exact Behind.plain X hL rfl hr' hH hF hn fun target hr => XS.pop X.here hx rfl (g := mkF m pc ls _) hd rfl rfl hr
    · cases h
  case goto o =>
    simp only [step] at h
    obtain rfl := hlen.resolve_left (by simp [ilen])
    cases ht : tgt pc o with
    | none => simp [ht] at h
    | some t =>
      simp only [ht, Option.some.injEq, Prod.mk.injEq] at h; obtain ⟨rfl, rfl, rfl, rfl⟩ := h
      exact Behind.plain X hL rfl hS hH hF hn fun target hr => XS.goto X.here hx rfl (g := mkF m pc ls st) (pc0 := pc) rfl hd (tgt_spec ht).1 (tgt_spec ht).2 hr
  case ifCond cd o =>
    simp only [step] at h
    obtain rfl := hlen.resolve_left (by simp [ilen])
    split at h
    · rename_i x r
      obtain ⟨_, _, rfl, rfl, hr'⟩ := hS
      cases hc : if_icmp.holds cd x 0
      · simp only [hc, cond_false, Option.some.injEq, Prod.mk.injEq] at h; obtain ⟨rfl, rfl, rfl, rfl⟩ := h
        exact Behind.plain X hL rfl hr' hH hF hn fun target hr => XS.ifNo X.here hx rfl (g := mkF m pc ls _) hd rfl ((if0 _ _).trans hc) hr
      · cases ht : tgt pc o with
        | none => simp [hc, ht] at h
        | some t =>
          simp only [hc, ht, cond_true, Option.some.injEq, Prod.mk.injEq] at h; obtain ⟨rfl, rfl, rfl, rfl⟩ := h
          exact Behind.plain X hL rfl hr' hH hF hn fun target hr => XS.ifYes X.here hx rfl (g := mkF m pc ls _) (pc0 := pc) rfl hd rfl ((if0 _ _).trans hc) (tgt_spec ht).1 (tgt_spec ht).2 hr
    · cases h
  case if_icmp cd o =>
    simp only [step] at h
    obtain rfl := hlen.resolve_left (by simp [ilen])
    split at h
    · rename_i y x r
      obtain ⟨_, _, rfl, rfl, _, _, rfl, rfl, hr'⟩ := hS
      cases hc : if_icmp.holds cd x y
      · simp only [hc, cond_false, Option.some.injEq, Prod.mk.injEq] at h; obtain ⟨rfl, rfl, rfl, rfl⟩ := h
        exact Behind.plain X hL rfl hr' hH hF hn fun target hr => XS.icmpNo X.here hx rfl (g := mkF m pc ls _) hd rfl hc hr
      · cases ht : tgt pc o with
        | none => simp [hc, ht] at h
        | some t =>
          simp only [hc, ht, cond_true, Option.some.injEq, Prod.mk.injEq] at h; obtain ⟨rfl, rfl, rfl, rfl⟩ := h
          exact Behind.plain X hL rfl hr' hH hF hn fun target hr => XS.icmpYes X.here hx rfl (g := mkF m pc ls _) (pc0 := pc) rfl hd rfl hc (tgt_spec ht).1 (tgt_spec ht).2 hr
    · cases h
  case tableswitch d lo hi offs =>
    simp only [step] at h
    split at h
    · rename_i x r
      obtain ⟨_, _, rfl, rfl, hr'⟩ := hS
      by_cases ho : x.toInt < lo ∨ x.toInt > hi
      · have ho' : (decide (x.toInt < lo) || decide (x.toInt > hi)) = true := by simpa using ho
        cases ht : tgt pc d with
        | none => simp [ho', ht] at h
        | some t =>
          simp only [ho', ht, cond_true, Option.some.injEq, Prod.mk.injEq] at h; obtain ⟨rfl, rfl, rfl, rfl⟩ := h
          exact Behind.plain X hL rfl hr' hH hF hn fun target hr => XS.tswOut X.here hx rfl (g := mkF m pc ls _) (pc0 := pc) rfl hd rfl ho (tgt_spec ht).1 (tgt_spec ht).2 hr
      · have ho' : (decide (x.toInt < lo) || decide (x.toInt > hi)) = false := by simpa using ho
        cases hq : offs.toList[(x.toInt - lo).toNat]? with
        | none => simp [ho', hq] at h
        | some o =>
          cases ht : tgt pc o with
          | none => simp [ho', hq, ht] at h
          | some t =>
            simp only [ho', hq, ht, cond_false, Option.some.injEq, Prod.mk.injEq] at h; obtain ⟨rfl, rfl, rfl, rfl⟩ := h
            exact Behind.plain X hL rfl hr' hH hF hn fun target hr => XS.tswIn X.here hx rfl (g := mkF m pc ls _) (pc0 := pc) rfl hd rfl ho (by rw [← Array.getElem?_toList]; exact hq) (tgt_spec ht).1 (tgt_spec ht).2 hr
    · cases h
  case getfield j =>
    simp only [step] at h
    obtain rfl := hlen.resolve_left (by simp [ilen])
    split at h
    · rename_i a r
      obtain ⟨_, _, rfl, ⟨b, hb, rfl⟩, hr'⟩ := hS
      cases hf : P.fld (P.cls k) j with
      | none => simp [hf] at h
      | some f =>
        cases hg : getC H a f with
        | none => simp [hf, hg] at h
        | some v =>
          simp only [hf, hg, Option.some.injEq, Prod.mk.injEq] at h; obtain ⟨rfl, rfl, rfl, rfl⟩ := h
          obtain ⟨n, d, t, fin, g1, g2⟩ := G2 _ _ _ hf
          unfold getC at hg
          split at hg
          · rename_i fs hfs
            obtain ⟨b', e1, e2, e3, e4⟩ := hH.2.2.2 _ _ hfs
            cases hb.symm.trans e1
            obtain ⟨w, e5, e6⟩ := e4 _ _ _ _ _ _ hg g1
            obtain ⟨T2, X2, e7, s2⟩ := getF X hx hZ hown (host := "") (Or.inl g2) Via.refl rfl e6 (g := mkF m pc ls _) rfl rfl hd
            exact Behind.plain' X2 e7 hL rfl ⟨w, _, rfl, e5, hr'⟩ hH hF hn s2
          · cases hg
    · cases h
  case putfield j =>
    simp only [step] at h
    obtain rfl := hlen.resolve_left (by simp [ilen])
    split at h
    · rename_i v a r
      obtain ⟨w0, _, rfl, hv0, _, _, rfl, ⟨b, hb, rfl⟩, hr'⟩ := hS
      cases hf : P.fld (P.cls k) j with
      | none => simp [hf] at h
      | some f =>
        obtain ⟨n, d, t, fin, g1, g2⟩ := G2 _ _ _ hf
        simp only [hf, g1] at h
        cases hq : (!fin || P.ini k) && Nat.ble P.ro a
        · simp [hq] at h
        · simp only [hq, cond_true] at h
          cases hv : conv t v with
          | none => simp [hv] at h
          | some v' =>
            simp only [hv] at h
            split at h
            · rename_i fs hfs
              cases hz : Nat.ble (f + 1) fs.length
              · simp [hz] at h
              · simp only [hz, cond_true, Option.some.injEq, Prod.mk.injEq] at h; obtain ⟨rfl, rfl, rfl, rfl⟩ := h
                obtain ⟨b', e1, e2, e3, e4⟩ := hH.2.2.2 _ _ hfs
                cases hb.symm.trans e1
                simp only [Bool.and_eq_true, Bool.or_eq_true, Bool.not_eq_true'] at hq
                have hro : P.ro ≤ a := Nat.le_of_ble_eq_true hq.2
                have hfl : f < fs.length := Nat.le_of_ble_eq_true hz
                obtain ⟨l1, ty, l2, l3, l4⟩ := G3 _ _ _ _ _ g1
                obtain ⟨w, hw, hnw, hfw⟩ : ∃ w, VR am v' w ∧ narrow ty w0 = w ∧ fits ty w = true := by
                  unfold conv at hv
                  split at hv
                  · cases hv; cases hv0; cases ty <;> simp only [tyOk, Bool.false_eq_true] at l3; exact ⟨_, rfl, rfl, rfl⟩
                  · cases hv; cases hv0; cases ty <;> simp only [tyOk, Bool.false_eq_true] at l3; exact ⟨_, rfl, rfl, fits_nar_bool _⟩
                  · cases hv; cases hv0; cases ty <;> simp only [tyOk, Bool.false_eq_true] at l3; exact ⟨_, rfl, rfl, rfl⟩
                  · cases hv; obtain ⟨z, hz1, rfl⟩ := hv0; cases ty <;> simp only [tyOk, Bool.false_eq_true] at l3; exact ⟨_, ⟨z, hz1, rfl⟩, rfl, rfl⟩
                  · cases hv
                obtain ⟨old, o1, o2⟩ := e4 f _ _ _ _ _ (List.getElem?_eq_getElem hfl) g1
                have hfin : (Cond.lays C C n d).before a0 Z = true ∨ ((Cond.laysFinal C C n d).before a0 Z = true ∧ cn (P.cls k) = C ∧ meth.name = "<init>") := by
                  cases fin
                  · exact Or.inl l1
                  · obtain ⟨q1, q2⟩ := hini (by simpa using hq.1); exact Or.inr ⟨l1, q2, q1⟩
                obtain ⟨T2, h2, X2, e7, W2, s2⟩ := putFN X hx hZ hown g2 Via.refl rfl o2 e2 hfin G6 l2 hnw hfw (g := mkF m pc ls _) rfl rfl hd
                refine Behind.write (T' := T2) X2 e7 W2 hL hr' hH hb hro hfs rfl ?_ hF hn s2
                refine ⟨e2.wr W2, by rw [List.length_set]; exact e3, fun j' u n' d' t' f' q1 q2 => ?_⟩
                rw [List.getElem?_set] at q1
                by_cases ej : f = j'
                · subst ej
                  rw [if_pos rfl, if_pos hfl] at q1
                  cases q1
                  rw [g1] at q2; cases q2
                  exact ⟨w, hw, o2.same W2⟩
                · rw [if_neg ej] at q1
                  obtain ⟨w', y1, y2⟩ := e4 _ _ _ _ _ _ q1 q2
                  obtain ⟨l1', ty', l2', -, -⟩ := G3 _ _ _ _ _ q2
                  have hl1 : Laid Z a0 C C n d := by cases fin; exact Or.inl l1; exact Or.inr l1
                  have hl2 : Laid Z a0 C C n' d' := by cases f'; exact Or.inl l1'; exact Or.inr l1'
                  exact ⟨w', y1, y2.other W2 (Or.inr (slot_ne hl2 hl1 (G4 _ _ _ _ _ _ _ _ _ _ q2 g1 (Ne.symm ej)) l2' l2))⟩
            · cases h
    · cases h
  case iaload =>
    simp only [step] at h
    obtain rfl := hlen.resolve_left (by simp [ilen])
    split at h
    · rename_i j a r
      obtain ⟨_, _, rfl, rfl, _, _, rfl, ⟨b, hb, rfl⟩, hr'⟩ := hS
      split at h
      · rename_i xs hxs
        cases hj : inb xs.length j
        · simp [hj] at h
        · simp only [hj, cond_true, Option.some.injEq, Prod.mk.injEq] at h; obtain ⟨rfl, rfl, rfl, rfl⟩ := h
          obtain ⟨b', e1, cl, A1, A2, A3⟩ := hH.2.2.2 _ _ hxs
          cases hb.symm.trans e1
          have hin := inb_spec hj
          rw [← A2] at hin
          exact Behind.plain X hL rfl ⟨_, _, rfl, rfl, hr'⟩ hH hF hn fun target hr => X.iaload hx A1.1 (State.isArrayOf_alike hZ.alike A1.2.1) A1.2.2 hin (A3 _ _ (rd_at hj)) (g := mkF m pc ls _) rfl rfl hd _ hr
      · rename_i xs hxs
        cases hj : inb xs.length j
        · simp [hj] at h
        · simp only [hj, cond_true, Option.some.injEq, Prod.mk.injEq] at h; obtain ⟨rfl, rfl, rfl, rfl⟩ := h
          obtain ⟨b', e1, cl, A1, A2, A3⟩ := hH.2.2.2 _ _ hxs
          cases hb.symm.trans e1
          have hin := inb_spec hj
          rw [← A2] at hin
          exact Behind.plain X hL rfl ⟨_, _, rfl, rfl, hr'⟩ hH hF hn fun target hr => X.iaload hx A1.1 (State.isArrayOf_alike hZ.alike A1.2.1) A1.2.2 hin (A3 _ _ (rd_at hj)) (g := mkF m pc ls _) rfl rfl hd _ hr
      · cases h
    · cases h
  case baload =>
    simp only [step] at h
    obtain rfl := hlen.resolve_left (by simp [ilen])
    split at h
    · rename_i j a r
      obtain ⟨_, _, rfl, rfl, _, _, rfl, ⟨b, hb, rfl⟩, hr'⟩ := hS
      split at h
      · rename_i xs hxs
        cases hj : inb xs.length j
        · simp [hj] at h
        · simp only [hj, cond_true, Option.some.injEq, Prod.mk.injEq] at h; obtain ⟨rfl, rfl, rfl, rfl⟩ := h
          obtain ⟨b', e1, cl, A1, A2, A3⟩ := hH.2.2.2 _ _ hxs
          cases hb.symm.trans e1
          have hin := inb_spec hj
          rw [← A2] at hin
          exact Behind.plain X hL rfl ⟨_, _, rfl, rfl, hr'⟩ hH hF hn fun target hr => X.baloadBooleans hx A1.1 (State.isArrayOf_alike hZ.alike A1.2.1) A1.2.2 hin (A3 _ _ (rd_at hj)) (g := mkF m pc ls _) rfl rfl hd _ hr
      · rename_i xs hxs
        cases hj : inb xs.length j
        · simp [hj] at h
        · simp only [hj, cond_true, Option.some.injEq, Prod.mk.injEq] at h; obtain ⟨rfl, rfl, rfl, rfl⟩ := h
          obtain ⟨b', e1, cl, A1, A2, A3⟩ := hH.2.2.2 _ _ hxs
          cases hb.symm.trans e1
          have hin := inb_spec hj
          rw [← A2] at hin
          exact Behind.plain X hL rfl ⟨_, _, rfl, rfl, hr'⟩ hH hF hn fun target hr => X.baloadBytes hx A1.1 (State.isArrayOf_alike hZ.alike A1.2.1) A1.2.2 hin (A3 _ _ (rd_at hj)) (g := mkF m pc ls _) rfl rfl hd _ hr
      · cases h
    · cases h
  case laload =>
    simp only [step] at h
    obtain rfl := hlen.resolve_left (by simp [ilen])
    split at h
    · rename_i j a r
      obtain ⟨_, _, rfl, rfl, _, _, rfl, ⟨b, hb, rfl⟩, hr'⟩ := hS
      split at h
      · rename_i xs hxs
        cases hj : inb xs.length j
        · simp [hj] at h
        · simp only [hj, cond_true, Option.some.injEq, Prod.mk.injEq] at h; obtain ⟨rfl, rfl, rfl, rfl⟩ := h
          obtain ⟨b', e1, cl, A1, A2, A3⟩ := hH.2.2.2 _ _ hxs
          cases hb.symm.trans e1
          have hin := inb_spec hj
          rw [← A2] at hin
          exact Behind.plain X hL rfl ⟨_, _, rfl, rfl, hr'⟩ hH hF hn fun target hr => X.laload hx A1.1 (State.isArrayOf_alike hZ.alike A1.2.1) A1.2.2 hin (A3 _ _ (rdL_at hj)) (g := mkF m pc ls _) rfl rfl hd _ hr
      · cases h
    · cases h
  case iastore =>
    simp only [step] at h
    obtain rfl := hlen.resolve_left (by simp [ilen])
    split at h
    · rename_i x j a r
      obtain ⟨_, _, rfl, rfl, _, _, rfl, rfl, _, _, rfl, ⟨b, hb, rfl⟩, hr'⟩ := hS
      cases hq : Nat.ble P.ro a
      · simp [hq] at h
      · simp only [hq, cond_true] at h
        have hro : P.ro ≤ a := Nat.le_of_ble_eq_true hq
        split at h
        · rename_i xs hxs
          cases hj : inb xs.length j
          · simp [hj] at h
          · simp only [hj, cond_true, Option.some.injEq, Prod.mk.injEq] at h; obtain ⟨rfl, rfl, rfl, rfl⟩ := h
            obtain ⟨b', e1, hcr⟩ := hH.2.2.2 _ _ hxs
            cases hb.symm.trans e1
            have hcr0 := hcr
            obtain ⟨cl, A1, A2, A3⟩ := hcr0
            have hin := inb_spec hj
            rw [← A2] at hin
            obtain ⟨T2, h2, X2, e7, W2, s2⟩ := stI X hx hZ rfl A1 hin (g := mkF m pc ls _) rfl rfl hd
            exact Behind.write (T' := T2) X2 e7 W2 hL hr' hH hb hro hxs (by simp [csz, wr, wrL]) (CR.wrI W2 hcr) hF hn s2
        · cases h
    · cases h
  case bastore =>
    simp only [step] at h
    obtain rfl := hlen.resolve_left (by simp [ilen])
    split at h
    · rename_i x j a r
      obtain ⟨_, _, rfl, rfl, _, _, rfl, rfl, _, _, rfl, ⟨b, hb, rfl⟩, hr'⟩ := hS
      cases hq : Nat.ble P.ro a
      · simp [hq] at h
      · simp only [hq, cond_true] at h
        have hro : P.ro ≤ a := Nat.le_of_ble_eq_true hq
        split at h
        · rename_i xs hxs
          cases hj : inb xs.length j
          · simp [hj] at h
          · simp only [hj, cond_true, Option.some.injEq, Prod.mk.injEq] at h; obtain ⟨rfl, rfl, rfl, rfl⟩ := h
            obtain ⟨b', e1, hcr⟩ := hH.2.2.2 _ _ hxs
            cases hb.symm.trans e1
            have hcr0 := hcr
            obtain ⟨cl, A1, A2, A3⟩ := hcr0
            have hin := inb_spec hj
            rw [← A2] at hin
            obtain ⟨T2, h2, X2, e7, W2, s2⟩ := stZ X hx hZ rfl A1 hin (g := mkF m pc ls _) rfl rfl hd
            exact Behind.write (T' := T2) X2 e7 W2 hL hr' hH hb hro hxs (by simp [csz, wr, wrL]) (CR.wrI W2 hcr) hF hn s2
        · rename_i xs hxs
          cases hj : inb xs.length j
          · simp [hj] at h
          · simp only [hj, cond_true, Option.some.injEq, Prod.mk.injEq] at h; obtain ⟨rfl, rfl, rfl, rfl⟩ := h
            obtain ⟨b', e1, hcr⟩ := hH.2.2.2 _ _ hxs
            cases hb.symm.trans e1
            have hcr0 := hcr
            obtain ⟨cl, A1, A2, A3⟩ := hcr0
            have hin := inb_spec hj
            rw [← A2] at hin
            obtain ⟨T2, h2, X2, e7, W2, s2⟩ := stB X hx hZ rfl A1 hin (g := mkF m pc ls _) rfl rfl hd
            exact Behind.write (T' := T2) X2 e7 W2 hL hr' hH hb hro hxs (by simp [csz, wr, wrL]) (CR.wrI W2 hcr) hF hn s2
        · cases h
    · cases h
  case lastore =>
    simp only [step] at h
    obtain rfl := hlen.resolve_left (by simp [ilen])
    split at h
    · rename_i x j a r
      obtain ⟨_, _, rfl, rfl, _, _, rfl, rfl, _, _, rfl, ⟨b, hb, rfl⟩, hr'⟩ := hS
      cases hq : Nat.ble P.ro a
      · simp [hq] at h
      · simp only [hq, cond_true] at h
        have hro : P.ro ≤ a := Nat.le_of_ble_eq_true hq
        split at h
        · rename_i xs hxs
          cases hj : inb xs.length j
          · simp [hj] at h
          · simp only [hj, cond_true, Option.some.injEq, Prod.mk.injEq] at h; obtain ⟨rfl, rfl, rfl, rfl⟩ := h
            obtain ⟨b', e1, hcr⟩ := hH.2.2.2 _ _ hxs
            cases hb.symm.trans e1
            have hcr0 := hcr
            obtain ⟨cl, A1, A2, A3⟩ := hcr0
            have hin := inb_spec hj
            rw [← A2] at hin
            obtain ⟨T2, h2, X2, e7, W2, s2⟩ := stJ X hx hZ rfl A1 hin (g := mkF m pc ls _) rfl rfl hd
            exact Behind.write (T' := T2) X2 e7 W2 hL hr' hH hb hro hxs (by simp [csz, wr, wrL]) (CR.wrJ W2 hcr) hF hn s2
        · cases h
    · cases h
  case arraylength =>
    simp only [step] at h
    obtain rfl := hlen.resolve_left (by simp [ilen])
    split at h
    · rename_i a r
      obtain ⟨_, _, rfl, ⟨b, hb, rfl⟩, hr'⟩ := hS
      split at h
      · rename_i t xs hxs
        simp only [Option.some.injEq, Prod.mk.injEq] at h; obtain ⟨rfl, rfl, rfl, rfl⟩ := h
        obtain ⟨b', e1, cl, A1, A2, A3⟩ := hH.2.2.2 _ _ hxs
        cases hb.symm.trans e1
        exact Behind.plain X hL rfl ⟨_, _, rfl, rfl, hr'⟩ hH hF hn fun target hr => X.arraylength hx A1.1 (State.isArrayOf_alike hZ.alike A1.2.1) (g := mkF m pc ls _) rfl rfl hd _ (by rw [A2]; exact hr)
      · rename_i xs hxs
        simp only [Option.some.injEq, Prod.mk.injEq] at h; obtain ⟨rfl, rfl, rfl, rfl⟩ := h
        obtain ⟨b', e1, cl, A1, A2, A3⟩ := hH.2.2.2 _ _ hxs
        cases hb.symm.trans e1
        exact Behind.plain X hL rfl ⟨_, _, rfl, rfl, hr'⟩ hH hF hn fun target hr => X.arraylength hx A1.1 (State.isArrayOf_alike hZ.alike A1.2.1) (g := mkF m pc ls _) rfl rfl hd _ (by rw [A2]; exact hr)
      · cases h
    · cases h
  case newarray t =>
    simp only [step] at h
    obtain rfl := hlen.resolve_left (by simp [ilen])
    split at h
    · rename_i n r
      obtain ⟨_, _, rfl, rfl, hr'⟩ := hS
      cases ht : atyOf t with
      | none => simp [ht] at h
      | some q =>
        simp only [ht] at h
        cases hq : (!(decide (n < 0)) && Nat.ble n.toNatClampNeg 60000 && Nat.ble (H.length + 1) P.capC && Nat.ble (hsz P H + n.toNatClampNeg) P.capS)
        · simp [hq] at h
        · simp only [hq, cond_true, Option.some.injEq, Prod.mk.injEq] at h; obtain ⟨rfl, rfl, rfl, rfl⟩ := h
          simp only [Bool.and_eq_true, Bool.not_eq_true', decide_eq_false_iff_not] at hq
          have hcap : n.toNatClampNeg ≤ 60000 := Nat.le_of_ble_eq_true hq.1.1.2
          have hq1 := hq.1.1.1
          have d1 : (H ++ [newC q n.toNatClampNeg]).length - H.length = 1 := by simp
          have d2 : hsz P (H ++ [newC q n.toNatClampNeg]) - hsz P H = n.toNatClampNeg := by rw [hsz_app, csz_new _ _ ht]; omega
          rw [d1] at hcells ⊢; rw [d2] at hslots ⊢
          obtain ⟨T2, h2, cA, X2, e7, E2, A2, s2⟩ := newP X hx hZ (G8 _ _ _ _ hcode) rfl (g := mkF m pc ls _) rfl hd rfl hq1 (cap := n.toNatClampNeg) (Nat.le_refl _) (by omega) hcells hslots
          have hlt : T.heap.size < h2.size := A2.lt
          have hm' := hH.1
          refine ⟨T2, am ++ [T.heap.size], ls, _, locs, X2, hL.mono (Pre.app _ _), rfl, ⟨_, _, rfl, ⟨T.heap.size, by rw [← hm']; simp, rfl⟩, hr'.mono (Pre.app _ _)⟩, by rw [e7]; exact hH.push E2 hlt hn (arr_new ht hq1 A2), Pre.app _ _, hF, by rw [e7]; omega, s2⟩
    · cases h
  case new j =>
    simp only [step] at h
    obtain rfl := hlen.resolve_left (by simp [ilen])
    split at h
    · rename_i q hk
      rw [Bool.cond_eq_ite] at h
      split at h
      case isFalse => cases h
      simp only [Option.some.injEq, Prod.mk.injEq] at h; obtain ⟨rfl, rfl, rfl, rfl⟩ := h
      have w := G9 _ _ _ _ hk
      have d1 : (H ++ [Sum.inl P.fresh]).length - H.length = 1 := by simp
      have d2 : hsz P (H ++ [Sum.inl P.fresh]) - hsz P H = P.objN := by rw [hsz_app]; simp [csz]
      rw [d1] at hcells ⊢; rw [d2] at hslots ⊢
      obtain ⟨T2, h2, X2, e7, E2, A2, D2, -, s2⟩ := newO X hx hZ hown w G6 G7 rfl (g := mkF m pc ls st) rfl hd hcells hslots
      have hlt : T.heap.size < h2.size := A2.lt
      have hm' := hH.1
      refine ⟨T2, am ++ [T.heap.size], ls, _, locs, X2, hL.mono (Pre.app _ _), rfl, ⟨_, _, rfl, ⟨T.heap.size, by rw [← hm']; simp, rfl⟩, hS.mono (Pre.app _ _)⟩, ?_, Pre.app _ _, hF, by rw [e7]; omega, s2⟩
      rw [e7]
      refine hH.push E2 hlt hn ⟨A2, by simp [Prog.fresh], fun j' v n d t f q1 q2 => ?_⟩
      obtain ⟨l1, ty, l2, l3, l4⟩ := G3 _ _ _ _ _ q2
      have hl1 : Laid Z a0 C C n d := by cases f; exact Or.inl l1; exact Or.inr l1
      have hv : v = dflt t := by rw [Prog.fresh, List.getElem?_map, q2] at q1; simpa using q1.symm
      subst hv
      refine ⟨defaultValue ty, ?_, D2 hl1 l2⟩
      rw [l4]; unfold dflt; split <;> rfl
    · cases h
  case invokespecial j =>
    simp only [step] at h
    obtain rfl := hlen.resolve_left (by simp [ilen])
    split at h
    · rename_i a r
      obtain ⟨_, _, rfl, ⟨b, hb, rfl⟩, hr'⟩ := hS
      cases hq : isObjInit P k j && Nat.ble 1 (P.rf k) && Nat.ble (cats r + 12) (P.rl k)
      · simp [hq] at h
      · simp only [hq, cond_true, Option.some.injEq, Prod.mk.injEq] at h; obtain ⟨rfl, rfl, rfl, rfl⟩ := h
        simp only [Bool.and_eq_true] at hq
        have h1 : 1 ≤ P.rf k := Nat.le_of_ble_eq_true hq.1.2
        have h2 : cats r + 12 ≤ P.rl k := Nat.le_of_ble_eq_true hq.2
        have h3 := hq.1.1
        unfold isObjInit at h3
        split at h3
        · rename_i kk hk
          obtain ⟨w1, w2, w3⟩ := G9 _ _ _ _ hk
          obtain ⟨T2, X2, e7, s2⟩ := initO X hx hZ hown w1 w2 w3 rfl (g := mkF m pc ls _) rfl (by rw [hml]; exact hlz) rfl hd (by omega) (W := cats r) (by rw [hr'.cats]; show 2 * 0 + _ ≤ _; omega) (by omega)
          exact Behind.plain' X2 e7 hL rfl hr' hH hF hn s2
        · cases h3
    · cases h
  case iadd =>
    simp only [step] at h
    obtain rfl := hlen.resolve_left (by simp [ilen])
    split at h
    · rename_i y x r
      simp only [aop, Option.some.injEq, Prod.mk.injEq] at h; obtain ⟨rfl, rfl, rfl, rfl⟩ := h
      obtain ⟨_, _, rfl, rfl, _, _, rfl, rfl, hr'⟩ := hS
      exact Behind.plain X hL rfl ⟨_, _, rfl, rfl, hr'⟩ hH hF hn fun target hr => XS.iadd X.here hx rfl (g := mkF m pc ls _) hd rfl hr
    · simp [lop] at h
    · cases h
  case isub =>
    simp only [step] at h
    obtain rfl := hlen.resolve_left (by simp [ilen])
    split at h
    · rename_i y x r
      simp only [aop, Option.some.injEq, Prod.mk.injEq] at h; obtain ⟨rfl, rfl, rfl, rfl⟩ := h
      obtain ⟨_, _, rfl, rfl, _, _, rfl, rfl, hr'⟩ := hS
      exact Behind.plain X hL rfl ⟨_, _, rfl, rfl, hr'⟩ hH hF hn fun target hr => XS.isub X.here hx rfl (g := mkF m pc ls _) hd rfl hr
    · simp [lop] at h
    · cases h
  case imul =>
    simp only [step] at h
    obtain rfl := hlen.resolve_left (by simp [ilen])
    split at h
    · rename_i y x r
      simp only [aop, Option.some.injEq, Prod.mk.injEq] at h; obtain ⟨rfl, rfl, rfl, rfl⟩ := h
      obtain ⟨_, _, rfl, rfl, _, _, rfl, rfl, hr'⟩ := hS
      exact Behind.plain X hL rfl ⟨_, _, rfl, rfl, hr'⟩ hH hF hn fun target hr => XS.imul X.here hx rfl (g := mkF m pc ls _) hd rfl hr
    · simp [lop] at h
    · cases h
  case iand =>
    simp only [step] at h
    obtain rfl := hlen.resolve_left (by simp [ilen])
    split at h
    · rename_i y x r
      simp only [aop, Option.some.injEq, Prod.mk.injEq] at h; obtain ⟨rfl, rfl, rfl, rfl⟩ := h
      obtain ⟨_, _, rfl, rfl, _, _, rfl, rfl, hr'⟩ := hS
      exact Behind.plain X hL rfl ⟨_, _, rfl, rfl, hr'⟩ hH hF hn fun target hr => XS.iand X.here hx rfl (g := mkF m pc ls _) hd rfl hr
    · simp [lop] at h
    · cases h
  case ior =>
    simp only [step] at h
    obtain rfl := hlen.resolve_left (by simp [ilen])
    split at h
    · rename_i y x r
      simp only [aop, Option.some.injEq, Prod.mk.injEq] at h; obtain ⟨rfl, rfl, rfl, rfl⟩ := h
      obtain ⟨_, _, rfl, rfl, _, _, rfl, rfl, hr'⟩ := hS
      exact Behind.plain X hL rfl ⟨_, _, rfl, rfl, hr'⟩ hH hF hn fun target hr => XS.ior X.here hx rfl (g := mkF m pc ls _) hd rfl hr
    · simp [lop] at h
    · cases h
  case ixor =>
    simp only [step] at h
    obtain rfl := hlen.resolve_left (by simp [ilen])
    split at h
    · rename_i y x r
      simp only [aop, Option.some.injEq, Prod.mk.injEq] at h; obtain ⟨rfl, rfl, rfl, rfl⟩ := h
      obtain ⟨_, _, rfl, rfl, _, _, rfl, rfl, hr'⟩ := hS
      exact Behind.plain X hL rfl ⟨_, _, rfl, rfl, hr'⟩ hH hF hn fun target hr => XS.ixor X.here hx rfl (g := mkF m pc ls _) hd rfl hr
    · simp [lop] at h
    · cases h
  case ishl =>
    simp only [step] at h
    obtain rfl := hlen.resolve_left (by simp [ilen])
    split at h
    · rename_i y x r
      simp only [aop, Option.some.injEq, Prod.mk.injEq] at h; obtain ⟨rfl, rfl, rfl, rfl⟩ := h
      obtain ⟨_, _, rfl, rfl, _, _, rfl, rfl, hr'⟩ := hS
      exact Behind.plain X hL rfl ⟨_, _, rfl, rfl, hr'⟩ hH hF hn fun target hr => XS.ishl X.here hx rfl (g := mkF m pc ls _) hd rfl hr
    · simp [lop] at h
    · cases h
  case ishr =>
    simp only [step] at h
    obtain rfl := hlen.resolve_left (by simp [ilen])
    split at h
    · rename_i y x r
      simp only [aop, Option.some.injEq, Prod.mk.injEq] at h; obtain ⟨rfl, rfl, rfl, rfl⟩ := h
      obtain ⟨_, _, rfl, rfl, _, _, rfl, rfl, hr'⟩ := hS
      exact Behind.plain X hL rfl ⟨_, _, rfl, rfl, hr'⟩ hH hF hn fun target hr => XS.ishr X.here hx rfl (g := mkF m pc ls _) hd rfl hr
    · simp [lop] at h
    · cases h
  case iushr =>
    simp only [step] at h
    obtain rfl := hlen.resolve_left (by simp [ilen])
    split at h
    · rename_i y x r
      simp only [aop, Option.some.injEq, Prod.mk.injEq] at h; obtain ⟨rfl, rfl, rfl, rfl⟩ := h
      obtain ⟨_, _, rfl, rfl, _, _, rfl, rfl, hr'⟩ := hS
      exact Behind.plain X hL rfl ⟨_, _, rfl, rfl, hr'⟩ hH hF hn fun target hr => XS.iushr X.here hx rfl (g := mkF m pc ls _) hd rfl hr
    · simp [lop] at h
    · cases h
  case ladd =>
    simp only [step] at h
    obtain rfl := hlen.resolve_left (by simp [ilen])
    split at h
    · simp [aop] at h
    · rename_i y x r
      simp only [lop, Option.some.injEq, Prod.mk.injEq] at h; obtain ⟨rfl, rfl, rfl, rfl⟩ := h
      obtain ⟨_, _, rfl, rfl, _, _, rfl, rfl, hr'⟩ := hS
      exact Behind.plain X hL rfl ⟨_, _, rfl, rfl, hr'⟩ hH hF hn fun target hr => XS.ladd X.here hx rfl (g := mkF m pc ls _) hd rfl hr
    · cases h
  case lsub =>
    simp only [step] at h
    obtain rfl := hlen.resolve_left (by simp [ilen])
    split at h
    · simp [aop] at h
    · rename_i y x r
      simp only [lop, Option.some.injEq, Prod.mk.injEq] at h; obtain ⟨rfl, rfl, rfl, rfl⟩ := h
      obtain ⟨_, _, rfl, rfl, _, _, rfl, rfl, hr'⟩ := hS
      exact Behind.plain X hL rfl ⟨_, _, rfl, rfl, hr'⟩ hH hF hn fun target hr => XS.lsub X.here hx rfl (g := mkF m pc ls _) hd rfl hr
    · cases h
  case lmul =>
    simp only [step] at h
    obtain rfl := hlen.resolve_left (by simp [ilen])
    split at h
    · simp [aop] at h
    · rename_i y x r
      simp only [lop, Option.some.injEq, Prod.mk.injEq] at h; obtain ⟨rfl, rfl, rfl, rfl⟩ := h
      obtain ⟨_, _, rfl, rfl, _, _, rfl, rfl, hr'⟩ := hS
      exact Behind.plain X hL rfl ⟨_, _, rfl, rfl, hr'⟩ hH hF hn fun target hr => XS.lmul X.here hx rfl (g := mkF m pc ls _) hd rfl hr
    · cases h
  case land =>
    simp only [step] at h
    obtain rfl := hlen.resolve_left (by simp [ilen])
    split at h
    · simp [aop] at h
    · rename_i y x r
      simp only [lop, Option.some.injEq, Prod.mk.injEq] at h; obtain ⟨rfl, rfl, rfl, rfl⟩ := h
      obtain ⟨_, _, rfl, rfl, _, _, rfl, rfl, hr'⟩ := hS
      exact Behind.plain X hL rfl ⟨_, _, rfl, rfl, hr'⟩ hH hF hn fun target hr => XS.land X.here hx rfl (g := mkF m pc ls _) hd rfl hr
    · cases h
  case lor =>
    simp only [step] at h
    obtain rfl := hlen.resolve_left (by simp [ilen])
    split at h
    · simp [aop] at h
    · rename_i y x r
      simp only [lop, Option.some.injEq, Prod.mk.injEq] at h; obtain ⟨rfl, rfl, rfl, rfl⟩ := h
      obtain ⟨_, _, rfl, rfl, _, _, rfl, rfl, hr'⟩ := hS
      exact Behind.plain X hL rfl ⟨_, _, rfl, rfl, hr'⟩ hH hF hn fun target hr => XS.lor X.here hx rfl (g := mkF m pc ls _) hd rfl hr
    · cases h
  case lxor =>
    simp only [step] at h
    obtain rfl := hlen.resolve_left (by simp [ilen])
    split at h
    · simp [aop] at h
    · rename_i y x r
      simp only [lop, Option.some.injEq, Prod.mk.injEq] at h; obtain ⟨rfl, rfl, rfl, rfl⟩ := h
      obtain ⟨_, _, rfl, rfl, _, _, rfl, rfl, hr'⟩ := hS
      exact Behind.plain X hL rfl ⟨_, _, rfl, rfl, hr'⟩ hH hF hn fun target hr => XS.lxor X.here hx rfl (g := mkF m pc ls _) hd rfl hr
    · cases h
  all_goals (exfalso; simp only [step] at h; split at h <;> simp [aop, lop] at h)
end Sound
end Jvm.OwnX
namespace Jvm.OwnX
open Sem ClassFile Op Lib Jvm.Stand Jvm.Free Jvm.LawKit Jvm.RoadKit
set_option maxHeartbeats 4000000 in
theorem step_grow {P : Prog} {k pc np pc' : Nat} {i : Instr} {L L' : ALoc} {S S' : List Value} {H H' : AHeap} (h : step P k i np pc L S H = some (pc', L', S', H')) : H.length ≤ H'.length ∧ hsz P H ≤ hsz P H' := by
  cases i <;> simp only [step, Bool.cond_eq_ite] at h
  all_goals (repeat' (split at h))
  all_goals first
    | (cases h; done)
    | (simp only [Option.some.injEq, Prod.mk.injEq] at h; obtain ⟨-, -, -, rfl⟩ := h; exact ⟨Nat.le_refl _, Nat.le_refl _⟩)
    | (simp only [Option.some.injEq, Prod.mk.injEq] at h; obtain ⟨-, -, -, rfl⟩ := h; exact ⟨by simp, by rw [hsz_app]; omega⟩)
    | (simp only [Option.some.injEq, Prod.mk.injEq] at h; obtain ⟨-, -, -, rfl⟩ := h; exact ⟨by simp, Nat.le_of_eq (hsz_set P _ _ _ _ (by assumption) (by simp [csz, wr, wrL])).symm⟩)
set_option maxHeartbeats 4000000 in
theorem step_cap {P : Prog} {k pc np pc' : Nat} {i : Instr} {L L' : ALoc} {S S' : List Value} {H H' : AHeap} (h : step P k i np pc L S H = some (pc', L', S', H')) : (H'.length ≤ H.length ∨ H'.length ≤ P.capC) ∧ (hsz P H' ≤ hsz P H ∨ hsz P H' ≤ P.capS) := by
  cases i <;> simp only [step, Bool.cond_eq_ite] at h
  case newarray t =>
    split at h
    · split at h
      · rename_i q ht
        split at h
        · rename_i hq
          simp only [Option.some.injEq, Prod.mk.injEq] at h; obtain ⟨-, -, -, rfl⟩ := h
          simp only [Bool.and_eq_true] at hq
          have h1 := Nat.le_of_ble_eq_true hq.1.2
          have h2 := Nat.le_of_ble_eq_true hq.2
          exact ⟨Or.inr (by simpa using h1), Or.inr (by rw [hsz_app, csz_new _ _ ht]; exact h2)⟩
        · cases h
      · cases h
    · cases h
  case new j =>
    split at h
    · split at h
      · rename_i hq
        simp only [Option.some.injEq, Prod.mk.injEq] at h; obtain ⟨-, -, -, rfl⟩ := h
        simp only [Bool.and_eq_true] at hq
        have h1 := Nat.le_of_ble_eq_true hq.1
        have h2 := Nat.le_of_ble_eq_true hq.2
        exact ⟨Or.inr (by simpa using h1), Or.inr (by rw [hsz_app]; exact h2)⟩
      · cases h
    · cases h
  all_goals (repeat' (split at h))
  all_goals first
    | (cases h; done)
    | (simp only [Option.some.injEq, Prod.mk.injEq] at h; obtain ⟨-, -, -, rfl⟩ := h; exact ⟨Or.inl (Nat.le_refl _), Or.inl (Nat.le_refl _)⟩)
    | (simp only [Option.some.injEq, Prod.mk.injEq] at h; obtain ⟨-, -, -, rfl⟩ := h; exact ⟨Or.inl (by simp), Or.inl (Nat.le_of_eq (hsz_set P _ _ _ _ (by assumption) (by simp [csz, wr, wrL])))⟩)
theorem run_cap {P : Prog} : ∀ {n k pc : Nat} {L : ALoc} {S : List Value} {H : AHeap} {v : Option Value} {H' : AHeap}, run P n k pc L S H = some (v, H') → (H'.length ≤ H.length ∨ H'.length ≤ P.capC) ∧ (hsz P H' ≤ hsz P H ∨ hsz P H' ≤ P.capS)
  | 0, k, pc, L, S, H, v, H', h => by simp [run] at h
  | n + 1, k, pc, L, S, H, v, H', h => by
    rw [run] at h
    split at h
    · cases h
    · split at h
      · cases h; exact ⟨Or.inl (Nat.le_refl _), Or.inl (Nat.le_refl _)⟩
      · split at h
        · split at h
          · rename_i h1
            have g1 := run_cap h1
            have g2 := run_cap h
            omega
          · cases h
        · split at h
          · rename_i h1
            have g1 := step_cap h1
            have g2 := run_cap h
            omega
          · cases h
theorem run_grow {P : Prog} : ∀ {n k pc : Nat} {L : ALoc} {S : List Value} {H : AHeap} {v : Option Value} {H' : AHeap}, run P n k pc L S H = some (v, H') → H.length ≤ H'.length ∧ hsz P H ≤ hsz P H'
  | 0, k, pc, L, S, H, v, H', h => by simp [run] at h
  | n + 1, k, pc, L, S, H, v, H', h => by
    rw [run] at h
    split at h
    · cases h
    · split at h
      · cases h; exact ⟨Nat.le_refl _, Nat.le_refl _⟩
      · split at h
        · split at h
          · rename_i h1
            have g1 := run_grow h1
            have g2 := run_grow h
            omega
          · cases h
        · split at h
          · rename_i h1
            have g1 := step_grow h1
            have g2 := run_grow h
            omega
          · cases h
def OVR (am : List Addr) (v w : Option Value) : Prop := match v with
  | none => w = none
  | some x => ∃ y, w = some y ∧ VR am x y
theorem callV_spec {P : Prog} {k k' : Nat} {i : Instr} {S as rest : List Value} {H : AHeap} (h : callV P k i S H = some (k', as, rest)) :
    ∃ j q, poolOf i = some j ∧ P.link (P.cls k) j = some (q, k') ∧ kindOk i q = true ∧ S = as.reverse ++ rest ∧ as.length = P.pops k' ∧ P.rf k' + 1 ≤ P.rf k ∧ cats rest + (P.maxL k' + 11) + P.rl k' ≤ P.rl k ∧ recvOk P H q as = true ∧ (entL as).length ≤ P.maxL k' := by
  unfold callV at h
  split at h
  · cases h
  · rename_i j hj
    split at h
    · cases h
    · rename_i q k'' hk
      rw [Bool.cond_eq_ite] at h
      split at h
      · rename_i hc
        simp only [Option.some.injEq, Prod.mk.injEq] at h
        obtain ⟨rfl, rfl, rfl⟩ := h
        simp only [Bool.and_eq_true] at hc
        obtain ⟨⟨⟨⟨⟨c1, c2⟩, c3⟩, c4⟩, c5⟩, c6⟩ := hc
        have c2' := Nat.le_of_ble_eq_true c2
        exact ⟨j, q, hj, hk, c1, by rw [List.reverse_reverse, List.take_append_drop], by simp [c2'], Nat.le_of_ble_eq_true c3, Nat.le_of_ble_eq_true c4, c5, Nat.le_of_ble_eq_true c6⟩
      · cases h
theorem linkOk_call {P : Prog} {nm : Nat → MethodName} {bc : Nat → ByteArray} {cn : Nat → String} {C : String} {Z : State} {a0 : Array Value} {c j q k : Nat} (h4 : q ≠ 4) (h5 : q ≠ 5) (h : LinkOk P nm bc cn C Z a0 c j q k) : CallOk P nm bc cn C Z a0 c j q k := by
  unfold LinkOk at h
  split at h
  · exact absurd rfl h4
  · exact absurd rfl h5
  · exact h
theorem recv_spec {P : Prog} {H : AHeap} {q : Nat} {as : List Value} (h0 : q ≠ 0) (h : recvOk P H q as = true) : ∃ a r fs, as = .ref a :: r ∧ H[a]? = some (.inl fs) := by
  unfold recvOk at h
  split at h
  · exact absurd rfl h0
  · split at h
    · split at h
      · rename_i fs hfs
        exact ⟨_, _, fs, rfl, hfs⟩
      · cases h
    · cases h
theorem retV_spec {P : Prog} {k : Nat} {i : Instr} {S : List Value} {v : Option Value} (h : retV P k i S = some v) :
    (i = .return_ ∧ S = [] ∧ P.ret k = none ∧ v = none) ∨ (∃ x r, i = .ireturn ∧ S = .int x :: r ∧ P.ret k = some .int ∧ v = some (.int x)) ∨ (∃ x r, i = .ireturn ∧ S = .int x :: r ∧ P.ret k = some .boolean ∧ v = some (.int (x &&& 1))) ∨ (∃ x r, i = .lreturn ∧ S = .long x :: r ∧ P.ret k = some .long ∧ v = some (.long x)) := by
  unfold retV at h
  split at h
  · split at h
    · rename_i hr; cases h; exact Or.inl ⟨rfl, rfl, hr, rfl⟩
    · cases h
  · split at h
    · split at h
      · rename_i hr; cases h; exact Or.inr (Or.inl ⟨_, _, rfl, rfl, hr, rfl⟩)
      · rename_i hr; cases h; exact Or.inr (Or.inr (Or.inl ⟨_, _, rfl, rfl, hr, rfl⟩))
      · cases h
    · cases h
  · split at h
    · split at h
      · rename_i hr; cases h; exact Or.inr (Or.inr (Or.inr ⟨_, _, rfl, rfl, hr, rfl⟩))
      · cases h
    · cases h
  · cases h
/-- what a callee's contract says behind it -/
def QC (P : Prog) (C : String) (Z : State) (n0 : Nat) (am : List Addr) (v : Option Value) (H1 : AHeap) (w : Option Value) (h' : Heap) (Lc : List Loc) : Prop := Fr n0 Lc ∧ n0 ≤ h'.size ∧ ∃ am', Pre am am' ∧ HR P C Z n0 am' H1 h' ∧ OVR am' v w
/-- the frame's theorem, for one amount of fuel -/
def SoundAt (P : Prog) (nm : Nat → MethodName) (bc : Nat → ByteArray) (cn : Nat → String) (C : String) (Z : State) (n : Nat) : Prop :=
  ∀ (k pc : Nat) (L : ALoc) (S : List Value) (H : AHeap) (v : Option Value) (H' : AHeap), run P n k pc L S H = some (v, H') →
  ∀ {p : Program} {l : Launch} {e : Env} {R : Room} {s : State} {m : MethodId} {args : Array Value} {below : List Frame} {meth : Method} {c : Code} {T : State} {locs : List Loc} {cells slots n0 : Nat} {am : List Addr} {ls : Array Slot} {st : List Value},
    Stand p l e R s m args below meth c T locs cells slots → p.tables.exec = Jvm.exec → Z.Warmed39 s.vm → c.code = bc k → c.maxLocals = P.maxL k → meth.sig.returnType = P.ret k → s.vm.findClass (cn (P.cls k)) = some m.cls → (P.ini k = true → meth.name = "<init>" ∧ cn (P.cls k) = C) →
    P.rf k ≤ R.frames → P.rl k ≤ R.locals → cells + (H'.length - H.length) ≤ R.cells → slots + (hsz P H' - hsz P H) ≤ R.slots → ls.size = P.maxL k → LR am L ls → SR am S st → HR P C Z n0 am H T.heap → Fr n0 locs → n0 ≤ T.heap.size →
    ∃ T' am' locs' w, Stand p l e R s m args below meth c T' locs' (cells + (H'.length - H.length)) (slots + (hsz P H' - hsz P H)) ∧ HR P C Z n0 am' H' T'.heap ∧ Pre am am' ∧ Fr n0 locs' ∧ OVR am' v w ∧ n0 ≤ T'.heap.size ∧ (P.ret k = none → w = none) ∧
      ∀ fs, (∀ (f : JFrame) (acts : List Action), f.method = m → f.locked = none → f.entered = [] → (doReturn e (T'.setTop f) acts w).1 = T'.setFrames fs) → Steps p.tables e below (T.setTop (mkF m pc ls st)) (T'.setFrames fs)
section Met
variable {P : Prog} {nm : Nat → MethodName} {bc : Nat → ByteArray} {cn : Nat → String} {C : String} {Z : State} {a0 : Array Value}
theorem metOf {n k : Nat} {as : List Value} {H H1 : AHeap} {v : Option Value} (IH : SoundAt P nm bc cn C Z n) (hrun : run P n k 0 (entry P k as) [] H = some (v, H1)) {l : Launch} {wsC : List Cond} {rm : Room} (hpl : plainName (nm k).cls = true) (hcls : (nm k).cls = cn (P.cls k)) (hini : P.ini k = true → (nm k).name = "<init>" ∧ (nm k).cls = C)
    (hrf : P.rf k ≤ rm.frames) (hrl : P.rl k ≤ rm.locals) (hrc : H1.length - H.length ≤ rm.cells) (hrs : hsz P H1 - hsz P H ≤ rm.slots) {am : List Addr} {ws : List Value} {h : Heap} {n0 : Nat} (hS : SR am as ws) (hE : (entL as).length ≤ P.maxL k) (hH : HR P C Z n0 am H h) (hn : n0 ≤ h.size) :
    MetFree l (nm k) (head1 (Cond.code (nm k) (bc k) (P.maxL k) (P.ret k) :: wsC) rm) (fun a U => a = ws.toArray ∧ Z.Warmed39 U.vm ∧ U.heap = h) (fun _ _ _ _ _ => True)
      (fun _ U o U' => ∃ w Lc, o = .returned w ∧ QC P C Z n0 am v H1 w U'.heap Lc ∧ FrameEnd U o U' Lc (H1.length - H.length) (hsz P H1 - hsz P H)) := by
  refine MetFree.of_bodySF (plainFor_of_name hpl) hisR ?_
  intro p e s m args below meth c s₁ Bd hml0 hP hK
  obtain ⟨rfl, hZ, hh⟩ := hP
  have hown : s.vm.findClass (nm k).cls = some m.cls := findClass_of_methodNamed Bd.named
  have hnm := (name_of_methodNamed Bd.named Bd.method).1
  have X0 : Stand p l e rm s m ws.toArray below meth c s₁ [] 0 0 := Stand.of_body Bd
  have e0 : s₁.heap = h := by rw [← hh, Bd.state]; rfl
  have hsl := (slotsL_ok hS).1
  obtain ⟨T', am', locs', w, X', h1, h2, h3, h4, h5, h6, h7⟩ := IH k 0 _ _ _ _ _ hrun X0 Bd.exec hZ Bd.bytes hml0 Bd.returns (by rw [← hcls]; exact hown) (fun q => ⟨by rw [hnm]; exact (hini q).1, by rw [← hcls]; exact (hini q).2⟩) hrf hrl (by omega) (by omega) (entry_size (ws := ws) (n := P.maxL k) (by omega)) (LR.entry hS hE) (st := []) rfl (by rw [e0]; exact hH) (Fr.nil n0) (by rw [e0]; exact hn)
  obtain ⟨fs, hr, hrun', hended, hW, hsame⟩ := X'.leave (v := w) (fun q => h6 (by rw [← Bd.returns]; exact q))
  exact ⟨_, _, h7 fs hr, hrun', hended, w, locs', rfl, ⟨h3, h5, am', h2, h1, h4⟩, ⟨_, rfl⟩, hW, hsame.mono (by omega) (by omega)⟩
variable {p : Program} {l : Launch} {e : Env} {R : Room} {s : State} {m : MethodId} {args : Array Value} {below : List Frame} {meth : Method} {c : Code} {T : State} {locs : List Loc} {cells slots : Nat} {n0 : Nat}
theorem call_sound (G : Good P nm bc cn C Z a0) {n k k' pc np : Nat} {i : Instr} {S as rest : List Value} {H H1 : AHeap} {v : Option Value} (IH : SoundAt P nm bc cn C Z n) (hcode : P.code k pc = some (i, np)) (hcall : callV P k i S H = some (k', as, rest)) (hrun : run P n k' 0 (entry P k' as) [] H = some (v, H1))
    (X : Stand p l e R s m args below meth c T locs cells slots) (hx : p.tables.exec = Jvm.exec) (hZ : Z.Warmed39 s.vm) (hby : c.code = bc k) (hml : c.maxLocals = P.maxL k) (hown : s.vm.findClass (cn (P.cls k)) = some m.cls)
    (hrf : P.rf k ≤ R.frames) (hrl : P.rl k ≤ R.locals) (hcells : cells + (H1.length - H.length) ≤ R.cells) (hslots : slots + (hsz P H1 - hsz P H) ≤ R.slots) {am : List Addr} {ls : Array Slot} {st : List Value} (hlz : ls.size = P.maxL k) (hS : SR am S st) (hH : HR P C Z n0 am H T.heap) (hn : n0 ≤ T.heap.size) :
    ∃ T2 w Lc z, np = pc + 3 ∧ Stand p l e R s m args below meth c T2 (locs ++ Lc) (cells + (H1.length - H.length)) (slots + (hsz P H1 - hsz P H)) ∧ QC P C Z n0 am v H1 w T2.heap Lc ∧ SR am rest z ∧
      ∀ target, Steps p.tables e below (T2.setTop (mkF m (pc + 3) ls (w.toList ++ z))) target → Steps p.tables e below (T.setTop (mkF m pc ls st)) target := by
  obtain ⟨j, q, hj, hk, hkind, rfl, hlen, c3, c4, c5, c6⟩ := callV_spec hcall
  obtain ⟨G1, -, -, -, -, G6, -, -, G9⟩ := G
  obtain ⟨len, hdec, rfl, hlen'⟩ := G1 _ _ _ _ hcode
  have hd : decode c.code pc = .ok (i, len) := by rw [hby]; exact hdec
  obtain ⟨y, z, rfl, hy, hz⟩ := SR.app _ _ hS rfl
  have hws : SR am as y.reverse := by have := hy.rev; rwa [List.reverse_reverse] at this
  have hcz := hz.cats
  have lk := G9 _ _ _ _ hk
  have hq4 : q ≠ 4 := fun q4 => by subst q4; cases i <;> simp [kindOk] at hkind
  have hq5 : q ≠ 5 := fun q5 => by subst q5; cases i <;> simp [kindOk] at hkind
  have lk' : CallOk P nm bc cn C Z a0 (P.cls k) j q k' := linkOk_call hq4 hq5 lk
  obtain ⟨w1, w2, w3, ⟨ps, r, w4, w5⟩, w6, w7, w8, w9, w10⟩ := lk'
  have hM := metOf IH hrun (l := l) (wsC := []) (rm := ({ frames := P.rf k', cells := H1.length - H.length, slots := hsz P H1 - hsz P H, locals := P.rl k' } : Room)) w6 w8 w9 (Nat.le_refl _) (Nat.le_refl _) (Nat.le_refl _) (Nat.le_refl _) hws c6 hH hn
  have hB := backOf (R := R) (p := p) (e := e) (below := below) (args := args) (s := s) (len := 3) (W := cats rest) hM hZ w2 w3 (by show P.rf k' + 1 ≤ _; omega) (by show cats rest + (P.maxL k' + 11) + P.rl k' ≤ _; omega)
  have hyl : y.reverse.length = as.length := hws.len
  have recv : q ≠ 0 → ∃ a r' b ws', as = .ref a :: r' ∧ y.reverse = .ref b :: ws' ∧ Exa Z T.heap b C := fun h0 => by
    obtain ⟨a, r', fs, rfl, hfs⟩ := recv_spec h0 c5
    obtain ⟨_, ws', e1, ⟨b, hb, rfl⟩, -⟩ := hws
    obtain ⟨b', f1, f2, -⟩ := hH.2.2.2 _ _ hfs
    cases hb.symm.trans f1
    exact ⟨a, r', b, ws', rfl, e1, f2⟩
  cases i <;> simp only [poolOf, Option.some.injEq, reduceCtorEq] at hj
  case invokestatic j' =>
    subst hj
    obtain rfl : len = 3 := hlen'.resolve_left (by simp [ilen])
    obtain rfl : q = 0 := by
      match q, hkind with
      | 0, _ => rfl
    obtain ⟨w, _, ⟨T2, L2, k2, n2⟩, -, X2, ⟨Lc, hQ, l1, l2, l3⟩, st2⟩ := Jvm.LawKit.callS X hx (y := nm k') hown (mvT hZ w1) (mvT hZ w10) (mvT hZ w3) (mvT hZ w2) w7 hB (g := mkF m pc ls (y ++ z)) rfl (by rw [hml]; exact hlz) (argsL := y.reverse) (rest := z) (lenOf w4 (by rw [hyl, hlen, w5]; rfl)) (by simp) (by rw [hcz]; show 2 * 0 + _ ≤ _; omega) hd (fun _ _ => ⟨rfl, rfl, hcells, hslots⟩)
    dsimp only [Pt.U, Pt.locs, Pt.cells, Pt.slots] at X2 l1 l2 l3 st2 hQ
    subst l1 l2 l3
    exact ⟨T2, w, Lc, z, rfl, X2, hQ, hz, st2⟩
  case invokespecial j' =>
    subst hj
    obtain rfl : len = 3 := hlen'.resolve_left (by simp [ilen])
    obtain rfl : q = 1 := by
      match q, hkind with
      | 1, _ => rfl
    obtain ⟨a, r', b, ws', ea, ey, hEx⟩ := recv (by decide)
    obtain ⟨w11, w12, w13⟩ := w10
    have ey' : y = ws'.reverse ++ [.ref b] := by rw [← List.reverse_reverse y, ey]; simp
    rw [ey] at hB
    have hl : ws'.length = ps.length := by rw [ey, hlen, w5] at hyl; simpa [rcv] using hyl
    obtain ⟨w, _, ⟨T2, L2, k2, n2⟩, -, X2, ⟨Lc, hQ, l1, l2, l3⟩, st2⟩ := X.specialBack hx (y := nm k') w11 hown (mvT hZ w1) (mvT hZ w12) (bytes := bc k') (maxL := P.maxL k') (mvT hZ (by rw [w13] at w2; exact w2)) w7 hB (g := mkF m pc ls (y ++ z)) rfl (by rw [hml]; exact hlz) (Steps.refl _) (a := b) (argsL := ws') (rest := z) (lenOf w4 hl) (by rw [ey']; simp) (by rw [hcz]; show 2 * 0 + _ ≤ _; omega) hd (fun _ _ => ⟨rfl, rfl, hcells, hslots⟩)
    dsimp only [Pt.U, Pt.locs, Pt.cells, Pt.slots] at X2 l1 l2 l3 st2 hQ
    subst l1 l2 l3
    exact ⟨T2, w, Lc, z, rfl, X2, hQ, hz, fun target hr => st2.trans hr⟩
  case invokevirtual j' =>
    subst hj
    obtain rfl : len = 3 := hlen'.resolve_left (by simp [ilen])
    have hq : q = 2 ∨ q = 3 := by
      match q, hkind with
      | 2, _ => exact Or.inl rfl
      | 3, _ => exact Or.inr rfl
    obtain ⟨a, r', b, ws', ea, ey, hEx⟩ := recv (by omega)
    have ey' : y = ws'.reverse ++ [.ref b] := by rw [← List.reverse_reverse y, ey]; simp
    rw [ey] at hB
    rcases hq with rfl | rfl
    · obtain ⟨w11, w12, w13⟩ := w10
      have hl : ws'.length = ps.length := by rw [ey, hlen, w5] at hyl; simpa [rcv] using hyl
      obtain ⟨cq, kq, qa, qb, qc⟩ := isOf hZ rfl hEx
      obtain ⟨w, _, ⟨T2, L2, k2, n2⟩, -, X2, ⟨Lc, hQ, l1, l2, l3⟩, st2⟩ := X.virtualBack hx (y := nm k') (z := nm k') hown (mvT hZ w1) (mvT hZ w11) (notFace_of_selects (args := #[]) (mvT hZ w13)) (mvT hZ w13) (mvT hZ w12) w7 hB qa qc (g := mkF m pc ls (y ++ z)) rfl (by rw [hml]; exact hlz) (Steps.refl _) (argsL := ws') (rest := z) (lenOf w4 hl) (by rw [ey']; simp) (by rw [hcz]; show 2 * 0 + _ ≤ _; omega) hd (fun _ _ => ⟨rfl, rfl, hcells, hslots⟩)
      dsimp only [Pt.U, Pt.locs, Pt.cells, Pt.slots] at X2 l1 l2 l3 st2 hQ
      subst l1 l2 l3
      exact ⟨T2, w, Lc, z, rfl, X2, hQ, hz, fun target hr => st2.trans hr⟩
    · obtain ⟨w11, w12, w13⟩ := w10
      have hl : ws'.length = ps.length := by rw [ey, hlen, w5] at hyl; simpa [rcv] using hyl
      obtain ⟨cq, q1, q2⟩ := hEx.cell
      obtain ⟨cC, kC, i1, i2, i3, i4, -⟩ := Cond.instantiable_spec (mvT hZ G6 : (Cond.instantiable C P.objN).before #[] s = true)
      have hpriv : s.PrivateAt (nm k') := Cond.privateMethod_at (mvP hZ w13 (args := #[]))
      have hsel : (Cond.selects (nm k').cls (nm k') (nm k')).before args s = true := selects_self_of_private (by rw [w11]; exact i1) i2 (by simpa using (Bool.or_eq_false_iff.mp i4).1) hpriv (mvT hZ w12) w7
      obtain ⟨w, _, ⟨T2, L2, k2, n2⟩, -, X2, ⟨Lc, hQ, l1, l2, l3⟩, st2⟩ := X.privateBack hx (y := nm k') hown (mvT hZ w1) (mvT hZ w12) hsel hpriv (mvT hZ w2) w7 hB (g := mkF m pc ls (y ++ z)) rfl (by rw [hml]; exact hlz) (Steps.refl _) (a := b) q1 q2 (argsL := ws') (rest := z) (lenOf w4 hl) (by rw [ey']; simp) (by rw [hcz]; show 2 * 0 + _ ≤ _; omega) hd (fun _ _ => ⟨rfl, rfl, hcells, hslots⟩)
      dsimp only [Pt.U, Pt.locs, Pt.cells, Pt.slots] at X2 l1 l2 l3 st2 hQ
      subst l1 l2 l3
      exact ⟨T2, w, Lc, z, rfl, X2, hQ, hz, fun target hr => st2.trans hr⟩
theorem ret_sound (G : Good P nm bc cn C Z a0) {k pc np : Nat} {i : Instr} {S : List Value} {v : Option Value} (hcode : P.code k pc = some (i, np)) (h : retV P k i S = some v)
    (X : Stand p l e R s m args below meth c T locs cells slots) (hx : p.tables.exec = Jvm.exec) (hby : c.code = bc k) (hret : meth.sig.returnType = P.ret k) {am : List Addr} {ls : Array Slot} {st : List Value} (hS : SR am S st) :
    ∃ w, OVR am v w ∧ (P.ret k = none → w = none) ∧ ∀ fs, (∀ (f : JFrame) (acts : List Action), f.method = m → f.locked = none → f.entered = [] → (doReturn e (T.setTop f) acts w).1 = T.setFrames fs) → Steps p.tables e below (T.setTop (mkF m pc ls st)) (T.setFrames fs) := by
  obtain ⟨G1, -⟩ := G
  obtain ⟨len, hdec, rfl, hlen⟩ := G1 _ _ _ _ hcode
  have hd : decode c.code pc = .ok (i, len) := by rw [hby]; exact hdec
  rcases retV_spec h with ⟨rfl, rfl, hr, rfl⟩ | ⟨x, r, rfl, rfl, hr, rfl⟩ | ⟨x, r, rfl, rfl, hr, rfl⟩ | ⟨x, r, rfl, rfl, hr, rfl⟩
  · obtain rfl : len = 1 := hlen.resolve_left (by simp [ilen])
    cases hS
    exact ⟨none, rfl, fun _ => rfl, fun fs hl => X.returnOut hx (hret.trans hr) hd hl⟩
  · obtain rfl : len = 1 := hlen.resolve_left (by simp [ilen])
    obtain ⟨_, _, rfl, rfl, hr'⟩ := hS
    exact ⟨some (.int x), ⟨_, rfl, rfl⟩, (fun q => by rw [hr] at q; cases q), fun fs hl => retOut X hx (hret.trans hr) rfl (Or.inl ⟨rfl, Or.inl rfl, x, rfl⟩) hd hl⟩
  · obtain rfl : len = 1 := hlen.resolve_left (by simp [ilen])
    obtain ⟨_, _, rfl, rfl, hr'⟩ := hS
    exact ⟨some (.int (x &&& 1)), ⟨_, rfl, rfl⟩, (fun q => by rw [hr] at q; cases q), fun fs hl => retN X hx (hret.trans hr) (Or.inl rfl) hd hl⟩
  · obtain rfl : len = 1 := hlen.resolve_left (by simp [ilen])
    obtain ⟨_, _, rfl, rfl, hr'⟩ := hS
    exact ⟨some (.long x), ⟨_, rfl, rfl⟩, (fun q => by rw [hr] at q; cases q), fun fs hl => retOut X hx (hret.trans hr) rfl (Or.inr (Or.inl ⟨rfl, rfl, x, rfl⟩)) hd hl⟩
theorem SR.opt {am : List Addr} {v w : Option Value} {S st : List Value} (h : OVR am v w) (hS : SR am S st) : SR am (v.toList ++ S) (w.toList ++ st) := by
  cases v with
  | none => cases h; exact hS
  | some x => obtain ⟨y, rfl, h1⟩ := h; exact ⟨y, st, rfl, h1, hS⟩
theorem sound (G : Good P nm bc cn C Z a0) : ∀ n, SoundAt P nm bc cn C Z n
  | 0 => fun k pc L S H v H' h => by simp [run] at h
  | n + 1 => fun k pc L S H v H' h => by
    have IH := sound G n
    intro p l e R s m args below meth c T locs cells slots n0 am ls st X hx hZ hby hml hret hown hini hrf hrl hcells hslots hlz hL hS hH hF hn
    rw [run] at h
    split at h
    · cases h
    · rename_i i np hcode
      split at h
      · rename_i v' hv
        cases h
        obtain ⟨w, h1, h2, h3⟩ := ret_sound G hcode hv X hx hby hret (ls := ls) hS
        exact ⟨T, am, locs, w, by simpa using X, hH, Pre.refl _, hF, h1, hn, h2, h3⟩
      · split at h
        · rename_i k' as rest hcall
          split at h
          · rename_i v1 H1 hr1
            have g1 := run_grow hr1
            have g2 := run_grow h
            obtain ⟨T2, w, Lc, z, rfl, X2, ⟨q1, q2, am2, q3, q4, q5⟩, hz, st2⟩ := call_sound G IH hcode hcall hr1 X hx hZ hby hml hown hrf hrl (by omega) (by omega) (ls := ls) hlz hS hH hn
            obtain ⟨T', am', locs', w', X', f1, f2, f3, f4, f5, f6, f7⟩ := IH k _ _ _ _ _ _ h X2 hx hZ hby hml hret hown hini hrf hrl (by omega) (by omega) hlz (hL.mono q3) (SR.opt q5 (hz.mono q3)) q4 (Fr.app hF q1) q2
            refine ⟨T', am', locs', w', ?_, f1, q3.trans f2, f3, f4, f5, f6, fun fs hl => st2 _ (f7 fs hl)⟩
            have a1 : cells + (H1.length - H.length) + (H'.length - H1.length) = cells + (H'.length - H.length) := by omega
            have a2 : slots + (hsz P H1 - hsz P H) + (hsz P H' - hsz P H1) = slots + (hsz P H' - hsz P H) := by omega
            rw [a1, a2] at X'; exact X'
          · cases h
        · split at h
          · rename_i pc1 L1 S1 H1 hs1
            have g1 := step_grow hs1
            have g2 := run_grow h
            obtain ⟨T2, am2, ls2, st2, locs2, X2, b1, b2, b3, b4, b5, b6, b7, b8⟩ := step_sound G hcode hs1 X hx hZ hby hml hown hini hrf hrl (by omega) (by omega) hlz hL hS hH hF hn
            obtain ⟨T', am', locs', w', X', f1, f2, f3, f4, f5, f6, f7⟩ := IH k _ _ _ _ _ _ h X2 hx hZ hby hml hret hown hini hrf hrl (by omega) (by omega) (b2.trans hlz) b1 b3 b4 b6 b7
            refine ⟨T', am', locs', w', ?_, f1, b5.trans f2, f3, f4, f5, f6, fun fs hl => b8 _ (f7 fs hl)⟩
            have a1 : cells + (H1.length - H.length) + (H'.length - H1.length) = cells + (H'.length - H.length) := by omega
            have a2 : slots + (hsz P H1 - hsz P H) + (hsz P H' - hsz P H1) = slots + (hsz P H' - hsz P H) := by omega
            rw [a1, a2] at X'; exact X'
          · cases h
end Met
end Jvm.OwnX
namespace Jvm.OwnX
open Sem ClassFile Op Lib Jvm.Stand Jvm.Free Jvm.LawKit Jvm.RoadKit
theorem run_succ {P : Prog} : ∀ (n : Nat) {k pc : Nat} {L : ALoc} {S : List Value} {H : AHeap} {out : Option Value × AHeap}, run P n k pc L S H = some out → run P (n + 1) k pc L S H = some out
  | 0, k, pc, L, S, H, out, h => by simp [run] at h
  | n + 1, k, pc, L, S, H, out, h => by
    rw [run] at h
    rw [run]
    split at h
    · cases h
    · rename_i i np hc
      try simp only [hc]
      split at h
      · rename_i v hv
        try simp only [hv]
        exact h
      · rename_i hv
        try simp only [hv]
        split at h
        · rename_i k' as rest hcall
          try simp only [hcall]
          split at h
          · rename_i v1 H1 h1
            rw [run_succ n h1]; exact run_succ n h
          · cases h
        · rename_i hcall
          try simp only [hcall]
          split at h
          · rename_i pc1 L1 S1 H1 h1
            try simp only [h1]
            exact run_succ n h
          · cases h
theorem run_le {P : Prog} {n m k pc : Nat} {L : ALoc} {S : List Value} {H : AHeap} {out : Option Value × AHeap} (hm : n ≤ m) (h : run P n k pc L S H = some out) : run P m k pc L S H = some out := by
  induction hm with
  | refl => exact h
  | step _ ih => exact run_succ _ ih
section Rules
variable {P : Prog} {k pc np : Nat} {L L' : ALoc} {S r : List Value} {H : AHeap} {out : Option Value × AHeap}
theorem Eval.of_step {i : Instr} {pc' : Nat} {S' : List Value} {H' : AHeap} (hc : P.code k pc = some (i, np)) (h1 : retV P k i S = none) (h2 : callV P k i S H = none) (h3 : step P k i np pc L S H = some (pc', L', S', H')) (h : Eval P k pc' L' S' H' out) : Eval P k pc L S H out := by
  obtain ⟨n, h⟩ := h
  exact ⟨n + 1, by rw [run]; simp only [hc, h1, h2, h3]; exact h⟩
theorem Eval.call {i : Instr} {k' : Nat} {as rest : List Value} {v : Option Value} {H1 : AHeap} (hc : P.code k pc = some (i, np)) (h2 : callV P k i S H = some (k', as, rest)) (he : Eval P k' 0 (entry P k' as) [] H (v, H1)) (h : Eval P k np L (v.toList ++ rest) H1 out) : Eval P k pc L S H out := by
  obtain ⟨n, he⟩ := he
  obtain ⟨m, h⟩ := h
  have h1 : retV P k i S = none := by
    unfold callV at h2
    cases i <;> simp only [poolOf, reduceCtorEq] at h2 <;> rfl
  exact ⟨n + m + 1, by rw [run]; simp only [hc, h1, h2]; rw [run_le (Nat.le_add_right n m) he]; exact run_le (Nat.le_add_left m n) h⟩
theorem Eval.ret {i : Instr} {v : Option Value} (hc : P.code k pc = some (i, np)) (h1 : retV P k i S = some v) : Eval P k pc L S H (v, H) := ⟨1, by rw [run]; simp only [hc, h1]⟩
theorem Eval.eq {out' : Option Value × AHeap} (h : Eval P k pc L S H out') (e : out' = out) : Eval P k pc L S H out := e ▸ h
theorem Eval.iload_n {n : Fin 4} {x : Int32} (hc : P.code k pc = some (.iload_n n, np)) (hl : loadI L n.val = some x) (h : Eval P k np L (.int x :: S) H out) : Eval P k pc L S H out := Eval.of_step hc rfl rfl (by simp only [step, hl]) h
theorem Eval.iload {n : Nat} {x : Int32} (hc : P.code k pc = some (.iload n, np)) (hl : loadI L n = some x) (h : Eval P k np L (.int x :: S) H out) : Eval P k pc L S H out := Eval.of_step hc rfl rfl (by simp only [step, hl]) h
theorem Eval.lload_n {n : Fin 4} {x : Int64} (hc : P.code k pc = some (.lload_n n, np)) (hl : loadJ L n.val = some x) (h : Eval P k np L (.long x :: S) H out) : Eval P k pc L S H out := Eval.of_step hc rfl rfl (by simp only [step, hl]) h
theorem Eval.lload {n : Nat} {x : Int64} (hc : P.code k pc = some (.lload n, np)) (hl : loadJ L n = some x) (h : Eval P k np L (.long x :: S) H out) : Eval P k pc L S H out := Eval.of_step hc rfl rfl (by simp only [step, hl]) h
theorem Eval.aload_n {n : Fin 4} {x : Nat} (hc : P.code k pc = some (.aload_n n, np)) (hl : loadA L n.val = some x) (h : Eval P k np L (.ref x :: S) H out) : Eval P k pc L S H out := Eval.of_step hc rfl rfl (by simp only [step, hl]) h
theorem Eval.aload {n : Nat} {x : Nat} (hc : P.code k pc = some (.aload n, np)) (hl : loadA L n = some x) (h : Eval P k np L (.ref x :: S) H out) : Eval P k pc L S H out := Eval.of_step hc rfl rfl (by simp only [step, hl]) h
theorem Eval.istore_n {n : Fin 4} {x : Int32} (hc : P.code k pc = some (.istore_n n, np)) (hl : lput L n.val (.int x) = some L') (h : Eval P k np L' r H out) : Eval P k pc L (.int x :: r) H out := Eval.of_step hc rfl rfl (by simp only [step, hl]) h
theorem Eval.istore {n : Nat} {x : Int32} (hc : P.code k pc = some (.istore n, np)) (hl : lput L n (.int x) = some L') (h : Eval P k np L' r H out) : Eval P k pc L (.int x :: r) H out := Eval.of_step hc rfl rfl (by simp only [step, hl]) h
theorem Eval.astore_n {n : Fin 4} {x : Nat} (hc : P.code k pc = some (.astore_n n, np)) (hl : lput L n.val (.ref x) = some L') (h : Eval P k np L' r H out) : Eval P k pc L (.ref x :: r) H out := Eval.of_step hc rfl rfl (by simp only [step, hl]) h
theorem Eval.astore {n : Nat} {x : Nat} (hc : P.code k pc = some (.astore n, np)) (hl : lput L n (.ref x) = some L') (h : Eval P k np L' r H out) : Eval P k pc L (.ref x :: r) H out := Eval.of_step hc rfl rfl (by simp only [step, hl]) h
theorem Eval.lstore_n {n : Fin 4} {x : Int64} (hc : P.code k pc = some (.lstore_n n, np)) (hl : lputL L n.val x = some L') (h : Eval P k np L' r H out) : Eval P k pc L (.long x :: r) H out := Eval.of_step hc rfl rfl (by simp only [step, hl]) h
theorem Eval.lstore {n : Nat} {x : Int64} (hc : P.code k pc = some (.lstore n, np)) (hl : lputL L n x = some L') (h : Eval P k np L' r H out) : Eval P k pc L (.long x :: r) H out := Eval.of_step hc rfl rfl (by simp only [step, hl]) h
theorem Eval.iinc {n : Nat} {c : Int} {x : Int32} (hc : P.code k pc = some (.iinc n c, np)) (hl : loadI L n = some x) (hp : lput L n (.int (x + Int32.ofInt c)) = some L') (h : Eval P k np L' S H out) : Eval P k pc L S H out := Eval.of_step hc rfl rfl (by simp only [step, hl, hp]) h
theorem Eval.iconst {c : Int} {x : Int32} (hc : P.code k pc = some (.iconst c, np)) (hx : Int32.ofInt c = x) (h : Eval P k np L (.int x :: S) H out) : Eval P k pc L S H out := Eval.of_step hc rfl rfl (by subst hx; rfl) h
theorem Eval.bipush {c : Int} {x : Int32} (hc : P.code k pc = some (.bipush c, np)) (hx : (Int8.ofInt c).toInt32 = x) (h : Eval P k np L (.int x :: S) H out) : Eval P k pc L S H out := Eval.of_step hc rfl rfl (by subst hx; rfl) h
theorem Eval.sipush {c : Int} {x : Int32} (hc : P.code k pc = some (.sipush c, np)) (hx : (Int16.ofInt c).toInt32 = x) (h : Eval P k np L (.int x :: S) H out) : Eval P k pc L S H out := Eval.of_step hc rfl rfl (by subst hx; rfl) h
theorem Eval.lconst {c : Fin 2} {x : Int64} (hc : P.code k pc = some (.lconst c, np)) (hx : Int64.ofNat c = x) (h : Eval P k np L (.long x :: S) H out) : Eval P k pc L S H out := Eval.of_step hc rfl rfl (by subst hx; rfl) h
theorem Eval.ldc {j : Nat} {x : Int32} (hc : P.code k pc = some (.ldc j, np)) (hx : P.kon (P.cls k) j = some (.int x)) (h : Eval P k np L (.int x :: S) H out) : Eval P k pc L S H out := Eval.of_step hc rfl rfl (by simp only [step, hx]) h
theorem Eval.ldc2_w {j : Nat} {x : Int64} (hc : P.code k pc = some (.ldc2_w j, np)) (hx : P.kon (P.cls k) j = some (.long x)) (h : Eval P k np L (.long x :: S) H out) : Eval P k pc L S H out := Eval.of_step hc rfl rfl (by simp only [step, hx]) h
theorem Eval.idiv {x y : Int32} (hc : P.code k pc = some (.idiv, np)) (hy : ¬ y = 0) (h : Eval P k np L (.int (x / y) :: r) H out) : Eval P k pc L (.int y :: .int x :: r) H out := Eval.of_step hc rfl rfl (by simp [step, hy]) h
theorem Eval.irem {x y : Int32} (hc : P.code k pc = some (.irem, np)) (hy : ¬ y = 0) (h : Eval P k np L (.int (x % y) :: r) H out) : Eval P k pc L (.int y :: .int x :: r) H out := Eval.of_step hc rfl rfl (by simp [step, hy]) h
theorem Eval.iadd {x y : Int32} (hc : P.code k pc = some (.iadd, np))  (h : Eval P k np L (.int (x + y) :: r) H out) : Eval P k pc L (.int y :: .int x :: r) H out := Eval.of_step hc rfl rfl (by rfl) h
theorem Eval.isub {x y : Int32} (hc : P.code k pc = some (.isub, np))  (h : Eval P k np L (.int (x - y) :: r) H out) : Eval P k pc L (.int y :: .int x :: r) H out := Eval.of_step hc rfl rfl (by rfl) h
theorem Eval.imul {x y : Int32} (hc : P.code k pc = some (.imul, np))  (h : Eval P k np L (.int (x * y) :: r) H out) : Eval P k pc L (.int y :: .int x :: r) H out := Eval.of_step hc rfl rfl (by rfl) h
theorem Eval.iand {x y : Int32} (hc : P.code k pc = some (.iand, np))  (h : Eval P k np L (.int (x &&& y) :: r) H out) : Eval P k pc L (.int y :: .int x :: r) H out := Eval.of_step hc rfl rfl (by rfl) h
theorem Eval.ior {x y : Int32} (hc : P.code k pc = some (.ior, np))  (h : Eval P k np L (.int (x ||| y) :: r) H out) : Eval P k pc L (.int y :: .int x :: r) H out := Eval.of_step hc rfl rfl (by rfl) h
theorem Eval.ixor {x y : Int32} (hc : P.code k pc = some (.ixor, np))  (h : Eval P k np L (.int (x ^^^ y) :: r) H out) : Eval P k pc L (.int y :: .int x :: r) H out := Eval.of_step hc rfl rfl (by rfl) h
theorem Eval.ishl {x y : Int32} (hc : P.code k pc = some (.ishl, np))  (h : Eval P k np L (.int (ish x y) :: r) H out) : Eval P k pc L (.int y :: .int x :: r) H out := Eval.of_step hc rfl rfl (by rfl) h
theorem Eval.ishr {x y : Int32} (hc : P.code k pc = some (.ishr, np))  (h : Eval P k np L (.int (isr x y) :: r) H out) : Eval P k pc L (.int y :: .int x :: r) H out := Eval.of_step hc rfl rfl (by rfl) h
theorem Eval.iushr {x y : Int32} (hc : P.code k pc = some (.iushr, np))  (h : Eval P k np L (.int (ush x y) :: r) H out) : Eval P k pc L (.int y :: .int x :: r) H out := Eval.of_step hc rfl rfl (by rfl) h
theorem Eval.ladd {x y : Int64} (hc : P.code k pc = some (.ladd, np))  (h : Eval P k np L (.long (x + y) :: r) H out) : Eval P k pc L (.long y :: .long x :: r) H out := Eval.of_step hc rfl rfl (by rfl) h
theorem Eval.lsub {x y : Int64} (hc : P.code k pc = some (.lsub, np))  (h : Eval P k np L (.long (x - y) :: r) H out) : Eval P k pc L (.long y :: .long x :: r) H out := Eval.of_step hc rfl rfl (by rfl) h
theorem Eval.lmul {x y : Int64} (hc : P.code k pc = some (.lmul, np))  (h : Eval P k np L (.long (x * y) :: r) H out) : Eval P k pc L (.long y :: .long x :: r) H out := Eval.of_step hc rfl rfl (by rfl) h
theorem Eval.land {x y : Int64} (hc : P.code k pc = some (.land, np))  (h : Eval P k np L (.long (x &&& y) :: r) H out) : Eval P k pc L (.long y :: .long x :: r) H out := Eval.of_step hc rfl rfl (by rfl) h
theorem Eval.lor {x y : Int64} (hc : P.code k pc = some (.lor, np))  (h : Eval P k np L (.long (x ||| y) :: r) H out) : Eval P k pc L (.long y :: .long x :: r) H out := Eval.of_step hc rfl rfl (by rfl) h
theorem Eval.lxor {x y : Int64} (hc : P.code k pc = some (.lxor, np))  (h : Eval P k np L (.long (x ^^^ y) :: r) H out) : Eval P k pc L (.long y :: .long x :: r) H out := Eval.of_step hc rfl rfl (by rfl) h
theorem Eval.lshl {x : Int64} {y : Int32} (hc : P.code k pc = some (.lshl, np))  (h : Eval P k np L (.long (lsh x y) :: r) H out) : Eval P k pc L (.int y :: .long x :: r) H out := Eval.of_step hc rfl rfl (by rfl) h
theorem Eval.lushr {x : Int64} {y : Int32} (hc : P.code k pc = some (.lushr, np))  (h : Eval P k np L (.long (lus x y) :: r) H out) : Eval P k pc L (.int y :: .long x :: r) H out := Eval.of_step hc rfl rfl (by rfl) h
theorem Eval.lcmp {x y : Int64} (hc : P.code k pc = some (.lcmp, np))  (h : Eval P k np L (.int (lcm x y) :: r) H out) : Eval P k pc L (.long y :: .long x :: r) H out := Eval.of_step hc rfl rfl (by rfl) h
theorem Eval.lneg {x : Int64} (hc : P.code k pc = some (.lneg, np))  (h : Eval P k np L (.long (-x) :: r) H out) : Eval P k pc L (.long x :: r) H out := Eval.of_step hc rfl rfl (by rfl) h
theorem Eval.i2l {x : Int32} (hc : P.code k pc = some (.i2l, np))  (h : Eval P k np L (.long x.toInt64 :: r) H out) : Eval P k pc L (.int x :: r) H out := Eval.of_step hc rfl rfl (by rfl) h
theorem Eval.l2i {x : Int64} (hc : P.code k pc = some (.l2i, np))  (h : Eval P k np L (.int x.toInt32 :: r) H out) : Eval P k pc L (.long x :: r) H out := Eval.of_step hc rfl rfl (by rfl) h
theorem Eval.i2b {x : Int32} (hc : P.code k pc = some (.i2b, np))  (h : Eval P k np L (.int (i8 x) :: r) H out) : Eval P k pc L (.int x :: r) H out := Eval.of_step hc rfl rfl (by rfl) h
theorem Eval.dupR {x : Nat} (hc : P.code k pc = some (.dup, np))  (h : Eval P k np L (.ref x :: .ref x :: r) H out) : Eval P k pc L (.ref x :: r) H out := Eval.of_step hc rfl rfl (by rfl) h
theorem Eval.dupI {x : Int32} (hc : P.code k pc = some (.dup, np))  (h : Eval P k np L (.int x :: .int x :: r) H out) : Eval P k pc L (.int x :: r) H out := Eval.of_step hc rfl rfl (by rfl) h
theorem Eval.dup2 {x : Int32} {y : Nat} (hc : P.code k pc = some (.dup2, np))  (h : Eval P k np L (.int x :: .ref y :: .int x :: .ref y :: r) H out) : Eval P k pc L (.int x :: .ref y :: r) H out := Eval.of_step hc rfl rfl (by rfl) h
theorem Eval.popI {x : Int32} (hc : P.code k pc = some (.pop, np))  (h : Eval P k np L r H out) : Eval P k pc L (.int x :: r) H out := Eval.of_step hc rfl rfl (by rfl) h
theorem Eval.popR {x : Nat} (hc : P.code k pc = some (.pop, np))  (h : Eval P k np L r H out) : Eval P k pc L (.ref x :: r) H out := Eval.of_step hc rfl rfl (by rfl) h
theorem Eval.goto {o : Int} {t : Nat} (hc : P.code k pc = some (.goto o, np)) (ht : tgt pc o = some t) (h : Eval P k t L S H out) : Eval P k pc L S H out := Eval.of_step hc rfl rfl (by simp only [step, ht]) h
theorem Eval.ifT {cd : ClassFile.Cond} {o : Int} {t : Nat} {x : Int32} (hc : P.code k pc = some (.ifCond cd o, np)) (ht : tgt pc o = some t) (hb : if_icmp.holds cd x 0 = true) (h : Eval P k t L r H out) : Eval P k pc L (.int x :: r) H out := Eval.of_step hc rfl rfl (by simp only [step, ht, hb, cond_true]) h
theorem Eval.ifF {cd : ClassFile.Cond} {o : Int} {x : Int32} (hc : P.code k pc = some (.ifCond cd o, np)) (hb : if_icmp.holds cd x 0 = false) (h : Eval P k np L r H out) : Eval P k pc L (.int x :: r) H out := Eval.of_step hc rfl rfl (by simp only [step, hb, cond_false]) h
theorem Eval.icmpT {cd : ClassFile.Cond} {o : Int} {t : Nat} {x y : Int32} (hc : P.code k pc = some (.if_icmp cd o, np)) (ht : tgt pc o = some t) (hb : if_icmp.holds cd x y = true) (h : Eval P k t L r H out) : Eval P k pc L (.int y :: .int x :: r) H out := Eval.of_step hc rfl rfl (by simp only [step, ht, hb, cond_true]) h
theorem Eval.icmpF {cd : ClassFile.Cond} {o : Int} {x y : Int32} (hc : P.code k pc = some (.if_icmp cd o, np)) (hb : if_icmp.holds cd x y = false) (h : Eval P k np L r H out) : Eval P k pc L (.int y :: .int x :: r) H out := Eval.of_step hc rfl rfl (by simp only [step, hb, cond_false]) h
theorem Eval.tswIn {d lo hi o : Int} {offs : Array Int} {t : Nat} {x : Int32} (hc : P.code k pc = some (.tableswitch d lo hi offs, np)) (h1 : (decide (x.toInt < lo) || decide (x.toInt > hi)) = false) (h2 : offs.toList[(x.toInt - lo).toNat]? = some o) (ht : tgt pc o = some t) (h : Eval P k t L r H out) : Eval P k pc L (.int x :: r) H out := Eval.of_step hc rfl rfl (by simp only [step, h1, h2, ht, cond_false]) h
theorem Eval.tswOut {d lo hi : Int} {offs : Array Int} {t : Nat} {x : Int32} (hc : P.code k pc = some (.tableswitch d lo hi offs, np)) (h1 : (decide (x.toInt < lo) || decide (x.toInt > hi)) = true) (ht : tgt pc d = some t) (h : Eval P k t L r H out) : Eval P k pc L (.int x :: r) H out := Eval.of_step hc rfl rfl (by simp only [step, h1, ht, cond_true]) h
theorem Eval.getfield {j f a : Nat} {v : Value} (hc : P.code k pc = some (.getfield j, np)) (hf : P.fld (P.cls k) j = some f) (hg : getC H a f = some v) (h : Eval P k np L (v :: r) H out) : Eval P k pc L (.ref a :: r) H out := Eval.of_step hc rfl rfl (by simp only [step, hf, hg]) h
/-- the heap with a field written -/
def putC (P : Prog) (k : Nat) (H : AHeap) (a f : Nat) (v : Value) : Option AHeap := match P.fields[f]? with
  | some (_, _, t, fin) => (bif (!fin || P.ini k) && Nat.ble P.ro a then (match conv t v with
    | some v' => (match H[a]? with
      | some (.inl fs) => (bif Nat.ble (f + 1) fs.length then some (H.set a (.inl (fs.set f v'))) else none)
      | _ => none)
    | none => none) else none)
  | none => none
theorem putC_spec {P : Prog} {k a f : Nat} {v : Value} {H H1 : AHeap} (hp : putC P k H a f v = some H1) : ∃ n d t fin v' fs, P.fields[f]? = some (n, d, t, fin) ∧ ((!fin || P.ini k) && Nat.ble P.ro a) = true ∧ conv t v = some v' ∧ H[a]? = some (.inl fs) ∧ Nat.ble (f + 1) fs.length = true ∧ H1 = H.set a (.inl (fs.set f v')) := by
  unfold putC at hp
  simp only [Bool.cond_eq_ite] at hp
  split at hp
  · rename_i n d t fin hq
    split at hp
    · rename_i hc
      split at hp
      · rename_i v' hv
        split at hp
        · rename_i fs hfs
          split at hp
          · rename_i hz
            cases hp; exact ⟨n, d, t, fin, v', fs, hq, hc, hv, hfs, hz, rfl⟩
          · cases hp
        · cases hp
      · cases hp
    · cases hp
  · cases hp
theorem step_put {j f a : Nat} {v : Value} {H1 : AHeap} (hf : P.fld (P.cls k) j = some f) (hp : putC P k H a f v = some H1) : step P k (.putfield j) np pc L (v :: .ref a :: r) H = some (np, L, r, H1) := by
  obtain ⟨n, d, t, fin, v', fs, h1, h2, h3, h4, h5, rfl⟩ := putC_spec hp
  simp only [step, hf, h1, h2, h3, h4, h5, cond_true]
theorem Eval.putfield {j f a : Nat} {v : Value} {H1 : AHeap} (hc : P.code k pc = some (.putfield j, np)) (hf : P.fld (P.cls k) j = some f) (hp : putC P k H a f v = some H1) (h : Eval P k np L r H1 out) : Eval P k pc L (v :: .ref a :: r) H out := Eval.of_step hc rfl rfl (step_put hf hp) h
theorem Eval.iaload0 {a : Nat} {j : Int32} {xs : List Int32} (hc : P.code k pc = some (.iaload, np)) (ha : H[a]? = some (.inr (.inl (0, xs)))) (hj : inb xs.length j = true) (h : Eval P k np L (.int (rd xs j) :: r) H out) : Eval P k pc L (.int j :: .ref a :: r) H out := Eval.of_step hc rfl rfl (by simp only [step, ha, hj, cond_true]) h
theorem Eval.iaload {a : Nat} {j : Int32} {xs : List Int32} (hc : P.code k pc = some (.iaload, np)) (ha : H[a]? = some (.inr (.inl (1, xs)))) (hj : inb xs.length j = true) (h : Eval P k np L (.int (rd xs j) :: r) H out) : Eval P k pc L (.int j :: .ref a :: r) H out := Eval.of_step hc rfl rfl (by simp only [step, ha, hj, cond_true]) h
theorem Eval.baloadZ {a : Nat} {j : Int32} {xs : List Int32} (hc : P.code k pc = some (.baload, np)) (ha : H[a]? = some (.inr (.inl (2, xs)))) (hj : inb xs.length j = true) (h : Eval P k np L (.int (rd xs j) :: r) H out) : Eval P k pc L (.int j :: .ref a :: r) H out := Eval.of_step hc rfl rfl (by simp only [step, ha, hj, cond_true]) h
theorem Eval.baloadB {a : Nat} {j : Int32} {xs : List Int32} (hc : P.code k pc = some (.baload, np)) (ha : H[a]? = some (.inr (.inl (3, xs)))) (hj : inb xs.length j = true) (h : Eval P k np L (.int (rd xs j) :: r) H out) : Eval P k pc L (.int j :: .ref a :: r) H out := Eval.of_step hc rfl rfl (by simp only [step, ha, hj, cond_true]) h
theorem Eval.laload {a : Nat} {j : Int32} {xs : List Int64} (hc : P.code k pc = some (.laload, np)) (ha : H[a]? = some (.inr (.inr xs))) (hj : inb xs.length j = true) (h : Eval P k np L (.long (rdL xs j) :: r) H out) : Eval P k pc L (.int j :: .ref a :: r) H out := Eval.of_step hc rfl rfl (by simp only [step, ha, hj, cond_true]) h
theorem Eval.iastore {a : Nat} {j : Int32} {x : Int32} {xs : List Int32} {H1 : AHeap} (hc : P.code k pc = some (.iastore, np)) (hro : Nat.ble P.ro a = true) (ha : H[a]? = some (.inr (.inl (1, xs)))) (hj : inb xs.length j = true) (hH : H.set a (.inr (.inl (1, wr xs j x))) = H1) (h : Eval P k np L r H1 out) : Eval P k pc L (.int x :: .int j :: .ref a :: r) H out := Eval.of_step hc rfl rfl (by subst hH; simp only [step, hro, ha, hj, cond_true]; try rfl) h
theorem Eval.bastoreZ {a : Nat} {j : Int32} {x : Int32} {xs : List Int32} {H1 : AHeap} (hc : P.code k pc = some (.bastore, np)) (hro : Nat.ble P.ro a = true) (ha : H[a]? = some (.inr (.inl (2, xs)))) (hj : inb xs.length j = true) (hH : H.set a (.inr (.inl (2, wr xs j (x &&& 1)))) = H1) (h : Eval P k np L r H1 out) : Eval P k pc L (.int x :: .int j :: .ref a :: r) H out := Eval.of_step hc rfl rfl (by subst hH; simp only [step, hro, ha, hj, cond_true]; try rfl) h
theorem Eval.bastoreB {a : Nat} {j : Int32} {x : Int32} {xs : List Int32} {H1 : AHeap} (hc : P.code k pc = some (.bastore, np)) (hro : Nat.ble P.ro a = true) (ha : H[a]? = some (.inr (.inl (3, xs)))) (hj : inb xs.length j = true) (hH : H.set a (.inr (.inl (3, wr xs j (i8 x)))) = H1) (h : Eval P k np L r H1 out) : Eval P k pc L (.int x :: .int j :: .ref a :: r) H out := Eval.of_step hc rfl rfl (by subst hH; simp only [step, hro, ha, hj, cond_true]; try rfl) h
theorem Eval.lastore {a : Nat} {j : Int32} {x : Int64} {xs : List Int64} {H1 : AHeap} (hc : P.code k pc = some (.lastore, np)) (hro : Nat.ble P.ro a = true) (ha : H[a]? = some (.inr (.inr xs))) (hj : inb xs.length j = true) (hH : H.set a (.inr (.inr (wrL xs j x))) = H1) (h : Eval P k np L r H1 out) : Eval P k pc L (.long x :: .int j :: .ref a :: r) H out := Eval.of_step hc rfl rfl (by subst hH; simp only [step, hro, ha, hj, cond_true]; try rfl) h
theorem Eval.alenI {a t : Nat} {xs : List Int32} (hc : P.code k pc = some (.arraylength, np)) (ha : H[a]? = some (.inr (.inl (t, xs)))) (h : Eval P k np L (.int xs.length.toInt32 :: r) H out) : Eval P k pc L (.ref a :: r) H out := Eval.of_step hc rfl rfl (by simp only [step, ha]) h
theorem Eval.newarray {t : ArrayType} {n : Int32} {q a z N : Nat} {H1 : AHeap} (hc : P.code k pc = some (.newarray t, np)) (hla : H.length = a) (ht : atyOf t = some q) (hn : decide (n < 0) = false) (hN : n.toNatClampNeg = N) (hb : N ≤ 60000) (hC : a + 1 ≤ P.capC) (hz : hsz P H = z) (hS : z + N ≤ P.capS) (hH : H ++ [newC q N] = H1) (h : Eval P k np L (.ref a :: r) H1 out) : Eval P k pc L (.int n :: r) H out := by
  subst hla hN hz
  have hq : (!(decide (n < 0)) && Nat.ble n.toNatClampNeg 60000 && Nat.ble (H.length + 1) P.capC && Nat.ble (hsz P H + n.toNatClampNeg) P.capS) = true := by
    simp only [hn, Bool.not_false, Bool.true_and, Bool.and_eq_true]
    exact ⟨⟨Nat.ble_eq_true_of_le hb, Nat.ble_eq_true_of_le hC⟩, Nat.ble_eq_true_of_le hS⟩
  exact Eval.of_step hc rfl rfl (by simp only [step, ht, hq, cond_true, hH]) h
theorem Eval.new {j q a z : Nat} {H1 : AHeap} (hc : P.code k pc = some (.new j, np)) (hla : H.length = a) (ht : P.link (P.cls k) j = some (5, q)) (hC : a + 1 ≤ P.capC) (hz : hsz P H = z) (hS : z + P.objN ≤ P.capS) (hH : H ++ [.inl P.fresh] = H1) (h : Eval P k np L (.ref a :: S) H1 out) : Eval P k pc L S H out := by
  subst hla hz
  have hq : (Nat.ble (H.length + 1) P.capC && Nat.ble (hsz P H + P.objN) P.capS) = true := by
    simp only [Bool.and_eq_true]
    exact ⟨Nat.ble_eq_true_of_le hC, Nat.ble_eq_true_of_le hS⟩
  exact Eval.of_step hc rfl rfl (by simp only [step, ht, hq, cond_true, hH]) h
theorem Eval.objInit {j a : Nat} (hc : P.code k pc = some (.invokespecial j, np)) (hq : (isObjInit P k j && Nat.ble 1 (P.rf k) && Nat.ble (cats r + 12) (P.rl k)) = true) (h : Eval P k np L r H out) : Eval P k pc L (.ref a :: r) H out := by
  refine Eval.of_step hc rfl ?_ (by simp only [step, hq, cond_true]) h
  simp only [Bool.and_eq_true] at hq
  have h3 := hq.1.1
  unfold isObjInit at h3
  split at h3
  · rename_i kk hk
    simp [callV, poolOf, hk, kindOk]
  · cases h3
/-- the left knows at least what the right knows -/
def lw : ALoc → ALoc → Prop
  | [], b => b = []
  | a :: r, b => ∃ x r', b = x :: r' ∧ (x = none ∨ x = a) ∧ lw r r'
theorem lw.refl : ∀ L : ALoc, lw L L
  | [] => rfl
  | a :: r => ⟨a, r, rfl, Or.inr rfl, lw.refl r⟩
theorem lw.spec : ∀ {L L' : ALoc}, lw L L' → L.length = L'.length ∧ ∀ (i : Nat) v, L'[i]? = some (some v) → L[i]? = some (some v)
  | [], _, h => by cases h; exact ⟨rfl, fun i v q => by simp at q⟩
  | a :: r, _, ⟨x, r', e, h1, h2⟩ => by
    subst e
    obtain ⟨i1, i2⟩ := lw.spec h2
    refine ⟨by simp [i1], fun i v q => ?_⟩
    cases i with
    | zero =>
      simp only [List.getElem?_cons_zero, Option.some.injEq] at q ⊢
      rcases h1 with rfl | rfl
      · cases q
      · exact q
    | succ i => rw [List.getElem?_cons_succ] at q ⊢; exact i2 i v q
theorem lw.of : ∀ {L L' : ALoc}, L.length = L'.length → (∀ (i : Nat) v, L'[i]? = some (some v) → L[i]? = some (some v)) → lw L L'
  | [], L', h, _ => by cases L' with
    | nil => rfl
    | cons _ _ => simp at h
  | a :: r, L', h, q => by
    cases L' with
    | nil => simp at h
    | cons x r' =>
      refine ⟨x, r', rfl, ?_, lw.of (by simpa using h) fun i v e => ?_⟩
      · cases x with
        | none => exact Or.inl rfl
        | some v => have := q 0 v rfl; simp at this; exact Or.inr this.symm
      · have := q (i + 1) v (by rw [List.getElem?_cons_succ]; exact e); rwa [List.getElem?_cons_succ] at this
theorem lw.kill {L L' : ALoc} (h : lw L L') (i : Nat) : lw (kill1 L i) (kill1 L' i) := by
  obtain ⟨h1, h2⟩ := h.spec
  refine lw.of (by rw [kill1_len, kill1_len, h1]) fun j v q => ?_
  obtain ⟨q1, q2⟩ := kill1_get q
  have q3 := h2 _ _ q1
  unfold kill1
  split
  · exact q3
  · rename_i i
    split
    · rename_i x hx
      by_cases e : i = j
      · subst e; rw [hx] at q3; cases q3; exact absurd rfl (q2 rfl x)
      · rw [List.getElem?_set_ne e]; exact q3
    · exact q3
theorem lw.set {L L' : ALoc} (h : lw L L') (i : Nat) (x : Option Value) : lw (L.set i x) (L'.set i x) := by
  obtain ⟨h1, h2⟩ := h.spec
  refine lw.of (by simp [h1]) fun j v q => ?_
  rw [List.getElem?_set] at q ⊢
  split at q
  · rename_i e
    rw [if_pos e, h1]; exact q
  · rename_i e
    rw [if_neg e]; exact h2 _ _ q
theorem lw.put {L L' L1 : ALoc} (h : lw L L') {i : Nat} {v : Value} (hp : lput L' i v = some L1) : ∃ L2, lput L i v = some L2 ∧ lw L2 L1 := by
  unfold lput at hp ⊢
  rw [h.spec.1]
  rw [Bool.cond_eq_ite] at hp ⊢
  split at hp
  · rename_i hc
    cases hp; exact ⟨_, if_pos hc, (h.kill i).set i _⟩
  · cases hp
theorem lw.putL {L L' L1 : ALoc} (h : lw L L') {i : Nat} {v : Int64} (hp : lputL L' i v = some L1) : ∃ L2, lputL L i v = some L2 ∧ lw L2 L1 := by
  unfold lputL at hp ⊢
  rw [h.spec.1]
  rw [Bool.cond_eq_ite] at hp ⊢
  split at hp
  · rename_i hc
    cases hp; exact ⟨_, if_pos hc, ((h.kill i).set i _).set (i + 1) _⟩
  · cases hp
theorem lw.loadI {L L' : ALoc} (h : lw L L') {i : Nat} {x : Int32} (q : OwnX.loadI L' i = some x) : OwnX.loadI L i = some x := by
  unfold OwnX.loadI at q ⊢
  split at q
  · rename_i y hy
    rw [h.spec.2 _ _ hy]; exact q
  · cases q
theorem lw.loadJ {L L' : ALoc} (h : lw L L') {i : Nat} {x : Int64} (q : OwnX.loadJ L' i = some x) : OwnX.loadJ L i = some x := by
  unfold OwnX.loadJ at q ⊢
  split at q
  · rename_i y hy
    rw [h.spec.2 _ _ hy]; exact q
  · cases q
theorem lw.loadA {L L' : ALoc} (h : lw L L') {i x : Nat} (q : OwnX.loadA L' i = some x) : OwnX.loadA L i = some x := by
  unfold OwnX.loadA at q ⊢
  split at q
  · rename_i y hy
    rw [h.spec.2 _ _ hy]; exact q
  · cases q
set_option maxHeartbeats 4000000 in
theorem step_weak {i : Instr} {pc' : Nat} {S' : List Value} {H' : AHeap} {L1 : ALoc} (hw : lw L L') (h : step P k i np pc L' S H = some (pc', L1, S', H')) : ∃ L2, step P k i np pc L S H = some (pc', L2, S', H') ∧ lw L2 L1 := by
  cases i
  case iload_n n =>
    simp only [step] at h ⊢
    split at h
    · rename_i x hx
      rw [hw.loadI hx]; cases h; exact ⟨L, rfl, hw⟩
    · cases h
  case iload n =>
    simp only [step] at h ⊢
    split at h
    · rename_i x hx
      rw [hw.loadI hx]; cases h; exact ⟨L, rfl, hw⟩
    · cases h
  case lload_n n =>
    simp only [step] at h ⊢
    split at h
    · rename_i x hx
      rw [hw.loadJ hx]; cases h; exact ⟨L, rfl, hw⟩
    · cases h
  case lload n =>
    simp only [step] at h ⊢
    split at h
    · rename_i x hx
      rw [hw.loadJ hx]; cases h; exact ⟨L, rfl, hw⟩
    · cases h
  case aload_n n =>
    simp only [step] at h ⊢
    split at h
    · rename_i x hx
      rw [hw.loadA hx]; cases h; exact ⟨L, rfl, hw⟩
    · cases h
  case aload n =>
    simp only [step] at h ⊢
    split at h
    · rename_i x hx
      rw [hw.loadA hx]; cases h; exact ⟨L, rfl, hw⟩
    · cases h
  case istore_n n =>
    simp only [step] at h ⊢
    split at h
    · split at h
      · rename_i L3 hx
        obtain ⟨L2, e1, e2⟩ := hw.put hx
        cases h; exact ⟨L2, by simp only [e1], e2⟩
      · cases h
    · cases h
  case istore n =>
    simp only [step] at h ⊢
    split at h
    · split at h
      · rename_i L3 hx
        obtain ⟨L2, e1, e2⟩ := hw.put hx
        cases h; exact ⟨L2, by simp only [e1], e2⟩
      · cases h
    · cases h
  case astore_n n =>
    simp only [step] at h ⊢
    split at h
    · split at h
      · rename_i L3 hx
        obtain ⟨L2, e1, e2⟩ := hw.put hx
        cases h; exact ⟨L2, by simp only [e1], e2⟩
      · cases h
    · cases h
  case astore n =>
    simp only [step] at h ⊢
    split at h
    · split at h
      · rename_i L3 hx
        obtain ⟨L2, e1, e2⟩ := hw.put hx
        cases h; exact ⟨L2, by simp only [e1], e2⟩
      · cases h
    · cases h
  case lstore_n n =>
    simp only [step] at h ⊢
    split at h
    · split at h
      · rename_i L3 hx
        obtain ⟨L2, e1, e2⟩ := hw.putL hx
        cases h; exact ⟨L2, by simp only [e1], e2⟩
      · cases h
    · cases h
  case lstore n =>
    simp only [step] at h ⊢
    split at h
    · split at h
      · rename_i L3 hx
        obtain ⟨L2, e1, e2⟩ := hw.putL hx
        cases h; exact ⟨L2, by simp only [e1], e2⟩
      · cases h
    · cases h
  case iinc n c =>
    simp only [step] at h ⊢
    split at h
    · rename_i x hx
      rw [hw.loadI hx]
      split at h
      · rename_i L3 hp
        obtain ⟨L2, e1, e2⟩ := hw.put hp
        cases h; exact ⟨L2, by simp only [e1], e2⟩
      · cases h
    · cases h
  all_goals
    simp only [step, Bool.cond_eq_ite] at h ⊢
    repeat' (split at h)
  all_goals first
    | (cases h; done)
    | (simp only [Option.some.injEq, Prod.mk.injEq] at h; obtain ⟨rfl, rfl, rfl, rfl⟩ := h; refine ⟨L, ?_, hw⟩; first | rfl | (simp only [*, if_true, if_false]; done) | (simp [*]; done))
theorem run_weak : ∀ (n : Nat) {pc : Nat} {L L' : ALoc} {S : List Value} {H : AHeap} {out : Option Value × AHeap}, lw L L' → run P n k pc L' S H = some out → run P n k pc L S H = some out
  | 0, _, _, _, _, _, _, _, h => by simp [run] at h
  | n + 1, pc, L, L', S, H, out, hw, h => by
    rw [run] at h
    rw [run]
    split at h
    · cases h
    · rename_i i np hc
      try simp only [hc]
      split at h
      · rename_i v hv
        try simp only [hv]
        exact h
      · rename_i hv
        try simp only [hv]
        split at h
        · rename_i k' as rest hcall
          try simp only [hcall]
          split at h
          · rename_i v1 H1 h1
            try simp only [h1]
            exact run_weak n hw h
          · cases h
        · rename_i hcall
          try simp only [hcall]
          split at h
          · rename_i pc1 L1 S1 H1 h1
            obtain ⟨L2, e1, e2⟩ := step_weak hw h1
            simp only [e1]; exact run_weak n e2 h
          · cases h
theorem Eval.weak (hw : lw L L') (h : Eval P k pc L' S H out) : Eval P k pc L S H out := by
  obtain ⟨n, h⟩ := h
  exact ⟨n, run_weak n hw h⟩
end Rules
end Jvm.OwnX
namespace Jvm.OwnX
open Sem ClassFile Op Lib Jvm.Stand Jvm.Free Jvm.LawKit Jvm.RoadKit
/-! ## tables as lists -/
def findC : List (Nat × Instr × Nat) → Nat → Option (Instr × Nat)
  | [], _ => none
  | (q, x) :: r, pc => bif Nat.beq q pc then some x else findC r pc
abbrev CodeL := List (ByteArray × List (List (Nat × Instr × Nat)))
def codeAt (cs : CodeL) (k pc : Nat) : Option (Instr × Nat) := match cs[k]? with
  | some (_, ch) => (match ch[pc / 32]? with | some c => findC c pc | none => none)
  | none => none
def bcOf (cs : CodeL) (k : Nat) : ByteArray := match cs[k]? with | some (b, _) => b | none => ⟨#[]⟩
def okI (b : ByteArray) (e : Nat × Instr × Nat) : Bool := match decode b e.1 with
  | .ok (i, len) => decide (i = e.2.1) && Nat.beq (e.1 + len) e.2.2 && (Nat.beq (ilen i) 0 || Nat.beq len (ilen i))
  | _ => false
def okCs (cs : CodeL) : Bool := cs.all fun m => m.2.all fun c => c.all (okI m.1)
def tyCs (ty : ArrayType → Bool) (cs : CodeL) : Bool := cs.all fun m => m.2.all fun c => c.all fun e => match e.2.1 with | .newarray t => ty t | _ => true
theorem findC_mem : ∀ {l : List (Nat × Instr × Nat)} {pc : Nat} {x : Instr × Nat}, findC l pc = some x → (pc, x) ∈ l
  | [], pc, x, h => by cases h
  | (q, y) :: r, pc, x, h => by
    unfold findC at h
    cases hb : Nat.beq q pc
    · rw [hb] at h; exact List.mem_cons_of_mem _ (findC_mem h)
    · rw [hb] at h; cases h
      have : q = pc := Nat.eq_of_beq_eq_true hb
      subst this; exact List.mem_cons_self ..
theorem codeAt_mem {cs : CodeL} {k pc : Nat} {x : Instr × Nat} (h : codeAt cs k pc = some x) : ∃ m ∈ cs, bcOf cs k = m.1 ∧ ∃ c ∈ m.2, (pc, x) ∈ c := by
  unfold codeAt at h
  split at h
  · rename_i b ch hk
    split at h
    · rename_i c hc
      exact ⟨(b, ch), List.mem_of_getElem? hk, by simp [bcOf, hk], c, List.mem_of_getElem? hc, findC_mem h⟩
    · cases h
  · cases h
theorem code_ok {cs : CodeL} (h : okCs cs = true) {k pc : Nat} {i : Instr} {np : Nat} (hc : codeAt cs k pc = some (i, np)) : ∃ len, decode (bcOf cs k) pc = .ok (i, len) ∧ np = pc + len ∧ (ilen i = 0 ∨ len = ilen i) := by
  obtain ⟨m, h1, h2, c, h3, h4⟩ := codeAt_mem hc
  have q := List.all_eq_true.mp (List.all_eq_true.mp (List.all_eq_true.mp h m h1) c h3) _ h4
  unfold okI at q
  rw [h2]
  split at q
  · rename_i i' len hd
    simp only [Bool.and_eq_true, Bool.or_eq_true, decide_eq_true_eq] at q
    obtain ⟨⟨rfl, q2⟩, q3⟩ := q
    refine ⟨len, hd, (Nat.eq_of_beq_eq_true q2).symm, q3.elim (fun z => Or.inl (Nat.eq_of_beq_eq_true z)) fun z => Or.inr (Nat.eq_of_beq_eq_true z)⟩
  · cases q
theorem code_ty {ty : ArrayType → Bool} {cs : CodeL} (h : tyCs ty cs = true) {k pc : Nat} {t : ArrayType} {np : Nat} (hc : codeAt cs k pc = some (.newarray t, np)) : ty t = true := by
  obtain ⟨m, h1, h2, c, h3, h4⟩ := codeAt_mem hc
  exact List.all_eq_true.mp (List.all_eq_true.mp (List.all_eq_true.mp h m h1) c h3) _ h4
def lookT {α : Type} : List (Nat × Nat × α) → Nat → Nat → Option α
  | [], _, _ => none
  | (c', j', x) :: r, c, j => bif Nat.beq j' j && Nat.beq c' c then some x else lookT r c j
theorem lookT_mem {α : Type} : ∀ {l : List (Nat × Nat × α)} {c j : Nat} {x : α}, lookT l c j = some x → (c, j, x) ∈ l
  | [], c, j, x, h => by cases h
  | (c', j', y) :: r, c, j, x, h => by
    unfold lookT at h
    cases hb : (Nat.beq j' j && Nat.beq c' c)
    · rw [hb] at h; exact List.mem_cons_of_mem _ (lookT_mem h)
    · rw [hb] at h; cases h
      simp only [Bool.and_eq_true] at hb
      have h1 : j' = j := Nat.eq_of_beq_eq_true hb.1
      have h2 : c' = c := Nat.eq_of_beq_eq_true hb.2
      subst h1 h2; exact List.mem_cons_self ..
def AllP {α : Type} (p : α → Prop) : List α → Prop
  | [] => True
  | a :: r => p a ∧ AllP p r
theorem AllP.mem {α : Type} {p : α → Prop} : ∀ {l : List α}, AllP p l → ∀ a ∈ l, p a
  | [], _, a, h => nomatch h
  | _ :: _, ⟨h1, h2⟩, a, h => (List.mem_cons.mp h).elim (fun e => e ▸ h1) (AllP.mem h2 a)
def FldOk (P : Prog) (cn : Nat → String) (C : String) (Z : State) (a0 : Array Value) (e : Nat × Nat × Nat) : Prop := ∃ n d t fin, P.fields[e.2.2]? = some (n, d, t, fin) ∧ (Cond.fieldLink (cn e.1) e.2.1 C n d).before a0 Z = true
def FieldOk (C : String) (Z : State) (a0 : Array Value) (e : String × String × Nat × Bool) : Prop := (bif e.2.2.2 then (Cond.laysFinal C C e.1 e.2.1).before a0 Z else (Cond.lays C C e.1 e.2.1).before a0 Z) = true ∧ ∃ ty, parseFieldDescriptor e.2.1 = some ty ∧ tyOk e.2.2.1 ty = true ∧ defaultValue ty = dflt e.2.2.1
theorem good_of {cs : CodeL} {mi : Nat → MI} {links : List (Nat × Nat × Nat × Nat)} {flds : List (Nat × Nat × Nat)} {kons : List (Nat × Nat × Value)} {fields : List (String × String × Nat × Bool)} {objN ro cc cS : Nat} {nm : Nat → MethodName} {cn : Nat → String} {C : String} {Z : State} {a0 : Array Value} {ty : ArrayType → Bool} {P : Prog}
    (hP : P = (codeAt cs, mi, lookT links, lookT flds, lookT kons, fields, objN, ro, cc, cS)) (h1 : okCs cs = true) (h2 : AllP (FldOk P cn C Z a0) flds) (h3 : AllP (FieldOk C Z a0) fields) (h4 : (fields.map (·.1)).Nodup) (h5 : AllP (fun e => KonOk cn Z a0 e.1 e.2.1 e.2.2) kons)
    (h6 : (Cond.instantiable C objN).before a0 Z = true) (h7 : (Cond.initialized C).before a0 Z = true) (h8 : tyCs ty cs = true) (h8' : ∀ t, ty t = true → (Cond.arrayClass (newarray.typeOf t)).before a0 Z = true) (h9 : AllP (fun e => LinkOk P nm (bcOf cs) cn C Z a0 e.1 e.2.1 e.2.2.1 e.2.2.2) links) : Good P nm (bcOf cs) cn C Z a0 := by
  subst hP
  refine ⟨fun k pc i np h => code_ok h1 h, fun c j f h => h2.mem _ (lookT_mem h), fun f n d t fin h => h3.mem _ (List.mem_of_getElem? h), fun f g n d t fin n' d' t' fin' q1 q2 ne e => ?_, fun c j v h => h5.mem _ (lookT_mem h), h6, h7, fun k pc t np h => h8' _ (code_ty h8 h), fun c j q k h => h9.mem _ (lookT_mem h)⟩
  subst e
  have e1 : (fields.map (·.1))[f]? = some n := by rw [List.getElem?_map]; exact congrArg (Option.map (·.1)) q1
  have e2 : (fields.map (·.1))[g]? = some n := by rw [List.getElem?_map]; exact congrArg (Option.map (·.1)) q2
  exact ne ((List.getElem?_inj (List.getElem?_eq_some_iff.mp e1).1 h4).mp (e1.trans e2.symm))
/-! ## what the walks of functions use -/
theorem ite_some {α : Type} {c : Prop} [Decidable c] {a : Option α} {r : α} (h : (if c then a else none) = some r) : c ∧ a = some r := by
  by_cases hc : c
  · rw [if_pos hc] at h; exact ⟨hc, h⟩
  · rw [if_neg hc] at h; cases h
theorem ite_none {α : Type} {c : Prop} [Decidable c] {a : Option α} {r : α} (h : (if c then none else a) = some r) : ¬ c ∧ a = some r := by
  by_cases hc : c
  · rw [if_pos hc] at h; cases h
  · rw [if_neg hc] at h; exact ⟨hc, h⟩
theorem bind_some {α β : Type} {o : Option α} {f : α → Option β} {r : β} (h : o.bind f = some r) : ∃ a, o = some a ∧ f a = some r := Option.bind_eq_some_iff.mp h
section Calls
variable {P : Prog} {k pc np : Nat} {L L' : ALoc} {S S' : List Value} {H H1 : AHeap} {out : Option Value × AHeap} {i : Instr} {k' : Nat} {as rest : List Value}
theorem Eval.callI {x : Int32} (hc : P.code k pc = some (i, np)) (h2 : callV P k i S H = some (k', as, rest)) (he : Eval P k' 0 (entry P k' as) [] H (some (.int x), H1)) (h : Eval P k np L (.int x :: rest) H1 out) : Eval P k pc L S H out := Eval.call hc h2 he h
theorem Eval.callJ {x : Int64} (hc : P.code k pc = some (i, np)) (h2 : callV P k i S H = some (k', as, rest)) (he : Eval P k' 0 (entry P k' as) [] H (some (.long x), H1)) (h : Eval P k np L (.long x :: rest) H1 out) : Eval P k pc L S H out := Eval.call hc h2 he h
theorem Eval.callN (hc : P.code k pc = some (i, np)) (h2 : callV P k i S H = some (k', as, rest)) (he : Eval P k' 0 (entry P k' as) [] H (none, H1)) (h : Eval P k np L rest H1 out) : Eval P k pc L S H out := Eval.call hc h2 he h
theorem Eval.conv (h : Eval P k pc L S H out) (e1 : L = L') (e2 : S = S') : Eval P k pc L' S' H out := e1 ▸ e2 ▸ h
theorem Eval.heap {H' : AHeap} (e : H' = H) (h : Eval P k pc L S H' out) : Eval P k pc L S H out := e ▸ h
theorem Eval.retH {H' : AHeap} {v : Option Value} (e : H' = H) (hc : P.code k pc = some (i, np)) (h1 : retV P k i S = some v) : Eval P k pc L S H (v, H') := e ▸ Eval.ret hc h1
end Calls
end Jvm.OwnX
namespace Jvm.OwnX
open Sem ClassFile Op Lib Jvm.Stand Jvm.Free Jvm.LawKit Jvm.RoadKit
theorem HR.none (P : Prog) (C : String) (Z : State) (n0 : Nat) (h : Heap) : HR P C Z n0 [] [] h := ⟨rfl, fun i j a q => by simp at q, fun i a q => by simp at q, fun i c q => by simp at q⟩
def intOf : Value → Int32
  | .int x => x
  | _ => 0
theorem script_start {P : Prog} {C : String} {s : State} {a : Addr} {c : Cell} (hro : P.ro = 1) (hf : Fit s) (A : Arr s s.heap a c .int) : HR P C s s.heap.size [a] [.inr (.inl (0, c.slots.toList.map intOf))] s.heap := by
  have hlt := (Array.getElem?_eq_some_iff.mp A.1).1
  have hint : ∀ i (hi : i < c.slots.size), ∃ x, c.slots[i] = .int x := fun i hi => by
    have q := hf A.1 hi
    obtain ⟨hs, k, hk, comp, hkind⟩ := A.2.1
    have e : s.slotType? c.cls c.vm i = some .int := by
      cases hq : c.vm <;> first | exact absurd hq (hs _) | simp [State.slotType?, hk, hkind]
    have q2 : fits .int c.slots[i] = true := by simpa [State.fitsSlot, e] using q
    exact fit_I q2 (Or.inl rfl)
  refine ⟨rfl, fun i j x q1 q2 => ?_, fun i x q => ?_, fun i d q => ?_⟩
  · cases i with
    | zero => cases j with
      | zero => rfl
      | succ j => simp at q2
    | succ i => simp at q1
  · cases i with
    | zero => simp at q; subst q; exact ⟨hlt, fun h => by rw [hro] at h; omega⟩
    | succ i => simp at q
  · cases i with
    | zero =>
      simp at q; subst q
      refine ⟨a, rfl, c, A, by simp, fun j x hx => ?_⟩
      rw [List.getElem?_map] at hx
      obtain ⟨v, hv, rfl⟩ := Option.map_eq_some_iff.mp hx
      rw [Array.getElem?_toList] at hv
      obtain ⟨hj, rfl⟩ := Array.getElem?_eq_some_iff.mp hv
      obtain ⟨x, e⟩ := hint j hj
      rw [Array.getElem?_eq_getElem hj, e]; rfl
    | succ i => simp at q
end Jvm.OwnX
namespace Jvm.OwnX
/-! ## plain facts on the functions' words -/
theorem len_wr (xs : List Int32) (j v : Int32) : (wr xs j v).length = xs.length := by simp [wr]
theorem len_wrL (xs : List Int64) (j : Int32) (v : Int64) : (wrL xs j v).length = xs.length := by simp [wrL]
theorem rd_wr_same {xs : List Int32} {j : Int32} (h : inb xs.length j = true) (v : Int32) : rd (wr xs j v) j = v := by
  have := inb_lt h
  simp [rd, wr, List.getD_eq_getElem?_getD, this]
theorem rdL_wrL_same {xs : List Int64} {j : Int32} (h : inb xs.length j = true) (v : Int64) : rdL (wrL xs j v) j = v := by
  have := inb_lt h
  simp [rdL, wrL, List.getD_eq_getElem?_getD, this]
theorem nat_inj {i j : Int32} (hi : ¬ i < 0) (hj : ¬ j < 0) (h : i.toNatClampNeg = j.toNatClampNeg) : i = j := by
  apply Int32.toInt_inj.mp
  simp only [Int32.lt_iff_toInt_lt, Int32.toNatClampNeg, Int32.reduceToInt] at hi hj h; omega
theorem inb_nn {n : Nat} {j : Int32} (h : inb n j = true) : ¬ j < 0 := fun q => inb_spec h (Or.inl q)
theorem rd_wr_ne {xs : List Int32} {i j : Int32} (hi : ¬ i < 0) (hj : ¬ j < 0) (h : i ≠ j) (v : Int32) : rd (wr xs i v) j = rd xs j := by
  have : i.toNatClampNeg ≠ j.toNatClampNeg := fun q => h (nat_inj hi hj q)
  simp [rd, wr, List.getD_eq_getElem?_getD, List.getElem?_set_ne this]
theorem rdL_wrL_ne {xs : List Int64} {i j : Int32} (hi : ¬ i < 0) (hj : ¬ j < 0) (h : i ≠ j) (v : Int64) : rdL (wrL xs i v) j = rdL xs j := by
  have : i.toNatClampNeg ≠ j.toNatClampNeg := fun q => h (nat_inj hi hj q)
  simp [rdL, wrL, List.getD_eq_getElem?_getD, List.getElem?_set_ne this]
theorem rd_rep (n : Nat) (j : Int32) : rd (List.replicate n 0) j = 0 := by
  simp only [rd, List.getD_eq_getElem?_getD, List.getElem?_replicate]; split <;> rfl
theorem rdL_rep (n : Nat) (j : Int32) : rdL (List.replicate n 0) j = 0 := by
  simp only [rdL, List.getD_eq_getElem?_getD, List.getElem?_replicate]; split <;> rfl
theorem inb_iff {n : Nat} {j : Int32} : inb n j = true ↔ 0 ≤ j.toInt ∧ j.toInt < n := by
  simp only [inb, Bool.and_eq_true, Bool.not_eq_true', decide_eq_false_iff_not, Int32.lt_iff_toInt_lt, Int32.reduceToInt]
  constructor
  · rintro ⟨h1, h2⟩
    have h3 := Nat.le_of_ble_eq_true h2
    simp only [Int32.toNatClampNeg] at h3
    omega
  · rintro ⟨h1, h2⟩
    refine ⟨by omega, Nat.ble_eq_true_of_le ?_⟩
    simp only [Int32.toNatClampNeg]; omega
theorem lt32 {x y : Int32} : x < y ↔ x.toInt < y.toInt := Int32.lt_iff_toInt_lt
theorem eq32 {x y : Int32} : x = y ↔ x.toInt = y.toInt := Int32.toInt_inj.symm
end Jvm.OwnX
namespace Jvm.Pilot.@@N@@
open Jvm Jvm.ClassFile Sem Op Lib Jvm.Free Jvm.Stand Jvm.LawKit Jvm.RoadKit Bundle Jvm.Pilot.@@N@@.Jvm.D Jvm.OwnX
/-! # tables (printed by gen.py out of the claim's listing and sheet) -/
set_option maxHeartbeats 4000000 in
set_option maxRecDepth 100000 in
def own_cs : CodeL := [
  (code, [
    [(0, .new 7, 3), (3, .dup, 4), (4, .iconst 4, 5), (5, .invokespecial 9, 8), (8, .astore_n 1, 9), (9, .iconst 0, 10), (10, .istore_n 2, 11), (11, .iconst 0, 12), (12, .istore_n 3, 13), (13, .iconst 0, 14), (14, .istore 4, 16), (16, .iconst 0, 17), (17, .istore 5, 19), (19, .iconst 0, 20), (20, .istore 6, 22), (22, .iconst 0, 23), (23, .istore 7, 25), (25, .iconst 0, 26), (26, .istore 8, 28), (28, .iconst (-1), 29), (29, .istore 9, 31), (31, .iconst (-1), 32)],
    [(32, .istore 10, 34), (34, .iconst (-1), 35), (35, .istore 11, 37), (37, .iconst (-1), 38), (38, .istore 12, 40), (40, .lconst 0, 41), (41, .lstore 13, 43), (43, .iconst 0, 44), (44, .istore 15, 46), (46, .iload 15, 48), (48, .iconst 3, 49), (49, .iadd, 50), (50, .aload_n 0, 51), (51, .arraylength, 52), (52, .if_icmp .ge 799, 55), (55, .aload_n 0, 56), (56, .iload 15, 58), (58, .iaload, 59), (59, .iconst 3, 60), (60, .iand, 61), (61, .istore 16, 63), (63, .aload_n 0, 64)],
    [(64, .iload 15, 66), (66, .iconst 1, 67), (67, .iadd, 68), (68, .iaload, 69), (69, .sipush 255, 72), (72, .iand, 73), (73, .iconst 5, 74), (74, .irem, 75), (75, .istore 17, 77), (77, .aload_n 0, 78), (78, .iload 15, 80), (80, .iconst 2, 81), (81, .iadd, 82), (82, .iaload, 83), (83, .sipush 255, 86), (86, .iand, 87), (87, .iconst 3, 88), (88, .irem, 89), (89, .istore 18, 91), (91, .aload_n 0, 92), (92, .iload 15, 94), (94, .iconst 3, 95), (95, .iadd, 96)],
    [(96, .iaload, 97), (97, .bipush 7, 99), (99, .iand, 100), (100, .istore 19, 102), (102, .aload_n 1, 103), (103, .iload 17, 105), (105, .invokevirtual 12, 108), (108, .istore 20, 110), (110, .aload_n 1, 111), (111, .iload 17, 113), (113, .invokevirtual 16, 116), (116, .istore 21, 118), (118, .aload_n 1, 119), (119, .iload 17, 121), (121, .invokevirtual 19, 124), (124, .istore 22, 126), (126, .iload 17, 128)],
    [(128, .iconst 3, 129), (129, .if_icmp .gt 12, 132), (132, .iload 20, 134), (134, .ifCond .eq 7, 137), (137, .iconst 1, 138), (138, .goto 4, 141), (141, .iconst 0, 142), (142, .istore 23, 144), (144, .iload 16, 146), (146, .ifCond .ne 185, 149), (149, .aload_n 1, 150), (150, .iload 17, 152), (152, .iload 18, 154), (154, .iload 19, 156), (156, .invokevirtual 22, 159), (159, .istore 24, 161)],
    [(161, .iload 17, 163), (163, .iconst 3, 164), (164, .if_icmp .gt 14, 167), (167, .iload 18, 169), (169, .iconst 1, 170), (170, .if_icmp .gt 8, 173), (173, .iload 20, 175), (175, .ifCond .eq 12, 178), (178, .iload 24, 180), (180, .bipush (-2), 182), (182, .if_icmp .eq 146, 185), (185, .iconst 0, 186), (186, .ireturn, 187), (187, .iinc 2 1, 190), (190, .lload 13, 192)],
    [(192, .ldc2_w 26, 195), (195, .bipush 8, 197), (197, .iload 17, 199), (199, .imul, 200), (200, .lshl, 201), (201, .ldc2_w 28, 204), (204, .lxor, 205), (205, .land, 206), (206, .iload 19, 208), (208, .i2l, 209), (209, .bipush 8, 211), (211, .iload 17, 213), (213, .imul, 214), (214, .lshl, 215), (215, .lor, 216), (216, .lstore 13, 218), (218, .iload 18, 220), (220, .ifCond .ne 8, 223), (223, .iload 7, 225)],
    [(225, .goto 5, 228), (228, .iload 8, 230), (230, .istore 25, 232), (232, .iload 24, 234), (234, .iload 25, 236), (236, .ifCond .ne 7, 239), (239, .iconst 3, 240), (240, .goto 4, 243), (243, .iconst 1, 244), (244, .if_icmp .eq 5, 247), (247, .iconst 0, 248), (248, .ireturn, 249), (249, .iload 18, 251), (251, .ifCond .ne 25, 254), (254, .iinc 7 1, 257)],
    [(257, .iload 25, 259), (259, .ifCond .ne 36, 262), (262, .iinc 3 1, 265), (265, .iload 17, 267), (267, .istore 9, 269), (269, .iload 17, 271), (271, .istore 11, 273), (273, .goto 22, 276), (276, .iinc 8 1, 279), (279, .iload 25, 281), (281, .ifCond .ne 14, 284), (284, .iinc 4 1, 287), (287, .iload 17, 289)],
    [(289, .istore 10, 291), (291, .iload 17, 293), (293, .istore 12, 295), (295, .aload_n 1, 296), (296, .iload 17, 298), (298, .invokevirtual 19, 301), (301, .ifCond .ne 25, 304), (304, .aload_n 1, 305), (305, .iload 17, 307), (307, .invokevirtual 16, 310), (310, .iload 18, 312), (312, .if_icmp .ne 14, 315), (315, .aload_n 1, 316), (316, .iload 17, 318), (318, .invokevirtual 12, 321)],
    [(321, .iload 24, 323), (323, .if_icmp .eq 5, 326), (326, .iconst 0, 327), (327, .ireturn, 328), (328, .goto 331, 331), (331, .iload 16, 333), (333, .iconst 2, 334), (334, .if_icmp .ne 150, 337), (337, .aload_n 1, 338), (338, .iload 17, 340), (340, .invokevirtual 30, 343), (343, .istore 24, 345), (345, .iload 17, 347), (347, .iconst 3, 348), (348, .if_icmp .gt 9, 351), (351, .iload 20, 353)],
    [(353, .iconst 3, 354), (354, .if_icmp .eq 12, 357), (357, .iload 24, 359), (359, .bipush (-2), 361), (361, .if_icmp .eq 120, 364), (364, .iconst 0, 365), (365, .ireturn, 366), (366, .iinc 2 1, 369), (369, .iload 21, 371), (371, .ifCond .ne 16, 374), (374, .iinc 7 (-1), 377), (377, .iload 7, 379), (379, .istore 25, 381), (381, .iconst (-1), 382), (382, .istore 9, 384)],
    [(384, .goto 13, 387), (387, .iinc 8 (-1), 390), (390, .iload 8, 392), (392, .istore 25, 394), (394, .iconst (-1), 395), (395, .istore 10, 397), (397, .iload 25, 399), (399, .ifCond .ne 11, 402), (402, .iload 24, 404), (404, .iconst (-1), 405), (405, .if_icmp .eq 55, 408), (408, .iconst 0, 409), (409, .ireturn, 410), (410, .iload 24, 412), (412, .ifCond .lt 46, 415), (415, .iload 24, 417)],
    [(417, .iconst 3, 418), (418, .if_icmp .gt 40, 421), (421, .iload 24, 423), (423, .iload 17, 425), (425, .if_icmp .eq 33, 428), (428, .aload_n 1, 429), (429, .iload 24, 431), (431, .invokevirtual 12, 434), (434, .iconst 2, 435), (435, .if_icmp .ne 23, 438), (438, .aload_n 1, 439), (439, .iload 24, 441), (441, .invokevirtual 16, 444), (444, .iload 21, 446), (446, .if_icmp .ne 12, 449)],
    [(449, .aload_n 1, 450), (450, .iload 24, 452), (452, .invokevirtual 33, 455), (455, .ifCond .eq 5, 458), (458, .iconst 0, 459), (459, .ireturn, 460), (460, .aload_n 1, 461), (461, .iload 17, 463), (463, .invokevirtual 12, 466), (466, .ifCond .ne 13, 469), (469, .aload_n 1, 470), (470, .iload 17, 472), (472, .invokevirtual 16, 475), (475, .iconst (-1), 476), (476, .if_icmp .eq 5, 479), (479, .iconst 0, 480)],
    [(480, .ireturn, 481), (481, .goto 178, 484), (484, .aload_n 1, 485), (485, .iload 17, 487), (487, .invokevirtual 36, 490), (490, .istore 24, 492), (492, .iload 23, 494), (494, .ifCond .ne 12, 497), (497, .iload 24, 499), (499, .bipush (-2), 501), (501, .if_icmp .eq 158, 504), (504, .iconst 0, 505), (505, .ireturn, 506), (506, .iinc 2 1, 509), (509, .iload 20, 511), (511, .iconst 2, 512)],
    [(512, .if_icmp .eq 9, 515), (515, .iload 20, 517), (517, .iconst 3, 518), (518, .if_icmp .ne 50, 521), (521, .iload 24, 523), (523, .iconst 3, 524), (524, .if_icmp .eq 5, 527), (527, .iconst 0, 528), (528, .ireturn, 529), (529, .iload 20, 531), (531, .iconst 2, 532), (532, .if_icmp .ne 127, 535), (535, .iload 21, 537), (537, .ifCond .ne 17, 540), (540, .iinc 3 1, 543), (543, .iload 17, 545)],
    [(545, .istore 9, 547), (547, .iload 17, 549), (549, .istore 11, 551), (551, .goto 108, 554), (554, .iinc 4 1, 557), (557, .iload 17, 559), (559, .istore 10, 561), (561, .iload 17, 563), (563, .istore 12, 565), (565, .goto 94, 568), (568, .lload 13, 570), (570, .bipush 8, 572), (572, .iload 17, 574), (574, .imul, 575), (575, .lushr, 576)],
    [(576, .ldc2_w 26, 579), (579, .land, 580), (580, .l2i, 581), (581, .istore 25, 583), (583, .iload 25, 585), (585, .ifCond .le 16, 588), (588, .iload 22, 590), (590, .iconst 1, 591), (591, .iadd, 592), (592, .iload 25, 594), (594, .if_icmp .lt 7, 597), (597, .iconst 1, 598), (598, .goto 4, 601), (601, .iconst 0, 602), (602, .istore 26, 604), (604, .iload 24, 606), (606, .iload 26, 608)],
    [(608, .ifCond .eq 7, 611), (611, .iconst 4, 612), (612, .goto 4, 615), (615, .iconst 1, 616), (616, .if_icmp .ne 16, 619), (619, .aload_n 1, 620), (620, .iload 17, 622), (622, .invokevirtual 19, 625), (625, .iload 22, 627), (627, .iconst 1, 628), (628, .iadd, 629), (629, .if_icmp .eq 5, 632), (632, .iconst 0, 633), (633, .ireturn, 634), (634, .iload 26, 636), (636, .ifCond .eq 23, 639), (639, .iload 21, 641)],
    [(641, .ifCond .ne 12, 644), (644, .iinc 7 (-1), 647), (647, .iinc 5 1, 650), (650, .goto 9, 653), (653, .iinc 8 (-1), 656), (656, .iinc 6 1, 659), (659, .aload_n 1, 660), (660, .invokevirtual 39, 663), (663, .iload_n 2, 664), (664, .if_icmp .ne 22, 667), (667, .aload_n 1, 668), (668, .iconst 0, 669), (669, .invokevirtual 43, 672)],
    [(672, .iload_n 3, 673), (673, .if_icmp .ne 13, 676), (676, .aload_n 1, 677), (677, .iconst 1, 678), (678, .invokevirtual 43, 681), (681, .iload 4, 683), (683, .if_icmp .eq 5, 686), (686, .iconst 0, 687), (687, .ireturn, 688), (688, .aload_n 1, 689), (689, .iconst 0, 690), (690, .invokevirtual 46, 693), (693, .iload 5, 695), (695, .if_icmp .ne 13, 698), (698, .aload_n 1, 699), (699, .iconst 1, 700), (700, .invokevirtual 46, 703), (703, .iload 6, 705)],
    [(705, .if_icmp .eq 5, 708), (708, .iconst 0, 709), (709, .ireturn, 710), (710, .aload_n 1, 711), (711, .iconst 0, 712), (712, .invokevirtual 49, 715), (715, .iload 7, 717), (717, .if_icmp .ne 13, 720), (720, .aload_n 1, 721), (721, .iconst 1, 722), (722, .invokevirtual 49, 725), (725, .iload 8, 727), (727, .if_icmp .eq 5, 730), (730, .iconst 0, 731), (731, .ireturn, 732), (732, .aload_n 1, 733), (733, .iconst 0, 734), (734, .invokevirtual 52, 737)],
    [(737, .iload 9, 739), (739, .if_icmp .ne 13, 742), (742, .aload_n 1, 743), (743, .iconst 1, 744), (744, .invokevirtual 52, 747), (747, .iload 10, 749), (749, .if_icmp .eq 5, 752), (752, .iconst 0, 753), (753, .ireturn, 754), (754, .iload_n 2, 755), (755, .iconst 1, 756), (756, .if_icmp .lt 34, 759), (759, .iload_n 2, 760), (760, .sipush 256, 763), (763, .if_icmp .gt 27, 766), (766, .aload_n 1, 767), (767, .iconst 0, 768)],
    [(768, .iload_n 2, 769), (769, .invokevirtual 55, 772), (772, .iload 9, 774), (774, .if_icmp .ne 14, 777), (777, .aload_n 1, 778), (778, .iconst 1, 779), (779, .iload_n 2, 780), (780, .invokevirtual 55, 783), (783, .iload 10, 785), (785, .if_icmp .eq 5, 788), (788, .iconst 0, 789), (789, .ireturn, 790), (790, .iload_n 3, 791), (791, .iconst 1, 792), (792, .if_icmp .lt 24, 795), (795, .iload_n 3, 796), (796, .bipush 64, 798), (798, .if_icmp .gt 18, 801)],
    [(801, .aload_n 1, 802), (802, .iconst 0, 803), (803, .iload_n 3, 804), (804, .iconst 1, 805), (805, .isub, 806), (806, .invokevirtual 59, 809), (809, .iload 11, 811), (811, .if_icmp .eq 5, 814), (814, .iconst 0, 815), (815, .ireturn, 816), (816, .iload 4, 818), (818, .iconst 1, 819), (819, .if_icmp .lt 26, 822), (822, .iload 4, 824), (824, .bipush 64, 826), (826, .if_icmp .gt 19, 829), (829, .aload_n 1, 830), (830, .iconst 1, 831), (831, .iload 4, 833)],
    [(833, .iconst 1, 834), (834, .isub, 835), (835, .invokevirtual 59, 838), (838, .iload 12, 840), (840, .if_icmp .eq 5, 843), (843, .iconst 0, 844), (844, .ireturn, 845), (845, .iinc 15 4, 848), (848, .goto (-802), 851), (851, .iconst 1, 852), (852, .ireturn, 853)]]),
  (prog_1_method_1_code, [
    [(0, .aload_n 0, 1), (1, .invokespecial 1, 4), (4, .aload_n 0, 5), (5, .bipush 8, 7), (7, .newarray .int, 9), (9, .putfield 7, 12), (12, .aload_n 0, 13), (13, .bipush 8, 15), (15, .newarray .int, 17), (17, .putfield 13, 20), (20, .aload_n 0, 21), (21, .bipush 8, 23), (23, .newarray .int, 25), (25, .putfield 16, 28), (28, .aload_n 0, 29), (29, .bipush 8, 31), (31, .newarray .int, 33)],
    [(33, .putfield 19, 36), (36, .aload_n 0, 37), (37, .bipush 8, 39), (39, .newarray .int, 41), (41, .putfield 22, 44), (44, .aload_n 0, 45), (45, .bipush 8, 47), (47, .newarray .int, 49), (49, .putfield 25, 52), (52, .aload_n 0, 53), (53, .iconst 2, 54), (54, .newarray .int, 56), (56, .putfield 28, 59), (59, .aload_n 0, 60), (60, .iconst 2, 61), (61, .newarray .int, 63), (63, .putfield 31, 66)],
    [(66, .aload_n 0, 67), (67, .iconst 2, 68), (68, .newarray .int, 70), (70, .putfield 34, 73), (73, .aload_n 0, 74), (74, .iconst 2, 75), (75, .newarray .int, 77), (77, .putfield 37, 80), (80, .aload_n 0, 81), (81, .iconst 2, 82), (82, .newarray .int, 84), (84, .putfield 40, 87), (87, .aload_n 0, 88), (88, .sipush 128, 91), (91, .newarray .int, 93), (93, .putfield 43, 96)],
    [(96, .aload_n 0, 97), (97, .sipush 512, 100), (100, .newarray .int, 102), (102, .putfield 46, 105), (105, .iload_n 1, 106), (106, .istore_n 2, 107), (107, .iload_n 2, 108), (108, .iconst 2, 109), (109, .if_icmp .ge 5, 112), (112, .iconst 2, 113), (113, .istore_n 2, 114), (114, .iload_n 2, 115), (115, .bipush 8, 117), (117, .if_icmp .le 6, 120), (120, .bipush 8, 122), (122, .istore_n 2, 123), (123, .aload_n 0, 124), (124, .iload_n 2, 125), (125, .putfield 49, 128)],
    [(128, .aload_n 0, 129), (129, .iconst 0, 130), (130, .putfield 53, 133), (133, .iconst 0, 134), (134, .istore_n 3, 135), (135, .iload_n 3, 136), (136, .bipush 8, 138), (138, .if_icmp .ge 37, 141), (141, .aload_n 0, 142), (142, .getfield 7, 145), (145, .iload_n 3, 146), (146, .iconst 0, 147), (147, .iastore, 148), (148, .aload_n 0, 149), (149, .getfield 13, 152), (152, .iload_n 3, 153), (153, .iconst (-1), 154), (154, .iastore, 155), (155, .aload_n 0, 156), (156, .getfield 22, 159), (159, .iload_n 3, 160)],
    [(160, .iconst (-1), 161), (161, .iastore, 162), (162, .aload_n 0, 163), (163, .getfield 25, 166), (166, .iload_n 3, 167), (167, .iconst (-1), 168), (168, .iastore, 169), (169, .iinc 3 1, 172), (172, .goto (-37), 175), (175, .iconst 0, 176), (176, .istore_n 3, 177), (177, .iload_n 3, 178), (178, .iconst 2, 179), (179, .if_icmp .ge 23, 182), (182, .aload_n 0, 183), (183, .getfield 28, 186), (186, .iload_n 3, 187), (187, .iconst (-1), 188), (188, .iastore, 189), (189, .aload_n 0, 190), (190, .getfield 31, 193)],
    [(193, .iload_n 3, 194), (194, .iconst (-1), 195), (195, .iastore, 196), (196, .iinc 3 1, 199), (199, .goto (-22), 202), (202, .iconst 0, 203), (203, .istore_n 3, 204), (204, .iload_n 3, 205), (205, .sipush 512, 208), (208, .if_icmp .ge 16, 211), (211, .aload_n 0, 212), (212, .getfield 46, 215), (215, .iload_n 3, 216), (216, .iconst (-1), 217), (217, .iastore, 218), (218, .iinc 3 1, 221), (221, .goto (-17), 224)],
    [(224, .return_, 225)]]),
  (prog_1_method_19_code, [
    [(0, .aload_n 0, 1), (1, .iload_n 1, 2), (2, .invokevirtual 70, 5), (5, .ifCond .ne 6, 8), (8, .bipush (-2), 10), (10, .ireturn, 11), (11, .aload_n 0, 12), (12, .getfield 7, 15), (15, .iload_n 1, 16), (16, .iaload, 17), (17, .ireturn, 18)]]),
  (prog_1_method_2_code, [
    [(0, .iload_n 1, 1), (1, .ifCond .lt 15, 4), (4, .iload_n 1, 5), (5, .aload_n 0, 6), (6, .getfield 49, 9), (9, .if_icmp .ge 7, 12), (12, .iconst 1, 13), (13, .goto 4, 16), (16, .iconst 0, 17), (17, .ireturn, 18)]]),
  (prog_1_method_20_code, [
    [(0, .aload_n 0, 1), (1, .iload_n 1, 2), (2, .invokevirtual 70, 5), (5, .ifCond .ne 6, 8), (8, .bipush (-2), 10), (10, .ireturn, 11), (11, .aload_n 0, 12), (12, .getfield 13, 15), (15, .iload_n 1, 16), (16, .iaload, 17), (17, .ireturn, 18)]]),
  (prog_1_method_25_code, [
    [(0, .aload_n 0, 1), (1, .iload_n 1, 2), (2, .invokevirtual 70, 5), (5, .ifCond .ne 6, 8), (8, .bipush (-2), 10), (10, .ireturn, 11), (11, .aload_n 0, 12), (12, .getfield 19, 15), (15, .iload_n 1, 16), (16, .iaload, 17), (17, .ireturn, 18)]]),
  (prog_1_method_15_code, [
    [(0, .aload_n 0, 1), (1, .iload_n 1, 2), (2, .invokevirtual 70, 5), (5, .ifCond .ne 6, 8), (8, .bipush (-2), 10), (10, .ireturn, 11), (11, .aload_n 0, 12), (12, .getfield 7, 15), (15, .iload_n 1, 16), (16, .iaload, 17), (17, .ifCond .ne 6, 20), (20, .bipush (-2), 22), (22, .ireturn, 23), (23, .aload_n 0, 24), (24, .aload_n 0, 25), (25, .getfield 53, 28), (28, .iconst 1, 29), (29, .iadd, 30), (30, .putfield 53, 33)],
    [(33, .aload_n 0, 34), (34, .getfield 13, 37), (37, .iload_n 1, 38), (38, .iaload, 39), (39, .istore_n 2, 40), (40, .aload_n 0, 41), (41, .getfield 7, 44), (44, .iload_n 1, 45), (45, .iaload, 46), (46, .istore_n 3, 47), (47, .iconst 3, 48), (48, .istore 4, 50), (50, .iload_n 3, 51), (51, .iconst 2, 52), (52, .if_icmp .ne 19, 55), (55, .aload_n 0, 56), (56, .getfield 7, 59), (59, .iload_n 1, 60), (60, .iconst 3, 61), (61, .iastore, 62), (62, .aload_n 0, 63), (63, .iload_n 1, 64)],
    [(64, .iload_n 2, 65), (65, .invokevirtual 83, 68), (68, .goto 16, 71), (71, .iload_n 3, 72), (72, .iconst 1, 73), (73, .if_icmp .ne 11, 76), (76, .aload_n 0, 77), (77, .iload_n 1, 78), (78, .iload_n 2, 79), (79, .invokevirtual 92, 82), (82, .istore 4, 84), (84, .aload_n 0, 85), (85, .invokevirtual 86, 88), (88, .iload 4, 90), (90, .ireturn, 91)]]),
  (prog_1_method_29_code, [
    [(0, .aload_n 0, 1), (1, .getfield 53, 4), (4, .ireturn, 5)]]),
  (prog_1_method_26_code, [
    [(0, .aload_n 0, 1), (1, .iload_n 1, 2), (2, .invokevirtual 73, 5), (5, .ifCond .ne 6, 8), (8, .bipush (-2), 10), (10, .ireturn, 11), (11, .aload_n 0, 12), (12, .getfield 37, 15), (15, .iload_n 1, 16), (16, .iaload, 17), (17, .ireturn, 18)]]),
  (prog_1_method_3_code, [
    [(0, .iload_n 1, 1), (1, .ifCond .eq 8, 4), (4, .iload_n 1, 5), (5, .iconst 1, 6), (6, .if_icmp .ne 7, 9), (9, .iconst 1, 10), (10, .goto 4, 13), (13, .iconst 0, 14), (14, .ireturn, 15)]]),
  (prog_1_method_28_code, [
    [(0, .aload_n 0, 1), (1, .iload_n 1, 2), (2, .invokevirtual 73, 5), (5, .ifCond .ne 6, 8), (8, .bipush (-2), 10), (10, .ireturn, 11), (11, .aload_n 0, 12), (12, .getfield 40, 15), (15, .iload_n 1, 16), (16, .iaload, 17), (17, .ireturn, 18)]]),
  (prog_1_method_24_code, [
    [(0, .aload_n 0, 1), (1, .iload_n 1, 2), (2, .invokevirtual 73, 5), (5, .ifCond .ne 6, 8), (8, .bipush (-2), 10), (10, .ireturn, 11), (11, .aload_n 0, 12), (12, .getfield 34, 15), (15, .iload_n 1, 16), (16, .iaload, 17), (17, .ireturn, 18)]]),
  (prog_1_method_17_code, [
    [(0, .aload_n 0, 1), (1, .iload_n 1, 2), (2, .invokevirtual 73, 5), (5, .ifCond .ne 6, 8), (8, .bipush (-2), 10), (10, .ireturn, 11), (11, .aload_n 0, 12), (12, .getfield 28, 15), (15, .iload_n 1, 16), (16, .iaload, 17), (17, .istore_n 2, 18), (18, .aload_n 0, 19), (19, .iload_n 2, 20), (20, .invokevirtual 60, 23), (23, .ifCond .eq 15, 26), (26, .aload_n 0, 27), (27, .getfield 7, 30), (30, .iload_n 2, 31), (31, .iaload, 32)],
    [(32, .iconst 3, 33), (33, .if_icmp .ne 5, 36), (36, .iload_n 2, 37), (37, .ireturn, 38), (38, .iconst (-1), 39), (39, .ireturn, 40)]]),
  (prog_1_method_4_code, [
    [(0, .iload_n 1, 1), (1, .ifCond .lt 13, 4), (4, .iload_n 1, 5), (5, .bipush 8, 7), (7, .if_icmp .ge 7, 10), (10, .iconst 1, 11), (11, .goto 4, 14), (14, .iconst 0, 15), (15, .ireturn, 16)]]),
  (prog_1_method_13_code, [
    [(0, .aload_n 0, 1), (1, .iload_n 1, 2), (2, .invokevirtual 70, 5), (5, .ifCond .ne 6, 8), (8, .bipush (-2), 10), (10, .ireturn, 11), (11, .aload_n 0, 12), (12, .iload_n 2, 13), (13, .invokevirtual 73, 16), (16, .ifCond .ne 6, 19), (19, .bipush (-2), 21), (21, .ireturn, 22), (22, .aload_n 0, 23), (23, .getfield 7, 26), (26, .iload_n 1, 27), (27, .iaload, 28), (28, .ifCond .eq 6, 31), (31, .bipush (-2), 33)],
    [(33, .ireturn, 34), (34, .aload_n 0, 35), (35, .aload_n 0, 36), (36, .getfield 53, 39), (39, .iconst 1, 40), (40, .iadd, 41), (41, .putfield 53, 44), (44, .aload_n 0, 45), (45, .getfield 16, 48), (48, .iload_n 1, 49), (49, .aload_n 0, 50), (50, .iload_n 3, 51), (51, .invokevirtual 76, 54), (54, .iastore, 55), (55, .aload_n 0, 56), (56, .getfield 19, 59), (59, .iload_n 1, 60), (60, .iconst 0, 61), (61, .iastore, 62), (62, .aload_n 0, 63), (63, .getfield 13, 66)],
    [(66, .iload_n 1, 67), (67, .iload_n 2, 68), (68, .iastore, 69), (69, .aload_n 0, 70), (70, .getfield 34, 73), (73, .iload_n 2, 74), (74, .iaload, 75), (75, .ifCond .ne 28, 78), (78, .aload_n 0, 79), (79, .iload_n 1, 80), (80, .iload_n 2, 81), (81, .invokevirtual 79, 84), (84, .aload_n 0, 85), (85, .getfield 7, 88), (88, .iload_n 1, 89), (89, .iconst 3, 90), (90, .iastore, 91), (91, .aload_n 0, 92), (92, .iload_n 1, 93), (93, .iload_n 2, 94), (94, .invokevirtual 83, 97)],
    [(97, .iconst 3, 98), (98, .istore 4, 100), (100, .goto 19, 103), (103, .aload_n 0, 104), (104, .iload_n 1, 105), (105, .iload_n 2, 106), (106, .invokevirtual 79, 109), (109, .aload_n 0, 110), (110, .getfield 7, 113), (113, .iload_n 1, 114), (114, .iconst 1, 115), (115, .iastore, 116), (116, .iconst 1, 117), (117, .istore 4, 119), (119, .aload_n 0, 120), (120, .invokevirtual 86, 123), (123, .iload 4, 125), (125, .ireturn, 126)]]),
  (prog_1_method_5_code, [
    [(0, .iload_n 1, 1), (1, .ifCond .ge 5, 4), (4, .iconst 0, 5), (5, .ireturn, 6), (6, .iload_n 1, 7), (7, .bipush 50, 9), (9, .if_icmp .le 6, 12), (12, .bipush 50, 14), (14, .ireturn, 15), (15, .iload_n 1, 16), (16, .ireturn, 17)]]),
  (prog_1_method_8_code, [
    [(0, .aload_n 0, 1), (1, .getfield 31, 4), (4, .iload_n 2, 5), (5, .iaload, 6), (6, .istore_n 3, 7), (7, .iload_n 2, 8), (8, .ifCond .ne 28, 11), (11, .aload_n 0, 12), (12, .getfield 22, 15), (15, .iload_n 1, 16), (16, .iconst (-1), 17), (17, .iastore, 18), (18, .aload_n 0, 19), (19, .iload_n 3, 20), (20, .invokevirtual 60, 23), (23, .ifCond .eq 20, 26), (26, .aload_n 0, 27), (27, .getfield 22, 30), (30, .iload_n 3, 31), (31, .iload_n 1, 32)],
    [(32, .iastore, 33), (33, .goto 10, 36), (36, .aload_n 0, 37), (37, .getfield 25, 40), (40, .iload_n 1, 41), (41, .iload_n 3, 42), (42, .iastore, 43), (43, .iload_n 3, 44), (44, .iconst (-1), 45), (45, .if_icmp .ne 10, 48), (48, .aload_n 0, 49), (49, .getfield 28, 52), (52, .iload_n 2, 53), (53, .iload_n 1, 54), (54, .iastore, 55), (55, .aload_n 0, 56), (56, .getfield 31, 59), (59, .iload_n 2, 60), (60, .iload_n 1, 61), (61, .iastore, 62), (62, .aload_n 0, 63), (63, .getfield 34, 66)],
    [(66, .iload_n 2, 67), (67, .aload_n 0, 68), (68, .getfield 34, 71), (71, .iload_n 2, 72), (72, .iaload, 73), (73, .iconst 1, 74), (74, .iadd, 75), (75, .iastore, 76), (76, .return_, 77)]]),
  (prog_1_method_6_code, [
    [(0, .aload_n 0, 1), (1, .getfield 37, 4), (4, .iload_n 2, 5), (5, .iaload, 6), (6, .istore_n 3, 7), (7, .iload_n 3, 8), (8, .ifCond .lt 21, 11), (11, .iload_n 3, 12), (12, .bipush 64, 14), (14, .if_icmp .ge 15, 17), (17, .aload_n 0, 18), (18, .getfield 43, 21), (21, .iload_n 2, 22), (22, .bipush 64, 24), (24, .imul, 25), (25, .iload_n 3, 26), (26, .iadd, 27), (27, .iload_n 1, 28), (28, .iastore, 29), (29, .aload_n 0, 30), (30, .getfield 37, 33)],
    [(33, .iload_n 2, 34), (34, .iload_n 3, 35), (35, .iconst 1, 36), (36, .iadd, 37), (37, .iastore, 38), (38, .return_, 39)]]),
  (prog_1_method_7_code, [
    [(0, .aload_n 0, 1), (1, .getfield 53, 4), (4, .iconst 1, 5), (5, .if_icmp .lt 53, 8), (8, .aload_n 0, 9), (9, .getfield 53, 12), (12, .sipush 256, 15), (15, .if_icmp .gt 43, 18), (18, .aload_n 0, 19), (19, .iconst 0, 20), (20, .invokevirtual 56, 23), (23, .istore_n 1, 24), (24, .aload_n 0, 25), (25, .iconst 1, 26), (26, .invokevirtual 56, 29), (29, .istore_n 2, 30), (30, .aload_n 0, 31), (31, .getfield 46, 34)],
    [(34, .aload_n 0, 35), (35, .getfield 53, 38), (38, .iconst 1, 39), (39, .isub, 40), (40, .iload_n 1, 41), (41, .iastore, 42), (42, .aload_n 0, 43), (43, .getfield 46, 46), (46, .sipush 256, 49), (49, .aload_n 0, 50), (50, .getfield 53, 53), (53, .iadd, 54), (54, .iconst 1, 55), (55, .isub, 56), (56, .iload_n 2, 57), (57, .iastore, 58), (58, .return_, 59)]]),
  (prog_1_method_18_code, [
    [(0, .aload_n 0, 1), (1, .iload_n 1, 2), (2, .invokevirtual 73, 5), (5, .ifCond .ne 6, 8), (8, .bipush (-2), 10), (10, .ireturn, 11), (11, .iload_n 2, 12), (12, .iconst 1, 13), (13, .if_icmp .lt 18, 16), (16, .iload_n 2, 17), (17, .aload_n 0, 18), (18, .getfield 53, 21), (21, .if_icmp .gt 10, 24), (24, .iload_n 2, 25), (25, .sipush 256, 28), (28, .if_icmp .le 6, 31), (31, .bipush (-2), 33)],
    [(33, .ireturn, 34), (34, .aload_n 0, 35), (35, .getfield 46, 38), (38, .iload_n 1, 39), (39, .sipush 256, 42), (42, .imul, 43), (43, .iload_n 2, 44), (44, .iadd, 45), (45, .iconst 1, 46), (46, .isub, 47), (47, .iaload, 48), (48, .ireturn, 49)]]),
  (prog_1_method_27_code, [
    [(0, .aload_n 0, 1), (1, .iload_n 1, 2), (2, .invokevirtual 73, 5), (5, .ifCond .ne 6, 8), (8, .bipush (-2), 10), (10, .ireturn, 11), (11, .iload_n 2, 12), (12, .ifCond .lt 19, 15), (15, .iload_n 2, 16), (16, .aload_n 0, 17), (17, .getfield 37, 20), (20, .iload_n 1, 21), (21, .iaload, 22), (22, .if_icmp .ge 9, 25), (25, .iload_n 2, 26), (26, .bipush 64, 28), (28, .if_icmp .lt 6, 31), (31, .bipush (-2), 33)],
    [(33, .ireturn, 34), (34, .aload_n 0, 35), (35, .getfield 43, 38), (38, .iload_n 1, 39), (39, .bipush 64, 41), (41, .imul, 42), (42, .iload_n 2, 43), (43, .iadd, 44), (44, .iaload, 45), (45, .ireturn, 46)]]),
  (prog_1_method_16_code, [
    [(0, .aload_n 0, 1), (1, .iload_n 1, 2), (2, .invokevirtual 70, 5), (5, .ifCond .ne 6, 8), (8, .bipush (-2), 10), (10, .ireturn, 11), (11, .aload_n 0, 12), (12, .getfield 7, 15), (15, .iload_n 1, 16), (16, .iaload, 17), (17, .iconst 3, 18), (18, .if_icmp .eq 6, 21), (21, .bipush (-2), 23), (23, .ireturn, 24), (24, .aload_n 0, 25), (25, .aload_n 0, 26), (26, .getfield 53, 29), (29, .iconst 1, 30), (30, .iadd, 31), (31, .putfield 53, 34)],
    [(34, .aload_n 0, 35), (35, .getfield 13, 38), (38, .iload_n 1, 39), (39, .iaload, 40), (40, .istore_n 2, 41), (41, .aload_n 0, 42), (42, .iload_n 2, 43), (43, .invokevirtual 96, 46), (46, .istore_n 3, 47), (47, .aload_n 0, 48), (48, .getfield 7, 51), (51, .iload_n 1, 52), (52, .iconst 0, 53), (53, .iastore, 54), (54, .aload_n 0, 55), (55, .getfield 13, 58), (58, .iload_n 1, 59), (59, .iconst (-1), 60), (60, .iastore, 61), (61, .aload_n 0, 62), (62, .iload_n 3, 63), (63, .invokevirtual 60, 66)],
    [(66, .ifCond .eq 10, 69), (69, .aload_n 0, 70), (70, .getfield 7, 73), (73, .iload_n 3, 74), (74, .iconst 2, 75), (75, .iastore, 76), (76, .aload_n 0, 77), (77, .invokevirtual 86, 80), (80, .iload_n 3, 81), (81, .ireturn, 82)]]),
  (prog_1_method_11_code, [
    [(0, .aload_n 0, 1), (1, .getfield 28, 4), (4, .iload_n 1, 5), (5, .iaload, 6), (6, .istore_n 2, 7), (7, .aload_n 0, 8), (8, .iload_n 2, 9), (9, .invokevirtual 60, 12), (12, .ifCond .ne 5, 15), (15, .iconst (-1), 16), (16, .ireturn, 17), (17, .iload_n 1, 18), (18, .ifCond .ne 20, 21), (21, .aload_n 0, 22), (22, .getfield 22, 25), (25, .iload_n 2, 26), (26, .iaload, 27), (27, .istore_n 3, 28), (28, .aload_n 0, 29), (29, .getfield 22, 32)],
    [(32, .iload_n 2, 33), (33, .iconst (-1), 34), (34, .iastore, 35), (35, .goto 31, 38), (38, .aload_n 0, 39), (39, .iload_n 2, 40), (40, .invokevirtual 64, 43), (43, .istore_n 3, 44), (44, .aload_n 0, 45), (45, .iload_n 3, 46), (46, .invokevirtual 60, 49), (49, .ifCond .eq 10, 52), (52, .aload_n 0, 53), (53, .getfield 25, 56), (56, .iload_n 3, 57), (57, .iconst (-1), 58), (58, .iastore, 59), (59, .aload_n 0, 60), (60, .getfield 25, 63), (63, .iload_n 2, 64)],
    [(64, .iconst (-1), 65), (65, .iastore, 66), (66, .aload_n 0, 67), (67, .getfield 28, 70), (70, .iload_n 1, 71), (71, .iload_n 3, 72), (72, .iastore, 73), (73, .iload_n 3, 74), (74, .iconst (-1), 75), (75, .if_icmp .ne 10, 78), (78, .aload_n 0, 79), (79, .getfield 31, 82), (82, .iload_n 1, 83), (83, .iconst (-1), 84), (84, .iastore, 85), (85, .aload_n 0, 86), (86, .getfield 34, 89), (89, .iload_n 1, 90), (90, .aload_n 0, 91), (91, .getfield 34, 94), (94, .iload_n 1, 95), (95, .iaload, 96)],
    [(96, .iconst 1, 97), (97, .isub, 98), (98, .iastore, 99), (99, .iload_n 3, 100), (100, .ireturn, 101)]]),
  (prog_1_method_9_code, [
    [(0, .iconst 0, 1), (1, .istore_n 2, 2), (2, .iload_n 2, 3), (3, .aload_n 0, 4), (4, .getfield 49, 7), (7, .if_icmp .ge 45, 10), (10, .iload_n 2, 11), (11, .iload_n 1, 12), (12, .if_icmp .eq 34, 15), (15, .aload_n 0, 16), (16, .getfield 13, 19), (19, .iload_n 2, 20), (20, .iaload, 21), (21, .iconst 1, 22), (22, .if_icmp .ne 24, 25), (25, .aload_n 0, 26), (26, .getfield 7, 29), (29, .iload_n 2, 30), (30, .iaload, 31), (31, .ifCond .eq 15, 34)],
    [(34, .aload_n 0, 35), (35, .getfield 25, 38), (38, .iload_n 2, 39), (39, .iaload, 40), (40, .iload_n 1, 41), (41, .if_icmp .ne 5, 44), (44, .iload_n 2, 45), (45, .ireturn, 46), (46, .iinc 2 1, 49), (49, .goto (-47), 52), (52, .iconst (-1), 53), (53, .ireturn, 54)]]),
  (prog_1_method_14_code, [
    [(0, .aload_n 0, 1), (1, .getfield 19, 4), (4, .iload_n 1, 5), (5, .aload_n 0, 6), (6, .getfield 19, 9), (9, .iload_n 1, 10), (10, .iaload, 11), (11, .iconst 1, 12), (12, .iadd, 13), (13, .iastore, 14), (14, .aload_n 0, 15), (15, .getfield 16, 18), (18, .iload_n 1, 19), (19, .iaload, 20), (20, .ifCond .le 54, 23), (23, .aload_n 0, 24), (24, .getfield 19, 27), (27, .iload_n 1, 28), (28, .iaload, 29), (29, .aload_n 0, 30), (30, .getfield 16, 33)],
    [(33, .iload_n 1, 34), (34, .iaload, 35), (35, .if_icmp .lt 39, 38), (38, .aload_n 0, 39), (39, .iload_n 1, 40), (40, .iload_n 2, 41), (41, .invokevirtual 89, 44), (44, .aload_n 0, 45), (45, .getfield 7, 48), (48, .iload_n 1, 49), (49, .iconst 0, 50), (50, .iastore, 51), (51, .aload_n 0, 52), (52, .getfield 13, 55), (55, .iload_n 1, 56), (56, .iconst (-1), 57), (57, .iastore, 58), (58, .aload_n 0, 59), (59, .getfield 40, 62), (62, .iload_n 2, 63), (63, .aload_n 0, 64)],
    [(64, .getfield 40, 67), (67, .iload_n 2, 68), (68, .iaload, 69), (69, .iconst 1, 70), (70, .iadd, 71), (71, .iastore, 72), (72, .iconst 4, 73), (73, .ireturn, 74), (74, .iconst 1, 75), (75, .ireturn, 76)]]),
  (prog_1_method_12_code, [
    [(0, .iload_n 2, 1), (1, .ifCond .ne 56, 4), (4, .aload_n 0, 5), (5, .iload_n 1, 6), (6, .invokevirtual 67, 9), (9, .istore_n 3, 10), (10, .aload_n 0, 11), (11, .iload_n 3, 12), (12, .invokevirtual 60, 15), (15, .ifCond .eq 15, 18), (18, .aload_n 0, 19), (19, .getfield 22, 22), (22, .iload_n 3, 23), (23, .aload_n 0, 24), (24, .getfield 22, 27), (27, .iload_n 1, 28), (28, .iaload, 29), (29, .iastore, 30), (30, .aload_n 0, 31), (31, .getfield 31, 34)],
    [(34, .iconst 0, 35), (35, .iaload, 36), (36, .iload_n 1, 37), (37, .if_icmp .ne 10, 40), (40, .aload_n 0, 41), (41, .getfield 31, 44), (44, .iconst 0, 45), (45, .iload_n 3, 46), (46, .iastore, 47), (47, .aload_n 0, 48), (48, .getfield 22, 51), (51, .iload_n 1, 52), (52, .iconst (-1), 53), (53, .iastore, 54), (54, .goto 58, 57), (57, .aload_n 0, 58), (58, .getfield 25, 61), (61, .iload_n 1, 62), (62, .iaload, 63), (63, .istore_n 3, 64)],
    [(64, .aload_n 0, 65), (65, .iload_n 1, 66), (66, .invokevirtual 64, 69), (69, .istore 4, 71), (71, .aload_n 0, 72), (72, .iload 4, 74), (74, .invokevirtual 60, 77), (77, .ifCond .eq 11, 80), (80, .aload_n 0, 81), (81, .getfield 25, 84), (84, .iload 4, 86), (86, .iload_n 3, 87), (87, .iastore, 88), (88, .aload_n 0, 89), (89, .getfield 31, 92), (92, .iconst 1, 93), (93, .iaload, 94), (94, .iload_n 1, 95), (95, .if_icmp .ne 10, 98)],
    [(98, .aload_n 0, 99), (99, .getfield 31, 102), (102, .iconst 1, 103), (103, .iload_n 3, 104), (104, .iastore, 105), (105, .aload_n 0, 106), (106, .getfield 25, 109), (109, .iload_n 1, 110), (110, .iconst (-1), 111), (111, .iastore, 112), (112, .aload_n 0, 113), (113, .getfield 34, 116), (116, .iload_n 2, 117), (117, .aload_n 0, 118), (118, .getfield 34, 121), (121, .iload_n 2, 122), (122, .iaload, 123), (123, .iconst 1, 124), (124, .isub, 125), (125, .iastore, 126), (126, .return_, 127)]]),
  (prog_1_method_10_code, [
    [(0, .aload_n 0, 1), (1, .getfield 28, 4), (4, .iconst 0, 5), (5, .iaload, 6), (6, .istore_n 2, 7), (7, .iconst 0, 8), (8, .istore_n 3, 9), (9, .iload_n 3, 10), (10, .bipush 8, 12), (12, .if_icmp .ge 38, 15), (15, .aload_n 0, 16), (16, .iload_n 2, 17), (17, .invokevirtual 60, 20), (20, .ifCond .ne 5, 23), (23, .iconst (-1), 24), (24, .ireturn, 25), (25, .aload_n 0, 26), (26, .getfield 22, 29), (29, .iload_n 2, 30), (30, .iaload, 31), (31, .iload_n 1, 32)],
    [(32, .if_icmp .ne 5, 35), (35, .iload_n 2, 36), (36, .ireturn, 37), (37, .aload_n 0, 38), (38, .getfield 22, 41), (41, .iload_n 2, 42), (42, .iaload, 43), (43, .istore_n 2, 44), (44, .iinc 3 1, 47), (47, .goto (-38), 50), (50, .iconst (-1), 51), (51, .ireturn, 52)]]),
  (prog_1_method_23_code, [
    [(0, .aload_n 0, 1), (1, .iload_n 1, 2), (2, .invokevirtual 70, 5), (5, .ifCond .ne 6, 8), (8, .bipush (-2), 10), (10, .ireturn, 11), (11, .aload_n 0, 12), (12, .getfield 7, 15), (15, .iload_n 1, 16), (16, .iaload, 17), (17, .ifCond .ne 5, 20), (20, .iconst (-1), 21), (21, .ireturn, 22), (22, .aload_n 0, 23), (23, .getfield 13, 26), (26, .iload_n 1, 27), (27, .iaload, 28), (28, .ifCond .ne 9, 31), (31, .aload_n 0, 32)],
    [(32, .iload_n 1, 33), (33, .invokevirtual 99, 36), (36, .ireturn, 37), (37, .aload_n 0, 38), (38, .iload_n 1, 39), (39, .invokevirtual 102, 42), (42, .ireturn, 43)]]),
  (prog_1_method_21_code, [
    [(0, .aload_n 0, 1), (1, .getfield 28, 4), (4, .iconst 0, 5), (5, .iaload, 6), (6, .istore_n 2, 7), (7, .iconst 0, 8), (8, .istore_n 3, 9), (9, .iload_n 3, 10), (10, .bipush 8, 12), (12, .if_icmp .ge 33, 15), (15, .iload_n 2, 16), (16, .iload_n 1, 17), (17, .if_icmp .ne 5, 20), (20, .iload_n 3, 21), (21, .ireturn, 22), (22, .aload_n 0, 23), (23, .iload_n 2, 24), (24, .invokevirtual 60, 27), (27, .ifCond .ne 5, 30), (30, .iconst (-1), 31), (31, .ireturn, 32)],
    [(32, .aload_n 0, 33), (33, .getfield 22, 36), (36, .iload_n 2, 37), (37, .iaload, 38), (38, .istore_n 2, 39), (39, .iinc 3 1, 42), (42, .goto (-33), 45), (45, .iconst (-1), 46), (46, .ireturn, 47)]]),
  (prog_1_method_22_code, [
    [(0, .aload_n 0, 1), (1, .getfield 25, 4), (4, .iload_n 1, 5), (5, .iaload, 6), (6, .istore_n 2, 7), (7, .iconst 0, 8), (8, .istore_n 3, 9), (9, .iconst 0, 10), (10, .istore 4, 12), (12, .iload 4, 14), (14, .bipush 8, 16), (16, .if_icmp .ge 29, 19), (19, .aload_n 0, 20), (20, .iload_n 2, 21), (21, .invokevirtual 60, 24), (24, .ifCond .ne 5, 27), (27, .iload_n 3, 28), (28, .ireturn, 29), (29, .iinc 3 1, 32)],
    [(32, .aload_n 0, 33), (33, .getfield 25, 36), (36, .iload_n 2, 37), (37, .iaload, 38), (38, .istore_n 2, 39), (39, .iinc 4 1, 42), (42, .goto (-30), 45), (45, .iload_n 3, 46), (46, .ireturn, 47)]])]
def own_mis : List MI := [(0, 27, 1, some .boolean, false, 8, 176), (1, 4, 2, none, true, 1, 12), (1, 2, 2, some .int, false, 1, 13), (1, 2, 2, some .boolean, false, 0, 0), (1, 2, 2, some .int, false, 1, 13), (1, 2, 2, some .int, false, 1, 13), (1, 5, 2, some .int, false, 4, 58), (1, 1, 1, some .int, false, 0, 0), (1, 2, 2, some .int, false, 1, 13), (1, 2, 2, some .boolean, false, 0, 0), (1, 2, 2, some .int, false, 1, 13), (1, 2, 2, some .int, false, 1, 13), (1, 3, 2, some .int, false, 1, 13), (1, 2, 2, some .boolean, false, 0, 0), (1, 5, 4, some .int, false, 3, 41), (1, 2, 2, some .int, false, 0, 0), (1, 4, 3, none, false, 1, 13), (1, 4, 3, none, false, 0, 0), (1, 3, 1, none, false, 2, 27), (1, 3, 3, some .int, false, 1, 13), (1, 3, 3, some .int, false, 1, 13), (1, 4, 2, some .int, false, 3, 41), (1, 4, 2, some .int, false, 1, 14), (1, 3, 2, some .int, false, 0, 0), (1, 3, 3, some .int, false, 3, 44), (1, 5, 3, none, false, 2, 28), (1, 4, 2, some .int, false, 1, 13), (1, 2, 2, some .int, false, 2, 29), (1, 4, 2, some .int, false, 1, 13), (1, 5, 2, some .int, false, 1, 13)]
def own_links : List (Nat × Nat × Nat × Nat) := [(0, 9, 1, 1), (1, 1, 4, 0), (0, 12, 2, 2), (1, 70, 3, 3), (0, 16, 2, 4), (0, 19, 2, 5), (0, 36, 2, 6), (0, 39, 2, 7), (0, 43, 2, 8), (1, 73, 3, 9), (0, 46, 2, 10), (0, 49, 2, 11), (0, 52, 2, 12), (1, 60, 3, 13), (0, 22, 2, 14), (1, 76, 3, 15), (1, 79, 3, 16), (1, 83, 3, 17), (1, 86, 3, 18), (1, 56, 2, 12), (0, 55, 2, 19), (0, 59, 2, 20), (0, 30, 2, 21), (1, 96, 3, 22), (1, 64, 3, 23), (1, 92, 3, 24), (1, 89, 3, 25), (1, 67, 3, 26), (0, 33, 2, 27), (1, 99, 3, 28), (1, 102, 3, 29), (0, 7, 5, 0)]
def own_flds : List (Nat × Nat × Nat) := [(1, 7, 0), (1, 13, 1), (1, 16, 2), (1, 19, 3), (1, 22, 4), (1, 25, 5), (1, 28, 6), (1, 31, 7), (1, 34, 8), (1, 37, 9), (1, 40, 10), (1, 43, 11), (1, 46, 12), (1, 49, 13), (1, 53, 14)]
def own_kons : List (Nat × Nat × Value) := [(0, 26, .long (255)), (0, 28, .long (-1))]
def own_fields : List (String × String × Nat × Bool) := [("st", "[I", 3, false), ("lk", "[I", 3, false), ("tmo", "[I", 3, false), ("spin", "[I", 3, false), ("nxt0", "[I", 3, false), ("prv1", "[I", 3, false), ("head", "[I", 3, false), ("tail", "[I", 3, false), ("len", "[I", 3, false), ("ent", "[I", 3, false), ("aband", "[I", 3, false), ("log", "[I", 3, false), ("hist", "[I", 3, false), ("n", "I", 0, false), ("clk", "I", 0, false)]
def own_P : Prog := (codeAt own_cs, fun k => own_mis.getD k (0, 0, 0, none, false, 0, 0), lookT own_links, lookT own_flds, lookT own_kons, own_fields, 15, 1, 41, 1536)
def own_nms : List MethodName := [⟨"QueueLocksL6", "law", "([I)Z"⟩, ⟨"QueueLocks", "<init>", "(I)V"⟩, ⟨"QueueLocks", "state", "(I)I"⟩, ⟨"QueueLocks", "validThread", "(I)Z"⟩, ⟨"QueueLocks", "lockOf", "(I)I"⟩, ⟨"QueueLocks", "spins", "(I)I"⟩, ⟨"QueueLocks", "step", "(I)I"⟩, ⟨"QueueLocks", "clock", "()I"⟩, ⟨"QueueLocks", "entries", "(I)I"⟩, ⟨"QueueLocks", "validLock", "(I)Z"⟩, ⟨"QueueLocks", "abandons", "(I)I"⟩, ⟨"QueueLocks", "queueLength", "(I)I"⟩, ⟨"QueueLocks", "holder", "(I)I"⟩, ⟨"QueueLocks", "inNodes", "(I)Z"⟩, ⟨"QueueLocks", "acquire", "(III)I"⟩, ⟨"QueueLocks", "clampTimeout", "(I)I"⟩, ⟨"QueueLocks", "append", "(II)V"⟩, ⟨"QueueLocks", "enter", "(II)V"⟩, ⟨"QueueLocks", "recordHistory", "()V"⟩, ⟨"QueueLocks", "holderAt", "(II)I"⟩, ⟨"QueueLocks", "entryAt", "(II)I"⟩, ⟨"QueueLocks", "release", "(I)I"⟩, ⟨"QueueLocks", "popFront", "(I)I"⟩, ⟨"QueueLocks", "successorClh", "(I)I"⟩, ⟨"QueueLocks", "spinOnce", "(II)I"⟩, ⟨"QueueLocks", "unlink", "(II)V"⟩, ⟨"QueueLocks", "predecessorMcs", "(I)I"⟩, ⟨"QueueLocks", "ahead", "(I)I"⟩, ⟨"QueueLocks", "aheadMcs", "(I)I"⟩, ⟨"QueueLocks", "aheadClh", "(I)I"⟩]
def own_nm (k : Nat) : MethodName := own_nms.getD k ⟨"", "", ""⟩
def own_cn (c : Nat) : String := match c with | 0 => "QueueLocksL6" | _ => "QueueLocks"
theorem own_pn0 : plainName "QueueLocksL6" = true := by first | (simp [plainName, overriddenIn]; done) | decide +kernel
theorem own_pn1 : plainName "QueueLocks" = true := by first | (simp [plainName, overriddenIn]; done) | decide +kernel
theorem own_ne0 : "QueueLocksL6" ≠ "java/lang/invoke/MethodHandle" ∧ "QueueLocksL6" ≠ "java/lang/invoke/VarHandle" := by decide
theorem own_ne1 : "QueueLocks" ≠ "java/lang/invoke/MethodHandle" ∧ "QueueLocks" ≠ "java/lang/invoke/VarHandle" := by decide
theorem own_pd0 : parseMethodDescriptor "(I)V" = some ⟨[.int], none⟩ := by decide +kernel
theorem own_pd1 : parseMethodDescriptor "(I)I" = some ⟨[.int], some .int⟩ := by decide +kernel
theorem own_pd2 : parseMethodDescriptor "(I)Z" = some ⟨[.int], some .boolean⟩ := by decide +kernel
theorem own_pd3 : parseMethodDescriptor "()I" = some ⟨[], some .int⟩ := by decide +kernel
theorem own_pd4 : parseMethodDescriptor "(III)I" = some ⟨[.int, .int, .int], some .int⟩ := by decide +kernel
theorem own_pd5 : parseMethodDescriptor "(II)V" = some ⟨[.int, .int], none⟩ := by decide +kernel
theorem own_pd6 : parseMethodDescriptor "()V" = some ⟨[], none⟩ := by decide +kernel
theorem own_pd7 : parseMethodDescriptor "(II)I" = some ⟨[.int, .int], some .int⟩ := by decide +kernel
set_option maxRecDepth 100000 in
theorem own_okcs : okCs own_cs = true := by decide +kernel
def own_ty (t : ArrayType) : Bool := decide (t = .int)
theorem own_tyok : tyCs own_ty own_cs = true := by decide +kernel
theorem own_nodup : (own_fields.map (·.1)).Nodup := by decide +kernel
set_option maxRecDepth 100000 in
set_option maxHeartbeats 4000000 in
theorem own_good {Z : State} {a0 : Array Value} (hw : ∀ d ∈ tables_1, d.before a0 Z = true) : Good own_P own_nm (bcOf own_cs) own_cn "QueueLocks" Z a0 := by
  refine good_of (ty := own_ty) rfl own_okcs ?_ ?_ own_nodup ?_ (hw _ (List.mem_of_getElem? (i := 1) rfl)) (hw _ (List.mem_of_getElem? (i := 2) rfl)) own_tyok ?_ ?_
  · exact ⟨⟨_, _, _, _, rfl, (hw _ (List.mem_of_getElem? (i := 10) rfl))⟩,
      ⟨_, _, _, _, rfl, (hw _ (List.mem_of_getElem? (i := 12) rfl))⟩,
      ⟨_, _, _, _, rfl, (hw _ (List.mem_of_getElem? (i := 14) rfl))⟩,
      ⟨_, _, _, _, rfl, (hw _ (List.mem_of_getElem? (i := 16) rfl))⟩,
      ⟨_, _, _, _, rfl, (hw _ (List.mem_of_getElem? (i := 18) rfl))⟩,
      ⟨_, _, _, _, rfl, (hw _ (List.mem_of_getElem? (i := 20) rfl))⟩,
      ⟨_, _, _, _, rfl, (hw _ (List.mem_of_getElem? (i := 22) rfl))⟩,
      ⟨_, _, _, _, rfl, (hw _ (List.mem_of_getElem? (i := 24) rfl))⟩,
      ⟨_, _, _, _, rfl, (hw _ (List.mem_of_getElem? (i := 26) rfl))⟩,
      ⟨_, _, _, _, rfl, (hw _ (List.mem_of_getElem? (i := 28) rfl))⟩,
      ⟨_, _, _, _, rfl, (hw _ (List.mem_of_getElem? (i := 30) rfl))⟩,
      ⟨_, _, _, _, rfl, (hw _ (List.mem_of_getElem? (i := 32) rfl))⟩,
      ⟨_, _, _, _, rfl, (hw _ (List.mem_of_getElem? (i := 34) rfl))⟩,
      ⟨_, _, _, _, rfl, (hw _ (List.mem_of_getElem? (i := 36) rfl))⟩,
      ⟨_, _, _, _, rfl, (hw _ (List.mem_of_getElem? (i := 38) rfl))⟩,
      trivial⟩
  · exact ⟨⟨(hw _ (List.mem_of_getElem? (i := 11) rfl)), .array .int, by decide, rfl, rfl⟩,
      ⟨(hw _ (List.mem_of_getElem? (i := 13) rfl)), .array .int, by decide, rfl, rfl⟩,
      ⟨(hw _ (List.mem_of_getElem? (i := 15) rfl)), .array .int, by decide, rfl, rfl⟩,
      ⟨(hw _ (List.mem_of_getElem? (i := 17) rfl)), .array .int, by decide, rfl, rfl⟩,
      ⟨(hw _ (List.mem_of_getElem? (i := 19) rfl)), .array .int, by decide, rfl, rfl⟩,
      ⟨(hw _ (List.mem_of_getElem? (i := 21) rfl)), .array .int, by decide, rfl, rfl⟩,
      ⟨(hw _ (List.mem_of_getElem? (i := 23) rfl)), .array .int, by decide, rfl, rfl⟩,
      ⟨(hw _ (List.mem_of_getElem? (i := 25) rfl)), .array .int, by decide, rfl, rfl⟩,
      ⟨(hw _ (List.mem_of_getElem? (i := 27) rfl)), .array .int, by decide, rfl, rfl⟩,
      ⟨(hw _ (List.mem_of_getElem? (i := 29) rfl)), .array .int, by decide, rfl, rfl⟩,
      ⟨(hw _ (List.mem_of_getElem? (i := 31) rfl)), .array .int, by decide, rfl, rfl⟩,
      ⟨(hw _ (List.mem_of_getElem? (i := 33) rfl)), .array .int, by decide, rfl, rfl⟩,
      ⟨(hw _ (List.mem_of_getElem? (i := 35) rfl)), .array .int, by decide, rfl, rfl⟩,
      ⟨(hw _ (List.mem_of_getElem? (i := 37) rfl)), .int, by decide, rfl, rfl⟩,
      ⟨(hw _ (List.mem_of_getElem? (i := 39) rfl)), .int, by decide, rfl, rfl⟩,
      trivial⟩
  · exact ⟨(hw _ (List.mem_of_getElem? (i := 119) rfl)),
      (hw _ (List.mem_of_getElem? (i := 120) rfl)),
      trivial⟩
  · intro t ht
    simp only [own_ty, Bool.or_eq_true, decide_eq_true_eq] at ht
    subst ht
    exact (hw _ (List.mem_of_getElem? (i := 9) rfl))
  · exact ⟨⟨(hw _ (List.mem_of_getElem? (i := 3) rfl)), (hw _ (List.mem_of_getElem? (i := 5) rfl)), (hw _ (List.mem_of_getElem? (i := 2) rfl)), ⟨_, _, own_pd0, rfl⟩, own_pn1, own_ne1, rfl, (fun _ => ⟨rfl, rfl⟩), ⟨rfl, (hw _ (List.mem_of_getElem? (i := 4) rfl)), rfl⟩⟩,
      ⟨(hw _ (List.mem_of_getElem? (i := 6) rfl)), (hw _ (List.mem_of_getElem? (i := 7) rfl)), (hw _ (List.mem_of_getElem? (i := 8) rfl))⟩,
      ⟨(hw _ (List.mem_of_getElem? (i := 40) rfl)), (hw _ (List.mem_of_getElem? (i := 44) rfl)), (hw _ (List.mem_of_getElem? (i := 2) rfl)), ⟨_, _, own_pd1, rfl⟩, own_pn1, own_ne1, rfl, (fun h => nomatch h), ⟨(hw _ (List.mem_of_getElem? (i := 41) rfl)), (hw _ (List.mem_of_getElem? (i := 42) rfl)), (hw _ (List.mem_of_getElem? (i := 43) rfl))⟩⟩,
      ⟨(hw _ (List.mem_of_getElem? (i := 45) rfl)), (hw _ (List.mem_of_getElem? (i := 48) rfl)), (hw _ (List.mem_of_getElem? (i := 2) rfl)), ⟨_, _, own_pd2, rfl⟩, own_pn1, own_ne1, rfl, (fun h => nomatch h), ⟨rfl, (hw _ (List.mem_of_getElem? (i := 46) rfl)), (hw _ (List.mem_of_getElem? (i := 47) rfl))⟩⟩,
      ⟨(hw _ (List.mem_of_getElem? (i := 49) rfl)), (hw _ (List.mem_of_getElem? (i := 53) rfl)), (hw _ (List.mem_of_getElem? (i := 2) rfl)), ⟨_, _, own_pd1, rfl⟩, own_pn1, own_ne1, rfl, (fun h => nomatch h), ⟨(hw _ (List.mem_of_getElem? (i := 50) rfl)), (hw _ (List.mem_of_getElem? (i := 51) rfl)), (hw _ (List.mem_of_getElem? (i := 52) rfl))⟩⟩,
      ⟨(hw _ (List.mem_of_getElem? (i := 54) rfl)), (hw _ (List.mem_of_getElem? (i := 58) rfl)), (hw _ (List.mem_of_getElem? (i := 2) rfl)), ⟨_, _, own_pd1, rfl⟩, own_pn1, own_ne1, rfl, (fun h => nomatch h), ⟨(hw _ (List.mem_of_getElem? (i := 55) rfl)), (hw _ (List.mem_of_getElem? (i := 56) rfl)), (hw _ (List.mem_of_getElem? (i := 57) rfl))⟩⟩,
      ⟨(hw _ (List.mem_of_getElem? (i := 59) rfl)), (hw _ (List.mem_of_getElem? (i := 63) rfl)), (hw _ (List.mem_of_getElem? (i := 2) rfl)), ⟨_, _, own_pd1, rfl⟩, own_pn1, own_ne1, rfl, (fun h => nomatch h), ⟨(hw _ (List.mem_of_getElem? (i := 60) rfl)), (hw _ (List.mem_of_getElem? (i := 61) rfl)), (hw _ (List.mem_of_getElem? (i := 62) rfl))⟩⟩,
      ⟨(hw _ (List.mem_of_getElem? (i := 64) rfl)), (hw _ (List.mem_of_getElem? (i := 68) rfl)), (hw _ (List.mem_of_getElem? (i := 2) rfl)), ⟨_, _, own_pd3, rfl⟩, own_pn1, own_ne1, rfl, (fun h => nomatch h), ⟨(hw _ (List.mem_of_getElem? (i := 65) rfl)), (hw _ (List.mem_of_getElem? (i := 66) rfl)), (hw _ (List.mem_of_getElem? (i := 67) rfl))⟩⟩,
      ⟨(hw _ (List.mem_of_getElem? (i := 69) rfl)), (hw _ (List.mem_of_getElem? (i := 73) rfl)), (hw _ (List.mem_of_getElem? (i := 2) rfl)), ⟨_, _, own_pd1, rfl⟩, own_pn1, own_ne1, rfl, (fun h => nomatch h), ⟨(hw _ (List.mem_of_getElem? (i := 70) rfl)), (hw _ (List.mem_of_getElem? (i := 71) rfl)), (hw _ (List.mem_of_getElem? (i := 72) rfl))⟩⟩,
      ⟨(hw _ (List.mem_of_getElem? (i := 74) rfl)), (hw _ (List.mem_of_getElem? (i := 77) rfl)), (hw _ (List.mem_of_getElem? (i := 2) rfl)), ⟨_, _, own_pd2, rfl⟩, own_pn1, own_ne1, rfl, (fun h => nomatch h), ⟨rfl, (hw _ (List.mem_of_getElem? (i := 75) rfl)), (hw _ (List.mem_of_getElem? (i := 76) rfl))⟩⟩,
      ⟨(hw _ (List.mem_of_getElem? (i := 78) rfl)), (hw _ (List.mem_of_getElem? (i := 82) rfl)), (hw _ (List.mem_of_getElem? (i := 2) rfl)), ⟨_, _, own_pd1, rfl⟩, own_pn1, own_ne1, rfl, (fun h => nomatch h), ⟨(hw _ (List.mem_of_getElem? (i := 79) rfl)), (hw _ (List.mem_of_getElem? (i := 80) rfl)), (hw _ (List.mem_of_getElem? (i := 81) rfl))⟩⟩,
      ⟨(hw _ (List.mem_of_getElem? (i := 83) rfl)), (hw _ (List.mem_of_getElem? (i := 87) rfl)), (hw _ (List.mem_of_getElem? (i := 2) rfl)), ⟨_, _, own_pd1, rfl⟩, own_pn1, own_ne1, rfl, (fun h => nomatch h), ⟨(hw _ (List.mem_of_getElem? (i := 84) rfl)), (hw _ (List.mem_of_getElem? (i := 85) rfl)), (hw _ (List.mem_of_getElem? (i := 86) rfl))⟩⟩,
      ⟨(hw _ (List.mem_of_getElem? (i := 88) rfl)), (hw _ (List.mem_of_getElem? (i := 92) rfl)), (hw _ (List.mem_of_getElem? (i := 2) rfl)), ⟨_, _, own_pd1, rfl⟩, own_pn1, own_ne1, rfl, (fun h => nomatch h), ⟨(hw _ (List.mem_of_getElem? (i := 89) rfl)), (hw _ (List.mem_of_getElem? (i := 90) rfl)), (hw _ (List.mem_of_getElem? (i := 91) rfl))⟩⟩,
      ⟨(hw _ (List.mem_of_getElem? (i := 93) rfl)), (hw _ (List.mem_of_getElem? (i := 96) rfl)), (hw _ (List.mem_of_getElem? (i := 2) rfl)), ⟨_, _, own_pd2, rfl⟩, own_pn1, own_ne1, rfl, (fun h => nomatch h), ⟨rfl, (hw _ (List.mem_of_getElem? (i := 94) rfl)), (hw _ (List.mem_of_getElem? (i := 95) rfl))⟩⟩,
      ⟨(hw _ (List.mem_of_getElem? (i := 97) rfl)), (hw _ (List.mem_of_getElem? (i := 101) rfl)), (hw _ (List.mem_of_getElem? (i := 2) rfl)), ⟨_, _, own_pd4, rfl⟩, own_pn1, own_ne1, rfl, (fun h => nomatch h), ⟨(hw _ (List.mem_of_getElem? (i := 98) rfl)), (hw _ (List.mem_of_getElem? (i := 99) rfl)), (hw _ (List.mem_of_getElem? (i := 100) rfl))⟩⟩,
      ⟨(hw _ (List.mem_of_getElem? (i := 102) rfl)), (hw _ (List.mem_of_getElem? (i := 105) rfl)), (hw _ (List.mem_of_getElem? (i := 2) rfl)), ⟨_, _, own_pd1, rfl⟩, own_pn1, own_ne1, rfl, (fun h => nomatch h), ⟨rfl, (hw _ (List.mem_of_getElem? (i := 103) rfl)), (hw _ (List.mem_of_getElem? (i := 104) rfl))⟩⟩,
      ⟨(hw _ (List.mem_of_getElem? (i := 106) rfl)), (hw _ (List.mem_of_getElem? (i := 109) rfl)), (hw _ (List.mem_of_getElem? (i := 2) rfl)), ⟨_, _, own_pd5, rfl⟩, own_pn1, own_ne1, rfl, (fun h => nomatch h), ⟨rfl, (hw _ (List.mem_of_getElem? (i := 107) rfl)), (hw _ (List.mem_of_getElem? (i := 108) rfl))⟩⟩,
      ⟨(hw _ (List.mem_of_getElem? (i := 110) rfl)), (hw _ (List.mem_of_getElem? (i := 113) rfl)), (hw _ (List.mem_of_getElem? (i := 2) rfl)), ⟨_, _, own_pd5, rfl⟩, own_pn1, own_ne1, rfl, (fun h => nomatch h), ⟨rfl, (hw _ (List.mem_of_getElem? (i := 111) rfl)), (hw _ (List.mem_of_getElem? (i := 112) rfl))⟩⟩,
      ⟨(hw _ (List.mem_of_getElem? (i := 114) rfl)), (hw _ (List.mem_of_getElem? (i := 117) rfl)), (hw _ (List.mem_of_getElem? (i := 2) rfl)), ⟨_, _, own_pd6, rfl⟩, own_pn1, own_ne1, rfl, (fun h => nomatch h), ⟨rfl, (hw _ (List.mem_of_getElem? (i := 115) rfl)), (hw _ (List.mem_of_getElem? (i := 116) rfl))⟩⟩,
      ⟨(hw _ (List.mem_of_getElem? (i := 118) rfl)), (hw _ (List.mem_of_getElem? (i := 92) rfl)), (hw _ (List.mem_of_getElem? (i := 2) rfl)), ⟨_, _, own_pd1, rfl⟩, own_pn1, own_ne1, rfl, (fun h => nomatch h), ⟨(hw _ (List.mem_of_getElem? (i := 89) rfl)), (hw _ (List.mem_of_getElem? (i := 90) rfl)), (hw _ (List.mem_of_getElem? (i := 91) rfl))⟩⟩,
      ⟨(hw _ (List.mem_of_getElem? (i := 121) rfl)), (hw _ (List.mem_of_getElem? (i := 125) rfl)), (hw _ (List.mem_of_getElem? (i := 2) rfl)), ⟨_, _, own_pd7, rfl⟩, own_pn1, own_ne1, rfl, (fun h => nomatch h), ⟨(hw _ (List.mem_of_getElem? (i := 122) rfl)), (hw _ (List.mem_of_getElem? (i := 123) rfl)), (hw _ (List.mem_of_getElem? (i := 124) rfl))⟩⟩,
      ⟨(hw _ (List.mem_of_getElem? (i := 126) rfl)), (hw _ (List.mem_of_getElem? (i := 130) rfl)), (hw _ (List.mem_of_getElem? (i := 2) rfl)), ⟨_, _, own_pd7, rfl⟩, own_pn1, own_ne1, rfl, (fun h => nomatch h), ⟨(hw _ (List.mem_of_getElem? (i := 127) rfl)), (hw _ (List.mem_of_getElem? (i := 128) rfl)), (hw _ (List.mem_of_getElem? (i := 129) rfl))⟩⟩,
      ⟨(hw _ (List.mem_of_getElem? (i := 131) rfl)), (hw _ (List.mem_of_getElem? (i := 135) rfl)), (hw _ (List.mem_of_getElem? (i := 2) rfl)), ⟨_, _, own_pd1, rfl⟩, own_pn1, own_ne1, rfl, (fun h => nomatch h), ⟨(hw _ (List.mem_of_getElem? (i := 132) rfl)), (hw _ (List.mem_of_getElem? (i := 133) rfl)), (hw _ (List.mem_of_getElem? (i := 134) rfl))⟩⟩,
      ⟨(hw _ (List.mem_of_getElem? (i := 136) rfl)), (hw _ (List.mem_of_getElem? (i := 139) rfl)), (hw _ (List.mem_of_getElem? (i := 2) rfl)), ⟨_, _, own_pd1, rfl⟩, own_pn1, own_ne1, rfl, (fun h => nomatch h), ⟨rfl, (hw _ (List.mem_of_getElem? (i := 137) rfl)), (hw _ (List.mem_of_getElem? (i := 138) rfl))⟩⟩,
      ⟨(hw _ (List.mem_of_getElem? (i := 140) rfl)), (hw _ (List.mem_of_getElem? (i := 143) rfl)), (hw _ (List.mem_of_getElem? (i := 2) rfl)), ⟨_, _, own_pd1, rfl⟩, own_pn1, own_ne1, rfl, (fun h => nomatch h), ⟨rfl, (hw _ (List.mem_of_getElem? (i := 141) rfl)), (hw _ (List.mem_of_getElem? (i := 142) rfl))⟩⟩,
      ⟨(hw _ (List.mem_of_getElem? (i := 144) rfl)), (hw _ (List.mem_of_getElem? (i := 147) rfl)), (hw _ (List.mem_of_getElem? (i := 2) rfl)), ⟨_, _, own_pd7, rfl⟩, own_pn1, own_ne1, rfl, (fun h => nomatch h), ⟨rfl, (hw _ (List.mem_of_getElem? (i := 145) rfl)), (hw _ (List.mem_of_getElem? (i := 146) rfl))⟩⟩,
      ⟨(hw _ (List.mem_of_getElem? (i := 148) rfl)), (hw _ (List.mem_of_getElem? (i := 151) rfl)), (hw _ (List.mem_of_getElem? (i := 2) rfl)), ⟨_, _, own_pd5, rfl⟩, own_pn1, own_ne1, rfl, (fun h => nomatch h), ⟨rfl, (hw _ (List.mem_of_getElem? (i := 149) rfl)), (hw _ (List.mem_of_getElem? (i := 150) rfl))⟩⟩,
      ⟨(hw _ (List.mem_of_getElem? (i := 152) rfl)), (hw _ (List.mem_of_getElem? (i := 155) rfl)), (hw _ (List.mem_of_getElem? (i := 2) rfl)), ⟨_, _, own_pd1, rfl⟩, own_pn1, own_ne1, rfl, (fun h => nomatch h), ⟨rfl, (hw _ (List.mem_of_getElem? (i := 153) rfl)), (hw _ (List.mem_of_getElem? (i := 154) rfl))⟩⟩,
      ⟨(hw _ (List.mem_of_getElem? (i := 156) rfl)), (hw _ (List.mem_of_getElem? (i := 160) rfl)), (hw _ (List.mem_of_getElem? (i := 2) rfl)), ⟨_, _, own_pd1, rfl⟩, own_pn1, own_ne1, rfl, (fun h => nomatch h), ⟨(hw _ (List.mem_of_getElem? (i := 157) rfl)), (hw _ (List.mem_of_getElem? (i := 158) rfl)), (hw _ (List.mem_of_getElem? (i := 159) rfl))⟩⟩,
      ⟨(hw _ (List.mem_of_getElem? (i := 161) rfl)), (hw _ (List.mem_of_getElem? (i := 164) rfl)), (hw _ (List.mem_of_getElem? (i := 2) rfl)), ⟨_, _, own_pd1, rfl⟩, own_pn1, own_ne1, rfl, (fun h => nomatch h), ⟨rfl, (hw _ (List.mem_of_getElem? (i := 162) rfl)), (hw _ (List.mem_of_getElem? (i := 163) rfl))⟩⟩,
      ⟨(hw _ (List.mem_of_getElem? (i := 165) rfl)), (hw _ (List.mem_of_getElem? (i := 168) rfl)), (hw _ (List.mem_of_getElem? (i := 2) rfl)), ⟨_, _, own_pd1, rfl⟩, own_pn1, own_ne1, rfl, (fun h => nomatch h), ⟨rfl, (hw _ (List.mem_of_getElem? (i := 166) rfl)), (hw _ (List.mem_of_getElem? (i := 167) rfl))⟩⟩,
      (hw _ (List.mem_of_getElem? (i := 0) rfl)),
      trivial⟩
/-! # the object's state -/
def Q : Type := List Int32 × List Int32 × List Int32 × List Int32 × List Int32 × List Int32 × List Int32 × List Int32 × List Int32 × List Int32 × List Int32 × List Int32 × List Int32 × Int32 × Int32
def Q.f_st (s : Q) : List Int32 := s.1
def Q.f_lk (s : Q) : List Int32 := s.2.1
def Q.f_tmo (s : Q) : List Int32 := s.2.2.1
def Q.f_spin (s : Q) : List Int32 := s.2.2.2.1
def Q.f_nxt0 (s : Q) : List Int32 := s.2.2.2.2.1
def Q.f_prv1 (s : Q) : List Int32 := s.2.2.2.2.2.1
def Q.f_head (s : Q) : List Int32 := s.2.2.2.2.2.2.1
def Q.f_tail (s : Q) : List Int32 := s.2.2.2.2.2.2.2.1
def Q.f_len (s : Q) : List Int32 := s.2.2.2.2.2.2.2.2.1
def Q.f_ent (s : Q) : List Int32 := s.2.2.2.2.2.2.2.2.2.1
def Q.f_aband (s : Q) : List Int32 := s.2.2.2.2.2.2.2.2.2.2.1
def Q.f_log (s : Q) : List Int32 := s.2.2.2.2.2.2.2.2.2.2.2.1
def Q.f_hist (s : Q) : List Int32 := s.2.2.2.2.2.2.2.2.2.2.2.2.1
def Q.f_n (s : Q) : Int32 := s.2.2.2.2.2.2.2.2.2.2.2.2.2.1
def Q.f_clk (s : Q) : Int32 := s.2.2.2.2.2.2.2.2.2.2.2.2.2.2
def Q.s_st (s : Q) (x : List Int32) : Q := (x, s.2.1, s.2.2.1, s.2.2.2.1, s.2.2.2.2.1, s.2.2.2.2.2.1, s.2.2.2.2.2.2.1, s.2.2.2.2.2.2.2.1, s.2.2.2.2.2.2.2.2.1, s.2.2.2.2.2.2.2.2.2.1, s.2.2.2.2.2.2.2.2.2.2.1, s.2.2.2.2.2.2.2.2.2.2.2.1, s.2.2.2.2.2.2.2.2.2.2.2.2.1, s.2.2.2.2.2.2.2.2.2.2.2.2.2.1, s.2.2.2.2.2.2.2.2.2.2.2.2.2.2)
def Q.s_lk (s : Q) (x : List Int32) : Q := (s.1, x, s.2.2.1, s.2.2.2.1, s.2.2.2.2.1, s.2.2.2.2.2.1, s.2.2.2.2.2.2.1, s.2.2.2.2.2.2.2.1, s.2.2.2.2.2.2.2.2.1, s.2.2.2.2.2.2.2.2.2.1, s.2.2.2.2.2.2.2.2.2.2.1, s.2.2.2.2.2.2.2.2.2.2.2.1, s.2.2.2.2.2.2.2.2.2.2.2.2.1, s.2.2.2.2.2.2.2.2.2.2.2.2.2.1, s.2.2.2.2.2.2.2.2.2.2.2.2.2.2)
def Q.s_tmo (s : Q) (x : List Int32) : Q := (s.1, s.2.1, x, s.2.2.2.1, s.2.2.2.2.1, s.2.2.2.2.2.1, s.2.2.2.2.2.2.1, s.2.2.2.2.2.2.2.1, s.2.2.2.2.2.2.2.2.1, s.2.2.2.2.2.2.2.2.2.1, s.2.2.2.2.2.2.2.2.2.2.1, s.2.2.2.2.2.2.2.2.2.2.2.1, s.2.2.2.2.2.2.2.2.2.2.2.2.1, s.2.2.2.2.2.2.2.2.2.2.2.2.2.1, s.2.2.2.2.2.2.2.2.2.2.2.2.2.2)
def Q.s_spin (s : Q) (x : List Int32) : Q := (s.1, s.2.1, s.2.2.1, x, s.2.2.2.2.1, s.2.2.2.2.2.1, s.2.2.2.2.2.2.1, s.2.2.2.2.2.2.2.1, s.2.2.2.2.2.2.2.2.1, s.2.2.2.2.2.2.2.2.2.1, s.2.2.2.2.2.2.2.2.2.2.1, s.2.2.2.2.2.2.2.2.2.2.2.1, s.2.2.2.2.2.2.2.2.2.2.2.2.1, s.2.2.2.2.2.2.2.2.2.2.2.2.2.1, s.2.2.2.2.2.2.2.2.2.2.2.2.2.2)
def Q.s_nxt0 (s : Q) (x : List Int32) : Q := (s.1, s.2.1, s.2.2.1, s.2.2.2.1, x, s.2.2.2.2.2.1, s.2.2.2.2.2.2.1, s.2.2.2.2.2.2.2.1, s.2.2.2.2.2.2.2.2.1, s.2.2.2.2.2.2.2.2.2.1, s.2.2.2.2.2.2.2.2.2.2.1, s.2.2.2.2.2.2.2.2.2.2.2.1, s.2.2.2.2.2.2.2.2.2.2.2.2.1, s.2.2.2.2.2.2.2.2.2.2.2.2.2.1, s.2.2.2.2.2.2.2.2.2.2.2.2.2.2)
def Q.s_prv1 (s : Q) (x : List Int32) : Q := (s.1, s.2.1, s.2.2.1, s.2.2.2.1, s.2.2.2.2.1, x, s.2.2.2.2.2.2.1, s.2.2.2.2.2.2.2.1, s.2.2.2.2.2.2.2.2.1, s.2.2.2.2.2.2.2.2.2.1, s.2.2.2.2.2.2.2.2.2.2.1, s.2.2.2.2.2.2.2.2.2.2.2.1, s.2.2.2.2.2.2.2.2.2.2.2.2.1, s.2.2.2.2.2.2.2.2.2.2.2.2.2.1, s.2.2.2.2.2.2.2.2.2.2.2.2.2.2)
def Q.s_head (s : Q) (x : List Int32) : Q := (s.1, s.2.1, s.2.2.1, s.2.2.2.1, s.2.2.2.2.1, s.2.2.2.2.2.1, x, s.2.2.2.2.2.2.2.1, s.2.2.2.2.2.2.2.2.1, s.2.2.2.2.2.2.2.2.2.1, s.2.2.2.2.2.2.2.2.2.2.1, s.2.2.2.2.2.2.2.2.2.2.2.1, s.2.2.2.2.2.2.2.2.2.2.2.2.1, s.2.2.2.2.2.2.2.2.2.2.2.2.2.1, s.2.2.2.2.2.2.2.2.2.2.2.2.2.2)
def Q.s_tail (s : Q) (x : List Int32) : Q := (s.1, s.2.1, s.2.2.1, s.2.2.2.1, s.2.2.2.2.1, s.2.2.2.2.2.1, s.2.2.2.2.2.2.1, x, s.2.2.2.2.2.2.2.2.1, s.2.2.2.2.2.2.2.2.2.1, s.2.2.2.2.2.2.2.2.2.2.1, s.2.2.2.2.2.2.2.2.2.2.2.1, s.2.2.2.2.2.2.2.2.2.2.2.2.1, s.2.2.2.2.2.2.2.2.2.2.2.2.2.1, s.2.2.2.2.2.2.2.2.2.2.2.2.2.2)
def Q.s_len (s : Q) (x : List Int32) : Q := (s.1, s.2.1, s.2.2.1, s.2.2.2.1, s.2.2.2.2.1, s.2.2.2.2.2.1, s.2.2.2.2.2.2.1, s.2.2.2.2.2.2.2.1, x, s.2.2.2.2.2.2.2.2.2.1, s.2.2.2.2.2.2.2.2.2.2.1, s.2.2.2.2.2.2.2.2.2.2.2.1, s.2.2.2.2.2.2.2.2.2.2.2.2.1, s.2.2.2.2.2.2.2.2.2.2.2.2.2.1, s.2.2.2.2.2.2.2.2.2.2.2.2.2.2)
def Q.s_ent (s : Q) (x : List Int32) : Q := (s.1, s.2.1, s.2.2.1, s.2.2.2.1, s.2.2.2.2.1, s.2.2.2.2.2.1, s.2.2.2.2.2.2.1, s.2.2.2.2.2.2.2.1, s.2.2.2.2.2.2.2.2.1, x, s.2.2.2.2.2.2.2.2.2.2.1, s.2.2.2.2.2.2.2.2.2.2.2.1, s.2.2.2.2.2.2.2.2.2.2.2.2.1, s.2.2.2.2.2.2.2.2.2.2.2.2.2.1, s.2.2.2.2.2.2.2.2.2.2.2.2.2.2)
def Q.s_aband (s : Q) (x : List Int32) : Q := (s.1, s.2.1, s.2.2.1, s.2.2.2.1, s.2.2.2.2.1, s.2.2.2.2.2.1, s.2.2.2.2.2.2.1, s.2.2.2.2.2.2.2.1, s.2.2.2.2.2.2.2.2.1, s.2.2.2.2.2.2.2.2.2.1, x, s.2.2.2.2.2.2.2.2.2.2.2.1, s.2.2.2.2.2.2.2.2.2.2.2.2.1, s.2.2.2.2.2.2.2.2.2.2.2.2.2.1, s.2.2.2.2.2.2.2.2.2.2.2.2.2.2)
def Q.s_log (s : Q) (x : List Int32) : Q := (s.1, s.2.1, s.2.2.1, s.2.2.2.1, s.2.2.2.2.1, s.2.2.2.2.2.1, s.2.2.2.2.2.2.1, s.2.2.2.2.2.2.2.1, s.2.2.2.2.2.2.2.2.1, s.2.2.2.2.2.2.2.2.2.1, s.2.2.2.2.2.2.2.2.2.2.1, x, s.2.2.2.2.2.2.2.2.2.2.2.2.1, s.2.2.2.2.2.2.2.2.2.2.2.2.2.1, s.2.2.2.2.2.2.2.2.2.2.2.2.2.2)
def Q.s_hist (s : Q) (x : List Int32) : Q := (s.1, s.2.1, s.2.2.1, s.2.2.2.1, s.2.2.2.2.1, s.2.2.2.2.2.1, s.2.2.2.2.2.2.1, s.2.2.2.2.2.2.2.1, s.2.2.2.2.2.2.2.2.1, s.2.2.2.2.2.2.2.2.2.1, s.2.2.2.2.2.2.2.2.2.2.1, s.2.2.2.2.2.2.2.2.2.2.2.1, x, s.2.2.2.2.2.2.2.2.2.2.2.2.2.1, s.2.2.2.2.2.2.2.2.2.2.2.2.2.2)
def Q.s_n (s : Q) (x : Int32) : Q := (s.1, s.2.1, s.2.2.1, s.2.2.2.1, s.2.2.2.2.1, s.2.2.2.2.2.1, s.2.2.2.2.2.2.1, s.2.2.2.2.2.2.2.1, s.2.2.2.2.2.2.2.2.1, s.2.2.2.2.2.2.2.2.2.1, s.2.2.2.2.2.2.2.2.2.2.1, s.2.2.2.2.2.2.2.2.2.2.2.1, s.2.2.2.2.2.2.2.2.2.2.2.2.1, x, s.2.2.2.2.2.2.2.2.2.2.2.2.2.2)
def Q.s_clk (s : Q) (x : Int32) : Q := (s.1, s.2.1, s.2.2.1, s.2.2.2.1, s.2.2.2.2.1, s.2.2.2.2.2.1, s.2.2.2.2.2.2.1, s.2.2.2.2.2.2.2.1, s.2.2.2.2.2.2.2.2.1, s.2.2.2.2.2.2.2.2.2.1, s.2.2.2.2.2.2.2.2.2.2.1, s.2.2.2.2.2.2.2.2.2.2.2.1, s.2.2.2.2.2.2.2.2.2.2.2.2.1, s.2.2.2.2.2.2.2.2.2.2.2.2.2.1, x)
def Q0 : Q := (List.replicate 8 0, List.replicate 8 0, List.replicate 8 0, List.replicate 8 0, List.replicate 8 0, List.replicate 8 0, List.replicate 2 0, List.replicate 2 0, List.replicate 2 0, List.replicate 2 0, List.replicate 2 0, List.replicate 128 0, List.replicate 512 0, (0 : Int32), (0 : Int32))
def Q.mk (q0 : List Int32) (q1 : List Int32) (q2 : List Int32) (q3 : List Int32) (q4 : List Int32) (q5 : List Int32) (q6 : List Int32) (q7 : List Int32) (q8 : List Int32) (q9 : List Int32) (q10 : List Int32) (q11 : List Int32) (q12 : List Int32) (q13 : Int32) (q14 : Int32) : Q := (q0, q1, q2, q3, q4, q5, q6, q7, q8, q9, q10, q11, q12, q13, q14)
theorem own_f_st {q0 : List Int32} {q1 : List Int32} {q2 : List Int32} {q3 : List Int32} {q4 : List Int32} {q5 : List Int32} {q6 : List Int32} {q7 : List Int32} {q8 : List Int32} {q9 : List Int32} {q10 : List Int32} {q11 : List Int32} {q12 : List Int32} {q13 : Int32} {q14 : Int32} : (Q.mk q0 q1 q2 q3 q4 q5 q6 q7 q8 q9 q10 q11 q12 q13 q14).f_st = q0 := by have _h := trivial; exact rfl
theorem own_f_lk {q0 : List Int32} {q1 : List Int32} {q2 : List Int32} {q3 : List Int32} {q4 : List Int32} {q5 : List Int32} {q6 : List Int32} {q7 : List Int32} {q8 : List Int32} {q9 : List Int32} {q10 : List Int32} {q11 : List Int32} {q12 : List Int32} {q13 : Int32} {q14 : Int32} : (Q.mk q0 q1 q2 q3 q4 q5 q6 q7 q8 q9 q10 q11 q12 q13 q14).f_lk = q1 := by have _h := trivial; exact rfl
theorem own_f_tmo {q0 : List Int32} {q1 : List Int32} {q2 : List Int32} {q3 : List Int32} {q4 : List Int32} {q5 : List Int32} {q6 : List Int32} {q7 : List Int32} {q8 : List Int32} {q9 : List Int32} {q10 : List Int32} {q11 : List Int32} {q12 : List Int32} {q13 : Int32} {q14 : Int32} : (Q.mk q0 q1 q2 q3 q4 q5 q6 q7 q8 q9 q10 q11 q12 q13 q14).f_tmo = q2 := by have _h := trivial; exact rfl
theorem own_f_spin {q0 : List Int32} {q1 : List Int32} {q2 : List Int32} {q3 : List Int32} {q4 : List Int32} {q5 : List Int32} {q6 : List Int32} {q7 : List Int32} {q8 : List Int32} {q9 : List Int32} {q10 : List Int32} {q11 : List Int32} {q12 : List Int32} {q13 : Int32} {q14 : Int32} : (Q.mk q0 q1 q2 q3 q4 q5 q6 q7 q8 q9 q10 q11 q12 q13 q14).f_spin = q3 := by have _h := trivial; exact rfl
theorem own_f_nxt0 {q0 : List Int32} {q1 : List Int32} {q2 : List Int32} {q3 : List Int32} {q4 : List Int32} {q5 : List Int32} {q6 : List Int32} {q7 : List Int32} {q8 : List Int32} {q9 : List Int32} {q10 : List Int32} {q11 : List Int32} {q12 : List Int32} {q13 : Int32} {q14 : Int32} : (Q.mk q0 q1 q2 q3 q4 q5 q6 q7 q8 q9 q10 q11 q12 q13 q14).f_nxt0 = q4 := by have _h := trivial; exact rfl
theorem own_f_prv1 {q0 : List Int32} {q1 : List Int32} {q2 : List Int32} {q3 : List Int32} {q4 : List Int32} {q5 : List Int32} {q6 : List Int32} {q7 : List Int32} {q8 : List Int32} {q9 : List Int32} {q10 : List Int32} {q11 : List Int32} {q12 : List Int32} {q13 : Int32} {q14 : Int32} : (Q.mk q0 q1 q2 q3 q4 q5 q6 q7 q8 q9 q10 q11 q12 q13 q14).f_prv1 = q5 := by have _h := trivial; exact rfl
theorem own_f_head {q0 : List Int32} {q1 : List Int32} {q2 : List Int32} {q3 : List Int32} {q4 : List Int32} {q5 : List Int32} {q6 : List Int32} {q7 : List Int32} {q8 : List Int32} {q9 : List Int32} {q10 : List Int32} {q11 : List Int32} {q12 : List Int32} {q13 : Int32} {q14 : Int32} : (Q.mk q0 q1 q2 q3 q4 q5 q6 q7 q8 q9 q10 q11 q12 q13 q14).f_head = q6 := by have _h := trivial; exact rfl
theorem own_f_tail {q0 : List Int32} {q1 : List Int32} {q2 : List Int32} {q3 : List Int32} {q4 : List Int32} {q5 : List Int32} {q6 : List Int32} {q7 : List Int32} {q8 : List Int32} {q9 : List Int32} {q10 : List Int32} {q11 : List Int32} {q12 : List Int32} {q13 : Int32} {q14 : Int32} : (Q.mk q0 q1 q2 q3 q4 q5 q6 q7 q8 q9 q10 q11 q12 q13 q14).f_tail = q7 := by have _h := trivial; exact rfl
theorem own_f_len {q0 : List Int32} {q1 : List Int32} {q2 : List Int32} {q3 : List Int32} {q4 : List Int32} {q5 : List Int32} {q6 : List Int32} {q7 : List Int32} {q8 : List Int32} {q9 : List Int32} {q10 : List Int32} {q11 : List Int32} {q12 : List Int32} {q13 : Int32} {q14 : Int32} : (Q.mk q0 q1 q2 q3 q4 q5 q6 q7 q8 q9 q10 q11 q12 q13 q14).f_len = q8 := by have _h := trivial; exact rfl
theorem own_f_ent {q0 : List Int32} {q1 : List Int32} {q2 : List Int32} {q3 : List Int32} {q4 : List Int32} {q5 : List Int32} {q6 : List Int32} {q7 : List Int32} {q8 : List Int32} {q9 : List Int32} {q10 : List Int32} {q11 : List Int32} {q12 : List Int32} {q13 : Int32} {q14 : Int32} : (Q.mk q0 q1 q2 q3 q4 q5 q6 q7 q8 q9 q10 q11 q12 q13 q14).f_ent = q9 := by have _h := trivial; exact rfl
theorem own_f_aband {q0 : List Int32} {q1 : List Int32} {q2 : List Int32} {q3 : List Int32} {q4 : List Int32} {q5 : List Int32} {q6 : List Int32} {q7 : List Int32} {q8 : List Int32} {q9 : List Int32} {q10 : List Int32} {q11 : List Int32} {q12 : List Int32} {q13 : Int32} {q14 : Int32} : (Q.mk q0 q1 q2 q3 q4 q5 q6 q7 q8 q9 q10 q11 q12 q13 q14).f_aband = q10 := by have _h := trivial; exact rfl
theorem own_f_log {q0 : List Int32} {q1 : List Int32} {q2 : List Int32} {q3 : List Int32} {q4 : List Int32} {q5 : List Int32} {q6 : List Int32} {q7 : List Int32} {q8 : List Int32} {q9 : List Int32} {q10 : List Int32} {q11 : List Int32} {q12 : List Int32} {q13 : Int32} {q14 : Int32} : (Q.mk q0 q1 q2 q3 q4 q5 q6 q7 q8 q9 q10 q11 q12 q13 q14).f_log = q11 := by have _h := trivial; exact rfl
theorem own_f_hist {q0 : List Int32} {q1 : List Int32} {q2 : List Int32} {q3 : List Int32} {q4 : List Int32} {q5 : List Int32} {q6 : List Int32} {q7 : List Int32} {q8 : List Int32} {q9 : List Int32} {q10 : List Int32} {q11 : List Int32} {q12 : List Int32} {q13 : Int32} {q14 : Int32} : (Q.mk q0 q1 q2 q3 q4 q5 q6 q7 q8 q9 q10 q11 q12 q13 q14).f_hist = q12 := by have _h := trivial; exact rfl
theorem own_f_n {q0 : List Int32} {q1 : List Int32} {q2 : List Int32} {q3 : List Int32} {q4 : List Int32} {q5 : List Int32} {q6 : List Int32} {q7 : List Int32} {q8 : List Int32} {q9 : List Int32} {q10 : List Int32} {q11 : List Int32} {q12 : List Int32} {q13 : Int32} {q14 : Int32} : (Q.mk q0 q1 q2 q3 q4 q5 q6 q7 q8 q9 q10 q11 q12 q13 q14).f_n = q13 := by have _h := trivial; exact rfl
theorem own_f_clk {q0 : List Int32} {q1 : List Int32} {q2 : List Int32} {q3 : List Int32} {q4 : List Int32} {q5 : List Int32} {q6 : List Int32} {q7 : List Int32} {q8 : List Int32} {q9 : List Int32} {q10 : List Int32} {q11 : List Int32} {q12 : List Int32} {q13 : Int32} {q14 : Int32} : (Q.mk q0 q1 q2 q3 q4 q5 q6 q7 q8 q9 q10 q11 q12 q13 q14).f_clk = q14 := by have _h := trivial; exact rfl
theorem own_e_st (s : Q) (x : List Int32) : s.s_st x = Q.mk x s.f_lk s.f_tmo s.f_spin s.f_nxt0 s.f_prv1 s.f_head s.f_tail s.f_len s.f_ent s.f_aband s.f_log s.f_hist s.f_n s.f_clk := by have _h := trivial; exact rfl
theorem own_e_lk (s : Q) (x : List Int32) : s.s_lk x = Q.mk s.f_st x s.f_tmo s.f_spin s.f_nxt0 s.f_prv1 s.f_head s.f_tail s.f_len s.f_ent s.f_aband s.f_log s.f_hist s.f_n s.f_clk := by have _h := trivial; exact rfl
theorem own_e_tmo (s : Q) (x : List Int32) : s.s_tmo x = Q.mk s.f_st s.f_lk x s.f_spin s.f_nxt0 s.f_prv1 s.f_head s.f_tail s.f_len s.f_ent s.f_aband s.f_log s.f_hist s.f_n s.f_clk := by have _h := trivial; exact rfl
theorem own_e_spin (s : Q) (x : List Int32) : s.s_spin x = Q.mk s.f_st s.f_lk s.f_tmo x s.f_nxt0 s.f_prv1 s.f_head s.f_tail s.f_len s.f_ent s.f_aband s.f_log s.f_hist s.f_n s.f_clk := by have _h := trivial; exact rfl
theorem own_e_nxt0 (s : Q) (x : List Int32) : s.s_nxt0 x = Q.mk s.f_st s.f_lk s.f_tmo s.f_spin x s.f_prv1 s.f_head s.f_tail s.f_len s.f_ent s.f_aband s.f_log s.f_hist s.f_n s.f_clk := by have _h := trivial; exact rfl
theorem own_e_prv1 (s : Q) (x : List Int32) : s.s_prv1 x = Q.mk s.f_st s.f_lk s.f_tmo s.f_spin s.f_nxt0 x s.f_head s.f_tail s.f_len s.f_ent s.f_aband s.f_log s.f_hist s.f_n s.f_clk := by have _h := trivial; exact rfl
theorem own_e_head (s : Q) (x : List Int32) : s.s_head x = Q.mk s.f_st s.f_lk s.f_tmo s.f_spin s.f_nxt0 s.f_prv1 x s.f_tail s.f_len s.f_ent s.f_aband s.f_log s.f_hist s.f_n s.f_clk := by have _h := trivial; exact rfl
theorem own_e_tail (s : Q) (x : List Int32) : s.s_tail x = Q.mk s.f_st s.f_lk s.f_tmo s.f_spin s.f_nxt0 s.f_prv1 s.f_head x s.f_len s.f_ent s.f_aband s.f_log s.f_hist s.f_n s.f_clk := by have _h := trivial; exact rfl
theorem own_e_len (s : Q) (x : List Int32) : s.s_len x = Q.mk s.f_st s.f_lk s.f_tmo s.f_spin s.f_nxt0 s.f_prv1 s.f_head s.f_tail x s.f_ent s.f_aband s.f_log s.f_hist s.f_n s.f_clk := by have _h := trivial; exact rfl
theorem own_e_ent (s : Q) (x : List Int32) : s.s_ent x = Q.mk s.f_st s.f_lk s.f_tmo s.f_spin s.f_nxt0 s.f_prv1 s.f_head s.f_tail s.f_len x s.f_aband s.f_log s.f_hist s.f_n s.f_clk := by have _h := trivial; exact rfl
theorem own_e_aband (s : Q) (x : List Int32) : s.s_aband x = Q.mk s.f_st s.f_lk s.f_tmo s.f_spin s.f_nxt0 s.f_prv1 s.f_head s.f_tail s.f_len s.f_ent x s.f_log s.f_hist s.f_n s.f_clk := by have _h := trivial; exact rfl
theorem own_e_log (s : Q) (x : List Int32) : s.s_log x = Q.mk s.f_st s.f_lk s.f_tmo s.f_spin s.f_nxt0 s.f_prv1 s.f_head s.f_tail s.f_len s.f_ent s.f_aband x s.f_hist s.f_n s.f_clk := by have _h := trivial; exact rfl
theorem own_e_hist (s : Q) (x : List Int32) : s.s_hist x = Q.mk s.f_st s.f_lk s.f_tmo s.f_spin s.f_nxt0 s.f_prv1 s.f_head s.f_tail s.f_len s.f_ent s.f_aband s.f_log x s.f_n s.f_clk := by have _h := trivial; exact rfl
theorem own_e_n (s : Q) (x : Int32) : s.s_n x = Q.mk s.f_st s.f_lk s.f_tmo s.f_spin s.f_nxt0 s.f_prv1 s.f_head s.f_tail s.f_len s.f_ent s.f_aband s.f_log s.f_hist x s.f_clk := by have _h := trivial; exact rfl
theorem own_e_clk (s : Q) (x : Int32) : s.s_clk x = Q.mk s.f_st s.f_lk s.f_tmo s.f_spin s.f_nxt0 s.f_prv1 s.f_head s.f_tail s.f_len s.f_ent s.f_aband s.f_log s.f_hist s.f_n x := by have _h := trivial; exact rfl
theorem own_z_st : Q0.f_st = List.replicate 8 0 := by have _h := trivial; exact rfl
theorem own_z_lk : Q0.f_lk = List.replicate 8 0 := by have _h := trivial; exact rfl
theorem own_z_tmo : Q0.f_tmo = List.replicate 8 0 := by have _h := trivial; exact rfl
theorem own_z_spin : Q0.f_spin = List.replicate 8 0 := by have _h := trivial; exact rfl
theorem own_z_nxt0 : Q0.f_nxt0 = List.replicate 8 0 := by have _h := trivial; exact rfl
theorem own_z_prv1 : Q0.f_prv1 = List.replicate 8 0 := by have _h := trivial; exact rfl
theorem own_z_head : Q0.f_head = List.replicate 2 0 := by have _h := trivial; exact rfl
theorem own_z_tail : Q0.f_tail = List.replicate 2 0 := by have _h := trivial; exact rfl
theorem own_z_len : Q0.f_len = List.replicate 2 0 := by have _h := trivial; exact rfl
theorem own_z_ent : Q0.f_ent = List.replicate 2 0 := by have _h := trivial; exact rfl
theorem own_z_aband : Q0.f_aband = List.replicate 2 0 := by have _h := trivial; exact rfl
theorem own_z_log : Q0.f_log = List.replicate 128 0 := by have _h := trivial; exact rfl
theorem own_z_hist : Q0.f_hist = List.replicate 512 0 := by have _h := trivial; exact rfl
theorem own_z_n : Q0.f_n = (0 : Int32) := by have _h := trivial; exact rfl
theorem own_z_clk : Q0.f_clk = (0 : Int32) := by have _h := trivial; exact rfl
abbrev W0 (scr : List Int32) (R : AHeap) : AHeap := .inr (.inl (0, scr)) :: R
def own_cells1 (q0 : List Int32) (q1 : List Int32) (q2 : List Int32) (q3 : List Int32) (q4 : List Int32) (q5 : List Int32) (q6 : List Int32) (q7 : List Int32) (q8 : List Int32) (q9 : List Int32) (q10 : List Int32) (q11 : List Int32) (q12 : List Int32) (q13 : Int32) (q14 : Int32) (R : AHeap) : AHeap := .inl [.ref 2, .ref 3, .ref 4, .ref 5, .ref 6, .ref 7, .ref 8, .ref 9, .ref 10, .ref 11, .ref 12, .ref 13, .ref 14, .int q13, .int q14] ::
  .inr (.inl (1, q0)) ::
  .inr (.inl (1, q1)) ::
  .inr (.inl (1, q2)) ::
  .inr (.inl (1, q3)) ::
  .inr (.inl (1, q4)) ::
  .inr (.inl (1, q5)) ::
  .inr (.inl (1, q6)) ::
  .inr (.inl (1, q7)) ::
  .inr (.inl (1, q8)) ::
  .inr (.inl (1, q9)) ::
  .inr (.inl (1, q10)) ::
  .inr (.inl (1, q11)) ::
  .inr (.inl (1, q12)) ::
  R
def C1 (scr : List Int32) (q0 : List Int32) (q1 : List Int32) (q2 : List Int32) (q3 : List Int32) (q4 : List Int32) (q5 : List Int32) (q6 : List Int32) (q7 : List Int32) (q8 : List Int32) (q9 : List Int32) (q10 : List Int32) (q11 : List Int32) (q12 : List Int32) (q13 : Int32) (q14 : Int32) (R : AHeap) : AHeap := .inr (.inl (0, scr)) :: own_cells1 q0 q1 q2 q3 q4 q5 q6 q7 q8 q9 q10 q11 q12 q13 q14 R
abbrev W1 (scr : List Int32) (s : Q) (R : AHeap) : AHeap := C1 scr s.f_st s.f_lk s.f_tmo s.f_spin s.f_nxt0 s.f_prv1 s.f_head s.f_tail s.f_len s.f_ent s.f_aband s.f_log s.f_hist s.f_n s.f_clk R
theorem own_g1_st {scr : List Int32} {q0 : List Int32} {q1 : List Int32} {q2 : List Int32} {q3 : List Int32} {q4 : List Int32} {q5 : List Int32} {q6 : List Int32} {q7 : List Int32} {q8 : List Int32} {q9 : List Int32} {q10 : List Int32} {q11 : List Int32} {q12 : List Int32} {q13 : Int32} {q14 : Int32} {R : AHeap} : getC (C1 scr q0 q1 q2 q3 q4 q5 q6 q7 q8 q9 q10 q11 q12 q13 q14 R) 1 0 = some (.ref 2) := rfl
theorem own_a1_st {scr : List Int32} {q0 : List Int32} {q1 : List Int32} {q2 : List Int32} {q3 : List Int32} {q4 : List Int32} {q5 : List Int32} {q6 : List Int32} {q7 : List Int32} {q8 : List Int32} {q9 : List Int32} {q10 : List Int32} {q11 : List Int32} {q12 : List Int32} {q13 : Int32} {q14 : Int32} {R : AHeap} : (C1 scr q0 q1 q2 q3 q4 q5 q6 q7 q8 q9 q10 q11 q12 q13 q14 R)[2]? = some (.inr (.inl (1, q0))) := rfl
theorem own_s1_st {scr : List Int32} {q0 : List Int32} {q1 : List Int32} {q2 : List Int32} {q3 : List Int32} {q4 : List Int32} {q5 : List Int32} {q6 : List Int32} {q7 : List Int32} {q8 : List Int32} {q9 : List Int32} {q10 : List Int32} {q11 : List Int32} {q12 : List Int32} {q13 : Int32} {q14 : Int32} {R : AHeap} {x : List Int32} : (C1 scr q0 q1 q2 q3 q4 q5 q6 q7 q8 q9 q10 q11 q12 q13 q14 R).set 2 (.inr (.inl (1, x))) = (C1 scr x q1 q2 q3 q4 q5 q6 q7 q8 q9 q10 q11 q12 q13 q14 R) := rfl
theorem own_g1_lk {scr : List Int32} {q0 : List Int32} {q1 : List Int32} {q2 : List Int32} {q3 : List Int32} {q4 : List Int32} {q5 : List Int32} {q6 : List Int32} {q7 : List Int32} {q8 : List Int32} {q9 : List Int32} {q10 : List Int32} {q11 : List Int32} {q12 : List Int32} {q13 : Int32} {q14 : Int32} {R : AHeap} : getC (C1 scr q0 q1 q2 q3 q4 q5 q6 q7 q8 q9 q10 q11 q12 q13 q14 R) 1 1 = some (.ref 3) := rfl
theorem own_a1_lk {scr : List Int32} {q0 : List Int32} {q1 : List Int32} {q2 : List Int32} {q3 : List Int32} {q4 : List Int32} {q5 : List Int32} {q6 : List Int32} {q7 : List Int32} {q8 : List Int32} {q9 : List Int32} {q10 : List Int32} {q11 : List Int32} {q12 : List Int32} {q13 : Int32} {q14 : Int32} {R : AHeap} : (C1 scr q0 q1 q2 q3 q4 q5 q6 q7 q8 q9 q10 q11 q12 q13 q14 R)[3]? = some (.inr (.inl (1, q1))) := rfl
theorem own_s1_lk {scr : List Int32} {q0 : List Int32} {q1 : List Int32} {q2 : List Int32} {q3 : List Int32} {q4 : List Int32} {q5 : List Int32} {q6 : List Int32} {q7 : List Int32} {q8 : List Int32} {q9 : List Int32} {q10 : List Int32} {q11 : List Int32} {q12 : List Int32} {q13 : Int32} {q14 : Int32} {R : AHeap} {x : List Int32} : (C1 scr q0 q1 q2 q3 q4 q5 q6 q7 q8 q9 q10 q11 q12 q13 q14 R).set 3 (.inr (.inl (1, x))) = (C1 scr q0 x q2 q3 q4 q5 q6 q7 q8 q9 q10 q11 q12 q13 q14 R) := rfl
theorem own_g1_tmo {scr : List Int32} {q0 : List Int32} {q1 : List Int32} {q2 : List Int32} {q3 : List Int32} {q4 : List Int32} {q5 : List Int32} {q6 : List Int32} {q7 : List Int32} {q8 : List Int32} {q9 : List Int32} {q10 : List Int32} {q11 : List Int32} {q12 : List Int32} {q13 : Int32} {q14 : Int32} {R : AHeap} : getC (C1 scr q0 q1 q2 q3 q4 q5 q6 q7 q8 q9 q10 q11 q12 q13 q14 R) 1 2 = some (.ref 4) := rfl
theorem own_a1_tmo {scr : List Int32} {q0 : List Int32} {q1 : List Int32} {q2 : List Int32} {q3 : List Int32} {q4 : List Int32} {q5 : List Int32} {q6 : List Int32} {q7 : List Int32} {q8 : List Int32} {q9 : List Int32} {q10 : List Int32} {q11 : List Int32} {q12 : List Int32} {q13 : Int32} {q14 : Int32} {R : AHeap} : (C1 scr q0 q1 q2 q3 q4 q5 q6 q7 q8 q9 q10 q11 q12 q13 q14 R)[4]? = some (.inr (.inl (1, q2))) := rfl
theorem own_s1_tmo {scr : List Int32} {q0 : List Int32} {q1 : List Int32} {q2 : List Int32} {q3 : List Int32} {q4 : List Int32} {q5 : List Int32} {q6 : List Int32} {q7 : List Int32} {q8 : List Int32} {q9 : List Int32} {q10 : List Int32} {q11 : List Int32} {q12 : List Int32} {q13 : Int32} {q14 : Int32} {R : AHeap} {x : List Int32} : (C1 scr q0 q1 q2 q3 q4 q5 q6 q7 q8 q9 q10 q11 q12 q13 q14 R).set 4 (.inr (.inl (1, x))) = (C1 scr q0 q1 x q3 q4 q5 q6 q7 q8 q9 q10 q11 q12 q13 q14 R) := rfl
theorem own_g1_spin {scr : List Int32} {q0 : List Int32} {q1 : List Int32} {q2 : List Int32} {q3 : List Int32} {q4 : List Int32} {q5 : List Int32} {q6 : List Int32} {q7 : List Int32} {q8 : List Int32} {q9 : List Int32} {q10 : List Int32} {q11 : List Int32} {q12 : List Int32} {q13 : Int32} {q14 : Int32} {R : AHeap} : getC (C1 scr q0 q1 q2 q3 q4 q5 q6 q7 q8 q9 q10 q11 q12 q13 q14 R) 1 3 = some (.ref 5) := rfl
theorem own_a1_spin {scr : List Int32} {q0 : List Int32} {q1 : List Int32} {q2 : List Int32} {q3 : List Int32} {q4 : List Int32} {q5 : List Int32} {q6 : List Int32} {q7 : List Int32} {q8 : List Int32} {q9 : List Int32} {q10 : List Int32} {q11 : List Int32} {q12 : List Int32} {q13 : Int32} {q14 : Int32} {R : AHeap} : (C1 scr q0 q1 q2 q3 q4 q5 q6 q7 q8 q9 q10 q11 q12 q13 q14 R)[5]? = some (.inr (.inl (1, q3))) := rfl
theorem own_s1_spin {scr : List Int32} {q0 : List Int32} {q1 : List Int32} {q2 : List Int32} {q3 : List Int32} {q4 : List Int32} {q5 : List Int32} {q6 : List Int32} {q7 : List Int32} {q8 : List Int32} {q9 : List Int32} {q10 : List Int32} {q11 : List Int32} {q12 : List Int32} {q13 : Int32} {q14 : Int32} {R : AHeap} {x : List Int32} : (C1 scr q0 q1 q2 q3 q4 q5 q6 q7 q8 q9 q10 q11 q12 q13 q14 R).set 5 (.inr (.inl (1, x))) = (C1 scr q0 q1 q2 x q4 q5 q6 q7 q8 q9 q10 q11 q12 q13 q14 R) := rfl
theorem own_g1_nxt0 {scr : List Int32} {q0 : List Int32} {q1 : List Int32} {q2 : List Int32} {q3 : List Int32} {q4 : List Int32} {q5 : List Int32} {q6 : List Int32} {q7 : List Int32} {q8 : List Int32} {q9 : List Int32} {q10 : List Int32} {q11 : List Int32} {q12 : List Int32} {q13 : Int32} {q14 : Int32} {R : AHeap} : getC (C1 scr q0 q1 q2 q3 q4 q5 q6 q7 q8 q9 q10 q11 q12 q13 q14 R) 1 4 = some (.ref 6) := rfl
theorem own_a1_nxt0 {scr : List Int32} {q0 : List Int32} {q1 : List Int32} {q2 : List Int32} {q3 : List Int32} {q4 : List Int32} {q5 : List Int32} {q6 : List Int32} {q7 : List Int32} {q8 : List Int32} {q9 : List Int32} {q10 : List Int32} {q11 : List Int32} {q12 : List Int32} {q13 : Int32} {q14 : Int32} {R : AHeap} : (C1 scr q0 q1 q2 q3 q4 q5 q6 q7 q8 q9 q10 q11 q12 q13 q14 R)[6]? = some (.inr (.inl (1, q4))) := rfl
theorem own_s1_nxt0 {scr : List Int32} {q0 : List Int32} {q1 : List Int32} {q2 : List Int32} {q3 : List Int32} {q4 : List Int32} {q5 : List Int32} {q6 : List Int32} {q7 : List Int32} {q8 : List Int32} {q9 : List Int32} {q10 : List Int32} {q11 : List Int32} {q12 : List Int32} {q13 : Int32} {q14 : Int32} {R : AHeap} {x : List Int32} : (C1 scr q0 q1 q2 q3 q4 q5 q6 q7 q8 q9 q10 q11 q12 q13 q14 R).set 6 (.inr (.inl (1, x))) = (C1 scr q0 q1 q2 q3 x q5 q6 q7 q8 q9 q10 q11 q12 q13 q14 R) := rfl
theorem own_g1_prv1 {scr : List Int32} {q0 : List Int32} {q1 : List Int32} {q2 : List Int32} {q3 : List Int32} {q4 : List Int32} {q5 : List Int32} {q6 : List Int32} {q7 : List Int32} {q8 : List Int32} {q9 : List Int32} {q10 : List Int32} {q11 : List Int32} {q12 : List Int32} {q13 : Int32} {q14 : Int32} {R : AHeap} : getC (C1 scr q0 q1 q2 q3 q4 q5 q6 q7 q8 q9 q10 q11 q12 q13 q14 R) 1 5 = some (.ref 7) := rfl
theorem own_a1_prv1 {scr : List Int32} {q0 : List Int32} {q1 : List Int32} {q2 : List Int32} {q3 : List Int32} {q4 : List Int32} {q5 : List Int32} {q6 : List Int32} {q7 : List Int32} {q8 : List Int32} {q9 : List Int32} {q10 : List Int32} {q11 : List Int32} {q12 : List Int32} {q13 : Int32} {q14 : Int32} {R : AHeap} : (C1 scr q0 q1 q2 q3 q4 q5 q6 q7 q8 q9 q10 q11 q12 q13 q14 R)[7]? = some (.inr (.inl (1, q5))) := rfl
theorem own_s1_prv1 {scr : List Int32} {q0 : List Int32} {q1 : List Int32} {q2 : List Int32} {q3 : List Int32} {q4 : List Int32} {q5 : List Int32} {q6 : List Int32} {q7 : List Int32} {q8 : List Int32} {q9 : List Int32} {q10 : List Int32} {q11 : List Int32} {q12 : List Int32} {q13 : Int32} {q14 : Int32} {R : AHeap} {x : List Int32} : (C1 scr q0 q1 q2 q3 q4 q5 q6 q7 q8 q9 q10 q11 q12 q13 q14 R).set 7 (.inr (.inl (1, x))) = (C1 scr q0 q1 q2 q3 q4 x q6 q7 q8 q9 q10 q11 q12 q13 q14 R) := rfl
theorem own_g1_head {scr : List Int32} {q0 : List Int32} {q1 : List Int32} {q2 : List Int32} {q3 : List Int32} {q4 : List Int32} {q5 : List Int32} {q6 : List Int32} {q7 : List Int32} {q8 : List Int32} {q9 : List Int32} {q10 : List Int32} {q11 : List Int32} {q12 : List Int32} {q13 : Int32} {q14 : Int32} {R : AHeap} : getC (C1 scr q0 q1 q2 q3 q4 q5 q6 q7 q8 q9 q10 q11 q12 q13 q14 R) 1 6 = some (.ref 8) := rfl
theorem own_a1_head {scr : List Int32} {q0 : List Int32} {q1 : List Int32} {q2 : List Int32} {q3 : List Int32} {q4 : List Int32} {q5 : List Int32} {q6 : List Int32} {q7 : List Int32} {q8 : List Int32} {q9 : List Int32} {q10 : List Int32} {q11 : List Int32} {q12 : List Int32} {q13 : Int32} {q14 : Int32} {R : AHeap} : (C1 scr q0 q1 q2 q3 q4 q5 q6 q7 q8 q9 q10 q11 q12 q13 q14 R)[8]? = some (.inr (.inl (1, q6))) := rfl
theorem own_s1_head {scr : List Int32} {q0 : List Int32} {q1 : List Int32} {q2 : List Int32} {q3 : List Int32} {q4 : List Int32} {q5 : List Int32} {q6 : List Int32} {q7 : List Int32} {q8 : List Int32} {q9 : List Int32} {q10 : List Int32} {q11 : List Int32} {q12 : List Int32} {q13 : Int32} {q14 : Int32} {R : AHeap} {x : List Int32} : (C1 scr q0 q1 q2 q3 q4 q5 q6 q7 q8 q9 q10 q11 q12 q13 q14 R).set 8 (.inr (.inl (1, x))) = (C1 scr q0 q1 q2 q3 q4 q5 x q7 q8 q9 q10 q11 q12 q13 q14 R) := rfl
theorem own_g1_tail {scr : List Int32} {q0 : List Int32} {q1 : List Int32} {q2 : List Int32} {q3 : List Int32} {q4 : List Int32} {q5 : List Int32} {q6 : List Int32} {q7 : List Int32} {q8 : List Int32} {q9 : List Int32} {q10 : List Int32} {q11 : List Int32} {q12 : List Int32} {q13 : Int32} {q14 : Int32} {R : AHeap} : getC (C1 scr q0 q1 q2 q3 q4 q5 q6 q7 q8 q9 q10 q11 q12 q13 q14 R) 1 7 = some (.ref 9) := rfl
theorem own_a1_tail {scr : List Int32} {q0 : List Int32} {q1 : List Int32} {q2 : List Int32} {q3 : List Int32} {q4 : List Int32} {q5 : List Int32} {q6 : List Int32} {q7 : List Int32} {q8 : List Int32} {q9 : List Int32} {q10 : List Int32} {q11 : List Int32} {q12 : List Int32} {q13 : Int32} {q14 : Int32} {R : AHeap} : (C1 scr q0 q1 q2 q3 q4 q5 q6 q7 q8 q9 q10 q11 q12 q13 q14 R)[9]? = some (.inr (.inl (1, q7))) := rfl
theorem own_s1_tail {scr : List Int32} {q0 : List Int32} {q1 : List Int32} {q2 : List Int32} {q3 : List Int32} {q4 : List Int32} {q5 : List Int32} {q6 : List Int32} {q7 : List Int32} {q8 : List Int32} {q9 : List Int32} {q10 : List Int32} {q11 : List Int32} {q12 : List Int32} {q13 : Int32} {q14 : Int32} {R : AHeap} {x : List Int32} : (C1 scr q0 q1 q2 q3 q4 q5 q6 q7 q8 q9 q10 q11 q12 q13 q14 R).set 9 (.inr (.inl (1, x))) = (C1 scr q0 q1 q2 q3 q4 q5 q6 x q8 q9 q10 q11 q12 q13 q14 R) := rfl
theorem own_g1_len {scr : List Int32} {q0 : List Int32} {q1 : List Int32} {q2 : List Int32} {q3 : List Int32} {q4 : List Int32} {q5 : List Int32} {q6 : List Int32} {q7 : List Int32} {q8 : List Int32} {q9 : List Int32} {q10 : List Int32} {q11 : List Int32} {q12 : List Int32} {q13 : Int32} {q14 : Int32} {R : AHeap} : getC (C1 scr q0 q1 q2 q3 q4 q5 q6 q7 q8 q9 q10 q11 q12 q13 q14 R) 1 8 = some (.ref 10) := rfl
theorem own_a1_len {scr : List Int32} {q0 : List Int32} {q1 : List Int32} {q2 : List Int32} {q3 : List Int32} {q4 : List Int32} {q5 : List Int32} {q6 : List Int32} {q7 : List Int32} {q8 : List Int32} {q9 : List Int32} {q10 : List Int32} {q11 : List Int32} {q12 : List Int32} {q13 : Int32} {q14 : Int32} {R : AHeap} : (C1 scr q0 q1 q2 q3 q4 q5 q6 q7 q8 q9 q10 q11 q12 q13 q14 R)[10]? = some (.inr (.inl (1, q8))) := rfl
theorem own_s1_len {scr : List Int32} {q0 : List Int32} {q1 : List Int32} {q2 : List Int32} {q3 : List Int32} {q4 : List Int32} {q5 : List Int32} {q6 : List Int32} {q7 : List Int32} {q8 : List Int32} {q9 : List Int32} {q10 : List Int32} {q11 : List Int32} {q12 : List Int32} {q13 : Int32} {q14 : Int32} {R : AHeap} {x : List Int32} : (C1 scr q0 q1 q2 q3 q4 q5 q6 q7 q8 q9 q10 q11 q12 q13 q14 R).set 10 (.inr (.inl (1, x))) = (C1 scr q0 q1 q2 q3 q4 q5 q6 q7 x q9 q10 q11 q12 q13 q14 R) := rfl
theorem own_g1_ent {scr : List Int32} {q0 : List Int32} {q1 : List Int32} {q2 : List Int32} {q3 : List Int32} {q4 : List Int32} {q5 : List Int32} {q6 : List Int32} {q7 : List Int32} {q8 : List Int32} {q9 : List Int32} {q10 : List Int32} {q11 : List Int32} {q12 : List Int32} {q13 : Int32} {q14 : Int32} {R : AHeap} : getC (C1 scr q0 q1 q2 q3 q4 q5 q6 q7 q8 q9 q10 q11 q12 q13 q14 R) 1 9 = some (.ref 11) := rfl
theorem own_a1_ent {scr : List Int32} {q0 : List Int32} {q1 : List Int32} {q2 : List Int32} {q3 : List Int32} {q4 : List Int32} {q5 : List Int32} {q6 : List Int32} {q7 : List Int32} {q8 : List Int32} {q9 : List Int32} {q10 : List Int32} {q11 : List Int32} {q12 : List Int32} {q13 : Int32} {q14 : Int32} {R : AHeap} : (C1 scr q0 q1 q2 q3 q4 q5 q6 q7 q8 q9 q10 q11 q12 q13 q14 R)[11]? = some (.inr (.inl (1, q9))) := rfl
theorem own_s1_ent {scr : List Int32} {q0 : List Int32} {q1 : List Int32} {q2 : List Int32} {q3 : List Int32} {q4 : List Int32} {q5 : List Int32} {q6 : List Int32} {q7 : List Int32} {q8 : List Int32} {q9 : List Int32} {q10 : List Int32} {q11 : List Int32} {q12 : List Int32} {q13 : Int32} {q14 : Int32} {R : AHeap} {x : List Int32} : (C1 scr q0 q1 q2 q3 q4 q5 q6 q7 q8 q9 q10 q11 q12 q13 q14 R).set 11 (.inr (.inl (1, x))) = (C1 scr q0 q1 q2 q3 q4 q5 q6 q7 q8 x q10 q11 q12 q13 q14 R) := rfl
theorem own_g1_aband {scr : List Int32} {q0 : List Int32} {q1 : List Int32} {q2 : List Int32} {q3 : List Int32} {q4 : List Int32} {q5 : List Int32} {q6 : List Int32} {q7 : List Int32} {q8 : List Int32} {q9 : List Int32} {q10 : List Int32} {q11 : List Int32} {q12 : List Int32} {q13 : Int32} {q14 : Int32} {R : AHeap} : getC (C1 scr q0 q1 q2 q3 q4 q5 q6 q7 q8 q9 q10 q11 q12 q13 q14 R) 1 10 = some (.ref 12) := rfl
theorem own_a1_aband {scr : List Int32} {q0 : List Int32} {q1 : List Int32} {q2 : List Int32} {q3 : List Int32} {q4 : List Int32} {q5 : List Int32} {q6 : List Int32} {q7 : List Int32} {q8 : List Int32} {q9 : List Int32} {q10 : List Int32} {q11 : List Int32} {q12 : List Int32} {q13 : Int32} {q14 : Int32} {R : AHeap} : (C1 scr q0 q1 q2 q3 q4 q5 q6 q7 q8 q9 q10 q11 q12 q13 q14 R)[12]? = some (.inr (.inl (1, q10))) := rfl
theorem own_s1_aband {scr : List Int32} {q0 : List Int32} {q1 : List Int32} {q2 : List Int32} {q3 : List Int32} {q4 : List Int32} {q5 : List Int32} {q6 : List Int32} {q7 : List Int32} {q8 : List Int32} {q9 : List Int32} {q10 : List Int32} {q11 : List Int32} {q12 : List Int32} {q13 : Int32} {q14 : Int32} {R : AHeap} {x : List Int32} : (C1 scr q0 q1 q2 q3 q4 q5 q6 q7 q8 q9 q10 q11 q12 q13 q14 R).set 12 (.inr (.inl (1, x))) = (C1 scr q0 q1 q2 q3 q4 q5 q6 q7 q8 q9 x q11 q12 q13 q14 R) := rfl
theorem own_g1_log {scr : List Int32} {q0 : List Int32} {q1 : List Int32} {q2 : List Int32} {q3 : List Int32} {q4 : List Int32} {q5 : List Int32} {q6 : List Int32} {q7 : List Int32} {q8 : List Int32} {q9 : List Int32} {q10 : List Int32} {q11 : List Int32} {q12 : List Int32} {q13 : Int32} {q14 : Int32} {R : AHeap} : getC (C1 scr q0 q1 q2 q3 q4 q5 q6 q7 q8 q9 q10 q11 q12 q13 q14 R) 1 11 = some (.ref 13) := rfl
theorem own_a1_log {scr : List Int32} {q0 : List Int32} {q1 : List Int32} {q2 : List Int32} {q3 : List Int32} {q4 : List Int32} {q5 : List Int32} {q6 : List Int32} {q7 : List Int32} {q8 : List Int32} {q9 : List Int32} {q10 : List Int32} {q11 : List Int32} {q12 : List Int32} {q13 : Int32} {q14 : Int32} {R : AHeap} : (C1 scr q0 q1 q2 q3 q4 q5 q6 q7 q8 q9 q10 q11 q12 q13 q14 R)[13]? = some (.inr (.inl (1, q11))) := rfl
theorem own_s1_log {scr : List Int32} {q0 : List Int32} {q1 : List Int32} {q2 : List Int32} {q3 : List Int32} {q4 : List Int32} {q5 : List Int32} {q6 : List Int32} {q7 : List Int32} {q8 : List Int32} {q9 : List Int32} {q10 : List Int32} {q11 : List Int32} {q12 : List Int32} {q13 : Int32} {q14 : Int32} {R : AHeap} {x : List Int32} : (C1 scr q0 q1 q2 q3 q4 q5 q6 q7 q8 q9 q10 q11 q12 q13 q14 R).set 13 (.inr (.inl (1, x))) = (C1 scr q0 q1 q2 q3 q4 q5 q6 q7 q8 q9 q10 x q12 q13 q14 R) := rfl
theorem own_g1_hist {scr : List Int32} {q0 : List Int32} {q1 : List Int32} {q2 : List Int32} {q3 : List Int32} {q4 : List Int32} {q5 : List Int32} {q6 : List Int32} {q7 : List Int32} {q8 : List Int32} {q9 : List Int32} {q10 : List Int32} {q11 : List Int32} {q12 : List Int32} {q13 : Int32} {q14 : Int32} {R : AHeap} : getC (C1 scr q0 q1 q2 q3 q4 q5 q6 q7 q8 q9 q10 q11 q12 q13 q14 R) 1 12 = some (.ref 14) := rfl
theorem own_a1_hist {scr : List Int32} {q0 : List Int32} {q1 : List Int32} {q2 : List Int32} {q3 : List Int32} {q4 : List Int32} {q5 : List Int32} {q6 : List Int32} {q7 : List Int32} {q8 : List Int32} {q9 : List Int32} {q10 : List Int32} {q11 : List Int32} {q12 : List Int32} {q13 : Int32} {q14 : Int32} {R : AHeap} : (C1 scr q0 q1 q2 q3 q4 q5 q6 q7 q8 q9 q10 q11 q12 q13 q14 R)[14]? = some (.inr (.inl (1, q12))) := rfl
theorem own_s1_hist {scr : List Int32} {q0 : List Int32} {q1 : List Int32} {q2 : List Int32} {q3 : List Int32} {q4 : List Int32} {q5 : List Int32} {q6 : List Int32} {q7 : List Int32} {q8 : List Int32} {q9 : List Int32} {q10 : List Int32} {q11 : List Int32} {q12 : List Int32} {q13 : Int32} {q14 : Int32} {R : AHeap} {x : List Int32} : (C1 scr q0 q1 q2 q3 q4 q5 q6 q7 q8 q9 q10 q11 q12 q13 q14 R).set 14 (.inr (.inl (1, x))) = (C1 scr q0 q1 q2 q3 q4 q5 q6 q7 q8 q9 q10 q11 x q13 q14 R) := rfl
theorem own_g1_n {scr : List Int32} {q0 : List Int32} {q1 : List Int32} {q2 : List Int32} {q3 : List Int32} {q4 : List Int32} {q5 : List Int32} {q6 : List Int32} {q7 : List Int32} {q8 : List Int32} {q9 : List Int32} {q10 : List Int32} {q11 : List Int32} {q12 : List Int32} {q13 : Int32} {q14 : Int32} {R : AHeap} : getC (C1 scr q0 q1 q2 q3 q4 q5 q6 q7 q8 q9 q10 q11 q12 q13 q14 R) 1 13 = some (.int q13) := rfl
theorem own_p1_n {scr : List Int32} {q0 : List Int32} {q1 : List Int32} {q2 : List Int32} {q3 : List Int32} {q4 : List Int32} {q5 : List Int32} {q6 : List Int32} {q7 : List Int32} {q8 : List Int32} {q9 : List Int32} {q10 : List Int32} {q11 : List Int32} {q12 : List Int32} {q13 : Int32} {q14 : Int32} {R : AHeap} {k : Nat} {x : Int32} : putC own_P k (C1 scr q0 q1 q2 q3 q4 q5 q6 q7 q8 q9 q10 q11 q12 q13 q14 R) 1 13 (.int x) = some (C1 scr q0 q1 q2 q3 q4 q5 q6 q7 q8 q9 q10 q11 q12 x q14 R) := rfl
theorem own_g1_clk {scr : List Int32} {q0 : List Int32} {q1 : List Int32} {q2 : List Int32} {q3 : List Int32} {q4 : List Int32} {q5 : List Int32} {q6 : List Int32} {q7 : List Int32} {q8 : List Int32} {q9 : List Int32} {q10 : List Int32} {q11 : List Int32} {q12 : List Int32} {q13 : Int32} {q14 : Int32} {R : AHeap} : getC (C1 scr q0 q1 q2 q3 q4 q5 q6 q7 q8 q9 q10 q11 q12 q13 q14 R) 1 14 = some (.int q14) := rfl
theorem own_p1_clk {scr : List Int32} {q0 : List Int32} {q1 : List Int32} {q2 : List Int32} {q3 : List Int32} {q4 : List Int32} {q5 : List Int32} {q6 : List Int32} {q7 : List Int32} {q8 : List Int32} {q9 : List Int32} {q10 : List Int32} {q11 : List Int32} {q12 : List Int32} {q13 : Int32} {q14 : Int32} {R : AHeap} {k : Nat} {x : Int32} : putC own_P k (C1 scr q0 q1 q2 q3 q4 q5 q6 q7 q8 q9 q10 q11 q12 q13 q14 R) 1 14 (.int x) = some (C1 scr q0 q1 q2 q3 q4 q5 q6 q7 q8 q9 q10 q11 q12 q13 x R) := rfl
def Q.len (s : Q) : List Nat := [s.f_st.length, s.f_lk.length, s.f_tmo.length, s.f_spin.length, s.f_nxt0.length, s.f_prv1.length, s.f_head.length, s.f_tail.length, s.f_len.length, s.f_ent.length, s.f_aband.length, s.f_log.length, s.f_hist.length]
theorem own_lenmk {q0 : List Int32} {q1 : List Int32} {q2 : List Int32} {q3 : List Int32} {q4 : List Int32} {q5 : List Int32} {q6 : List Int32} {q7 : List Int32} {q8 : List Int32} {q9 : List Int32} {q10 : List Int32} {q11 : List Int32} {q12 : List Int32} {q13 : Int32} {q14 : Int32} : (Q.mk q0 q1 q2 q3 q4 q5 q6 q7 q8 q9 q10 q11 q12 q13 q14).len = [q0.length, q1.length, q2.length, q3.length, q4.length, q5.length, q6.length, q7.length, q8.length, q9.length, q10.length, q11.length, q12.length] := by have _h := trivial; exact rfl
theorem own_objN : own_P.objN = 15 := rfl
theorem own_mk1 {scr : List Int32} {q0 : List Int32} {q1 : List Int32} {q2 : List Int32} {q3 : List Int32} {q4 : List Int32} {q5 : List Int32} {q6 : List Int32} {q7 : List Int32} {q8 : List Int32} {q9 : List Int32} {q10 : List Int32} {q11 : List Int32} {q12 : List Int32} {q13 : Int32} {q14 : Int32} {R : AHeap} : W1 scr (Q.mk q0 q1 q2 q3 q4 q5 q6 q7 q8 q9 q10 q11 q12 q13 q14) R = C1 scr q0 q1 q2 q3 q4 q5 q6 q7 q8 q9 q10 q11 q12 q13 q14 R := rfl
abbrev j_init_l135_K (scr : List Int32) (res : Q) (out : Option Value × AHeap) : Prop := Eval own_P 1 175 [some (.ref 1), none, none, none] [] (W1 scr res []) out

abbrev j_init_l135_N (s : Q) (res : Q) : Prop := Q.len res = Q.len s
def j_init_l135 : Nat → Q → Int32 → Option (Q)
  | 0, _, _ => none
  | n + 1, s, v3 => (if v3 < (8 : Int32) then (if inb s.f_st.length v3 = true then (if inb s.f_lk.length v3 = true then (if inb s.f_nxt0.length v3 = true then (if inb s.f_prv1.length v3 = true then (j_init_l135 n (Q.mk (wr s.f_st v3 (0 : Int32)) (wr s.f_lk v3 (-1 : Int32)) s.f_tmo s.f_spin (wr s.f_nxt0 v3 (-1 : Int32)) (wr s.f_prv1 v3 (-1 : Int32)) s.f_head s.f_tail s.f_len s.f_ent s.f_aband s.f_log s.f_hist s.f_n s.f_clk) (v3 + (1 : Int32))) else none) else none) else none) else none) else some (s))
theorem ln_j_init_l135 : ∀ {n : Nat} {s : Q} {v3 : Int32} {res : Q}, j_init_l135 n s v3 = some res → j_init_l135_N s res := by
  intro n
  induction n with
  | zero => intro _ _ res h; cases h
  | succ n hrec0 =>
    have hrec : ∀ (s : Q) (v3 : Int32) {res : Q}, j_init_l135 n s v3 = some res → j_init_l135_N s res := by intros; apply hrec0; assumption
    intro s v3 res h
    rw [j_init_l135] at h
    by_cases hc5 : v3 < (8 : Int32)
    · rw [if_pos hc5] at h
      obtain ⟨hb6, h⟩ := ite_some h
      obtain ⟨hb7, h⟩ := ite_some h
      obtain ⟨hb8, h⟩ := ite_some h
      obtain ⟨hb9, h⟩ := ite_some h
      exact (hrec _ _ h).trans (Eq.trans (show Q.len (Q.mk (wr s.f_st v3 (0 : Int32)) (wr s.f_lk v3 (-1 : Int32)) s.f_tmo s.f_spin (wr s.f_nxt0 v3 (-1 : Int32)) (wr s.f_prv1 v3 (-1 : Int32)) s.f_head s.f_tail s.f_len s.f_ent s.f_aband s.f_log s.f_hist s.f_n s.f_clk) = Q.len s from own_lenmk.trans (by first | (simp only [len_wr, len_wrL] <;> rfl) | rfl)) rfl)
    · rw [if_neg hc5] at h
      have hr0 := Option.some.inj h
      subst hr0
      show Q.len s = _
      exact rfl
set_option maxRecDepth 100000 in
theorem ev_j_init_l135 (scr : List Int32) : ∀ (n : Nat) (s : Q) (v3 : Int32) {res : Q} {out : Option Value × AHeap}, j_init_l135 n s v3 = some res → j_init_l135_K scr res out → Eval own_P 1 135 [some (.ref 1), none, none, some (.int v3)] [] (W1 scr s []) out := by
  intro n
  induction n with
  | zero => intro _ _ res out h hk; cases h
  | succ n hrec =>
    intro s v3 res out h hk
    rw [j_init_l135] at h
    refine Eval.iload_n rfl rfl ?_
    refine Eval.bipush (x := (8 : Int32)) rfl rfl ?_
    by_cases hc5 : v3 < (8 : Int32)
    · rw [if_pos hc5] at h
      refine Eval.icmpF rfl (tlt hc5).2.1 ?_
      refine Eval.aload_n rfl rfl ?_
      refine Eval.getfield rfl rfl own_g1_st ?_
      refine Eval.iload_n rfl rfl ?_
      refine Eval.iconst (x := (0 : Int32)) rfl rfl ?_
      obtain ⟨hb6, h⟩ := ite_some h
      refine Eval.iastore rfl rfl own_a1_st hb6 own_s1_st ?_
      refine Eval.aload_n rfl rfl ?_
      refine Eval.getfield rfl rfl own_g1_lk ?_
      refine Eval.iload_n rfl rfl ?_
      refine Eval.iconst (x := (-1 : Int32)) rfl rfl ?_
      obtain ⟨hb7, h⟩ := ite_some h
      refine Eval.iastore rfl rfl own_a1_lk hb7 own_s1_lk ?_
      refine Eval.aload_n rfl rfl ?_
      refine Eval.getfield rfl rfl own_g1_nxt0 ?_
      refine Eval.iload_n rfl rfl ?_
      refine Eval.iconst (x := (-1 : Int32)) rfl rfl ?_
      obtain ⟨hb8, h⟩ := ite_some h
      refine Eval.iastore rfl rfl own_a1_nxt0 hb8 own_s1_nxt0 ?_
      refine Eval.aload_n rfl rfl ?_
      refine Eval.getfield rfl rfl own_g1_prv1 ?_
      refine Eval.iload_n rfl rfl ?_
      refine Eval.iconst (x := (-1 : Int32)) rfl rfl ?_
      obtain ⟨hb9, h⟩ := ite_some h
      refine Eval.iastore rfl rfl own_a1_prv1 hb9 own_s1_prv1 ?_
      refine Eval.iinc (L' := [some (.ref 1), none, none, some (.int (v3 + (1 : Int32)))]) rfl rfl rfl ?_
      refine Eval.goto (t := 135) rfl rfl ?_
      refine Eval.heap own_mk1 ?_
      exact hrec _ _ h hk
    · rw [if_neg hc5] at h
      refine Eval.icmpT (t := 175) rfl rfl (flt hc5).2.1 ?_
      cases h
      refine Eval.weak (L' := [some (.ref 1), none, none, none]) ⟨_, _, rfl, Or.inr rfl, _, _, rfl, Or.inl rfl, _, _, rfl, Or.inl rfl, _, _, rfl, Or.inl rfl, rfl⟩ ?_
      exact hk
abbrev j_init_l177_K (scr : List Int32) (res : Q) (out : Option Value × AHeap) : Prop := Eval own_P 1 202 [some (.ref 1), none, none, none] [] (W1 scr res []) out

abbrev j_init_l177_N (s : Q) (res : Q) : Prop := Q.len res = Q.len s
def j_init_l177 : Nat → Q → Int32 → Option (Q)
  | 0, _, _ => none
  | n + 1, s, v3 => (if v3 < (2 : Int32) then (if inb s.f_head.length v3 = true then (if inb s.f_tail.length v3 = true then (j_init_l177 n (Q.mk s.f_st s.f_lk s.f_tmo s.f_spin s.f_nxt0 s.f_prv1 (wr s.f_head v3 (-1 : Int32)) (wr s.f_tail v3 (-1 : Int32)) s.f_len s.f_ent s.f_aband s.f_log s.f_hist s.f_n s.f_clk) (v3 + (1 : Int32))) else none) else none) else some (s))
theorem ln_j_init_l177 : ∀ {n : Nat} {s : Q} {v3 : Int32} {res : Q}, j_init_l177 n s v3 = some res → j_init_l177_N s res := by
  intro n
  induction n with
  | zero => intro _ _ res h; cases h
  | succ n hrec0 =>
    have hrec : ∀ (s : Q) (v3 : Int32) {res : Q}, j_init_l177 n s v3 = some res → j_init_l177_N s res := by intros; apply hrec0; assumption
    intro s v3 res h
    rw [j_init_l177] at h
    by_cases hc13 : v3 < (2 : Int32)
    · rw [if_pos hc13] at h
      obtain ⟨hb14, h⟩ := ite_some h
      obtain ⟨hb15, h⟩ := ite_some h
      exact (hrec _ _ h).trans (Eq.trans (show Q.len (Q.mk s.f_st s.f_lk s.f_tmo s.f_spin s.f_nxt0 s.f_prv1 (wr s.f_head v3 (-1 : Int32)) (wr s.f_tail v3 (-1 : Int32)) s.f_len s.f_ent s.f_aband s.f_log s.f_hist s.f_n s.f_clk) = Q.len s from own_lenmk.trans (by first | (simp only [len_wr, len_wrL] <;> rfl) | rfl)) rfl)
    · rw [if_neg hc13] at h
      have hr0 := Option.some.inj h
      subst hr0
      show Q.len s = _
      exact rfl
set_option maxRecDepth 100000 in
theorem ev_j_init_l177 (scr : List Int32) : ∀ (n : Nat) (s : Q) (v3 : Int32) {res : Q} {out : Option Value × AHeap}, j_init_l177 n s v3 = some res → j_init_l177_K scr res out → Eval own_P 1 177 [some (.ref 1), none, none, some (.int v3)] [] (W1 scr s []) out := by
  intro n
  induction n with
  | zero => intro _ _ res out h hk; cases h
  | succ n hrec =>
    intro s v3 res out h hk
    rw [j_init_l177] at h
    refine Eval.iload_n rfl rfl ?_
    refine Eval.iconst (x := (2 : Int32)) rfl rfl ?_
    by_cases hc13 : v3 < (2 : Int32)
    · rw [if_pos hc13] at h
      refine Eval.icmpF rfl (tlt hc13).2.1 ?_
      refine Eval.aload_n rfl rfl ?_
      refine Eval.getfield rfl rfl own_g1_head ?_
      refine Eval.iload_n rfl rfl ?_
      refine Eval.iconst (x := (-1 : Int32)) rfl rfl ?_
      obtain ⟨hb14, h⟩ := ite_some h
      refine Eval.iastore rfl rfl own_a1_head hb14 own_s1_head ?_
      refine Eval.aload_n rfl rfl ?_
      refine Eval.getfield rfl rfl own_g1_tail ?_
      refine Eval.iload_n rfl rfl ?_
      refine Eval.iconst (x := (-1 : Int32)) rfl rfl ?_
      obtain ⟨hb15, h⟩ := ite_some h
      refine Eval.iastore rfl rfl own_a1_tail hb15 own_s1_tail ?_
      refine Eval.iinc (L' := [some (.ref 1), none, none, some (.int (v3 + (1 : Int32)))]) rfl rfl rfl ?_
      refine Eval.goto (t := 177) rfl rfl ?_
      refine Eval.heap own_mk1 ?_
      exact hrec _ _ h hk
    · rw [if_neg hc13] at h
      refine Eval.icmpT (t := 202) rfl rfl (flt hc13).2.1 ?_
      cases h
      refine Eval.weak (L' := [some (.ref 1), none, none, none]) ⟨_, _, rfl, Or.inr rfl, _, _, rfl, Or.inl rfl, _, _, rfl, Or.inl rfl, _, _, rfl, Or.inl rfl, rfl⟩ ?_
      exact hk
abbrev j_init_l204_K (scr : List Int32) (res : Q) (out : Option Value × AHeap) : Prop := Eval own_P 1 224 [none, none, none, none] [] (W1 scr res []) out

abbrev j_init_l204_N (s : Q) (res : Q) : Prop := Q.len res = Q.len s
def j_init_l204 : Nat → Q → Int32 → Option (Q)
  | 0, _, _ => none
  | n + 1, s, v3 => (if v3 < (512 : Int32) then (if inb s.f_hist.length v3 = true then (j_init_l204 n (Q.mk s.f_st s.f_lk s.f_tmo s.f_spin s.f_nxt0 s.f_prv1 s.f_head s.f_tail s.f_len s.f_ent s.f_aband s.f_log (wr s.f_hist v3 (-1 : Int32)) s.f_n s.f_clk) (v3 + (1 : Int32))) else none) else some (s))
theorem ln_j_init_l204 : ∀ {n : Nat} {s : Q} {v3 : Int32} {res : Q}, j_init_l204 n s v3 = some res → j_init_l204_N s res := by
  intro n
  induction n with
  | zero => intro _ _ res h; cases h
  | succ n hrec0 =>
    have hrec : ∀ (s : Q) (v3 : Int32) {res : Q}, j_init_l204 n s v3 = some res → j_init_l204_N s res := by intros; apply hrec0; assumption
    intro s v3 res h
    rw [j_init_l204] at h
    by_cases hc19 : v3 < (512 : Int32)
    · rw [if_pos hc19] at h
      obtain ⟨hb20, h⟩ := ite_some h
      exact (hrec _ _ h).trans (Eq.trans (show Q.len (Q.mk s.f_st s.f_lk s.f_tmo s.f_spin s.f_nxt0 s.f_prv1 s.f_head s.f_tail s.f_len s.f_ent s.f_aband s.f_log (wr s.f_hist v3 (-1 : Int32)) s.f_n s.f_clk) = Q.len s from own_lenmk.trans (by first | (simp only [len_wr, len_wrL] <;> rfl) | rfl)) rfl)
    · rw [if_neg hc19] at h
      have hr0 := Option.some.inj h
      subst hr0
      show Q.len s = _
      exact rfl
set_option maxRecDepth 100000 in
theorem ev_j_init_l204 (scr : List Int32) : ∀ (n : Nat) (s : Q) (v3 : Int32) {res : Q} {out : Option Value × AHeap}, j_init_l204 n s v3 = some res → j_init_l204_K scr res out → Eval own_P 1 204 [some (.ref 1), none, none, some (.int v3)] [] (W1 scr s []) out := by
  intro n
  induction n with
  | zero => intro _ _ res out h hk; cases h
  | succ n hrec =>
    intro s v3 res out h hk
    rw [j_init_l204] at h
    refine Eval.iload_n rfl rfl ?_
    refine Eval.sipush (x := (512 : Int32)) rfl rfl ?_
    by_cases hc19 : v3 < (512 : Int32)
    · rw [if_pos hc19] at h
      refine Eval.icmpF rfl (tlt hc19).2.1 ?_
      refine Eval.aload_n rfl rfl ?_
      refine Eval.getfield rfl rfl own_g1_hist ?_
      refine Eval.iload_n rfl rfl ?_
      refine Eval.iconst (x := (-1 : Int32)) rfl rfl ?_
      obtain ⟨hb20, h⟩ := ite_some h
      refine Eval.iastore rfl rfl own_a1_hist hb20 own_s1_hist ?_
      refine Eval.iinc (L' := [some (.ref 1), none, none, some (.int (v3 + (1 : Int32)))]) rfl rfl rfl ?_
      refine Eval.goto (t := 204) rfl rfl ?_
      refine Eval.heap own_mk1 ?_
      exact hrec _ _ h hk
    · rw [if_neg hc19] at h
      refine Eval.icmpT (t := 224) rfl rfl (flt hc19).2.1 ?_
      cases h
      refine Eval.weak (L' := [none, none, none, none]) ⟨_, _, rfl, Or.inl rfl, _, _, rfl, Or.inl rfl, _, _, rfl, Or.inl rfl, _, _, rfl, Or.inl rfl, rfl⟩ ?_
      exact hk
def j_init_b123 (s : Q) (v2 : Int32) : Option (Q) := ((j_init_l135 3000 (Q.mk s.f_st s.f_lk s.f_tmo s.f_spin s.f_nxt0 s.f_prv1 s.f_head s.f_tail s.f_len s.f_ent s.f_aband s.f_log s.f_hist v2 (0 : Int32)) (0 : Int32)).bind fun p10 => ((j_init_l177 3000 p10 (0 : Int32)).bind fun p16 => ((j_init_l204 3000 p16 (0 : Int32)).bind fun p21 => some (p21))))
theorem ln_j_init_b123 {s : Q} {v2 : Int32} {res : Q} (h : j_init_b123 s v2 = some res) : Q.len res = Q.len s := by
  rw [j_init_b123] at h
  obtain ⟨p10, hq11, h⟩ := bind_some h
  have hl12 : Q.len p10 = _ := Eq.trans (ln_j_init_l135 hq11) (Eq.trans (show Q.len (Q.mk s.f_st s.f_lk s.f_tmo s.f_spin s.f_nxt0 s.f_prv1 s.f_head s.f_tail s.f_len s.f_ent s.f_aband s.f_log s.f_hist v2 (0 : Int32)) = Q.len s from own_lenmk.trans (by first | (simp only [len_wr, len_wrL] <;> rfl) | rfl)) rfl)
  obtain ⟨p16, hq17, h⟩ := bind_some h
  have hl18 : Q.len p16 = _ := Eq.trans (ln_j_init_l177 hq17) hl12
  obtain ⟨p21, hq22, h⟩ := bind_some h
  have hl23 : Q.len p21 = _ := Eq.trans (ln_j_init_l204 hq22) hl18
  have hr0 := Option.some.inj h
  subst hr0
  show Q.len p21 = _
  exact hl23
set_option maxRecDepth 100000 in
theorem ev_j_init_b123 (scr : List Int32) (s : Q) (v2 : Int32) {res : Q} {out : Option Value × AHeap} (h : j_init_b123 s v2 = some res) (hk : out = (none, (W1 scr res []))) : Eval own_P 1 123 [some (.ref 1), none, some (.int v2), none] [] (W1 scr s []) out := by
  rw [j_init_b123] at h
  refine Eval.aload_n rfl rfl ?_
  refine Eval.iload_n rfl rfl ?_
  refine Eval.putfield rfl rfl own_p1_n ?_
  refine Eval.aload_n rfl rfl ?_
  refine Eval.iconst (x := (0 : Int32)) rfl rfl ?_
  refine Eval.putfield rfl rfl own_p1_clk ?_
  refine Eval.iconst (x := (0 : Int32)) rfl rfl ?_
  refine Eval.istore_n (L' := [some (.ref 1), none, some (.int v2), some (.int (0 : Int32))]) rfl rfl ?_
  refine Eval.heap own_mk1 ?_
  refine Eval.weak (L' := [some (.ref 1), none, none, some (.int (0 : Int32))]) ⟨_, _, rfl, Or.inr rfl, _, _, rfl, Or.inl rfl, _, _, rfl, Or.inl rfl, _, _, rfl, Or.inr rfl, rfl⟩ ?_
  obtain ⟨p10, hq11, h⟩ := bind_some h
  refine ev_j_init_l135 scr _ (Q.mk s.f_st s.f_lk s.f_tmo s.f_spin s.f_nxt0 s.f_prv1 s.f_head s.f_tail s.f_len s.f_ent s.f_aband s.f_log s.f_hist v2 (0 : Int32)) (0 : Int32) hq11 ?_
  show Eval own_P 1 175 [some (.ref 1), none, none, none] [] (W1 scr p10 []) out
  refine Eval.iconst (x := (0 : Int32)) rfl rfl ?_
  refine Eval.istore_n (L' := [some (.ref 1), none, none, some (.int (0 : Int32))]) rfl rfl ?_
  obtain ⟨p16, hq17, h⟩ := bind_some h
  refine ev_j_init_l177 scr _ p10 (0 : Int32) hq17 ?_
  show Eval own_P 1 202 [some (.ref 1), none, none, none] [] (W1 scr p16 []) out
  refine Eval.iconst (x := (0 : Int32)) rfl rfl ?_
  refine Eval.istore_n (L' := [some (.ref 1), none, none, some (.int (0 : Int32))]) rfl rfl ?_
  obtain ⟨p21, hq22, h⟩ := bind_some h
  refine ev_j_init_l204 scr _ p16 (0 : Int32) hq22 ?_
  show Eval own_P 1 224 [none, none, none, none] [] (W1 scr p21 []) out
  cases h
  subst hk
  exact Eval.ret rfl rfl
def j_init_b114 (s : Q) (v2 : Int32) : Option (Q) := (j_init_b123 s (if (8 : Int32) < v2 then (8 : Int32) else v2))
theorem ln_j_init_b114 {s : Q} {v2 : Int32} {res : Q} (h : j_init_b114 s v2 = some res) : Q.len res = Q.len s := by
  rw [j_init_b114] at h
  exact Eq.trans (ln_j_init_b123 h) rfl
set_option maxRecDepth 100000 in
theorem ev_j_init_b114 (scr : List Int32) (s : Q) (v2 : Int32) {res : Q} {out : Option Value × AHeap} (h : j_init_b114 s v2 = some res) (hk : out = (none, (W1 scr res []))) : Eval own_P 1 114 [some (.ref 1), none, some (.int v2), none] [] (W1 scr s []) out := by
  rw [j_init_b114] at h
  refine Eval.iload_n rfl rfl ?_
  refine Eval.bipush (x := (8 : Int32)) rfl rfl ?_
  suffices hJ4 : Eval own_P 1 123 [some (.ref 1), none, some (.int (if (8 : Int32) < v2 then (8 : Int32) else v2)), none] [] (W1 scr s []) out by
    by_cases hc3 : (8 : Int32) < v2
    · refine Eval.icmpF rfl (tlt hc3).2.2.2 ?_
      refine Eval.bipush (x := (8 : Int32)) rfl rfl ?_
      refine Eval.istore_n (L' := [some (.ref 1), none, some (.int (8 : Int32)), none]) rfl rfl ?_
      exact (Eval.conv hJ4 (by simp only [if_pos hc3]) rfl)
    · refine Eval.icmpT (t := 123) rfl rfl (flt hc3).2.2.2 ?_
      exact (Eval.conv hJ4 (by simp only [if_neg hc3]) rfl)
  exact ev_j_init_b123 scr s (if (8 : Int32) < v2 then (8 : Int32) else v2) h hk
def j_init_b105 (s : Q) (v1 : Int32) : Option (Q) := (j_init_b114 s (if v1 < (2 : Int32) then (2 : Int32) else v1))
theorem ln_j_init_b105 {s : Q} {v1 : Int32} {res : Q} (h : j_init_b105 s v1 = some res) : Q.len res = Q.len s := by
  rw [j_init_b105] at h
  exact Eq.trans (ln_j_init_b114 h) rfl
set_option maxRecDepth 100000 in
theorem ev_j_init_b105 (scr : List Int32) (s : Q) (v1 : Int32) {res : Q} {out : Option Value × AHeap} (h : j_init_b105 s v1 = some res) (hk : out = (none, (W1 scr res []))) : Eval own_P 1 105 [some (.ref 1), some (.int v1), none, none] [] (W1 scr s []) out := by
  rw [j_init_b105] at h
  refine Eval.iload_n rfl rfl ?_
  refine Eval.istore_n (L' := [some (.ref 1), some (.int v1), some (.int v1), none]) rfl rfl ?_
  refine Eval.iload_n rfl rfl ?_
  refine Eval.iconst (x := (2 : Int32)) rfl rfl ?_
  suffices hJ2 : Eval own_P 1 114 [some (.ref 1), none, some (.int (if v1 < (2 : Int32) then (2 : Int32) else v1)), none] [] (W1 scr s []) out by
    by_cases hc1 : v1 < (2 : Int32)
    · refine Eval.icmpF rfl (tlt hc1).2.1 ?_
      refine Eval.iconst (x := (2 : Int32)) rfl rfl ?_
      refine Eval.istore_n (L' := [some (.ref 1), some (.int v1), some (.int (2 : Int32)), none]) rfl rfl ?_
      refine Eval.weak (L' := [some (.ref 1), none, some (.int (2 : Int32)), none]) ⟨_, _, rfl, Or.inr rfl, _, _, rfl, Or.inl rfl, _, _, rfl, Or.inr rfl, _, _, rfl, Or.inl rfl, rfl⟩ ?_
      exact (Eval.conv hJ2 (by simp only [if_pos hc1]) rfl)
    · refine Eval.icmpT (t := 114) rfl rfl (flt hc1).2.1 ?_
      refine Eval.weak (L' := [some (.ref 1), none, some (.int v1), none]) ⟨_, _, rfl, Or.inr rfl, _, _, rfl, Or.inl rfl, _, _, rfl, Or.inr rfl, _, _, rfl, Or.inl rfl, rfl⟩ ?_
      exact (Eval.conv hJ2 (by simp only [if_neg hc1]) rfl)
  exact ev_j_init_b114 scr s (if v1 < (2 : Int32) then (2 : Int32) else v1) h hk
def j_init (v1 : Int32) : Option (Q) := (j_init_b105 Q0 v1)
theorem ln_j_init {v1 : Int32} {res : Q} (h : j_init v1 = some res) : Q.len res = Q.len Q0 := by
  rw [j_init] at h
  exact Eq.trans (ln_j_init_b105 h) rfl
set_option maxRecDepth 100000 in
theorem ev_j_init (scr : List Int32) (v1 : Int32) {res : Q} {out : Option Value × AHeap} (h : j_init v1 = some res) (hk : out = (none, (W1 scr res []))) : Eval own_P 1 0 [some (.ref 1), some (.int v1), none, none] [] (W0 scr [.inl [.null, .null, .null, .null, .null, .null, .null, .null, .null, .null, .null, .null, .null, .int (0 : Int32), .int (0 : Int32)]]) out := by
  rw [j_init] at h
  refine Eval.aload_n rfl rfl ?_
  refine Eval.objInit rfl rfl ?_
  refine Eval.aload_n rfl rfl ?_
  refine Eval.bipush (x := (8 : Int32)) rfl rfl ?_
  refine Eval.newarray (z := 15) (N := 8) (a := 2) (H1 := (W0 scr [.inl [.null, .null, .null, .null, .null, .null, .null, .null, .null, .null, .null, .null, .null, .int (0 : Int32), .int (0 : Int32)], .inr (.inl (1, List.replicate 8 0))])) rfl rfl rfl rfl rfl (by decide) (by decide) (by unfold W0; simp only [hsz, csz, own_objN, List.length_replicate]) (by decide) rfl ?_
  refine Eval.putfield (H1 := (W0 scr [.inl [.ref 2, .null, .null, .null, .null, .null, .null, .null, .null, .null, .null, .null, .null, .int (0 : Int32), .int (0 : Int32)], .inr (.inl (1, List.replicate 8 0))])) rfl rfl rfl ?_
  refine Eval.aload_n rfl rfl ?_
  refine Eval.bipush (x := (8 : Int32)) rfl rfl ?_
  refine Eval.newarray (z := 23) (N := 8) (a := 3) (H1 := (W0 scr [.inl [.ref 2, .null, .null, .null, .null, .null, .null, .null, .null, .null, .null, .null, .null, .int (0 : Int32), .int (0 : Int32)], .inr (.inl (1, List.replicate 8 0)), .inr (.inl (1, List.replicate 8 0))])) rfl rfl rfl rfl rfl (by decide) (by decide) (by unfold W0; simp only [hsz, csz, own_objN, List.length_replicate]) (by decide) rfl ?_
  refine Eval.putfield (H1 := (W0 scr [.inl [.ref 2, .ref 3, .null, .null, .null, .null, .null, .null, .null, .null, .null, .null, .null, .int (0 : Int32), .int (0 : Int32)], .inr (.inl (1, List.replicate 8 0)), .inr (.inl (1, List.replicate 8 0))])) rfl rfl rfl ?_
  refine Eval.aload_n rfl rfl ?_
  refine Eval.bipush (x := (8 : Int32)) rfl rfl ?_
  refine Eval.newarray (z := 31) (N := 8) (a := 4) (H1 := (W0 scr [.inl [.ref 2, .ref 3, .null, .null, .null, .null, .null, .null, .null, .null, .null, .null, .null, .int (0 : Int32), .int (0 : Int32)], .inr (.inl (1, List.replicate 8 0)), .inr (.inl (1, List.replicate 8 0)), .inr (.inl (1, List.replicate 8 0))])) rfl rfl rfl rfl rfl (by decide) (by decide) (by unfold W0; simp only [hsz, csz, own_objN, List.length_replicate]) (by decide) rfl ?_
  refine Eval.putfield (H1 := (W0 scr [.inl [.ref 2, .ref 3, .ref 4, .null, .null, .null, .null, .null, .null, .null, .null, .null, .null, .int (0 : Int32), .int (0 : Int32)], .inr (.inl (1, List.replicate 8 0)), .inr (.inl (1, List.replicate 8 0)), .inr (.inl (1, List.replicate 8 0))])) rfl rfl rfl ?_
  refine Eval.aload_n rfl rfl ?_
  refine Eval.bipush (x := (8 : Int32)) rfl rfl ?_
  refine Eval.newarray (z := 39) (N := 8) (a := 5) (H1 := (W0 scr [.inl [.ref 2, .ref 3, .ref 4, .null, .null, .null, .null, .null, .null, .null, .null, .null, .null, .int (0 : Int32), .int (0 : Int32)], .inr (.inl (1, List.replicate 8 0)), .inr (.inl (1, List.replicate 8 0)), .inr (.inl (1, List.replicate 8 0)), .inr (.inl (1, List.replicate 8 0))])) rfl rfl rfl rfl rfl (by decide) (by decide) (by unfold W0; simp only [hsz, csz, own_objN, List.length_replicate]) (by decide) rfl ?_
  refine Eval.putfield (H1 := (W0 scr [.inl [.ref 2, .ref 3, .ref 4, .ref 5, .null, .null, .null, .null, .null, .null, .null, .null, .null, .int (0 : Int32), .int (0 : Int32)], .inr (.inl (1, List.replicate 8 0)), .inr (.inl (1, List.replicate 8 0)), .inr (.inl (1, List.replicate 8 0)), .inr (.inl (1, List.replicate 8 0))])) rfl rfl rfl ?_
  refine Eval.aload_n rfl rfl ?_
  refine Eval.bipush (x := (8 : Int32)) rfl rfl ?_
  refine Eval.newarray (z := 47) (N := 8) (a := 6) (H1 := (W0 scr [.inl [.ref 2, .ref 3, .ref 4, .ref 5, .null, .null, .null, .null, .null, .null, .null, .null, .null, .int (0 : Int32), .int (0 : Int32)], .inr (.inl (1, List.replicate 8 0)), .inr (.inl (1, List.replicate 8 0)), .inr (.inl (1, List.replicate 8 0)), .inr (.inl (1, List.replicate 8 0)), .inr (.inl (1, List.replicate 8 0))])) rfl rfl rfl rfl rfl (by decide) (by decide) (by unfold W0; simp only [hsz, csz, own_objN, List.length_replicate]) (by decide) rfl ?_
  refine Eval.putfield (H1 := (W0 scr [.inl [.ref 2, .ref 3, .ref 4, .ref 5, .ref 6, .null, .null, .null, .null, .null, .null, .null, .null, .int (0 : Int32), .int (0 : Int32)], .inr (.inl (1, List.replicate 8 0)), .inr (.inl (1, List.replicate 8 0)), .inr (.inl (1, List.replicate 8 0)), .inr (.inl (1, List.replicate 8 0)), .inr (.inl (1, List.replicate 8 0))])) rfl rfl rfl ?_
  refine Eval.aload_n rfl rfl ?_
  refine Eval.bipush (x := (8 : Int32)) rfl rfl ?_
  refine Eval.newarray (z := 55) (N := 8) (a := 7) (H1 := (W0 scr [.inl [.ref 2, .ref 3, .ref 4, .ref 5, .ref 6, .null, .null, .null, .null, .null, .null, .null, .null, .int (0 : Int32), .int (0 : Int32)], .inr (.inl (1, List.replicate 8 0)), .inr (.inl (1, List.replicate 8 0)), .inr (.inl (1, List.replicate 8 0)), .inr (.inl (1, List.replicate 8 0)), .inr (.inl (1, List.replicate 8 0)), .inr (.inl (1, List.replicate 8 0))])) rfl rfl rfl rfl rfl (by decide) (by decide) (by unfold W0; simp only [hsz, csz, own_objN, List.length_replicate]) (by decide) rfl ?_
  refine Eval.putfield (H1 := (W0 scr [.inl [.ref 2, .ref 3, .ref 4, .ref 5, .ref 6, .ref 7, .null, .null, .null, .null, .null, .null, .null, .int (0 : Int32), .int (0 : Int32)], .inr (.inl (1, List.replicate 8 0)), .inr (.inl (1, List.replicate 8 0)), .inr (.inl (1, List.replicate 8 0)), .inr (.inl (1, List.replicate 8 0)), .inr (.inl (1, List.replicate 8 0)), .inr (.inl (1, List.replicate 8 0))])) rfl rfl rfl ?_
  refine Eval.aload_n rfl rfl ?_
  refine Eval.iconst (x := (2 : Int32)) rfl rfl ?_
  refine Eval.newarray (z := 63) (N := 2) (a := 8) (H1 := (W0 scr [.inl [.ref 2, .ref 3, .ref 4, .ref 5, .ref 6, .ref 7, .null, .null, .null, .null, .null, .null, .null, .int (0 : Int32), .int (0 : Int32)], .inr (.inl (1, List.replicate 8 0)), .inr (.inl (1, List.replicate 8 0)), .inr (.inl (1, List.replicate 8 0)), .inr (.inl (1, List.replicate 8 0)), .inr (.inl (1, List.replicate 8 0)), .inr (.inl (1, List.replicate 8 0)), .inr (.inl (1, List.replicate 2 0))])) rfl rfl rfl rfl rfl (by decide) (by decide) (by unfold W0; simp only [hsz, csz, own_objN, List.length_replicate]) (by decide) rfl ?_
  refine Eval.putfield (H1 := (W0 scr [.inl [.ref 2, .ref 3, .ref 4, .ref 5, .ref 6, .ref 7, .ref 8, .null, .null, .null, .null, .null, .null, .int (0 : Int32), .int (0 : Int32)], .inr (.inl (1, List.replicate 8 0)), .inr (.inl (1, List.replicate 8 0)), .inr (.inl (1, List.replicate 8 0)), .inr (.inl (1, List.replicate 8 0)), .inr (.inl (1, List.replicate 8 0)), .inr (.inl (1, List.replicate 8 0)), .inr (.inl (1, List.replicate 2 0))])) rfl rfl rfl ?_
  refine Eval.aload_n rfl rfl ?_
  refine Eval.iconst (x := (2 : Int32)) rfl rfl ?_
  refine Eval.newarray (z := 65) (N := 2) (a := 9) (H1 := (W0 scr [.inl [.ref 2, .ref 3, .ref 4, .ref 5, .ref 6, .ref 7, .ref 8, .null, .null, .null, .null, .null, .null, .int (0 : Int32), .int (0 : Int32)], .inr (.inl (1, List.replicate 8 0)), .inr (.inl (1, List.replicate 8 0)), .inr (.inl (1, List.replicate 8 0)), .inr (.inl (1, List.replicate 8 0)), .inr (.inl (1, List.replicate 8 0)), .inr (.inl (1, List.replicate 8 0)), .inr (.inl (1, List.replicate 2 0)), .inr (.inl (1, List.replicate 2 0))])) rfl rfl rfl rfl rfl (by decide) (by decide) (by unfold W0; simp only [hsz, csz, own_objN, List.length_replicate]) (by decide) rfl ?_
  refine Eval.putfield (H1 := (W0 scr [.inl [.ref 2, .ref 3, .ref 4, .ref 5, .ref 6, .ref 7, .ref 8, .ref 9, .null, .null, .null, .null, .null, .int (0 : Int32), .int (0 : Int32)], .inr (.inl (1, List.replicate 8 0)), .inr (.inl (1, List.replicate 8 0)), .inr (.inl (1, List.replicate 8 0)), .inr (.inl (1, List.replicate 8 0)), .inr (.inl (1, List.replicate 8 0)), .inr (.inl (1, List.replicate 8 0)), .inr (.inl (1, List.replicate 2 0)), .inr (.inl (1, List.replicate 2 0))])) rfl rfl rfl ?_
  refine Eval.aload_n rfl rfl ?_
  refine Eval.iconst (x := (2 : Int32)) rfl rfl ?_
  refine Eval.newarray (z := 67) (N := 2) (a := 10) (H1 := (W0 scr [.inl [.ref 2, .ref 3, .ref 4, .ref 5, .ref 6, .ref 7, .ref 8, .ref 9, .null, .null, .null, .null, .null, .int (0 : Int32), .int (0 : Int32)], .inr (.inl (1, List.replicate 8 0)), .inr (.inl (1, List.replicate 8 0)), .inr (.inl (1, List.replicate 8 0)), .inr (.inl (1, List.replicate 8 0)), .inr (.inl (1, List.replicate 8 0)), .inr (.inl (1, List.replicate 8 0)), .inr (.inl (1, List.replicate 2 0)), .inr (.inl (1, List.replicate 2 0)), .inr (.inl (1, List.replicate 2 0))])) rfl rfl rfl rfl rfl (by decide) (by decide) (by unfold W0; simp only [hsz, csz, own_objN, List.length_replicate]) (by decide) rfl ?_
  refine Eval.putfield (H1 := (W0 scr [.inl [.ref 2, .ref 3, .ref 4, .ref 5, .ref 6, .ref 7, .ref 8, .ref 9, .ref 10, .null, .null, .null, .null, .int (0 : Int32), .int (0 : Int32)], .inr (.inl (1, List.replicate 8 0)), .inr (.inl (1, List.replicate 8 0)), .inr (.inl (1, List.replicate 8 0)), .inr (.inl (1, List.replicate 8 0)), .inr (.inl (1, List.replicate 8 0)), .inr (.inl (1, List.replicate 8 0)), .inr (.inl (1, List.replicate 2 0)), .inr (.inl (1, List.replicate 2 0)), .inr (.inl (1, List.replicate 2 0))])) rfl rfl rfl ?_
  refine Eval.aload_n rfl rfl ?_
  refine Eval.iconst (x := (2 : Int32)) rfl rfl ?_
  refine Eval.newarray (z := 69) (N := 2) (a := 11) (H1 := (W0 scr [.inl [.ref 2, .ref 3, .ref 4, .ref 5, .ref 6, .ref 7, .ref 8, .ref 9, .ref 10, .null, .null, .null, .null, .int (0 : Int32), .int (0 : Int32)], .inr (.inl (1, List.replicate 8 0)), .inr (.inl (1, List.replicate 8 0)), .inr (.inl (1, List.replicate 8 0)), .inr (.inl (1, List.replicate 8 0)), .inr (.inl (1, List.replicate 8 0)), .inr (.inl (1, List.replicate 8 0)), .inr (.inl (1, List.replicate 2 0)), .inr (.inl (1, List.replicate 2 0)), .inr (.inl (1, List.replicate 2 0)), .inr (.inl (1, List.replicate 2 0))])) rfl rfl rfl rfl rfl (by decide) (by decide) (by unfold W0; simp only [hsz, csz, own_objN, List.length_replicate]) (by decide) rfl ?_
  refine Eval.putfield (H1 := (W0 scr [.inl [.ref 2, .ref 3, .ref 4, .ref 5, .ref 6, .ref 7, .ref 8, .ref 9, .ref 10, .ref 11, .null, .null, .null, .int (0 : Int32), .int (0 : Int32)], .inr (.inl (1, List.replicate 8 0)), .inr (.inl (1, List.replicate 8 0)), .inr (.inl (1, List.replicate 8 0)), .inr (.inl (1, List.replicate 8 0)), .inr (.inl (1, List.replicate 8 0)), .inr (.inl (1, List.replicate 8 0)), .inr (.inl (1, List.replicate 2 0)), .inr (.inl (1, List.replicate 2 0)), .inr (.inl (1, List.replicate 2 0)), .inr (.inl (1, List.replicate 2 0))])) rfl rfl rfl ?_
  refine Eval.aload_n rfl rfl ?_
  refine Eval.iconst (x := (2 : Int32)) rfl rfl ?_
  refine Eval.newarray (z := 71) (N := 2) (a := 12) (H1 := (W0 scr [.inl [.ref 2, .ref 3, .ref 4, .ref 5, .ref 6, .ref 7, .ref 8, .ref 9, .ref 10, .ref 11, .null, .null, .null, .int (0 : Int32), .int (0 : Int32)], .inr (.inl (1, List.replicate 8 0)), .inr (.inl (1, List.replicate 8 0)), .inr (.inl (1, List.replicate 8 0)), .inr (.inl (1, List.replicate 8 0)), .inr (.inl (1, List.replicate 8 0)), .inr (.inl (1, List.replicate 8 0)), .inr (.inl (1, List.replicate 2 0)), .inr (.inl (1, List.replicate 2 0)), .inr (.inl (1, List.replicate 2 0)), .inr (.inl (1, List.replicate 2 0)), .inr (.inl (1, List.replicate 2 0))])) rfl rfl rfl rfl rfl (by decide) (by decide) (by unfold W0; simp only [hsz, csz, own_objN, List.length_replicate]) (by decide) rfl ?_
  refine Eval.putfield (H1 := (W0 scr [.inl [.ref 2, .ref 3, .ref 4, .ref 5, .ref 6, .ref 7, .ref 8, .ref 9, .ref 10, .ref 11, .ref 12, .null, .null, .int (0 : Int32), .int (0 : Int32)], .inr (.inl (1, List.replicate 8 0)), .inr (.inl (1, List.replicate 8 0)), .inr (.inl (1, List.replicate 8 0)), .inr (.inl (1, List.replicate 8 0)), .inr (.inl (1, List.replicate 8 0)), .inr (.inl (1, List.replicate 8 0)), .inr (.inl (1, List.replicate 2 0)), .inr (.inl (1, List.replicate 2 0)), .inr (.inl (1, List.replicate 2 0)), .inr (.inl (1, List.replicate 2 0)), .inr (.inl (1, List.replicate 2 0))])) rfl rfl rfl ?_
  refine Eval.aload_n rfl rfl ?_
  refine Eval.sipush (x := (128 : Int32)) rfl rfl ?_
  refine Eval.newarray (z := 73) (N := 128) (a := 13) (H1 := (W0 scr [.inl [.ref 2, .ref 3, .ref 4, .ref 5, .ref 6, .ref 7, .ref 8, .ref 9, .ref 10, .ref 11, .ref 12, .null, .null, .int (0 : Int32), .int (0 : Int32)], .inr (.inl (1, List.replicate 8 0)), .inr (.inl (1, List.replicate 8 0)), .inr (.inl (1, List.replicate 8 0)), .inr (.inl (1, List.replicate 8 0)), .inr (.inl (1, List.replicate 8 0)), .inr (.inl (1, List.replicate 8 0)), .inr (.inl (1, List.replicate 2 0)), .inr (.inl (1, List.replicate 2 0)), .inr (.inl (1, List.replicate 2 0)), .inr (.inl (1, List.replicate 2 0)), .inr (.inl (1, List.replicate 2 0)), .inr (.inl (1, List.replicate 128 0))])) rfl rfl rfl rfl rfl (by decide) (by decide) (by unfold W0; simp only [hsz, csz, own_objN, List.length_replicate]) (by decide) rfl ?_
  refine Eval.putfield (H1 := (W0 scr [.inl [.ref 2, .ref 3, .ref 4, .ref 5, .ref 6, .ref 7, .ref 8, .ref 9, .ref 10, .ref 11, .ref 12, .ref 13, .null, .int (0 : Int32), .int (0 : Int32)], .inr (.inl (1, List.replicate 8 0)), .inr (.inl (1, List.replicate 8 0)), .inr (.inl (1, List.replicate 8 0)), .inr (.inl (1, List.replicate 8 0)), .inr (.inl (1, List.replicate 8 0)), .inr (.inl (1, List.replicate 8 0)), .inr (.inl (1, List.replicate 2 0)), .inr (.inl (1, List.replicate 2 0)), .inr (.inl (1, List.replicate 2 0)), .inr (.inl (1, List.replicate 2 0)), .inr (.inl (1, List.replicate 2 0)), .inr (.inl (1, List.replicate 128 0))])) rfl rfl rfl ?_
  refine Eval.aload_n rfl rfl ?_
  refine Eval.sipush (x := (512 : Int32)) rfl rfl ?_
  refine Eval.newarray (z := 201) (N := 512) (a := 14) (H1 := (W0 scr [.inl [.ref 2, .ref 3, .ref 4, .ref 5, .ref 6, .ref 7, .ref 8, .ref 9, .ref 10, .ref 11, .ref 12, .ref 13, .null, .int (0 : Int32), .int (0 : Int32)], .inr (.inl (1, List.replicate 8 0)), .inr (.inl (1, List.replicate 8 0)), .inr (.inl (1, List.replicate 8 0)), .inr (.inl (1, List.replicate 8 0)), .inr (.inl (1, List.replicate 8 0)), .inr (.inl (1, List.replicate 8 0)), .inr (.inl (1, List.replicate 2 0)), .inr (.inl (1, List.replicate 2 0)), .inr (.inl (1, List.replicate 2 0)), .inr (.inl (1, List.replicate 2 0)), .inr (.inl (1, List.replicate 2 0)), .inr (.inl (1, List.replicate 128 0)), .inr (.inl (1, List.replicate 512 0))])) rfl rfl rfl rfl rfl (by decide) (by decide) (by unfold W0; simp only [hsz, csz, own_objN, List.length_replicate]) (by decide) rfl ?_
  refine Eval.putfield (H1 := (W0 scr [.inl [.ref 2, .ref 3, .ref 4, .ref 5, .ref 6, .ref 7, .ref 8, .ref 9, .ref 10, .ref 11, .ref 12, .ref 13, .ref 14, .int (0 : Int32), .int (0 : Int32)], .inr (.inl (1, List.replicate 8 0)), .inr (.inl (1, List.replicate 8 0)), .inr (.inl (1, List.replicate 8 0)), .inr (.inl (1, List.replicate 8 0)), .inr (.inl (1, List.replicate 8 0)), .inr (.inl (1, List.replicate 8 0)), .inr (.inl (1, List.replicate 2 0)), .inr (.inl (1, List.replicate 2 0)), .inr (.inl (1, List.replicate 2 0)), .inr (.inl (1, List.replicate 2 0)), .inr (.inl (1, List.replicate 2 0)), .inr (.inl (1, List.replicate 128 0)), .inr (.inl (1, List.replicate 512 0))])) rfl rfl rfl ?_
  show Eval own_P 1 105 [some (.ref 1), some (.int v1), none, none] [] (W1 scr Q0 []) out
  exact ev_j_init_b105 scr Q0 v1 h hk
abbrev law_l46_K (scr : List Int32) (res : (Q) ⊕ ((Q) ⊕ ((Q) ⊕ ((Q) ⊕ ((Q) ⊕ ((Q) ⊕ ((Q) ⊕ ((Q) ⊕ ((Q) ⊕ ((Q) ⊕ ((Q) ⊕ ((Q) ⊕ ((Q) ⊕ ((Q) ⊕ ((Q) ⊕ ((Q) ⊕ ((Q) ⊕ (Q)))))))))))))))))) (out : Option Value × AHeap) : Prop := Sum.elim (fun res => Eval own_P 0 185 [none, none, none, none, none, none, none, none, none, none, none, none, none, none, none, none, none, none, none, none, none, none, none, none, none, none, none] [] (W1 scr res []) out) (fun res => Sum.elim (fun res => Eval own_P 0 247 [none, none, none, none, none, none, none, none, none, none, none, none, none, none, none, none, none, none, none, none, none, none, none, none, none, none, none] [] (W1 scr res []) out) (fun res => Sum.elim (fun res => Eval own_P 0 326 [none, none, none, none, none, none, none, none, none, none, none, none, none, none, none, none, none, none, none, none, none, none, none, none, none, none, none] [] (W1 scr res []) out) (fun res => Sum.elim (fun res => Eval own_P 0 364 [none, none, none, none, none, none, none, none, none, none, none, none, none, none, none, none, none, none, none, none, none, none, none, none, none, none, none] [] (W1 scr res []) out) (fun res => Sum.elim (fun res => Eval own_P 0 408 [none, none, none, none, none, none, none, none, none, none, none, none, none, none, none, none, none, none, none, none, none, none, none, none, none, none, none] [] (W1 scr res []) out) (fun res => Sum.elim (fun res => Eval own_P 0 458 [none, none, none, none, none, none, none, none, none, none, none, none, none, none, none, none, none, none, none, none, none, none, none, none, none, none, none] [] (W1 scr res []) out) (fun res => Sum.elim (fun res => Eval own_P 0 479 [none, none, none, none, none, none, none, none, none, none, none, none, none, none, none, none, none, none, none, none, none, none, none, none, none, none, none] [] (W1 scr res []) out) (fun res => Sum.elim (fun res => Eval own_P 0 504 [none, none, none, none, none, none, none, none, none, none, none, none, none, none, none, none, none, none, none, none, none, none, none, none, none, none, none] [] (W1 scr res []) out) (fun res => Sum.elim (fun res => Eval own_P 0 527 [none, none, none, none, none, none, none, none, none, none, none, none, none, none, none, none, none, none, none, none, none, none, none, none, none, none, none] [] (W1 scr res []) out) (fun res => Sum.elim (fun res => Eval own_P 0 632 [none, none, none, none, none, none, none, none, none, none, none, none, none, none, none, none, none, none, none, none, none, none, none, none, none, none, none] [] (W1 scr res []) out) (fun res => Sum.elim (fun res => Eval own_P 0 686 [none, none, none, none, none, none, none, none, none, none, none, none, none, none, none, none, none, none, none, none, none, none, none, none, none, none, none] [] (W1 scr res []) out) (fun res => Sum.elim (fun res => Eval own_P 0 708 [none, none, none, none, none, none, none, none, none, none, none, none, none, none, none, none, none, none, none, none, none, none, none, none, none, none, none] [] (W1 scr res []) out) (fun res => Sum.elim (fun res => Eval own_P 0 730 [none, none, none, none, none, none, none, none, none, none, none, none, none, none, none, none, none, none, none, none, none, none, none, none, none, none, none] [] (W1 scr res []) out) (fun res => Sum.elim (fun res => Eval own_P 0 752 [none, none, none, none, none, none, none, none, none, none, none, none, none, none, none, none, none, none, none, none, none, none, none, none, none, none, none] [] (W1 scr res []) out) (fun res => Sum.elim (fun res => Eval own_P 0 788 [none, none, none, none, none, none, none, none, none, none, none, none, none, none, none, none, none, none, none, none, none, none, none, none, none, none, none] [] (W1 scr res []) out) (fun res => Sum.elim (fun res => Eval own_P 0 814 [none, none, none, none, none, none, none, none, none, none, none, none, none, none, none, none, none, none, none, none, none, none, none, none, none, none, none] [] (W1 scr res []) out) (fun res => Sum.elim (fun res => Eval own_P 0 843 [none, none, none, none, none, none, none, none, none, none, none, none, none, none, none, none, none, none, none, none, none, none, none, none, none, none, none] [] (W1 scr res []) out) (fun res => Eval own_P 0 851 [none, none, none, none, none, none, none, none, none, none, none, none, none, none, none, none, none, none, none, none, none, none, none, none, none, none, none] [] (W1 scr res []) out) res) res) res) res) res) res) res) res) res) res) res) res) res) res) res) res) res

def j_validThread (s : Q) (v1 : Int32) : Int32 := (if v1 < (0 : Int32) then ((0 : Int32)) else (if v1 < s.f_n then ((1 : Int32)) else ((0 : Int32))))
set_option maxRecDepth 100000 in
theorem ev_j_validThread (R : AHeap) (scr : List Int32) (s : Q) (v1 : Int32) {res : Int32} {out : Option Value × AHeap} (h : j_validThread s v1 = res) (hk : out = (some (.int res), (W1 scr s R))) : Eval own_P 3 0 [some (.ref 1), some (.int v1)] [] (W1 scr s R) out := by
  rw [j_validThread] at h
  refine Eval.iload_n rfl rfl ?_
  by_cases hc31 : v1 < (0 : Int32)
  · rw [if_pos hc31] at h
    refine Eval.ifT (t := 16) rfl rfl (tlt hc31).1 ?_
    refine Eval.iconst (x := (0 : Int32)) rfl rfl ?_
    subst h
    subst hk
    exact Eval.ret rfl rfl
  · rw [if_neg hc31] at h
    refine Eval.ifF rfl (flt hc31).1 ?_
    refine Eval.iload_n rfl rfl ?_
    refine Eval.aload_n rfl rfl ?_
    refine Eval.getfield rfl rfl own_g1_n ?_
    by_cases hc32 : v1 < s.f_n
    · rw [if_pos hc32] at h
      refine Eval.icmpF rfl (tlt hc32).2.1 ?_
      refine Eval.iconst (x := (1 : Int32)) rfl rfl ?_
      refine Eval.goto (t := 17) rfl rfl ?_
      subst h
      subst hk
      exact Eval.ret rfl rfl
    · rw [if_neg hc32] at h
      refine Eval.icmpT (t := 16) rfl rfl (flt hc32).2.1 ?_
      refine Eval.iconst (x := (0 : Int32)) rfl rfl ?_
      subst h
      subst hk
      exact Eval.ret rfl rfl
def j_state (s : Q) (v1 : Int32) : Option (Int32) := (if (j_validThread s v1) = (0 : Int32) then some ((-2 : Int32)) else (if inb s.f_st.length v1 = true then some ((rd s.f_st v1)) else none))
set_option maxRecDepth 100000 in
theorem ev_j_state (R : AHeap) (scr : List Int32) (s : Q) (v1 : Int32) {res : Int32} {out : Option Value × AHeap} (h : j_state s v1 = some res) (hk : out = (some (.int res), (W1 scr s R))) : Eval own_P 2 0 [some (.ref 1), some (.int v1)] [] (W1 scr s R) out := by
  rw [j_state] at h
  refine Eval.aload_n rfl rfl ?_
  refine Eval.iload_n rfl rfl ?_
  refine Eval.callI (rest := []) (x := (j_validThread s v1)) (H1 := (W1 scr s R)) rfl rfl (ev_j_validThread R scr s v1 rfl rfl) ?_
  by_cases hc33 : (j_validThread s v1) = (0 : Int32)
  · rw [if_pos hc33] at h
    refine Eval.ifF rfl (teq hc33).2 ?_
    refine Eval.bipush (x := (-2 : Int32)) rfl rfl ?_
    cases h
    subst hk
    exact Eval.ret rfl rfl
  · rw [if_neg hc33] at h
    refine Eval.ifT (t := 11) rfl rfl (feq hc33).2 ?_
    refine Eval.aload_n rfl rfl ?_
    refine Eval.getfield rfl rfl own_g1_st ?_
    refine Eval.iload_n rfl rfl ?_
    obtain ⟨hb34, h⟩ := ite_some h
    refine Eval.iaload rfl own_a1_st hb34 ?_
    cases h
    subst hk
    exact Eval.ret rfl rfl
def j_lockOf (s : Q) (v1 : Int32) : Option (Int32) := (if (j_validThread s v1) = (0 : Int32) then some ((-2 : Int32)) else (if inb s.f_lk.length v1 = true then some ((rd s.f_lk v1)) else none))
set_option maxRecDepth 100000 in
theorem ev_j_lockOf (R : AHeap) (scr : List Int32) (s : Q) (v1 : Int32) {res : Int32} {out : Option Value × AHeap} (h : j_lockOf s v1 = some res) (hk : out = (some (.int res), (W1 scr s R))) : Eval own_P 4 0 [some (.ref 1), some (.int v1)] [] (W1 scr s R) out := by
  rw [j_lockOf] at h
  refine Eval.aload_n rfl rfl ?_
  refine Eval.iload_n rfl rfl ?_
  refine Eval.callI (rest := []) (x := (j_validThread s v1)) (H1 := (W1 scr s R)) rfl rfl (ev_j_validThread R scr s v1 rfl rfl) ?_
  by_cases hc37 : (j_validThread s v1) = (0 : Int32)
  · rw [if_pos hc37] at h
    refine Eval.ifF rfl (teq hc37).2 ?_
    refine Eval.bipush (x := (-2 : Int32)) rfl rfl ?_
    cases h
    subst hk
    exact Eval.ret rfl rfl
  · rw [if_neg hc37] at h
    refine Eval.ifT (t := 11) rfl rfl (feq hc37).2 ?_
    refine Eval.aload_n rfl rfl ?_
    refine Eval.getfield rfl rfl own_g1_lk ?_
    refine Eval.iload_n rfl rfl ?_
    obtain ⟨hb38, h⟩ := ite_some h
    refine Eval.iaload rfl own_a1_lk hb38 ?_
    cases h
    subst hk
    exact Eval.ret rfl rfl
def j_spins (s : Q) (v1 : Int32) : Option (Int32) := (if (j_validThread s v1) = (0 : Int32) then some ((-2 : Int32)) else (if inb s.f_spin.length v1 = true then some ((rd s.f_spin v1)) else none))
set_option maxRecDepth 100000 in
theorem ev_j_spins (R : AHeap) (scr : List Int32) (s : Q) (v1 : Int32) {res : Int32} {out : Option Value × AHeap} (h : j_spins s v1 = some res) (hk : out = (some (.int res), (W1 scr s R))) : Eval own_P 5 0 [some (.ref 1), some (.int v1)] [] (W1 scr s R) out := by
  rw [j_spins] at h
  refine Eval.aload_n rfl rfl ?_
  refine Eval.iload_n rfl rfl ?_
  refine Eval.callI (rest := []) (x := (j_validThread s v1)) (H1 := (W1 scr s R)) rfl rfl (ev_j_validThread R scr s v1 rfl rfl) ?_
  by_cases hc41 : (j_validThread s v1) = (0 : Int32)
  · rw [if_pos hc41] at h
    refine Eval.ifF rfl (teq hc41).2 ?_
    refine Eval.bipush (x := (-2 : Int32)) rfl rfl ?_
    cases h
    subst hk
    exact Eval.ret rfl rfl
  · rw [if_neg hc41] at h
    refine Eval.ifT (t := 11) rfl rfl (feq hc41).2 ?_
    refine Eval.aload_n rfl rfl ?_
    refine Eval.getfield rfl rfl own_g1_spin ?_
    refine Eval.iload_n rfl rfl ?_
    obtain ⟨hb42, h⟩ := ite_some h
    refine Eval.iaload rfl own_a1_spin hb42 ?_
    cases h
    subst hk
    exact Eval.ret rfl rfl
def j_validLock_b9 : Int32 := ((1 : Int32))
set_option maxRecDepth 100000 in
theorem ev_j_validLock_b9 (H : AHeap) (a : Nat) {res : Int32} {out : Option Value × AHeap} (h : j_validLock_b9 = res) (hk : out = (some (.int res), H)) : Eval own_P 9 9 [none, none] [] H out := by
  rw [j_validLock_b9] at h
  refine Eval.iconst (x := (1 : Int32)) rfl rfl ?_
  refine Eval.goto (t := 14) rfl rfl ?_
  subst h
  subst hk
  exact Eval.ret rfl rfl
def j_validLock (v1 : Int32) : Int32 := (if v1 = (0 : Int32) then (j_validLock_b9) else (if v1 = (1 : Int32) then (j_validLock_b9) else ((0 : Int32))))
set_option maxRecDepth 100000 in
theorem ev_j_validLock (H : AHeap) (a : Nat) (v1 : Int32) {res : Int32} {out : Option Value × AHeap} (h : j_validLock v1 = res) (hk : out = (some (.int res), H)) : Eval own_P 9 0 [some (.ref a), some (.int v1)] [] H out := by
  rw [j_validLock] at h
  refine Eval.iload_n rfl rfl ?_
  by_cases hc50 : v1 = (0 : Int32)
  · rw [if_pos hc50] at h
    refine Eval.ifT (t := 9) rfl rfl (teq hc50).1 ?_
    refine Eval.weak (L' := [none, none]) ⟨_, _, rfl, Or.inl rfl, _, _, rfl, Or.inl rfl, rfl⟩ ?_
    exact ev_j_validLock_b9 H a h hk
  · rw [if_neg hc50] at h
    refine Eval.ifF rfl (feq hc50).1 ?_
    refine Eval.iload_n rfl rfl ?_
    refine Eval.iconst (x := (1 : Int32)) rfl rfl ?_
    by_cases hc51 : v1 = (1 : Int32)
    · rw [if_pos hc51] at h
      refine Eval.icmpF rfl (teq hc51).2 ?_
      refine Eval.weak (L' := [none, none]) ⟨_, _, rfl, Or.inl rfl, _, _, rfl, Or.inl rfl, rfl⟩ ?_
      exact ev_j_validLock_b9 H a h hk
    · rw [if_neg hc51] at h
      refine Eval.icmpT (t := 13) rfl rfl (feq hc51).2 ?_
      refine Eval.iconst (x := (0 : Int32)) rfl rfl ?_
      subst h
      subst hk
      exact Eval.ret rfl rfl
def j_clampTimeout (v1 : Int32) : Int32 := (if v1 < (0 : Int32) then ((0 : Int32)) else (if (50 : Int32) < v1 then ((50 : Int32)) else (v1)))
set_option maxRecDepth 100000 in
theorem ev_j_clampTimeout (H : AHeap) (a : Nat) (v1 : Int32) {res : Int32} {out : Option Value × AHeap} (h : j_clampTimeout v1 = res) (hk : out = (some (.int res), H)) : Eval own_P 15 0 [some (.ref a), some (.int v1)] [] H out := by
  rw [j_clampTimeout] at h
  refine Eval.iload_n rfl rfl ?_
  by_cases hc55 : v1 < (0 : Int32)
  · rw [if_pos hc55] at h
    refine Eval.ifF rfl (tlt hc55).2.1 ?_
    refine Eval.iconst (x := (0 : Int32)) rfl rfl ?_
    subst h
    subst hk
    exact Eval.ret rfl rfl
  · rw [if_neg hc55] at h
    refine Eval.ifT (t := 6) rfl rfl (flt hc55).2.1 ?_
    refine Eval.iload_n rfl rfl ?_
    refine Eval.bipush (x := (50 : Int32)) rfl rfl ?_
    by_cases hc56 : (50 : Int32) < v1
    · rw [if_pos hc56] at h
      refine Eval.icmpF rfl (tlt hc56).2.2.2 ?_
      refine Eval.bipush (x := (50 : Int32)) rfl rfl ?_
      subst h
      subst hk
      exact Eval.ret rfl rfl
    · rw [if_neg hc56] at h
      refine Eval.icmpT (t := 15) rfl rfl (flt hc56).2.2.2 ?_
      refine Eval.iload_n rfl rfl ?_
      subst h
      subst hk
      exact Eval.ret rfl rfl
def j_inNodes (v1 : Int32) : Int32 := (if v1 < (0 : Int32) then ((0 : Int32)) else (if v1 < (8 : Int32) then ((1 : Int32)) else ((0 : Int32))))
set_option maxRecDepth 100000 in
theorem ev_j_inNodes (H : AHeap) (a : Nat) (v1 : Int32) {res : Int32} {out : Option Value × AHeap} (h : j_inNodes v1 = res) (hk : out = (some (.int res), H)) : Eval own_P 13 0 [some (.ref a), some (.int v1)] [] H out := by
  rw [j_inNodes] at h
  refine Eval.iload_n rfl rfl ?_
  by_cases hc67 : v1 < (0 : Int32)
  · rw [if_pos hc67] at h
    refine Eval.ifT (t := 14) rfl rfl (tlt hc67).1 ?_
    refine Eval.iconst (x := (0 : Int32)) rfl rfl ?_
    subst h
    subst hk
    exact Eval.ret rfl rfl
  · rw [if_neg hc67] at h
    refine Eval.ifF rfl (flt hc67).1 ?_
    refine Eval.iload_n rfl rfl ?_
    refine Eval.bipush (x := (8 : Int32)) rfl rfl ?_
    by_cases hc68 : v1 < (8 : Int32)
    · rw [if_pos hc68] at h
      refine Eval.icmpF rfl (tlt hc68).2.1 ?_
      refine Eval.iconst (x := (1 : Int32)) rfl rfl ?_
      refine Eval.goto (t := 15) rfl rfl ?_
      subst h
      subst hk
      exact Eval.ret rfl rfl
    · rw [if_neg hc68] at h
      refine Eval.icmpT (t := 14) rfl rfl (flt hc68).2.1 ?_
      refine Eval.iconst (x := (0 : Int32)) rfl rfl ?_
      subst h
      subst hk
      exact Eval.ret rfl rfl
def j_append_b55 (s : Q) (v1 : Int32) (v2 : Int32) : Option (Q) := (if inb s.f_tail.length v2 = true then (if inb s.f_len.length v2 = true then (if inb s.f_len.length v2 = true then some ((Q.mk s.f_st s.f_lk s.f_tmo s.f_spin s.f_nxt0 s.f_prv1 s.f_head (wr s.f_tail v2 v1) (wr s.f_len v2 ((rd s.f_len v2) + (1 : Int32))) s.f_ent s.f_aband s.f_log s.f_hist s.f_n s.f_clk)) else none) else none) else none)
theorem ln_j_append_b55 {s : Q} {v1 : Int32} {v2 : Int32} {res : Q} (h : j_append_b55 s v1 v2 = some res) : Q.len res = Q.len s := by
  rw [j_append_b55] at h
  obtain ⟨hb74, h⟩ := ite_some h
  obtain ⟨hb75, h⟩ := ite_some h
  obtain ⟨hb76, h⟩ := ite_some h
  have hr0 := Option.some.inj h
  subst hr0
  show Q.len (Q.mk s.f_st s.f_lk s.f_tmo s.f_spin s.f_nxt0 s.f_prv1 s.f_head (wr s.f_tail v2 v1) (wr s.f_len v2 ((rd s.f_len v2) + (1 : Int32))) s.f_ent s.f_aband s.f_log s.f_hist s.f_n s.f_clk) = _
  exact (Eq.trans (show Q.len (Q.mk s.f_st s.f_lk s.f_tmo s.f_spin s.f_nxt0 s.f_prv1 s.f_head (wr s.f_tail v2 v1) (wr s.f_len v2 ((rd s.f_len v2) + (1 : Int32))) s.f_ent s.f_aband s.f_log s.f_hist s.f_n s.f_clk) = Q.len s from own_lenmk.trans (by first | (simp only [len_wr, len_wrL] <;> rfl) | rfl)) rfl)
set_option maxRecDepth 100000 in
theorem ev_j_append_b55 (R : AHeap) (scr : List Int32) (s : Q) (v1 : Int32) (v2 : Int32) {res : Q} {out : Option Value × AHeap} (h : j_append_b55 s v1 v2 = some res) (hk : out = (none, (W1 scr res R))) : Eval own_P 16 55 [some (.ref 1), some (.int v1), some (.int v2), none] [] (W1 scr s R) out := by
  rw [j_append_b55] at h
  refine Eval.aload_n rfl rfl ?_
  refine Eval.getfield rfl rfl own_g1_tail ?_
  refine Eval.iload_n rfl rfl ?_
  refine Eval.iload_n rfl rfl ?_
  obtain ⟨hb74, h⟩ := ite_some h
  refine Eval.iastore rfl rfl own_a1_tail hb74 own_s1_tail ?_
  refine Eval.aload_n rfl rfl ?_
  refine Eval.getfield rfl rfl own_g1_len ?_
  refine Eval.iload_n rfl rfl ?_
  refine Eval.aload_n rfl rfl ?_
  refine Eval.getfield rfl rfl own_g1_len ?_
  refine Eval.iload_n rfl rfl ?_
  obtain ⟨hb75, h⟩ := ite_some h
  refine Eval.iaload rfl own_a1_len hb75 ?_
  refine Eval.iconst (x := (1 : Int32)) rfl rfl ?_
  refine Eval.iadd rfl ?_
  obtain ⟨hb76, h⟩ := ite_some h
  refine Eval.iastore rfl rfl own_a1_len hb76 own_s1_len ?_
  cases h
  subst hk
  exact Eval.retH own_mk1 rfl rfl
def j_append_b43 (s : Q) (v1 : Int32) (v2 : Int32) (v3 : Int32) : Option (Q) := (if v3 = (-1 : Int32) then (if inb s.f_head.length v2 = true then (j_append_b55 (Q.mk s.f_st s.f_lk s.f_tmo s.f_spin s.f_nxt0 s.f_prv1 (wr s.f_head v2 v1) s.f_tail s.f_len s.f_ent s.f_aband s.f_log s.f_hist s.f_n s.f_clk) v1 v2) else none) else (j_append_b55 s v1 v2))
theorem ln_j_append_b43 {s : Q} {v1 : Int32} {v2 : Int32} {v3 : Int32} {res : Q} (h : j_append_b43 s v1 v2 v3 = some res) : Q.len res = Q.len s := by
  rw [j_append_b43] at h
  by_cases hc72 : v3 = (-1 : Int32)
  · rw [if_pos hc72] at h
    obtain ⟨hb73, h⟩ := ite_some h
    exact Eq.trans (ln_j_append_b55 h) (Eq.trans (show Q.len (Q.mk s.f_st s.f_lk s.f_tmo s.f_spin s.f_nxt0 s.f_prv1 (wr s.f_head v2 v1) s.f_tail s.f_len s.f_ent s.f_aband s.f_log s.f_hist s.f_n s.f_clk) = Q.len s from own_lenmk.trans (by first | (simp only [len_wr, len_wrL] <;> rfl) | rfl)) rfl)
  · rw [if_neg hc72] at h
    exact Eq.trans (ln_j_append_b55 h) rfl
set_option maxRecDepth 100000 in
theorem ev_j_append_b43 (R : AHeap) (scr : List Int32) (s : Q) (v1 : Int32) (v2 : Int32) (v3 : Int32) {res : Q} {out : Option Value × AHeap} (h : j_append_b43 s v1 v2 v3 = some res) (hk : out = (none, (W1 scr res R))) : Eval own_P 16 43 [some (.ref 1), some (.int v1), some (.int v2), some (.int v3)] [] (W1 scr s R) out := by
  rw [j_append_b43] at h
  refine Eval.iload_n rfl rfl ?_
  refine Eval.iconst (x := (-1 : Int32)) rfl rfl ?_
  by_cases hc72 : v3 = (-1 : Int32)
  · rw [if_pos hc72] at h
    refine Eval.icmpF rfl (teq hc72).2 ?_
    refine Eval.aload_n rfl rfl ?_
    refine Eval.getfield rfl rfl own_g1_head ?_
    refine Eval.iload_n rfl rfl ?_
    refine Eval.iload_n rfl rfl ?_
    obtain ⟨hb73, h⟩ := ite_some h
    refine Eval.iastore rfl rfl own_a1_head hb73 own_s1_head ?_
    refine Eval.heap own_mk1 ?_
    refine Eval.weak (L' := [some (.ref 1), some (.int v1), some (.int v2), none]) ⟨_, _, rfl, Or.inr rfl, _, _, rfl, Or.inr rfl, _, _, rfl, Or.inr rfl, _, _, rfl, Or.inl rfl, rfl⟩ ?_
    exact ev_j_append_b55 R scr (Q.mk s.f_st s.f_lk s.f_tmo s.f_spin s.f_nxt0 s.f_prv1 (wr s.f_head v2 v1) s.f_tail s.f_len s.f_ent s.f_aband s.f_log s.f_hist s.f_n s.f_clk) v1 v2 h hk
  · rw [if_neg hc72] at h
    refine Eval.icmpT (t := 55) rfl rfl (feq hc72).2 ?_
    refine Eval.weak (L' := [some (.ref 1), some (.int v1), some (.int v2), none]) ⟨_, _, rfl, Or.inr rfl, _, _, rfl, Or.inr rfl, _, _, rfl, Or.inr rfl, _, _, rfl, Or.inl rfl, rfl⟩ ?_
    exact ev_j_append_b55 R scr s v1 v2 h hk
def j_append (s : Q) (v1 : Int32) (v2 : Int32) : Option (Q) := (if inb s.f_tail.length v2 = true then (if v2 = (0 : Int32) then (if inb s.f_nxt0.length v1 = true then (if (j_inNodes (rd s.f_tail v2)) = (0 : Int32) then (j_append_b43 (Q.mk s.f_st s.f_lk s.f_tmo s.f_spin (wr s.f_nxt0 v1 (-1 : Int32)) s.f_prv1 s.f_head s.f_tail s.f_len s.f_ent s.f_aband s.f_log s.f_hist s.f_n s.f_clk) v1 v2 (rd s.f_tail v2)) else (if inb (wr s.f_nxt0 v1 (-1 : Int32)).length (rd s.f_tail v2) = true then (j_append_b43 (Q.mk s.f_st s.f_lk s.f_tmo s.f_spin (wr (wr s.f_nxt0 v1 (-1 : Int32)) (rd s.f_tail v2) v1) s.f_prv1 s.f_head s.f_tail s.f_len s.f_ent s.f_aband s.f_log s.f_hist s.f_n s.f_clk) v1 v2 (rd s.f_tail v2)) else none)) else none) else (if inb s.f_prv1.length v1 = true then (j_append_b43 (Q.mk s.f_st s.f_lk s.f_tmo s.f_spin s.f_nxt0 (wr s.f_prv1 v1 (rd s.f_tail v2)) s.f_head s.f_tail s.f_len s.f_ent s.f_aband s.f_log s.f_hist s.f_n s.f_clk) v1 v2 (rd s.f_tail v2)) else none)) else none)
theorem ln_j_append {s : Q} {v1 : Int32} {v2 : Int32} {res : Q} (h : j_append s v1 v2 = some res) : Q.len res = Q.len s := by
  rw [j_append] at h
  obtain ⟨hb63, h⟩ := ite_some h
  by_cases hc65 : v2 = (0 : Int32)
  · rw [if_pos hc65] at h
    obtain ⟨hb66, h⟩ := ite_some h
    by_cases hc70 : (j_inNodes (rd s.f_tail v2)) = (0 : Int32)
    · rw [if_pos hc70] at h
      exact Eq.trans (ln_j_append_b43 h) (Eq.trans (show Q.len (Q.mk s.f_st s.f_lk s.f_tmo s.f_spin (wr s.f_nxt0 v1 (-1 : Int32)) s.f_prv1 s.f_head s.f_tail s.f_len s.f_ent s.f_aband s.f_log s.f_hist s.f_n s.f_clk) = Q.len s from own_lenmk.trans (by first | (simp only [len_wr, len_wrL] <;> rfl) | rfl)) rfl)
    · rw [if_neg hc70] at h
      obtain ⟨hb77, h⟩ := ite_some h
      exact Eq.trans (ln_j_append_b43 h) (Eq.trans (show Q.len (Q.mk s.f_st s.f_lk s.f_tmo s.f_spin (wr (wr s.f_nxt0 v1 (-1 : Int32)) (rd s.f_tail v2) v1) s.f_prv1 s.f_head s.f_tail s.f_len s.f_ent s.f_aband s.f_log s.f_hist s.f_n s.f_clk) = Q.len s from own_lenmk.trans (by first | (simp only [len_wr, len_wrL] <;> rfl) | rfl)) rfl)
  · rw [if_neg hc65] at h
    obtain ⟨hb78, h⟩ := ite_some h
    exact Eq.trans (ln_j_append_b43 h) (Eq.trans (show Q.len (Q.mk s.f_st s.f_lk s.f_tmo s.f_spin s.f_nxt0 (wr s.f_prv1 v1 (rd s.f_tail v2)) s.f_head s.f_tail s.f_len s.f_ent s.f_aband s.f_log s.f_hist s.f_n s.f_clk) = Q.len s from own_lenmk.trans (by first | (simp only [len_wr, len_wrL] <;> rfl) | rfl)) rfl)
set_option maxRecDepth 100000 in
theorem ev_j_append (R : AHeap) (scr : List Int32) (s : Q) (v1 : Int32) (v2 : Int32) {res : Q} {out : Option Value × AHeap} (h : j_append s v1 v2 = some res) (hk : out = (none, (W1 scr res R))) : Eval own_P 16 0 [some (.ref 1), some (.int v1), some (.int v2), none] [] (W1 scr s R) out := by
  rw [j_append] at h
  refine Eval.aload_n rfl rfl ?_
  refine Eval.getfield rfl rfl own_g1_tail ?_
  refine Eval.iload_n rfl rfl ?_
  obtain ⟨hb63, h⟩ := ite_some h
  refine Eval.iaload rfl own_a1_tail hb63 ?_
  refine Eval.istore_n (L' := [some (.ref 1), some (.int v1), some (.int v2), some (.int (rd s.f_tail v2))]) rfl rfl ?_
  refine Eval.iload_n rfl rfl ?_
  by_cases hc65 : v2 = (0 : Int32)
  · rw [if_pos hc65] at h
    refine Eval.ifF rfl (teq hc65).2 ?_
    refine Eval.aload_n rfl rfl ?_
    refine Eval.getfield rfl rfl own_g1_nxt0 ?_
    refine Eval.iload_n rfl rfl ?_
    refine Eval.iconst (x := (-1 : Int32)) rfl rfl ?_
    obtain ⟨hb66, h⟩ := ite_some h
    refine Eval.iastore rfl rfl own_a1_nxt0 hb66 own_s1_nxt0 ?_
    refine Eval.aload_n rfl rfl ?_
    refine Eval.iload_n rfl rfl ?_
    refine Eval.callI (rest := []) (x := (j_inNodes (rd s.f_tail v2))) (H1 := (C1 scr s.f_st s.f_lk s.f_tmo s.f_spin (wr s.f_nxt0 v1 (-1 : Int32)) s.f_prv1 s.f_head s.f_tail s.f_len s.f_ent s.f_aband s.f_log s.f_hist s.f_n s.f_clk R)) rfl rfl (ev_j_inNodes (C1 scr s.f_st s.f_lk s.f_tmo s.f_spin (wr s.f_nxt0 v1 (-1 : Int32)) s.f_prv1 s.f_head s.f_tail s.f_len s.f_ent s.f_aband s.f_log s.f_hist s.f_n s.f_clk R) 1 (rd s.f_tail v2) rfl rfl) ?_
    by_cases hc70 : (j_inNodes (rd s.f_tail v2)) = (0 : Int32)
    · rw [if_pos hc70] at h
      refine Eval.ifT (t := 43) rfl rfl (teq hc70).1 ?_
      refine Eval.heap own_mk1 ?_
      exact ev_j_append_b43 R scr (Q.mk s.f_st s.f_lk s.f_tmo s.f_spin (wr s.f_nxt0 v1 (-1 : Int32)) s.f_prv1 s.f_head s.f_tail s.f_len s.f_ent s.f_aband s.f_log s.f_hist s.f_n s.f_clk) v1 v2 (rd s.f_tail v2) h hk
    · rw [if_neg hc70] at h
      refine Eval.ifF rfl (feq hc70).1 ?_
      refine Eval.aload_n rfl rfl ?_
      refine Eval.getfield rfl rfl own_g1_nxt0 ?_
      refine Eval.iload_n rfl rfl ?_
      refine Eval.iload_n rfl rfl ?_
      obtain ⟨hb77, h⟩ := ite_some h
      refine Eval.iastore rfl rfl own_a1_nxt0 hb77 own_s1_nxt0 ?_
      refine Eval.goto (t := 43) rfl rfl ?_
      refine Eval.heap own_mk1 ?_
      exact ev_j_append_b43 R scr (Q.mk s.f_st s.f_lk s.f_tmo s.f_spin (wr (wr s.f_nxt0 v1 (-1 : Int32)) (rd s.f_tail v2) v1) s.f_prv1 s.f_head s.f_tail s.f_len s.f_ent s.f_aband s.f_log s.f_hist s.f_n s.f_clk) v1 v2 (rd s.f_tail v2) h hk
  · rw [if_neg hc65] at h
    refine Eval.ifT (t := 36) rfl rfl (feq hc65).2 ?_
    refine Eval.aload_n rfl rfl ?_
    refine Eval.getfield rfl rfl own_g1_prv1 ?_
    refine Eval.iload_n rfl rfl ?_
    refine Eval.iload_n rfl rfl ?_
    obtain ⟨hb78, h⟩ := ite_some h
    refine Eval.iastore rfl rfl own_a1_prv1 hb78 own_s1_prv1 ?_
    refine Eval.heap own_mk1 ?_
    exact ev_j_append_b43 R scr (Q.mk s.f_st s.f_lk s.f_tmo s.f_spin s.f_nxt0 (wr s.f_prv1 v1 (rd s.f_tail v2)) s.f_head s.f_tail s.f_len s.f_ent s.f_aband s.f_log s.f_hist s.f_n s.f_clk) v1 v2 (rd s.f_tail v2) h hk
def j_enter_b29 (s : Q) (v2 : Int32) (v3 : Int32) : Option (Q) := (if inb s.f_ent.length v2 = true then some ((Q.mk s.f_st s.f_lk s.f_tmo s.f_spin s.f_nxt0 s.f_prv1 s.f_head s.f_tail s.f_len (wr s.f_ent v2 (v3 + (1 : Int32))) s.f_aband s.f_log s.f_hist s.f_n s.f_clk)) else none)
theorem ln_j_enter_b29 {s : Q} {v2 : Int32} {v3 : Int32} {res : Q} (h : j_enter_b29 s v2 v3 = some res) : Q.len res = Q.len s := by
  rw [j_enter_b29] at h
  obtain ⟨hb87, h⟩ := ite_some h
  have hr0 := Option.some.inj h
  subst hr0
  show Q.len (Q.mk s.f_st s.f_lk s.f_tmo s.f_spin s.f_nxt0 s.f_prv1 s.f_head s.f_tail s.f_len (wr s.f_ent v2 (v3 + (1 : Int32))) s.f_aband s.f_log s.f_hist s.f_n s.f_clk) = _
  exact (Eq.trans (show Q.len (Q.mk s.f_st s.f_lk s.f_tmo s.f_spin s.f_nxt0 s.f_prv1 s.f_head s.f_tail s.f_len (wr s.f_ent v2 (v3 + (1 : Int32))) s.f_aband s.f_log s.f_hist s.f_n s.f_clk) = Q.len s from own_lenmk.trans (by first | (simp only [len_wr, len_wrL] <;> rfl) | rfl)) rfl)
set_option maxRecDepth 100000 in
theorem ev_j_enter_b29 (R : AHeap) (scr : List Int32) (s : Q) (v2 : Int32) (v3 : Int32) {res : Q} {out : Option Value × AHeap} (h : j_enter_b29 s v2 v3 = some res) (hk : out = (none, (W1 scr res R))) : Eval own_P 17 29 [some (.ref 1), none, some (.int v2), some (.int v3)] [] (W1 scr s R) out := by
  rw [j_enter_b29] at h
  refine Eval.aload_n rfl rfl ?_
  refine Eval.getfield rfl rfl own_g1_ent ?_
  refine Eval.iload_n rfl rfl ?_
  refine Eval.iload_n rfl rfl ?_
  refine Eval.iconst (x := (1 : Int32)) rfl rfl ?_
  refine Eval.iadd rfl ?_
  obtain ⟨hb87, h⟩ := ite_some h
  refine Eval.iastore rfl rfl own_a1_ent hb87 own_s1_ent ?_
  cases h
  subst hk
  exact Eval.retH own_mk1 rfl rfl
def j_enter (s : Q) (v1 : Int32) (v2 : Int32) : Option (Q) := (if inb s.f_ent.length v2 = true then (if (rd s.f_ent v2) < (0 : Int32) then (j_enter_b29 s v2 (rd s.f_ent v2)) else (if (rd s.f_ent v2) < (64 : Int32) then (if inb s.f_log.length ((v2 * (64 : Int32)) + (rd s.f_ent v2)) = true then (j_enter_b29 (Q.mk s.f_st s.f_lk s.f_tmo s.f_spin s.f_nxt0 s.f_prv1 s.f_head s.f_tail s.f_len s.f_ent s.f_aband (wr s.f_log ((v2 * (64 : Int32)) + (rd s.f_ent v2)) v1) s.f_hist s.f_n s.f_clk) v2 (rd s.f_ent v2)) else none) else (j_enter_b29 s v2 (rd s.f_ent v2)))) else none)
theorem ln_j_enter {s : Q} {v1 : Int32} {v2 : Int32} {res : Q} (h : j_enter s v1 v2 = some res) : Q.len res = Q.len s := by
  rw [j_enter] at h
  obtain ⟨hb83, h⟩ := ite_some h
  by_cases hc86 : (rd s.f_ent v2) < (0 : Int32)
  · rw [if_pos hc86] at h
    exact Eq.trans (ln_j_enter_b29 h) rfl
  · rw [if_neg hc86] at h
    by_cases hc89 : (rd s.f_ent v2) < (64 : Int32)
    · rw [if_pos hc89] at h
      obtain ⟨hb90, h⟩ := ite_some h
      exact Eq.trans (ln_j_enter_b29 h) (Eq.trans (show Q.len (Q.mk s.f_st s.f_lk s.f_tmo s.f_spin s.f_nxt0 s.f_prv1 s.f_head s.f_tail s.f_len s.f_ent s.f_aband (wr s.f_log ((v2 * (64 : Int32)) + (rd s.f_ent v2)) v1) s.f_hist s.f_n s.f_clk) = Q.len s from own_lenmk.trans (by first | (simp only [len_wr, len_wrL] <;> rfl) | rfl)) rfl)
    · rw [if_neg hc89] at h
      exact Eq.trans (ln_j_enter_b29 h) rfl
set_option maxRecDepth 100000 in
theorem ev_j_enter (R : AHeap) (scr : List Int32) (s : Q) (v1 : Int32) (v2 : Int32) {res : Q} {out : Option Value × AHeap} (h : j_enter s v1 v2 = some res) (hk : out = (none, (W1 scr res R))) : Eval own_P 17 0 [some (.ref 1), some (.int v1), some (.int v2), none] [] (W1 scr s R) out := by
  rw [j_enter] at h
  refine Eval.aload_n rfl rfl ?_
  refine Eval.getfield rfl rfl own_g1_ent ?_
  refine Eval.iload_n rfl rfl ?_
  obtain ⟨hb83, h⟩ := ite_some h
  refine Eval.iaload rfl own_a1_ent hb83 ?_
  refine Eval.istore_n (L' := [some (.ref 1), some (.int v1), some (.int v2), some (.int (rd s.f_ent v2))]) rfl rfl ?_
  refine Eval.iload_n rfl rfl ?_
  by_cases hc86 : (rd s.f_ent v2) < (0 : Int32)
  · rw [if_pos hc86] at h
    refine Eval.ifT (t := 29) rfl rfl (tlt hc86).1 ?_
    refine Eval.weak (L' := [some (.ref 1), none, some (.int v2), some (.int (rd s.f_ent v2))]) ⟨_, _, rfl, Or.inr rfl, _, _, rfl, Or.inl rfl, _, _, rfl, Or.inr rfl, _, _, rfl, Or.inr rfl, rfl⟩ ?_
    exact ev_j_enter_b29 R scr s v2 (rd s.f_ent v2) h hk
  · rw [if_neg hc86] at h
    refine Eval.ifF rfl (flt hc86).1 ?_
    refine Eval.iload_n rfl rfl ?_
    refine Eval.bipush (x := (64 : Int32)) rfl rfl ?_
    by_cases hc89 : (rd s.f_ent v2) < (64 : Int32)
    · rw [if_pos hc89] at h
      refine Eval.icmpF rfl (tlt hc89).2.1 ?_
      refine Eval.aload_n rfl rfl ?_
      refine Eval.getfield rfl rfl own_g1_log ?_
      refine Eval.iload_n rfl rfl ?_
      refine Eval.bipush (x := (64 : Int32)) rfl rfl ?_
      refine Eval.imul rfl ?_
      refine Eval.iload_n rfl rfl ?_
      refine Eval.iadd rfl ?_
      refine Eval.iload_n rfl rfl ?_
      obtain ⟨hb90, h⟩ := ite_some h
      refine Eval.iastore rfl rfl own_a1_log hb90 own_s1_log ?_
      refine Eval.heap own_mk1 ?_
      refine Eval.weak (L' := [some (.ref 1), none, some (.int v2), some (.int (rd s.f_ent v2))]) ⟨_, _, rfl, Or.inr rfl, _, _, rfl, Or.inl rfl, _, _, rfl, Or.inr rfl, _, _, rfl, Or.inr rfl, rfl⟩ ?_
      exact ev_j_enter_b29 R scr (Q.mk s.f_st s.f_lk s.f_tmo s.f_spin s.f_nxt0 s.f_prv1 s.f_head s.f_tail s.f_len s.f_ent s.f_aband (wr s.f_log ((v2 * (64 : Int32)) + (rd s.f_ent v2)) v1) s.f_hist s.f_n s.f_clk) v2 (rd s.f_ent v2) h hk
    · rw [if_neg hc89] at h
      refine Eval.icmpT (t := 29) rfl rfl (flt hc89).2.1 ?_
      refine Eval.weak (L' := [some (.ref 1), none, some (.int v2), some (.int (rd s.f_ent v2))]) ⟨_, _, rfl, Or.inr rfl, _, _, rfl, Or.inl rfl, _, _, rfl, Or.inr rfl, _, _, rfl, Or.inr rfl, rfl⟩ ?_
      exact ev_j_enter_b29 R scr s v2 (rd s.f_ent v2) h hk
def j_holder (s : Q) (v1 : Int32) : Option (Int32) := (if (j_validLock v1) = (0 : Int32) then some ((-2 : Int32)) else (if inb s.f_head.length v1 = true then (if (j_inNodes (rd s.f_head v1)) = (0 : Int32) then some ((-1 : Int32)) else (if inb s.f_st.length (rd s.f_head v1) = true then (if (rd s.f_st (rd s.f_head v1)) = (3 : Int32) then some ((rd s.f_head v1)) else some ((-1 : Int32))) else none)) else none))
set_option maxRecDepth 100000 in
theorem ev_j_holder (R : AHeap) (scr : List Int32) (s : Q) (v1 : Int32) {res : Int32} {out : Option Value × AHeap} (h : j_holder s v1 = some res) (hk : out = (some (.int res), (W1 scr s R))) : Eval own_P 12 0 [some (.ref 1), some (.int v1), none] [] (W1 scr s R) out := by
  rw [j_holder] at h
  refine Eval.aload_n rfl rfl ?_
  refine Eval.iload_n rfl rfl ?_
  refine Eval.callI (rest := []) (x := (j_validLock v1)) (H1 := (W1 scr s R)) rfl rfl (ev_j_validLock (W1 scr s R) 1 v1 rfl rfl) ?_
  by_cases hc96 : (j_validLock v1) = (0 : Int32)
  · rw [if_pos hc96] at h
    refine Eval.ifF rfl (teq hc96).2 ?_
    refine Eval.bipush (x := (-2 : Int32)) rfl rfl ?_
    cases h
    subst hk
    exact Eval.ret rfl rfl
  · rw [if_neg hc96] at h
    refine Eval.ifT (t := 11) rfl rfl (feq hc96).2 ?_
    refine Eval.aload_n rfl rfl ?_
    refine Eval.getfield rfl rfl own_g1_head ?_
    refine Eval.iload_n rfl rfl ?_
    obtain ⟨hb97, h⟩ := ite_some h
    refine Eval.iaload rfl own_a1_head hb97 ?_
    refine Eval.istore_n (L' := [some (.ref 1), some (.int v1), some (.int (rd s.f_head v1))]) rfl rfl ?_
    refine Eval.aload_n rfl rfl ?_
    refine Eval.iload_n rfl rfl ?_
    refine Eval.callI (rest := []) (x := (j_inNodes (rd s.f_head v1))) (H1 := (W1 scr s R)) rfl rfl (ev_j_inNodes (W1 scr s R) 1 (rd s.f_head v1) rfl rfl) ?_
    by_cases hc98 : (j_inNodes (rd s.f_head v1)) = (0 : Int32)
    · rw [if_pos hc98] at h
      refine Eval.ifT (t := 38) rfl rfl (teq hc98).1 ?_
      refine Eval.iconst (x := (-1 : Int32)) rfl rfl ?_
      cases h
      subst hk
      exact Eval.ret rfl rfl
    · rw [if_neg hc98] at h
      refine Eval.ifF rfl (feq hc98).1 ?_
      refine Eval.aload_n rfl rfl ?_
      refine Eval.getfield rfl rfl own_g1_st ?_
      refine Eval.iload_n rfl rfl ?_
      obtain ⟨hb99, h⟩ := ite_some h
      refine Eval.iaload rfl own_a1_st hb99 ?_
      refine Eval.iconst (x := (3 : Int32)) rfl rfl ?_
      by_cases hc100 : (rd s.f_st (rd s.f_head v1)) = (3 : Int32)
      · rw [if_pos hc100] at h
        refine Eval.icmpF rfl (teq hc100).2 ?_
        refine Eval.iload_n rfl rfl ?_
        cases h
        subst hk
        exact Eval.ret rfl rfl
      · rw [if_neg hc100] at h
        refine Eval.icmpT (t := 38) rfl rfl (feq hc100).2 ?_
        refine Eval.iconst (x := (-1 : Int32)) rfl rfl ?_
        cases h
        subst hk
        exact Eval.ret rfl rfl
def j_recordHistory (s : Q) : Option (Q) := (if s.f_clk < (1 : Int32) then some (s) else (if (256 : Int32) < s.f_clk then some (s) else ((j_holder s (0 : Int32)).bind fun p101 => ((j_holder s (1 : Int32)).bind fun p103 => (if inb s.f_hist.length (s.f_clk - (1 : Int32)) = true then (if inb (wr s.f_hist (s.f_clk - (1 : Int32)) p101).length (((256 : Int32) + s.f_clk) - (1 : Int32)) = true then some ((Q.mk s.f_st s.f_lk s.f_tmo s.f_spin s.f_nxt0 s.f_prv1 s.f_head s.f_tail s.f_len s.f_ent s.f_aband s.f_log (wr (wr s.f_hist (s.f_clk - (1 : Int32)) p101) (((256 : Int32) + s.f_clk) - (1 : Int32)) p103) s.f_n s.f_clk)) else none) else none)))))
theorem ln_j_recordHistory {s : Q} {res : Q} (h : j_recordHistory s = some res) : Q.len res = Q.len s := by
  rw [j_recordHistory] at h
  by_cases hc94 : s.f_clk < (1 : Int32)
  · rw [if_pos hc94] at h
    have hr0 := Option.some.inj h
    subst hr0
    show Q.len s = _
    exact rfl
  · rw [if_neg hc94] at h
    by_cases hc95 : (256 : Int32) < s.f_clk
    · rw [if_pos hc95] at h
      have hr0 := Option.some.inj h
      subst hr0
      show Q.len s = _
      exact rfl
    · rw [if_neg hc95] at h
      obtain ⟨p101, hq102, h⟩ := bind_some h
      obtain ⟨p103, hq104, h⟩ := bind_some h
      obtain ⟨hb105, h⟩ := ite_some h
      obtain ⟨hb106, h⟩ := ite_some h
      have hr0 := Option.some.inj h
      subst hr0
      show Q.len (Q.mk s.f_st s.f_lk s.f_tmo s.f_spin s.f_nxt0 s.f_prv1 s.f_head s.f_tail s.f_len s.f_ent s.f_aband s.f_log (wr (wr s.f_hist (s.f_clk - (1 : Int32)) p101) (((256 : Int32) + s.f_clk) - (1 : Int32)) p103) s.f_n s.f_clk) = _
      exact (Eq.trans (show Q.len (Q.mk s.f_st s.f_lk s.f_tmo s.f_spin s.f_nxt0 s.f_prv1 s.f_head s.f_tail s.f_len s.f_ent s.f_aband s.f_log (wr (wr s.f_hist (s.f_clk - (1 : Int32)) p101) (((256 : Int32) + s.f_clk) - (1 : Int32)) p103) s.f_n s.f_clk) = Q.len s from own_lenmk.trans (by first | (simp only [len_wr, len_wrL] <;> rfl) | rfl)) rfl)
set_option maxRecDepth 100000 in
theorem ev_j_recordHistory (R : AHeap) (scr : List Int32) (s : Q) {res : Q} {out : Option Value × AHeap} (h : j_recordHistory s = some res) (hk : out = (none, (W1 scr res R))) : Eval own_P 18 0 [some (.ref 1), none, none] [] (W1 scr s R) out := by
  rw [j_recordHistory] at h
  refine Eval.aload_n rfl rfl ?_
  refine Eval.getfield rfl rfl own_g1_clk ?_
  refine Eval.iconst (x := (1 : Int32)) rfl rfl ?_
  by_cases hc94 : s.f_clk < (1 : Int32)
  · rw [if_pos hc94] at h
    refine Eval.icmpT (t := 58) rfl rfl (tlt hc94).1 ?_
    cases h
    subst hk
    exact Eval.ret rfl rfl
  · rw [if_neg hc94] at h
    refine Eval.icmpF rfl (flt hc94).1 ?_
    refine Eval.aload_n rfl rfl ?_
    refine Eval.getfield rfl rfl own_g1_clk ?_
    refine Eval.sipush (x := (256 : Int32)) rfl rfl ?_
    by_cases hc95 : (256 : Int32) < s.f_clk
    · rw [if_pos hc95] at h
      refine Eval.icmpT (t := 58) rfl rfl (tlt hc95).2.2.1 ?_
      cases h
      subst hk
      exact Eval.ret rfl rfl
    · rw [if_neg hc95] at h
      refine Eval.icmpF rfl (flt hc95).2.2.1 ?_
      refine Eval.aload_n rfl rfl ?_
      refine Eval.iconst (x := (0 : Int32)) rfl rfl ?_
      obtain ⟨p101, hq102, h⟩ := bind_some h
      refine Eval.callI (rest := []) (x := p101) (H1 := (W1 scr s R)) rfl rfl (ev_j_holder R scr s (0 : Int32) hq102 rfl) ?_
      refine Eval.istore_n (L' := [some (.ref 1), some (.int p101), none]) rfl rfl ?_
      refine Eval.aload_n rfl rfl ?_
      refine Eval.iconst (x := (1 : Int32)) rfl rfl ?_
      obtain ⟨p103, hq104, h⟩ := bind_some h
      refine Eval.callI (rest := []) (x := p103) (H1 := (W1 scr s R)) rfl rfl (ev_j_holder R scr s (1 : Int32) hq104 rfl) ?_
      refine Eval.istore_n (L' := [some (.ref 1), some (.int p101), some (.int p103)]) rfl rfl ?_
      refine Eval.aload_n rfl rfl ?_
      refine Eval.getfield rfl rfl own_g1_hist ?_
      refine Eval.aload_n rfl rfl ?_
      refine Eval.getfield rfl rfl own_g1_clk ?_
      refine Eval.iconst (x := (1 : Int32)) rfl rfl ?_
      refine Eval.isub rfl ?_
      refine Eval.iload_n rfl rfl ?_
      obtain ⟨hb105, h⟩ := ite_some h
      refine Eval.iastore rfl rfl own_a1_hist hb105 own_s1_hist ?_
      refine Eval.aload_n rfl rfl ?_
      refine Eval.getfield rfl rfl own_g1_hist ?_
      refine Eval.sipush (x := (256 : Int32)) rfl rfl ?_
      refine Eval.aload_n rfl rfl ?_
      refine Eval.getfield rfl rfl own_g1_clk ?_
      refine Eval.iadd rfl ?_
      refine Eval.iconst (x := (1 : Int32)) rfl rfl ?_
      refine Eval.isub rfl ?_
      refine Eval.iload_n rfl rfl ?_
      obtain ⟨hb106, h⟩ := ite_some h
      refine Eval.iastore rfl rfl own_a1_hist hb106 own_s1_hist ?_
      cases h
      subst hk
      exact Eval.retH own_mk1 rfl rfl
def j_acquire_b119 (s : Q) (v4 : Int32) : Option (Int32 × Q) := ((j_recordHistory s).bind fun p107 => some (v4, p107))
theorem ln_j_acquire_b119 {s : Q} {v4 : Int32} {res : Int32 × Q} (h : j_acquire_b119 s v4 = some res) : Q.len res.2 = Q.len s := by
  rw [j_acquire_b119] at h
  obtain ⟨p107, hq108, h⟩ := bind_some h
  have hl109 := (ln_j_recordHistory hq108).trans rfl
  have hr0 := Option.some.inj h
  subst hr0
  show Q.len p107 = _
  exact hl109
set_option maxRecDepth 100000 in
theorem ev_j_acquire_b119 (R : AHeap) (scr : List Int32) (s : Q) (v4 : Int32) {res : Int32 × Q} {out : Option Value × AHeap} (h : j_acquire_b119 s v4 = some res) (hk : out = (some (.int res.1), (W1 scr res.2 R))) : Eval own_P 14 119 [some (.ref 1), none, none, none, some (.int v4)] [] (W1 scr s R) out := by
  rw [j_acquire_b119] at h
  refine Eval.aload_n rfl rfl ?_
  obtain ⟨p107, hq108, h⟩ := bind_some h
  refine Eval.callN (rest := []) (H1 := (W1 scr p107 R)) rfl rfl (ev_j_recordHistory R scr s hq108 rfl) ?_
  refine Eval.iload rfl rfl ?_
  cases h
  subst hk
  exact Eval.ret rfl rfl
def j_acquire (s : Q) (v1 : Int32) (v2 : Int32) (v3 : Int32) : Option (Int32 × Q) := (if (j_validThread s v1) = (0 : Int32) then some ((-2 : Int32), s) else (if (j_validLock v2) = (0 : Int32) then some ((-2 : Int32), s) else (if inb s.f_st.length v1 = true then (if (rd s.f_st v1) = (0 : Int32) then (if inb s.f_tmo.length v1 = true then (if inb s.f_spin.length v1 = true then (if inb s.f_lk.length v1 = true then (if inb s.f_len.length v2 = true then (if (rd s.f_len v2) = (0 : Int32) then ((j_append (Q.mk s.f_st (wr s.f_lk v1 v2) (wr s.f_tmo v1 (j_clampTimeout v3)) (wr s.f_spin v1 (0 : Int32)) s.f_nxt0 s.f_prv1 s.f_head s.f_tail s.f_len s.f_ent s.f_aband s.f_log s.f_hist s.f_n (s.f_clk + (1 : Int32))) v1 v2).bind fun p79 => (if inb p79.f_st.length v1 = true then ((j_enter (Q.mk (wr p79.f_st v1 (3 : Int32)) p79.f_lk p79.f_tmo p79.f_spin p79.f_nxt0 p79.f_prv1 p79.f_head p79.f_tail p79.f_len p79.f_ent p79.f_aband p79.f_log p79.f_hist p79.f_n p79.f_clk) v1 v2).bind fun p91 => (j_acquire_b119 p91 (3 : Int32))) else none)) else ((j_append (Q.mk s.f_st (wr s.f_lk v1 v2) (wr s.f_tmo v1 (j_clampTimeout v3)) (wr s.f_spin v1 (0 : Int32)) s.f_nxt0 s.f_prv1 s.f_head s.f_tail s.f_len s.f_ent s.f_aband s.f_log s.f_hist s.f_n (s.f_clk + (1 : Int32))) v1 v2).bind fun p110 => (if inb p110.f_st.length v1 = true then (j_acquire_b119 (Q.mk (wr p110.f_st v1 (1 : Int32)) p110.f_lk p110.f_tmo p110.f_spin p110.f_nxt0 p110.f_prv1 p110.f_head p110.f_tail p110.f_len p110.f_ent p110.f_aband p110.f_log p110.f_hist p110.f_n p110.f_clk) (1 : Int32)) else none))) else none) else none) else none) else none) else some ((-2 : Int32), s)) else none)))
theorem ln_j_acquire {s : Q} {v1 : Int32} {v2 : Int32} {v3 : Int32} {res : Int32 × Q} (h : j_acquire s v1 v2 v3 = some res) : Q.len res.2 = Q.len s := by
  rw [j_acquire] at h
  by_cases hc49 : (j_validThread s v1) = (0 : Int32)
  · rw [if_pos hc49] at h
    have hr0 := Option.some.inj h
    subst hr0
    show Q.len s = _
    exact rfl
  · rw [if_neg hc49] at h
    by_cases hc52 : (j_validLock v2) = (0 : Int32)
    · rw [if_pos hc52] at h
      have hr0 := Option.some.inj h
      subst hr0
      show Q.len s = _
      exact rfl
    · rw [if_neg hc52] at h
      obtain ⟨hb53, h⟩ := ite_some h
      by_cases hc54 : (rd s.f_st v1) = (0 : Int32)
      · rw [if_pos hc54] at h
        obtain ⟨hb57, h⟩ := ite_some h
        obtain ⟨hb58, h⟩ := ite_some h
        obtain ⟨hb59, h⟩ := ite_some h
        obtain ⟨hb60, h⟩ := ite_some h
        by_cases hc62 : (rd s.f_len v2) = (0 : Int32)
        · rw [if_pos hc62] at h
          obtain ⟨p79, hq80, h⟩ := bind_some h
          have hl81 := (ln_j_append hq80).trans (Eq.trans (show Q.len (Q.mk s.f_st (wr s.f_lk v1 v2) (wr s.f_tmo v1 (j_clampTimeout v3)) (wr s.f_spin v1 (0 : Int32)) s.f_nxt0 s.f_prv1 s.f_head s.f_tail s.f_len s.f_ent s.f_aband s.f_log s.f_hist s.f_n (s.f_clk + (1 : Int32))) = Q.len s from own_lenmk.trans (by first | (simp only [len_wr, len_wrL] <;> rfl) | rfl)) rfl)
          obtain ⟨hb82, h⟩ := ite_some h
          obtain ⟨p91, hq92, h⟩ := bind_some h
          have hl93 := (ln_j_enter hq92).trans (Eq.trans (show Q.len (Q.mk (wr p79.f_st v1 (3 : Int32)) p79.f_lk p79.f_tmo p79.f_spin p79.f_nxt0 p79.f_prv1 p79.f_head p79.f_tail p79.f_len p79.f_ent p79.f_aband p79.f_log p79.f_hist p79.f_n p79.f_clk) = Q.len p79 from own_lenmk.trans (by first | (simp only [len_wr, len_wrL] <;> rfl) | rfl)) hl81)
          exact Eq.trans (ln_j_acquire_b119 h) hl93
        · rw [if_neg hc62] at h
          obtain ⟨p110, hq111, h⟩ := bind_some h
          have hl112 := (ln_j_append hq111).trans (Eq.trans (show Q.len (Q.mk s.f_st (wr s.f_lk v1 v2) (wr s.f_tmo v1 (j_clampTimeout v3)) (wr s.f_spin v1 (0 : Int32)) s.f_nxt0 s.f_prv1 s.f_head s.f_tail s.f_len s.f_ent s.f_aband s.f_log s.f_hist s.f_n (s.f_clk + (1 : Int32))) = Q.len s from own_lenmk.trans (by first | (simp only [len_wr, len_wrL] <;> rfl) | rfl)) rfl)
          obtain ⟨hb113, h⟩ := ite_some h
          exact Eq.trans (ln_j_acquire_b119 h) (Eq.trans (show Q.len (Q.mk (wr p110.f_st v1 (1 : Int32)) p110.f_lk p110.f_tmo p110.f_spin p110.f_nxt0 p110.f_prv1 p110.f_head p110.f_tail p110.f_len p110.f_ent p110.f_aband p110.f_log p110.f_hist p110.f_n p110.f_clk) = Q.len p110 from own_lenmk.trans (by first | (simp only [len_wr, len_wrL] <;> rfl) | rfl)) hl112)
      · rw [if_neg hc54] at h
        have hr0 := Option.some.inj h
        subst hr0
        show Q.len s = _
        exact rfl
set_option maxRecDepth 100000 in
theorem ev_j_acquire (R : AHeap) (scr : List Int32) (s : Q) (v1 : Int32) (v2 : Int32) (v3 : Int32) {res : Int32 × Q} {out : Option Value × AHeap} (h : j_acquire s v1 v2 v3 = some res) (hk : out = (some (.int res.1), (W1 scr res.2 R))) : Eval own_P 14 0 [some (.ref 1), some (.int v1), some (.int v2), some (.int v3), none] [] (W1 scr s R) out := by
  rw [j_acquire] at h
  refine Eval.aload_n rfl rfl ?_
  refine Eval.iload_n rfl rfl ?_
  refine Eval.callI (rest := []) (x := (j_validThread s v1)) (H1 := (W1 scr s R)) rfl rfl (ev_j_validThread R scr s v1 rfl rfl) ?_
  by_cases hc49 : (j_validThread s v1) = (0 : Int32)
  · rw [if_pos hc49] at h
    refine Eval.ifF rfl (teq hc49).2 ?_
    refine Eval.bipush (x := (-2 : Int32)) rfl rfl ?_
    cases h
    subst hk
    exact Eval.ret rfl rfl
  · rw [if_neg hc49] at h
    refine Eval.ifT (t := 11) rfl rfl (feq hc49).2 ?_
    refine Eval.aload_n rfl rfl ?_
    refine Eval.iload_n rfl rfl ?_
    refine Eval.callI (rest := []) (x := (j_validLock v2)) (H1 := (W1 scr s R)) rfl rfl (ev_j_validLock (W1 scr s R) 1 v2 rfl rfl) ?_
    by_cases hc52 : (j_validLock v2) = (0 : Int32)
    · rw [if_pos hc52] at h
      refine Eval.ifF rfl (teq hc52).2 ?_
      refine Eval.bipush (x := (-2 : Int32)) rfl rfl ?_
      cases h
      subst hk
      exact Eval.ret rfl rfl
    · rw [if_neg hc52] at h
      refine Eval.ifT (t := 22) rfl rfl (feq hc52).2 ?_
      refine Eval.aload_n rfl rfl ?_
      refine Eval.getfield rfl rfl own_g1_st ?_
      refine Eval.iload_n rfl rfl ?_
      obtain ⟨hb53, h⟩ := ite_some h
      refine Eval.iaload rfl own_a1_st hb53 ?_
      by_cases hc54 : (rd s.f_st v1) = (0 : Int32)
      · rw [if_pos hc54] at h
        refine Eval.ifT (t := 34) rfl rfl (teq hc54).1 ?_
        refine Eval.aload_n rfl rfl ?_
        refine Eval.aload_n rfl rfl ?_
        refine Eval.getfield rfl rfl own_g1_clk ?_
        refine Eval.iconst (x := (1 : Int32)) rfl rfl ?_
        refine Eval.iadd rfl ?_
        refine Eval.putfield rfl rfl own_p1_clk ?_
        refine Eval.aload_n rfl rfl ?_
        refine Eval.getfield rfl rfl own_g1_tmo ?_
        refine Eval.iload_n rfl rfl ?_
        refine Eval.aload_n rfl rfl ?_
        refine Eval.iload_n rfl rfl ?_
        refine Eval.callI (rest := [.int v1, .ref 4]) (x := (j_clampTimeout v3)) (H1 := (C1 scr s.f_st s.f_lk s.f_tmo s.f_spin s.f_nxt0 s.f_prv1 s.f_head s.f_tail s.f_len s.f_ent s.f_aband s.f_log s.f_hist s.f_n (s.f_clk + (1 : Int32)) R)) rfl rfl (ev_j_clampTimeout (C1 scr s.f_st s.f_lk s.f_tmo s.f_spin s.f_nxt0 s.f_prv1 s.f_head s.f_tail s.f_len s.f_ent s.f_aband s.f_log s.f_hist s.f_n (s.f_clk + (1 : Int32)) R) 1 v3 rfl rfl) ?_
        obtain ⟨hb57, h⟩ := ite_some h
        refine Eval.iastore rfl rfl own_a1_tmo hb57 own_s1_tmo ?_
        refine Eval.aload_n rfl rfl ?_
        refine Eval.getfield rfl rfl own_g1_spin ?_
        refine Eval.iload_n rfl rfl ?_
        refine Eval.iconst (x := (0 : Int32)) rfl rfl ?_
        obtain ⟨hb58, h⟩ := ite_some h
        refine Eval.iastore rfl rfl own_a1_spin hb58 own_s1_spin ?_
        refine Eval.aload_n rfl rfl ?_
        refine Eval.getfield rfl rfl own_g1_lk ?_
        refine Eval.iload_n rfl rfl ?_
        refine Eval.iload_n rfl rfl ?_
        obtain ⟨hb59, h⟩ := ite_some h
        refine Eval.iastore rfl rfl own_a1_lk hb59 own_s1_lk ?_
        refine Eval.aload_n rfl rfl ?_
        refine Eval.getfield rfl rfl own_g1_len ?_
        refine Eval.iload_n rfl rfl ?_
        obtain ⟨hb60, h⟩ := ite_some h
        refine Eval.iaload rfl own_a1_len hb60 ?_
        by_cases hc62 : (rd s.f_len v2) = (0 : Int32)
        · rw [if_pos hc62] at h
          refine Eval.ifF rfl (teq hc62).2 ?_
          refine Eval.aload_n rfl rfl ?_
          refine Eval.iload_n rfl rfl ?_
          refine Eval.iload_n rfl rfl ?_
          obtain ⟨p79, hq80, h⟩ := bind_some h
          refine Eval.callN (rest := []) (H1 := (W1 scr p79 R)) rfl rfl (Eval.heap own_mk1 (ev_j_append R scr (Q.mk s.f_st (wr s.f_lk v1 v2) (wr s.f_tmo v1 (j_clampTimeout v3)) (wr s.f_spin v1 (0 : Int32)) s.f_nxt0 s.f_prv1 s.f_head s.f_tail s.f_len s.f_ent s.f_aband s.f_log s.f_hist s.f_n (s.f_clk + (1 : Int32))) v1 v2 hq80 rfl)) ?_
          refine Eval.aload_n rfl rfl ?_
          refine Eval.getfield rfl rfl own_g1_st ?_
          refine Eval.iload_n rfl rfl ?_
          refine Eval.iconst (x := (3 : Int32)) rfl rfl ?_
          obtain ⟨hb82, h⟩ := ite_some h
          refine Eval.iastore rfl rfl own_a1_st hb82 own_s1_st ?_
          refine Eval.aload_n rfl rfl ?_
          refine Eval.iload_n rfl rfl ?_
          refine Eval.iload_n rfl rfl ?_
          obtain ⟨p91, hq92, h⟩ := bind_some h
          refine Eval.callN (rest := []) (H1 := (W1 scr p91 R)) rfl rfl (Eval.heap own_mk1 (ev_j_enter R scr (Q.mk (wr p79.f_st v1 (3 : Int32)) p79.f_lk p79.f_tmo p79.f_spin p79.f_nxt0 p79.f_prv1 p79.f_head p79.f_tail p79.f_len p79.f_ent p79.f_aband p79.f_log p79.f_hist p79.f_n p79.f_clk) v1 v2 hq92 rfl)) ?_
          refine Eval.iconst (x := (3 : Int32)) rfl rfl ?_
          refine Eval.istore (L' := [some (.ref 1), some (.int v1), some (.int v2), some (.int v3), some (.int (3 : Int32))]) rfl rfl ?_
          refine Eval.goto (t := 119) rfl rfl ?_
          refine Eval.weak (L' := [some (.ref 1), none, none, none, some (.int (3 : Int32))]) ⟨_, _, rfl, Or.inr rfl, _, _, rfl, Or.inl rfl, _, _, rfl, Or.inl rfl, _, _, rfl, Or.inl rfl, _, _, rfl, Or.inr rfl, rfl⟩ ?_
          exact ev_j_acquire_b119 R scr p91 (3 : Int32) h hk
        · rw [if_neg hc62] at h
          refine Eval.ifT (t := 103) rfl rfl (feq hc62).2 ?_
          refine Eval.aload_n rfl rfl ?_
          refine Eval.iload_n rfl rfl ?_
          refine Eval.iload_n rfl rfl ?_
          obtain ⟨p110, hq111, h⟩ := bind_some h
          refine Eval.callN (rest := []) (H1 := (W1 scr p110 R)) rfl rfl (Eval.heap own_mk1 (ev_j_append R scr (Q.mk s.f_st (wr s.f_lk v1 v2) (wr s.f_tmo v1 (j_clampTimeout v3)) (wr s.f_spin v1 (0 : Int32)) s.f_nxt0 s.f_prv1 s.f_head s.f_tail s.f_len s.f_ent s.f_aband s.f_log s.f_hist s.f_n (s.f_clk + (1 : Int32))) v1 v2 hq111 rfl)) ?_
          refine Eval.aload_n rfl rfl ?_
          refine Eval.getfield rfl rfl own_g1_st ?_
          refine Eval.iload_n rfl rfl ?_
          refine Eval.iconst (x := (1 : Int32)) rfl rfl ?_
          obtain ⟨hb113, h⟩ := ite_some h
          refine Eval.iastore rfl rfl own_a1_st hb113 own_s1_st ?_
          refine Eval.iconst (x := (1 : Int32)) rfl rfl ?_
          refine Eval.istore (L' := [some (.ref 1), some (.int v1), some (.int v2), some (.int v3), some (.int (1 : Int32))]) rfl rfl ?_
          refine Eval.heap own_mk1 ?_
          refine Eval.weak (L' := [some (.ref 1), none, none, none, some (.int (1 : Int32))]) ⟨_, _, rfl, Or.inr rfl, _, _, rfl, Or.inl rfl, _, _, rfl, Or.inl rfl, _, _, rfl, Or.inl rfl, _, _, rfl, Or.inr rfl, rfl⟩ ?_
          exact ev_j_acquire_b119 R scr (Q.mk (wr p110.f_st v1 (1 : Int32)) p110.f_lk p110.f_tmo p110.f_spin p110.f_nxt0 p110.f_prv1 p110.f_head p110.f_tail p110.f_len p110.f_ent p110.f_aband p110.f_log p110.f_hist p110.f_n p110.f_clk) (1 : Int32) h hk
      · rw [if_neg hc54] at h
        refine Eval.ifF rfl (feq hc54).1 ?_
        refine Eval.bipush (x := (-2 : Int32)) rfl rfl ?_
        cases h
        subst hk
        exact Eval.ret rfl rfl
def j_clock (s : Q) : Int32 := (s.f_clk)
set_option maxRecDepth 100000 in
theorem ev_j_clock (R : AHeap) (scr : List Int32) (s : Q) {res : Int32} {out : Option Value × AHeap} (h : j_clock s = res) (hk : out = (some (.int res), (W1 scr s R))) : Eval own_P 7 0 [some (.ref 1)] [] (W1 scr s R) out := by
  rw [j_clock] at h
  refine Eval.aload_n rfl rfl ?_
  refine Eval.getfield rfl rfl own_g1_clk ?_
  subst h
  subst hk
  exact Eval.ret rfl rfl
def j_entries (s : Q) (v1 : Int32) : Option (Int32) := (if (j_validLock v1) = (0 : Int32) then some ((-2 : Int32)) else (if inb s.f_ent.length v1 = true then some ((rd s.f_ent v1)) else none))
set_option maxRecDepth 100000 in
theorem ev_j_entries (R : AHeap) (scr : List Int32) (s : Q) (v1 : Int32) {res : Int32} {out : Option Value × AHeap} (h : j_entries s v1 = some res) (hk : out = (some (.int res), (W1 scr s R))) : Eval own_P 8 0 [some (.ref 1), some (.int v1)] [] (W1 scr s R) out := by
  rw [j_entries] at h
  refine Eval.aload_n rfl rfl ?_
  refine Eval.iload_n rfl rfl ?_
  refine Eval.callI (rest := []) (x := (j_validLock v1)) (H1 := (W1 scr s R)) rfl rfl (ev_j_validLock (W1 scr s R) 1 v1 rfl rfl) ?_
  by_cases hc119 : (j_validLock v1) = (0 : Int32)
  · rw [if_pos hc119] at h
    refine Eval.ifF rfl (teq hc119).2 ?_
    refine Eval.bipush (x := (-2 : Int32)) rfl rfl ?_
    cases h
    subst hk
    exact Eval.ret rfl rfl
  · rw [if_neg hc119] at h
    refine Eval.ifT (t := 11) rfl rfl (feq hc119).2 ?_
    refine Eval.aload_n rfl rfl ?_
    refine Eval.getfield rfl rfl own_g1_ent ?_
    refine Eval.iload_n rfl rfl ?_
    obtain ⟨hb120, h⟩ := ite_some h
    refine Eval.iaload rfl own_a1_ent hb120 ?_
    cases h
    subst hk
    exact Eval.ret rfl rfl
def j_abandons (s : Q) (v1 : Int32) : Option (Int32) := (if (j_validLock v1) = (0 : Int32) then some ((-2 : Int32)) else (if inb s.f_aband.length v1 = true then some ((rd s.f_aband v1)) else none))
set_option maxRecDepth 100000 in
theorem ev_j_abandons (R : AHeap) (scr : List Int32) (s : Q) (v1 : Int32) {res : Int32} {out : Option Value × AHeap} (h : j_abandons s v1 = some res) (hk : out = (some (.int res), (W1 scr s R))) : Eval own_P 10 0 [some (.ref 1), some (.int v1)] [] (W1 scr s R) out := by
  rw [j_abandons] at h
  refine Eval.aload_n rfl rfl ?_
  refine Eval.iload_n rfl rfl ?_
  refine Eval.callI (rest := []) (x := (j_validLock v1)) (H1 := (W1 scr s R)) rfl rfl (ev_j_validLock (W1 scr s R) 1 v1 rfl rfl) ?_
  by_cases hc127 : (j_validLock v1) = (0 : Int32)
  · rw [if_pos hc127] at h
    refine Eval.ifF rfl (teq hc127).2 ?_
    refine Eval.bipush (x := (-2 : Int32)) rfl rfl ?_
    cases h
    subst hk
    exact Eval.ret rfl rfl
  · rw [if_neg hc127] at h
    refine Eval.ifT (t := 11) rfl rfl (feq hc127).2 ?_
    refine Eval.aload_n rfl rfl ?_
    refine Eval.getfield rfl rfl own_g1_aband ?_
    refine Eval.iload_n rfl rfl ?_
    obtain ⟨hb128, h⟩ := ite_some h
    refine Eval.iaload rfl own_a1_aband hb128 ?_
    cases h
    subst hk
    exact Eval.ret rfl rfl
def j_queueLength (s : Q) (v1 : Int32) : Option (Int32) := (if (j_validLock v1) = (0 : Int32) then some ((-2 : Int32)) else (if inb s.f_len.length v1 = true then some ((rd s.f_len v1)) else none))
set_option maxRecDepth 100000 in
theorem ev_j_queueLength (R : AHeap) (scr : List Int32) (s : Q) (v1 : Int32) {res : Int32} {out : Option Value × AHeap} (h : j_queueLength s v1 = some res) (hk : out = (some (.int res), (W1 scr s R))) : Eval own_P 11 0 [some (.ref 1), some (.int v1)] [] (W1 scr s R) out := by
  rw [j_queueLength] at h
  refine Eval.aload_n rfl rfl ?_
  refine Eval.iload_n rfl rfl ?_
  refine Eval.callI (rest := []) (x := (j_validLock v1)) (H1 := (W1 scr s R)) rfl rfl (ev_j_validLock (W1 scr s R) 1 v1 rfl rfl) ?_
  by_cases hc135 : (j_validLock v1) = (0 : Int32)
  · rw [if_pos hc135] at h
    refine Eval.ifF rfl (teq hc135).2 ?_
    refine Eval.bipush (x := (-2 : Int32)) rfl rfl ?_
    cases h
    subst hk
    exact Eval.ret rfl rfl
  · rw [if_neg hc135] at h
    refine Eval.ifT (t := 11) rfl rfl (feq hc135).2 ?_
    refine Eval.aload_n rfl rfl ?_
    refine Eval.getfield rfl rfl own_g1_len ?_
    refine Eval.iload_n rfl rfl ?_
    obtain ⟨hb136, h⟩ := ite_some h
    refine Eval.iaload rfl own_a1_len hb136 ?_
    cases h
    subst hk
    exact Eval.ret rfl rfl
def law_b845 (go_ : Q → List Int32 → Int32 → Int32 → Int32 → Int32 → Int32 → Int32 → Int32 → Int32 → Int32 → Int32 → Int32 → Int64 → Int32 → Option ((Q) ⊕ ((Q) ⊕ ((Q) ⊕ ((Q) ⊕ ((Q) ⊕ ((Q) ⊕ ((Q) ⊕ ((Q) ⊕ ((Q) ⊕ ((Q) ⊕ ((Q) ⊕ ((Q) ⊕ ((Q) ⊕ ((Q) ⊕ ((Q) ⊕ ((Q) ⊕ ((Q) ⊕ (Q))))))))))))))))))) (s : Q) (scr : List Int32) (v2 : Int32) (v3 : Int32) (v4 : Int32) (v5 : Int32) (v6 : Int32) (v7 : Int32) (v8 : Int32) (v9 : Int32) (v10 : Int32) (v11 : Int32) (v12 : Int32) (v13 : Int64) (v15 : Int32) : Option ((Q) ⊕ ((Q) ⊕ ((Q) ⊕ ((Q) ⊕ ((Q) ⊕ ((Q) ⊕ ((Q) ⊕ ((Q) ⊕ ((Q) ⊕ ((Q) ⊕ ((Q) ⊕ ((Q) ⊕ ((Q) ⊕ ((Q) ⊕ ((Q) ⊕ ((Q) ⊕ ((Q) ⊕ (Q)))))))))))))))))) := (go_ s scr v2 v3 v4 v5 v6 v7 v8 v9 v10 v11 v12 v13 (v15 + (4 : Int32)))
set_option maxRecDepth 100000 in
theorem ev_law_b845 (go_ : Q → List Int32 → Int32 → Int32 → Int32 → Int32 → Int32 → Int32 → Int32 → Int32 → Int32 → Int32 → Int32 → Int64 → Int32 → Option ((Q) ⊕ ((Q) ⊕ ((Q) ⊕ ((Q) ⊕ ((Q) ⊕ ((Q) ⊕ ((Q) ⊕ ((Q) ⊕ ((Q) ⊕ ((Q) ⊕ ((Q) ⊕ ((Q) ⊕ ((Q) ⊕ ((Q) ⊕ ((Q) ⊕ ((Q) ⊕ ((Q) ⊕ (Q))))))))))))))))))) (hrec : ∀ (s : Q) (scr : List Int32) (v2 : Int32) (v3 : Int32) (v4 : Int32) (v5 : Int32) (v6 : Int32) (v7 : Int32) (v8 : Int32) (v9 : Int32) (v10 : Int32) (v11 : Int32) (v12 : Int32) (v13 : Int64) (v15 : Int32) {res : (Q) ⊕ ((Q) ⊕ ((Q) ⊕ ((Q) ⊕ ((Q) ⊕ ((Q) ⊕ ((Q) ⊕ ((Q) ⊕ ((Q) ⊕ ((Q) ⊕ ((Q) ⊕ ((Q) ⊕ ((Q) ⊕ ((Q) ⊕ ((Q) ⊕ ((Q) ⊕ ((Q) ⊕ (Q)))))))))))))))))} {out : Option Value × AHeap}, go_ s scr v2 v3 v4 v5 v6 v7 v8 v9 v10 v11 v12 v13 v15 = some res → law_l46_K scr res out → Eval own_P 0 46 [some (.ref 0), some (.ref 1), some (.int v2), some (.int v3), some (.int v4), some (.int v5), some (.int v6), some (.int v7), some (.int v8), some (.int v9), some (.int v10), some (.int v11), some (.int v12), some (.long v13), none, some (.int v15), none, none, none, none, none, none, none, none, none, none, none] [] (W1 scr s []) out) (s : Q) (scr : List Int32) (v2 : Int32) (v3 : Int32) (v4 : Int32) (v5 : Int32) (v6 : Int32) (v7 : Int32) (v8 : Int32) (v9 : Int32) (v10 : Int32) (v11 : Int32) (v12 : Int32) (v13 : Int64) (v15 : Int32) {res : (Q) ⊕ ((Q) ⊕ ((Q) ⊕ ((Q) ⊕ ((Q) ⊕ ((Q) ⊕ ((Q) ⊕ ((Q) ⊕ ((Q) ⊕ ((Q) ⊕ ((Q) ⊕ ((Q) ⊕ ((Q) ⊕ ((Q) ⊕ ((Q) ⊕ ((Q) ⊕ ((Q) ⊕ (Q)))))))))))))))))} {out : Option Value × AHeap} (h : law_b845 go_ s scr v2 v3 v4 v5 v6 v7 v8 v9 v10 v11 v12 v13 v15 = some res) (hk : law_l46_K scr res out) : Eval own_P 0 845 [some (.ref 0), some (.ref 1), some (.int v2), some (.int v3), some (.int v4), some (.int v5), some (.int v6), some (.int v7), some (.int v8), some (.int v9), some (.int v10), some (.int v11), some (.int v12), some (.long v13), none, some (.int v15), none, none, none, none, none, none, none, none, none, none, none] [] (W1 scr s []) out := by
  rw [law_b845] at h
  refine Eval.iinc (L' := [some (.ref 0), some (.ref 1), some (.int v2), some (.int v3), some (.int v4), some (.int v5), some (.int v6), some (.int v7), some (.int v8), some (.int v9), some (.int v10), some (.int v11), some (.int v12), some (.long v13), none, some (.int (v15 + (4 : Int32))), none, none, none, none, none, none, none, none, none, none, none]) rfl rfl rfl ?_
  refine Eval.goto (t := 46) rfl rfl ?_
  exact hrec _ _ _ _ _ _ _ _ _ _ _ _ _ _ _ h hk
def j_entryAt (s : Q) (v1 : Int32) (v2 : Int32) : Option (Int32) := (if (j_validLock v1) = (0 : Int32) then some ((-2 : Int32)) else (if v2 < (0 : Int32) then some ((-2 : Int32)) else (if inb s.f_ent.length v1 = true then (if v2 < (rd s.f_ent v1) then (if v2 < (64 : Int32) then (if inb s.f_log.length ((v1 * (64 : Int32)) + v2) = true then some ((rd s.f_log ((v1 * (64 : Int32)) + v2))) else none) else some ((-2 : Int32))) else some ((-2 : Int32))) else none)))
set_option maxRecDepth 100000 in
theorem ev_j_entryAt (R : AHeap) (scr : List Int32) (s : Q) (v1 : Int32) (v2 : Int32) {res : Int32} {out : Option Value × AHeap} (h : j_entryAt s v1 v2 = some res) (hk : out = (some (.int res), (W1 scr s R))) : Eval own_P 20 0 [some (.ref 1), some (.int v1), some (.int v2)] [] (W1 scr s R) out := by
  rw [j_entryAt] at h
  refine Eval.aload_n rfl rfl ?_
  refine Eval.iload_n rfl rfl ?_
  refine Eval.callI (rest := []) (x := (j_validLock v1)) (H1 := (W1 scr s R)) rfl rfl (ev_j_validLock (W1 scr s R) 1 v1 rfl rfl) ?_
  by_cases hc153 : (j_validLock v1) = (0 : Int32)
  · rw [if_pos hc153] at h
    refine Eval.ifF rfl (teq hc153).2 ?_
    refine Eval.bipush (x := (-2 : Int32)) rfl rfl ?_
    cases h
    subst hk
    exact Eval.ret rfl rfl
  · rw [if_neg hc153] at h
    refine Eval.ifT (t := 11) rfl rfl (feq hc153).2 ?_
    refine Eval.iload_n rfl rfl ?_
    by_cases hc154 : v2 < (0 : Int32)
    · rw [if_pos hc154] at h
      refine Eval.ifT (t := 31) rfl rfl (tlt hc154).1 ?_
      refine Eval.bipush (x := (-2 : Int32)) rfl rfl ?_
      cases h
      subst hk
      exact Eval.ret rfl rfl
    · rw [if_neg hc154] at h
      refine Eval.ifF rfl (flt hc154).1 ?_
      refine Eval.iload_n rfl rfl ?_
      refine Eval.aload_n rfl rfl ?_
      refine Eval.getfield rfl rfl own_g1_ent ?_
      refine Eval.iload_n rfl rfl ?_
      obtain ⟨hb155, h⟩ := ite_some h
      refine Eval.iaload rfl own_a1_ent hb155 ?_
      by_cases hc156 : v2 < (rd s.f_ent v1)
      · rw [if_pos hc156] at h
        refine Eval.icmpF rfl (tlt hc156).2.1 ?_
        refine Eval.iload_n rfl rfl ?_
        refine Eval.bipush (x := (64 : Int32)) rfl rfl ?_
        by_cases hc157 : v2 < (64 : Int32)
        · rw [if_pos hc157] at h
          refine Eval.icmpT (t := 34) rfl rfl (tlt hc157).1 ?_
          refine Eval.aload_n rfl rfl ?_
          refine Eval.getfield rfl rfl own_g1_log ?_
          refine Eval.iload_n rfl rfl ?_
          refine Eval.bipush (x := (64 : Int32)) rfl rfl ?_
          refine Eval.imul rfl ?_
          refine Eval.iload_n rfl rfl ?_
          refine Eval.iadd rfl ?_
          obtain ⟨hb158, h⟩ := ite_some h
          refine Eval.iaload rfl own_a1_log hb158 ?_
          cases h
          subst hk
          exact Eval.ret rfl rfl
        · rw [if_neg hc157] at h
          refine Eval.icmpF rfl (flt hc157).1 ?_
          refine Eval.bipush (x := (-2 : Int32)) rfl rfl ?_
          cases h
          subst hk
          exact Eval.ret rfl rfl
      · rw [if_neg hc156] at h
        refine Eval.icmpT (t := 31) rfl rfl (flt hc156).2.1 ?_
        refine Eval.bipush (x := (-2 : Int32)) rfl rfl ?_
        cases h
        subst hk
        exact Eval.ret rfl rfl
def law_b816 (go_ : Q → List Int32 → Int32 → Int32 → Int32 → Int32 → Int32 → Int32 → Int32 → Int32 → Int32 → Int32 → Int32 → Int64 → Int32 → Option ((Q) ⊕ ((Q) ⊕ ((Q) ⊕ ((Q) ⊕ ((Q) ⊕ ((Q) ⊕ ((Q) ⊕ ((Q) ⊕ ((Q) ⊕ ((Q) ⊕ ((Q) ⊕ ((Q) ⊕ ((Q) ⊕ ((Q) ⊕ ((Q) ⊕ ((Q) ⊕ ((Q) ⊕ (Q))))))))))))))))))) (s : Q) (scr : List Int32) (v2 : Int32) (v3 : Int32) (v4 : Int32) (v5 : Int32) (v6 : Int32) (v7 : Int32) (v8 : Int32) (v9 : Int32) (v10 : Int32) (v11 : Int32) (v12 : Int32) (v13 : Int64) (v15 : Int32) : Option ((Q) ⊕ ((Q) ⊕ ((Q) ⊕ ((Q) ⊕ ((Q) ⊕ ((Q) ⊕ ((Q) ⊕ ((Q) ⊕ ((Q) ⊕ ((Q) ⊕ ((Q) ⊕ ((Q) ⊕ ((Q) ⊕ ((Q) ⊕ ((Q) ⊕ ((Q) ⊕ ((Q) ⊕ (Q)))))))))))))))))) := (if v4 < (1 : Int32) then (law_b845 (go_) s scr v2 v3 v4 v5 v6 v7 v8 v9 v10 v11 v12 v13 v15) else (if (64 : Int32) < v4 then (law_b845 (go_) s scr v2 v3 v4 v5 v6 v7 v8 v9 v10 v11 v12 v13 v15) else ((j_entryAt s (1 : Int32) (v4 - (1 : Int32))).bind fun p159 => (if p159 = v12 then (law_b845 (go_) s scr v2 v3 v4 v5 v6 v7 v8 v9 v10 v11 v12 v13 v15) else some (.inr (.inr (.inr (.inr (.inr (.inr (.inr (.inr (.inr (.inr (.inr (.inr (.inr (.inr (.inr (.inr (.inl (s))))))))))))))))))))))
set_option maxRecDepth 100000 in
theorem ev_law_b816 (go_ : Q → List Int32 → Int32 → Int32 → Int32 → Int32 → Int32 → Int32 → Int32 → Int32 → Int32 → Int32 → Int32 → Int64 → Int32 → Option ((Q) ⊕ ((Q) ⊕ ((Q) ⊕ ((Q) ⊕ ((Q) ⊕ ((Q) ⊕ ((Q) ⊕ ((Q) ⊕ ((Q) ⊕ ((Q) ⊕ ((Q) ⊕ ((Q) ⊕ ((Q) ⊕ ((Q) ⊕ ((Q) ⊕ ((Q) ⊕ ((Q) ⊕ (Q))))))))))))))))))) (hrec : ∀ (s : Q) (scr : List Int32) (v2 : Int32) (v3 : Int32) (v4 : Int32) (v5 : Int32) (v6 : Int32) (v7 : Int32) (v8 : Int32) (v9 : Int32) (v10 : Int32) (v11 : Int32) (v12 : Int32) (v13 : Int64) (v15 : Int32) {res : (Q) ⊕ ((Q) ⊕ ((Q) ⊕ ((Q) ⊕ ((Q) ⊕ ((Q) ⊕ ((Q) ⊕ ((Q) ⊕ ((Q) ⊕ ((Q) ⊕ ((Q) ⊕ ((Q) ⊕ ((Q) ⊕ ((Q) ⊕ ((Q) ⊕ ((Q) ⊕ ((Q) ⊕ (Q)))))))))))))))))} {out : Option Value × AHeap}, go_ s scr v2 v3 v4 v5 v6 v7 v8 v9 v10 v11 v12 v13 v15 = some res → law_l46_K scr res out → Eval own_P 0 46 [some (.ref 0), some (.ref 1), some (.int v2), some (.int v3), some (.int v4), some (.int v5), some (.int v6), some (.int v7), some (.int v8), some (.int v9), some (.int v10), some (.int v11), some (.int v12), some (.long v13), none, some (.int v15), none, none, none, none, none, none, none, none, none, none, none] [] (W1 scr s []) out) (s : Q) (scr : List Int32) (v2 : Int32) (v3 : Int32) (v4 : Int32) (v5 : Int32) (v6 : Int32) (v7 : Int32) (v8 : Int32) (v9 : Int32) (v10 : Int32) (v11 : Int32) (v12 : Int32) (v13 : Int64) (v15 : Int32) {res : (Q) ⊕ ((Q) ⊕ ((Q) ⊕ ((Q) ⊕ ((Q) ⊕ ((Q) ⊕ ((Q) ⊕ ((Q) ⊕ ((Q) ⊕ ((Q) ⊕ ((Q) ⊕ ((Q) ⊕ ((Q) ⊕ ((Q) ⊕ ((Q) ⊕ ((Q) ⊕ ((Q) ⊕ (Q)))))))))))))))))} {out : Option Value × AHeap} (h : law_b816 go_ s scr v2 v3 v4 v5 v6 v7 v8 v9 v10 v11 v12 v13 v15 = some res) (hk : law_l46_K scr res out) : Eval own_P 0 816 [some (.ref 0), some (.ref 1), some (.int v2), some (.int v3), some (.int v4), some (.int v5), some (.int v6), some (.int v7), some (.int v8), some (.int v9), some (.int v10), some (.int v11), some (.int v12), some (.long v13), none, some (.int v15), none, none, none, none, none, none, none, none, none, none, none] [] (W1 scr s []) out := by
  rw [law_b816] at h
  refine Eval.iload rfl rfl ?_
  refine Eval.iconst (x := (1 : Int32)) rfl rfl ?_
  by_cases hc151 : v4 < (1 : Int32)
  · rw [if_pos hc151] at h
    refine Eval.icmpT (t := 845) rfl rfl (tlt hc151).1 ?_
    exact ev_law_b845 _ hrec s scr v2 v3 v4 v5 v6 v7 v8 v9 v10 v11 v12 v13 v15 h hk
  · rw [if_neg hc151] at h
    refine Eval.icmpF rfl (flt hc151).1 ?_
    refine Eval.iload rfl rfl ?_
    refine Eval.bipush (x := (64 : Int32)) rfl rfl ?_
    by_cases hc152 : (64 : Int32) < v4
    · rw [if_pos hc152] at h
      refine Eval.icmpT (t := 845) rfl rfl (tlt hc152).2.2.1 ?_
      exact ev_law_b845 _ hrec s scr v2 v3 v4 v5 v6 v7 v8 v9 v10 v11 v12 v13 v15 h hk
    · rw [if_neg hc152] at h
      refine Eval.icmpF rfl (flt hc152).2.2.1 ?_
      refine Eval.aload_n rfl rfl ?_
      refine Eval.iconst (x := (1 : Int32)) rfl rfl ?_
      refine Eval.iload rfl rfl ?_
      refine Eval.iconst (x := (1 : Int32)) rfl rfl ?_
      refine Eval.isub rfl ?_
      obtain ⟨p159, hq160, h⟩ := bind_some h
      refine Eval.callI (rest := []) (x := p159) (H1 := (W1 scr s [])) rfl rfl (ev_j_entryAt [] scr s (1 : Int32) (v4 - (1 : Int32)) hq160 rfl) ?_
      refine Eval.iload rfl rfl ?_
      by_cases hc161 : p159 = v12
      · rw [if_pos hc161] at h
        refine Eval.icmpT (t := 845) rfl rfl (teq hc161).1 ?_
        exact ev_law_b845 _ hrec s scr v2 v3 v4 v5 v6 v7 v8 v9 v10 v11 v12 v13 v15 h hk
      · rw [if_neg hc161] at h
        refine Eval.icmpF rfl (feq hc161).1 ?_
        cases h
        refine Eval.weak (L' := [none, none, none, none, none, none, none, none, none, none, none, none, none, none, none, none, none, none, none, none, none, none, none, none, none, none, none]) ⟨_, _, rfl, Or.inl rfl, _, _, rfl, Or.inl rfl, _, _, rfl, Or.inl rfl, _, _, rfl, Or.inl rfl, _, _, rfl, Or.inl rfl, _, _, rfl, Or.inl rfl, _, _, rfl, Or.inl rfl, _, _, rfl, Or.inl rfl, _, _, rfl, Or.inl rfl, _, _, rfl, Or.inl rfl, _, _, rfl, Or.inl rfl, _, _, rfl, Or.inl rfl, _, _, rfl, Or.inl rfl, _, _, rfl, Or.inl rfl, _, _, rfl, Or.inl rfl, _, _, rfl, Or.inl rfl, _, _, rfl, Or.inl rfl, _, _, rfl, Or.inl rfl, _, _, rfl, Or.inl rfl, _, _, rfl, Or.inl rfl, _, _, rfl, Or.inl rfl, _, _, rfl, Or.inl rfl, _, _, rfl, Or.inl rfl, _, _, rfl, Or.inl rfl, _, _, rfl, Or.inl rfl, _, _, rfl, Or.inl rfl, _, _, rfl, Or.inl rfl, rfl⟩ ?_
        exact hk
def law_b790 (go_ : Q → List Int32 → Int32 → Int32 → Int32 → Int32 → Int32 → Int32 → Int32 → Int32 → Int32 → Int32 → Int32 → Int64 → Int32 → Option ((Q) ⊕ ((Q) ⊕ ((Q) ⊕ ((Q) ⊕ ((Q) ⊕ ((Q) ⊕ ((Q) ⊕ ((Q) ⊕ ((Q) ⊕ ((Q) ⊕ ((Q) ⊕ ((Q) ⊕ ((Q) ⊕ ((Q) ⊕ ((Q) ⊕ ((Q) ⊕ ((Q) ⊕ (Q))))))))))))))))))) (s : Q) (scr : List Int32) (v2 : Int32) (v3 : Int32) (v4 : Int32) (v5 : Int32) (v6 : Int32) (v7 : Int32) (v8 : Int32) (v9 : Int32) (v10 : Int32) (v11 : Int32) (v12 : Int32) (v13 : Int64) (v15 : Int32) : Option ((Q) ⊕ ((Q) ⊕ ((Q) ⊕ ((Q) ⊕ ((Q) ⊕ ((Q) ⊕ ((Q) ⊕ ((Q) ⊕ ((Q) ⊕ ((Q) ⊕ ((Q) ⊕ ((Q) ⊕ ((Q) ⊕ ((Q) ⊕ ((Q) ⊕ ((Q) ⊕ ((Q) ⊕ (Q)))))))))))))))))) := (if v3 < (1 : Int32) then (law_b816 (go_) s scr v2 v3 v4 v5 v6 v7 v8 v9 v10 v11 v12 v13 v15) else (if (64 : Int32) < v3 then (law_b816 (go_) s scr v2 v3 v4 v5 v6 v7 v8 v9 v10 v11 v12 v13 v15) else ((j_entryAt s (0 : Int32) (v3 - (1 : Int32))).bind fun p163 => (if p163 = v11 then (law_b816 (go_) s scr v2 v3 v4 v5 v6 v7 v8 v9 v10 v11 v12 v13 v15) else some (.inr (.inr (.inr (.inr (.inr (.inr (.inr (.inr (.inr (.inr (.inr (.inr (.inr (.inr (.inr (.inl (s)))))))))))))))))))))
set_option maxRecDepth 100000 in
theorem ev_law_b790 (go_ : Q → List Int32 → Int32 → Int32 → Int32 → Int32 → Int32 → Int32 → Int32 → Int32 → Int32 → Int32 → Int32 → Int64 → Int32 → Option ((Q) ⊕ ((Q) ⊕ ((Q) ⊕ ((Q) ⊕ ((Q) ⊕ ((Q) ⊕ ((Q) ⊕ ((Q) ⊕ ((Q) ⊕ ((Q) ⊕ ((Q) ⊕ ((Q) ⊕ ((Q) ⊕ ((Q) ⊕ ((Q) ⊕ ((Q) ⊕ ((Q) ⊕ (Q))))))))))))))))))) (hrec : ∀ (s : Q) (scr : List Int32) (v2 : Int32) (v3 : Int32) (v4 : Int32) (v5 : Int32) (v6 : Int32) (v7 : Int32) (v8 : Int32) (v9 : Int32) (v10 : Int32) (v11 : Int32) (v12 : Int32) (v13 : Int64) (v15 : Int32) {res : (Q) ⊕ ((Q) ⊕ ((Q) ⊕ ((Q) ⊕ ((Q) ⊕ ((Q) ⊕ ((Q) ⊕ ((Q) ⊕ ((Q) ⊕ ((Q) ⊕ ((Q) ⊕ ((Q) ⊕ ((Q) ⊕ ((Q) ⊕ ((Q) ⊕ ((Q) ⊕ ((Q) ⊕ (Q)))))))))))))))))} {out : Option Value × AHeap}, go_ s scr v2 v3 v4 v5 v6 v7 v8 v9 v10 v11 v12 v13 v15 = some res → law_l46_K scr res out → Eval own_P 0 46 [some (.ref 0), some (.ref 1), some (.int v2), some (.int v3), some (.int v4), some (.int v5), some (.int v6), some (.int v7), some (.int v8), some (.int v9), some (.int v10), some (.int v11), some (.int v12), some (.long v13), none, some (.int v15), none, none, none, none, none, none, none, none, none, none, none] [] (W1 scr s []) out) (s : Q) (scr : List Int32) (v2 : Int32) (v3 : Int32) (v4 : Int32) (v5 : Int32) (v6 : Int32) (v7 : Int32) (v8 : Int32) (v9 : Int32) (v10 : Int32) (v11 : Int32) (v12 : Int32) (v13 : Int64) (v15 : Int32) {res : (Q) ⊕ ((Q) ⊕ ((Q) ⊕ ((Q) ⊕ ((Q) ⊕ ((Q) ⊕ ((Q) ⊕ ((Q) ⊕ ((Q) ⊕ ((Q) ⊕ ((Q) ⊕ ((Q) ⊕ ((Q) ⊕ ((Q) ⊕ ((Q) ⊕ ((Q) ⊕ ((Q) ⊕ (Q)))))))))))))))))} {out : Option Value × AHeap} (h : law_b790 go_ s scr v2 v3 v4 v5 v6 v7 v8 v9 v10 v11 v12 v13 v15 = some res) (hk : law_l46_K scr res out) : Eval own_P 0 790 [some (.ref 0), some (.ref 1), some (.int v2), some (.int v3), some (.int v4), some (.int v5), some (.int v6), some (.int v7), some (.int v8), some (.int v9), some (.int v10), some (.int v11), some (.int v12), some (.long v13), none, some (.int v15), none, none, none, none, none, none, none, none, none, none, none] [] (W1 scr s []) out := by
  rw [law_b790] at h
  refine Eval.iload_n rfl rfl ?_
  refine Eval.iconst (x := (1 : Int32)) rfl rfl ?_
  by_cases hc150 : v3 < (1 : Int32)
  · rw [if_pos hc150] at h
    refine Eval.icmpT (t := 816) rfl rfl (tlt hc150).1 ?_
    exact ev_law_b816 _ hrec s scr v2 v3 v4 v5 v6 v7 v8 v9 v10 v11 v12 v13 v15 h hk
  · rw [if_neg hc150] at h
    refine Eval.icmpF rfl (flt hc150).1 ?_
    refine Eval.iload_n rfl rfl ?_
    refine Eval.bipush (x := (64 : Int32)) rfl rfl ?_
    by_cases hc162 : (64 : Int32) < v3
    · rw [if_pos hc162] at h
      refine Eval.icmpT (t := 816) rfl rfl (tlt hc162).2.2.1 ?_
      exact ev_law_b816 _ hrec s scr v2 v3 v4 v5 v6 v7 v8 v9 v10 v11 v12 v13 v15 h hk
    · rw [if_neg hc162] at h
      refine Eval.icmpF rfl (flt hc162).2.2.1 ?_
      refine Eval.aload_n rfl rfl ?_
      refine Eval.iconst (x := (0 : Int32)) rfl rfl ?_
      refine Eval.iload_n rfl rfl ?_
      refine Eval.iconst (x := (1 : Int32)) rfl rfl ?_
      refine Eval.isub rfl ?_
      obtain ⟨p163, hq164, h⟩ := bind_some h
      refine Eval.callI (rest := []) (x := p163) (H1 := (W1 scr s [])) rfl rfl (ev_j_entryAt [] scr s (0 : Int32) (v3 - (1 : Int32)) hq164 rfl) ?_
      refine Eval.iload rfl rfl ?_
      by_cases hc165 : p163 = v11
      · rw [if_pos hc165] at h
        refine Eval.icmpT (t := 816) rfl rfl (teq hc165).1 ?_
        exact ev_law_b816 _ hrec s scr v2 v3 v4 v5 v6 v7 v8 v9 v10 v11 v12 v13 v15 h hk
      · rw [if_neg hc165] at h
        refine Eval.icmpF rfl (feq hc165).1 ?_
        cases h
        refine Eval.weak (L' := [none, none, none, none, none, none, none, none, none, none, none, none, none, none, none, none, none, none, none, none, none, none, none, none, none, none, none]) ⟨_, _, rfl, Or.inl rfl, _, _, rfl, Or.inl rfl, _, _, rfl, Or.inl rfl, _, _, rfl, Or.inl rfl, _, _, rfl, Or.inl rfl, _, _, rfl, Or.inl rfl, _, _, rfl, Or.inl rfl, _, _, rfl, Or.inl rfl, _, _, rfl, Or.inl rfl, _, _, rfl, Or.inl rfl, _, _, rfl, Or.inl rfl, _, _, rfl, Or.inl rfl, _, _, rfl, Or.inl rfl, _, _, rfl, Or.inl rfl, _, _, rfl, Or.inl rfl, _, _, rfl, Or.inl rfl, _, _, rfl, Or.inl rfl, _, _, rfl, Or.inl rfl, _, _, rfl, Or.inl rfl, _, _, rfl, Or.inl rfl, _, _, rfl, Or.inl rfl, _, _, rfl, Or.inl rfl, _, _, rfl, Or.inl rfl, _, _, rfl, Or.inl rfl, _, _, rfl, Or.inl rfl, _, _, rfl, Or.inl rfl, _, _, rfl, Or.inl rfl, rfl⟩ ?_
        exact hk
def j_holderAt (s : Q) (v1 : Int32) (v2 : Int32) : Option (Int32) := (if (j_validLock v1) = (0 : Int32) then some ((-2 : Int32)) else (if v2 < (1 : Int32) then some ((-2 : Int32)) else (if s.f_clk < v2 then some ((-2 : Int32)) else (if (256 : Int32) < v2 then some ((-2 : Int32)) else (if inb s.f_hist.length (((v1 * (256 : Int32)) + v2) - (1 : Int32)) = true then some ((rd s.f_hist (((v1 * (256 : Int32)) + v2) - (1 : Int32)))) else none)))))
set_option maxRecDepth 100000 in
theorem ev_j_holderAt (R : AHeap) (scr : List Int32) (s : Q) (v1 : Int32) (v2 : Int32) {res : Int32} {out : Option Value × AHeap} (h : j_holderAt s v1 v2 = some res) (hk : out = (some (.int res), (W1 scr s R))) : Eval own_P 19 0 [some (.ref 1), some (.int v1), some (.int v2)] [] (W1 scr s R) out := by
  rw [j_holderAt] at h
  refine Eval.aload_n rfl rfl ?_
  refine Eval.iload_n rfl rfl ?_
  refine Eval.callI (rest := []) (x := (j_validLock v1)) (H1 := (W1 scr s R)) rfl rfl (ev_j_validLock (W1 scr s R) 1 v1 rfl rfl) ?_
  by_cases hc167 : (j_validLock v1) = (0 : Int32)
  · rw [if_pos hc167] at h
    refine Eval.ifF rfl (teq hc167).2 ?_
    refine Eval.bipush (x := (-2 : Int32)) rfl rfl ?_
    cases h
    subst hk
    exact Eval.ret rfl rfl
  · rw [if_neg hc167] at h
    refine Eval.ifT (t := 11) rfl rfl (feq hc167).2 ?_
    refine Eval.iload_n rfl rfl ?_
    refine Eval.iconst (x := (1 : Int32)) rfl rfl ?_
    by_cases hc168 : v2 < (1 : Int32)
    · rw [if_pos hc168] at h
      refine Eval.icmpT (t := 31) rfl rfl (tlt hc168).1 ?_
      refine Eval.bipush (x := (-2 : Int32)) rfl rfl ?_
      cases h
      subst hk
      exact Eval.ret rfl rfl
    · rw [if_neg hc168] at h
      refine Eval.icmpF rfl (flt hc168).1 ?_
      refine Eval.iload_n rfl rfl ?_
      refine Eval.aload_n rfl rfl ?_
      refine Eval.getfield rfl rfl own_g1_clk ?_
      by_cases hc169 : s.f_clk < v2
      · rw [if_pos hc169] at h
        refine Eval.icmpT (t := 31) rfl rfl (tlt hc169).2.2.1 ?_
        refine Eval.bipush (x := (-2 : Int32)) rfl rfl ?_
        cases h
        subst hk
        exact Eval.ret rfl rfl
      · rw [if_neg hc169] at h
        refine Eval.icmpF rfl (flt hc169).2.2.1 ?_
        refine Eval.iload_n rfl rfl ?_
        refine Eval.sipush (x := (256 : Int32)) rfl rfl ?_
        by_cases hc170 : (256 : Int32) < v2
        · rw [if_pos hc170] at h
          refine Eval.icmpF rfl (tlt hc170).2.2.2 ?_
          refine Eval.bipush (x := (-2 : Int32)) rfl rfl ?_
          cases h
          subst hk
          exact Eval.ret rfl rfl
        · rw [if_neg hc170] at h
          refine Eval.icmpT (t := 34) rfl rfl (flt hc170).2.2.2 ?_
          refine Eval.aload_n rfl rfl ?_
          refine Eval.getfield rfl rfl own_g1_hist ?_
          refine Eval.iload_n rfl rfl ?_
          refine Eval.sipush (x := (256 : Int32)) rfl rfl ?_
          refine Eval.imul rfl ?_
          refine Eval.iload_n rfl rfl ?_
          refine Eval.iadd rfl ?_
          refine Eval.iconst (x := (1 : Int32)) rfl rfl ?_
          refine Eval.isub rfl ?_
          obtain ⟨hb171, h⟩ := ite_some h
          refine Eval.iaload rfl own_a1_hist hb171 ?_
          cases h
          subst hk
          exact Eval.ret rfl rfl
def law_b659 (go_ : Q → List Int32 → Int32 → Int32 → Int32 → Int32 → Int32 → Int32 → Int32 → Int32 → Int32 → Int32 → Int32 → Int64 → Int32 → Option ((Q) ⊕ ((Q) ⊕ ((Q) ⊕ ((Q) ⊕ ((Q) ⊕ ((Q) ⊕ ((Q) ⊕ ((Q) ⊕ ((Q) ⊕ ((Q) ⊕ ((Q) ⊕ ((Q) ⊕ ((Q) ⊕ ((Q) ⊕ ((Q) ⊕ ((Q) ⊕ ((Q) ⊕ (Q))))))))))))))))))) (s : Q) (scr : List Int32) (v2 : Int32) (v3 : Int32) (v4 : Int32) (v5 : Int32) (v6 : Int32) (v7 : Int32) (v8 : Int32) (v9 : Int32) (v10 : Int32) (v11 : Int32) (v12 : Int32) (v13 : Int64) (v15 : Int32) : Option ((Q) ⊕ ((Q) ⊕ ((Q) ⊕ ((Q) ⊕ ((Q) ⊕ ((Q) ⊕ ((Q) ⊕ ((Q) ⊕ ((Q) ⊕ ((Q) ⊕ ((Q) ⊕ ((Q) ⊕ ((Q) ⊕ ((Q) ⊕ ((Q) ⊕ ((Q) ⊕ ((Q) ⊕ (Q)))))))))))))))))) := (if (j_clock s) = v2 then ((j_entries s (0 : Int32)).bind fun p121 => (if p121 = v3 then ((j_entries s (1 : Int32)).bind fun p124 => (if p124 = v4 then ((j_abandons s (0 : Int32)).bind fun p129 => (if p129 = v5 then ((j_abandons s (1 : Int32)).bind fun p132 => (if p132 = v6 then ((j_queueLength s (0 : Int32)).bind fun p137 => (if p137 = v7 then ((j_queueLength s (1 : Int32)).bind fun p140 => (if p140 = v8 then ((j_holder s (0 : Int32)).bind fun p143 => (if p143 = v9 then ((j_holder s (1 : Int32)).bind fun p146 => (if p146 = v10 then (if v2 < (1 : Int32) then (law_b790 (go_) s scr v2 v3 v4 v5 v6 v7 v8 v9 v10 v11 v12 v13 v15) else (if (256 : Int32) < v2 then (law_b790 (go_) s scr v2 v3 v4 v5 v6 v7 v8 v9 v10 v11 v12 v13 v15) else ((j_holderAt s (0 : Int32) v2).bind fun p172 => (if p172 = v9 then ((j_holderAt s (1 : Int32) v2).bind fun p175 => (if p175 = v10 then (law_b790 (go_) s scr v2 v3 v4 v5 v6 v7 v8 v9 v10 v11 v12 v13 v15) else some (.inr (.inr (.inr (.inr (.inr (.inr (.inr (.inr (.inr (.inr (.inr (.inr (.inr (.inr (.inl (s)))))))))))))))))) else some (.inr (.inr (.inr (.inr (.inr (.inr (.inr (.inr (.inr (.inr (.inr (.inr (.inr (.inr (.inl (s)))))))))))))))))))) else some (.inr (.inr (.inr (.inr (.inr (.inr (.inr (.inr (.inr (.inr (.inr (.inr (.inr (.inl (s))))))))))))))))) else some (.inr (.inr (.inr (.inr (.inr (.inr (.inr (.inr (.inr (.inr (.inr (.inr (.inr (.inl (s))))))))))))))))) else some (.inr (.inr (.inr (.inr (.inr (.inr (.inr (.inr (.inr (.inr (.inr (.inr (.inl (s)))))))))))))))) else some (.inr (.inr (.inr (.inr (.inr (.inr (.inr (.inr (.inr (.inr (.inr (.inr (.inl (s)))))))))))))))) else some (.inr (.inr (.inr (.inr (.inr (.inr (.inr (.inr (.inr (.inr (.inr (.inl (s))))))))))))))) else some (.inr (.inr (.inr (.inr (.inr (.inr (.inr (.inr (.inr (.inr (.inr (.inl (s))))))))))))))) else some (.inr (.inr (.inr (.inr (.inr (.inr (.inr (.inr (.inr (.inr (.inl (s)))))))))))))) else some (.inr (.inr (.inr (.inr (.inr (.inr (.inr (.inr (.inr (.inr (.inl (s)))))))))))))) else some (.inr (.inr (.inr (.inr (.inr (.inr (.inr (.inr (.inr (.inr (.inl (s)))))))))))))
set_option maxRecDepth 100000 in
theorem ev_law_b659 (go_ : Q → List Int32 → Int32 → Int32 → Int32 → Int32 → Int32 → Int32 → Int32 → Int32 → Int32 → Int32 → Int32 → Int64 → Int32 → Option ((Q) ⊕ ((Q) ⊕ ((Q) ⊕ ((Q) ⊕ ((Q) ⊕ ((Q) ⊕ ((Q) ⊕ ((Q) ⊕ ((Q) ⊕ ((Q) ⊕ ((Q) ⊕ ((Q) ⊕ ((Q) ⊕ ((Q) ⊕ ((Q) ⊕ ((Q) ⊕ ((Q) ⊕ (Q))))))))))))))))))) (hrec : ∀ (s : Q) (scr : List Int32) (v2 : Int32) (v3 : Int32) (v4 : Int32) (v5 : Int32) (v6 : Int32) (v7 : Int32) (v8 : Int32) (v9 : Int32) (v10 : Int32) (v11 : Int32) (v12 : Int32) (v13 : Int64) (v15 : Int32) {res : (Q) ⊕ ((Q) ⊕ ((Q) ⊕ ((Q) ⊕ ((Q) ⊕ ((Q) ⊕ ((Q) ⊕ ((Q) ⊕ ((Q) ⊕ ((Q) ⊕ ((Q) ⊕ ((Q) ⊕ ((Q) ⊕ ((Q) ⊕ ((Q) ⊕ ((Q) ⊕ ((Q) ⊕ (Q)))))))))))))))))} {out : Option Value × AHeap}, go_ s scr v2 v3 v4 v5 v6 v7 v8 v9 v10 v11 v12 v13 v15 = some res → law_l46_K scr res out → Eval own_P 0 46 [some (.ref 0), some (.ref 1), some (.int v2), some (.int v3), some (.int v4), some (.int v5), some (.int v6), some (.int v7), some (.int v8), some (.int v9), some (.int v10), some (.int v11), some (.int v12), some (.long v13), none, some (.int v15), none, none, none, none, none, none, none, none, none, none, none] [] (W1 scr s []) out) (s : Q) (scr : List Int32) (v2 : Int32) (v3 : Int32) (v4 : Int32) (v5 : Int32) (v6 : Int32) (v7 : Int32) (v8 : Int32) (v9 : Int32) (v10 : Int32) (v11 : Int32) (v12 : Int32) (v13 : Int64) (v15 : Int32) {res : (Q) ⊕ ((Q) ⊕ ((Q) ⊕ ((Q) ⊕ ((Q) ⊕ ((Q) ⊕ ((Q) ⊕ ((Q) ⊕ ((Q) ⊕ ((Q) ⊕ ((Q) ⊕ ((Q) ⊕ ((Q) ⊕ ((Q) ⊕ ((Q) ⊕ ((Q) ⊕ ((Q) ⊕ (Q)))))))))))))))))} {out : Option Value × AHeap} (h : law_b659 go_ s scr v2 v3 v4 v5 v6 v7 v8 v9 v10 v11 v12 v13 v15 = some res) (hk : law_l46_K scr res out) : Eval own_P 0 659 [some (.ref 0), some (.ref 1), some (.int v2), some (.int v3), some (.int v4), some (.int v5), some (.int v6), some (.int v7), some (.int v8), some (.int v9), some (.int v10), some (.int v11), some (.int v12), some (.long v13), none, some (.int v15), none, none, none, none, none, none, none, none, none, none, none] [] (W1 scr s []) out := by
  rw [law_b659] at h
  refine Eval.aload_n rfl rfl ?_
  refine Eval.callI (rest := []) (x := (j_clock s)) (H1 := (W1 scr s [])) rfl rfl (ev_j_clock [] scr s rfl rfl) ?_
  refine Eval.iload_n rfl rfl ?_
  by_cases hc118 : (j_clock s) = v2
  · rw [if_pos hc118] at h
    refine Eval.icmpF rfl (teq hc118).2 ?_
    refine Eval.aload_n rfl rfl ?_
    refine Eval.iconst (x := (0 : Int32)) rfl rfl ?_
    obtain ⟨p121, hq122, h⟩ := bind_some h
    refine Eval.callI (rest := []) (x := p121) (H1 := (W1 scr s [])) rfl rfl (ev_j_entries [] scr s (0 : Int32) hq122 rfl) ?_
    refine Eval.iload_n rfl rfl ?_
    by_cases hc123 : p121 = v3
    · rw [if_pos hc123] at h
      refine Eval.icmpF rfl (teq hc123).2 ?_
      refine Eval.aload_n rfl rfl ?_
      refine Eval.iconst (x := (1 : Int32)) rfl rfl ?_
      obtain ⟨p124, hq125, h⟩ := bind_some h
      refine Eval.callI (rest := []) (x := p124) (H1 := (W1 scr s [])) rfl rfl (ev_j_entries [] scr s (1 : Int32) hq125 rfl) ?_
      refine Eval.iload rfl rfl ?_
      by_cases hc126 : p124 = v4
      · rw [if_pos hc126] at h
        refine Eval.icmpT (t := 688) rfl rfl (teq hc126).1 ?_
        refine Eval.aload_n rfl rfl ?_
        refine Eval.iconst (x := (0 : Int32)) rfl rfl ?_
        obtain ⟨p129, hq130, h⟩ := bind_some h
        refine Eval.callI (rest := []) (x := p129) (H1 := (W1 scr s [])) rfl rfl (ev_j_abandons [] scr s (0 : Int32) hq130 rfl) ?_
        refine Eval.iload rfl rfl ?_
        by_cases hc131 : p129 = v5
        · rw [if_pos hc131] at h
          refine Eval.icmpF rfl (teq hc131).2 ?_
          refine Eval.aload_n rfl rfl ?_
          refine Eval.iconst (x := (1 : Int32)) rfl rfl ?_
          obtain ⟨p132, hq133, h⟩ := bind_some h
          refine Eval.callI (rest := []) (x := p132) (H1 := (W1 scr s [])) rfl rfl (ev_j_abandons [] scr s (1 : Int32) hq133 rfl) ?_
          refine Eval.iload rfl rfl ?_
          by_cases hc134 : p132 = v6
          · rw [if_pos hc134] at h
            refine Eval.icmpT (t := 710) rfl rfl (teq hc134).1 ?_
            refine Eval.aload_n rfl rfl ?_
            refine Eval.iconst (x := (0 : Int32)) rfl rfl ?_
            obtain ⟨p137, hq138, h⟩ := bind_some h
            refine Eval.callI (rest := []) (x := p137) (H1 := (W1 scr s [])) rfl rfl (ev_j_queueLength [] scr s (0 : Int32) hq138 rfl) ?_
            refine Eval.iload rfl rfl ?_
            by_cases hc139 : p137 = v7
            · rw [if_pos hc139] at h
              refine Eval.icmpF rfl (teq hc139).2 ?_
              refine Eval.aload_n rfl rfl ?_
              refine Eval.iconst (x := (1 : Int32)) rfl rfl ?_
              obtain ⟨p140, hq141, h⟩ := bind_some h
              refine Eval.callI (rest := []) (x := p140) (H1 := (W1 scr s [])) rfl rfl (ev_j_queueLength [] scr s (1 : Int32) hq141 rfl) ?_
              refine Eval.iload rfl rfl ?_
              by_cases hc142 : p140 = v8
              · rw [if_pos hc142] at h
                refine Eval.icmpT (t := 732) rfl rfl (teq hc142).1 ?_
                refine Eval.aload_n rfl rfl ?_
                refine Eval.iconst (x := (0 : Int32)) rfl rfl ?_
                obtain ⟨p143, hq144, h⟩ := bind_some h
                refine Eval.callI (rest := []) (x := p143) (H1 := (W1 scr s [])) rfl rfl (ev_j_holder [] scr s (0 : Int32) hq144 rfl) ?_
                refine Eval.iload rfl rfl ?_
                by_cases hc145 : p143 = v9
                · rw [if_pos hc145] at h
                  refine Eval.icmpF rfl (teq hc145).2 ?_
                  refine Eval.aload_n rfl rfl ?_
                  refine Eval.iconst (x := (1 : Int32)) rfl rfl ?_
                  obtain ⟨p146, hq147, h⟩ := bind_some h
                  refine Eval.callI (rest := []) (x := p146) (H1 := (W1 scr s [])) rfl rfl (ev_j_holder [] scr s (1 : Int32) hq147 rfl) ?_
                  refine Eval.iload rfl rfl ?_
                  by_cases hc148 : p146 = v10
                  · rw [if_pos hc148] at h
                    refine Eval.icmpT (t := 754) rfl rfl (teq hc148).1 ?_
                    refine Eval.iload_n rfl rfl ?_
                    refine Eval.iconst (x := (1 : Int32)) rfl rfl ?_
                    by_cases hc149 : v2 < (1 : Int32)
                    · rw [if_pos hc149] at h
                      refine Eval.icmpT (t := 790) rfl rfl (tlt hc149).1 ?_
                      exact ev_law_b790 _ hrec s scr v2 v3 v4 v5 v6 v7 v8 v9 v10 v11 v12 v13 v15 h hk
                    · rw [if_neg hc149] at h
                      refine Eval.icmpF rfl (flt hc149).1 ?_
                      refine Eval.iload_n rfl rfl ?_
                      refine Eval.sipush (x := (256 : Int32)) rfl rfl ?_
                      by_cases hc166 : (256 : Int32) < v2
                      · rw [if_pos hc166] at h
                        refine Eval.icmpT (t := 790) rfl rfl (tlt hc166).2.2.1 ?_
                        exact ev_law_b790 _ hrec s scr v2 v3 v4 v5 v6 v7 v8 v9 v10 v11 v12 v13 v15 h hk
                      · rw [if_neg hc166] at h
                        refine Eval.icmpF rfl (flt hc166).2.2.1 ?_
                        refine Eval.aload_n rfl rfl ?_
                        refine Eval.iconst (x := (0 : Int32)) rfl rfl ?_
                        refine Eval.iload_n rfl rfl ?_
                        obtain ⟨p172, hq173, h⟩ := bind_some h
                        refine Eval.callI (rest := []) (x := p172) (H1 := (W1 scr s [])) rfl rfl (ev_j_holderAt [] scr s (0 : Int32) v2 hq173 rfl) ?_
                        refine Eval.iload rfl rfl ?_
                        by_cases hc174 : p172 = v9
                        · rw [if_pos hc174] at h
                          refine Eval.icmpF rfl (teq hc174).2 ?_
                          refine Eval.aload_n rfl rfl ?_
                          refine Eval.iconst (x := (1 : Int32)) rfl rfl ?_
                          refine Eval.iload_n rfl rfl ?_
                          obtain ⟨p175, hq176, h⟩ := bind_some h
                          refine Eval.callI (rest := []) (x := p175) (H1 := (W1 scr s [])) rfl rfl (ev_j_holderAt [] scr s (1 : Int32) v2 hq176 rfl) ?_
                          refine Eval.iload rfl rfl ?_
                          by_cases hc177 : p175 = v10
                          · rw [if_pos hc177] at h
                            refine Eval.icmpT (t := 790) rfl rfl (teq hc177).1 ?_
                            exact ev_law_b790 _ hrec s scr v2 v3 v4 v5 v6 v7 v8 v9 v10 v11 v12 v13 v15 h hk
                          · rw [if_neg hc177] at h
                            refine Eval.icmpF rfl (feq hc177).1 ?_
                            cases h
                            refine Eval.weak (L' := [none, none, none, none, none, none, none, none, none, none, none, none, none, none, none, none, none, none, none, none, none, none, none, none, none, none, none]) ⟨_, _, rfl, Or.inl rfl, _, _, rfl, Or.inl rfl, _, _, rfl, Or.inl rfl, _, _, rfl, Or.inl rfl, _, _, rfl, Or.inl rfl, _, _, rfl, Or.inl rfl, _, _, rfl, Or.inl rfl, _, _, rfl, Or.inl rfl, _, _, rfl, Or.inl rfl, _, _, rfl, Or.inl rfl, _, _, rfl, Or.inl rfl, _, _, rfl, Or.inl rfl, _, _, rfl, Or.inl rfl, _, _, rfl, Or.inl rfl, _, _, rfl, Or.inl rfl, _, _, rfl, Or.inl rfl, _, _, rfl, Or.inl rfl, _, _, rfl, Or.inl rfl, _, _, rfl, Or.inl rfl, _, _, rfl, Or.inl rfl, _, _, rfl, Or.inl rfl, _, _, rfl, Or.inl rfl, _, _, rfl, Or.inl rfl, _, _, rfl, Or.inl rfl, _, _, rfl, Or.inl rfl, _, _, rfl, Or.inl rfl, _, _, rfl, Or.inl rfl, rfl⟩ ?_
                            exact hk
                        · rw [if_neg hc174] at h
                          refine Eval.icmpT (t := 788) rfl rfl (feq hc174).2 ?_
                          cases h
                          refine Eval.weak (L' := [none, none, none, none, none, none, none, none, none, none, none, none, none, none, none, none, none, none, none, none, none, none, none, none, none, none, none]) ⟨_, _, rfl, Or.inl rfl, _, _, rfl, Or.inl rfl, _, _, rfl, Or.inl rfl, _, _, rfl, Or.inl rfl, _, _, rfl, Or.inl rfl, _, _, rfl, Or.inl rfl, _, _, rfl, Or.inl rfl, _, _, rfl, Or.inl rfl, _, _, rfl, Or.inl rfl, _, _, rfl, Or.inl rfl, _, _, rfl, Or.inl rfl, _, _, rfl, Or.inl rfl, _, _, rfl, Or.inl rfl, _, _, rfl, Or.inl rfl, _, _, rfl, Or.inl rfl, _, _, rfl, Or.inl rfl, _, _, rfl, Or.inl rfl, _, _, rfl, Or.inl rfl, _, _, rfl, Or.inl rfl, _, _, rfl, Or.inl rfl, _, _, rfl, Or.inl rfl, _, _, rfl, Or.inl rfl, _, _, rfl, Or.inl rfl, _, _, rfl, Or.inl rfl, _, _, rfl, Or.inl rfl, _, _, rfl, Or.inl rfl, _, _, rfl, Or.inl rfl, rfl⟩ ?_
                          exact hk
                  · rw [if_neg hc148] at h
                    refine Eval.icmpF rfl (feq hc148).1 ?_
                    cases h
                    refine Eval.weak (L' := [none, none, none, none, none, none, none, none, none, none, none, none, none, none, none, none, none, none, none, none, none, none, none, none, none, none, none]) ⟨_, _, rfl, Or.inl rfl, _, _, rfl, Or.inl rfl, _, _, rfl, Or.inl rfl, _, _, rfl, Or.inl rfl, _, _, rfl, Or.inl rfl, _, _, rfl, Or.inl rfl, _, _, rfl, Or.inl rfl, _, _, rfl, Or.inl rfl, _, _, rfl, Or.inl rfl, _, _, rfl, Or.inl rfl, _, _, rfl, Or.inl rfl, _, _, rfl, Or.inl rfl, _, _, rfl, Or.inl rfl, _, _, rfl, Or.inl rfl, _, _, rfl, Or.inl rfl, _, _, rfl, Or.inl rfl, _, _, rfl, Or.inl rfl, _, _, rfl, Or.inl rfl, _, _, rfl, Or.inl rfl, _, _, rfl, Or.inl rfl, _, _, rfl, Or.inl rfl, _, _, rfl, Or.inl rfl, _, _, rfl, Or.inl rfl, _, _, rfl, Or.inl rfl, _, _, rfl, Or.inl rfl, _, _, rfl, Or.inl rfl, _, _, rfl, Or.inl rfl, rfl⟩ ?_
                    exact hk
                · rw [if_neg hc145] at h
                  refine Eval.icmpT (t := 752) rfl rfl (feq hc145).2 ?_
                  cases h
                  refine Eval.weak (L' := [none, none, none, none, none, none, none, none, none, none, none, none, none, none, none, none, none, none, none, none, none, none, none, none, none, none, none]) ⟨_, _, rfl, Or.inl rfl, _, _, rfl, Or.inl rfl, _, _, rfl, Or.inl rfl, _, _, rfl, Or.inl rfl, _, _, rfl, Or.inl rfl, _, _, rfl, Or.inl rfl, _, _, rfl, Or.inl rfl, _, _, rfl, Or.inl rfl, _, _, rfl, Or.inl rfl, _, _, rfl, Or.inl rfl, _, _, rfl, Or.inl rfl, _, _, rfl, Or.inl rfl, _, _, rfl, Or.inl rfl, _, _, rfl, Or.inl rfl, _, _, rfl, Or.inl rfl, _, _, rfl, Or.inl rfl, _, _, rfl, Or.inl rfl, _, _, rfl, Or.inl rfl, _, _, rfl, Or.inl rfl, _, _, rfl, Or.inl rfl, _, _, rfl, Or.inl rfl, _, _, rfl, Or.inl rfl, _, _, rfl, Or.inl rfl, _, _, rfl, Or.inl rfl, _, _, rfl, Or.inl rfl, _, _, rfl, Or.inl rfl, _, _, rfl, Or.inl rfl, rfl⟩ ?_
                  exact hk
              · rw [if_neg hc142] at h
                refine Eval.icmpF rfl (feq hc142).1 ?_
                cases h
                refine Eval.weak (L' := [none, none, none, none, none, none, none, none, none, none, none, none, none, none, none, none, none, none, none, none, none, none, none, none, none, none, none]) ⟨_, _, rfl, Or.inl rfl, _, _, rfl, Or.inl rfl, _, _, rfl, Or.inl rfl, _, _, rfl, Or.inl rfl, _, _, rfl, Or.inl rfl, _, _, rfl, Or.inl rfl, _, _, rfl, Or.inl rfl, _, _, rfl, Or.inl rfl, _, _, rfl, Or.inl rfl, _, _, rfl, Or.inl rfl, _, _, rfl, Or.inl rfl, _, _, rfl, Or.inl rfl, _, _, rfl, Or.inl rfl, _, _, rfl, Or.inl rfl, _, _, rfl, Or.inl rfl, _, _, rfl, Or.inl rfl, _, _, rfl, Or.inl rfl, _, _, rfl, Or.inl rfl, _, _, rfl, Or.inl rfl, _, _, rfl, Or.inl rfl, _, _, rfl, Or.inl rfl, _, _, rfl, Or.inl rfl, _, _, rfl, Or.inl rfl, _, _, rfl, Or.inl rfl, _, _, rfl, Or.inl rfl, _, _, rfl, Or.inl rfl, _, _, rfl, Or.inl rfl, rfl⟩ ?_
                exact hk
            · rw [if_neg hc139] at h
              refine Eval.icmpT (t := 730) rfl rfl (feq hc139).2 ?_
              cases h
              refine Eval.weak (L' := [none, none, none, none, none, none, none, none, none, none, none, none, none, none, none, none, none, none, none, none, none, none, none, none, none, none, none]) ⟨_, _, rfl, Or.inl rfl, _, _, rfl, Or.inl rfl, _, _, rfl, Or.inl rfl, _, _, rfl, Or.inl rfl, _, _, rfl, Or.inl rfl, _, _, rfl, Or.inl rfl, _, _, rfl, Or.inl rfl, _, _, rfl, Or.inl rfl, _, _, rfl, Or.inl rfl, _, _, rfl, Or.inl rfl, _, _, rfl, Or.inl rfl, _, _, rfl, Or.inl rfl, _, _, rfl, Or.inl rfl, _, _, rfl, Or.inl rfl, _, _, rfl, Or.inl rfl, _, _, rfl, Or.inl rfl, _, _, rfl, Or.inl rfl, _, _, rfl, Or.inl rfl, _, _, rfl, Or.inl rfl, _, _, rfl, Or.inl rfl, _, _, rfl, Or.inl rfl, _, _, rfl, Or.inl rfl, _, _, rfl, Or.inl rfl, _, _, rfl, Or.inl rfl, _, _, rfl, Or.inl rfl, _, _, rfl, Or.inl rfl, _, _, rfl, Or.inl rfl, rfl⟩ ?_
              exact hk
          · rw [if_neg hc134] at h
            refine Eval.icmpF rfl (feq hc134).1 ?_
            cases h
            refine Eval.weak (L' := [none, none, none, none, none, none, none, none, none, none, none, none, none, none, none, none, none, none, none, none, none, none, none, none, none, none, none]) ⟨_, _, rfl, Or.inl rfl, _, _, rfl, Or.inl rfl, _, _, rfl, Or.inl rfl, _, _, rfl, Or.inl rfl, _, _, rfl, Or.inl rfl, _, _, rfl, Or.inl rfl, _, _, rfl, Or.inl rfl, _, _, rfl, Or.inl rfl, _, _, rfl, Or.inl rfl, _, _, rfl, Or.inl rfl, _, _, rfl, Or.inl rfl, _, _, rfl, Or.inl rfl, _, _, rfl, Or.inl rfl, _, _, rfl, Or.inl rfl, _, _, rfl, Or.inl rfl, _, _, rfl, Or.inl rfl, _, _, rfl, Or.inl rfl, _, _, rfl, Or.inl rfl, _, _, rfl, Or.inl rfl, _, _, rfl, Or.inl rfl, _, _, rfl, Or.inl rfl, _, _, rfl, Or.inl rfl, _, _, rfl, Or.inl rfl, _, _, rfl, Or.inl rfl, _, _, rfl, Or.inl rfl, _, _, rfl, Or.inl rfl, _, _, rfl, Or.inl rfl, rfl⟩ ?_
            exact hk
        · rw [if_neg hc131] at h
          refine Eval.icmpT (t := 708) rfl rfl (feq hc131).2 ?_
          cases h
          refine Eval.weak (L' := [none, none, none, none, none, none, none, none, none, none, none, none, none, none, none, none, none, none, none, none, none, none, none, none, none, none, none]) ⟨_, _, rfl, Or.inl rfl, _, _, rfl, Or.inl rfl, _, _, rfl, Or.inl rfl, _, _, rfl, Or.inl rfl, _, _, rfl, Or.inl rfl, _, _, rfl, Or.inl rfl, _, _, rfl, Or.inl rfl, _, _, rfl, Or.inl rfl, _, _, rfl, Or.inl rfl, _, _, rfl, Or.inl rfl, _, _, rfl, Or.inl rfl, _, _, rfl, Or.inl rfl, _, _, rfl, Or.inl rfl, _, _, rfl, Or.inl rfl, _, _, rfl, Or.inl rfl, _, _, rfl, Or.inl rfl, _, _, rfl, Or.inl rfl, _, _, rfl, Or.inl rfl, _, _, rfl, Or.inl rfl, _, _, rfl, Or.inl rfl, _, _, rfl, Or.inl rfl, _, _, rfl, Or.inl rfl, _, _, rfl, Or.inl rfl, _, _, rfl, Or.inl rfl, _, _, rfl, Or.inl rfl, _, _, rfl, Or.inl rfl, _, _, rfl, Or.inl rfl, rfl⟩ ?_
          exact hk
      · rw [if_neg hc126] at h
        refine Eval.icmpF rfl (feq hc126).1 ?_
        cases h
        refine Eval.weak (L' := [none, none, none, none, none, none, none, none, none, none, none, none, none, none, none, none, none, none, none, none, none, none, none, none, none, none, none]) ⟨_, _, rfl, Or.inl rfl, _, _, rfl, Or.inl rfl, _, _, rfl, Or.inl rfl, _, _, rfl, Or.inl rfl, _, _, rfl, Or.inl rfl, _, _, rfl, Or.inl rfl, _, _, rfl, Or.inl rfl, _, _, rfl, Or.inl rfl, _, _, rfl, Or.inl rfl, _, _, rfl, Or.inl rfl, _, _, rfl, Or.inl rfl, _, _, rfl, Or.inl rfl, _, _, rfl, Or.inl rfl, _, _, rfl, Or.inl rfl, _, _, rfl, Or.inl rfl, _, _, rfl, Or.inl rfl, _, _, rfl, Or.inl rfl, _, _, rfl, Or.inl rfl, _, _, rfl, Or.inl rfl, _, _, rfl, Or.inl rfl, _, _, rfl, Or.inl rfl, _, _, rfl, Or.inl rfl, _, _, rfl, Or.inl rfl, _, _, rfl, Or.inl rfl, _, _, rfl, Or.inl rfl, _, _, rfl, Or.inl rfl, _, _, rfl, Or.inl rfl, rfl⟩ ?_
        exact hk
    · rw [if_neg hc123] at h
      refine Eval.icmpT (t := 686) rfl rfl (feq hc123).2 ?_
      cases h
      refine Eval.weak (L' := [none, none, none, none, none, none, none, none, none, none, none, none, none, none, none, none, none, none, none, none, none, none, none, none, none, none, none]) ⟨_, _, rfl, Or.inl rfl, _, _, rfl, Or.inl rfl, _, _, rfl, Or.inl rfl, _, _, rfl, Or.inl rfl, _, _, rfl, Or.inl rfl, _, _, rfl, Or.inl rfl, _, _, rfl, Or.inl rfl, _, _, rfl, Or.inl rfl, _, _, rfl, Or.inl rfl, _, _, rfl, Or.inl rfl, _, _, rfl, Or.inl rfl, _, _, rfl, Or.inl rfl, _, _, rfl, Or.inl rfl, _, _, rfl, Or.inl rfl, _, _, rfl, Or.inl rfl, _, _, rfl, Or.inl rfl, _, _, rfl, Or.inl rfl, _, _, rfl, Or.inl rfl, _, _, rfl, Or.inl rfl, _, _, rfl, Or.inl rfl, _, _, rfl, Or.inl rfl, _, _, rfl, Or.inl rfl, _, _, rfl, Or.inl rfl, _, _, rfl, Or.inl rfl, _, _, rfl, Or.inl rfl, _, _, rfl, Or.inl rfl, _, _, rfl, Or.inl rfl, rfl⟩ ?_
      exact hk
  · rw [if_neg hc118] at h
    refine Eval.icmpT (t := 686) rfl rfl (feq hc118).2 ?_
    cases h
    refine Eval.weak (L' := [none, none, none, none, none, none, none, none, none, none, none, none, none, none, none, none, none, none, none, none, none, none, none, none, none, none, none]) ⟨_, _, rfl, Or.inl rfl, _, _, rfl, Or.inl rfl, _, _, rfl, Or.inl rfl, _, _, rfl, Or.inl rfl, _, _, rfl, Or.inl rfl, _, _, rfl, Or.inl rfl, _, _, rfl, Or.inl rfl, _, _, rfl, Or.inl rfl, _, _, rfl, Or.inl rfl, _, _, rfl, Or.inl rfl, _, _, rfl, Or.inl rfl, _, _, rfl, Or.inl rfl, _, _, rfl, Or.inl rfl, _, _, rfl, Or.inl rfl, _, _, rfl, Or.inl rfl, _, _, rfl, Or.inl rfl, _, _, rfl, Or.inl rfl, _, _, rfl, Or.inl rfl, _, _, rfl, Or.inl rfl, _, _, rfl, Or.inl rfl, _, _, rfl, Or.inl rfl, _, _, rfl, Or.inl rfl, _, _, rfl, Or.inl rfl, _, _, rfl, Or.inl rfl, _, _, rfl, Or.inl rfl, _, _, rfl, Or.inl rfl, _, _, rfl, Or.inl rfl, rfl⟩ ?_
    exact hk
def law_b328 (go_ : Q → List Int32 → Int32 → Int32 → Int32 → Int32 → Int32 → Int32 → Int32 → Int32 → Int32 → Int32 → Int32 → Int64 → Int32 → Option ((Q) ⊕ ((Q) ⊕ ((Q) ⊕ ((Q) ⊕ ((Q) ⊕ ((Q) ⊕ ((Q) ⊕ ((Q) ⊕ ((Q) ⊕ ((Q) ⊕ ((Q) ⊕ ((Q) ⊕ ((Q) ⊕ ((Q) ⊕ ((Q) ⊕ ((Q) ⊕ ((Q) ⊕ (Q))))))))))))))))))) (s : Q) (scr : List Int32) (v2 : Int32) (v3 : Int32) (v4 : Int32) (v5 : Int32) (v6 : Int32) (v7 : Int32) (v8 : Int32) (v9 : Int32) (v10 : Int32) (v11 : Int32) (v12 : Int32) (v13 : Int64) (v15 : Int32) : Option ((Q) ⊕ ((Q) ⊕ ((Q) ⊕ ((Q) ⊕ ((Q) ⊕ ((Q) ⊕ ((Q) ⊕ ((Q) ⊕ ((Q) ⊕ ((Q) ⊕ ((Q) ⊕ ((Q) ⊕ ((Q) ⊕ ((Q) ⊕ ((Q) ⊕ ((Q) ⊕ ((Q) ⊕ (Q)))))))))))))))))) := (law_b659 (go_) s scr v2 v3 v4 v5 v6 v7 v8 v9 v10 v11 v12 v13 v15)
set_option maxRecDepth 100000 in
theorem ev_law_b328 (go_ : Q → List Int32 → Int32 → Int32 → Int32 → Int32 → Int32 → Int32 → Int32 → Int32 → Int32 → Int32 → Int32 → Int64 → Int32 → Option ((Q) ⊕ ((Q) ⊕ ((Q) ⊕ ((Q) ⊕ ((Q) ⊕ ((Q) ⊕ ((Q) ⊕ ((Q) ⊕ ((Q) ⊕ ((Q) ⊕ ((Q) ⊕ ((Q) ⊕ ((Q) ⊕ ((Q) ⊕ ((Q) ⊕ ((Q) ⊕ ((Q) ⊕ (Q))))))))))))))))))) (hrec : ∀ (s : Q) (scr : List Int32) (v2 : Int32) (v3 : Int32) (v4 : Int32) (v5 : Int32) (v6 : Int32) (v7 : Int32) (v8 : Int32) (v9 : Int32) (v10 : Int32) (v11 : Int32) (v12 : Int32) (v13 : Int64) (v15 : Int32) {res : (Q) ⊕ ((Q) ⊕ ((Q) ⊕ ((Q) ⊕ ((Q) ⊕ ((Q) ⊕ ((Q) ⊕ ((Q) ⊕ ((Q) ⊕ ((Q) ⊕ ((Q) ⊕ ((Q) ⊕ ((Q) ⊕ ((Q) ⊕ ((Q) ⊕ ((Q) ⊕ ((Q) ⊕ (Q)))))))))))))))))} {out : Option Value × AHeap}, go_ s scr v2 v3 v4 v5 v6 v7 v8 v9 v10 v11 v12 v13 v15 = some res → law_l46_K scr res out → Eval own_P 0 46 [some (.ref 0), some (.ref 1), some (.int v2), some (.int v3), some (.int v4), some (.int v5), some (.int v6), some (.int v7), some (.int v8), some (.int v9), some (.int v10), some (.int v11), some (.int v12), some (.long v13), none, some (.int v15), none, none, none, none, none, none, none, none, none, none, none] [] (W1 scr s []) out) (s : Q) (scr : List Int32) (v2 : Int32) (v3 : Int32) (v4 : Int32) (v5 : Int32) (v6 : Int32) (v7 : Int32) (v8 : Int32) (v9 : Int32) (v10 : Int32) (v11 : Int32) (v12 : Int32) (v13 : Int64) (v15 : Int32) {res : (Q) ⊕ ((Q) ⊕ ((Q) ⊕ ((Q) ⊕ ((Q) ⊕ ((Q) ⊕ ((Q) ⊕ ((Q) ⊕ ((Q) ⊕ ((Q) ⊕ ((Q) ⊕ ((Q) ⊕ ((Q) ⊕ ((Q) ⊕ ((Q) ⊕ ((Q) ⊕ ((Q) ⊕ (Q)))))))))))))))))} {out : Option Value × AHeap} (h : law_b328 go_ s scr v2 v3 v4 v5 v6 v7 v8 v9 v10 v11 v12 v13 v15 = some res) (hk : law_l46_K scr res out) : Eval own_P 0 328 [some (.ref 0), some (.ref 1), some (.int v2), some (.int v3), some (.int v4), some (.int v5), some (.int v6), some (.int v7), some (.int v8), some (.int v9), some (.int v10), some (.int v11), some (.int v12), some (.long v13), none, some (.int v15), none, none, none, none, none, none, none, none, none, none, none] [] (W1 scr s []) out := by
  rw [law_b328] at h
  refine Eval.goto (t := 659) rfl rfl ?_
  exact ev_law_b659 _ hrec s scr v2 v3 v4 v5 v6 v7 v8 v9 v10 v11 v12 v13 v15 h hk
def law_b178 (go_ : Q → List Int32 → Int32 → Int32 → Int32 → Int32 → Int32 → Int32 → Int32 → Int32 → Int32 → Int32 → Int32 → Int64 → Int32 → Option ((Q) ⊕ ((Q) ⊕ ((Q) ⊕ ((Q) ⊕ ((Q) ⊕ ((Q) ⊕ ((Q) ⊕ ((Q) ⊕ ((Q) ⊕ ((Q) ⊕ ((Q) ⊕ ((Q) ⊕ ((Q) ⊕ ((Q) ⊕ ((Q) ⊕ ((Q) ⊕ ((Q) ⊕ (Q))))))))))))))))))) (s : Q) (scr : List Int32) (v2 : Int32) (v3 : Int32) (v4 : Int32) (v5 : Int32) (v6 : Int32) (v7 : Int32) (v8 : Int32) (v9 : Int32) (v10 : Int32) (v11 : Int32) (v12 : Int32) (v13 : Int64) (v15 : Int32) (v24 : Int32) : Option ((Q) ⊕ ((Q) ⊕ ((Q) ⊕ ((Q) ⊕ ((Q) ⊕ ((Q) ⊕ ((Q) ⊕ ((Q) ⊕ ((Q) ⊕ ((Q) ⊕ ((Q) ⊕ ((Q) ⊕ ((Q) ⊕ ((Q) ⊕ ((Q) ⊕ ((Q) ⊕ ((Q) ⊕ (Q)))))))))))))))))) := (if v24 = (-2 : Int32) then (law_b328 (go_) s scr v2 v3 v4 v5 v6 v7 v8 v9 v10 v11 v12 v13 v15) else some (.inl (s)))
set_option maxRecDepth 100000 in
theorem ev_law_b178 (go_ : Q → List Int32 → Int32 → Int32 → Int32 → Int32 → Int32 → Int32 → Int32 → Int32 → Int32 → Int32 → Int32 → Int64 → Int32 → Option ((Q) ⊕ ((Q) ⊕ ((Q) ⊕ ((Q) ⊕ ((Q) ⊕ ((Q) ⊕ ((Q) ⊕ ((Q) ⊕ ((Q) ⊕ ((Q) ⊕ ((Q) ⊕ ((Q) ⊕ ((Q) ⊕ ((Q) ⊕ ((Q) ⊕ ((Q) ⊕ ((Q) ⊕ (Q))))))))))))))))))) (hrec : ∀ (s : Q) (scr : List Int32) (v2 : Int32) (v3 : Int32) (v4 : Int32) (v5 : Int32) (v6 : Int32) (v7 : Int32) (v8 : Int32) (v9 : Int32) (v10 : Int32) (v11 : Int32) (v12 : Int32) (v13 : Int64) (v15 : Int32) {res : (Q) ⊕ ((Q) ⊕ ((Q) ⊕ ((Q) ⊕ ((Q) ⊕ ((Q) ⊕ ((Q) ⊕ ((Q) ⊕ ((Q) ⊕ ((Q) ⊕ ((Q) ⊕ ((Q) ⊕ ((Q) ⊕ ((Q) ⊕ ((Q) ⊕ ((Q) ⊕ ((Q) ⊕ (Q)))))))))))))))))} {out : Option Value × AHeap}, go_ s scr v2 v3 v4 v5 v6 v7 v8 v9 v10 v11 v12 v13 v15 = some res → law_l46_K scr res out → Eval own_P 0 46 [some (.ref 0), some (.ref 1), some (.int v2), some (.int v3), some (.int v4), some (.int v5), some (.int v6), some (.int v7), some (.int v8), some (.int v9), some (.int v10), some (.int v11), some (.int v12), some (.long v13), none, some (.int v15), none, none, none, none, none, none, none, none, none, none, none] [] (W1 scr s []) out) (s : Q) (scr : List Int32) (v2 : Int32) (v3 : Int32) (v4 : Int32) (v5 : Int32) (v6 : Int32) (v7 : Int32) (v8 : Int32) (v9 : Int32) (v10 : Int32) (v11 : Int32) (v12 : Int32) (v13 : Int64) (v15 : Int32) (v24 : Int32) {res : (Q) ⊕ ((Q) ⊕ ((Q) ⊕ ((Q) ⊕ ((Q) ⊕ ((Q) ⊕ ((Q) ⊕ ((Q) ⊕ ((Q) ⊕ ((Q) ⊕ ((Q) ⊕ ((Q) ⊕ ((Q) ⊕ ((Q) ⊕ ((Q) ⊕ ((Q) ⊕ ((Q) ⊕ (Q)))))))))))))))))} {out : Option Value × AHeap} (h : law_b178 go_ s scr v2 v3 v4 v5 v6 v7 v8 v9 v10 v11 v12 v13 v15 v24 = some res) (hk : law_l46_K scr res out) : Eval own_P 0 178 [some (.ref 0), some (.ref 1), some (.int v2), some (.int v3), some (.int v4), some (.int v5), some (.int v6), some (.int v7), some (.int v8), some (.int v9), some (.int v10), some (.int v11), some (.int v12), some (.long v13), none, some (.int v15), none, none, none, none, none, none, none, none, some (.int v24), none, none] [] (W1 scr s []) out := by
  rw [law_b178] at h
  refine Eval.iload rfl rfl ?_
  refine Eval.bipush (x := (-2 : Int32)) rfl rfl ?_
  by_cases hc117 : v24 = (-2 : Int32)
  · rw [if_pos hc117] at h
    refine Eval.icmpT (t := 328) rfl rfl (teq hc117).1 ?_
    refine Eval.weak (L' := [some (.ref 0), some (.ref 1), some (.int v2), some (.int v3), some (.int v4), some (.int v5), some (.int v6), some (.int v7), some (.int v8), some (.int v9), some (.int v10), some (.int v11), some (.int v12), some (.long v13), none, some (.int v15), none, none, none, none, none, none, none, none, none, none, none]) ⟨_, _, rfl, Or.inr rfl, _, _, rfl, Or.inr rfl, _, _, rfl, Or.inr rfl, _, _, rfl, Or.inr rfl, _, _, rfl, Or.inr rfl, _, _, rfl, Or.inr rfl, _, _, rfl, Or.inr rfl, _, _, rfl, Or.inr rfl, _, _, rfl, Or.inr rfl, _, _, rfl, Or.inr rfl, _, _, rfl, Or.inr rfl, _, _, rfl, Or.inr rfl, _, _, rfl, Or.inr rfl, _, _, rfl, Or.inr rfl, _, _, rfl, Or.inl rfl, _, _, rfl, Or.inr rfl, _, _, rfl, Or.inl rfl, _, _, rfl, Or.inl rfl, _, _, rfl, Or.inl rfl, _, _, rfl, Or.inl rfl, _, _, rfl, Or.inl rfl, _, _, rfl, Or.inl rfl, _, _, rfl, Or.inl rfl, _, _, rfl, Or.inl rfl, _, _, rfl, Or.inl rfl, _, _, rfl, Or.inl rfl, _, _, rfl, Or.inl rfl, rfl⟩ ?_
    exact ev_law_b328 _ hrec s scr v2 v3 v4 v5 v6 v7 v8 v9 v10 v11 v12 v13 v15 h hk
  · rw [if_neg hc117] at h
    refine Eval.icmpF rfl (feq hc117).1 ?_
    cases h
    refine Eval.weak (L' := [none, none, none, none, none, none, none, none, none, none, none, none, none, none, none, none, none, none, none, none, none, none, none, none, none, none, none]) ⟨_, _, rfl, Or.inl rfl, _, _, rfl, Or.inl rfl, _, _, rfl, Or.inl rfl, _, _, rfl, Or.inl rfl, _, _, rfl, Or.inl rfl, _, _, rfl, Or.inl rfl, _, _, rfl, Or.inl rfl, _, _, rfl, Or.inl rfl, _, _, rfl, Or.inl rfl, _, _, rfl, Or.inl rfl, _, _, rfl, Or.inl rfl, _, _, rfl, Or.inl rfl, _, _, rfl, Or.inl rfl, _, _, rfl, Or.inl rfl, _, _, rfl, Or.inl rfl, _, _, rfl, Or.inl rfl, _, _, rfl, Or.inl rfl, _, _, rfl, Or.inl rfl, _, _, rfl, Or.inl rfl, _, _, rfl, Or.inl rfl, _, _, rfl, Or.inl rfl, _, _, rfl, Or.inl rfl, _, _, rfl, Or.inl rfl, _, _, rfl, Or.inl rfl, _, _, rfl, Or.inl rfl, _, _, rfl, Or.inl rfl, _, _, rfl, Or.inl rfl, rfl⟩ ?_
    exact hk
def law_b295 (go_ : Q → List Int32 → Int32 → Int32 → Int32 → Int32 → Int32 → Int32 → Int32 → Int32 → Int32 → Int32 → Int32 → Int64 → Int32 → Option ((Q) ⊕ ((Q) ⊕ ((Q) ⊕ ((Q) ⊕ ((Q) ⊕ ((Q) ⊕ ((Q) ⊕ ((Q) ⊕ ((Q) ⊕ ((Q) ⊕ ((Q) ⊕ ((Q) ⊕ ((Q) ⊕ ((Q) ⊕ ((Q) ⊕ ((Q) ⊕ ((Q) ⊕ (Q))))))))))))))))))) (s : Q) (scr : List Int32) (v2 : Int32) (v3 : Int32) (v4 : Int32) (v5 : Int32) (v6 : Int32) (v7 : Int32) (v8 : Int32) (v9 : Int32) (v10 : Int32) (v11 : Int32) (v12 : Int32) (v13 : Int64) (v15 : Int32) (v17 : Int32) (v18 : Int32) (v24 : Int32) : Option ((Q) ⊕ ((Q) ⊕ ((Q) ⊕ ((Q) ⊕ ((Q) ⊕ ((Q) ⊕ ((Q) ⊕ ((Q) ⊕ ((Q) ⊕ ((Q) ⊕ ((Q) ⊕ ((Q) ⊕ ((Q) ⊕ ((Q) ⊕ ((Q) ⊕ ((Q) ⊕ ((Q) ⊕ (Q)))))))))))))))))) := ((j_spins s v17).bind fun p189 => (if p189 = (0 : Int32) then ((j_lockOf s v17).bind fun p192 => (if p192 = v18 then ((j_state s v17).bind fun p195 => (if p195 = v24 then (law_b328 (go_) s scr v2 v3 v4 v5 v6 v7 v8 v9 v10 v11 v12 v13 v15) else some (.inr (.inr (.inl (s)))))) else some (.inr (.inr (.inl (s)))))) else some (.inr (.inr (.inl (s))))))
set_option maxRecDepth 100000 in
theorem ev_law_b295 (go_ : Q → List Int32 → Int32 → Int32 → Int32 → Int32 → Int32 → Int32 → Int32 → Int32 → Int32 → Int32 → Int32 → Int64 → Int32 → Option ((Q) ⊕ ((Q) ⊕ ((Q) ⊕ ((Q) ⊕ ((Q) ⊕ ((Q) ⊕ ((Q) ⊕ ((Q) ⊕ ((Q) ⊕ ((Q) ⊕ ((Q) ⊕ ((Q) ⊕ ((Q) ⊕ ((Q) ⊕ ((Q) ⊕ ((Q) ⊕ ((Q) ⊕ (Q))))))))))))))))))) (hrec : ∀ (s : Q) (scr : List Int32) (v2 : Int32) (v3 : Int32) (v4 : Int32) (v5 : Int32) (v6 : Int32) (v7 : Int32) (v8 : Int32) (v9 : Int32) (v10 : Int32) (v11 : Int32) (v12 : Int32) (v13 : Int64) (v15 : Int32) {res : (Q) ⊕ ((Q) ⊕ ((Q) ⊕ ((Q) ⊕ ((Q) ⊕ ((Q) ⊕ ((Q) ⊕ ((Q) ⊕ ((Q) ⊕ ((Q) ⊕ ((Q) ⊕ ((Q) ⊕ ((Q) ⊕ ((Q) ⊕ ((Q) ⊕ ((Q) ⊕ ((Q) ⊕ (Q)))))))))))))))))} {out : Option Value × AHeap}, go_ s scr v2 v3 v4 v5 v6 v7 v8 v9 v10 v11 v12 v13 v15 = some res → law_l46_K scr res out → Eval own_P 0 46 [some (.ref 0), some (.ref 1), some (.int v2), some (.int v3), some (.int v4), some (.int v5), some (.int v6), some (.int v7), some (.int v8), some (.int v9), some (.int v10), some (.int v11), some (.int v12), some (.long v13), none, some (.int v15), none, none, none, none, none, none, none, none, none, none, none] [] (W1 scr s []) out) (s : Q) (scr : List Int32) (v2 : Int32) (v3 : Int32) (v4 : Int32) (v5 : Int32) (v6 : Int32) (v7 : Int32) (v8 : Int32) (v9 : Int32) (v10 : Int32) (v11 : Int32) (v12 : Int32) (v13 : Int64) (v15 : Int32) (v17 : Int32) (v18 : Int32) (v24 : Int32) {res : (Q) ⊕ ((Q) ⊕ ((Q) ⊕ ((Q) ⊕ ((Q) ⊕ ((Q) ⊕ ((Q) ⊕ ((Q) ⊕ ((Q) ⊕ ((Q) ⊕ ((Q) ⊕ ((Q) ⊕ ((Q) ⊕ ((Q) ⊕ ((Q) ⊕ ((Q) ⊕ ((Q) ⊕ (Q)))))))))))))))))} {out : Option Value × AHeap} (h : law_b295 go_ s scr v2 v3 v4 v5 v6 v7 v8 v9 v10 v11 v12 v13 v15 v17 v18 v24 = some res) (hk : law_l46_K scr res out) : Eval own_P 0 295 [some (.ref 0), some (.ref 1), some (.int v2), some (.int v3), some (.int v4), some (.int v5), some (.int v6), some (.int v7), some (.int v8), some (.int v9), some (.int v10), some (.int v11), some (.int v12), some (.long v13), none, some (.int v15), none, some (.int v17), some (.int v18), none, none, none, none, none, some (.int v24), none, none] [] (W1 scr s []) out := by
  rw [law_b295] at h
  refine Eval.aload_n rfl rfl ?_
  refine Eval.iload rfl rfl ?_
  obtain ⟨p189, hq190, h⟩ := bind_some h
  refine Eval.callI (rest := []) (x := p189) (H1 := (W1 scr s [])) rfl rfl (ev_j_spins [] scr s v17 hq190 rfl) ?_
  by_cases hc191 : p189 = (0 : Int32)
  · rw [if_pos hc191] at h
    refine Eval.ifF rfl (teq hc191).2 ?_
    refine Eval.aload_n rfl rfl ?_
    refine Eval.iload rfl rfl ?_
    obtain ⟨p192, hq193, h⟩ := bind_some h
    refine Eval.callI (rest := []) (x := p192) (H1 := (W1 scr s [])) rfl rfl (ev_j_lockOf [] scr s v17 hq193 rfl) ?_
    refine Eval.iload rfl rfl ?_
    by_cases hc194 : p192 = v18
    · rw [if_pos hc194] at h
      refine Eval.icmpF rfl (teq hc194).2 ?_
      refine Eval.aload_n rfl rfl ?_
      refine Eval.iload rfl rfl ?_
      obtain ⟨p195, hq196, h⟩ := bind_some h
      refine Eval.callI (rest := []) (x := p195) (H1 := (W1 scr s [])) rfl rfl (ev_j_state [] scr s v17 hq196 rfl) ?_
      refine Eval.iload rfl rfl ?_
      by_cases hc197 : p195 = v24
      · rw [if_pos hc197] at h
        refine Eval.icmpT (t := 328) rfl rfl (teq hc197).1 ?_
        refine Eval.weak (L' := [some (.ref 0), some (.ref 1), some (.int v2), some (.int v3), some (.int v4), some (.int v5), some (.int v6), some (.int v7), some (.int v8), some (.int v9), some (.int v10), some (.int v11), some (.int v12), some (.long v13), none, some (.int v15), none, none, none, none, none, none, none, none, none, none, none]) ⟨_, _, rfl, Or.inr rfl, _, _, rfl, Or.inr rfl, _, _, rfl, Or.inr rfl, _, _, rfl, Or.inr rfl, _, _, rfl, Or.inr rfl, _, _, rfl, Or.inr rfl, _, _, rfl, Or.inr rfl, _, _, rfl, Or.inr rfl, _, _, rfl, Or.inr rfl, _, _, rfl, Or.inr rfl, _, _, rfl, Or.inr rfl, _, _, rfl, Or.inr rfl, _, _, rfl, Or.inr rfl, _, _, rfl, Or.inr rfl, _, _, rfl, Or.inl rfl, _, _, rfl, Or.inr rfl, _, _, rfl, Or.inl rfl, _, _, rfl, Or.inl rfl, _, _, rfl, Or.inl rfl, _, _, rfl, Or.inl rfl, _, _, rfl, Or.inl rfl, _, _, rfl, Or.inl rfl, _, _, rfl, Or.inl rfl, _, _, rfl, Or.inl rfl, _, _, rfl, Or.inl rfl, _, _, rfl, Or.inl rfl, _, _, rfl, Or.inl rfl, rfl⟩ ?_
        exact ev_law_b328 _ hrec s scr v2 v3 v4 v5 v6 v7 v8 v9 v10 v11 v12 v13 v15 h hk
      · rw [if_neg hc197] at h
        refine Eval.icmpF rfl (feq hc197).1 ?_
        cases h
        refine Eval.weak (L' := [none, none, none, none, none, none, none, none, none, none, none, none, none, none, none, none, none, none, none, none, none, none, none, none, none, none, none]) ⟨_, _, rfl, Or.inl rfl, _, _, rfl, Or.inl rfl, _, _, rfl, Or.inl rfl, _, _, rfl, Or.inl rfl, _, _, rfl, Or.inl rfl, _, _, rfl, Or.inl rfl, _, _, rfl, Or.inl rfl, _, _, rfl, Or.inl rfl, _, _, rfl, Or.inl rfl, _, _, rfl, Or.inl rfl, _, _, rfl, Or.inl rfl, _, _, rfl, Or.inl rfl, _, _, rfl, Or.inl rfl, _, _, rfl, Or.inl rfl, _, _, rfl, Or.inl rfl, _, _, rfl, Or.inl rfl, _, _, rfl, Or.inl rfl, _, _, rfl, Or.inl rfl, _, _, rfl, Or.inl rfl, _, _, rfl, Or.inl rfl, _, _, rfl, Or.inl rfl, _, _, rfl, Or.inl rfl, _, _, rfl, Or.inl rfl, _, _, rfl, Or.inl rfl, _, _, rfl, Or.inl rfl, _, _, rfl, Or.inl rfl, _, _, rfl, Or.inl rfl, rfl⟩ ?_
        exact hk
    · rw [if_neg hc194] at h
      refine Eval.icmpT (t := 326) rfl rfl (feq hc194).2 ?_
      cases h
      refine Eval.weak (L' := [none, none, none, none, none, none, none, none, none, none, none, none, none, none, none, none, none, none, none, none, none, none, none, none, none, none, none]) ⟨_, _, rfl, Or.inl rfl, _, _, rfl, Or.inl rfl, _, _, rfl, Or.inl rfl, _, _, rfl, Or.inl rfl, _, _, rfl, Or.inl rfl, _, _, rfl, Or.inl rfl, _, _, rfl, Or.inl rfl, _, _, rfl, Or.inl rfl, _, _, rfl, Or.inl rfl, _, _, rfl, Or.inl rfl, _, _, rfl, Or.inl rfl, _, _, rfl, Or.inl rfl, _, _, rfl, Or.inl rfl, _, _, rfl, Or.inl rfl, _, _, rfl, Or.inl rfl, _, _, rfl, Or.inl rfl, _, _, rfl, Or.inl rfl, _, _, rfl, Or.inl rfl, _, _, rfl, Or.inl rfl, _, _, rfl, Or.inl rfl, _, _, rfl, Or.inl rfl, _, _, rfl, Or.inl rfl, _, _, rfl, Or.inl rfl, _, _, rfl, Or.inl rfl, _, _, rfl, Or.inl rfl, _, _, rfl, Or.inl rfl, _, _, rfl, Or.inl rfl, rfl⟩ ?_
      exact hk
  · rw [if_neg hc191] at h
    refine Eval.ifT (t := 326) rfl rfl (feq hc191).2 ?_
    cases h
    refine Eval.weak (L' := [none, none, none, none, none, none, none, none, none, none, none, none, none, none, none, none, none, none, none, none, none, none, none, none, none, none, none]) ⟨_, _, rfl, Or.inl rfl, _, _, rfl, Or.inl rfl, _, _, rfl, Or.inl rfl, _, _, rfl, Or.inl rfl, _, _, rfl, Or.inl rfl, _, _, rfl, Or.inl rfl, _, _, rfl, Or.inl rfl, _, _, rfl, Or.inl rfl, _, _, rfl, Or.inl rfl, _, _, rfl, Or.inl rfl, _, _, rfl, Or.inl rfl, _, _, rfl, Or.inl rfl, _, _, rfl, Or.inl rfl, _, _, rfl, Or.inl rfl, _, _, rfl, Or.inl rfl, _, _, rfl, Or.inl rfl, _, _, rfl, Or.inl rfl, _, _, rfl, Or.inl rfl, _, _, rfl, Or.inl rfl, _, _, rfl, Or.inl rfl, _, _, rfl, Or.inl rfl, _, _, rfl, Or.inl rfl, _, _, rfl, Or.inl rfl, _, _, rfl, Or.inl rfl, _, _, rfl, Or.inl rfl, _, _, rfl, Or.inl rfl, _, _, rfl, Or.inl rfl, rfl⟩ ?_
    exact hk
def law_b244 (go_ : Q → List Int32 → Int32 → Int32 → Int32 → Int32 → Int32 → Int32 → Int32 → Int32 → Int32 → Int32 → Int32 → Int64 → Int32 → Option ((Q) ⊕ ((Q) ⊕ ((Q) ⊕ ((Q) ⊕ ((Q) ⊕ ((Q) ⊕ ((Q) ⊕ ((Q) ⊕ ((Q) ⊕ ((Q) ⊕ ((Q) ⊕ ((Q) ⊕ ((Q) ⊕ ((Q) ⊕ ((Q) ⊕ ((Q) ⊕ ((Q) ⊕ (Q))))))))))))))))))) (s : Q) (scr : List Int32) (v2 : Int32) (v3 : Int32) (v4 : Int32) (v5 : Int32) (v6 : Int32) (v7 : Int32) (v8 : Int32) (v9 : Int32) (v10 : Int32) (v11 : Int32) (v12 : Int32) (v13 : Int64) (v15 : Int32) (v17 : Int32) (v18 : Int32) (v24 : Int32) (v25 : Int32) (w0 : Int32) (w1 : Int32) : Option ((Q) ⊕ ((Q) ⊕ ((Q) ⊕ ((Q) ⊕ ((Q) ⊕ ((Q) ⊕ ((Q) ⊕ ((Q) ⊕ ((Q) ⊕ ((Q) ⊕ ((Q) ⊕ ((Q) ⊕ ((Q) ⊕ ((Q) ⊕ ((Q) ⊕ ((Q) ⊕ ((Q) ⊕ (Q)))))))))))))))))) := (if w0 = w1 then (law_b295 (go_) s scr v2 (if v18 = (0 : Int32) then (if v25 = (0 : Int32) then (v3 + (1 : Int32)) else v3) else v3) (if v18 = (0 : Int32) then v4 else (if v25 = (0 : Int32) then (v4 + (1 : Int32)) else v4)) v5 v6 (if v18 = (0 : Int32) then (v7 + (1 : Int32)) else v7) (if v18 = (0 : Int32) then v8 else (v8 + (1 : Int32))) (if v18 = (0 : Int32) then (if v25 = (0 : Int32) then v17 else v9) else v9) (if v18 = (0 : Int32) then v10 else (if v25 = (0 : Int32) then v17 else v10)) (if v18 = (0 : Int32) then (if v25 = (0 : Int32) then v17 else v11) else v11) (if v18 = (0 : Int32) then v12 else (if v25 = (0 : Int32) then v17 else v12)) v13 v15 v17 v18 v24) else some (.inr (.inl (s))))
set_option maxRecDepth 100000 in
theorem ev_law_b244 (go_ : Q → List Int32 → Int32 → Int32 → Int32 → Int32 → Int32 → Int32 → Int32 → Int32 → Int32 → Int32 → Int32 → Int64 → Int32 → Option ((Q) ⊕ ((Q) ⊕ ((Q) ⊕ ((Q) ⊕ ((Q) ⊕ ((Q) ⊕ ((Q) ⊕ ((Q) ⊕ ((Q) ⊕ ((Q) ⊕ ((Q) ⊕ ((Q) ⊕ ((Q) ⊕ ((Q) ⊕ ((Q) ⊕ ((Q) ⊕ ((Q) ⊕ (Q))))))))))))))))))) (hrec : ∀ (s : Q) (scr : List Int32) (v2 : Int32) (v3 : Int32) (v4 : Int32) (v5 : Int32) (v6 : Int32) (v7 : Int32) (v8 : Int32) (v9 : Int32) (v10 : Int32) (v11 : Int32) (v12 : Int32) (v13 : Int64) (v15 : Int32) {res : (Q) ⊕ ((Q) ⊕ ((Q) ⊕ ((Q) ⊕ ((Q) ⊕ ((Q) ⊕ ((Q) ⊕ ((Q) ⊕ ((Q) ⊕ ((Q) ⊕ ((Q) ⊕ ((Q) ⊕ ((Q) ⊕ ((Q) ⊕ ((Q) ⊕ ((Q) ⊕ ((Q) ⊕ (Q)))))))))))))))))} {out : Option Value × AHeap}, go_ s scr v2 v3 v4 v5 v6 v7 v8 v9 v10 v11 v12 v13 v15 = some res → law_l46_K scr res out → Eval own_P 0 46 [some (.ref 0), some (.ref 1), some (.int v2), some (.int v3), some (.int v4), some (.int v5), some (.int v6), some (.int v7), some (.int v8), some (.int v9), some (.int v10), some (.int v11), some (.int v12), some (.long v13), none, some (.int v15), none, none, none, none, none, none, none, none, none, none, none] [] (W1 scr s []) out) (s : Q) (scr : List Int32) (v2 : Int32) (v3 : Int32) (v4 : Int32) (v5 : Int32) (v6 : Int32) (v7 : Int32) (v8 : Int32) (v9 : Int32) (v10 : Int32) (v11 : Int32) (v12 : Int32) (v13 : Int64) (v15 : Int32) (v17 : Int32) (v18 : Int32) (v24 : Int32) (v25 : Int32) (w0 : Int32) (w1 : Int32) {res : (Q) ⊕ ((Q) ⊕ ((Q) ⊕ ((Q) ⊕ ((Q) ⊕ ((Q) ⊕ ((Q) ⊕ ((Q) ⊕ ((Q) ⊕ ((Q) ⊕ ((Q) ⊕ ((Q) ⊕ ((Q) ⊕ ((Q) ⊕ ((Q) ⊕ ((Q) ⊕ ((Q) ⊕ (Q)))))))))))))))))} {out : Option Value × AHeap} (h : law_b244 go_ s scr v2 v3 v4 v5 v6 v7 v8 v9 v10 v11 v12 v13 v15 v17 v18 v24 v25 w0 w1 = some res) (hk : law_l46_K scr res out) : Eval own_P 0 244 [some (.ref 0), some (.ref 1), some (.int v2), some (.int v3), some (.int v4), some (.int v5), some (.int v6), some (.int v7), some (.int v8), some (.int v9), some (.int v10), some (.int v11), some (.int v12), some (.long v13), none, some (.int v15), none, some (.int v17), some (.int v18), none, none, none, none, none, some (.int v24), some (.int v25), none] [.int w1, .int w0] (W1 scr s []) out := by
  rw [law_b244] at h
  by_cases hc184 : w0 = w1
  · rw [if_pos hc184] at h
    refine Eval.icmpT (t := 249) rfl rfl (teq hc184).1 ?_
    refine Eval.iload rfl rfl ?_
    suffices hJ188 : Eval own_P 0 295 [some (.ref 0), some (.ref 1), some (.int v2), some (.int (if v18 = (0 : Int32) then (if v25 = (0 : Int32) then (v3 + (1 : Int32)) else v3) else v3)), some (.int (if v18 = (0 : Int32) then v4 else (if v25 = (0 : Int32) then (v4 + (1 : Int32)) else v4))), some (.int v5), some (.int v6), some (.int (if v18 = (0 : Int32) then (v7 + (1 : Int32)) else v7)), some (.int (if v18 = (0 : Int32) then v8 else (v8 + (1 : Int32)))), some (.int (if v18 = (0 : Int32) then (if v25 = (0 : Int32) then v17 else v9) else v9)), some (.int (if v18 = (0 : Int32) then v10 else (if v25 = (0 : Int32) then v17 else v10))), some (.int (if v18 = (0 : Int32) then (if v25 = (0 : Int32) then v17 else v11) else v11)), some (.int (if v18 = (0 : Int32) then v12 else (if v25 = (0 : Int32) then v17 else v12))), some (.long v13), none, some (.int v15), none, some (.int v17), some (.int v18), none, none, none, none, none, some (.int v24), none, none] [] (W1 scr s []) out by
      by_cases hc185 : v18 = (0 : Int32)
      · refine Eval.ifF rfl (teq hc185).2 ?_
        refine Eval.iinc (L' := [some (.ref 0), some (.ref 1), some (.int v2), some (.int v3), some (.int v4), some (.int v5), some (.int v6), some (.int (v7 + (1 : Int32))), some (.int v8), some (.int v9), some (.int v10), some (.int v11), some (.int v12), some (.long v13), none, some (.int v15), none, some (.int v17), some (.int v18), none, none, none, none, none, some (.int v24), some (.int v25), none]) rfl rfl rfl ?_
        refine Eval.iload rfl rfl ?_
        by_cases hc186 : v25 = (0 : Int32)
        · refine Eval.ifF rfl (teq hc186).2 ?_
          refine Eval.iinc (L' := [some (.ref 0), some (.ref 1), some (.int v2), some (.int (v3 + (1 : Int32))), some (.int v4), some (.int v5), some (.int v6), some (.int (v7 + (1 : Int32))), some (.int v8), some (.int v9), some (.int v10), some (.int v11), some (.int v12), some (.long v13), none, some (.int v15), none, some (.int v17), some (.int v18), none, none, none, none, none, some (.int v24), some (.int v25), none]) rfl rfl rfl ?_
          refine Eval.iload rfl rfl ?_
          refine Eval.istore (L' := [some (.ref 0), some (.ref 1), some (.int v2), some (.int (v3 + (1 : Int32))), some (.int v4), some (.int v5), some (.int v6), some (.int (v7 + (1 : Int32))), some (.int v8), some (.int v17), some (.int v10), some (.int v11), some (.int v12), some (.long v13), none, some (.int v15), none, some (.int v17), some (.int v18), none, none, none, none, none, some (.int v24), some (.int v25), none]) rfl rfl ?_
          refine Eval.iload rfl rfl ?_
          refine Eval.istore (L' := [some (.ref 0), some (.ref 1), some (.int v2), some (.int (v3 + (1 : Int32))), some (.int v4), some (.int v5), some (.int v6), some (.int (v7 + (1 : Int32))), some (.int v8), some (.int v17), some (.int v10), some (.int v17), some (.int v12), some (.long v13), none, some (.int v15), none, some (.int v17), some (.int v18), none, none, none, none, none, some (.int v24), some (.int v25), none]) rfl rfl ?_
          refine Eval.goto (t := 295) rfl rfl ?_
          refine Eval.weak (L' := [some (.ref 0), some (.ref 1), some (.int v2), some (.int (v3 + (1 : Int32))), some (.int v4), some (.int v5), some (.int v6), some (.int (v7 + (1 : Int32))), some (.int v8), some (.int v17), some (.int v10), some (.int v17), some (.int v12), some (.long v13), none, some (.int v15), none, some (.int v17), some (.int v18), none, none, none, none, none, some (.int v24), none, none]) ⟨_, _, rfl, Or.inr rfl, _, _, rfl, Or.inr rfl, _, _, rfl, Or.inr rfl, _, _, rfl, Or.inr rfl, _, _, rfl, Or.inr rfl, _, _, rfl, Or.inr rfl, _, _, rfl, Or.inr rfl, _, _, rfl, Or.inr rfl, _, _, rfl, Or.inr rfl, _, _, rfl, Or.inr rfl, _, _, rfl, Or.inr rfl, _, _, rfl, Or.inr rfl, _, _, rfl, Or.inr rfl, _, _, rfl, Or.inr rfl, _, _, rfl, Or.inl rfl, _, _, rfl, Or.inr rfl, _, _, rfl, Or.inl rfl, _, _, rfl, Or.inr rfl, _, _, rfl, Or.inr rfl, _, _, rfl, Or.inl rfl, _, _, rfl, Or.inl rfl, _, _, rfl, Or.inl rfl, _, _, rfl, Or.inl rfl, _, _, rfl, Or.inl rfl, _, _, rfl, Or.inr rfl, _, _, rfl, Or.inl rfl, _, _, rfl, Or.inl rfl, rfl⟩ ?_
          exact (Eval.conv hJ188 (by simp only [if_pos hc185, if_pos hc186]) rfl)
        · refine Eval.ifT (t := 295) rfl rfl (feq hc186).2 ?_
          refine Eval.weak (L' := [some (.ref 0), some (.ref 1), some (.int v2), some (.int v3), some (.int v4), some (.int v5), some (.int v6), some (.int (v7 + (1 : Int32))), some (.int v8), some (.int v9), some (.int v10), some (.int v11), some (.int v12), some (.long v13), none, some (.int v15), none, some (.int v17), some (.int v18), none, none, none, none, none, some (.int v24), none, none]) ⟨_, _, rfl, Or.inr rfl, _, _, rfl, Or.inr rfl, _, _, rfl, Or.inr rfl, _, _, rfl, Or.inr rfl, _, _, rfl, Or.inr rfl, _, _, rfl, Or.inr rfl, _, _, rfl, Or.inr rfl, _, _, rfl, Or.inr rfl, _, _, rfl, Or.inr rfl, _, _, rfl, Or.inr rfl, _, _, rfl, Or.inr rfl, _, _, rfl, Or.inr rfl, _, _, rfl, Or.inr rfl, _, _, rfl, Or.inr rfl, _, _, rfl, Or.inl rfl, _, _, rfl, Or.inr rfl, _, _, rfl, Or.inl rfl, _, _, rfl, Or.inr rfl, _, _, rfl, Or.inr rfl, _, _, rfl, Or.inl rfl, _, _, rfl, Or.inl rfl, _, _, rfl, Or.inl rfl, _, _, rfl, Or.inl rfl, _, _, rfl, Or.inl rfl, _, _, rfl, Or.inr rfl, _, _, rfl, Or.inl rfl, _, _, rfl, Or.inl rfl, rfl⟩ ?_
          exact (Eval.conv hJ188 (by simp only [if_pos hc185, if_neg hc186]) rfl)
      · refine Eval.ifT (t := 276) rfl rfl (feq hc185).2 ?_
        refine Eval.iinc (L' := [some (.ref 0), some (.ref 1), some (.int v2), some (.int v3), some (.int v4), some (.int v5), some (.int v6), some (.int v7), some (.int (v8 + (1 : Int32))), some (.int v9), some (.int v10), some (.int v11), some (.int v12), some (.long v13), none, some (.int v15), none, some (.int v17), some (.int v18), none, none, none, none, none, some (.int v24), some (.int v25), none]) rfl rfl rfl ?_
        refine Eval.iload rfl rfl ?_
        by_cases hc187 : v25 = (0 : Int32)
        · refine Eval.ifF rfl (teq hc187).2 ?_
          refine Eval.iinc (L' := [some (.ref 0), some (.ref 1), some (.int v2), some (.int v3), some (.int (v4 + (1 : Int32))), some (.int v5), some (.int v6), some (.int v7), some (.int (v8 + (1 : Int32))), some (.int v9), some (.int v10), some (.int v11), some (.int v12), some (.long v13), none, some (.int v15), none, some (.int v17), some (.int v18), none, none, none, none, none, some (.int v24), some (.int v25), none]) rfl rfl rfl ?_
          refine Eval.iload rfl rfl ?_
          refine Eval.istore (L' := [some (.ref 0), some (.ref 1), some (.int v2), some (.int v3), some (.int (v4 + (1 : Int32))), some (.int v5), some (.int v6), some (.int v7), some (.int (v8 + (1 : Int32))), some (.int v9), some (.int v17), some (.int v11), some (.int v12), some (.long v13), none, some (.int v15), none, some (.int v17), some (.int v18), none, none, none, none, none, some (.int v24), some (.int v25), none]) rfl rfl ?_
          refine Eval.iload rfl rfl ?_
          refine Eval.istore (L' := [some (.ref 0), some (.ref 1), some (.int v2), some (.int v3), some (.int (v4 + (1 : Int32))), some (.int v5), some (.int v6), some (.int v7), some (.int (v8 + (1 : Int32))), some (.int v9), some (.int v17), some (.int v11), some (.int v17), some (.long v13), none, some (.int v15), none, some (.int v17), some (.int v18), none, none, none, none, none, some (.int v24), some (.int v25), none]) rfl rfl ?_
          refine Eval.weak (L' := [some (.ref 0), some (.ref 1), some (.int v2), some (.int v3), some (.int (v4 + (1 : Int32))), some (.int v5), some (.int v6), some (.int v7), some (.int (v8 + (1 : Int32))), some (.int v9), some (.int v17), some (.int v11), some (.int v17), some (.long v13), none, some (.int v15), none, some (.int v17), some (.int v18), none, none, none, none, none, some (.int v24), none, none]) ⟨_, _, rfl, Or.inr rfl, _, _, rfl, Or.inr rfl, _, _, rfl, Or.inr rfl, _, _, rfl, Or.inr rfl, _, _, rfl, Or.inr rfl, _, _, rfl, Or.inr rfl, _, _, rfl, Or.inr rfl, _, _, rfl, Or.inr rfl, _, _, rfl, Or.inr rfl, _, _, rfl, Or.inr rfl, _, _, rfl, Or.inr rfl, _, _, rfl, Or.inr rfl, _, _, rfl, Or.inr rfl, _, _, rfl, Or.inr rfl, _, _, rfl, Or.inl rfl, _, _, rfl, Or.inr rfl, _, _, rfl, Or.inl rfl, _, _, rfl, Or.inr rfl, _, _, rfl, Or.inr rfl, _, _, rfl, Or.inl rfl, _, _, rfl, Or.inl rfl, _, _, rfl, Or.inl rfl, _, _, rfl, Or.inl rfl, _, _, rfl, Or.inl rfl, _, _, rfl, Or.inr rfl, _, _, rfl, Or.inl rfl, _, _, rfl, Or.inl rfl, rfl⟩ ?_
          exact (Eval.conv hJ188 (by simp only [if_neg hc185, if_pos hc187]) rfl)
        · refine Eval.ifT (t := 295) rfl rfl (feq hc187).2 ?_
          refine Eval.weak (L' := [some (.ref 0), some (.ref 1), some (.int v2), some (.int v3), some (.int v4), some (.int v5), some (.int v6), some (.int v7), some (.int (v8 + (1 : Int32))), some (.int v9), some (.int v10), some (.int v11), some (.int v12), some (.long v13), none, some (.int v15), none, some (.int v17), some (.int v18), none, none, none, none, none, some (.int v24), none, none]) ⟨_, _, rfl, Or.inr rfl, _, _, rfl, Or.inr rfl, _, _, rfl, Or.inr rfl, _, _, rfl, Or.inr rfl, _, _, rfl, Or.inr rfl, _, _, rfl, Or.inr rfl, _, _, rfl, Or.inr rfl, _, _, rfl, Or.inr rfl, _, _, rfl, Or.inr rfl, _, _, rfl, Or.inr rfl, _, _, rfl, Or.inr rfl, _, _, rfl, Or.inr rfl, _, _, rfl, Or.inr rfl, _, _, rfl, Or.inr rfl, _, _, rfl, Or.inl rfl, _, _, rfl, Or.inr rfl, _, _, rfl, Or.inl rfl, _, _, rfl, Or.inr rfl, _, _, rfl, Or.inr rfl, _, _, rfl, Or.inl rfl, _, _, rfl, Or.inl rfl, _, _, rfl, Or.inl rfl, _, _, rfl, Or.inl rfl, _, _, rfl, Or.inl rfl, _, _, rfl, Or.inr rfl, _, _, rfl, Or.inl rfl, _, _, rfl, Or.inl rfl, rfl⟩ ?_
          exact (Eval.conv hJ188 (by simp only [if_neg hc185, if_neg hc187]) rfl)
    exact ev_law_b295 _ hrec s scr v2 (if v18 = (0 : Int32) then (if v25 = (0 : Int32) then (v3 + (1 : Int32)) else v3) else v3) (if v18 = (0 : Int32) then v4 else (if v25 = (0 : Int32) then (v4 + (1 : Int32)) else v4)) v5 v6 (if v18 = (0 : Int32) then (v7 + (1 : Int32)) else v7) (if v18 = (0 : Int32) then v8 else (v8 + (1 : Int32))) (if v18 = (0 : Int32) then (if v25 = (0 : Int32) then v17 else v9) else v9) (if v18 = (0 : Int32) then v10 else (if v25 = (0 : Int32) then v17 else v10)) (if v18 = (0 : Int32) then (if v25 = (0 : Int32) then v17 else v11) else v11) (if v18 = (0 : Int32) then v12 else (if v25 = (0 : Int32) then v17 else v12)) v13 v15 v17 v18 v24 h hk
  · rw [if_neg hc184] at h
    refine Eval.icmpF rfl (feq hc184).1 ?_
    cases h
    refine Eval.weak (L' := [none, none, none, none, none, none, none, none, none, none, none, none, none, none, none, none, none, none, none, none, none, none, none, none, none, none, none]) ⟨_, _, rfl, Or.inl rfl, _, _, rfl, Or.inl rfl, _, _, rfl, Or.inl rfl, _, _, rfl, Or.inl rfl, _, _, rfl, Or.inl rfl, _, _, rfl, Or.inl rfl, _, _, rfl, Or.inl rfl, _, _, rfl, Or.inl rfl, _, _, rfl, Or.inl rfl, _, _, rfl, Or.inl rfl, _, _, rfl, Or.inl rfl, _, _, rfl, Or.inl rfl, _, _, rfl, Or.inl rfl, _, _, rfl, Or.inl rfl, _, _, rfl, Or.inl rfl, _, _, rfl, Or.inl rfl, _, _, rfl, Or.inl rfl, _, _, rfl, Or.inl rfl, _, _, rfl, Or.inl rfl, _, _, rfl, Or.inl rfl, _, _, rfl, Or.inl rfl, _, _, rfl, Or.inl rfl, _, _, rfl, Or.inl rfl, _, _, rfl, Or.inl rfl, _, _, rfl, Or.inl rfl, _, _, rfl, Or.inl rfl, _, _, rfl, Or.inl rfl, rfl⟩ ?_
    exact hk
def law_b230 (go_ : Q → List Int32 → Int32 → Int32 → Int32 → Int32 → Int32 → Int32 → Int32 → Int32 → Int32 → Int32 → Int32 → Int64 → Int32 → Option ((Q) ⊕ ((Q) ⊕ ((Q) ⊕ ((Q) ⊕ ((Q) ⊕ ((Q) ⊕ ((Q) ⊕ ((Q) ⊕ ((Q) ⊕ ((Q) ⊕ ((Q) ⊕ ((Q) ⊕ ((Q) ⊕ ((Q) ⊕ ((Q) ⊕ ((Q) ⊕ ((Q) ⊕ (Q))))))))))))))))))) (s : Q) (scr : List Int32) (v2 : Int32) (v3 : Int32) (v4 : Int32) (v5 : Int32) (v6 : Int32) (v7 : Int32) (v8 : Int32) (v9 : Int32) (v10 : Int32) (v11 : Int32) (v12 : Int32) (v13 : Int64) (v15 : Int32) (v17 : Int32) (v18 : Int32) (v24 : Int32) (w0 : Int32) : Option ((Q) ⊕ ((Q) ⊕ ((Q) ⊕ ((Q) ⊕ ((Q) ⊕ ((Q) ⊕ ((Q) ⊕ ((Q) ⊕ ((Q) ⊕ ((Q) ⊕ ((Q) ⊕ ((Q) ⊕ ((Q) ⊕ ((Q) ⊕ ((Q) ⊕ ((Q) ⊕ ((Q) ⊕ (Q)))))))))))))))))) := (law_b244 (go_) s scr v2 v3 v4 v5 v6 v7 v8 v9 v10 v11 v12 v13 v15 v17 v18 v24 w0 v24 (if w0 = (0 : Int32) then (3 : Int32) else (1 : Int32)))
set_option maxRecDepth 100000 in
theorem ev_law_b230 (go_ : Q → List Int32 → Int32 → Int32 → Int32 → Int32 → Int32 → Int32 → Int32 → Int32 → Int32 → Int32 → Int32 → Int64 → Int32 → Option ((Q) ⊕ ((Q) ⊕ ((Q) ⊕ ((Q) ⊕ ((Q) ⊕ ((Q) ⊕ ((Q) ⊕ ((Q) ⊕ ((Q) ⊕ ((Q) ⊕ ((Q) ⊕ ((Q) ⊕ ((Q) ⊕ ((Q) ⊕ ((Q) ⊕ ((Q) ⊕ ((Q) ⊕ (Q))))))))))))))))))) (hrec : ∀ (s : Q) (scr : List Int32) (v2 : Int32) (v3 : Int32) (v4 : Int32) (v5 : Int32) (v6 : Int32) (v7 : Int32) (v8 : Int32) (v9 : Int32) (v10 : Int32) (v11 : Int32) (v12 : Int32) (v13 : Int64) (v15 : Int32) {res : (Q) ⊕ ((Q) ⊕ ((Q) ⊕ ((Q) ⊕ ((Q) ⊕ ((Q) ⊕ ((Q) ⊕ ((Q) ⊕ ((Q) ⊕ ((Q) ⊕ ((Q) ⊕ ((Q) ⊕ ((Q) ⊕ ((Q) ⊕ ((Q) ⊕ ((Q) ⊕ ((Q) ⊕ (Q)))))))))))))))))} {out : Option Value × AHeap}, go_ s scr v2 v3 v4 v5 v6 v7 v8 v9 v10 v11 v12 v13 v15 = some res → law_l46_K scr res out → Eval own_P 0 46 [some (.ref 0), some (.ref 1), some (.int v2), some (.int v3), some (.int v4), some (.int v5), some (.int v6), some (.int v7), some (.int v8), some (.int v9), some (.int v10), some (.int v11), some (.int v12), some (.long v13), none, some (.int v15), none, none, none, none, none, none, none, none, none, none, none] [] (W1 scr s []) out) (s : Q) (scr : List Int32) (v2 : Int32) (v3 : Int32) (v4 : Int32) (v5 : Int32) (v6 : Int32) (v7 : Int32) (v8 : Int32) (v9 : Int32) (v10 : Int32) (v11 : Int32) (v12 : Int32) (v13 : Int64) (v15 : Int32) (v17 : Int32) (v18 : Int32) (v24 : Int32) (w0 : Int32) {res : (Q) ⊕ ((Q) ⊕ ((Q) ⊕ ((Q) ⊕ ((Q) ⊕ ((Q) ⊕ ((Q) ⊕ ((Q) ⊕ ((Q) ⊕ ((Q) ⊕ ((Q) ⊕ ((Q) ⊕ ((Q) ⊕ ((Q) ⊕ ((Q) ⊕ ((Q) ⊕ ((Q) ⊕ (Q)))))))))))))))))} {out : Option Value × AHeap} (h : law_b230 go_ s scr v2 v3 v4 v5 v6 v7 v8 v9 v10 v11 v12 v13 v15 v17 v18 v24 w0 = some res) (hk : law_l46_K scr res out) : Eval own_P 0 230 [some (.ref 0), some (.ref 1), some (.int v2), some (.int v3), some (.int v4), some (.int v5), some (.int v6), some (.int v7), some (.int v8), some (.int v9), some (.int v10), some (.int v11), some (.int v12), some (.long v13), none, some (.int v15), none, some (.int v17), some (.int v18), none, none, none, none, none, some (.int v24), none, none] [.int w0] (W1 scr s []) out := by
  rw [law_b230] at h
  refine Eval.istore (L' := [some (.ref 0), some (.ref 1), some (.int v2), some (.int v3), some (.int v4), some (.int v5), some (.int v6), some (.int v7), some (.int v8), some (.int v9), some (.int v10), some (.int v11), some (.int v12), some (.long v13), none, some (.int v15), none, some (.int v17), some (.int v18), none, none, none, none, none, some (.int v24), some (.int w0), none]) rfl rfl ?_
  refine Eval.iload rfl rfl ?_
  refine Eval.iload rfl rfl ?_
  suffices hJ183 : Eval own_P 0 244 [some (.ref 0), some (.ref 1), some (.int v2), some (.int v3), some (.int v4), some (.int v5), some (.int v6), some (.int v7), some (.int v8), some (.int v9), some (.int v10), some (.int v11), some (.int v12), some (.long v13), none, some (.int v15), none, some (.int v17), some (.int v18), none, none, none, none, none, some (.int v24), some (.int w0), none] [.int (if w0 = (0 : Int32) then (3 : Int32) else (1 : Int32)), .int v24] (W1 scr s []) out by
    by_cases hc182 : w0 = (0 : Int32)
    · refine Eval.ifF rfl (teq hc182).2 ?_
      refine Eval.iconst (x := (3 : Int32)) rfl rfl ?_
      refine Eval.goto (t := 244) rfl rfl ?_
      exact (Eval.conv hJ183 rfl (by simp only [if_pos hc182]))
    · refine Eval.ifT (t := 243) rfl rfl (feq hc182).2 ?_
      refine Eval.iconst (x := (1 : Int32)) rfl rfl ?_
      exact (Eval.conv hJ183 rfl (by simp only [if_neg hc182]))
  exact ev_law_b244 _ hrec s scr v2 v3 v4 v5 v6 v7 v8 v9 v10 v11 v12 v13 v15 v17 v18 v24 w0 v24 (if w0 = (0 : Int32) then (3 : Int32) else (1 : Int32)) h hk
def j_popFront_b85 (s : Q) (v1 : Int32) (v3 : Int32) : Option (Int32 × Q) := (if inb s.f_len.length v1 = true then (if inb s.f_len.length v1 = true then some (v3, (Q.mk s.f_st s.f_lk s.f_tmo s.f_spin s.f_nxt0 s.f_prv1 s.f_head s.f_tail (wr s.f_len v1 ((rd s.f_len v1) - (1 : Int32))) s.f_ent s.f_aband s.f_log s.f_hist s.f_n s.f_clk)) else none) else none)
theorem ln_j_popFront_b85 {s : Q} {v1 : Int32} {v3 : Int32} {res : Int32 × Q} (h : j_popFront_b85 s v1 v3 = some res) : Q.len res.2 = Q.len s := by
  rw [j_popFront_b85] at h
  obtain ⟨hb213, h⟩ := ite_some h
  obtain ⟨hb214, h⟩ := ite_some h
  have hr0 := Option.some.inj h
  subst hr0
  show Q.len (Q.mk s.f_st s.f_lk s.f_tmo s.f_spin s.f_nxt0 s.f_prv1 s.f_head s.f_tail (wr s.f_len v1 ((rd s.f_len v1) - (1 : Int32))) s.f_ent s.f_aband s.f_log s.f_hist s.f_n s.f_clk) = _
  exact (Eq.trans (show Q.len (Q.mk s.f_st s.f_lk s.f_tmo s.f_spin s.f_nxt0 s.f_prv1 s.f_head s.f_tail (wr s.f_len v1 ((rd s.f_len v1) - (1 : Int32))) s.f_ent s.f_aband s.f_log s.f_hist s.f_n s.f_clk) = Q.len s from own_lenmk.trans (by first | (simp only [len_wr, len_wrL] <;> rfl) | rfl)) rfl)
set_option maxRecDepth 100000 in
theorem ev_j_popFront_b85 (R : AHeap) (scr : List Int32) (s : Q) (v1 : Int32) (v3 : Int32) {res : Int32 × Q} {out : Option Value × AHeap} (h : j_popFront_b85 s v1 v3 = some res) (hk : out = (some (.int res.1), (W1 scr res.2 R))) : Eval own_P 22 85 [some (.ref 1), some (.int v1), none, some (.int v3)] [] (W1 scr s R) out := by
  rw [j_popFront_b85] at h
  refine Eval.aload_n rfl rfl ?_
  refine Eval.getfield rfl rfl own_g1_len ?_
  refine Eval.iload_n rfl rfl ?_
  refine Eval.aload_n rfl rfl ?_
  refine Eval.getfield rfl rfl own_g1_len ?_
  refine Eval.iload_n rfl rfl ?_
  obtain ⟨hb213, h⟩ := ite_some h
  refine Eval.iaload rfl own_a1_len hb213 ?_
  refine Eval.iconst (x := (1 : Int32)) rfl rfl ?_
  refine Eval.isub rfl ?_
  obtain ⟨hb214, h⟩ := ite_some h
  refine Eval.iastore rfl rfl own_a1_len hb214 own_s1_len ?_
  refine Eval.iload_n rfl rfl ?_
  cases h
  subst hk
  exact Eval.retH own_mk1 rfl rfl
def j_popFront_b66 (s : Q) (v1 : Int32) (v3 : Int32) : Option (Int32 × Q) := (if inb s.f_head.length v1 = true then (if v3 = (-1 : Int32) then (if inb s.f_tail.length v1 = true then (j_popFront_b85 (Q.mk s.f_st s.f_lk s.f_tmo s.f_spin s.f_nxt0 s.f_prv1 (wr s.f_head v1 v3) (wr s.f_tail v1 (-1 : Int32)) s.f_len s.f_ent s.f_aband s.f_log s.f_hist s.f_n s.f_clk) v1 v3) else none) else (j_popFront_b85 (Q.mk s.f_st s.f_lk s.f_tmo s.f_spin s.f_nxt0 s.f_prv1 (wr s.f_head v1 v3) s.f_tail s.f_len s.f_ent s.f_aband s.f_log s.f_hist s.f_n s.f_clk) v1 v3)) else none)
theorem ln_j_popFront_b66 {s : Q} {v1 : Int32} {v3 : Int32} {res : Int32 × Q} (h : j_popFront_b66 s v1 v3 = some res) : Q.len res.2 = Q.len s := by
  rw [j_popFront_b66] at h
  obtain ⟨hb209, h⟩ := ite_some h
  by_cases hc211 : v3 = (-1 : Int32)
  · rw [if_pos hc211] at h
    obtain ⟨hb212, h⟩ := ite_some h
    exact Eq.trans (ln_j_popFront_b85 h) (Eq.trans (show Q.len (Q.mk s.f_st s.f_lk s.f_tmo s.f_spin s.f_nxt0 s.f_prv1 (wr s.f_head v1 v3) (wr s.f_tail v1 (-1 : Int32)) s.f_len s.f_ent s.f_aband s.f_log s.f_hist s.f_n s.f_clk) = Q.len s from own_lenmk.trans (by first | (simp only [len_wr, len_wrL] <;> rfl) | rfl)) rfl)
  · rw [if_neg hc211] at h
    exact Eq.trans (ln_j_popFront_b85 h) (Eq.trans (show Q.len (Q.mk s.f_st s.f_lk s.f_tmo s.f_spin s.f_nxt0 s.f_prv1 (wr s.f_head v1 v3) s.f_tail s.f_len s.f_ent s.f_aband s.f_log s.f_hist s.f_n s.f_clk) = Q.len s from own_lenmk.trans (by first | (simp only [len_wr, len_wrL] <;> rfl) | rfl)) rfl)
set_option maxRecDepth 100000 in
theorem ev_j_popFront_b66 (R : AHeap) (scr : List Int32) (s : Q) (v1 : Int32) (v3 : Int32) {res : Int32 × Q} {out : Option Value × AHeap} (h : j_popFront_b66 s v1 v3 = some res) (hk : out = (some (.int res.1), (W1 scr res.2 R))) : Eval own_P 22 66 [some (.ref 1), some (.int v1), none, some (.int v3)] [] (W1 scr s R) out := by
  rw [j_popFront_b66] at h
  refine Eval.aload_n rfl rfl ?_
  refine Eval.getfield rfl rfl own_g1_head ?_
  refine Eval.iload_n rfl rfl ?_
  refine Eval.iload_n rfl rfl ?_
  obtain ⟨hb209, h⟩ := ite_some h
  refine Eval.iastore rfl rfl own_a1_head hb209 own_s1_head ?_
  refine Eval.iload_n rfl rfl ?_
  refine Eval.iconst (x := (-1 : Int32)) rfl rfl ?_
  by_cases hc211 : v3 = (-1 : Int32)
  · rw [if_pos hc211] at h
    refine Eval.icmpF rfl (teq hc211).2 ?_
    refine Eval.aload_n rfl rfl ?_
    refine Eval.getfield rfl rfl own_g1_tail ?_
    refine Eval.iload_n rfl rfl ?_
    refine Eval.iconst (x := (-1 : Int32)) rfl rfl ?_
    obtain ⟨hb212, h⟩ := ite_some h
    refine Eval.iastore rfl rfl own_a1_tail hb212 own_s1_tail ?_
    refine Eval.heap own_mk1 ?_
    exact ev_j_popFront_b85 R scr (Q.mk s.f_st s.f_lk s.f_tmo s.f_spin s.f_nxt0 s.f_prv1 (wr s.f_head v1 v3) (wr s.f_tail v1 (-1 : Int32)) s.f_len s.f_ent s.f_aband s.f_log s.f_hist s.f_n s.f_clk) v1 v3 h hk
  · rw [if_neg hc211] at h
    refine Eval.icmpT (t := 85) rfl rfl (feq hc211).2 ?_
    refine Eval.heap own_mk1 ?_
    exact ev_j_popFront_b85 R scr (Q.mk s.f_st s.f_lk s.f_tmo s.f_spin s.f_nxt0 s.f_prv1 (wr s.f_head v1 v3) s.f_tail s.f_len s.f_ent s.f_aband s.f_log s.f_hist s.f_n s.f_clk) v1 v3 h hk
abbrev j_successorClh_l2_K (R : AHeap) (scr : List Int32) (s : Q) (res : (Int32) ⊕ (Unit)) (out : Option Value × AHeap) : Prop := Sum.elim (fun res => Eval own_P 23 44 [none, none, some (.int res)] [] (W1 scr s R) out) (fun res => Eval own_P 23 52 [none, none, none] [] (W1 scr s R) out) res

def j_successorClh_b46 (go_ : Q → Int32 → Int32 → Option ((Int32) ⊕ (Unit))) (s : Q) (v1 : Int32) (v2 : Int32) : Option ((Int32) ⊕ (Unit)) := (go_ s v1 (v2 + (1 : Int32)))
set_option maxRecDepth 100000 in
theorem ev_j_successorClh_b46 (R : AHeap) (scr : List Int32) (go_ : Q → Int32 → Int32 → Option ((Int32) ⊕ (Unit))) (hrec : ∀ (s : Q) (v1 : Int32) (v2 : Int32) {res : (Int32) ⊕ (Unit)} {out : Option Value × AHeap}, go_ s v1 v2 = some res → j_successorClh_l2_K R scr s res out → Eval own_P 23 2 [some (.ref 1), some (.int v1), some (.int v2)] [] (W1 scr s R) out) (s : Q) (v1 : Int32) (v2 : Int32) {res : (Int32) ⊕ (Unit)} {out : Option Value × AHeap} (h : j_successorClh_b46 go_ s v1 v2 = some res) (hk : j_successorClh_l2_K R scr s res out) : Eval own_P 23 46 [some (.ref 1), some (.int v1), some (.int v2)] [] (W1 scr s R) out := by
  rw [j_successorClh_b46] at h
  refine Eval.iinc (L' := [some (.ref 1), some (.int v1), some (.int (v2 + (1 : Int32)))]) rfl rfl rfl ?_
  refine Eval.goto (t := 2) rfl rfl ?_
  exact hrec _ _ _ h hk
def j_successorClh_l2 : Nat → Q → Int32 → Int32 → Option ((Int32) ⊕ (Unit))
  | 0, _, _, _ => none
  | n + 1, s, v1, v2 => (if v2 < s.f_n then (if v2 = v1 then (j_successorClh_b46 (j_successorClh_l2 n) s v1 v2) else (if inb s.f_lk.length v2 = true then (if (rd s.f_lk v2) = (1 : Int32) then (if inb s.f_st.length v2 = true then (if (rd s.f_st v2) = (0 : Int32) then (j_successorClh_b46 (j_successorClh_l2 n) s v1 v2) else (if inb s.f_prv1.length v2 = true then (if (rd s.f_prv1 v2) = v1 then some (.inl (v2)) else (j_successorClh_b46 (j_successorClh_l2 n) s v1 v2)) else none)) else none) else (j_successorClh_b46 (j_successorClh_l2 n) s v1 v2)) else none)) else some (.inr ()))
set_option maxRecDepth 100000 in
theorem ev_j_successorClh_l2 (R : AHeap) (scr : List Int32) : ∀ (n : Nat) (s : Q) (v1 : Int32) (v2 : Int32) {res : (Int32) ⊕ (Unit)} {out : Option Value × AHeap}, j_successorClh_l2 n s v1 v2 = some res → j_successorClh_l2_K R scr s res out → Eval own_P 23 2 [some (.ref 1), some (.int v1), some (.int v2)] [] (W1 scr s R) out := by
  intro n
  induction n with
  | zero => intro _ _ _ res out h hk; cases h
  | succ n hrec =>
    intro s v1 v2 res out h hk
    rw [j_successorClh_l2] at h
    refine Eval.iload_n rfl rfl ?_
    refine Eval.aload_n rfl rfl ?_
    refine Eval.getfield rfl rfl own_g1_n ?_
    by_cases hc215 : v2 < s.f_n
    · rw [if_pos hc215] at h
      refine Eval.icmpF rfl (tlt hc215).2.1 ?_
      refine Eval.iload_n rfl rfl ?_
      refine Eval.iload_n rfl rfl ?_
      by_cases hc216 : v2 = v1
      · rw [if_pos hc216] at h
        refine Eval.icmpT (t := 46) rfl rfl (teq hc216).1 ?_
        exact ev_j_successorClh_b46 R scr _ hrec s v1 v2 h hk
      · rw [if_neg hc216] at h
        refine Eval.icmpF rfl (feq hc216).1 ?_
        refine Eval.aload_n rfl rfl ?_
        refine Eval.getfield rfl rfl own_g1_lk ?_
        refine Eval.iload_n rfl rfl ?_
        obtain ⟨hb217, h⟩ := ite_some h
        refine Eval.iaload rfl own_a1_lk hb217 ?_
        refine Eval.iconst (x := (1 : Int32)) rfl rfl ?_
        by_cases hc218 : (rd s.f_lk v2) = (1 : Int32)
        · rw [if_pos hc218] at h
          refine Eval.icmpF rfl (teq hc218).2 ?_
          refine Eval.aload_n rfl rfl ?_
          refine Eval.getfield rfl rfl own_g1_st ?_
          refine Eval.iload_n rfl rfl ?_
          obtain ⟨hb219, h⟩ := ite_some h
          refine Eval.iaload rfl own_a1_st hb219 ?_
          by_cases hc220 : (rd s.f_st v2) = (0 : Int32)
          · rw [if_pos hc220] at h
            refine Eval.ifT (t := 46) rfl rfl (teq hc220).1 ?_
            exact ev_j_successorClh_b46 R scr _ hrec s v1 v2 h hk
          · rw [if_neg hc220] at h
            refine Eval.ifF rfl (feq hc220).1 ?_
            refine Eval.aload_n rfl rfl ?_
            refine Eval.getfield rfl rfl own_g1_prv1 ?_
            refine Eval.iload_n rfl rfl ?_
            obtain ⟨hb221, h⟩ := ite_some h
            refine Eval.iaload rfl own_a1_prv1 hb221 ?_
            refine Eval.iload_n rfl rfl ?_
            by_cases hc222 : (rd s.f_prv1 v2) = v1
            · rw [if_pos hc222] at h
              refine Eval.icmpF rfl (teq hc222).2 ?_
              cases h
              refine Eval.weak (L' := [none, none, some (.int v2)]) ⟨_, _, rfl, Or.inl rfl, _, _, rfl, Or.inl rfl, _, _, rfl, Or.inr rfl, rfl⟩ ?_
              exact hk
            · rw [if_neg hc222] at h
              refine Eval.icmpT (t := 46) rfl rfl (feq hc222).2 ?_
              exact ev_j_successorClh_b46 R scr _ hrec s v1 v2 h hk
        · rw [if_neg hc218] at h
          refine Eval.icmpT (t := 46) rfl rfl (feq hc218).2 ?_
          exact ev_j_successorClh_b46 R scr _ hrec s v1 v2 h hk
    · rw [if_neg hc215] at h
      refine Eval.icmpT (t := 52) rfl rfl (flt hc215).2.1 ?_
      cases h
      refine Eval.weak (L' := [none, none, none]) ⟨_, _, rfl, Or.inl rfl, _, _, rfl, Or.inl rfl, _, _, rfl, Or.inl rfl, rfl⟩ ?_
      exact hk
def j_successorClh (s : Q) (v1 : Int32) : Option (Int32) := ((j_successorClh_l2 3000 s v1 (0 : Int32)).bind fun p223 => Sum.elim (fun p225 => some (p225)) (fun p226 => some ((-1 : Int32))) p223)
set_option maxRecDepth 100000 in
theorem ev_j_successorClh (R : AHeap) (scr : List Int32) (s : Q) (v1 : Int32) {res : Int32} {out : Option Value × AHeap} (h : j_successorClh s v1 = some res) (hk : out = (some (.int res), (W1 scr s R))) : Eval own_P 23 0 [some (.ref 1), some (.int v1), none] [] (W1 scr s R) out := by
  rw [j_successorClh] at h
  refine Eval.iconst (x := (0 : Int32)) rfl rfl ?_
  refine Eval.istore_n (L' := [some (.ref 1), some (.int v1), some (.int (0 : Int32))]) rfl rfl ?_
  obtain ⟨p223, hq224, h⟩ := bind_some h
  rcases p223 with p225 | p226
  · dsimp only [Sum.elim] at h
    refine ev_j_successorClh_l2 R scr _ s v1 (0 : Int32) hq224 ?_
    show Eval own_P 23 44 [none, none, some (.int p225)] [] (W1 scr s R) out
    refine Eval.iload_n rfl rfl ?_
    cases h
    subst hk
    exact Eval.ret rfl rfl
  · dsimp only [Sum.elim] at h
    refine ev_j_successorClh_l2 R scr _ s v1 (0 : Int32) hq224 ?_
    show Eval own_P 23 52 [none, none, none] [] (W1 scr s R) out
    refine Eval.iconst (x := (-1 : Int32)) rfl rfl ?_
    cases h
    subst hk
    exact Eval.ret rfl rfl
def j_popFront_b59 (s : Q) (v1 : Int32) (v2 : Int32) (v3 : Int32) : Option (Int32 × Q) := (if inb s.f_prv1.length v2 = true then (j_popFront_b66 (Q.mk s.f_st s.f_lk s.f_tmo s.f_spin s.f_nxt0 (wr s.f_prv1 v2 (-1 : Int32)) s.f_head s.f_tail s.f_len s.f_ent s.f_aband s.f_log s.f_hist s.f_n s.f_clk) v1 v3) else none)
theorem ln_j_popFront_b59 {s : Q} {v1 : Int32} {v2 : Int32} {v3 : Int32} {res : Int32 × Q} (h : j_popFront_b59 s v1 v2 v3 = some res) : Q.len res.2 = Q.len s := by
  rw [j_popFront_b59] at h
  obtain ⟨hb231, h⟩ := ite_some h
  exact Eq.trans (ln_j_popFront_b66 h) (Eq.trans (show Q.len (Q.mk s.f_st s.f_lk s.f_tmo s.f_spin s.f_nxt0 (wr s.f_prv1 v2 (-1 : Int32)) s.f_head s.f_tail s.f_len s.f_ent s.f_aband s.f_log s.f_hist s.f_n s.f_clk) = Q.len s from own_lenmk.trans (by first | (simp only [len_wr, len_wrL] <;> rfl) | rfl)) rfl)
set_option maxRecDepth 100000 in
theorem ev_j_popFront_b59 (R : AHeap) (scr : List Int32) (s : Q) (v1 : Int32) (v2 : Int32) (v3 : Int32) {res : Int32 × Q} {out : Option Value × AHeap} (h : j_popFront_b59 s v1 v2 v3 = some res) (hk : out = (some (.int res.1), (W1 scr res.2 R))) : Eval own_P 22 59 [some (.ref 1), some (.int v1), some (.int v2), some (.int v3)] [] (W1 scr s R) out := by
  rw [j_popFront_b59] at h
  refine Eval.aload_n rfl rfl ?_
  refine Eval.getfield rfl rfl own_g1_prv1 ?_
  refine Eval.iload_n rfl rfl ?_
  refine Eval.iconst (x := (-1 : Int32)) rfl rfl ?_
  obtain ⟨hb231, h⟩ := ite_some h
  refine Eval.iastore rfl rfl own_a1_prv1 hb231 own_s1_prv1 ?_
  refine Eval.heap own_mk1 ?_
  refine Eval.weak (L' := [some (.ref 1), some (.int v1), none, some (.int v3)]) ⟨_, _, rfl, Or.inr rfl, _, _, rfl, Or.inr rfl, _, _, rfl, Or.inl rfl, _, _, rfl, Or.inr rfl, rfl⟩ ?_
  exact ev_j_popFront_b66 R scr (Q.mk s.f_st s.f_lk s.f_tmo s.f_spin s.f_nxt0 (wr s.f_prv1 v2 (-1 : Int32)) s.f_head s.f_tail s.f_len s.f_ent s.f_aband s.f_log s.f_hist s.f_n s.f_clk) v1 v3 h hk
def j_popFront (s : Q) (v1 : Int32) : Option (Int32 × Q) := (if inb s.f_head.length v1 = true then (if (j_inNodes (rd s.f_head v1)) = (0 : Int32) then some ((-1 : Int32), s) else (if v1 = (0 : Int32) then (if inb s.f_nxt0.length (rd s.f_head v1) = true then (if inb s.f_nxt0.length (rd s.f_head v1) = true then (j_popFront_b66 (Q.mk s.f_st s.f_lk s.f_tmo s.f_spin (wr s.f_nxt0 (rd s.f_head v1) (-1 : Int32)) s.f_prv1 s.f_head s.f_tail s.f_len s.f_ent s.f_aband s.f_log s.f_hist s.f_n s.f_clk) v1 (rd s.f_nxt0 (rd s.f_head v1))) else none) else none) else ((j_successorClh s (rd s.f_head v1)).bind fun p227 => (if (j_inNodes p227) = (0 : Int32) then (j_popFront_b59 s v1 (rd s.f_head v1) p227) else (if inb s.f_prv1.length p227 = true then (j_popFront_b59 (Q.mk s.f_st s.f_lk s.f_tmo s.f_spin s.f_nxt0 (wr s.f_prv1 p227 (-1 : Int32)) s.f_head s.f_tail s.f_len s.f_ent s.f_aband s.f_log s.f_hist s.f_n s.f_clk) v1 (rd s.f_head v1) p227) else none))))) else none)
theorem ln_j_popFront {s : Q} {v1 : Int32} {res : Int32 × Q} (h : j_popFront s v1 = some res) : Q.len res.2 = Q.len s := by
  rw [j_popFront] at h
  obtain ⟨hb203, h⟩ := ite_some h
  by_cases hc204 : (j_inNodes (rd s.f_head v1)) = (0 : Int32)
  · rw [if_pos hc204] at h
    have hr0 := Option.some.inj h
    subst hr0
    show Q.len s = _
    exact rfl
  · rw [if_neg hc204] at h
    by_cases hc206 : v1 = (0 : Int32)
    · rw [if_pos hc206] at h
      obtain ⟨hb207, h⟩ := ite_some h
      obtain ⟨hb208, h⟩ := ite_some h
      exact Eq.trans (ln_j_popFront_b66 h) (Eq.trans (show Q.len (Q.mk s.f_st s.f_lk s.f_tmo s.f_spin (wr s.f_nxt0 (rd s.f_head v1) (-1 : Int32)) s.f_prv1 s.f_head s.f_tail s.f_len s.f_ent s.f_aband s.f_log s.f_hist s.f_n s.f_clk) = Q.len s from own_lenmk.trans (by first | (simp only [len_wr, len_wrL] <;> rfl) | rfl)) rfl)
    · rw [if_neg hc206] at h
      obtain ⟨p227, hq228, h⟩ := bind_some h
      by_cases hc230 : (j_inNodes p227) = (0 : Int32)
      · rw [if_pos hc230] at h
        exact Eq.trans (ln_j_popFront_b59 h) rfl
      · rw [if_neg hc230] at h
        obtain ⟨hb232, h⟩ := ite_some h
        exact Eq.trans (ln_j_popFront_b59 h) (Eq.trans (show Q.len (Q.mk s.f_st s.f_lk s.f_tmo s.f_spin s.f_nxt0 (wr s.f_prv1 p227 (-1 : Int32)) s.f_head s.f_tail s.f_len s.f_ent s.f_aband s.f_log s.f_hist s.f_n s.f_clk) = Q.len s from own_lenmk.trans (by first | (simp only [len_wr, len_wrL] <;> rfl) | rfl)) rfl)
set_option maxRecDepth 100000 in
theorem ev_j_popFront (R : AHeap) (scr : List Int32) (s : Q) (v1 : Int32) {res : Int32 × Q} {out : Option Value × AHeap} (h : j_popFront s v1 = some res) (hk : out = (some (.int res.1), (W1 scr res.2 R))) : Eval own_P 22 0 [some (.ref 1), some (.int v1), none, none] [] (W1 scr s R) out := by
  rw [j_popFront] at h
  refine Eval.aload_n rfl rfl ?_
  refine Eval.getfield rfl rfl own_g1_head ?_
  refine Eval.iload_n rfl rfl ?_
  obtain ⟨hb203, h⟩ := ite_some h
  refine Eval.iaload rfl own_a1_head hb203 ?_
  refine Eval.istore_n (L' := [some (.ref 1), some (.int v1), some (.int (rd s.f_head v1)), none]) rfl rfl ?_
  refine Eval.aload_n rfl rfl ?_
  refine Eval.iload_n rfl rfl ?_
  refine Eval.callI (rest := []) (x := (j_inNodes (rd s.f_head v1))) (H1 := (W1 scr s R)) rfl rfl (ev_j_inNodes (W1 scr s R) 1 (rd s.f_head v1) rfl rfl) ?_
  by_cases hc204 : (j_inNodes (rd s.f_head v1)) = (0 : Int32)
  · rw [if_pos hc204] at h
    refine Eval.ifF rfl (teq hc204).2 ?_
    refine Eval.iconst (x := (-1 : Int32)) rfl rfl ?_
    cases h
    subst hk
    exact Eval.ret rfl rfl
  · rw [if_neg hc204] at h
    refine Eval.ifT (t := 17) rfl rfl (feq hc204).2 ?_
    refine Eval.iload_n rfl rfl ?_
    by_cases hc206 : v1 = (0 : Int32)
    · rw [if_pos hc206] at h
      refine Eval.ifF rfl (teq hc206).2 ?_
      refine Eval.aload_n rfl rfl ?_
      refine Eval.getfield rfl rfl own_g1_nxt0 ?_
      refine Eval.iload_n rfl rfl ?_
      obtain ⟨hb207, h⟩ := ite_some h
      refine Eval.iaload rfl own_a1_nxt0 hb207 ?_
      refine Eval.istore_n (L' := [some (.ref 1), some (.int v1), some (.int (rd s.f_head v1)), some (.int (rd s.f_nxt0 (rd s.f_head v1)))]) rfl rfl ?_
      refine Eval.aload_n rfl rfl ?_
      refine Eval.getfield rfl rfl own_g1_nxt0 ?_
      refine Eval.iload_n rfl rfl ?_
      refine Eval.iconst (x := (-1 : Int32)) rfl rfl ?_
      obtain ⟨hb208, h⟩ := ite_some h
      refine Eval.iastore rfl rfl own_a1_nxt0 hb208 own_s1_nxt0 ?_
      refine Eval.goto (t := 66) rfl rfl ?_
      refine Eval.heap own_mk1 ?_
      refine Eval.weak (L' := [some (.ref 1), some (.int v1), none, some (.int (rd s.f_nxt0 (rd s.f_head v1)))]) ⟨_, _, rfl, Or.inr rfl, _, _, rfl, Or.inr rfl, _, _, rfl, Or.inl rfl, _, _, rfl, Or.inr rfl, rfl⟩ ?_
      exact ev_j_popFront_b66 R scr (Q.mk s.f_st s.f_lk s.f_tmo s.f_spin (wr s.f_nxt0 (rd s.f_head v1) (-1 : Int32)) s.f_prv1 s.f_head s.f_tail s.f_len s.f_ent s.f_aband s.f_log s.f_hist s.f_n s.f_clk) v1 (rd s.f_nxt0 (rd s.f_head v1)) h hk
    · rw [if_neg hc206] at h
      refine Eval.ifT (t := 38) rfl rfl (feq hc206).2 ?_
      refine Eval.aload_n rfl rfl ?_
      refine Eval.iload_n rfl rfl ?_
      obtain ⟨p227, hq228, h⟩ := bind_some h
      refine Eval.callI (rest := []) (x := p227) (H1 := (W1 scr s R)) rfl rfl (ev_j_successorClh R scr s (rd s.f_head v1) hq228 rfl) ?_
      refine Eval.istore_n (L' := [some (.ref 1), some (.int v1), some (.int (rd s.f_head v1)), some (.int p227)]) rfl rfl ?_
      refine Eval.aload_n rfl rfl ?_
      refine Eval.iload_n rfl rfl ?_
      refine Eval.callI (rest := []) (x := (j_inNodes p227)) (H1 := (W1 scr s R)) rfl rfl (ev_j_inNodes (W1 scr s R) 1 p227 rfl rfl) ?_
      by_cases hc230 : (j_inNodes p227) = (0 : Int32)
      · rw [if_pos hc230] at h
        refine Eval.ifT (t := 59) rfl rfl (teq hc230).1 ?_
        exact ev_j_popFront_b59 R scr s v1 (rd s.f_head v1) p227 h hk
      · rw [if_neg hc230] at h
        refine Eval.ifF rfl (feq hc230).1 ?_
        refine Eval.aload_n rfl rfl ?_
        refine Eval.getfield rfl rfl own_g1_prv1 ?_
        refine Eval.iload_n rfl rfl ?_
        refine Eval.iconst (x := (-1 : Int32)) rfl rfl ?_
        obtain ⟨hb232, h⟩ := ite_some h
        refine Eval.iastore rfl rfl own_a1_prv1 hb232 own_s1_prv1 ?_
        refine Eval.heap own_mk1 ?_
        exact ev_j_popFront_b59 R scr (Q.mk s.f_st s.f_lk s.f_tmo s.f_spin s.f_nxt0 (wr s.f_prv1 p227 (-1 : Int32)) s.f_head s.f_tail s.f_len s.f_ent s.f_aband s.f_log s.f_hist s.f_n s.f_clk) v1 (rd s.f_head v1) p227 h hk
def j_release_b76 (s : Q) (v3 : Int32) : Option (Int32 × Q) := ((j_recordHistory s).bind fun p240 => some (v3, p240))
theorem ln_j_release_b76 {s : Q} {v3 : Int32} {res : Int32 × Q} (h : j_release_b76 s v3 = some res) : Q.len res.2 = Q.len s := by
  rw [j_release_b76] at h
  obtain ⟨p240, hq241, h⟩ := bind_some h
  have hl242 := (ln_j_recordHistory hq241).trans rfl
  have hr0 := Option.some.inj h
  subst hr0
  show Q.len p240 = _
  exact hl242
set_option maxRecDepth 100000 in
theorem ev_j_release_b76 (R : AHeap) (scr : List Int32) (s : Q) (v3 : Int32) {res : Int32 × Q} {out : Option Value × AHeap} (h : j_release_b76 s v3 = some res) (hk : out = (some (.int res.1), (W1 scr res.2 R))) : Eval own_P 21 76 [some (.ref 1), none, none, some (.int v3)] [] (W1 scr s R) out := by
  rw [j_release_b76] at h
  refine Eval.aload_n rfl rfl ?_
  obtain ⟨p240, hq241, h⟩ := bind_some h
  refine Eval.callN (rest := []) (H1 := (W1 scr p240 R)) rfl rfl (ev_j_recordHistory R scr s hq241 rfl) ?_
  refine Eval.iload_n rfl rfl ?_
  cases h
  subst hk
  exact Eval.ret rfl rfl
def j_release (s : Q) (v1 : Int32) : Option (Int32 × Q) := (if (j_validThread s v1) = (0 : Int32) then some ((-2 : Int32), s) else (if inb s.f_st.length v1 = true then (if (rd s.f_st v1) = (3 : Int32) then (if inb s.f_lk.length v1 = true then ((j_popFront (Q.mk s.f_st s.f_lk s.f_tmo s.f_spin s.f_nxt0 s.f_prv1 s.f_head s.f_tail s.f_len s.f_ent s.f_aband s.f_log s.f_hist s.f_n (s.f_clk + (1 : Int32))) (rd s.f_lk v1)).bind fun p233 => (if inb p233.2.f_st.length v1 = true then (if inb p233.2.f_lk.length v1 = true then (if (j_inNodes p233.1) = (0 : Int32) then (j_release_b76 (Q.mk (wr p233.2.f_st v1 (0 : Int32)) (wr p233.2.f_lk v1 (-1 : Int32)) p233.2.f_tmo p233.2.f_spin p233.2.f_nxt0 p233.2.f_prv1 p233.2.f_head p233.2.f_tail p233.2.f_len p233.2.f_ent p233.2.f_aband p233.2.f_log p233.2.f_hist p233.2.f_n p233.2.f_clk) p233.1) else (if inb (wr p233.2.f_st v1 (0 : Int32)).length p233.1 = true then (j_release_b76 (Q.mk (wr (wr p233.2.f_st v1 (0 : Int32)) p233.1 (2 : Int32)) (wr p233.2.f_lk v1 (-1 : Int32)) p233.2.f_tmo p233.2.f_spin p233.2.f_nxt0 p233.2.f_prv1 p233.2.f_head p233.2.f_tail p233.2.f_len p233.2.f_ent p233.2.f_aband p233.2.f_log p233.2.f_hist p233.2.f_n p233.2.f_clk) p233.1) else none)) else none) else none)) else none) else some ((-2 : Int32), s)) else none))
theorem ln_j_release {s : Q} {v1 : Int32} {res : Int32 × Q} (h : j_release s v1 = some res) : Q.len res.2 = Q.len s := by
  rw [j_release] at h
  by_cases hc199 : (j_validThread s v1) = (0 : Int32)
  · rw [if_pos hc199] at h
    have hr0 := Option.some.inj h
    subst hr0
    show Q.len s = _
    exact rfl
  · rw [if_neg hc199] at h
    obtain ⟨hb200, h⟩ := ite_some h
    by_cases hc201 : (rd s.f_st v1) = (3 : Int32)
    · rw [if_pos hc201] at h
      obtain ⟨hb202, h⟩ := ite_some h
      obtain ⟨p233, hq234, h⟩ := bind_some h
      have hl235 := (ln_j_popFront hq234).trans (Eq.trans (show Q.len (Q.mk s.f_st s.f_lk s.f_tmo s.f_spin s.f_nxt0 s.f_prv1 s.f_head s.f_tail s.f_len s.f_ent s.f_aband s.f_log s.f_hist s.f_n (s.f_clk + (1 : Int32))) = Q.len s from own_lenmk.trans (by first | (simp only [len_wr, len_wrL] <;> rfl) | rfl)) rfl)
      obtain ⟨hb236, h⟩ := ite_some h
      obtain ⟨hb237, h⟩ := ite_some h
      by_cases hc239 : (j_inNodes p233.1) = (0 : Int32)
      · rw [if_pos hc239] at h
        exact Eq.trans (ln_j_release_b76 h) (Eq.trans (show Q.len (Q.mk (wr p233.2.f_st v1 (0 : Int32)) (wr p233.2.f_lk v1 (-1 : Int32)) p233.2.f_tmo p233.2.f_spin p233.2.f_nxt0 p233.2.f_prv1 p233.2.f_head p233.2.f_tail p233.2.f_len p233.2.f_ent p233.2.f_aband p233.2.f_log p233.2.f_hist p233.2.f_n p233.2.f_clk) = Q.len p233.2 from own_lenmk.trans (by first | (simp only [len_wr, len_wrL] <;> rfl) | rfl)) hl235)
      · rw [if_neg hc239] at h
        obtain ⟨hb243, h⟩ := ite_some h
        exact Eq.trans (ln_j_release_b76 h) (Eq.trans (show Q.len (Q.mk (wr (wr p233.2.f_st v1 (0 : Int32)) p233.1 (2 : Int32)) (wr p233.2.f_lk v1 (-1 : Int32)) p233.2.f_tmo p233.2.f_spin p233.2.f_nxt0 p233.2.f_prv1 p233.2.f_head p233.2.f_tail p233.2.f_len p233.2.f_ent p233.2.f_aband p233.2.f_log p233.2.f_hist p233.2.f_n p233.2.f_clk) = Q.len p233.2 from own_lenmk.trans (by first | (simp only [len_wr, len_wrL] <;> rfl) | rfl)) hl235)
    · rw [if_neg hc201] at h
      have hr0 := Option.some.inj h
      subst hr0
      show Q.len s = _
      exact rfl
set_option maxRecDepth 100000 in
theorem ev_j_release (R : AHeap) (scr : List Int32) (s : Q) (v1 : Int32) {res : Int32 × Q} {out : Option Value × AHeap} (h : j_release s v1 = some res) (hk : out = (some (.int res.1), (W1 scr res.2 R))) : Eval own_P 21 0 [some (.ref 1), some (.int v1), none, none] [] (W1 scr s R) out := by
  rw [j_release] at h
  refine Eval.aload_n rfl rfl ?_
  refine Eval.iload_n rfl rfl ?_
  refine Eval.callI (rest := []) (x := (j_validThread s v1)) (H1 := (W1 scr s R)) rfl rfl (ev_j_validThread R scr s v1 rfl rfl) ?_
  by_cases hc199 : (j_validThread s v1) = (0 : Int32)
  · rw [if_pos hc199] at h
    refine Eval.ifF rfl (teq hc199).2 ?_
    refine Eval.bipush (x := (-2 : Int32)) rfl rfl ?_
    cases h
    subst hk
    exact Eval.ret rfl rfl
  · rw [if_neg hc199] at h
    refine Eval.ifT (t := 11) rfl rfl (feq hc199).2 ?_
    refine Eval.aload_n rfl rfl ?_
    refine Eval.getfield rfl rfl own_g1_st ?_
    refine Eval.iload_n rfl rfl ?_
    obtain ⟨hb200, h⟩ := ite_some h
    refine Eval.iaload rfl own_a1_st hb200 ?_
    refine Eval.iconst (x := (3 : Int32)) rfl rfl ?_
    by_cases hc201 : (rd s.f_st v1) = (3 : Int32)
    · rw [if_pos hc201] at h
      refine Eval.icmpT (t := 24) rfl rfl (teq hc201).1 ?_
      refine Eval.aload_n rfl rfl ?_
      refine Eval.aload_n rfl rfl ?_
      refine Eval.getfield rfl rfl own_g1_clk ?_
      refine Eval.iconst (x := (1 : Int32)) rfl rfl ?_
      refine Eval.iadd rfl ?_
      refine Eval.putfield rfl rfl own_p1_clk ?_
      refine Eval.aload_n rfl rfl ?_
      refine Eval.getfield rfl rfl own_g1_lk ?_
      refine Eval.iload_n rfl rfl ?_
      obtain ⟨hb202, h⟩ := ite_some h
      refine Eval.iaload rfl own_a1_lk hb202 ?_
      refine Eval.istore_n (L' := [some (.ref 1), some (.int v1), some (.int (rd s.f_lk v1)), none]) rfl rfl ?_
      refine Eval.aload_n rfl rfl ?_
      refine Eval.iload_n rfl rfl ?_
      obtain ⟨p233, hq234, h⟩ := bind_some h
      refine Eval.callI (rest := []) (x := p233.1) (H1 := (W1 scr p233.2 R)) rfl rfl (Eval.heap own_mk1 (ev_j_popFront R scr (Q.mk s.f_st s.f_lk s.f_tmo s.f_spin s.f_nxt0 s.f_prv1 s.f_head s.f_tail s.f_len s.f_ent s.f_aband s.f_log s.f_hist s.f_n (s.f_clk + (1 : Int32))) (rd s.f_lk v1) hq234 rfl)) ?_
      refine Eval.istore_n (L' := [some (.ref 1), some (.int v1), some (.int (rd s.f_lk v1)), some (.int p233.1)]) rfl rfl ?_
      refine Eval.aload_n rfl rfl ?_
      refine Eval.getfield rfl rfl own_g1_st ?_
      refine Eval.iload_n rfl rfl ?_
      refine Eval.iconst (x := (0 : Int32)) rfl rfl ?_
      obtain ⟨hb236, h⟩ := ite_some h
      refine Eval.iastore rfl rfl own_a1_st hb236 own_s1_st ?_
      refine Eval.aload_n rfl rfl ?_
      refine Eval.getfield rfl rfl own_g1_lk ?_
      refine Eval.iload_n rfl rfl ?_
      refine Eval.iconst (x := (-1 : Int32)) rfl rfl ?_
      obtain ⟨hb237, h⟩ := ite_some h
      refine Eval.iastore rfl rfl own_a1_lk hb237 own_s1_lk ?_
      refine Eval.aload_n rfl rfl ?_
      refine Eval.iload_n rfl rfl ?_
      refine Eval.callI (rest := []) (x := (j_inNodes p233.1)) (H1 := (C1 scr (wr p233.2.f_st v1 (0 : Int32)) (wr p233.2.f_lk v1 (-1 : Int32)) p233.2.f_tmo p233.2.f_spin p233.2.f_nxt0 p233.2.f_prv1 p233.2.f_head p233.2.f_tail p233.2.f_len p233.2.f_ent p233.2.f_aband p233.2.f_log p233.2.f_hist p233.2.f_n p233.2.f_clk R)) rfl rfl (ev_j_inNodes (C1 scr (wr p233.2.f_st v1 (0 : Int32)) (wr p233.2.f_lk v1 (-1 : Int32)) p233.2.f_tmo p233.2.f_spin p233.2.f_nxt0 p233.2.f_prv1 p233.2.f_head p233.2.f_tail p233.2.f_len p233.2.f_ent p233.2.f_aband p233.2.f_log p233.2.f_hist p233.2.f_n p233.2.f_clk R) 1 p233.1 rfl rfl) ?_
      by_cases hc239 : (j_inNodes p233.1) = (0 : Int32)
      · rw [if_pos hc239] at h
        refine Eval.ifT (t := 76) rfl rfl (teq hc239).1 ?_
        refine Eval.heap own_mk1 ?_
        refine Eval.weak (L' := [some (.ref 1), none, none, some (.int p233.1)]) ⟨_, _, rfl, Or.inr rfl, _, _, rfl, Or.inl rfl, _, _, rfl, Or.inl rfl, _, _, rfl, Or.inr rfl, rfl⟩ ?_
        exact ev_j_release_b76 R scr (Q.mk (wr p233.2.f_st v1 (0 : Int32)) (wr p233.2.f_lk v1 (-1 : Int32)) p233.2.f_tmo p233.2.f_spin p233.2.f_nxt0 p233.2.f_prv1 p233.2.f_head p233.2.f_tail p233.2.f_len p233.2.f_ent p233.2.f_aband p233.2.f_log p233.2.f_hist p233.2.f_n p233.2.f_clk) p233.1 h hk
      · rw [if_neg hc239] at h
        refine Eval.ifF rfl (feq hc239).1 ?_
        refine Eval.aload_n rfl rfl ?_
        refine Eval.getfield rfl rfl own_g1_st ?_
        refine Eval.iload_n rfl rfl ?_
        refine Eval.iconst (x := (2 : Int32)) rfl rfl ?_
        obtain ⟨hb243, h⟩ := ite_some h
        refine Eval.iastore rfl rfl own_a1_st hb243 own_s1_st ?_
        refine Eval.heap own_mk1 ?_
        refine Eval.weak (L' := [some (.ref 1), none, none, some (.int p233.1)]) ⟨_, _, rfl, Or.inr rfl, _, _, rfl, Or.inl rfl, _, _, rfl, Or.inl rfl, _, _, rfl, Or.inr rfl, rfl⟩ ?_
        exact ev_j_release_b76 R scr (Q.mk (wr (wr p233.2.f_st v1 (0 : Int32)) p233.1 (2 : Int32)) (wr p233.2.f_lk v1 (-1 : Int32)) p233.2.f_tmo p233.2.f_spin p233.2.f_nxt0 p233.2.f_prv1 p233.2.f_head p233.2.f_tail p233.2.f_len p233.2.f_ent p233.2.f_aband p233.2.f_log p233.2.f_hist p233.2.f_n p233.2.f_clk) p233.1 h hk
    · rw [if_neg hc201] at h
      refine Eval.icmpF rfl (feq hc201).1 ?_
      refine Eval.bipush (x := (-2 : Int32)) rfl rfl ?_
      cases h
      subst hk
      exact Eval.ret rfl rfl
def law_b481 (go_ : Q → List Int32 → Int32 → Int32 → Int32 → Int32 → Int32 → Int32 → Int32 → Int32 → Int32 → Int32 → Int32 → Int64 → Int32 → Option ((Q) ⊕ ((Q) ⊕ ((Q) ⊕ ((Q) ⊕ ((Q) ⊕ ((Q) ⊕ ((Q) ⊕ ((Q) ⊕ ((Q) ⊕ ((Q) ⊕ ((Q) ⊕ ((Q) ⊕ ((Q) ⊕ ((Q) ⊕ ((Q) ⊕ ((Q) ⊕ ((Q) ⊕ (Q))))))))))))))))))) (s : Q) (scr : List Int32) (v2 : Int32) (v3 : Int32) (v4 : Int32) (v5 : Int32) (v6 : Int32) (v7 : Int32) (v8 : Int32) (v9 : Int32) (v10 : Int32) (v11 : Int32) (v12 : Int32) (v13 : Int64) (v15 : Int32) : Option ((Q) ⊕ ((Q) ⊕ ((Q) ⊕ ((Q) ⊕ ((Q) ⊕ ((Q) ⊕ ((Q) ⊕ ((Q) ⊕ ((Q) ⊕ ((Q) ⊕ ((Q) ⊕ ((Q) ⊕ ((Q) ⊕ ((Q) ⊕ ((Q) ⊕ ((Q) ⊕ ((Q) ⊕ (Q)))))))))))))))))) := (law_b659 (go_) s scr v2 v3 v4 v5 v6 v7 v8 v9 v10 v11 v12 v13 v15)
set_option maxRecDepth 100000 in
theorem ev_law_b481 (go_ : Q → List Int32 → Int32 → Int32 → Int32 → Int32 → Int32 → Int32 → Int32 → Int32 → Int32 → Int32 → Int32 → Int64 → Int32 → Option ((Q) ⊕ ((Q) ⊕ ((Q) ⊕ ((Q) ⊕ ((Q) ⊕ ((Q) ⊕ ((Q) ⊕ ((Q) ⊕ ((Q) ⊕ ((Q) ⊕ ((Q) ⊕ ((Q) ⊕ ((Q) ⊕ ((Q) ⊕ ((Q) ⊕ ((Q) ⊕ ((Q) ⊕ (Q))))))))))))))))))) (hrec : ∀ (s : Q) (scr : List Int32) (v2 : Int32) (v3 : Int32) (v4 : Int32) (v5 : Int32) (v6 : Int32) (v7 : Int32) (v8 : Int32) (v9 : Int32) (v10 : Int32) (v11 : Int32) (v12 : Int32) (v13 : Int64) (v15 : Int32) {res : (Q) ⊕ ((Q) ⊕ ((Q) ⊕ ((Q) ⊕ ((Q) ⊕ ((Q) ⊕ ((Q) ⊕ ((Q) ⊕ ((Q) ⊕ ((Q) ⊕ ((Q) ⊕ ((Q) ⊕ ((Q) ⊕ ((Q) ⊕ ((Q) ⊕ ((Q) ⊕ ((Q) ⊕ (Q)))))))))))))))))} {out : Option Value × AHeap}, go_ s scr v2 v3 v4 v5 v6 v7 v8 v9 v10 v11 v12 v13 v15 = some res → law_l46_K scr res out → Eval own_P 0 46 [some (.ref 0), some (.ref 1), some (.int v2), some (.int v3), some (.int v4), some (.int v5), some (.int v6), some (.int v7), some (.int v8), some (.int v9), some (.int v10), some (.int v11), some (.int v12), some (.long v13), none, some (.int v15), none, none, none, none, none, none, none, none, none, none, none] [] (W1 scr s []) out) (s : Q) (scr : List Int32) (v2 : Int32) (v3 : Int32) (v4 : Int32) (v5 : Int32) (v6 : Int32) (v7 : Int32) (v8 : Int32) (v9 : Int32) (v10 : Int32) (v11 : Int32) (v12 : Int32) (v13 : Int64) (v15 : Int32) {res : (Q) ⊕ ((Q) ⊕ ((Q) ⊕ ((Q) ⊕ ((Q) ⊕ ((Q) ⊕ ((Q) ⊕ ((Q) ⊕ ((Q) ⊕ ((Q) ⊕ ((Q) ⊕ ((Q) ⊕ ((Q) ⊕ ((Q) ⊕ ((Q) ⊕ ((Q) ⊕ ((Q) ⊕ (Q)))))))))))))))))} {out : Option Value × AHeap} (h : law_b481 go_ s scr v2 v3 v4 v5 v6 v7 v8 v9 v10 v11 v12 v13 v15 = some res) (hk : law_l46_K scr res out) : Eval own_P 0 481 [some (.ref 0), some (.ref 1), some (.int v2), some (.int v3), some (.int v4), some (.int v5), some (.int v6), some (.int v7), some (.int v8), some (.int v9), some (.int v10), some (.int v11), some (.int v12), some (.long v13), none, some (.int v15), none, none, none, none, none, none, none, none, none, none, none] [] (W1 scr s []) out := by
  rw [law_b481] at h
  refine Eval.goto (t := 659) rfl rfl ?_
  exact ev_law_b659 _ hrec s scr v2 v3 v4 v5 v6 v7 v8 v9 v10 v11 v12 v13 v15 h hk
def law_b357 (go_ : Q → List Int32 → Int32 → Int32 → Int32 → Int32 → Int32 → Int32 → Int32 → Int32 → Int32 → Int32 → Int32 → Int64 → Int32 → Option ((Q) ⊕ ((Q) ⊕ ((Q) ⊕ ((Q) ⊕ ((Q) ⊕ ((Q) ⊕ ((Q) ⊕ ((Q) ⊕ ((Q) ⊕ ((Q) ⊕ ((Q) ⊕ ((Q) ⊕ ((Q) ⊕ ((Q) ⊕ ((Q) ⊕ ((Q) ⊕ ((Q) ⊕ (Q))))))))))))))))))) (s : Q) (scr : List Int32) (v2 : Int32) (v3 : Int32) (v4 : Int32) (v5 : Int32) (v6 : Int32) (v7 : Int32) (v8 : Int32) (v9 : Int32) (v10 : Int32) (v11 : Int32) (v12 : Int32) (v13 : Int64) (v15 : Int32) (v24 : Int32) : Option ((Q) ⊕ ((Q) ⊕ ((Q) ⊕ ((Q) ⊕ ((Q) ⊕ ((Q) ⊕ ((Q) ⊕ ((Q) ⊕ ((Q) ⊕ ((Q) ⊕ ((Q) ⊕ ((Q) ⊕ ((Q) ⊕ ((Q) ⊕ ((Q) ⊕ ((Q) ⊕ ((Q) ⊕ (Q)))))))))))))))))) := (if v24 = (-2 : Int32) then (law_b481 (go_) s scr v2 v3 v4 v5 v6 v7 v8 v9 v10 v11 v12 v13 v15) else some (.inr (.inr (.inr (.inl (s))))))
set_option maxRecDepth 100000 in
theorem ev_law_b357 (go_ : Q → List Int32 → Int32 → Int32 → Int32 → Int32 → Int32 → Int32 → Int32 → Int32 → Int32 → Int32 → Int32 → Int64 → Int32 → Option ((Q) ⊕ ((Q) ⊕ ((Q) ⊕ ((Q) ⊕ ((Q) ⊕ ((Q) ⊕ ((Q) ⊕ ((Q) ⊕ ((Q) ⊕ ((Q) ⊕ ((Q) ⊕ ((Q) ⊕ ((Q) ⊕ ((Q) ⊕ ((Q) ⊕ ((Q) ⊕ ((Q) ⊕ (Q))))))))))))))))))) (hrec : ∀ (s : Q) (scr : List Int32) (v2 : Int32) (v3 : Int32) (v4 : Int32) (v5 : Int32) (v6 : Int32) (v7 : Int32) (v8 : Int32) (v9 : Int32) (v10 : Int32) (v11 : Int32) (v12 : Int32) (v13 : Int64) (v15 : Int32) {res : (Q) ⊕ ((Q) ⊕ ((Q) ⊕ ((Q) ⊕ ((Q) ⊕ ((Q) ⊕ ((Q) ⊕ ((Q) ⊕ ((Q) ⊕ ((Q) ⊕ ((Q) ⊕ ((Q) ⊕ ((Q) ⊕ ((Q) ⊕ ((Q) ⊕ ((Q) ⊕ ((Q) ⊕ (Q)))))))))))))))))} {out : Option Value × AHeap}, go_ s scr v2 v3 v4 v5 v6 v7 v8 v9 v10 v11 v12 v13 v15 = some res → law_l46_K scr res out → Eval own_P 0 46 [some (.ref 0), some (.ref 1), some (.int v2), some (.int v3), some (.int v4), some (.int v5), some (.int v6), some (.int v7), some (.int v8), some (.int v9), some (.int v10), some (.int v11), some (.int v12), some (.long v13), none, some (.int v15), none, none, none, none, none, none, none, none, none, none, none] [] (W1 scr s []) out) (s : Q) (scr : List Int32) (v2 : Int32) (v3 : Int32) (v4 : Int32) (v5 : Int32) (v6 : Int32) (v7 : Int32) (v8 : Int32) (v9 : Int32) (v10 : Int32) (v11 : Int32) (v12 : Int32) (v13 : Int64) (v15 : Int32) (v24 : Int32) {res : (Q) ⊕ ((Q) ⊕ ((Q) ⊕ ((Q) ⊕ ((Q) ⊕ ((Q) ⊕ ((Q) ⊕ ((Q) ⊕ ((Q) ⊕ ((Q) ⊕ ((Q) ⊕ ((Q) ⊕ ((Q) ⊕ ((Q) ⊕ ((Q) ⊕ ((Q) ⊕ ((Q) ⊕ (Q)))))))))))))))))} {out : Option Value × AHeap} (h : law_b357 go_ s scr v2 v3 v4 v5 v6 v7 v8 v9 v10 v11 v12 v13 v15 v24 = some res) (hk : law_l46_K scr res out) : Eval own_P 0 357 [some (.ref 0), some (.ref 1), some (.int v2), some (.int v3), some (.int v4), some (.int v5), some (.int v6), some (.int v7), some (.int v8), some (.int v9), some (.int v10), some (.int v11), some (.int v12), some (.long v13), none, some (.int v15), none, none, none, none, none, none, none, none, some (.int v24), none, none] [] (W1 scr s []) out := by
  rw [law_b357] at h
  refine Eval.iload rfl rfl ?_
  refine Eval.bipush (x := (-2 : Int32)) rfl rfl ?_
  by_cases hc247 : v24 = (-2 : Int32)
  · rw [if_pos hc247] at h
    refine Eval.icmpT (t := 481) rfl rfl (teq hc247).1 ?_
    refine Eval.weak (L' := [some (.ref 0), some (.ref 1), some (.int v2), some (.int v3), some (.int v4), some (.int v5), some (.int v6), some (.int v7), some (.int v8), some (.int v9), some (.int v10), some (.int v11), some (.int v12), some (.long v13), none, some (.int v15), none, none, none, none, none, none, none, none, none, none, none]) ⟨_, _, rfl, Or.inr rfl, _, _, rfl, Or.inr rfl, _, _, rfl, Or.inr rfl, _, _, rfl, Or.inr rfl, _, _, rfl, Or.inr rfl, _, _, rfl, Or.inr rfl, _, _, rfl, Or.inr rfl, _, _, rfl, Or.inr rfl, _, _, rfl, Or.inr rfl, _, _, rfl, Or.inr rfl, _, _, rfl, Or.inr rfl, _, _, rfl, Or.inr rfl, _, _, rfl, Or.inr rfl, _, _, rfl, Or.inr rfl, _, _, rfl, Or.inl rfl, _, _, rfl, Or.inr rfl, _, _, rfl, Or.inl rfl, _, _, rfl, Or.inl rfl, _, _, rfl, Or.inl rfl, _, _, rfl, Or.inl rfl, _, _, rfl, Or.inl rfl, _, _, rfl, Or.inl rfl, _, _, rfl, Or.inl rfl, _, _, rfl, Or.inl rfl, _, _, rfl, Or.inl rfl, _, _, rfl, Or.inl rfl, _, _, rfl, Or.inl rfl, rfl⟩ ?_
    exact ev_law_b481 _ hrec s scr v2 v3 v4 v5 v6 v7 v8 v9 v10 v11 v12 v13 v15 h hk
  · rw [if_neg hc247] at h
    refine Eval.icmpF rfl (feq hc247).1 ?_
    cases h
    refine Eval.weak (L' := [none, none, none, none, none, none, none, none, none, none, none, none, none, none, none, none, none, none, none, none, none, none, none, none, none, none, none]) ⟨_, _, rfl, Or.inl rfl, _, _, rfl, Or.inl rfl, _, _, rfl, Or.inl rfl, _, _, rfl, Or.inl rfl, _, _, rfl, Or.inl rfl, _, _, rfl, Or.inl rfl, _, _, rfl, Or.inl rfl, _, _, rfl, Or.inl rfl, _, _, rfl, Or.inl rfl, _, _, rfl, Or.inl rfl, _, _, rfl, Or.inl rfl, _, _, rfl, Or.inl rfl, _, _, rfl, Or.inl rfl, _, _, rfl, Or.inl rfl, _, _, rfl, Or.inl rfl, _, _, rfl, Or.inl rfl, _, _, rfl, Or.inl rfl, _, _, rfl, Or.inl rfl, _, _, rfl, Or.inl rfl, _, _, rfl, Or.inl rfl, _, _, rfl, Or.inl rfl, _, _, rfl, Or.inl rfl, _, _, rfl, Or.inl rfl, _, _, rfl, Or.inl rfl, _, _, rfl, Or.inl rfl, _, _, rfl, Or.inl rfl, _, _, rfl, Or.inl rfl, rfl⟩ ?_
    exact hk
def law_b460 (go_ : Q → List Int32 → Int32 → Int32 → Int32 → Int32 → Int32 → Int32 → Int32 → Int32 → Int32 → Int32 → Int32 → Int64 → Int32 → Option ((Q) ⊕ ((Q) ⊕ ((Q) ⊕ ((Q) ⊕ ((Q) ⊕ ((Q) ⊕ ((Q) ⊕ ((Q) ⊕ ((Q) ⊕ ((Q) ⊕ ((Q) ⊕ ((Q) ⊕ ((Q) ⊕ ((Q) ⊕ ((Q) ⊕ ((Q) ⊕ ((Q) ⊕ (Q))))))))))))))))))) (s : Q) (scr : List Int32) (v2 : Int32) (v3 : Int32) (v4 : Int32) (v5 : Int32) (v6 : Int32) (v7 : Int32) (v8 : Int32) (v9 : Int32) (v10 : Int32) (v11 : Int32) (v12 : Int32) (v13 : Int64) (v15 : Int32) (v17 : Int32) : Option ((Q) ⊕ ((Q) ⊕ ((Q) ⊕ ((Q) ⊕ ((Q) ⊕ ((Q) ⊕ ((Q) ⊕ ((Q) ⊕ ((Q) ⊕ ((Q) ⊕ ((Q) ⊕ ((Q) ⊕ ((Q) ⊕ ((Q) ⊕ ((Q) ⊕ ((Q) ⊕ ((Q) ⊕ (Q)))))))))))))))))) := ((j_state s v17).bind fun p253 => (if p253 = (0 : Int32) then ((j_lockOf s v17).bind fun p256 => (if p256 = (-1 : Int32) then (law_b481 (go_) s scr v2 v3 v4 v5 v6 v7 v8 v9 v10 v11 v12 v13 v15) else some (.inr (.inr (.inr (.inr (.inr (.inr (.inl (s)))))))))) else some (.inr (.inr (.inr (.inr (.inr (.inr (.inl (s))))))))))
set_option maxRecDepth 100000 in
theorem ev_law_b460 (go_ : Q → List Int32 → Int32 → Int32 → Int32 → Int32 → Int32 → Int32 → Int32 → Int32 → Int32 → Int32 → Int32 → Int64 → Int32 → Option ((Q) ⊕ ((Q) ⊕ ((Q) ⊕ ((Q) ⊕ ((Q) ⊕ ((Q) ⊕ ((Q) ⊕ ((Q) ⊕ ((Q) ⊕ ((Q) ⊕ ((Q) ⊕ ((Q) ⊕ ((Q) ⊕ ((Q) ⊕ ((Q) ⊕ ((Q) ⊕ ((Q) ⊕ (Q))))))))))))))))))) (hrec : ∀ (s : Q) (scr : List Int32) (v2 : Int32) (v3 : Int32) (v4 : Int32) (v5 : Int32) (v6 : Int32) (v7 : Int32) (v8 : Int32) (v9 : Int32) (v10 : Int32) (v11 : Int32) (v12 : Int32) (v13 : Int64) (v15 : Int32) {res : (Q) ⊕ ((Q) ⊕ ((Q) ⊕ ((Q) ⊕ ((Q) ⊕ ((Q) ⊕ ((Q) ⊕ ((Q) ⊕ ((Q) ⊕ ((Q) ⊕ ((Q) ⊕ ((Q) ⊕ ((Q) ⊕ ((Q) ⊕ ((Q) ⊕ ((Q) ⊕ ((Q) ⊕ (Q)))))))))))))))))} {out : Option Value × AHeap}, go_ s scr v2 v3 v4 v5 v6 v7 v8 v9 v10 v11 v12 v13 v15 = some res → law_l46_K scr res out → Eval own_P 0 46 [some (.ref 0), some (.ref 1), some (.int v2), some (.int v3), some (.int v4), some (.int v5), some (.int v6), some (.int v7), some (.int v8), some (.int v9), some (.int v10), some (.int v11), some (.int v12), some (.long v13), none, some (.int v15), none, none, none, none, none, none, none, none, none, none, none] [] (W1 scr s []) out) (s : Q) (scr : List Int32) (v2 : Int32) (v3 : Int32) (v4 : Int32) (v5 : Int32) (v6 : Int32) (v7 : Int32) (v8 : Int32) (v9 : Int32) (v10 : Int32) (v11 : Int32) (v12 : Int32) (v13 : Int64) (v15 : Int32) (v17 : Int32) {res : (Q) ⊕ ((Q) ⊕ ((Q) ⊕ ((Q) ⊕ ((Q) ⊕ ((Q) ⊕ ((Q) ⊕ ((Q) ⊕ ((Q) ⊕ ((Q) ⊕ ((Q) ⊕ ((Q) ⊕ ((Q) ⊕ ((Q) ⊕ ((Q) ⊕ ((Q) ⊕ ((Q) ⊕ (Q)))))))))))))))))} {out : Option Value × AHeap} (h : law_b460 go_ s scr v2 v3 v4 v5 v6 v7 v8 v9 v10 v11 v12 v13 v15 v17 = some res) (hk : law_l46_K scr res out) : Eval own_P 0 460 [some (.ref 0), some (.ref 1), some (.int v2), some (.int v3), some (.int v4), some (.int v5), some (.int v6), some (.int v7), some (.int v8), some (.int v9), some (.int v10), some (.int v11), some (.int v12), some (.long v13), none, some (.int v15), none, some (.int v17), none, none, none, none, none, none, none, none, none] [] (W1 scr s []) out := by
  rw [law_b460] at h
  refine Eval.aload_n rfl rfl ?_
  refine Eval.iload rfl rfl ?_
  obtain ⟨p253, hq254, h⟩ := bind_some h
  refine Eval.callI (rest := []) (x := p253) (H1 := (W1 scr s [])) rfl rfl (ev_j_state [] scr s v17 hq254 rfl) ?_
  by_cases hc255 : p253 = (0 : Int32)
  · rw [if_pos hc255] at h
    refine Eval.ifF rfl (teq hc255).2 ?_
    refine Eval.aload_n rfl rfl ?_
    refine Eval.iload rfl rfl ?_
    obtain ⟨p256, hq257, h⟩ := bind_some h
    refine Eval.callI (rest := []) (x := p256) (H1 := (W1 scr s [])) rfl rfl (ev_j_lockOf [] scr s v17 hq257 rfl) ?_
    refine Eval.iconst (x := (-1 : Int32)) rfl rfl ?_
    by_cases hc258 : p256 = (-1 : Int32)
    · rw [if_pos hc258] at h
      refine Eval.icmpT (t := 481) rfl rfl (teq hc258).1 ?_
      refine Eval.weak (L' := [some (.ref 0), some (.ref 1), some (.int v2), some (.int v3), some (.int v4), some (.int v5), some (.int v6), some (.int v7), some (.int v8), some (.int v9), some (.int v10), some (.int v11), some (.int v12), some (.long v13), none, some (.int v15), none, none, none, none, none, none, none, none, none, none, none]) ⟨_, _, rfl, Or.inr rfl, _, _, rfl, Or.inr rfl, _, _, rfl, Or.inr rfl, _, _, rfl, Or.inr rfl, _, _, rfl, Or.inr rfl, _, _, rfl, Or.inr rfl, _, _, rfl, Or.inr rfl, _, _, rfl, Or.inr rfl, _, _, rfl, Or.inr rfl, _, _, rfl, Or.inr rfl, _, _, rfl, Or.inr rfl, _, _, rfl, Or.inr rfl, _, _, rfl, Or.inr rfl, _, _, rfl, Or.inr rfl, _, _, rfl, Or.inl rfl, _, _, rfl, Or.inr rfl, _, _, rfl, Or.inl rfl, _, _, rfl, Or.inl rfl, _, _, rfl, Or.inl rfl, _, _, rfl, Or.inl rfl, _, _, rfl, Or.inl rfl, _, _, rfl, Or.inl rfl, _, _, rfl, Or.inl rfl, _, _, rfl, Or.inl rfl, _, _, rfl, Or.inl rfl, _, _, rfl, Or.inl rfl, _, _, rfl, Or.inl rfl, rfl⟩ ?_
      exact ev_law_b481 _ hrec s scr v2 v3 v4 v5 v6 v7 v8 v9 v10 v11 v12 v13 v15 h hk
    · rw [if_neg hc258] at h
      refine Eval.icmpF rfl (feq hc258).1 ?_
      cases h
      refine Eval.weak (L' := [none, none, none, none, none, none, none, none, none, none, none, none, none, none, none, none, none, none, none, none, none, none, none, none, none, none, none]) ⟨_, _, rfl, Or.inl rfl, _, _, rfl, Or.inl rfl, _, _, rfl, Or.inl rfl, _, _, rfl, Or.inl rfl, _, _, rfl, Or.inl rfl, _, _, rfl, Or.inl rfl, _, _, rfl, Or.inl rfl, _, _, rfl, Or.inl rfl, _, _, rfl, Or.inl rfl, _, _, rfl, Or.inl rfl, _, _, rfl, Or.inl rfl, _, _, rfl, Or.inl rfl, _, _, rfl, Or.inl rfl, _, _, rfl, Or.inl rfl, _, _, rfl, Or.inl rfl, _, _, rfl, Or.inl rfl, _, _, rfl, Or.inl rfl, _, _, rfl, Or.inl rfl, _, _, rfl, Or.inl rfl, _, _, rfl, Or.inl rfl, _, _, rfl, Or.inl rfl, _, _, rfl, Or.inl rfl, _, _, rfl, Or.inl rfl, _, _, rfl, Or.inl rfl, _, _, rfl, Or.inl rfl, _, _, rfl, Or.inl rfl, _, _, rfl, Or.inl rfl, rfl⟩ ?_
      exact hk
  · rw [if_neg hc255] at h
    refine Eval.ifT (t := 479) rfl rfl (feq hc255).2 ?_
    cases h
    refine Eval.weak (L' := [none, none, none, none, none, none, none, none, none, none, none, none, none, none, none, none, none, none, none, none, none, none, none, none, none, none, none]) ⟨_, _, rfl, Or.inl rfl, _, _, rfl, Or.inl rfl, _, _, rfl, Or.inl rfl, _, _, rfl, Or.inl rfl, _, _, rfl, Or.inl rfl, _, _, rfl, Or.inl rfl, _, _, rfl, Or.inl rfl, _, _, rfl, Or.inl rfl, _, _, rfl, Or.inl rfl, _, _, rfl, Or.inl rfl, _, _, rfl, Or.inl rfl, _, _, rfl, Or.inl rfl, _, _, rfl, Or.inl rfl, _, _, rfl, Or.inl rfl, _, _, rfl, Or.inl rfl, _, _, rfl, Or.inl rfl, _, _, rfl, Or.inl rfl, _, _, rfl, Or.inl rfl, _, _, rfl, Or.inl rfl, _, _, rfl, Or.inl rfl, _, _, rfl, Or.inl rfl, _, _, rfl, Or.inl rfl, _, _, rfl, Or.inl rfl, _, _, rfl, Or.inl rfl, _, _, rfl, Or.inl rfl, _, _, rfl, Or.inl rfl, _, _, rfl, Or.inl rfl, rfl⟩ ?_
    exact hk
abbrev j_aheadMcs_l9_K (R : AHeap) (scr : List Int32) (s : Q) (res : (Int32) ⊕ ((Unit) ⊕ (Unit))) (out : Option Value × AHeap) : Prop := Sum.elim (fun res => Eval own_P 28 20 [none, none, none, some (.int res)] [] (W1 scr s R) out) (fun res => Sum.elim (fun res => Eval own_P 28 30 [none, none, none, none] [] (W1 scr s R) out) (fun res => Eval own_P 28 45 [none, none, none, none] [] (W1 scr s R) out) res) res

def j_aheadMcs_l9 : Nat → Q → Int32 → Int32 → Int32 → Option ((Int32) ⊕ ((Unit) ⊕ (Unit)))
  | 0, _, _, _, _ => none
  | n + 1, s, v1, v2, v3 => (if v3 < (8 : Int32) then (if v2 = v1 then some (.inl (v3)) else (if (j_inNodes v2) = (0 : Int32) then some (.inr (.inl ())) else (if inb s.f_nxt0.length v2 = true then (j_aheadMcs_l9 n s v1 (rd s.f_nxt0 v2) (v3 + (1 : Int32))) else none))) else some (.inr (.inr ())))
set_option maxRecDepth 100000 in
theorem ev_j_aheadMcs_l9 (R : AHeap) (scr : List Int32) : ∀ (n : Nat) (s : Q) (v1 : Int32) (v2 : Int32) (v3 : Int32) {res : (Int32) ⊕ ((Unit) ⊕ (Unit))} {out : Option Value × AHeap}, j_aheadMcs_l9 n s v1 v2 v3 = some res → j_aheadMcs_l9_K R scr s res out → Eval own_P 28 9 [some (.ref 1), some (.int v1), some (.int v2), some (.int v3)] [] (W1 scr s R) out := by
  intro n
  induction n with
  | zero => intro _ _ _ _ res out h hk; cases h
  | succ n hrec =>
    intro s v1 v2 v3 res out h hk
    rw [j_aheadMcs_l9] at h
    refine Eval.iload_n rfl rfl ?_
    refine Eval.bipush (x := (8 : Int32)) rfl rfl ?_
    by_cases hc274 : v3 < (8 : Int32)
    · rw [if_pos hc274] at h
      refine Eval.icmpF rfl (tlt hc274).2.1 ?_
      refine Eval.iload_n rfl rfl ?_
      refine Eval.iload_n rfl rfl ?_
      by_cases hc275 : v2 = v1
      · rw [if_pos hc275] at h
        refine Eval.icmpF rfl (teq hc275).2 ?_
        cases h
        refine Eval.weak (L' := [none, none, none, some (.int v3)]) ⟨_, _, rfl, Or.inl rfl, _, _, rfl, Or.inl rfl, _, _, rfl, Or.inl rfl, _, _, rfl, Or.inr rfl, rfl⟩ ?_
        exact hk
      · rw [if_neg hc275] at h
        refine Eval.icmpT (t := 22) rfl rfl (feq hc275).2 ?_
        refine Eval.aload_n rfl rfl ?_
        refine Eval.iload_n rfl rfl ?_
        refine Eval.callI (rest := []) (x := (j_inNodes v2)) (H1 := (W1 scr s R)) rfl rfl (ev_j_inNodes (W1 scr s R) 1 v2 rfl rfl) ?_
        by_cases hc276 : (j_inNodes v2) = (0 : Int32)
        · rw [if_pos hc276] at h
          refine Eval.ifF rfl (teq hc276).2 ?_
          cases h
          refine Eval.weak (L' := [none, none, none, none]) ⟨_, _, rfl, Or.inl rfl, _, _, rfl, Or.inl rfl, _, _, rfl, Or.inl rfl, _, _, rfl, Or.inl rfl, rfl⟩ ?_
          exact hk
        · rw [if_neg hc276] at h
          refine Eval.ifT (t := 32) rfl rfl (feq hc276).2 ?_
          refine Eval.aload_n rfl rfl ?_
          refine Eval.getfield rfl rfl own_g1_nxt0 ?_
          refine Eval.iload_n rfl rfl ?_
          obtain ⟨hb277, h⟩ := ite_some h
          refine Eval.iaload rfl own_a1_nxt0 hb277 ?_
          refine Eval.istore_n (L' := [some (.ref 1), some (.int v1), some (.int (rd s.f_nxt0 v2)), some (.int v3)]) rfl rfl ?_
          refine Eval.iinc (L' := [some (.ref 1), some (.int v1), some (.int (rd s.f_nxt0 v2)), some (.int (v3 + (1 : Int32)))]) rfl rfl rfl ?_
          refine Eval.goto (t := 9) rfl rfl ?_
          exact hrec _ _ _ _ h hk
    · rw [if_neg hc274] at h
      refine Eval.icmpT (t := 45) rfl rfl (flt hc274).2.1 ?_
      cases h
      refine Eval.weak (L' := [none, none, none, none]) ⟨_, _, rfl, Or.inl rfl, _, _, rfl, Or.inl rfl, _, _, rfl, Or.inl rfl, _, _, rfl, Or.inl rfl, rfl⟩ ?_
      exact hk
def j_aheadMcs (s : Q) (v1 : Int32) : Option (Int32) := (if inb s.f_head.length (0 : Int32) = true then ((j_aheadMcs_l9 3000 s v1 (rd s.f_head (0 : Int32)) (0 : Int32)).bind fun p278 => Sum.elim (fun p280 => some (p280)) (fun p281 => Sum.elim (fun p282 => some ((-1 : Int32))) (fun p283 => some ((-1 : Int32))) p281) p278) else none)
set_option maxRecDepth 100000 in
theorem ev_j_aheadMcs (R : AHeap) (scr : List Int32) (s : Q) (v1 : Int32) {res : Int32} {out : Option Value × AHeap} (h : j_aheadMcs s v1 = some res) (hk : out = (some (.int res), (W1 scr s R))) : Eval own_P 28 0 [some (.ref 1), some (.int v1), none, none] [] (W1 scr s R) out := by
  rw [j_aheadMcs] at h
  refine Eval.aload_n rfl rfl ?_
  refine Eval.getfield rfl rfl own_g1_head ?_
  refine Eval.iconst (x := (0 : Int32)) rfl rfl ?_
  obtain ⟨hb273, h⟩ := ite_some h
  refine Eval.iaload rfl own_a1_head hb273 ?_
  refine Eval.istore_n (L' := [some (.ref 1), some (.int v1), some (.int (rd s.f_head (0 : Int32))), none]) rfl rfl ?_
  refine Eval.iconst (x := (0 : Int32)) rfl rfl ?_
  refine Eval.istore_n (L' := [some (.ref 1), some (.int v1), some (.int (rd s.f_head (0 : Int32))), some (.int (0 : Int32))]) rfl rfl ?_
  obtain ⟨p278, hq279, h⟩ := bind_some h
  rcases p278 with p280 | p281
  · dsimp only [Sum.elim] at h
    refine ev_j_aheadMcs_l9 R scr _ s v1 (rd s.f_head (0 : Int32)) (0 : Int32) hq279 ?_
    show Eval own_P 28 20 [none, none, none, some (.int p280)] [] (W1 scr s R) out
    refine Eval.iload_n rfl rfl ?_
    cases h
    subst hk
    exact Eval.ret rfl rfl
  · dsimp only [Sum.elim] at h
    rcases p281 with p282 | p283
    · dsimp only [Sum.elim] at h
      refine ev_j_aheadMcs_l9 R scr _ s v1 (rd s.f_head (0 : Int32)) (0 : Int32) hq279 ?_
      show Eval own_P 28 30 [none, none, none, none] [] (W1 scr s R) out
      refine Eval.iconst (x := (-1 : Int32)) rfl rfl ?_
      cases h
      subst hk
      exact Eval.ret rfl rfl
    · dsimp only [Sum.elim] at h
      refine ev_j_aheadMcs_l9 R scr _ s v1 (rd s.f_head (0 : Int32)) (0 : Int32) hq279 ?_
      show Eval own_P 28 45 [none, none, none, none] [] (W1 scr s R) out
      refine Eval.iconst (x := (-1 : Int32)) rfl rfl ?_
      cases h
      subst hk
      exact Eval.ret rfl rfl
abbrev j_aheadClh_l12_K (R : AHeap) (scr : List Int32) (s : Q) (res : (Int32) ⊕ (Int32)) (out : Option Value × AHeap) : Prop := Sum.elim (fun res => Eval own_P 29 27 [none, none, none, some (.int res), none] [] (W1 scr s R) out) (fun res => Eval own_P 29 45 [none, none, none, some (.int res), none] [] (W1 scr s R) out) res

def j_aheadClh_l12 : Nat → Q → Int32 → Int32 → Int32 → Option ((Int32) ⊕ (Int32))
  | 0, _, _, _, _ => none
  | n + 1, s, v2, v3, v4 => (if v4 < (8 : Int32) then (if (j_inNodes v2) = (0 : Int32) then some (.inl (v3)) else (if inb s.f_prv1.length v2 = true then (j_aheadClh_l12 n s (rd s.f_prv1 v2) (v3 + (1 : Int32)) (v4 + (1 : Int32))) else none)) else some (.inr (v3)))
set_option maxRecDepth 100000 in
theorem ev_j_aheadClh_l12 (R : AHeap) (scr : List Int32) : ∀ (n : Nat) (s : Q) (v2 : Int32) (v3 : Int32) (v4 : Int32) {res : (Int32) ⊕ (Int32)} {out : Option Value × AHeap}, j_aheadClh_l12 n s v2 v3 v4 = some res → j_aheadClh_l12_K R scr s res out → Eval own_P 29 12 [some (.ref 1), none, some (.int v2), some (.int v3), some (.int v4)] [] (W1 scr s R) out := by
  intro n
  induction n with
  | zero => intro _ _ _ _ res out h hk; cases h
  | succ n hrec =>
    intro s v2 v3 v4 res out h hk
    rw [j_aheadClh_l12] at h
    refine Eval.iload rfl rfl ?_
    refine Eval.bipush (x := (8 : Int32)) rfl rfl ?_
    by_cases hc287 : v4 < (8 : Int32)
    · rw [if_pos hc287] at h
      refine Eval.icmpF rfl (tlt hc287).2.1 ?_
      refine Eval.aload_n rfl rfl ?_
      refine Eval.iload_n rfl rfl ?_
      refine Eval.callI (rest := []) (x := (j_inNodes v2)) (H1 := (W1 scr s R)) rfl rfl (ev_j_inNodes (W1 scr s R) 1 v2 rfl rfl) ?_
      by_cases hc288 : (j_inNodes v2) = (0 : Int32)
      · rw [if_pos hc288] at h
        refine Eval.ifF rfl (teq hc288).2 ?_
        cases h
        refine Eval.weak (L' := [none, none, none, some (.int v3), none]) ⟨_, _, rfl, Or.inl rfl, _, _, rfl, Or.inl rfl, _, _, rfl, Or.inl rfl, _, _, rfl, Or.inr rfl, _, _, rfl, Or.inl rfl, rfl⟩ ?_
        exact hk
      · rw [if_neg hc288] at h
        refine Eval.ifT (t := 29) rfl rfl (feq hc288).2 ?_
        refine Eval.iinc (L' := [some (.ref 1), none, some (.int v2), some (.int (v3 + (1 : Int32))), some (.int v4)]) rfl rfl rfl ?_
        refine Eval.aload_n rfl rfl ?_
        refine Eval.getfield rfl rfl own_g1_prv1 ?_
        refine Eval.iload_n rfl rfl ?_
        obtain ⟨hb289, h⟩ := ite_some h
        refine Eval.iaload rfl own_a1_prv1 hb289 ?_
        refine Eval.istore_n (L' := [some (.ref 1), none, some (.int (rd s.f_prv1 v2)), some (.int (v3 + (1 : Int32))), some (.int v4)]) rfl rfl ?_
        refine Eval.iinc (L' := [some (.ref 1), none, some (.int (rd s.f_prv1 v2)), some (.int (v3 + (1 : Int32))), some (.int (v4 + (1 : Int32)))]) rfl rfl rfl ?_
        refine Eval.goto (t := 12) rfl rfl ?_
        exact hrec _ _ _ _ h hk
    · rw [if_neg hc287] at h
      refine Eval.icmpT (t := 45) rfl rfl (flt hc287).2.1 ?_
      cases h
      refine Eval.weak (L' := [none, none, none, some (.int v3), none]) ⟨_, _, rfl, Or.inl rfl, _, _, rfl, Or.inl rfl, _, _, rfl, Or.inl rfl, _, _, rfl, Or.inr rfl, _, _, rfl, Or.inl rfl, rfl⟩ ?_
      exact hk
def j_aheadClh (s : Q) (v1 : Int32) : Option (Int32) := (if inb s.f_prv1.length v1 = true then ((j_aheadClh_l12 3000 s (rd s.f_prv1 v1) (0 : Int32) (0 : Int32)).bind fun p290 => Sum.elim (fun p292 => some (p292)) (fun p293 => some (p293)) p290) else none)
set_option maxRecDepth 100000 in
theorem ev_j_aheadClh (R : AHeap) (scr : List Int32) (s : Q) (v1 : Int32) {res : Int32} {out : Option Value × AHeap} (h : j_aheadClh s v1 = some res) (hk : out = (some (.int res), (W1 scr s R))) : Eval own_P 29 0 [some (.ref 1), some (.int v1), none, none, none] [] (W1 scr s R) out := by
  rw [j_aheadClh] at h
  refine Eval.aload_n rfl rfl ?_
  refine Eval.getfield rfl rfl own_g1_prv1 ?_
  refine Eval.iload_n rfl rfl ?_
  obtain ⟨hb286, h⟩ := ite_some h
  refine Eval.iaload rfl own_a1_prv1 hb286 ?_
  refine Eval.istore_n (L' := [some (.ref 1), some (.int v1), some (.int (rd s.f_prv1 v1)), none, none]) rfl rfl ?_
  refine Eval.iconst (x := (0 : Int32)) rfl rfl ?_
  refine Eval.istore_n (L' := [some (.ref 1), some (.int v1), some (.int (rd s.f_prv1 v1)), some (.int (0 : Int32)), none]) rfl rfl ?_
  refine Eval.iconst (x := (0 : Int32)) rfl rfl ?_
  refine Eval.istore (L' := [some (.ref 1), some (.int v1), some (.int (rd s.f_prv1 v1)), some (.int (0 : Int32)), some (.int (0 : Int32))]) rfl rfl ?_
  refine Eval.weak (L' := [some (.ref 1), none, some (.int (rd s.f_prv1 v1)), some (.int (0 : Int32)), some (.int (0 : Int32))]) ⟨_, _, rfl, Or.inr rfl, _, _, rfl, Or.inl rfl, _, _, rfl, Or.inr rfl, _, _, rfl, Or.inr rfl, _, _, rfl, Or.inr rfl, rfl⟩ ?_
  obtain ⟨p290, hq291, h⟩ := bind_some h
  rcases p290 with p292 | p293
  · dsimp only [Sum.elim] at h
    refine ev_j_aheadClh_l12 R scr _ s (rd s.f_prv1 v1) (0 : Int32) (0 : Int32) hq291 ?_
    show Eval own_P 29 27 [none, none, none, some (.int p292), none] [] (W1 scr s R) out
    refine Eval.iload_n rfl rfl ?_
    cases h
    subst hk
    exact Eval.ret rfl rfl
  · dsimp only [Sum.elim] at h
    refine ev_j_aheadClh_l12 R scr _ s (rd s.f_prv1 v1) (0 : Int32) (0 : Int32) hq291 ?_
    show Eval own_P 29 45 [none, none, none, some (.int p293), none] [] (W1 scr s R) out
    refine Eval.iload_n rfl rfl ?_
    cases h
    subst hk
    exact Eval.ret rfl rfl
def j_ahead (s : Q) (v1 : Int32) : Option (Int32) := (if (j_validThread s v1) = (0 : Int32) then some ((-2 : Int32)) else (if inb s.f_st.length v1 = true then (if (rd s.f_st v1) = (0 : Int32) then some ((-1 : Int32)) else (if inb s.f_lk.length v1 = true then (if (rd s.f_lk v1) = (0 : Int32) then ((j_aheadMcs s v1).bind fun p284 => some (p284)) else ((j_aheadClh s v1).bind fun p294 => some (p294))) else none)) else none))
set_option maxRecDepth 100000 in
theorem ev_j_ahead (R : AHeap) (scr : List Int32) (s : Q) (v1 : Int32) {res : Int32} {out : Option Value × AHeap} (h : j_ahead s v1 = some res) (hk : out = (some (.int res), (W1 scr s R))) : Eval own_P 27 0 [some (.ref 1), some (.int v1)] [] (W1 scr s R) out := by
  rw [j_ahead] at h
  refine Eval.aload_n rfl rfl ?_
  refine Eval.iload_n rfl rfl ?_
  refine Eval.callI (rest := []) (x := (j_validThread s v1)) (H1 := (W1 scr s R)) rfl rfl (ev_j_validThread R scr s v1 rfl rfl) ?_
  by_cases hc268 : (j_validThread s v1) = (0 : Int32)
  · rw [if_pos hc268] at h
    refine Eval.ifF rfl (teq hc268).2 ?_
    refine Eval.bipush (x := (-2 : Int32)) rfl rfl ?_
    cases h
    subst hk
    exact Eval.ret rfl rfl
  · rw [if_neg hc268] at h
    refine Eval.ifT (t := 11) rfl rfl (feq hc268).2 ?_
    refine Eval.aload_n rfl rfl ?_
    refine Eval.getfield rfl rfl own_g1_st ?_
    refine Eval.iload_n rfl rfl ?_
    obtain ⟨hb269, h⟩ := ite_some h
    refine Eval.iaload rfl own_a1_st hb269 ?_
    by_cases hc270 : (rd s.f_st v1) = (0 : Int32)
    · rw [if_pos hc270] at h
      refine Eval.ifF rfl (teq hc270).2 ?_
      refine Eval.iconst (x := (-1 : Int32)) rfl rfl ?_
      cases h
      subst hk
      exact Eval.ret rfl rfl
    · rw [if_neg hc270] at h
      refine Eval.ifT (t := 22) rfl rfl (feq hc270).2 ?_
      refine Eval.aload_n rfl rfl ?_
      refine Eval.getfield rfl rfl own_g1_lk ?_
      refine Eval.iload_n rfl rfl ?_
      obtain ⟨hb271, h⟩ := ite_some h
      refine Eval.iaload rfl own_a1_lk hb271 ?_
      by_cases hc272 : (rd s.f_lk v1) = (0 : Int32)
      · rw [if_pos hc272] at h
        refine Eval.ifF rfl (teq hc272).2 ?_
        refine Eval.aload_n rfl rfl ?_
        refine Eval.iload_n rfl rfl ?_
        obtain ⟨p284, hq285, h⟩ := bind_some h
        refine Eval.callI (rest := []) (x := p284) (H1 := (W1 scr s R)) rfl rfl (ev_j_aheadMcs R scr s v1 hq285 rfl) ?_
        cases h
        subst hk
        exact Eval.ret rfl rfl
      · rw [if_neg hc272] at h
        refine Eval.ifT (t := 37) rfl rfl (feq hc272).2 ?_
        refine Eval.aload_n rfl rfl ?_
        refine Eval.iload_n rfl rfl ?_
        obtain ⟨p294, hq295, h⟩ := bind_some h
        refine Eval.callI (rest := []) (x := p294) (H1 := (W1 scr s R)) rfl rfl (ev_j_aheadClh R scr s v1 hq295 rfl) ?_
        cases h
        subst hk
        exact Eval.ret rfl rfl
def law_b397 (go_ : Q → List Int32 → Int32 → Int32 → Int32 → Int32 → Int32 → Int32 → Int32 → Int32 → Int32 → Int32 → Int32 → Int64 → Int32 → Option ((Q) ⊕ ((Q) ⊕ ((Q) ⊕ ((Q) ⊕ ((Q) ⊕ ((Q) ⊕ ((Q) ⊕ ((Q) ⊕ ((Q) ⊕ ((Q) ⊕ ((Q) ⊕ ((Q) ⊕ ((Q) ⊕ ((Q) ⊕ ((Q) ⊕ ((Q) ⊕ ((Q) ⊕ (Q))))))))))))))))))) (s : Q) (scr : List Int32) (v2 : Int32) (v3 : Int32) (v4 : Int32) (v5 : Int32) (v6 : Int32) (v7 : Int32) (v8 : Int32) (v9 : Int32) (v10 : Int32) (v11 : Int32) (v12 : Int32) (v13 : Int64) (v15 : Int32) (v17 : Int32) (v21 : Int32) (v24 : Int32) (v25 : Int32) : Option ((Q) ⊕ ((Q) ⊕ ((Q) ⊕ ((Q) ⊕ ((Q) ⊕ ((Q) ⊕ ((Q) ⊕ ((Q) ⊕ ((Q) ⊕ ((Q) ⊕ ((Q) ⊕ ((Q) ⊕ ((Q) ⊕ ((Q) ⊕ ((Q) ⊕ ((Q) ⊕ ((Q) ⊕ (Q)))))))))))))))))) := (if v25 = (0 : Int32) then (if v24 = (-1 : Int32) then (law_b460 (go_) s scr v2 v3 v4 v5 v6 v7 v8 v9 v10 v11 v12 v13 v15 v17) else some (.inr (.inr (.inr (.inr (.inl (s))))))) else (if v24 < (0 : Int32) then some (.inr (.inr (.inr (.inr (.inr (.inl (s))))))) else (if (3 : Int32) < v24 then some (.inr (.inr (.inr (.inr (.inr (.inl (s))))))) else (if v24 = v17 then some (.inr (.inr (.inr (.inr (.inr (.inl (s))))))) else ((j_state s v24).bind fun p262 => (if p262 = (2 : Int32) then ((j_lockOf s v24).bind fun p265 => (if p265 = v21 then ((j_ahead s v24).bind fun p296 => (if p296 = (0 : Int32) then (law_b460 (go_) s scr v2 v3 v4 v5 v6 v7 v8 v9 v10 v11 v12 v13 v15 v17) else some (.inr (.inr (.inr (.inr (.inr (.inl (s))))))))) else some (.inr (.inr (.inr (.inr (.inr (.inl (s))))))))) else some (.inr (.inr (.inr (.inr (.inr (.inl (s)))))))))))))
set_option maxRecDepth 100000 in
theorem ev_law_b397 (go_ : Q → List Int32 → Int32 → Int32 → Int32 → Int32 → Int32 → Int32 → Int32 → Int32 → Int32 → Int32 → Int32 → Int64 → Int32 → Option ((Q) ⊕ ((Q) ⊕ ((Q) ⊕ ((Q) ⊕ ((Q) ⊕ ((Q) ⊕ ((Q) ⊕ ((Q) ⊕ ((Q) ⊕ ((Q) ⊕ ((Q) ⊕ ((Q) ⊕ ((Q) ⊕ ((Q) ⊕ ((Q) ⊕ ((Q) ⊕ ((Q) ⊕ (Q))))))))))))))))))) (hrec : ∀ (s : Q) (scr : List Int32) (v2 : Int32) (v3 : Int32) (v4 : Int32) (v5 : Int32) (v6 : Int32) (v7 : Int32) (v8 : Int32) (v9 : Int32) (v10 : Int32) (v11 : Int32) (v12 : Int32) (v13 : Int64) (v15 : Int32) {res : (Q) ⊕ ((Q) ⊕ ((Q) ⊕ ((Q) ⊕ ((Q) ⊕ ((Q) ⊕ ((Q) ⊕ ((Q) ⊕ ((Q) ⊕ ((Q) ⊕ ((Q) ⊕ ((Q) ⊕ ((Q) ⊕ ((Q) ⊕ ((Q) ⊕ ((Q) ⊕ ((Q) ⊕ (Q)))))))))))))))))} {out : Option Value × AHeap}, go_ s scr v2 v3 v4 v5 v6 v7 v8 v9 v10 v11 v12 v13 v15 = some res → law_l46_K scr res out → Eval own_P 0 46 [some (.ref 0), some (.ref 1), some (.int v2), some (.int v3), some (.int v4), some (.int v5), some (.int v6), some (.int v7), some (.int v8), some (.int v9), some (.int v10), some (.int v11), some (.int v12), some (.long v13), none, some (.int v15), none, none, none, none, none, none, none, none, none, none, none] [] (W1 scr s []) out) (s : Q) (scr : List Int32) (v2 : Int32) (v3 : Int32) (v4 : Int32) (v5 : Int32) (v6 : Int32) (v7 : Int32) (v8 : Int32) (v9 : Int32) (v10 : Int32) (v11 : Int32) (v12 : Int32) (v13 : Int64) (v15 : Int32) (v17 : Int32) (v21 : Int32) (v24 : Int32) (v25 : Int32) {res : (Q) ⊕ ((Q) ⊕ ((Q) ⊕ ((Q) ⊕ ((Q) ⊕ ((Q) ⊕ ((Q) ⊕ ((Q) ⊕ ((Q) ⊕ ((Q) ⊕ ((Q) ⊕ ((Q) ⊕ ((Q) ⊕ ((Q) ⊕ ((Q) ⊕ ((Q) ⊕ ((Q) ⊕ (Q)))))))))))))))))} {out : Option Value × AHeap} (h : law_b397 go_ s scr v2 v3 v4 v5 v6 v7 v8 v9 v10 v11 v12 v13 v15 v17 v21 v24 v25 = some res) (hk : law_l46_K scr res out) : Eval own_P 0 397 [some (.ref 0), some (.ref 1), some (.int v2), some (.int v3), some (.int v4), some (.int v5), some (.int v6), some (.int v7), some (.int v8), some (.int v9), some (.int v10), some (.int v11), some (.int v12), some (.long v13), none, some (.int v15), none, some (.int v17), none, none, none, some (.int v21), none, none, some (.int v24), some (.int v25), none] [] (W1 scr s []) out := by
  rw [law_b397] at h
  refine Eval.iload rfl rfl ?_
  by_cases hc251 : v25 = (0 : Int32)
  · rw [if_pos hc251] at h
    refine Eval.ifF rfl (teq hc251).2 ?_
    refine Eval.iload rfl rfl ?_
    refine Eval.iconst (x := (-1 : Int32)) rfl rfl ?_
    by_cases hc252 : v24 = (-1 : Int32)
    · rw [if_pos hc252] at h
      refine Eval.icmpT (t := 460) rfl rfl (teq hc252).1 ?_
      refine Eval.weak (L' := [some (.ref 0), some (.ref 1), some (.int v2), some (.int v3), some (.int v4), some (.int v5), some (.int v6), some (.int v7), some (.int v8), some (.int v9), some (.int v10), some (.int v11), some (.int v12), some (.long v13), none, some (.int v15), none, some (.int v17), none, none, none, none, none, none, none, none, none]) ⟨_, _, rfl, Or.inr rfl, _, _, rfl, Or.inr rfl, _, _, rfl, Or.inr rfl, _, _, rfl, Or.inr rfl, _, _, rfl, Or.inr rfl, _, _, rfl, Or.inr rfl, _, _, rfl, Or.inr rfl, _, _, rfl, Or.inr rfl, _, _, rfl, Or.inr rfl, _, _, rfl, Or.inr rfl, _, _, rfl, Or.inr rfl, _, _, rfl, Or.inr rfl, _, _, rfl, Or.inr rfl, _, _, rfl, Or.inr rfl, _, _, rfl, Or.inl rfl, _, _, rfl, Or.inr rfl, _, _, rfl, Or.inl rfl, _, _, rfl, Or.inr rfl, _, _, rfl, Or.inl rfl, _, _, rfl, Or.inl rfl, _, _, rfl, Or.inl rfl, _, _, rfl, Or.inl rfl, _, _, rfl, Or.inl rfl, _, _, rfl, Or.inl rfl, _, _, rfl, Or.inl rfl, _, _, rfl, Or.inl rfl, _, _, rfl, Or.inl rfl, rfl⟩ ?_
      exact ev_law_b460 _ hrec s scr v2 v3 v4 v5 v6 v7 v8 v9 v10 v11 v12 v13 v15 v17 h hk
    · rw [if_neg hc252] at h
      refine Eval.icmpF rfl (feq hc252).1 ?_
      cases h
      refine Eval.weak (L' := [none, none, none, none, none, none, none, none, none, none, none, none, none, none, none, none, none, none, none, none, none, none, none, none, none, none, none]) ⟨_, _, rfl, Or.inl rfl, _, _, rfl, Or.inl rfl, _, _, rfl, Or.inl rfl, _, _, rfl, Or.inl rfl, _, _, rfl, Or.inl rfl, _, _, rfl, Or.inl rfl, _, _, rfl, Or.inl rfl, _, _, rfl, Or.inl rfl, _, _, rfl, Or.inl rfl, _, _, rfl, Or.inl rfl, _, _, rfl, Or.inl rfl, _, _, rfl, Or.inl rfl, _, _, rfl, Or.inl rfl, _, _, rfl, Or.inl rfl, _, _, rfl, Or.inl rfl, _, _, rfl, Or.inl rfl, _, _, rfl, Or.inl rfl, _, _, rfl, Or.inl rfl, _, _, rfl, Or.inl rfl, _, _, rfl, Or.inl rfl, _, _, rfl, Or.inl rfl, _, _, rfl, Or.inl rfl, _, _, rfl, Or.inl rfl, _, _, rfl, Or.inl rfl, _, _, rfl, Or.inl rfl, _, _, rfl, Or.inl rfl, _, _, rfl, Or.inl rfl, rfl⟩ ?_
      exact hk
  · rw [if_neg hc251] at h
    refine Eval.ifT (t := 410) rfl rfl (feq hc251).2 ?_
    refine Eval.iload rfl rfl ?_
    by_cases hc259 : v24 < (0 : Int32)
    · rw [if_pos hc259] at h
      refine Eval.ifT (t := 458) rfl rfl (tlt hc259).1 ?_
      cases h
      refine Eval.weak (L' := [none, none, none, none, none, none, none, none, none, none, none, none, none, none, none, none, none, none, none, none, none, none, none, none, none, none, none]) ⟨_, _, rfl, Or.inl rfl, _, _, rfl, Or.inl rfl, _, _, rfl, Or.inl rfl, _, _, rfl, Or.inl rfl, _, _, rfl, Or.inl rfl, _, _, rfl, Or.inl rfl, _, _, rfl, Or.inl rfl, _, _, rfl, Or.inl rfl, _, _, rfl, Or.inl rfl, _, _, rfl, Or.inl rfl, _, _, rfl, Or.inl rfl, _, _, rfl, Or.inl rfl, _, _, rfl, Or.inl rfl, _, _, rfl, Or.inl rfl, _, _, rfl, Or.inl rfl, _, _, rfl, Or.inl rfl, _, _, rfl, Or.inl rfl, _, _, rfl, Or.inl rfl, _, _, rfl, Or.inl rfl, _, _, rfl, Or.inl rfl, _, _, rfl, Or.inl rfl, _, _, rfl, Or.inl rfl, _, _, rfl, Or.inl rfl, _, _, rfl, Or.inl rfl, _, _, rfl, Or.inl rfl, _, _, rfl, Or.inl rfl, _, _, rfl, Or.inl rfl, rfl⟩ ?_
      exact hk
    · rw [if_neg hc259] at h
      refine Eval.ifF rfl (flt hc259).1 ?_
      refine Eval.iload rfl rfl ?_
      refine Eval.iconst (x := (3 : Int32)) rfl rfl ?_
      by_cases hc260 : (3 : Int32) < v24
      · rw [if_pos hc260] at h
        refine Eval.icmpT (t := 458) rfl rfl (tlt hc260).2.2.1 ?_
        cases h
        refine Eval.weak (L' := [none, none, none, none, none, none, none, none, none, none, none, none, none, none, none, none, none, none, none, none, none, none, none, none, none, none, none]) ⟨_, _, rfl, Or.inl rfl, _, _, rfl, Or.inl rfl, _, _, rfl, Or.inl rfl, _, _, rfl, Or.inl rfl, _, _, rfl, Or.inl rfl, _, _, rfl, Or.inl rfl, _, _, rfl, Or.inl rfl, _, _, rfl, Or.inl rfl, _, _, rfl, Or.inl rfl, _, _, rfl, Or.inl rfl, _, _, rfl, Or.inl rfl, _, _, rfl, Or.inl rfl, _, _, rfl, Or.inl rfl, _, _, rfl, Or.inl rfl, _, _, rfl, Or.inl rfl, _, _, rfl, Or.inl rfl, _, _, rfl, Or.inl rfl, _, _, rfl, Or.inl rfl, _, _, rfl, Or.inl rfl, _, _, rfl, Or.inl rfl, _, _, rfl, Or.inl rfl, _, _, rfl, Or.inl rfl, _, _, rfl, Or.inl rfl, _, _, rfl, Or.inl rfl, _, _, rfl, Or.inl rfl, _, _, rfl, Or.inl rfl, _, _, rfl, Or.inl rfl, rfl⟩ ?_
        exact hk
      · rw [if_neg hc260] at h
        refine Eval.icmpF rfl (flt hc260).2.2.1 ?_
        refine Eval.iload rfl rfl ?_
        refine Eval.iload rfl rfl ?_
        by_cases hc261 : v24 = v17
        · rw [if_pos hc261] at h
          refine Eval.icmpT (t := 458) rfl rfl (teq hc261).1 ?_
          cases h
          refine Eval.weak (L' := [none, none, none, none, none, none, none, none, none, none, none, none, none, none, none, none, none, none, none, none, none, none, none, none, none, none, none]) ⟨_, _, rfl, Or.inl rfl, _, _, rfl, Or.inl rfl, _, _, rfl, Or.inl rfl, _, _, rfl, Or.inl rfl, _, _, rfl, Or.inl rfl, _, _, rfl, Or.inl rfl, _, _, rfl, Or.inl rfl, _, _, rfl, Or.inl rfl, _, _, rfl, Or.inl rfl, _, _, rfl, Or.inl rfl, _, _, rfl, Or.inl rfl, _, _, rfl, Or.inl rfl, _, _, rfl, Or.inl rfl, _, _, rfl, Or.inl rfl, _, _, rfl, Or.inl rfl, _, _, rfl, Or.inl rfl, _, _, rfl, Or.inl rfl, _, _, rfl, Or.inl rfl, _, _, rfl, Or.inl rfl, _, _, rfl, Or.inl rfl, _, _, rfl, Or.inl rfl, _, _, rfl, Or.inl rfl, _, _, rfl, Or.inl rfl, _, _, rfl, Or.inl rfl, _, _, rfl, Or.inl rfl, _, _, rfl, Or.inl rfl, _, _, rfl, Or.inl rfl, rfl⟩ ?_
          exact hk
        · rw [if_neg hc261] at h
          refine Eval.icmpF rfl (feq hc261).1 ?_
          refine Eval.aload_n rfl rfl ?_
          refine Eval.iload rfl rfl ?_
          obtain ⟨p262, hq263, h⟩ := bind_some h
          refine Eval.callI (rest := []) (x := p262) (H1 := (W1 scr s [])) rfl rfl (ev_j_state [] scr s v24 hq263 rfl) ?_
          refine Eval.iconst (x := (2 : Int32)) rfl rfl ?_
          by_cases hc264 : p262 = (2 : Int32)
          · rw [if_pos hc264] at h
            refine Eval.icmpF rfl (teq hc264).2 ?_
            refine Eval.aload_n rfl rfl ?_
            refine Eval.iload rfl rfl ?_
            obtain ⟨p265, hq266, h⟩ := bind_some h
            refine Eval.callI (rest := []) (x := p265) (H1 := (W1 scr s [])) rfl rfl (ev_j_lockOf [] scr s v24 hq266 rfl) ?_
            refine Eval.iload rfl rfl ?_
            by_cases hc267 : p265 = v21
            · rw [if_pos hc267] at h
              refine Eval.icmpF rfl (teq hc267).2 ?_
              refine Eval.aload_n rfl rfl ?_
              refine Eval.iload rfl rfl ?_
              obtain ⟨p296, hq297, h⟩ := bind_some h
              refine Eval.callI (rest := []) (x := p296) (H1 := (W1 scr s [])) rfl rfl (ev_j_ahead [] scr s v24 hq297 rfl) ?_
              by_cases hc298 : p296 = (0 : Int32)
              · rw [if_pos hc298] at h
                refine Eval.ifT (t := 460) rfl rfl (teq hc298).1 ?_
                refine Eval.weak (L' := [some (.ref 0), some (.ref 1), some (.int v2), some (.int v3), some (.int v4), some (.int v5), some (.int v6), some (.int v7), some (.int v8), some (.int v9), some (.int v10), some (.int v11), some (.int v12), some (.long v13), none, some (.int v15), none, some (.int v17), none, none, none, none, none, none, none, none, none]) ⟨_, _, rfl, Or.inr rfl, _, _, rfl, Or.inr rfl, _, _, rfl, Or.inr rfl, _, _, rfl, Or.inr rfl, _, _, rfl, Or.inr rfl, _, _, rfl, Or.inr rfl, _, _, rfl, Or.inr rfl, _, _, rfl, Or.inr rfl, _, _, rfl, Or.inr rfl, _, _, rfl, Or.inr rfl, _, _, rfl, Or.inr rfl, _, _, rfl, Or.inr rfl, _, _, rfl, Or.inr rfl, _, _, rfl, Or.inr rfl, _, _, rfl, Or.inl rfl, _, _, rfl, Or.inr rfl, _, _, rfl, Or.inl rfl, _, _, rfl, Or.inr rfl, _, _, rfl, Or.inl rfl, _, _, rfl, Or.inl rfl, _, _, rfl, Or.inl rfl, _, _, rfl, Or.inl rfl, _, _, rfl, Or.inl rfl, _, _, rfl, Or.inl rfl, _, _, rfl, Or.inl rfl, _, _, rfl, Or.inl rfl, _, _, rfl, Or.inl rfl, rfl⟩ ?_
                exact ev_law_b460 _ hrec s scr v2 v3 v4 v5 v6 v7 v8 v9 v10 v11 v12 v13 v15 v17 h hk
              · rw [if_neg hc298] at h
                refine Eval.ifF rfl (feq hc298).1 ?_
                cases h
                refine Eval.weak (L' := [none, none, none, none, none, none, none, none, none, none, none, none, none, none, none, none, none, none, none, none, none, none, none, none, none, none, none]) ⟨_, _, rfl, Or.inl rfl, _, _, rfl, Or.inl rfl, _, _, rfl, Or.inl rfl, _, _, rfl, Or.inl rfl, _, _, rfl, Or.inl rfl, _, _, rfl, Or.inl rfl, _, _, rfl, Or.inl rfl, _, _, rfl, Or.inl rfl, _, _, rfl, Or.inl rfl, _, _, rfl, Or.inl rfl, _, _, rfl, Or.inl rfl, _, _, rfl, Or.inl rfl, _, _, rfl, Or.inl rfl, _, _, rfl, Or.inl rfl, _, _, rfl, Or.inl rfl, _, _, rfl, Or.inl rfl, _, _, rfl, Or.inl rfl, _, _, rfl, Or.inl rfl, _, _, rfl, Or.inl rfl, _, _, rfl, Or.inl rfl, _, _, rfl, Or.inl rfl, _, _, rfl, Or.inl rfl, _, _, rfl, Or.inl rfl, _, _, rfl, Or.inl rfl, _, _, rfl, Or.inl rfl, _, _, rfl, Or.inl rfl, _, _, rfl, Or.inl rfl, rfl⟩ ?_
                exact hk
            · rw [if_neg hc267] at h
              refine Eval.icmpT (t := 458) rfl rfl (feq hc267).2 ?_
              cases h
              refine Eval.weak (L' := [none, none, none, none, none, none, none, none, none, none, none, none, none, none, none, none, none, none, none, none, none, none, none, none, none, none, none]) ⟨_, _, rfl, Or.inl rfl, _, _, rfl, Or.inl rfl, _, _, rfl, Or.inl rfl, _, _, rfl, Or.inl rfl, _, _, rfl, Or.inl rfl, _, _, rfl, Or.inl rfl, _, _, rfl, Or.inl rfl, _, _, rfl, Or.inl rfl, _, _, rfl, Or.inl rfl, _, _, rfl, Or.inl rfl, _, _, rfl, Or.inl rfl, _, _, rfl, Or.inl rfl, _, _, rfl, Or.inl rfl, _, _, rfl, Or.inl rfl, _, _, rfl, Or.inl rfl, _, _, rfl, Or.inl rfl, _, _, rfl, Or.inl rfl, _, _, rfl, Or.inl rfl, _, _, rfl, Or.inl rfl, _, _, rfl, Or.inl rfl, _, _, rfl, Or.inl rfl, _, _, rfl, Or.inl rfl, _, _, rfl, Or.inl rfl, _, _, rfl, Or.inl rfl, _, _, rfl, Or.inl rfl, _, _, rfl, Or.inl rfl, _, _, rfl, Or.inl rfl, rfl⟩ ?_
              exact hk
          · rw [if_neg hc264] at h
            refine Eval.icmpT (t := 458) rfl rfl (feq hc264).2 ?_
            cases h
            refine Eval.weak (L' := [none, none, none, none, none, none, none, none, none, none, none, none, none, none, none, none, none, none, none, none, none, none, none, none, none, none, none]) ⟨_, _, rfl, Or.inl rfl, _, _, rfl, Or.inl rfl, _, _, rfl, Or.inl rfl, _, _, rfl, Or.inl rfl, _, _, rfl, Or.inl rfl, _, _, rfl, Or.inl rfl, _, _, rfl, Or.inl rfl, _, _, rfl, Or.inl rfl, _, _, rfl, Or.inl rfl, _, _, rfl, Or.inl rfl, _, _, rfl, Or.inl rfl, _, _, rfl, Or.inl rfl, _, _, rfl, Or.inl rfl, _, _, rfl, Or.inl rfl, _, _, rfl, Or.inl rfl, _, _, rfl, Or.inl rfl, _, _, rfl, Or.inl rfl, _, _, rfl, Or.inl rfl, _, _, rfl, Or.inl rfl, _, _, rfl, Or.inl rfl, _, _, rfl, Or.inl rfl, _, _, rfl, Or.inl rfl, _, _, rfl, Or.inl rfl, _, _, rfl, Or.inl rfl, _, _, rfl, Or.inl rfl, _, _, rfl, Or.inl rfl, _, _, rfl, Or.inl rfl, rfl⟩ ?_
            exact hk
def j_step_b84 (s : Q) (v4 : Int32) : Option (Int32 × Q) := ((j_recordHistory s).bind fun p310 => some (v4, p310))
theorem ln_j_step_b84 {s : Q} {v4 : Int32} {res : Int32 × Q} (h : j_step_b84 s v4 = some res) : Q.len res.2 = Q.len s := by
  rw [j_step_b84] at h
  obtain ⟨p310, hq311, h⟩ := bind_some h
  have hl312 := (ln_j_recordHistory hq311).trans rfl
  have hr0 := Option.some.inj h
  subst hr0
  show Q.len p310 = _
  exact hl312
set_option maxRecDepth 100000 in
theorem ev_j_step_b84 (R : AHeap) (scr : List Int32) (s : Q) (v4 : Int32) {res : Int32 × Q} {out : Option Value × AHeap} (h : j_step_b84 s v4 = some res) (hk : out = (some (.int res.1), (W1 scr res.2 R))) : Eval own_P 6 84 [some (.ref 1), none, none, none, some (.int v4)] [] (W1 scr s R) out := by
  rw [j_step_b84] at h
  refine Eval.aload_n rfl rfl ?_
  obtain ⟨p310, hq311, h⟩ := bind_some h
  refine Eval.callN (rest := []) (H1 := (W1 scr p310 R)) rfl rfl (ev_j_recordHistory R scr s hq311 rfl) ?_
  refine Eval.iload rfl rfl ?_
  cases h
  subst hk
  exact Eval.ret rfl rfl
abbrev j_predecessorMcs_l9_K (R : AHeap) (scr : List Int32) (s : Q) (res : (Unit) ⊕ ((Int32) ⊕ (Unit))) (out : Option Value × AHeap) : Prop := Sum.elim (fun res => Eval own_P 26 23 [none, none, none, none] [] (W1 scr s R) out) (fun res => Sum.elim (fun res => Eval own_P 26 35 [none, none, some (.int res), none] [] (W1 scr s R) out) (fun res => Eval own_P 26 50 [none, none, none, none] [] (W1 scr s R) out) res) res

def j_predecessorMcs_l9 : Nat → Q → Int32 → Int32 → Int32 → Option ((Unit) ⊕ ((Int32) ⊕ (Unit)))
  | 0, _, _, _, _ => none
  | n + 1, s, v1, v2, v3 => (if v3 < (8 : Int32) then (if (j_inNodes v2) = (0 : Int32) then some (.inl ()) else (if inb s.f_nxt0.length v2 = true then (if (rd s.f_nxt0 v2) = v1 then some (.inr (.inl (v2))) else (if inb s.f_nxt0.length v2 = true then (j_predecessorMcs_l9 n s v1 (rd s.f_nxt0 v2) (v3 + (1 : Int32))) else none)) else none)) else some (.inr (.inr ())))
set_option maxRecDepth 100000 in
theorem ev_j_predecessorMcs_l9 (R : AHeap) (scr : List Int32) : ∀ (n : Nat) (s : Q) (v1 : Int32) (v2 : Int32) (v3 : Int32) {res : (Unit) ⊕ ((Int32) ⊕ (Unit))} {out : Option Value × AHeap}, j_predecessorMcs_l9 n s v1 v2 v3 = some res → j_predecessorMcs_l9_K R scr s res out → Eval own_P 26 9 [some (.ref 1), some (.int v1), some (.int v2), some (.int v3)] [] (W1 scr s R) out := by
  intro n
  induction n with
  | zero => intro _ _ _ _ res out h hk; cases h
  | succ n hrec =>
    intro s v1 v2 v3 res out h hk
    rw [j_predecessorMcs_l9] at h
    refine Eval.iload_n rfl rfl ?_
    refine Eval.bipush (x := (8 : Int32)) rfl rfl ?_
    by_cases hc325 : v3 < (8 : Int32)
    · rw [if_pos hc325] at h
      refine Eval.icmpF rfl (tlt hc325).2.1 ?_
      refine Eval.aload_n rfl rfl ?_
      refine Eval.iload_n rfl rfl ?_
      refine Eval.callI (rest := []) (x := (j_inNodes v2)) (H1 := (W1 scr s R)) rfl rfl (ev_j_inNodes (W1 scr s R) 1 v2 rfl rfl) ?_
      by_cases hc326 : (j_inNodes v2) = (0 : Int32)
      · rw [if_pos hc326] at h
        refine Eval.ifF rfl (teq hc326).2 ?_
        cases h
        refine Eval.weak (L' := [none, none, none, none]) ⟨_, _, rfl, Or.inl rfl, _, _, rfl, Or.inl rfl, _, _, rfl, Or.inl rfl, _, _, rfl, Or.inl rfl, rfl⟩ ?_
        exact hk
      · rw [if_neg hc326] at h
        refine Eval.ifT (t := 25) rfl rfl (feq hc326).2 ?_
        refine Eval.aload_n rfl rfl ?_
        refine Eval.getfield rfl rfl own_g1_nxt0 ?_
        refine Eval.iload_n rfl rfl ?_
        obtain ⟨hb327, h⟩ := ite_some h
        refine Eval.iaload rfl own_a1_nxt0 hb327 ?_
        refine Eval.iload_n rfl rfl ?_
        by_cases hc328 : (rd s.f_nxt0 v2) = v1
        · rw [if_pos hc328] at h
          refine Eval.icmpF rfl (teq hc328).2 ?_
          cases h
          refine Eval.weak (L' := [none, none, some (.int v2), none]) ⟨_, _, rfl, Or.inl rfl, _, _, rfl, Or.inl rfl, _, _, rfl, Or.inr rfl, _, _, rfl, Or.inl rfl, rfl⟩ ?_
          exact hk
        · rw [if_neg hc328] at h
          refine Eval.icmpT (t := 37) rfl rfl (feq hc328).2 ?_
          refine Eval.aload_n rfl rfl ?_
          refine Eval.getfield rfl rfl own_g1_nxt0 ?_
          refine Eval.iload_n rfl rfl ?_
          obtain ⟨hb329, h⟩ := ite_some h
          refine Eval.iaload rfl own_a1_nxt0 hb329 ?_
          refine Eval.istore_n (L' := [some (.ref 1), some (.int v1), some (.int (rd s.f_nxt0 v2)), some (.int v3)]) rfl rfl ?_
          refine Eval.iinc (L' := [some (.ref 1), some (.int v1), some (.int (rd s.f_nxt0 v2)), some (.int (v3 + (1 : Int32)))]) rfl rfl rfl ?_
          refine Eval.goto (t := 9) rfl rfl ?_
          exact hrec _ _ _ _ h hk
    · rw [if_neg hc325] at h
      refine Eval.icmpT (t := 50) rfl rfl (flt hc325).2.1 ?_
      cases h
      refine Eval.weak (L' := [none, none, none, none]) ⟨_, _, rfl, Or.inl rfl, _, _, rfl, Or.inl rfl, _, _, rfl, Or.inl rfl, _, _, rfl, Or.inl rfl, rfl⟩ ?_
      exact hk
def j_predecessorMcs (s : Q) (v1 : Int32) : Option (Int32) := (if inb s.f_head.length (0 : Int32) = true then ((j_predecessorMcs_l9 3000 s v1 (rd s.f_head (0 : Int32)) (0 : Int32)).bind fun p330 => Sum.elim (fun p332 => some ((-1 : Int32))) (fun p333 => Sum.elim (fun p334 => some (p334)) (fun p335 => some ((-1 : Int32))) p333) p330) else none)
set_option maxRecDepth 100000 in
theorem ev_j_predecessorMcs (R : AHeap) (scr : List Int32) (s : Q) (v1 : Int32) {res : Int32} {out : Option Value × AHeap} (h : j_predecessorMcs s v1 = some res) (hk : out = (some (.int res), (W1 scr s R))) : Eval own_P 26 0 [some (.ref 1), some (.int v1), none, none] [] (W1 scr s R) out := by
  rw [j_predecessorMcs] at h
  refine Eval.aload_n rfl rfl ?_
  refine Eval.getfield rfl rfl own_g1_head ?_
  refine Eval.iconst (x := (0 : Int32)) rfl rfl ?_
  obtain ⟨hb324, h⟩ := ite_some h
  refine Eval.iaload rfl own_a1_head hb324 ?_
  refine Eval.istore_n (L' := [some (.ref 1), some (.int v1), some (.int (rd s.f_head (0 : Int32))), none]) rfl rfl ?_
  refine Eval.iconst (x := (0 : Int32)) rfl rfl ?_
  refine Eval.istore_n (L' := [some (.ref 1), some (.int v1), some (.int (rd s.f_head (0 : Int32))), some (.int (0 : Int32))]) rfl rfl ?_
  obtain ⟨p330, hq331, h⟩ := bind_some h
  rcases p330 with p332 | p333
  · dsimp only [Sum.elim] at h
    refine ev_j_predecessorMcs_l9 R scr _ s v1 (rd s.f_head (0 : Int32)) (0 : Int32) hq331 ?_
    show Eval own_P 26 23 [none, none, none, none] [] (W1 scr s R) out
    refine Eval.iconst (x := (-1 : Int32)) rfl rfl ?_
    cases h
    subst hk
    exact Eval.ret rfl rfl
  · dsimp only [Sum.elim] at h
    rcases p333 with p334 | p335
    · dsimp only [Sum.elim] at h
      refine ev_j_predecessorMcs_l9 R scr _ s v1 (rd s.f_head (0 : Int32)) (0 : Int32) hq331 ?_
      show Eval own_P 26 35 [none, none, some (.int p334), none] [] (W1 scr s R) out
      refine Eval.iload_n rfl rfl ?_
      cases h
      subst hk
      exact Eval.ret rfl rfl
    · dsimp only [Sum.elim] at h
      refine ev_j_predecessorMcs_l9 R scr _ s v1 (rd s.f_head (0 : Int32)) (0 : Int32) hq331 ?_
      show Eval own_P 26 50 [none, none, none, none] [] (W1 scr s R) out
      refine Eval.iconst (x := (-1 : Int32)) rfl rfl ?_
      cases h
      subst hk
      exact Eval.ret rfl rfl
def j_unlink_b112 (s : Q) (v2 : Int32) : Option (Q) := (if inb s.f_len.length v2 = true then (if inb s.f_len.length v2 = true then some ((Q.mk s.f_st s.f_lk s.f_tmo s.f_spin s.f_nxt0 s.f_prv1 s.f_head s.f_tail (wr s.f_len v2 ((rd s.f_len v2) - (1 : Int32))) s.f_ent s.f_aband s.f_log s.f_hist s.f_n s.f_clk)) else none) else none)
theorem ln_j_unlink_b112 {s : Q} {v2 : Int32} {res : Q} (h : j_unlink_b112 s v2 = some res) : Q.len res = Q.len s := by
  rw [j_unlink_b112] at h
  obtain ⟨hb345, h⟩ := ite_some h
  obtain ⟨hb346, h⟩ := ite_some h
  have hr0 := Option.some.inj h
  subst hr0
  show Q.len (Q.mk s.f_st s.f_lk s.f_tmo s.f_spin s.f_nxt0 s.f_prv1 s.f_head s.f_tail (wr s.f_len v2 ((rd s.f_len v2) - (1 : Int32))) s.f_ent s.f_aband s.f_log s.f_hist s.f_n s.f_clk) = _
  exact (Eq.trans (show Q.len (Q.mk s.f_st s.f_lk s.f_tmo s.f_spin s.f_nxt0 s.f_prv1 s.f_head s.f_tail (wr s.f_len v2 ((rd s.f_len v2) - (1 : Int32))) s.f_ent s.f_aband s.f_log s.f_hist s.f_n s.f_clk) = Q.len s from own_lenmk.trans (by first | (simp only [len_wr, len_wrL] <;> rfl) | rfl)) rfl)
set_option maxRecDepth 100000 in
theorem ev_j_unlink_b112 (R : AHeap) (scr : List Int32) (s : Q) (v2 : Int32) {res : Q} {out : Option Value × AHeap} (h : j_unlink_b112 s v2 = some res) (hk : out = (none, (W1 scr res R))) : Eval own_P 25 112 [some (.ref 1), none, some (.int v2), none, none] [] (W1 scr s R) out := by
  rw [j_unlink_b112] at h
  refine Eval.aload_n rfl rfl ?_
  refine Eval.getfield rfl rfl own_g1_len ?_
  refine Eval.iload_n rfl rfl ?_
  refine Eval.aload_n rfl rfl ?_
  refine Eval.getfield rfl rfl own_g1_len ?_
  refine Eval.iload_n rfl rfl ?_
  obtain ⟨hb345, h⟩ := ite_some h
  refine Eval.iaload rfl own_a1_len hb345 ?_
  refine Eval.iconst (x := (1 : Int32)) rfl rfl ?_
  refine Eval.isub rfl ?_
  obtain ⟨hb346, h⟩ := ite_some h
  refine Eval.iastore rfl rfl own_a1_len hb346 own_s1_len ?_
  cases h
  subst hk
  exact Eval.retH own_mk1 rfl rfl
def j_unlink_b47 (s : Q) (v1 : Int32) (v2 : Int32) : Option (Q) := (if inb s.f_nxt0.length v1 = true then (j_unlink_b112 (Q.mk s.f_st s.f_lk s.f_tmo s.f_spin (wr s.f_nxt0 v1 (-1 : Int32)) s.f_prv1 s.f_head s.f_tail s.f_len s.f_ent s.f_aband s.f_log s.f_hist s.f_n s.f_clk) v2) else none)
theorem ln_j_unlink_b47 {s : Q} {v1 : Int32} {v2 : Int32} {res : Q} (h : j_unlink_b47 s v1 v2 = some res) : Q.len res = Q.len s := by
  rw [j_unlink_b47] at h
  obtain ⟨hb344, h⟩ := ite_some h
  exact Eq.trans (ln_j_unlink_b112 h) (Eq.trans (show Q.len (Q.mk s.f_st s.f_lk s.f_tmo s.f_spin (wr s.f_nxt0 v1 (-1 : Int32)) s.f_prv1 s.f_head s.f_tail s.f_len s.f_ent s.f_aband s.f_log s.f_hist s.f_n s.f_clk) = Q.len s from own_lenmk.trans (by first | (simp only [len_wr, len_wrL] <;> rfl) | rfl)) rfl)
set_option maxRecDepth 100000 in
theorem ev_j_unlink_b47 (R : AHeap) (scr : List Int32) (s : Q) (v1 : Int32) (v2 : Int32) {res : Q} {out : Option Value × AHeap} (h : j_unlink_b47 s v1 v2 = some res) (hk : out = (none, (W1 scr res R))) : Eval own_P 25 47 [some (.ref 1), some (.int v1), some (.int v2), none, none] [] (W1 scr s R) out := by
  rw [j_unlink_b47] at h
  refine Eval.aload_n rfl rfl ?_
  refine Eval.getfield rfl rfl own_g1_nxt0 ?_
  refine Eval.iload_n rfl rfl ?_
  refine Eval.iconst (x := (-1 : Int32)) rfl rfl ?_
  obtain ⟨hb344, h⟩ := ite_some h
  refine Eval.iastore rfl rfl own_a1_nxt0 hb344 own_s1_nxt0 ?_
  refine Eval.goto (t := 112) rfl rfl ?_
  refine Eval.heap own_mk1 ?_
  refine Eval.weak (L' := [some (.ref 1), none, some (.int v2), none, none]) ⟨_, _, rfl, Or.inr rfl, _, _, rfl, Or.inl rfl, _, _, rfl, Or.inr rfl, _, _, rfl, Or.inl rfl, _, _, rfl, Or.inl rfl, rfl⟩ ?_
  exact ev_j_unlink_b112 R scr (Q.mk s.f_st s.f_lk s.f_tmo s.f_spin (wr s.f_nxt0 v1 (-1 : Int32)) s.f_prv1 s.f_head s.f_tail s.f_len s.f_ent s.f_aband s.f_log s.f_hist s.f_n s.f_clk) v2 h hk
def j_unlink_b30 (s : Q) (v1 : Int32) (v2 : Int32) (v3 : Int32) : Option (Q) := (if inb s.f_tail.length (0 : Int32) = true then (if (rd s.f_tail (0 : Int32)) = v1 then (if inb s.f_tail.length (0 : Int32) = true then (j_unlink_b47 (Q.mk s.f_st s.f_lk s.f_tmo s.f_spin s.f_nxt0 s.f_prv1 s.f_head (wr s.f_tail (0 : Int32) v3) s.f_len s.f_ent s.f_aband s.f_log s.f_hist s.f_n s.f_clk) v1 v2) else none) else (j_unlink_b47 s v1 v2)) else none)
theorem ln_j_unlink_b30 {s : Q} {v1 : Int32} {v2 : Int32} {v3 : Int32} {res : Q} (h : j_unlink_b30 s v1 v2 v3 = some res) : Q.len res = Q.len s := by
  rw [j_unlink_b30] at h
  obtain ⟨hb340, h⟩ := ite_some h
  by_cases hc342 : (rd s.f_tail (0 : Int32)) = v1
  · rw [if_pos hc342] at h
    obtain ⟨hb343, h⟩ := ite_some h
    exact Eq.trans (ln_j_unlink_b47 h) (Eq.trans (show Q.len (Q.mk s.f_st s.f_lk s.f_tmo s.f_spin s.f_nxt0 s.f_prv1 s.f_head (wr s.f_tail (0 : Int32) v3) s.f_len s.f_ent s.f_aband s.f_log s.f_hist s.f_n s.f_clk) = Q.len s from own_lenmk.trans (by first | (simp only [len_wr, len_wrL] <;> rfl) | rfl)) rfl)
  · rw [if_neg hc342] at h
    exact Eq.trans (ln_j_unlink_b47 h) rfl
set_option maxRecDepth 100000 in
theorem ev_j_unlink_b30 (R : AHeap) (scr : List Int32) (s : Q) (v1 : Int32) (v2 : Int32) (v3 : Int32) {res : Q} {out : Option Value × AHeap} (h : j_unlink_b30 s v1 v2 v3 = some res) (hk : out = (none, (W1 scr res R))) : Eval own_P 25 30 [some (.ref 1), some (.int v1), some (.int v2), some (.int v3), none] [] (W1 scr s R) out := by
  rw [j_unlink_b30] at h
  refine Eval.aload_n rfl rfl ?_
  refine Eval.getfield rfl rfl own_g1_tail ?_
  refine Eval.iconst (x := (0 : Int32)) rfl rfl ?_
  obtain ⟨hb340, h⟩ := ite_some h
  refine Eval.iaload rfl own_a1_tail hb340 ?_
  refine Eval.iload_n rfl rfl ?_
  by_cases hc342 : (rd s.f_tail (0 : Int32)) = v1
  · rw [if_pos hc342] at h
    refine Eval.icmpF rfl (teq hc342).2 ?_
    refine Eval.aload_n rfl rfl ?_
    refine Eval.getfield rfl rfl own_g1_tail ?_
    refine Eval.iconst (x := (0 : Int32)) rfl rfl ?_
    refine Eval.iload_n rfl rfl ?_
    obtain ⟨hb343, h⟩ := ite_some h
    refine Eval.iastore rfl rfl own_a1_tail hb343 own_s1_tail ?_
    refine Eval.heap own_mk1 ?_
    refine Eval.weak (L' := [some (.ref 1), some (.int v1), some (.int v2), none, none]) ⟨_, _, rfl, Or.inr rfl, _, _, rfl, Or.inr rfl, _, _, rfl, Or.inr rfl, _, _, rfl, Or.inl rfl, _, _, rfl, Or.inl rfl, rfl⟩ ?_
    exact ev_j_unlink_b47 R scr (Q.mk s.f_st s.f_lk s.f_tmo s.f_spin s.f_nxt0 s.f_prv1 s.f_head (wr s.f_tail (0 : Int32) v3) s.f_len s.f_ent s.f_aband s.f_log s.f_hist s.f_n s.f_clk) v1 v2 h hk
  · rw [if_neg hc342] at h
    refine Eval.icmpT (t := 47) rfl rfl (feq hc342).2 ?_
    refine Eval.weak (L' := [some (.ref 1), some (.int v1), some (.int v2), none, none]) ⟨_, _, rfl, Or.inr rfl, _, _, rfl, Or.inr rfl, _, _, rfl, Or.inr rfl, _, _, rfl, Or.inl rfl, _, _, rfl, Or.inl rfl, rfl⟩ ?_
    exact ev_j_unlink_b47 R scr s v1 v2 h hk
def j_unlink_b105 (s : Q) (v1 : Int32) (v2 : Int32) : Option (Q) := (if inb s.f_prv1.length v1 = true then (j_unlink_b112 (Q.mk s.f_st s.f_lk s.f_tmo s.f_spin s.f_nxt0 (wr s.f_prv1 v1 (-1 : Int32)) s.f_head s.f_tail s.f_len s.f_ent s.f_aband s.f_log s.f_hist s.f_n s.f_clk) v2) else none)
theorem ln_j_unlink_b105 {s : Q} {v1 : Int32} {v2 : Int32} {res : Q} (h : j_unlink_b105 s v1 v2 = some res) : Q.len res = Q.len s := by
  rw [j_unlink_b105] at h
  obtain ⟨hb358, h⟩ := ite_some h
  exact Eq.trans (ln_j_unlink_b112 h) (Eq.trans (show Q.len (Q.mk s.f_st s.f_lk s.f_tmo s.f_spin s.f_nxt0 (wr s.f_prv1 v1 (-1 : Int32)) s.f_head s.f_tail s.f_len s.f_ent s.f_aband s.f_log s.f_hist s.f_n s.f_clk) = Q.len s from own_lenmk.trans (by first | (simp only [len_wr, len_wrL] <;> rfl) | rfl)) rfl)
set_option maxRecDepth 100000 in
theorem ev_j_unlink_b105 (R : AHeap) (scr : List Int32) (s : Q) (v1 : Int32) (v2 : Int32) {res : Q} {out : Option Value × AHeap} (h : j_unlink_b105 s v1 v2 = some res) (hk : out = (none, (W1 scr res R))) : Eval own_P 25 105 [some (.ref 1), some (.int v1), some (.int v2), none, none] [] (W1 scr s R) out := by
  rw [j_unlink_b105] at h
  refine Eval.aload_n rfl rfl ?_
  refine Eval.getfield rfl rfl own_g1_prv1 ?_
  refine Eval.iload_n rfl rfl ?_
  refine Eval.iconst (x := (-1 : Int32)) rfl rfl ?_
  obtain ⟨hb358, h⟩ := ite_some h
  refine Eval.iastore rfl rfl own_a1_prv1 hb358 own_s1_prv1 ?_
  refine Eval.heap own_mk1 ?_
  refine Eval.weak (L' := [some (.ref 1), none, some (.int v2), none, none]) ⟨_, _, rfl, Or.inr rfl, _, _, rfl, Or.inl rfl, _, _, rfl, Or.inr rfl, _, _, rfl, Or.inl rfl, _, _, rfl, Or.inl rfl, rfl⟩ ?_
  exact ev_j_unlink_b112 R scr (Q.mk s.f_st s.f_lk s.f_tmo s.f_spin s.f_nxt0 (wr s.f_prv1 v1 (-1 : Int32)) s.f_head s.f_tail s.f_len s.f_ent s.f_aband s.f_log s.f_hist s.f_n s.f_clk) v2 h hk
def j_unlink_b88 (s : Q) (v1 : Int32) (v2 : Int32) (v3 : Int32) : Option (Q) := (if inb s.f_tail.length (1 : Int32) = true then (if (rd s.f_tail (1 : Int32)) = v1 then (if inb s.f_tail.length (1 : Int32) = true then (j_unlink_b105 (Q.mk s.f_st s.f_lk s.f_tmo s.f_spin s.f_nxt0 s.f_prv1 s.f_head (wr s.f_tail (1 : Int32) v3) s.f_len s.f_ent s.f_aband s.f_log s.f_hist s.f_n s.f_clk) v1 v2) else none) else (j_unlink_b105 s v1 v2)) else none)
theorem ln_j_unlink_b88 {s : Q} {v1 : Int32} {v2 : Int32} {v3 : Int32} {res : Q} (h : j_unlink_b88 s v1 v2 v3 = some res) : Q.len res = Q.len s := by
  rw [j_unlink_b88] at h
  obtain ⟨hb354, h⟩ := ite_some h
  by_cases hc356 : (rd s.f_tail (1 : Int32)) = v1
  · rw [if_pos hc356] at h
    obtain ⟨hb357, h⟩ := ite_some h
    exact Eq.trans (ln_j_unlink_b105 h) (Eq.trans (show Q.len (Q.mk s.f_st s.f_lk s.f_tmo s.f_spin s.f_nxt0 s.f_prv1 s.f_head (wr s.f_tail (1 : Int32) v3) s.f_len s.f_ent s.f_aband s.f_log s.f_hist s.f_n s.f_clk) = Q.len s from own_lenmk.trans (by first | (simp only [len_wr, len_wrL] <;> rfl) | rfl)) rfl)
  · rw [if_neg hc356] at h
    exact Eq.trans (ln_j_unlink_b105 h) rfl
set_option maxRecDepth 100000 in
theorem ev_j_unlink_b88 (R : AHeap) (scr : List Int32) (s : Q) (v1 : Int32) (v2 : Int32) (v3 : Int32) {res : Q} {out : Option Value × AHeap} (h : j_unlink_b88 s v1 v2 v3 = some res) (hk : out = (none, (W1 scr res R))) : Eval own_P 25 88 [some (.ref 1), some (.int v1), some (.int v2), some (.int v3), none] [] (W1 scr s R) out := by
  rw [j_unlink_b88] at h
  refine Eval.aload_n rfl rfl ?_
  refine Eval.getfield rfl rfl own_g1_tail ?_
  refine Eval.iconst (x := (1 : Int32)) rfl rfl ?_
  obtain ⟨hb354, h⟩ := ite_some h
  refine Eval.iaload rfl own_a1_tail hb354 ?_
  refine Eval.iload_n rfl rfl ?_
  by_cases hc356 : (rd s.f_tail (1 : Int32)) = v1
  · rw [if_pos hc356] at h
    refine Eval.icmpF rfl (teq hc356).2 ?_
    refine Eval.aload_n rfl rfl ?_
    refine Eval.getfield rfl rfl own_g1_tail ?_
    refine Eval.iconst (x := (1 : Int32)) rfl rfl ?_
    refine Eval.iload_n rfl rfl ?_
    obtain ⟨hb357, h⟩ := ite_some h
    refine Eval.iastore rfl rfl own_a1_tail hb357 own_s1_tail ?_
    refine Eval.heap own_mk1 ?_
    refine Eval.weak (L' := [some (.ref 1), some (.int v1), some (.int v2), none, none]) ⟨_, _, rfl, Or.inr rfl, _, _, rfl, Or.inr rfl, _, _, rfl, Or.inr rfl, _, _, rfl, Or.inl rfl, _, _, rfl, Or.inl rfl, rfl⟩ ?_
    exact ev_j_unlink_b105 R scr (Q.mk s.f_st s.f_lk s.f_tmo s.f_spin s.f_nxt0 s.f_prv1 s.f_head (wr s.f_tail (1 : Int32) v3) s.f_len s.f_ent s.f_aband s.f_log s.f_hist s.f_n s.f_clk) v1 v2 h hk
  · rw [if_neg hc356] at h
    refine Eval.icmpT (t := 105) rfl rfl (feq hc356).2 ?_
    refine Eval.weak (L' := [some (.ref 1), some (.int v1), some (.int v2), none, none]) ⟨_, _, rfl, Or.inr rfl, _, _, rfl, Or.inr rfl, _, _, rfl, Or.inr rfl, _, _, rfl, Or.inl rfl, _, _, rfl, Or.inl rfl, rfl⟩ ?_
    exact ev_j_unlink_b105 R scr s v1 v2 h hk
def j_unlink (s : Q) (v1 : Int32) (v2 : Int32) : Option (Q) := (if v2 = (0 : Int32) then ((j_predecessorMcs s v1).bind fun p336 => (if (j_inNodes p336) = (0 : Int32) then (j_unlink_b30 s v1 v2 p336) else (if inb s.f_nxt0.length v1 = true then (if inb s.f_nxt0.length p336 = true then (j_unlink_b30 (Q.mk s.f_st s.f_lk s.f_tmo s.f_spin (wr s.f_nxt0 p336 (rd s.f_nxt0 v1)) s.f_prv1 s.f_head s.f_tail s.f_len s.f_ent s.f_aband s.f_log s.f_hist s.f_n s.f_clk) v1 v2 p336) else none) else none))) else (if inb s.f_prv1.length v1 = true then ((j_successorClh s v1).bind fun p350 => (if (j_inNodes p350) = (0 : Int32) then (j_unlink_b88 s v1 v2 (rd s.f_prv1 v1)) else (if inb s.f_prv1.length p350 = true then (j_unlink_b88 (Q.mk s.f_st s.f_lk s.f_tmo s.f_spin s.f_nxt0 (wr s.f_prv1 p350 (rd s.f_prv1 v1)) s.f_head s.f_tail s.f_len s.f_ent s.f_aband s.f_log s.f_hist s.f_n s.f_clk) v1 v2 (rd s.f_prv1 v1)) else none))) else none))
theorem ln_j_unlink {s : Q} {v1 : Int32} {v2 : Int32} {res : Q} (h : j_unlink s v1 v2 = some res) : Q.len res = Q.len s := by
  rw [j_unlink] at h
  by_cases hc323 : v2 = (0 : Int32)
  · rw [if_pos hc323] at h
    obtain ⟨p336, hq337, h⟩ := bind_some h
    by_cases hc339 : (j_inNodes p336) = (0 : Int32)
    · rw [if_pos hc339] at h
      exact Eq.trans (ln_j_unlink_b30 h) rfl
    · rw [if_neg hc339] at h
      obtain ⟨hb347, h⟩ := ite_some h
      obtain ⟨hb348, h⟩ := ite_some h
      exact Eq.trans (ln_j_unlink_b30 h) (Eq.trans (show Q.len (Q.mk s.f_st s.f_lk s.f_tmo s.f_spin (wr s.f_nxt0 p336 (rd s.f_nxt0 v1)) s.f_prv1 s.f_head s.f_tail s.f_len s.f_ent s.f_aband s.f_log s.f_hist s.f_n s.f_clk) = Q.len s from own_lenmk.trans (by first | (simp only [len_wr, len_wrL] <;> rfl) | rfl)) rfl)
  · rw [if_neg hc323] at h
    obtain ⟨hb349, h⟩ := ite_some h
    obtain ⟨p350, hq351, h⟩ := bind_some h
    by_cases hc353 : (j_inNodes p350) = (0 : Int32)
    · rw [if_pos hc353] at h
      exact Eq.trans (ln_j_unlink_b88 h) rfl
    · rw [if_neg hc353] at h
      obtain ⟨hb359, h⟩ := ite_some h
      exact Eq.trans (ln_j_unlink_b88 h) (Eq.trans (show Q.len (Q.mk s.f_st s.f_lk s.f_tmo s.f_spin s.f_nxt0 (wr s.f_prv1 p350 (rd s.f_prv1 v1)) s.f_head s.f_tail s.f_len s.f_ent s.f_aband s.f_log s.f_hist s.f_n s.f_clk) = Q.len s from own_lenmk.trans (by first | (simp only [len_wr, len_wrL] <;> rfl) | rfl)) rfl)
set_option maxRecDepth 100000 in
theorem ev_j_unlink (R : AHeap) (scr : List Int32) (s : Q) (v1 : Int32) (v2 : Int32) {res : Q} {out : Option Value × AHeap} (h : j_unlink s v1 v2 = some res) (hk : out = (none, (W1 scr res R))) : Eval own_P 25 0 [some (.ref 1), some (.int v1), some (.int v2), none, none] [] (W1 scr s R) out := by
  rw [j_unlink] at h
  refine Eval.iload_n rfl rfl ?_
  by_cases hc323 : v2 = (0 : Int32)
  · rw [if_pos hc323] at h
    refine Eval.ifF rfl (teq hc323).2 ?_
    refine Eval.aload_n rfl rfl ?_
    refine Eval.iload_n rfl rfl ?_
    obtain ⟨p336, hq337, h⟩ := bind_some h
    refine Eval.callI (rest := []) (x := p336) (H1 := (W1 scr s R)) rfl rfl (ev_j_predecessorMcs R scr s v1 hq337 rfl) ?_
    refine Eval.istore_n (L' := [some (.ref 1), some (.int v1), some (.int v2), some (.int p336), none]) rfl rfl ?_
    refine Eval.aload_n rfl rfl ?_
    refine Eval.iload_n rfl rfl ?_
    refine Eval.callI (rest := []) (x := (j_inNodes p336)) (H1 := (W1 scr s R)) rfl rfl (ev_j_inNodes (W1 scr s R) 1 p336 rfl rfl) ?_
    by_cases hc339 : (j_inNodes p336) = (0 : Int32)
    · rw [if_pos hc339] at h
      refine Eval.ifT (t := 30) rfl rfl (teq hc339).1 ?_
      exact ev_j_unlink_b30 R scr s v1 v2 p336 h hk
    · rw [if_neg hc339] at h
      refine Eval.ifF rfl (feq hc339).1 ?_
      refine Eval.aload_n rfl rfl ?_
      refine Eval.getfield rfl rfl own_g1_nxt0 ?_
      refine Eval.iload_n rfl rfl ?_
      refine Eval.aload_n rfl rfl ?_
      refine Eval.getfield rfl rfl own_g1_nxt0 ?_
      refine Eval.iload_n rfl rfl ?_
      obtain ⟨hb347, h⟩ := ite_some h
      refine Eval.iaload rfl own_a1_nxt0 hb347 ?_
      obtain ⟨hb348, h⟩ := ite_some h
      refine Eval.iastore rfl rfl own_a1_nxt0 hb348 own_s1_nxt0 ?_
      refine Eval.heap own_mk1 ?_
      exact ev_j_unlink_b30 R scr (Q.mk s.f_st s.f_lk s.f_tmo s.f_spin (wr s.f_nxt0 p336 (rd s.f_nxt0 v1)) s.f_prv1 s.f_head s.f_tail s.f_len s.f_ent s.f_aband s.f_log s.f_hist s.f_n s.f_clk) v1 v2 p336 h hk
  · rw [if_neg hc323] at h
    refine Eval.ifT (t := 57) rfl rfl (feq hc323).2 ?_
    refine Eval.aload_n rfl rfl ?_
    refine Eval.getfield rfl rfl own_g1_prv1 ?_
    refine Eval.iload_n rfl rfl ?_
    obtain ⟨hb349, h⟩ := ite_some h
    refine Eval.iaload rfl own_a1_prv1 hb349 ?_
    refine Eval.istore_n (L' := [some (.ref 1), some (.int v1), some (.int v2), some (.int (rd s.f_prv1 v1)), none]) rfl rfl ?_
    refine Eval.aload_n rfl rfl ?_
    refine Eval.iload_n rfl rfl ?_
    obtain ⟨p350, hq351, h⟩ := bind_some h
    refine Eval.callI (rest := []) (x := p350) (H1 := (W1 scr s R)) rfl rfl (ev_j_successorClh R scr s v1 hq351 rfl) ?_
    refine Eval.istore (L' := [some (.ref 1), some (.int v1), some (.int v2), some (.int (rd s.f_prv1 v1)), some (.int p350)]) rfl rfl ?_
    refine Eval.aload_n rfl rfl ?_
    refine Eval.iload rfl rfl ?_
    refine Eval.callI (rest := []) (x := (j_inNodes p350)) (H1 := (W1 scr s R)) rfl rfl (ev_j_inNodes (W1 scr s R) 1 p350 rfl rfl) ?_
    by_cases hc353 : (j_inNodes p350) = (0 : Int32)
    · rw [if_pos hc353] at h
      refine Eval.ifT (t := 88) rfl rfl (teq hc353).1 ?_
      refine Eval.weak (L' := [some (.ref 1), some (.int v1), some (.int v2), some (.int (rd s.f_prv1 v1)), none]) ⟨_, _, rfl, Or.inr rfl, _, _, rfl, Or.inr rfl, _, _, rfl, Or.inr rfl, _, _, rfl, Or.inr rfl, _, _, rfl, Or.inl rfl, rfl⟩ ?_
      exact ev_j_unlink_b88 R scr s v1 v2 (rd s.f_prv1 v1) h hk
    · rw [if_neg hc353] at h
      refine Eval.ifF rfl (feq hc353).1 ?_
      refine Eval.aload_n rfl rfl ?_
      refine Eval.getfield rfl rfl own_g1_prv1 ?_
      refine Eval.iload rfl rfl ?_
      refine Eval.iload_n rfl rfl ?_
      obtain ⟨hb359, h⟩ := ite_some h
      refine Eval.iastore rfl rfl own_a1_prv1 hb359 own_s1_prv1 ?_
      refine Eval.heap own_mk1 ?_
      refine Eval.weak (L' := [some (.ref 1), some (.int v1), some (.int v2), some (.int (rd s.f_prv1 v1)), none]) ⟨_, _, rfl, Or.inr rfl, _, _, rfl, Or.inr rfl, _, _, rfl, Or.inr rfl, _, _, rfl, Or.inr rfl, _, _, rfl, Or.inl rfl, rfl⟩ ?_
      exact ev_j_unlink_b88 R scr (Q.mk s.f_st s.f_lk s.f_tmo s.f_spin s.f_nxt0 (wr s.f_prv1 p350 (rd s.f_prv1 v1)) s.f_head s.f_tail s.f_len s.f_ent s.f_aband s.f_log s.f_hist s.f_n s.f_clk) v1 v2 (rd s.f_prv1 v1) h hk
def j_spinOnce (s : Q) (v1 : Int32) (v2 : Int32) : Option (Int32 × Q) := (if inb s.f_spin.length v1 = true then (if inb s.f_spin.length v1 = true then (if inb s.f_tmo.length v1 = true then (if (0 : Int32) < (rd s.f_tmo v1) then (if inb (wr s.f_spin v1 ((rd s.f_spin v1) + (1 : Int32))).length v1 = true then (if inb s.f_tmo.length v1 = true then (if (rd (wr s.f_spin v1 ((rd s.f_spin v1) + (1 : Int32))) v1) < (rd s.f_tmo v1) then some ((1 : Int32), (Q.mk s.f_st s.f_lk s.f_tmo (wr s.f_spin v1 ((rd s.f_spin v1) + (1 : Int32))) s.f_nxt0 s.f_prv1 s.f_head s.f_tail s.f_len s.f_ent s.f_aband s.f_log s.f_hist s.f_n s.f_clk)) else ((j_unlink (Q.mk s.f_st s.f_lk s.f_tmo (wr s.f_spin v1 ((rd s.f_spin v1) + (1 : Int32))) s.f_nxt0 s.f_prv1 s.f_head s.f_tail s.f_len s.f_ent s.f_aband s.f_log s.f_hist s.f_n s.f_clk) v1 v2).bind fun p360 => (if inb p360.f_st.length v1 = true then (if inb p360.f_lk.length v1 = true then (if inb p360.f_aband.length v2 = true then (if inb p360.f_aband.length v2 = true then some ((4 : Int32), (Q.mk (wr p360.f_st v1 (0 : Int32)) (wr p360.f_lk v1 (-1 : Int32)) p360.f_tmo p360.f_spin p360.f_nxt0 p360.f_prv1 p360.f_head p360.f_tail p360.f_len p360.f_ent (wr p360.f_aband v2 ((rd p360.f_aband v2) + (1 : Int32))) p360.f_log p360.f_hist p360.f_n p360.f_clk)) else none) else none) else none) else none))) else none) else none) else some ((1 : Int32), (Q.mk s.f_st s.f_lk s.f_tmo (wr s.f_spin v1 ((rd s.f_spin v1) + (1 : Int32))) s.f_nxt0 s.f_prv1 s.f_head s.f_tail s.f_len s.f_ent s.f_aband s.f_log s.f_hist s.f_n s.f_clk))) else none) else none) else none)
theorem ln_j_spinOnce {s : Q} {v1 : Int32} {v2 : Int32} {res : Int32 × Q} (h : j_spinOnce s v1 v2 = some res) : Q.len res.2 = Q.len s := by
  rw [j_spinOnce] at h
  obtain ⟨hb315, h⟩ := ite_some h
  obtain ⟨hb316, h⟩ := ite_some h
  obtain ⟨hb317, h⟩ := ite_some h
  by_cases hc318 : (0 : Int32) < (rd s.f_tmo v1)
  · rw [if_pos hc318] at h
    obtain ⟨hb319, h⟩ := ite_some h
    obtain ⟨hb320, h⟩ := ite_some h
    by_cases hc321 : (rd (wr s.f_spin v1 ((rd s.f_spin v1) + (1 : Int32))) v1) < (rd s.f_tmo v1)
    · rw [if_pos hc321] at h
      have hr0 := Option.some.inj h
      subst hr0
      show Q.len (Q.mk s.f_st s.f_lk s.f_tmo (wr s.f_spin v1 ((rd s.f_spin v1) + (1 : Int32))) s.f_nxt0 s.f_prv1 s.f_head s.f_tail s.f_len s.f_ent s.f_aband s.f_log s.f_hist s.f_n s.f_clk) = _
      exact (Eq.trans (show Q.len (Q.mk s.f_st s.f_lk s.f_tmo (wr s.f_spin v1 ((rd s.f_spin v1) + (1 : Int32))) s.f_nxt0 s.f_prv1 s.f_head s.f_tail s.f_len s.f_ent s.f_aband s.f_log s.f_hist s.f_n s.f_clk) = Q.len s from own_lenmk.trans (by first | (simp only [len_wr, len_wrL] <;> rfl) | rfl)) rfl)
    · rw [if_neg hc321] at h
      obtain ⟨p360, hq361, h⟩ := bind_some h
      have hl362 := (ln_j_unlink hq361).trans (Eq.trans (show Q.len (Q.mk s.f_st s.f_lk s.f_tmo (wr s.f_spin v1 ((rd s.f_spin v1) + (1 : Int32))) s.f_nxt0 s.f_prv1 s.f_head s.f_tail s.f_len s.f_ent s.f_aband s.f_log s.f_hist s.f_n s.f_clk) = Q.len s from own_lenmk.trans (by first | (simp only [len_wr, len_wrL] <;> rfl) | rfl)) rfl)
      obtain ⟨hb363, h⟩ := ite_some h
      obtain ⟨hb364, h⟩ := ite_some h
      obtain ⟨hb365, h⟩ := ite_some h
      obtain ⟨hb366, h⟩ := ite_some h
      have hr0 := Option.some.inj h
      subst hr0
      show Q.len (Q.mk (wr p360.f_st v1 (0 : Int32)) (wr p360.f_lk v1 (-1 : Int32)) p360.f_tmo p360.f_spin p360.f_nxt0 p360.f_prv1 p360.f_head p360.f_tail p360.f_len p360.f_ent (wr p360.f_aband v2 ((rd p360.f_aband v2) + (1 : Int32))) p360.f_log p360.f_hist p360.f_n p360.f_clk) = _
      exact (Eq.trans (show Q.len (Q.mk (wr p360.f_st v1 (0 : Int32)) (wr p360.f_lk v1 (-1 : Int32)) p360.f_tmo p360.f_spin p360.f_nxt0 p360.f_prv1 p360.f_head p360.f_tail p360.f_len p360.f_ent (wr p360.f_aband v2 ((rd p360.f_aband v2) + (1 : Int32))) p360.f_log p360.f_hist p360.f_n p360.f_clk) = Q.len p360 from own_lenmk.trans (by first | (simp only [len_wr, len_wrL] <;> rfl) | rfl)) hl362)
  · rw [if_neg hc318] at h
    have hr0 := Option.some.inj h
    subst hr0
    show Q.len (Q.mk s.f_st s.f_lk s.f_tmo (wr s.f_spin v1 ((rd s.f_spin v1) + (1 : Int32))) s.f_nxt0 s.f_prv1 s.f_head s.f_tail s.f_len s.f_ent s.f_aband s.f_log s.f_hist s.f_n s.f_clk) = _
    exact (Eq.trans (show Q.len (Q.mk s.f_st s.f_lk s.f_tmo (wr s.f_spin v1 ((rd s.f_spin v1) + (1 : Int32))) s.f_nxt0 s.f_prv1 s.f_head s.f_tail s.f_len s.f_ent s.f_aband s.f_log s.f_hist s.f_n s.f_clk) = Q.len s from own_lenmk.trans (by first | (simp only [len_wr, len_wrL] <;> rfl) | rfl)) rfl)
set_option maxRecDepth 100000 in
theorem ev_j_spinOnce (R : AHeap) (scr : List Int32) (s : Q) (v1 : Int32) (v2 : Int32) {res : Int32 × Q} {out : Option Value × AHeap} (h : j_spinOnce s v1 v2 = some res) (hk : out = (some (.int res.1), (W1 scr res.2 R))) : Eval own_P 24 0 [some (.ref 1), some (.int v1), some (.int v2)] [] (W1 scr s R) out := by
  rw [j_spinOnce] at h
  refine Eval.aload_n rfl rfl ?_
  refine Eval.getfield rfl rfl own_g1_spin ?_
  refine Eval.iload_n rfl rfl ?_
  refine Eval.aload_n rfl rfl ?_
  refine Eval.getfield rfl rfl own_g1_spin ?_
  refine Eval.iload_n rfl rfl ?_
  obtain ⟨hb315, h⟩ := ite_some h
  refine Eval.iaload rfl own_a1_spin hb315 ?_
  refine Eval.iconst (x := (1 : Int32)) rfl rfl ?_
  refine Eval.iadd rfl ?_
  obtain ⟨hb316, h⟩ := ite_some h
  refine Eval.iastore rfl rfl own_a1_spin hb316 own_s1_spin ?_
  refine Eval.aload_n rfl rfl ?_
  refine Eval.getfield rfl rfl own_g1_tmo ?_
  refine Eval.iload_n rfl rfl ?_
  obtain ⟨hb317, h⟩ := ite_some h
  refine Eval.iaload rfl own_a1_tmo hb317 ?_
  by_cases hc318 : (0 : Int32) < (rd s.f_tmo v1)
  · rw [if_pos hc318] at h
    refine Eval.ifF rfl (tlt hc318).2.2.2 ?_
    refine Eval.aload_n rfl rfl ?_
    refine Eval.getfield rfl rfl own_g1_spin ?_
    refine Eval.iload_n rfl rfl ?_
    obtain ⟨hb319, h⟩ := ite_some h
    refine Eval.iaload rfl own_a1_spin hb319 ?_
    refine Eval.aload_n rfl rfl ?_
    refine Eval.getfield rfl rfl own_g1_tmo ?_
    refine Eval.iload_n rfl rfl ?_
    obtain ⟨hb320, h⟩ := ite_some h
    refine Eval.iaload rfl own_a1_tmo hb320 ?_
    by_cases hc321 : (rd (wr s.f_spin v1 ((rd s.f_spin v1) + (1 : Int32))) v1) < (rd s.f_tmo v1)
    · rw [if_pos hc321] at h
      refine Eval.icmpT (t := 74) rfl rfl (tlt hc321).1 ?_
      refine Eval.iconst (x := (1 : Int32)) rfl rfl ?_
      cases h
      subst hk
      exact Eval.retH own_mk1 rfl rfl
    · rw [if_neg hc321] at h
      refine Eval.icmpF rfl (flt hc321).1 ?_
      refine Eval.aload_n rfl rfl ?_
      refine Eval.iload_n rfl rfl ?_
      refine Eval.iload_n rfl rfl ?_
      obtain ⟨p360, hq361, h⟩ := bind_some h
      refine Eval.callN (rest := []) (H1 := (W1 scr p360 R)) rfl rfl (Eval.heap own_mk1 (ev_j_unlink R scr (Q.mk s.f_st s.f_lk s.f_tmo (wr s.f_spin v1 ((rd s.f_spin v1) + (1 : Int32))) s.f_nxt0 s.f_prv1 s.f_head s.f_tail s.f_len s.f_ent s.f_aband s.f_log s.f_hist s.f_n s.f_clk) v1 v2 hq361 rfl)) ?_
      refine Eval.aload_n rfl rfl ?_
      refine Eval.getfield rfl rfl own_g1_st ?_
      refine Eval.iload_n rfl rfl ?_
      refine Eval.iconst (x := (0 : Int32)) rfl rfl ?_
      obtain ⟨hb363, h⟩ := ite_some h
      refine Eval.iastore rfl rfl own_a1_st hb363 own_s1_st ?_
      refine Eval.aload_n rfl rfl ?_
      refine Eval.getfield rfl rfl own_g1_lk ?_
      refine Eval.iload_n rfl rfl ?_
      refine Eval.iconst (x := (-1 : Int32)) rfl rfl ?_
      obtain ⟨hb364, h⟩ := ite_some h
      refine Eval.iastore rfl rfl own_a1_lk hb364 own_s1_lk ?_
      refine Eval.aload_n rfl rfl ?_
      refine Eval.getfield rfl rfl own_g1_aband ?_
      refine Eval.iload_n rfl rfl ?_
      refine Eval.aload_n rfl rfl ?_
      refine Eval.getfield rfl rfl own_g1_aband ?_
      refine Eval.iload_n rfl rfl ?_
      obtain ⟨hb365, h⟩ := ite_some h
      refine Eval.iaload rfl own_a1_aband hb365 ?_
      refine Eval.iconst (x := (1 : Int32)) rfl rfl ?_
      refine Eval.iadd rfl ?_
      obtain ⟨hb366, h⟩ := ite_some h
      refine Eval.iastore rfl rfl own_a1_aband hb366 own_s1_aband ?_
      refine Eval.iconst (x := (4 : Int32)) rfl rfl ?_
      cases h
      subst hk
      exact Eval.retH own_mk1 rfl rfl
  · rw [if_neg hc318] at h
    refine Eval.ifT (t := 74) rfl rfl (flt hc318).2.2.2 ?_
    refine Eval.iconst (x := (1 : Int32)) rfl rfl ?_
    cases h
    subst hk
    exact Eval.retH own_mk1 rfl rfl
def j_step (s : Q) (v1 : Int32) : Option (Int32 × Q) := (if (j_validThread s v1) = (0 : Int32) then some ((-2 : Int32), s) else (if inb s.f_st.length v1 = true then (if (rd s.f_st v1) = (0 : Int32) then some ((-2 : Int32), s) else (if inb s.f_lk.length v1 = true then (if inb s.f_st.length v1 = true then (if (rd s.f_st v1) = (2 : Int32) then (if inb s.f_st.length v1 = true then ((j_enter (Q.mk (wr s.f_st v1 (3 : Int32)) s.f_lk s.f_tmo s.f_spin s.f_nxt0 s.f_prv1 s.f_head s.f_tail s.f_len s.f_ent s.f_aband s.f_log s.f_hist s.f_n (s.f_clk + (1 : Int32))) v1 (rd s.f_lk v1)).bind fun p307 => (j_step_b84 p307 (3 : Int32))) else none) else (if (rd s.f_st v1) = (1 : Int32) then ((j_spinOnce (Q.mk s.f_st s.f_lk s.f_tmo s.f_spin s.f_nxt0 s.f_prv1 s.f_head s.f_tail s.f_len s.f_ent s.f_aband s.f_log s.f_hist s.f_n (s.f_clk + (1 : Int32))) v1 (rd s.f_lk v1)).bind fun p367 => (j_step_b84 p367.2 p367.1)) else (j_step_b84 (Q.mk s.f_st s.f_lk s.f_tmo s.f_spin s.f_nxt0 s.f_prv1 s.f_head s.f_tail s.f_len s.f_ent s.f_aband s.f_log s.f_hist s.f_n (s.f_clk + (1 : Int32))) (3 : Int32)))) else none) else none)) else none))
theorem ln_j_step {s : Q} {v1 : Int32} {res : Int32 × Q} (h : j_step s v1 = some res) : Q.len res.2 = Q.len s := by
  rw [j_step] at h
  by_cases hc299 : (j_validThread s v1) = (0 : Int32)
  · rw [if_pos hc299] at h
    have hr0 := Option.some.inj h
    subst hr0
    show Q.len s = _
    exact rfl
  · rw [if_neg hc299] at h
    obtain ⟨hb300, h⟩ := ite_some h
    by_cases hc301 : (rd s.f_st v1) = (0 : Int32)
    · rw [if_pos hc301] at h
      have hr0 := Option.some.inj h
      subst hr0
      show Q.len s = _
      exact rfl
    · rw [if_neg hc301] at h
      obtain ⟨hb302, h⟩ := ite_some h
      obtain ⟨hb303, h⟩ := ite_some h
      by_cases hc305 : (rd s.f_st v1) = (2 : Int32)
      · rw [if_pos hc305] at h
        obtain ⟨hb306, h⟩ := ite_some h
        obtain ⟨p307, hq308, h⟩ := bind_some h
        have hl309 := (ln_j_enter hq308).trans (Eq.trans (show Q.len (Q.mk (wr s.f_st v1 (3 : Int32)) s.f_lk s.f_tmo s.f_spin s.f_nxt0 s.f_prv1 s.f_head s.f_tail s.f_len s.f_ent s.f_aband s.f_log s.f_hist s.f_n (s.f_clk + (1 : Int32))) = Q.len s from own_lenmk.trans (by first | (simp only [len_wr, len_wrL] <;> rfl) | rfl)) rfl)
        exact Eq.trans (ln_j_step_b84 h) hl309
      · rw [if_neg hc305] at h
        by_cases hc314 : (rd s.f_st v1) = (1 : Int32)
        · rw [if_pos hc314] at h
          obtain ⟨p367, hq368, h⟩ := bind_some h
          have hl369 := (ln_j_spinOnce hq368).trans (Eq.trans (show Q.len (Q.mk s.f_st s.f_lk s.f_tmo s.f_spin s.f_nxt0 s.f_prv1 s.f_head s.f_tail s.f_len s.f_ent s.f_aband s.f_log s.f_hist s.f_n (s.f_clk + (1 : Int32))) = Q.len s from own_lenmk.trans (by first | (simp only [len_wr, len_wrL] <;> rfl) | rfl)) rfl)
          exact Eq.trans (ln_j_step_b84 h) hl369
        · rw [if_neg hc314] at h
          exact Eq.trans (ln_j_step_b84 h) (Eq.trans (show Q.len (Q.mk s.f_st s.f_lk s.f_tmo s.f_spin s.f_nxt0 s.f_prv1 s.f_head s.f_tail s.f_len s.f_ent s.f_aband s.f_log s.f_hist s.f_n (s.f_clk + (1 : Int32))) = Q.len s from own_lenmk.trans (by first | (simp only [len_wr, len_wrL] <;> rfl) | rfl)) rfl)
set_option maxRecDepth 100000 in
theorem ev_j_step (R : AHeap) (scr : List Int32) (s : Q) (v1 : Int32) {res : Int32 × Q} {out : Option Value × AHeap} (h : j_step s v1 = some res) (hk : out = (some (.int res.1), (W1 scr res.2 R))) : Eval own_P 6 0 [some (.ref 1), some (.int v1), none, none, none] [] (W1 scr s R) out := by
  rw [j_step] at h
  refine Eval.aload_n rfl rfl ?_
  refine Eval.iload_n rfl rfl ?_
  refine Eval.callI (rest := []) (x := (j_validThread s v1)) (H1 := (W1 scr s R)) rfl rfl (ev_j_validThread R scr s v1 rfl rfl) ?_
  by_cases hc299 : (j_validThread s v1) = (0 : Int32)
  · rw [if_pos hc299] at h
    refine Eval.ifF rfl (teq hc299).2 ?_
    refine Eval.bipush (x := (-2 : Int32)) rfl rfl ?_
    cases h
    subst hk
    exact Eval.ret rfl rfl
  · rw [if_neg hc299] at h
    refine Eval.ifT (t := 11) rfl rfl (feq hc299).2 ?_
    refine Eval.aload_n rfl rfl ?_
    refine Eval.getfield rfl rfl own_g1_st ?_
    refine Eval.iload_n rfl rfl ?_
    obtain ⟨hb300, h⟩ := ite_some h
    refine Eval.iaload rfl own_a1_st hb300 ?_
    by_cases hc301 : (rd s.f_st v1) = (0 : Int32)
    · rw [if_pos hc301] at h
      refine Eval.ifF rfl (teq hc301).2 ?_
      refine Eval.bipush (x := (-2 : Int32)) rfl rfl ?_
      cases h
      subst hk
      exact Eval.ret rfl rfl
    · rw [if_neg hc301] at h
      refine Eval.ifT (t := 23) rfl rfl (feq hc301).2 ?_
      refine Eval.aload_n rfl rfl ?_
      refine Eval.aload_n rfl rfl ?_
      refine Eval.getfield rfl rfl own_g1_clk ?_
      refine Eval.iconst (x := (1 : Int32)) rfl rfl ?_
      refine Eval.iadd rfl ?_
      refine Eval.putfield rfl rfl own_p1_clk ?_
      refine Eval.aload_n rfl rfl ?_
      refine Eval.getfield rfl rfl own_g1_lk ?_
      refine Eval.iload_n rfl rfl ?_
      obtain ⟨hb302, h⟩ := ite_some h
      refine Eval.iaload rfl own_a1_lk hb302 ?_
      refine Eval.istore_n (L' := [some (.ref 1), some (.int v1), some (.int (rd s.f_lk v1)), none, none]) rfl rfl ?_
      refine Eval.aload_n rfl rfl ?_
      refine Eval.getfield rfl rfl own_g1_st ?_
      refine Eval.iload_n rfl rfl ?_
      obtain ⟨hb303, h⟩ := ite_some h
      refine Eval.iaload rfl own_a1_st hb303 ?_
      refine Eval.istore_n (L' := [some (.ref 1), some (.int v1), some (.int (rd s.f_lk v1)), some (.int (rd s.f_st v1)), none]) rfl rfl ?_
      refine Eval.iconst (x := (3 : Int32)) rfl rfl ?_
      refine Eval.istore (L' := [some (.ref 1), some (.int v1), some (.int (rd s.f_lk v1)), some (.int (rd s.f_st v1)), some (.int (3 : Int32))]) rfl rfl ?_
      refine Eval.iload_n rfl rfl ?_
      refine Eval.iconst (x := (2 : Int32)) rfl rfl ?_
      by_cases hc305 : (rd s.f_st v1) = (2 : Int32)
      · rw [if_pos hc305] at h
        refine Eval.icmpF rfl (teq hc305).2 ?_
        refine Eval.aload_n rfl rfl ?_
        refine Eval.getfield rfl rfl own_g1_st ?_
        refine Eval.iload_n rfl rfl ?_
        refine Eval.iconst (x := (3 : Int32)) rfl rfl ?_
        obtain ⟨hb306, h⟩ := ite_some h
        refine Eval.iastore rfl rfl own_a1_st hb306 own_s1_st ?_
        refine Eval.aload_n rfl rfl ?_
        refine Eval.iload_n rfl rfl ?_
        refine Eval.iload_n rfl rfl ?_
        obtain ⟨p307, hq308, h⟩ := bind_some h
        refine Eval.callN (rest := []) (H1 := (W1 scr p307 R)) rfl rfl (Eval.heap own_mk1 (ev_j_enter R scr (Q.mk (wr s.f_st v1 (3 : Int32)) s.f_lk s.f_tmo s.f_spin s.f_nxt0 s.f_prv1 s.f_head s.f_tail s.f_len s.f_ent s.f_aband s.f_log s.f_hist s.f_n (s.f_clk + (1 : Int32))) v1 (rd s.f_lk v1) hq308 rfl)) ?_
        refine Eval.goto (t := 84) rfl rfl ?_
        refine Eval.weak (L' := [some (.ref 1), none, none, none, some (.int (3 : Int32))]) ⟨_, _, rfl, Or.inr rfl, _, _, rfl, Or.inl rfl, _, _, rfl, Or.inl rfl, _, _, rfl, Or.inl rfl, _, _, rfl, Or.inr rfl, rfl⟩ ?_
        exact ev_j_step_b84 R scr p307 (3 : Int32) h hk
      · rw [if_neg hc305] at h
        refine Eval.icmpT (t := 71) rfl rfl (feq hc305).2 ?_
        refine Eval.iload_n rfl rfl ?_
        refine Eval.iconst (x := (1 : Int32)) rfl rfl ?_
        by_cases hc314 : (rd s.f_st v1) = (1 : Int32)
        · rw [if_pos hc314] at h
          refine Eval.icmpF rfl (teq hc314).2 ?_
          refine Eval.aload_n rfl rfl ?_
          refine Eval.iload_n rfl rfl ?_
          refine Eval.iload_n rfl rfl ?_
          obtain ⟨p367, hq368, h⟩ := bind_some h
          refine Eval.callI (rest := []) (x := p367.1) (H1 := (W1 scr p367.2 R)) rfl rfl (Eval.heap own_mk1 (ev_j_spinOnce R scr (Q.mk s.f_st s.f_lk s.f_tmo s.f_spin s.f_nxt0 s.f_prv1 s.f_head s.f_tail s.f_len s.f_ent s.f_aband s.f_log s.f_hist s.f_n (s.f_clk + (1 : Int32))) v1 (rd s.f_lk v1) hq368 rfl)) ?_
          refine Eval.istore (L' := [some (.ref 1), some (.int v1), some (.int (rd s.f_lk v1)), some (.int (rd s.f_st v1)), some (.int p367.1)]) rfl rfl ?_
          refine Eval.weak (L' := [some (.ref 1), none, none, none, some (.int p367.1)]) ⟨_, _, rfl, Or.inr rfl, _, _, rfl, Or.inl rfl, _, _, rfl, Or.inl rfl, _, _, rfl, Or.inl rfl, _, _, rfl, Or.inr rfl, rfl⟩ ?_
          exact ev_j_step_b84 R scr p367.2 p367.1 h hk
        · rw [if_neg hc314] at h
          refine Eval.icmpT (t := 84) rfl rfl (feq hc314).2 ?_
          refine Eval.heap own_mk1 ?_
          refine Eval.weak (L' := [some (.ref 1), none, none, none, some (.int (3 : Int32))]) ⟨_, _, rfl, Or.inr rfl, _, _, rfl, Or.inl rfl, _, _, rfl, Or.inl rfl, _, _, rfl, Or.inl rfl, _, _, rfl, Or.inr rfl, rfl⟩ ?_
          exact ev_j_step_b84 R scr (Q.mk s.f_st s.f_lk s.f_tmo s.f_spin s.f_nxt0 s.f_prv1 s.f_head s.f_tail s.f_len s.f_ent s.f_aband s.f_log s.f_hist s.f_n (s.f_clk + (1 : Int32))) (3 : Int32) h hk
def law_b521 (go_ : Q → List Int32 → Int32 → Int32 → Int32 → Int32 → Int32 → Int32 → Int32 → Int32 → Int32 → Int32 → Int32 → Int64 → Int32 → Option ((Q) ⊕ ((Q) ⊕ ((Q) ⊕ ((Q) ⊕ ((Q) ⊕ ((Q) ⊕ ((Q) ⊕ ((Q) ⊕ ((Q) ⊕ ((Q) ⊕ ((Q) ⊕ ((Q) ⊕ ((Q) ⊕ ((Q) ⊕ ((Q) ⊕ ((Q) ⊕ ((Q) ⊕ (Q))))))))))))))))))) (s : Q) (scr : List Int32) (v2 : Int32) (v3 : Int32) (v4 : Int32) (v5 : Int32) (v6 : Int32) (v7 : Int32) (v8 : Int32) (v9 : Int32) (v10 : Int32) (v11 : Int32) (v12 : Int32) (v13 : Int64) (v15 : Int32) (v17 : Int32) (v20 : Int32) (v21 : Int32) (v24 : Int32) : Option ((Q) ⊕ ((Q) ⊕ ((Q) ⊕ ((Q) ⊕ ((Q) ⊕ ((Q) ⊕ ((Q) ⊕ ((Q) ⊕ ((Q) ⊕ ((Q) ⊕ ((Q) ⊕ ((Q) ⊕ ((Q) ⊕ ((Q) ⊕ ((Q) ⊕ ((Q) ⊕ ((Q) ⊕ (Q)))))))))))))))))) := (if v24 = (3 : Int32) then (law_b659 (go_) s scr v2 (if v20 = (2 : Int32) then (if v21 = (0 : Int32) then (v3 + (1 : Int32)) else v3) else v3) (if v20 = (2 : Int32) then (if v21 = (0 : Int32) then v4 else (v4 + (1 : Int32))) else v4) v5 v6 v7 v8 (if v20 = (2 : Int32) then (if v21 = (0 : Int32) then v17 else v9) else v9) (if v20 = (2 : Int32) then (if v21 = (0 : Int32) then v10 else v17) else v10) (if v20 = (2 : Int32) then (if v21 = (0 : Int32) then v17 else v11) else v11) (if v20 = (2 : Int32) then (if v21 = (0 : Int32) then v12 else v17) else v12) v13 v15) else some (.inr (.inr (.inr (.inr (.inr (.inr (.inr (.inr (.inl (s)))))))))))
set_option maxRecDepth 100000 in
theorem ev_law_b521 (go_ : Q → List Int32 → Int32 → Int32 → Int32 → Int32 → Int32 → Int32 → Int32 → Int32 → Int32 → Int32 → Int32 → Int64 → Int32 → Option ((Q) ⊕ ((Q) ⊕ ((Q) ⊕ ((Q) ⊕ ((Q) ⊕ ((Q) ⊕ ((Q) ⊕ ((Q) ⊕ ((Q) ⊕ ((Q) ⊕ ((Q) ⊕ ((Q) ⊕ ((Q) ⊕ ((Q) ⊕ ((Q) ⊕ ((Q) ⊕ ((Q) ⊕ (Q))))))))))))))))))) (hrec : ∀ (s : Q) (scr : List Int32) (v2 : Int32) (v3 : Int32) (v4 : Int32) (v5 : Int32) (v6 : Int32) (v7 : Int32) (v8 : Int32) (v9 : Int32) (v10 : Int32) (v11 : Int32) (v12 : Int32) (v13 : Int64) (v15 : Int32) {res : (Q) ⊕ ((Q) ⊕ ((Q) ⊕ ((Q) ⊕ ((Q) ⊕ ((Q) ⊕ ((Q) ⊕ ((Q) ⊕ ((Q) ⊕ ((Q) ⊕ ((Q) ⊕ ((Q) ⊕ ((Q) ⊕ ((Q) ⊕ ((Q) ⊕ ((Q) ⊕ ((Q) ⊕ (Q)))))))))))))))))} {out : Option Value × AHeap}, go_ s scr v2 v3 v4 v5 v6 v7 v8 v9 v10 v11 v12 v13 v15 = some res → law_l46_K scr res out → Eval own_P 0 46 [some (.ref 0), some (.ref 1), some (.int v2), some (.int v3), some (.int v4), some (.int v5), some (.int v6), some (.int v7), some (.int v8), some (.int v9), some (.int v10), some (.int v11), some (.int v12), some (.long v13), none, some (.int v15), none, none, none, none, none, none, none, none, none, none, none] [] (W1 scr s []) out) (s : Q) (scr : List Int32) (v2 : Int32) (v3 : Int32) (v4 : Int32) (v5 : Int32) (v6 : Int32) (v7 : Int32) (v8 : Int32) (v9 : Int32) (v10 : Int32) (v11 : Int32) (v12 : Int32) (v13 : Int64) (v15 : Int32) (v17 : Int32) (v20 : Int32) (v21 : Int32) (v24 : Int32) {res : (Q) ⊕ ((Q) ⊕ ((Q) ⊕ ((Q) ⊕ ((Q) ⊕ ((Q) ⊕ ((Q) ⊕ ((Q) ⊕ ((Q) ⊕ ((Q) ⊕ ((Q) ⊕ ((Q) ⊕ ((Q) ⊕ ((Q) ⊕ ((Q) ⊕ ((Q) ⊕ ((Q) ⊕ (Q)))))))))))))))))} {out : Option Value × AHeap} (h : law_b521 go_ s scr v2 v3 v4 v5 v6 v7 v8 v9 v10 v11 v12 v13 v15 v17 v20 v21 v24 = some res) (hk : law_l46_K scr res out) : Eval own_P 0 521 [some (.ref 0), some (.ref 1), some (.int v2), some (.int v3), some (.int v4), some (.int v5), some (.int v6), some (.int v7), some (.int v8), some (.int v9), some (.int v10), some (.int v11), some (.int v12), some (.long v13), none, some (.int v15), none, some (.int v17), none, none, some (.int v20), some (.int v21), none, none, some (.int v24), none, none] [] (W1 scr s []) out := by
  rw [law_b521] at h
  refine Eval.iload rfl rfl ?_
  refine Eval.iconst (x := (3 : Int32)) rfl rfl ?_
  by_cases hc375 : v24 = (3 : Int32)
  · rw [if_pos hc375] at h
    refine Eval.icmpT (t := 529) rfl rfl (teq hc375).1 ?_
    refine Eval.iload rfl rfl ?_
    refine Eval.iconst (x := (2 : Int32)) rfl rfl ?_
    suffices hJ378 : Eval own_P 0 659 [some (.ref 0), some (.ref 1), some (.int v2), some (.int (if v20 = (2 : Int32) then (if v21 = (0 : Int32) then (v3 + (1 : Int32)) else v3) else v3)), some (.int (if v20 = (2 : Int32) then (if v21 = (0 : Int32) then v4 else (v4 + (1 : Int32))) else v4)), some (.int v5), some (.int v6), some (.int v7), some (.int v8), some (.int (if v20 = (2 : Int32) then (if v21 = (0 : Int32) then v17 else v9) else v9)), some (.int (if v20 = (2 : Int32) then (if v21 = (0 : Int32) then v10 else v17) else v10)), some (.int (if v20 = (2 : Int32) then (if v21 = (0 : Int32) then v17 else v11) else v11)), some (.int (if v20 = (2 : Int32) then (if v21 = (0 : Int32) then v12 else v17) else v12)), some (.long v13), none, some (.int v15), none, none, none, none, none, none, none, none, none, none, none] [] (W1 scr s []) out by
      by_cases hc376 : v20 = (2 : Int32)
      · refine Eval.icmpF rfl (teq hc376).2 ?_
        refine Eval.iload rfl rfl ?_
        by_cases hc377 : v21 = (0 : Int32)
        · refine Eval.ifF rfl (teq hc377).2 ?_
          refine Eval.iinc (L' := [some (.ref 0), some (.ref 1), some (.int v2), some (.int (v3 + (1 : Int32))), some (.int v4), some (.int v5), some (.int v6), some (.int v7), some (.int v8), some (.int v9), some (.int v10), some (.int v11), some (.int v12), some (.long v13), none, some (.int v15), none, some (.int v17), none, none, some (.int v20), some (.int v21), none, none, some (.int v24), none, none]) rfl rfl rfl ?_
          refine Eval.iload rfl rfl ?_
          refine Eval.istore (L' := [some (.ref 0), some (.ref 1), some (.int v2), some (.int (v3 + (1 : Int32))), some (.int v4), some (.int v5), some (.int v6), some (.int v7), some (.int v8), some (.int v17), some (.int v10), some (.int v11), some (.int v12), some (.long v13), none, some (.int v15), none, some (.int v17), none, none, some (.int v20), some (.int v21), none, none, some (.int v24), none, none]) rfl rfl ?_
          refine Eval.iload rfl rfl ?_
          refine Eval.istore (L' := [some (.ref 0), some (.ref 1), some (.int v2), some (.int (v3 + (1 : Int32))), some (.int v4), some (.int v5), some (.int v6), some (.int v7), some (.int v8), some (.int v17), some (.int v10), some (.int v17), some (.int v12), some (.long v13), none, some (.int v15), none, some (.int v17), none, none, some (.int v20), some (.int v21), none, none, some (.int v24), none, none]) rfl rfl ?_
          refine Eval.goto (t := 659) rfl rfl ?_
          refine Eval.weak (L' := [some (.ref 0), some (.ref 1), some (.int v2), some (.int (v3 + (1 : Int32))), some (.int v4), some (.int v5), some (.int v6), some (.int v7), some (.int v8), some (.int v17), some (.int v10), some (.int v17), some (.int v12), some (.long v13), none, some (.int v15), none, none, none, none, none, none, none, none, none, none, none]) ⟨_, _, rfl, Or.inr rfl, _, _, rfl, Or.inr rfl, _, _, rfl, Or.inr rfl, _, _, rfl, Or.inr rfl, _, _, rfl, Or.inr rfl, _, _, rfl, Or.inr rfl, _, _, rfl, Or.inr rfl, _, _, rfl, Or.inr rfl, _, _, rfl, Or.inr rfl, _, _, rfl, Or.inr rfl, _, _, rfl, Or.inr rfl, _, _, rfl, Or.inr rfl, _, _, rfl, Or.inr rfl, _, _, rfl, Or.inr rfl, _, _, rfl, Or.inl rfl, _, _, rfl, Or.inr rfl, _, _, rfl, Or.inl rfl, _, _, rfl, Or.inl rfl, _, _, rfl, Or.inl rfl, _, _, rfl, Or.inl rfl, _, _, rfl, Or.inl rfl, _, _, rfl, Or.inl rfl, _, _, rfl, Or.inl rfl, _, _, rfl, Or.inl rfl, _, _, rfl, Or.inl rfl, _, _, rfl, Or.inl rfl, _, _, rfl, Or.inl rfl, rfl⟩ ?_
          exact (Eval.conv hJ378 (by simp only [if_pos hc376, if_pos hc377]) rfl)
        · refine Eval.ifT (t := 554) rfl rfl (feq hc377).2 ?_
          refine Eval.iinc (L' := [some (.ref 0), some (.ref 1), some (.int v2), some (.int v3), some (.int (v4 + (1 : Int32))), some (.int v5), some (.int v6), some (.int v7), some (.int v8), some (.int v9), some (.int v10), some (.int v11), some (.int v12), some (.long v13), none, some (.int v15), none, some (.int v17), none, none, some (.int v20), some (.int v21), none, none, some (.int v24), none, none]) rfl rfl rfl ?_
          refine Eval.iload rfl rfl ?_
          refine Eval.istore (L' := [some (.ref 0), some (.ref 1), some (.int v2), some (.int v3), some (.int (v4 + (1 : Int32))), some (.int v5), some (.int v6), some (.int v7), some (.int v8), some (.int v9), some (.int v17), some (.int v11), some (.int v12), some (.long v13), none, some (.int v15), none, some (.int v17), none, none, some (.int v20), some (.int v21), none, none, some (.int v24), none, none]) rfl rfl ?_
          refine Eval.iload rfl rfl ?_
          refine Eval.istore (L' := [some (.ref 0), some (.ref 1), some (.int v2), some (.int v3), some (.int (v4 + (1 : Int32))), some (.int v5), some (.int v6), some (.int v7), some (.int v8), some (.int v9), some (.int v17), some (.int v11), some (.int v17), some (.long v13), none, some (.int v15), none, some (.int v17), none, none, some (.int v20), some (.int v21), none, none, some (.int v24), none, none]) rfl rfl ?_
          refine Eval.goto (t := 659) rfl rfl ?_
          refine Eval.weak (L' := [some (.ref 0), some (.ref 1), some (.int v2), some (.int v3), some (.int (v4 + (1 : Int32))), some (.int v5), some (.int v6), some (.int v7), some (.int v8), some (.int v9), some (.int v17), some (.int v11), some (.int v17), some (.long v13), none, some (.int v15), none, none, none, none, none, none, none, none, none, none, none]) ⟨_, _, rfl, Or.inr rfl, _, _, rfl, Or.inr rfl, _, _, rfl, Or.inr rfl, _, _, rfl, Or.inr rfl, _, _, rfl, Or.inr rfl, _, _, rfl, Or.inr rfl, _, _, rfl, Or.inr rfl, _, _, rfl, Or.inr rfl, _, _, rfl, Or.inr rfl, _, _, rfl, Or.inr rfl, _, _, rfl, Or.inr rfl, _, _, rfl, Or.inr rfl, _, _, rfl, Or.inr rfl, _, _, rfl, Or.inr rfl, _, _, rfl, Or.inl rfl, _, _, rfl, Or.inr rfl, _, _, rfl, Or.inl rfl, _, _, rfl, Or.inl rfl, _, _, rfl, Or.inl rfl, _, _, rfl, Or.inl rfl, _, _, rfl, Or.inl rfl, _, _, rfl, Or.inl rfl, _, _, rfl, Or.inl rfl, _, _, rfl, Or.inl rfl, _, _, rfl, Or.inl rfl, _, _, rfl, Or.inl rfl, _, _, rfl, Or.inl rfl, rfl⟩ ?_
          exact (Eval.conv hJ378 (by simp only [if_pos hc376, if_neg hc377]) rfl)
      · refine Eval.icmpT (t := 659) rfl rfl (feq hc376).2 ?_
        refine Eval.weak (L' := [some (.ref 0), some (.ref 1), some (.int v2), some (.int v3), some (.int v4), some (.int v5), some (.int v6), some (.int v7), some (.int v8), some (.int v9), some (.int v10), some (.int v11), some (.int v12), some (.long v13), none, some (.int v15), none, none, none, none, none, none, none, none, none, none, none]) ⟨_, _, rfl, Or.inr rfl, _, _, rfl, Or.inr rfl, _, _, rfl, Or.inr rfl, _, _, rfl, Or.inr rfl, _, _, rfl, Or.inr rfl, _, _, rfl, Or.inr rfl, _, _, rfl, Or.inr rfl, _, _, rfl, Or.inr rfl, _, _, rfl, Or.inr rfl, _, _, rfl, Or.inr rfl, _, _, rfl, Or.inr rfl, _, _, rfl, Or.inr rfl, _, _, rfl, Or.inr rfl, _, _, rfl, Or.inr rfl, _, _, rfl, Or.inl rfl, _, _, rfl, Or.inr rfl, _, _, rfl, Or.inl rfl, _, _, rfl, Or.inl rfl, _, _, rfl, Or.inl rfl, _, _, rfl, Or.inl rfl, _, _, rfl, Or.inl rfl, _, _, rfl, Or.inl rfl, _, _, rfl, Or.inl rfl, _, _, rfl, Or.inl rfl, _, _, rfl, Or.inl rfl, _, _, rfl, Or.inl rfl, _, _, rfl, Or.inl rfl, rfl⟩ ?_
        exact (Eval.conv hJ378 (by simp only [if_neg hc376]) rfl)
    exact ev_law_b659 _ hrec s scr v2 (if v20 = (2 : Int32) then (if v21 = (0 : Int32) then (v3 + (1 : Int32)) else v3) else v3) (if v20 = (2 : Int32) then (if v21 = (0 : Int32) then v4 else (v4 + (1 : Int32))) else v4) v5 v6 v7 v8 (if v20 = (2 : Int32) then (if v21 = (0 : Int32) then v17 else v9) else v9) (if v20 = (2 : Int32) then (if v21 = (0 : Int32) then v10 else v17) else v10) (if v20 = (2 : Int32) then (if v21 = (0 : Int32) then v17 else v11) else v11) (if v20 = (2 : Int32) then (if v21 = (0 : Int32) then v12 else v17) else v12) v13 v15 h hk
  · rw [if_neg hc375] at h
    refine Eval.icmpF rfl (feq hc375).1 ?_
    cases h
    refine Eval.weak (L' := [none, none, none, none, none, none, none, none, none, none, none, none, none, none, none, none, none, none, none, none, none, none, none, none, none, none, none]) ⟨_, _, rfl, Or.inl rfl, _, _, rfl, Or.inl rfl, _, _, rfl, Or.inl rfl, _, _, rfl, Or.inl rfl, _, _, rfl, Or.inl rfl, _, _, rfl, Or.inl rfl, _, _, rfl, Or.inl rfl, _, _, rfl, Or.inl rfl, _, _, rfl, Or.inl rfl, _, _, rfl, Or.inl rfl, _, _, rfl, Or.inl rfl, _, _, rfl, Or.inl rfl, _, _, rfl, Or.inl rfl, _, _, rfl, Or.inl rfl, _, _, rfl, Or.inl rfl, _, _, rfl, Or.inl rfl, _, _, rfl, Or.inl rfl, _, _, rfl, Or.inl rfl, _, _, rfl, Or.inl rfl, _, _, rfl, Or.inl rfl, _, _, rfl, Or.inl rfl, _, _, rfl, Or.inl rfl, _, _, rfl, Or.inl rfl, _, _, rfl, Or.inl rfl, _, _, rfl, Or.inl rfl, _, _, rfl, Or.inl rfl, _, _, rfl, Or.inl rfl, rfl⟩ ?_
    exact hk
def law_b616 (go_ : Q → List Int32 → Int32 → Int32 → Int32 → Int32 → Int32 → Int32 → Int32 → Int32 → Int32 → Int32 → Int32 → Int64 → Int32 → Option ((Q) ⊕ ((Q) ⊕ ((Q) ⊕ ((Q) ⊕ ((Q) ⊕ ((Q) ⊕ ((Q) ⊕ ((Q) ⊕ ((Q) ⊕ ((Q) ⊕ ((Q) ⊕ ((Q) ⊕ ((Q) ⊕ ((Q) ⊕ ((Q) ⊕ ((Q) ⊕ ((Q) ⊕ (Q))))))))))))))))))) (s : Q) (scr : List Int32) (v2 : Int32) (v3 : Int32) (v4 : Int32) (v5 : Int32) (v6 : Int32) (v7 : Int32) (v8 : Int32) (v9 : Int32) (v10 : Int32) (v11 : Int32) (v12 : Int32) (v13 : Int64) (v15 : Int32) (v17 : Int32) (v21 : Int32) (v22 : Int32) (v26 : Int32) (w0 : Int32) (w1 : Int32) : Option ((Q) ⊕ ((Q) ⊕ ((Q) ⊕ ((Q) ⊕ ((Q) ⊕ ((Q) ⊕ ((Q) ⊕ ((Q) ⊕ ((Q) ⊕ ((Q) ⊕ ((Q) ⊕ ((Q) ⊕ ((Q) ⊕ ((Q) ⊕ ((Q) ⊕ ((Q) ⊕ ((Q) ⊕ (Q)))))))))))))))))) := (if w0 = w1 then ((j_spins s v17).bind fun p386 => (if p386 = (v22 + (1 : Int32)) then (law_b659 (go_) s scr v2 v3 v4 (if v26 = (0 : Int32) then v5 else (if v21 = (0 : Int32) then (v5 + (1 : Int32)) else v5)) (if v26 = (0 : Int32) then v6 else (if v21 = (0 : Int32) then v6 else (v6 + (1 : Int32)))) (if v26 = (0 : Int32) then v7 else (if v21 = (0 : Int32) then (v7 + (-1 : Int32)) else v7)) (if v26 = (0 : Int32) then v8 else (if v21 = (0 : Int32) then v8 else (v8 + (-1 : Int32)))) v9 v10 v11 v12 v13 v15) else some (.inr (.inr (.inr (.inr (.inr (.inr (.inr (.inr (.inr (.inl (s))))))))))))) else some (.inr (.inr (.inr (.inr (.inr (.inr (.inr (.inr (.inr (.inl (s))))))))))))
set_option maxRecDepth 100000 in
theorem ev_law_b616 (go_ : Q → List Int32 → Int32 → Int32 → Int32 → Int32 → Int32 → Int32 → Int32 → Int32 → Int32 → Int32 → Int32 → Int64 → Int32 → Option ((Q) ⊕ ((Q) ⊕ ((Q) ⊕ ((Q) ⊕ ((Q) ⊕ ((Q) ⊕ ((Q) ⊕ ((Q) ⊕ ((Q) ⊕ ((Q) ⊕ ((Q) ⊕ ((Q) ⊕ ((Q) ⊕ ((Q) ⊕ ((Q) ⊕ ((Q) ⊕ ((Q) ⊕ (Q))))))))))))))))))) (hrec : ∀ (s : Q) (scr : List Int32) (v2 : Int32) (v3 : Int32) (v4 : Int32) (v5 : Int32) (v6 : Int32) (v7 : Int32) (v8 : Int32) (v9 : Int32) (v10 : Int32) (v11 : Int32) (v12 : Int32) (v13 : Int64) (v15 : Int32) {res : (Q) ⊕ ((Q) ⊕ ((Q) ⊕ ((Q) ⊕ ((Q) ⊕ ((Q) ⊕ ((Q) ⊕ ((Q) ⊕ ((Q) ⊕ ((Q) ⊕ ((Q) ⊕ ((Q) ⊕ ((Q) ⊕ ((Q) ⊕ ((Q) ⊕ ((Q) ⊕ ((Q) ⊕ (Q)))))))))))))))))} {out : Option Value × AHeap}, go_ s scr v2 v3 v4 v5 v6 v7 v8 v9 v10 v11 v12 v13 v15 = some res → law_l46_K scr res out → Eval own_P 0 46 [some (.ref 0), some (.ref 1), some (.int v2), some (.int v3), some (.int v4), some (.int v5), some (.int v6), some (.int v7), some (.int v8), some (.int v9), some (.int v10), some (.int v11), some (.int v12), some (.long v13), none, some (.int v15), none, none, none, none, none, none, none, none, none, none, none] [] (W1 scr s []) out) (s : Q) (scr : List Int32) (v2 : Int32) (v3 : Int32) (v4 : Int32) (v5 : Int32) (v6 : Int32) (v7 : Int32) (v8 : Int32) (v9 : Int32) (v10 : Int32) (v11 : Int32) (v12 : Int32) (v13 : Int64) (v15 : Int32) (v17 : Int32) (v21 : Int32) (v22 : Int32) (v26 : Int32) (w0 : Int32) (w1 : Int32) {res : (Q) ⊕ ((Q) ⊕ ((Q) ⊕ ((Q) ⊕ ((Q) ⊕ ((Q) ⊕ ((Q) ⊕ ((Q) ⊕ ((Q) ⊕ ((Q) ⊕ ((Q) ⊕ ((Q) ⊕ ((Q) ⊕ ((Q) ⊕ ((Q) ⊕ ((Q) ⊕ ((Q) ⊕ (Q)))))))))))))))))} {out : Option Value × AHeap} (h : law_b616 go_ s scr v2 v3 v4 v5 v6 v7 v8 v9 v10 v11 v12 v13 v15 v17 v21 v22 v26 w0 w1 = some res) (hk : law_l46_K scr res out) : Eval own_P 0 616 [some (.ref 0), some (.ref 1), some (.int v2), some (.int v3), some (.int v4), some (.int v5), some (.int v6), some (.int v7), some (.int v8), some (.int v9), some (.int v10), some (.int v11), some (.int v12), some (.long v13), none, some (.int v15), none, some (.int v17), none, none, none, some (.int v21), some (.int v22), none, none, none, some (.int v26)] [.int w1, .int w0] (W1 scr s []) out := by
  rw [law_b616] at h
  by_cases hc385 : w0 = w1
  · rw [if_pos hc385] at h
    refine Eval.icmpF rfl (teq hc385).2 ?_
    refine Eval.aload_n rfl rfl ?_
    refine Eval.iload rfl rfl ?_
    obtain ⟨p386, hq387, h⟩ := bind_some h
    refine Eval.callI (rest := []) (x := p386) (H1 := (W1 scr s [])) rfl rfl (ev_j_spins [] scr s v17 hq387 rfl) ?_
    refine Eval.iload rfl rfl ?_
    refine Eval.iconst (x := (1 : Int32)) rfl rfl ?_
    refine Eval.iadd rfl ?_
    by_cases hc388 : p386 = (v22 + (1 : Int32))
    · rw [if_pos hc388] at h
      refine Eval.icmpT (t := 634) rfl rfl (teq hc388).1 ?_
      refine Eval.iload rfl rfl ?_
      suffices hJ391 : Eval own_P 0 659 [some (.ref 0), some (.ref 1), some (.int v2), some (.int v3), some (.int v4), some (.int (if v26 = (0 : Int32) then v5 else (if v21 = (0 : Int32) then (v5 + (1 : Int32)) else v5))), some (.int (if v26 = (0 : Int32) then v6 else (if v21 = (0 : Int32) then v6 else (v6 + (1 : Int32))))), some (.int (if v26 = (0 : Int32) then v7 else (if v21 = (0 : Int32) then (v7 + (-1 : Int32)) else v7))), some (.int (if v26 = (0 : Int32) then v8 else (if v21 = (0 : Int32) then v8 else (v8 + (-1 : Int32))))), some (.int v9), some (.int v10), some (.int v11), some (.int v12), some (.long v13), none, some (.int v15), none, none, none, none, none, none, none, none, none, none, none] [] (W1 scr s []) out by
        by_cases hc389 : v26 = (0 : Int32)
        · refine Eval.ifT (t := 659) rfl rfl (teq hc389).1 ?_
          refine Eval.weak (L' := [some (.ref 0), some (.ref 1), some (.int v2), some (.int v3), some (.int v4), some (.int v5), some (.int v6), some (.int v7), some (.int v8), some (.int v9), some (.int v10), some (.int v11), some (.int v12), some (.long v13), none, some (.int v15), none, none, none, none, none, none, none, none, none, none, none]) ⟨_, _, rfl, Or.inr rfl, _, _, rfl, Or.inr rfl, _, _, rfl, Or.inr rfl, _, _, rfl, Or.inr rfl, _, _, rfl, Or.inr rfl, _, _, rfl, Or.inr rfl, _, _, rfl, Or.inr rfl, _, _, rfl, Or.inr rfl, _, _, rfl, Or.inr rfl, _, _, rfl, Or.inr rfl, _, _, rfl, Or.inr rfl, _, _, rfl, Or.inr rfl, _, _, rfl, Or.inr rfl, _, _, rfl, Or.inr rfl, _, _, rfl, Or.inl rfl, _, _, rfl, Or.inr rfl, _, _, rfl, Or.inl rfl, _, _, rfl, Or.inl rfl, _, _, rfl, Or.inl rfl, _, _, rfl, Or.inl rfl, _, _, rfl, Or.inl rfl, _, _, rfl, Or.inl rfl, _, _, rfl, Or.inl rfl, _, _, rfl, Or.inl rfl, _, _, rfl, Or.inl rfl, _, _, rfl, Or.inl rfl, _, _, rfl, Or.inl rfl, rfl⟩ ?_
          exact (Eval.conv hJ391 (by simp only [if_pos hc389]) rfl)
        · refine Eval.ifF rfl (feq hc389).1 ?_
          refine Eval.iload rfl rfl ?_
          by_cases hc390 : v21 = (0 : Int32)
          · refine Eval.ifF rfl (teq hc390).2 ?_
            refine Eval.iinc (L' := [some (.ref 0), some (.ref 1), some (.int v2), some (.int v3), some (.int v4), some (.int v5), some (.int v6), some (.int (v7 + (-1 : Int32))), some (.int v8), some (.int v9), some (.int v10), some (.int v11), some (.int v12), some (.long v13), none, some (.int v15), none, some (.int v17), none, none, none, some (.int v21), some (.int v22), none, none, none, some (.int v26)]) rfl rfl rfl ?_
            refine Eval.iinc (L' := [some (.ref 0), some (.ref 1), some (.int v2), some (.int v3), some (.int v4), some (.int (v5 + (1 : Int32))), some (.int v6), some (.int (v7 + (-1 : Int32))), some (.int v8), some (.int v9), some (.int v10), some (.int v11), some (.int v12), some (.long v13), none, some (.int v15), none, some (.int v17), none, none, none, some (.int v21), some (.int v22), none, none, none, some (.int v26)]) rfl rfl rfl ?_
            refine Eval.goto (t := 659) rfl rfl ?_
            refine Eval.weak (L' := [some (.ref 0), some (.ref 1), some (.int v2), some (.int v3), some (.int v4), some (.int (v5 + (1 : Int32))), some (.int v6), some (.int (v7 + (-1 : Int32))), some (.int v8), some (.int v9), some (.int v10), some (.int v11), some (.int v12), some (.long v13), none, some (.int v15), none, none, none, none, none, none, none, none, none, none, none]) ⟨_, _, rfl, Or.inr rfl, _, _, rfl, Or.inr rfl, _, _, rfl, Or.inr rfl, _, _, rfl, Or.inr rfl, _, _, rfl, Or.inr rfl, _, _, rfl, Or.inr rfl, _, _, rfl, Or.inr rfl, _, _, rfl, Or.inr rfl, _, _, rfl, Or.inr rfl, _, _, rfl, Or.inr rfl, _, _, rfl, Or.inr rfl, _, _, rfl, Or.inr rfl, _, _, rfl, Or.inr rfl, _, _, rfl, Or.inr rfl, _, _, rfl, Or.inl rfl, _, _, rfl, Or.inr rfl, _, _, rfl, Or.inl rfl, _, _, rfl, Or.inl rfl, _, _, rfl, Or.inl rfl, _, _, rfl, Or.inl rfl, _, _, rfl, Or.inl rfl, _, _, rfl, Or.inl rfl, _, _, rfl, Or.inl rfl, _, _, rfl, Or.inl rfl, _, _, rfl, Or.inl rfl, _, _, rfl, Or.inl rfl, _, _, rfl, Or.inl rfl, rfl⟩ ?_
            exact (Eval.conv hJ391 (by simp only [if_neg hc389, if_pos hc390]) rfl)
          · refine Eval.ifT (t := 653) rfl rfl (feq hc390).2 ?_
            refine Eval.iinc (L' := [some (.ref 0), some (.ref 1), some (.int v2), some (.int v3), some (.int v4), some (.int v5), some (.int v6), some (.int v7), some (.int (v8 + (-1 : Int32))), some (.int v9), some (.int v10), some (.int v11), some (.int v12), some (.long v13), none, some (.int v15), none, some (.int v17), none, none, none, some (.int v21), some (.int v22), none, none, none, some (.int v26)]) rfl rfl rfl ?_
            refine Eval.iinc (L' := [some (.ref 0), some (.ref 1), some (.int v2), some (.int v3), some (.int v4), some (.int v5), some (.int (v6 + (1 : Int32))), some (.int v7), some (.int (v8 + (-1 : Int32))), some (.int v9), some (.int v10), some (.int v11), some (.int v12), some (.long v13), none, some (.int v15), none, some (.int v17), none, none, none, some (.int v21), some (.int v22), none, none, none, some (.int v26)]) rfl rfl rfl ?_
            refine Eval.weak (L' := [some (.ref 0), some (.ref 1), some (.int v2), some (.int v3), some (.int v4), some (.int v5), some (.int (v6 + (1 : Int32))), some (.int v7), some (.int (v8 + (-1 : Int32))), some (.int v9), some (.int v10), some (.int v11), some (.int v12), some (.long v13), none, some (.int v15), none, none, none, none, none, none, none, none, none, none, none]) ⟨_, _, rfl, Or.inr rfl, _, _, rfl, Or.inr rfl, _, _, rfl, Or.inr rfl, _, _, rfl, Or.inr rfl, _, _, rfl, Or.inr rfl, _, _, rfl, Or.inr rfl, _, _, rfl, Or.inr rfl, _, _, rfl, Or.inr rfl, _, _, rfl, Or.inr rfl, _, _, rfl, Or.inr rfl, _, _, rfl, Or.inr rfl, _, _, rfl, Or.inr rfl, _, _, rfl, Or.inr rfl, _, _, rfl, Or.inr rfl, _, _, rfl, Or.inl rfl, _, _, rfl, Or.inr rfl, _, _, rfl, Or.inl rfl, _, _, rfl, Or.inl rfl, _, _, rfl, Or.inl rfl, _, _, rfl, Or.inl rfl, _, _, rfl, Or.inl rfl, _, _, rfl, Or.inl rfl, _, _, rfl, Or.inl rfl, _, _, rfl, Or.inl rfl, _, _, rfl, Or.inl rfl, _, _, rfl, Or.inl rfl, _, _, rfl, Or.inl rfl, rfl⟩ ?_
            exact (Eval.conv hJ391 (by simp only [if_neg hc389, if_neg hc390]) rfl)
      exact ev_law_b659 _ hrec s scr v2 v3 v4 (if v26 = (0 : Int32) then v5 else (if v21 = (0 : Int32) then (v5 + (1 : Int32)) else v5)) (if v26 = (0 : Int32) then v6 else (if v21 = (0 : Int32) then v6 else (v6 + (1 : Int32)))) (if v26 = (0 : Int32) then v7 else (if v21 = (0 : Int32) then (v7 + (-1 : Int32)) else v7)) (if v26 = (0 : Int32) then v8 else (if v21 = (0 : Int32) then v8 else (v8 + (-1 : Int32)))) v9 v10 v11 v12 v13 v15 h hk
    · rw [if_neg hc388] at h
      refine Eval.icmpF rfl (feq hc388).1 ?_
      cases h
      refine Eval.weak (L' := [none, none, none, none, none, none, none, none, none, none, none, none, none, none, none, none, none, none, none, none, none, none, none, none, none, none, none]) ⟨_, _, rfl, Or.inl rfl, _, _, rfl, Or.inl rfl, _, _, rfl, Or.inl rfl, _, _, rfl, Or.inl rfl, _, _, rfl, Or.inl rfl, _, _, rfl, Or.inl rfl, _, _, rfl, Or.inl rfl, _, _, rfl, Or.inl rfl, _, _, rfl, Or.inl rfl, _, _, rfl, Or.inl rfl, _, _, rfl, Or.inl rfl, _, _, rfl, Or.inl rfl, _, _, rfl, Or.inl rfl, _, _, rfl, Or.inl rfl, _, _, rfl, Or.inl rfl, _, _, rfl, Or.inl rfl, _, _, rfl, Or.inl rfl, _, _, rfl, Or.inl rfl, _, _, rfl, Or.inl rfl, _, _, rfl, Or.inl rfl, _, _, rfl, Or.inl rfl, _, _, rfl, Or.inl rfl, _, _, rfl, Or.inl rfl, _, _, rfl, Or.inl rfl, _, _, rfl, Or.inl rfl, _, _, rfl, Or.inl rfl, _, _, rfl, Or.inl rfl, rfl⟩ ?_
      exact hk
  · rw [if_neg hc385] at h
    refine Eval.icmpT (t := 632) rfl rfl (feq hc385).2 ?_
    cases h
    refine Eval.weak (L' := [none, none, none, none, none, none, none, none, none, none, none, none, none, none, none, none, none, none, none, none, none, none, none, none, none, none, none]) ⟨_, _, rfl, Or.inl rfl, _, _, rfl, Or.inl rfl, _, _, rfl, Or.inl rfl, _, _, rfl, Or.inl rfl, _, _, rfl, Or.inl rfl, _, _, rfl, Or.inl rfl, _, _, rfl, Or.inl rfl, _, _, rfl, Or.inl rfl, _, _, rfl, Or.inl rfl, _, _, rfl, Or.inl rfl, _, _, rfl, Or.inl rfl, _, _, rfl, Or.inl rfl, _, _, rfl, Or.inl rfl, _, _, rfl, Or.inl rfl, _, _, rfl, Or.inl rfl, _, _, rfl, Or.inl rfl, _, _, rfl, Or.inl rfl, _, _, rfl, Or.inl rfl, _, _, rfl, Or.inl rfl, _, _, rfl, Or.inl rfl, _, _, rfl, Or.inl rfl, _, _, rfl, Or.inl rfl, _, _, rfl, Or.inl rfl, _, _, rfl, Or.inl rfl, _, _, rfl, Or.inl rfl, _, _, rfl, Or.inl rfl, _, _, rfl, Or.inl rfl, rfl⟩ ?_
    exact hk
def law_b602 (go_ : Q → List Int32 → Int32 → Int32 → Int32 → Int32 → Int32 → Int32 → Int32 → Int32 → Int32 → Int32 → Int32 → Int64 → Int32 → Option ((Q) ⊕ ((Q) ⊕ ((Q) ⊕ ((Q) ⊕ ((Q) ⊕ ((Q) ⊕ ((Q) ⊕ ((Q) ⊕ ((Q) ⊕ ((Q) ⊕ ((Q) ⊕ ((Q) ⊕ ((Q) ⊕ ((Q) ⊕ ((Q) ⊕ ((Q) ⊕ ((Q) ⊕ (Q))))))))))))))))))) (s : Q) (scr : List Int32) (v2 : Int32) (v3 : Int32) (v4 : Int32) (v5 : Int32) (v6 : Int32) (v7 : Int32) (v8 : Int32) (v9 : Int32) (v10 : Int32) (v11 : Int32) (v12 : Int32) (v13 : Int64) (v15 : Int32) (v17 : Int32) (v21 : Int32) (v22 : Int32) (v24 : Int32) (w0 : Int32) : Option ((Q) ⊕ ((Q) ⊕ ((Q) ⊕ ((Q) ⊕ ((Q) ⊕ ((Q) ⊕ ((Q) ⊕ ((Q) ⊕ ((Q) ⊕ ((Q) ⊕ ((Q) ⊕ ((Q) ⊕ ((Q) ⊕ ((Q) ⊕ ((Q) ⊕ ((Q) ⊕ ((Q) ⊕ (Q)))))))))))))))))) := (law_b616 (go_) s scr v2 v3 v4 v5 v6 v7 v8 v9 v10 v11 v12 v13 v15 v17 v21 v22 w0 v24 (if w0 = (0 : Int32) then (1 : Int32) else (4 : Int32)))
set_option maxRecDepth 100000 in
theorem ev_law_b602 (go_ : Q → List Int32 → Int32 → Int32 → Int32 → Int32 → Int32 → Int32 → Int32 → Int32 → Int32 → Int32 → Int32 → Int64 → Int32 → Option ((Q) ⊕ ((Q) ⊕ ((Q) ⊕ ((Q) ⊕ ((Q) ⊕ ((Q) ⊕ ((Q) ⊕ ((Q) ⊕ ((Q) ⊕ ((Q) ⊕ ((Q) ⊕ ((Q) ⊕ ((Q) ⊕ ((Q) ⊕ ((Q) ⊕ ((Q) ⊕ ((Q) ⊕ (Q))))))))))))))))))) (hrec : ∀ (s : Q) (scr : List Int32) (v2 : Int32) (v3 : Int32) (v4 : Int32) (v5 : Int32) (v6 : Int32) (v7 : Int32) (v8 : Int32) (v9 : Int32) (v10 : Int32) (v11 : Int32) (v12 : Int32) (v13 : Int64) (v15 : Int32) {res : (Q) ⊕ ((Q) ⊕ ((Q) ⊕ ((Q) ⊕ ((Q) ⊕ ((Q) ⊕ ((Q) ⊕ ((Q) ⊕ ((Q) ⊕ ((Q) ⊕ ((Q) ⊕ ((Q) ⊕ ((Q) ⊕ ((Q) ⊕ ((Q) ⊕ ((Q) ⊕ ((Q) ⊕ (Q)))))))))))))))))} {out : Option Value × AHeap}, go_ s scr v2 v3 v4 v5 v6 v7 v8 v9 v10 v11 v12 v13 v15 = some res → law_l46_K scr res out → Eval own_P 0 46 [some (.ref 0), some (.ref 1), some (.int v2), some (.int v3), some (.int v4), some (.int v5), some (.int v6), some (.int v7), some (.int v8), some (.int v9), some (.int v10), some (.int v11), some (.int v12), some (.long v13), none, some (.int v15), none, none, none, none, none, none, none, none, none, none, none] [] (W1 scr s []) out) (s : Q) (scr : List Int32) (v2 : Int32) (v3 : Int32) (v4 : Int32) (v5 : Int32) (v6 : Int32) (v7 : Int32) (v8 : Int32) (v9 : Int32) (v10 : Int32) (v11 : Int32) (v12 : Int32) (v13 : Int64) (v15 : Int32) (v17 : Int32) (v21 : Int32) (v22 : Int32) (v24 : Int32) (w0 : Int32) {res : (Q) ⊕ ((Q) ⊕ ((Q) ⊕ ((Q) ⊕ ((Q) ⊕ ((Q) ⊕ ((Q) ⊕ ((Q) ⊕ ((Q) ⊕ ((Q) ⊕ ((Q) ⊕ ((Q) ⊕ ((Q) ⊕ ((Q) ⊕ ((Q) ⊕ ((Q) ⊕ ((Q) ⊕ (Q)))))))))))))))))} {out : Option Value × AHeap} (h : law_b602 go_ s scr v2 v3 v4 v5 v6 v7 v8 v9 v10 v11 v12 v13 v15 v17 v21 v22 v24 w0 = some res) (hk : law_l46_K scr res out) : Eval own_P 0 602 [some (.ref 0), some (.ref 1), some (.int v2), some (.int v3), some (.int v4), some (.int v5), some (.int v6), some (.int v7), some (.int v8), some (.int v9), some (.int v10), some (.int v11), some (.int v12), some (.long v13), none, some (.int v15), none, some (.int v17), none, none, none, some (.int v21), some (.int v22), none, some (.int v24), none, none] [.int w0] (W1 scr s []) out := by
  rw [law_b602] at h
  refine Eval.istore (L' := [some (.ref 0), some (.ref 1), some (.int v2), some (.int v3), some (.int v4), some (.int v5), some (.int v6), some (.int v7), some (.int v8), some (.int v9), some (.int v10), some (.int v11), some (.int v12), some (.long v13), none, some (.int v15), none, some (.int v17), none, none, none, some (.int v21), some (.int v22), none, some (.int v24), none, some (.int w0)]) rfl rfl ?_
  refine Eval.iload rfl rfl ?_
  refine Eval.iload rfl rfl ?_
  suffices hJ384 : Eval own_P 0 616 [some (.ref 0), some (.ref 1), some (.int v2), some (.int v3), some (.int v4), some (.int v5), some (.int v6), some (.int v7), some (.int v8), some (.int v9), some (.int v10), some (.int v11), some (.int v12), some (.long v13), none, some (.int v15), none, some (.int v17), none, none, none, some (.int v21), some (.int v22), none, none, none, some (.int w0)] [.int (if w0 = (0 : Int32) then (1 : Int32) else (4 : Int32)), .int v24] (W1 scr s []) out by
    by_cases hc383 : w0 = (0 : Int32)
    · refine Eval.ifT (t := 615) rfl rfl (teq hc383).1 ?_
      refine Eval.iconst (x := (1 : Int32)) rfl rfl ?_
      refine Eval.weak (L' := [some (.ref 0), some (.ref 1), some (.int v2), some (.int v3), some (.int v4), some (.int v5), some (.int v6), some (.int v7), some (.int v8), some (.int v9), some (.int v10), some (.int v11), some (.int v12), some (.long v13), none, some (.int v15), none, some (.int v17), none, none, none, some (.int v21), some (.int v22), none, none, none, some (.int w0)]) ⟨_, _, rfl, Or.inr rfl, _, _, rfl, Or.inr rfl, _, _, rfl, Or.inr rfl, _, _, rfl, Or.inr rfl, _, _, rfl, Or.inr rfl, _, _, rfl, Or.inr rfl, _, _, rfl, Or.inr rfl, _, _, rfl, Or.inr rfl, _, _, rfl, Or.inr rfl, _, _, rfl, Or.inr rfl, _, _, rfl, Or.inr rfl, _, _, rfl, Or.inr rfl, _, _, rfl, Or.inr rfl, _, _, rfl, Or.inr rfl, _, _, rfl, Or.inl rfl, _, _, rfl, Or.inr rfl, _, _, rfl, Or.inl rfl, _, _, rfl, Or.inr rfl, _, _, rfl, Or.inl rfl, _, _, rfl, Or.inl rfl, _, _, rfl, Or.inl rfl, _, _, rfl, Or.inr rfl, _, _, rfl, Or.inr rfl, _, _, rfl, Or.inl rfl, _, _, rfl, Or.inl rfl, _, _, rfl, Or.inl rfl, _, _, rfl, Or.inr rfl, rfl⟩ ?_
      exact (Eval.conv hJ384 rfl (by simp only [if_pos hc383]))
    · refine Eval.ifF rfl (feq hc383).1 ?_
      refine Eval.iconst (x := (4 : Int32)) rfl rfl ?_
      refine Eval.goto (t := 616) rfl rfl ?_
      refine Eval.weak (L' := [some (.ref 0), some (.ref 1), some (.int v2), some (.int v3), some (.int v4), some (.int v5), some (.int v6), some (.int v7), some (.int v8), some (.int v9), some (.int v10), some (.int v11), some (.int v12), some (.long v13), none, some (.int v15), none, some (.int v17), none, none, none, some (.int v21), some (.int v22), none, none, none, some (.int w0)]) ⟨_, _, rfl, Or.inr rfl, _, _, rfl, Or.inr rfl, _, _, rfl, Or.inr rfl, _, _, rfl, Or.inr rfl, _, _, rfl, Or.inr rfl, _, _, rfl, Or.inr rfl, _, _, rfl, Or.inr rfl, _, _, rfl, Or.inr rfl, _, _, rfl, Or.inr rfl, _, _, rfl, Or.inr rfl, _, _, rfl, Or.inr rfl, _, _, rfl, Or.inr rfl, _, _, rfl, Or.inr rfl, _, _, rfl, Or.inr rfl, _, _, rfl, Or.inl rfl, _, _, rfl, Or.inr rfl, _, _, rfl, Or.inl rfl, _, _, rfl, Or.inr rfl, _, _, rfl, Or.inl rfl, _, _, rfl, Or.inl rfl, _, _, rfl, Or.inl rfl, _, _, rfl, Or.inr rfl, _, _, rfl, Or.inr rfl, _, _, rfl, Or.inl rfl, _, _, rfl, Or.inl rfl, _, _, rfl, Or.inl rfl, _, _, rfl, Or.inr rfl, rfl⟩ ?_
      exact (Eval.conv hJ384 rfl (by simp only [if_neg hc383]))
  exact ev_law_b616 _ hrec s scr v2 v3 v4 v5 v6 v7 v8 v9 v10 v11 v12 v13 v15 v17 v21 v22 w0 v24 (if w0 = (0 : Int32) then (1 : Int32) else (4 : Int32)) h hk
def law_b142 (go_ : Q → List Int32 → Int32 → Int32 → Int32 → Int32 → Int32 → Int32 → Int32 → Int32 → Int32 → Int32 → Int32 → Int64 → Int32 → Option ((Q) ⊕ ((Q) ⊕ ((Q) ⊕ ((Q) ⊕ ((Q) ⊕ ((Q) ⊕ ((Q) ⊕ ((Q) ⊕ ((Q) ⊕ ((Q) ⊕ ((Q) ⊕ ((Q) ⊕ ((Q) ⊕ ((Q) ⊕ ((Q) ⊕ ((Q) ⊕ ((Q) ⊕ (Q))))))))))))))))))) (s : Q) (scr : List Int32) (v2 : Int32) (v3 : Int32) (v4 : Int32) (v5 : Int32) (v6 : Int32) (v7 : Int32) (v8 : Int32) (v9 : Int32) (v10 : Int32) (v11 : Int32) (v12 : Int32) (v13 : Int64) (v15 : Int32) (v16 : Int32) (v17 : Int32) (v18 : Int32) (v19 : Int32) (v20 : Int32) (v21 : Int32) (v22 : Int32) (w0 : Int32) : Option ((Q) ⊕ ((Q) ⊕ ((Q) ⊕ ((Q) ⊕ ((Q) ⊕ ((Q) ⊕ ((Q) ⊕ ((Q) ⊕ ((Q) ⊕ ((Q) ⊕ ((Q) ⊕ ((Q) ⊕ ((Q) ⊕ ((Q) ⊕ ((Q) ⊕ ((Q) ⊕ ((Q) ⊕ (Q)))))))))))))))))) := (if v16 = (0 : Int32) then ((j_acquire s v17 v18 v19).bind fun p114 => (if (3 : Int32) < v17 then (law_b178 (go_) p114.2 scr v2 v3 v4 v5 v6 v7 v8 v9 v10 v11 v12 v13 v15 p114.1) else (if (1 : Int32) < v18 then (law_b178 (go_) p114.2 scr v2 v3 v4 v5 v6 v7 v8 v9 v10 v11 v12 v13 v15 p114.1) else (if v20 = (0 : Int32) then (law_b230 (go_) p114.2 scr (v2 + (1 : Int32)) v3 v4 v5 v6 v7 v8 v9 v10 v11 v12 ((v13 &&& ((lsh (255 : Int64) ((8 : Int32) * v17)) ^^^ (-1 : Int64))) ||| (lsh (Int32.toInt64 v19) ((8 : Int32) * v17))) v15 v17 v18 p114.1 (if v18 = (0 : Int32) then v7 else v8)) else (law_b178 (go_) p114.2 scr v2 v3 v4 v5 v6 v7 v8 v9 v10 v11 v12 v13 v15 p114.1))))) else (if v16 = (2 : Int32) then ((j_release s v17).bind fun p244 => (if (3 : Int32) < v17 then (law_b357 (go_) p244.2 scr v2 v3 v4 v5 v6 v7 v8 v9 v10 v11 v12 v13 v15 p244.1) else (if v20 = (3 : Int32) then (law_b397 (go_) p244.2 scr (v2 + (1 : Int32)) v3 v4 v5 v6 (if v21 = (0 : Int32) then (v7 + (-1 : Int32)) else v7) (if v21 = (0 : Int32) then v8 else (v8 + (-1 : Int32))) (if v21 = (0 : Int32) then (-1 : Int32) else v9) (if v21 = (0 : Int32) then v10 else (-1 : Int32)) v11 v12 v13 v15 v17 v21 p244.1 (if v21 = (0 : Int32) then (v7 + (-1 : Int32)) else (v8 + (-1 : Int32)))) else (law_b357 (go_) p244.2 scr v2 v3 v4 v5 v6 v7 v8 v9 v10 v11 v12 v13 v15 p244.1)))) else ((j_step s v17).bind fun p370 => (if w0 = (0 : Int32) then (if p370.1 = (-2 : Int32) then (law_b659 (go_) p370.2 scr v2 v3 v4 v5 v6 v7 v8 v9 v10 v11 v12 v13 v15) else some (.inr (.inr (.inr (.inr (.inr (.inr (.inr (.inl (p370.2)))))))))) else (if v20 = (2 : Int32) then (law_b521 (go_) p370.2 scr (v2 + (1 : Int32)) v3 v4 v5 v6 v7 v8 v9 v10 v11 v12 v13 v15 v17 v20 v21 p370.1) else (if v20 = (3 : Int32) then (law_b521 (go_) p370.2 scr (v2 + (1 : Int32)) v3 v4 v5 v6 v7 v8 v9 v10 v11 v12 v13 v15 v17 v20 v21 p370.1) else (law_b602 (go_) p370.2 scr (v2 + (1 : Int32)) v3 v4 v5 v6 v7 v8 v9 v10 v11 v12 v13 v15 v17 v21 v22 p370.1 (if (0 : Int32) < (Int64.toInt32 ((lus v13 ((8 : Int32) * v17)) &&& (255 : Int64))) then (if (v22 + (1 : Int32)) < (Int64.toInt32 ((lus v13 ((8 : Int32) * v17)) &&& (255 : Int64))) then (0 : Int32) else (1 : Int32)) else (0 : Int32)))))))))
set_option maxRecDepth 100000 in
theorem ev_law_b142 (go_ : Q → List Int32 → Int32 → Int32 → Int32 → Int32 → Int32 → Int32 → Int32 → Int32 → Int32 → Int32 → Int32 → Int64 → Int32 → Option ((Q) ⊕ ((Q) ⊕ ((Q) ⊕ ((Q) ⊕ ((Q) ⊕ ((Q) ⊕ ((Q) ⊕ ((Q) ⊕ ((Q) ⊕ ((Q) ⊕ ((Q) ⊕ ((Q) ⊕ ((Q) ⊕ ((Q) ⊕ ((Q) ⊕ ((Q) ⊕ ((Q) ⊕ (Q))))))))))))))))))) (hrec : ∀ (s : Q) (scr : List Int32) (v2 : Int32) (v3 : Int32) (v4 : Int32) (v5 : Int32) (v6 : Int32) (v7 : Int32) (v8 : Int32) (v9 : Int32) (v10 : Int32) (v11 : Int32) (v12 : Int32) (v13 : Int64) (v15 : Int32) {res : (Q) ⊕ ((Q) ⊕ ((Q) ⊕ ((Q) ⊕ ((Q) ⊕ ((Q) ⊕ ((Q) ⊕ ((Q) ⊕ ((Q) ⊕ ((Q) ⊕ ((Q) ⊕ ((Q) ⊕ ((Q) ⊕ ((Q) ⊕ ((Q) ⊕ ((Q) ⊕ ((Q) ⊕ (Q)))))))))))))))))} {out : Option Value × AHeap}, go_ s scr v2 v3 v4 v5 v6 v7 v8 v9 v10 v11 v12 v13 v15 = some res → law_l46_K scr res out → Eval own_P 0 46 [some (.ref 0), some (.ref 1), some (.int v2), some (.int v3), some (.int v4), some (.int v5), some (.int v6), some (.int v7), some (.int v8), some (.int v9), some (.int v10), some (.int v11), some (.int v12), some (.long v13), none, some (.int v15), none, none, none, none, none, none, none, none, none, none, none] [] (W1 scr s []) out) (s : Q) (scr : List Int32) (v2 : Int32) (v3 : Int32) (v4 : Int32) (v5 : Int32) (v6 : Int32) (v7 : Int32) (v8 : Int32) (v9 : Int32) (v10 : Int32) (v11 : Int32) (v12 : Int32) (v13 : Int64) (v15 : Int32) (v16 : Int32) (v17 : Int32) (v18 : Int32) (v19 : Int32) (v20 : Int32) (v21 : Int32) (v22 : Int32) (w0 : Int32) {res : (Q) ⊕ ((Q) ⊕ ((Q) ⊕ ((Q) ⊕ ((Q) ⊕ ((Q) ⊕ ((Q) ⊕ ((Q) ⊕ ((Q) ⊕ ((Q) ⊕ ((Q) ⊕ ((Q) ⊕ ((Q) ⊕ ((Q) ⊕ ((Q) ⊕ ((Q) ⊕ ((Q) ⊕ (Q)))))))))))))))))} {out : Option Value × AHeap} (h : law_b142 go_ s scr v2 v3 v4 v5 v6 v7 v8 v9 v10 v11 v12 v13 v15 v16 v17 v18 v19 v20 v21 v22 w0 = some res) (hk : law_l46_K scr res out) : Eval own_P 0 142 [some (.ref 0), some (.ref 1), some (.int v2), some (.int v3), some (.int v4), some (.int v5), some (.int v6), some (.int v7), some (.int v8), some (.int v9), some (.int v10), some (.int v11), some (.int v12), some (.long v13), none, some (.int v15), some (.int v16), some (.int v17), some (.int v18), some (.int v19), some (.int v20), some (.int v21), some (.int v22), none, none, none, none] [.int w0] (W1 scr s []) out := by
  rw [law_b142] at h
  refine Eval.istore (L' := [some (.ref 0), some (.ref 1), some (.int v2), some (.int v3), some (.int v4), some (.int v5), some (.int v6), some (.int v7), some (.int v8), some (.int v9), some (.int v10), some (.int v11), some (.int v12), some (.long v13), none, some (.int v15), some (.int v16), some (.int v17), some (.int v18), some (.int v19), some (.int v20), some (.int v21), some (.int v22), some (.int w0), none, none, none]) rfl rfl ?_
  refine Eval.iload rfl rfl ?_
  by_cases hc48 : v16 = (0 : Int32)
  · rw [if_pos hc48] at h
    refine Eval.ifF rfl (teq hc48).2 ?_
    refine Eval.aload_n rfl rfl ?_
    refine Eval.iload rfl rfl ?_
    refine Eval.iload rfl rfl ?_
    refine Eval.iload rfl rfl ?_
    obtain ⟨p114, hq115, h⟩ := bind_some h
    refine Eval.callI (rest := []) (x := p114.1) (H1 := (W1 scr p114.2 [])) rfl rfl (ev_j_acquire [] scr s v17 v18 v19 hq115 rfl) ?_
    refine Eval.istore (L' := [some (.ref 0), some (.ref 1), some (.int v2), some (.int v3), some (.int v4), some (.int v5), some (.int v6), some (.int v7), some (.int v8), some (.int v9), some (.int v10), some (.int v11), some (.int v12), some (.long v13), none, some (.int v15), some (.int v16), some (.int v17), some (.int v18), some (.int v19), some (.int v20), some (.int v21), some (.int v22), some (.int w0), some (.int p114.1), none, none]) rfl rfl ?_
    refine Eval.iload rfl rfl ?_
    refine Eval.iconst (x := (3 : Int32)) rfl rfl ?_
    by_cases hc116 : (3 : Int32) < v17
    · rw [if_pos hc116] at h
      refine Eval.icmpT (t := 178) rfl rfl (tlt hc116).2.2.1 ?_
      refine Eval.weak (L' := [some (.ref 0), some (.ref 1), some (.int v2), some (.int v3), some (.int v4), some (.int v5), some (.int v6), some (.int v7), some (.int v8), some (.int v9), some (.int v10), some (.int v11), some (.int v12), some (.long v13), none, some (.int v15), none, none, none, none, none, none, none, none, some (.int p114.1), none, none]) ⟨_, _, rfl, Or.inr rfl, _, _, rfl, Or.inr rfl, _, _, rfl, Or.inr rfl, _, _, rfl, Or.inr rfl, _, _, rfl, Or.inr rfl, _, _, rfl, Or.inr rfl, _, _, rfl, Or.inr rfl, _, _, rfl, Or.inr rfl, _, _, rfl, Or.inr rfl, _, _, rfl, Or.inr rfl, _, _, rfl, Or.inr rfl, _, _, rfl, Or.inr rfl, _, _, rfl, Or.inr rfl, _, _, rfl, Or.inr rfl, _, _, rfl, Or.inl rfl, _, _, rfl, Or.inr rfl, _, _, rfl, Or.inl rfl, _, _, rfl, Or.inl rfl, _, _, rfl, Or.inl rfl, _, _, rfl, Or.inl rfl, _, _, rfl, Or.inl rfl, _, _, rfl, Or.inl rfl, _, _, rfl, Or.inl rfl, _, _, rfl, Or.inl rfl, _, _, rfl, Or.inr rfl, _, _, rfl, Or.inl rfl, _, _, rfl, Or.inl rfl, rfl⟩ ?_
      exact ev_law_b178 _ hrec p114.2 scr v2 v3 v4 v5 v6 v7 v8 v9 v10 v11 v12 v13 v15 p114.1 h hk
    · rw [if_neg hc116] at h
      refine Eval.icmpF rfl (flt hc116).2.2.1 ?_
      refine Eval.iload rfl rfl ?_
      refine Eval.iconst (x := (1 : Int32)) rfl rfl ?_
      by_cases hc178 : (1 : Int32) < v18
      · rw [if_pos hc178] at h
        refine Eval.icmpT (t := 178) rfl rfl (tlt hc178).2.2.1 ?_
        refine Eval.weak (L' := [some (.ref 0), some (.ref 1), some (.int v2), some (.int v3), some (.int v4), some (.int v5), some (.int v6), some (.int v7), some (.int v8), some (.int v9), some (.int v10), some (.int v11), some (.int v12), some (.long v13), none, some (.int v15), none, none, none, none, none, none, none, none, some (.int p114.1), none, none]) ⟨_, _, rfl, Or.inr rfl, _, _, rfl, Or.inr rfl, _, _, rfl, Or.inr rfl, _, _, rfl, Or.inr rfl, _, _, rfl, Or.inr rfl, _, _, rfl, Or.inr rfl, _, _, rfl, Or.inr rfl, _, _, rfl, Or.inr rfl, _, _, rfl, Or.inr rfl, _, _, rfl, Or.inr rfl, _, _, rfl, Or.inr rfl, _, _, rfl, Or.inr rfl, _, _, rfl, Or.inr rfl, _, _, rfl, Or.inr rfl, _, _, rfl, Or.inl rfl, _, _, rfl, Or.inr rfl, _, _, rfl, Or.inl rfl, _, _, rfl, Or.inl rfl, _, _, rfl, Or.inl rfl, _, _, rfl, Or.inl rfl, _, _, rfl, Or.inl rfl, _, _, rfl, Or.inl rfl, _, _, rfl, Or.inl rfl, _, _, rfl, Or.inl rfl, _, _, rfl, Or.inr rfl, _, _, rfl, Or.inl rfl, _, _, rfl, Or.inl rfl, rfl⟩ ?_
        exact ev_law_b178 _ hrec p114.2 scr v2 v3 v4 v5 v6 v7 v8 v9 v10 v11 v12 v13 v15 p114.1 h hk
      · rw [if_neg hc178] at h
        refine Eval.icmpF rfl (flt hc178).2.2.1 ?_
        refine Eval.iload rfl rfl ?_
        by_cases hc179 : v20 = (0 : Int32)
        · rw [if_pos hc179] at h
          refine Eval.ifT (t := 187) rfl rfl (teq hc179).1 ?_
          refine Eval.iinc (L' := [some (.ref 0), some (.ref 1), some (.int (v2 + (1 : Int32))), some (.int v3), some (.int v4), some (.int v5), some (.int v6), some (.int v7), some (.int v8), some (.int v9), some (.int v10), some (.int v11), some (.int v12), some (.long v13), none, some (.int v15), some (.int v16), some (.int v17), some (.int v18), some (.int v19), some (.int v20), some (.int v21), some (.int v22), some (.int w0), some (.int p114.1), none, none]) rfl rfl rfl ?_
          refine Eval.lload rfl rfl ?_
          refine Eval.ldc2_w (x := (255 : Int64)) rfl rfl ?_
          refine Eval.bipush (x := (8 : Int32)) rfl rfl ?_
          refine Eval.iload rfl rfl ?_
          refine Eval.imul rfl ?_
          refine Eval.lshl rfl ?_
          refine Eval.ldc2_w (x := (-1 : Int64)) rfl rfl ?_
          refine Eval.lxor rfl ?_
          refine Eval.land rfl ?_
          refine Eval.iload rfl rfl ?_
          refine Eval.i2l rfl ?_
          refine Eval.bipush (x := (8 : Int32)) rfl rfl ?_
          refine Eval.iload rfl rfl ?_
          refine Eval.imul rfl ?_
          refine Eval.lshl rfl ?_
          refine Eval.lor rfl ?_
          refine Eval.lstore (L' := [some (.ref 0), some (.ref 1), some (.int (v2 + (1 : Int32))), some (.int v3), some (.int v4), some (.int v5), some (.int v6), some (.int v7), some (.int v8), some (.int v9), some (.int v10), some (.int v11), some (.int v12), some (.long ((v13 &&& ((lsh (255 : Int64) ((8 : Int32) * v17)) ^^^ (-1 : Int64))) ||| (lsh (Int32.toInt64 v19) ((8 : Int32) * v17)))), none, some (.int v15), some (.int v16), some (.int v17), some (.int v18), some (.int v19), some (.int v20), some (.int v21), some (.int v22), some (.int w0), some (.int p114.1), none, none]) rfl rfl ?_
          refine Eval.iload rfl rfl ?_
          suffices hJ181 : Eval own_P 0 230 [some (.ref 0), some (.ref 1), some (.int (v2 + (1 : Int32))), some (.int v3), some (.int v4), some (.int v5), some (.int v6), some (.int v7), some (.int v8), some (.int v9), some (.int v10), some (.int v11), some (.int v12), some (.long ((v13 &&& ((lsh (255 : Int64) ((8 : Int32) * v17)) ^^^ (-1 : Int64))) ||| (lsh (Int32.toInt64 v19) ((8 : Int32) * v17)))), none, some (.int v15), none, some (.int v17), some (.int v18), none, none, none, none, none, some (.int p114.1), none, none] [.int (if v18 = (0 : Int32) then v7 else v8)] (W1 scr p114.2 []) out by
            by_cases hc180 : v18 = (0 : Int32)
            · refine Eval.ifF rfl (teq hc180).2 ?_
              refine Eval.iload rfl rfl ?_
              refine Eval.goto (t := 230) rfl rfl ?_
              refine Eval.weak (L' := [some (.ref 0), some (.ref 1), some (.int (v2 + (1 : Int32))), some (.int v3), some (.int v4), some (.int v5), some (.int v6), some (.int v7), some (.int v8), some (.int v9), some (.int v10), some (.int v11), some (.int v12), some (.long ((v13 &&& ((lsh (255 : Int64) ((8 : Int32) * v17)) ^^^ (-1 : Int64))) ||| (lsh (Int32.toInt64 v19) ((8 : Int32) * v17)))), none, some (.int v15), none, some (.int v17), some (.int v18), none, none, none, none, none, some (.int p114.1), none, none]) ⟨_, _, rfl, Or.inr rfl, _, _, rfl, Or.inr rfl, _, _, rfl, Or.inr rfl, _, _, rfl, Or.inr rfl, _, _, rfl, Or.inr rfl, _, _, rfl, Or.inr rfl, _, _, rfl, Or.inr rfl, _, _, rfl, Or.inr rfl, _, _, rfl, Or.inr rfl, _, _, rfl, Or.inr rfl, _, _, rfl, Or.inr rfl, _, _, rfl, Or.inr rfl, _, _, rfl, Or.inr rfl, _, _, rfl, Or.inr rfl, _, _, rfl, Or.inl rfl, _, _, rfl, Or.inr rfl, _, _, rfl, Or.inl rfl, _, _, rfl, Or.inr rfl, _, _, rfl, Or.inr rfl, _, _, rfl, Or.inl rfl, _, _, rfl, Or.inl rfl, _, _, rfl, Or.inl rfl, _, _, rfl, Or.inl rfl, _, _, rfl, Or.inl rfl, _, _, rfl, Or.inr rfl, _, _, rfl, Or.inl rfl, _, _, rfl, Or.inl rfl, rfl⟩ ?_
              exact (Eval.conv hJ181 rfl (by simp only [if_pos hc180]))
            · refine Eval.ifT (t := 228) rfl rfl (feq hc180).2 ?_
              refine Eval.iload rfl rfl ?_
              refine Eval.weak (L' := [some (.ref 0), some (.ref 1), some (.int (v2 + (1 : Int32))), some (.int v3), some (.int v4), some (.int v5), some (.int v6), some (.int v7), some (.int v8), some (.int v9), some (.int v10), some (.int v11), some (.int v12), some (.long ((v13 &&& ((lsh (255 : Int64) ((8 : Int32) * v17)) ^^^ (-1 : Int64))) ||| (lsh (Int32.toInt64 v19) ((8 : Int32) * v17)))), none, some (.int v15), none, some (.int v17), some (.int v18), none, none, none, none, none, some (.int p114.1), none, none]) ⟨_, _, rfl, Or.inr rfl, _, _, rfl, Or.inr rfl, _, _, rfl, Or.inr rfl, _, _, rfl, Or.inr rfl, _, _, rfl, Or.inr rfl, _, _, rfl, Or.inr rfl, _, _, rfl, Or.inr rfl, _, _, rfl, Or.inr rfl, _, _, rfl, Or.inr rfl, _, _, rfl, Or.inr rfl, _, _, rfl, Or.inr rfl, _, _, rfl, Or.inr rfl, _, _, rfl, Or.inr rfl, _, _, rfl, Or.inr rfl, _, _, rfl, Or.inl rfl, _, _, rfl, Or.inr rfl, _, _, rfl, Or.inl rfl, _, _, rfl, Or.inr rfl, _, _, rfl, Or.inr rfl, _, _, rfl, Or.inl rfl, _, _, rfl, Or.inl rfl, _, _, rfl, Or.inl rfl, _, _, rfl, Or.inl rfl, _, _, rfl, Or.inl rfl, _, _, rfl, Or.inr rfl, _, _, rfl, Or.inl rfl, _, _, rfl, Or.inl rfl, rfl⟩ ?_
              exact (Eval.conv hJ181 rfl (by simp only [if_neg hc180]))
          exact ev_law_b230 _ hrec p114.2 scr (v2 + (1 : Int32)) v3 v4 v5 v6 v7 v8 v9 v10 v11 v12 ((v13 &&& ((lsh (255 : Int64) ((8 : Int32) * v17)) ^^^ (-1 : Int64))) ||| (lsh (Int32.toInt64 v19) ((8 : Int32) * v17))) v15 v17 v18 p114.1 (if v18 = (0 : Int32) then v7 else v8) h hk
        · rw [if_neg hc179] at h
          refine Eval.ifF rfl (feq hc179).1 ?_
          refine Eval.weak (L' := [some (.ref 0), some (.ref 1), some (.int v2), some (.int v3), some (.int v4), some (.int v5), some (.int v6), some (.int v7), some (.int v8), some (.int v9), some (.int v10), some (.int v11), some (.int v12), some (.long v13), none, some (.int v15), none, none, none, none, none, none, none, none, some (.int p114.1), none, none]) ⟨_, _, rfl, Or.inr rfl, _, _, rfl, Or.inr rfl, _, _, rfl, Or.inr rfl, _, _, rfl, Or.inr rfl, _, _, rfl, Or.inr rfl, _, _, rfl, Or.inr rfl, _, _, rfl, Or.inr rfl, _, _, rfl, Or.inr rfl, _, _, rfl, Or.inr rfl, _, _, rfl, Or.inr rfl, _, _, rfl, Or.inr rfl, _, _, rfl, Or.inr rfl, _, _, rfl, Or.inr rfl, _, _, rfl, Or.inr rfl, _, _, rfl, Or.inl rfl, _, _, rfl, Or.inr rfl, _, _, rfl, Or.inl rfl, _, _, rfl, Or.inl rfl, _, _, rfl, Or.inl rfl, _, _, rfl, Or.inl rfl, _, _, rfl, Or.inl rfl, _, _, rfl, Or.inl rfl, _, _, rfl, Or.inl rfl, _, _, rfl, Or.inl rfl, _, _, rfl, Or.inr rfl, _, _, rfl, Or.inl rfl, _, _, rfl, Or.inl rfl, rfl⟩ ?_
          exact ev_law_b178 _ hrec p114.2 scr v2 v3 v4 v5 v6 v7 v8 v9 v10 v11 v12 v13 v15 p114.1 h hk
  · rw [if_neg hc48] at h
    refine Eval.ifT (t := 331) rfl rfl (feq hc48).2 ?_
    refine Eval.iload rfl rfl ?_
    refine Eval.iconst (x := (2 : Int32)) rfl rfl ?_
    by_cases hc198 : v16 = (2 : Int32)
    · rw [if_pos hc198] at h
      refine Eval.icmpF rfl (teq hc198).2 ?_
      refine Eval.aload_n rfl rfl ?_
      refine Eval.iload rfl rfl ?_
      obtain ⟨p244, hq245, h⟩ := bind_some h
      refine Eval.callI (rest := []) (x := p244.1) (H1 := (W1 scr p244.2 [])) rfl rfl (ev_j_release [] scr s v17 hq245 rfl) ?_
      refine Eval.istore (L' := [some (.ref 0), some (.ref 1), some (.int v2), some (.int v3), some (.int v4), some (.int v5), some (.int v6), some (.int v7), some (.int v8), some (.int v9), some (.int v10), some (.int v11), some (.int v12), some (.long v13), none, some (.int v15), some (.int v16), some (.int v17), some (.int v18), some (.int v19), some (.int v20), some (.int v21), some (.int v22), some (.int w0), some (.int p244.1), none, none]) rfl rfl ?_
      refine Eval.iload rfl rfl ?_
      refine Eval.iconst (x := (3 : Int32)) rfl rfl ?_
      by_cases hc246 : (3 : Int32) < v17
      · rw [if_pos hc246] at h
        refine Eval.icmpT (t := 357) rfl rfl (tlt hc246).2.2.1 ?_
        refine Eval.weak (L' := [some (.ref 0), some (.ref 1), some (.int v2), some (.int v3), some (.int v4), some (.int v5), some (.int v6), some (.int v7), some (.int v8), some (.int v9), some (.int v10), some (.int v11), some (.int v12), some (.long v13), none, some (.int v15), none, none, none, none, none, none, none, none, some (.int p244.1), none, none]) ⟨_, _, rfl, Or.inr rfl, _, _, rfl, Or.inr rfl, _, _, rfl, Or.inr rfl, _, _, rfl, Or.inr rfl, _, _, rfl, Or.inr rfl, _, _, rfl, Or.inr rfl, _, _, rfl, Or.inr rfl, _, _, rfl, Or.inr rfl, _, _, rfl, Or.inr rfl, _, _, rfl, Or.inr rfl, _, _, rfl, Or.inr rfl, _, _, rfl, Or.inr rfl, _, _, rfl, Or.inr rfl, _, _, rfl, Or.inr rfl, _, _, rfl, Or.inl rfl, _, _, rfl, Or.inr rfl, _, _, rfl, Or.inl rfl, _, _, rfl, Or.inl rfl, _, _, rfl, Or.inl rfl, _, _, rfl, Or.inl rfl, _, _, rfl, Or.inl rfl, _, _, rfl, Or.inl rfl, _, _, rfl, Or.inl rfl, _, _, rfl, Or.inl rfl, _, _, rfl, Or.inr rfl, _, _, rfl, Or.inl rfl, _, _, rfl, Or.inl rfl, rfl⟩ ?_
        exact ev_law_b357 _ hrec p244.2 scr v2 v3 v4 v5 v6 v7 v8 v9 v10 v11 v12 v13 v15 p244.1 h hk
      · rw [if_neg hc246] at h
        refine Eval.icmpF rfl (flt hc246).2.2.1 ?_
        refine Eval.iload rfl rfl ?_
        refine Eval.iconst (x := (3 : Int32)) rfl rfl ?_
        by_cases hc248 : v20 = (3 : Int32)
        · rw [if_pos hc248] at h
          refine Eval.icmpT (t := 366) rfl rfl (teq hc248).1 ?_
          refine Eval.iinc (L' := [some (.ref 0), some (.ref 1), some (.int (v2 + (1 : Int32))), some (.int v3), some (.int v4), some (.int v5), some (.int v6), some (.int v7), some (.int v8), some (.int v9), some (.int v10), some (.int v11), some (.int v12), some (.long v13), none, some (.int v15), some (.int v16), some (.int v17), some (.int v18), some (.int v19), some (.int v20), some (.int v21), some (.int v22), some (.int w0), some (.int p244.1), none, none]) rfl rfl rfl ?_
          refine Eval.iload rfl rfl ?_
          suffices hJ250 : Eval own_P 0 397 [some (.ref 0), some (.ref 1), some (.int (v2 + (1 : Int32))), some (.int v3), some (.int v4), some (.int v5), some (.int v6), some (.int (if v21 = (0 : Int32) then (v7 + (-1 : Int32)) else v7)), some (.int (if v21 = (0 : Int32) then v8 else (v8 + (-1 : Int32)))), some (.int (if v21 = (0 : Int32) then (-1 : Int32) else v9)), some (.int (if v21 = (0 : Int32) then v10 else (-1 : Int32))), some (.int v11), some (.int v12), some (.long v13), none, some (.int v15), none, some (.int v17), none, none, none, some (.int v21), none, none, some (.int p244.1), some (.int (if v21 = (0 : Int32) then (v7 + (-1 : Int32)) else (v8 + (-1 : Int32)))), none] [] (W1 scr p244.2 []) out by
            by_cases hc249 : v21 = (0 : Int32)
            · refine Eval.ifF rfl (teq hc249).2 ?_
              refine Eval.iinc (L' := [some (.ref 0), some (.ref 1), some (.int (v2 + (1 : Int32))), some (.int v3), some (.int v4), some (.int v5), some (.int v6), some (.int (v7 + (-1 : Int32))), some (.int v8), some (.int v9), some (.int v10), some (.int v11), some (.int v12), some (.long v13), none, some (.int v15), some (.int v16), some (.int v17), some (.int v18), some (.int v19), some (.int v20), some (.int v21), some (.int v22), some (.int w0), some (.int p244.1), none, none]) rfl rfl rfl ?_
              refine Eval.iload rfl rfl ?_
              refine Eval.istore (L' := [some (.ref 0), some (.ref 1), some (.int (v2 + (1 : Int32))), some (.int v3), some (.int v4), some (.int v5), some (.int v6), some (.int (v7 + (-1 : Int32))), some (.int v8), some (.int v9), some (.int v10), some (.int v11), some (.int v12), some (.long v13), none, some (.int v15), some (.int v16), some (.int v17), some (.int v18), some (.int v19), some (.int v20), some (.int v21), some (.int v22), some (.int w0), some (.int p244.1), some (.int (v7 + (-1 : Int32))), none]) rfl rfl ?_
              refine Eval.iconst (x := (-1 : Int32)) rfl rfl ?_
              refine Eval.istore (L' := [some (.ref 0), some (.ref 1), some (.int (v2 + (1 : Int32))), some (.int v3), some (.int v4), some (.int v5), some (.int v6), some (.int (v7 + (-1 : Int32))), some (.int v8), some (.int (-1 : Int32)), some (.int v10), some (.int v11), some (.int v12), some (.long v13), none, some (.int v15), some (.int v16), some (.int v17), some (.int v18), some (.int v19), some (.int v20), some (.int v21), some (.int v22), some (.int w0), some (.int p244.1), some (.int (v7 + (-1 : Int32))), none]) rfl rfl ?_
              refine Eval.goto (t := 397) rfl rfl ?_
              refine Eval.weak (L' := [some (.ref 0), some (.ref 1), some (.int (v2 + (1 : Int32))), some (.int v3), some (.int v4), some (.int v5), some (.int v6), some (.int (v7 + (-1 : Int32))), some (.int v8), some (.int (-1 : Int32)), some (.int v10), some (.int v11), some (.int v12), some (.long v13), none, some (.int v15), none, some (.int v17), none, none, none, some (.int v21), none, none, some (.int p244.1), some (.int (v7 + (-1 : Int32))), none]) ⟨_, _, rfl, Or.inr rfl, _, _, rfl, Or.inr rfl, _, _, rfl, Or.inr rfl, _, _, rfl, Or.inr rfl, _, _, rfl, Or.inr rfl, _, _, rfl, Or.inr rfl, _, _, rfl, Or.inr rfl, _, _, rfl, Or.inr rfl, _, _, rfl, Or.inr rfl, _, _, rfl, Or.inr rfl, _, _, rfl, Or.inr rfl, _, _, rfl, Or.inr rfl, _, _, rfl, Or.inr rfl, _, _, rfl, Or.inr rfl, _, _, rfl, Or.inl rfl, _, _, rfl, Or.inr rfl, _, _, rfl, Or.inl rfl, _, _, rfl, Or.inr rfl, _, _, rfl, Or.inl rfl, _, _, rfl, Or.inl rfl, _, _, rfl, Or.inl rfl, _, _, rfl, Or.inr rfl, _, _, rfl, Or.inl rfl, _, _, rfl, Or.inl rfl, _, _, rfl, Or.inr rfl, _, _, rfl, Or.inr rfl, _, _, rfl, Or.inl rfl, rfl⟩ ?_
              exact (Eval.conv hJ250 (by simp only [if_pos hc249]) rfl)
            · refine Eval.ifT (t := 387) rfl rfl (feq hc249).2 ?_
              refine Eval.iinc (L' := [some (.ref 0), some (.ref 1), some (.int (v2 + (1 : Int32))), some (.int v3), some (.int v4), some (.int v5), some (.int v6), some (.int v7), some (.int (v8 + (-1 : Int32))), some (.int v9), some (.int v10), some (.int v11), some (.int v12), some (.long v13), none, some (.int v15), some (.int v16), some (.int v17), some (.int v18), some (.int v19), some (.int v20), some (.int v21), some (.int v22), some (.int w0), some (.int p244.1), none, none]) rfl rfl rfl ?_
              refine Eval.iload rfl rfl ?_
              refine Eval.istore (L' := [some (.ref 0), some (.ref 1), some (.int (v2 + (1 : Int32))), some (.int v3), some (.int v4), some (.int v5), some (.int v6), some (.int v7), some (.int (v8 + (-1 : Int32))), some (.int v9), some (.int v10), some (.int v11), some (.int v12), some (.long v13), none, some (.int v15), some (.int v16), some (.int v17), some (.int v18), some (.int v19), some (.int v20), some (.int v21), some (.int v22), some (.int w0), some (.int p244.1), some (.int (v8 + (-1 : Int32))), none]) rfl rfl ?_
              refine Eval.iconst (x := (-1 : Int32)) rfl rfl ?_
              refine Eval.istore (L' := [some (.ref 0), some (.ref 1), some (.int (v2 + (1 : Int32))), some (.int v3), some (.int v4), some (.int v5), some (.int v6), some (.int v7), some (.int (v8 + (-1 : Int32))), some (.int v9), some (.int (-1 : Int32)), some (.int v11), some (.int v12), some (.long v13), none, some (.int v15), some (.int v16), some (.int v17), some (.int v18), some (.int v19), some (.int v20), some (.int v21), some (.int v22), some (.int w0), some (.int p244.1), some (.int (v8 + (-1 : Int32))), none]) rfl rfl ?_
              refine Eval.weak (L' := [some (.ref 0), some (.ref 1), some (.int (v2 + (1 : Int32))), some (.int v3), some (.int v4), some (.int v5), some (.int v6), some (.int v7), some (.int (v8 + (-1 : Int32))), some (.int v9), some (.int (-1 : Int32)), some (.int v11), some (.int v12), some (.long v13), none, some (.int v15), none, some (.int v17), none, none, none, some (.int v21), none, none, some (.int p244.1), some (.int (v8 + (-1 : Int32))), none]) ⟨_, _, rfl, Or.inr rfl, _, _, rfl, Or.inr rfl, _, _, rfl, Or.inr rfl, _, _, rfl, Or.inr rfl, _, _, rfl, Or.inr rfl, _, _, rfl, Or.inr rfl, _, _, rfl, Or.inr rfl, _, _, rfl, Or.inr rfl, _, _, rfl, Or.inr rfl, _, _, rfl, Or.inr rfl, _, _, rfl, Or.inr rfl, _, _, rfl, Or.inr rfl, _, _, rfl, Or.inr rfl, _, _, rfl, Or.inr rfl, _, _, rfl, Or.inl rfl, _, _, rfl, Or.inr rfl, _, _, rfl, Or.inl rfl, _, _, rfl, Or.inr rfl, _, _, rfl, Or.inl rfl, _, _, rfl, Or.inl rfl, _, _, rfl, Or.inl rfl, _, _, rfl, Or.inr rfl, _, _, rfl, Or.inl rfl, _, _, rfl, Or.inl rfl, _, _, rfl, Or.inr rfl, _, _, rfl, Or.inr rfl, _, _, rfl, Or.inl rfl, rfl⟩ ?_
              exact (Eval.conv hJ250 (by simp only [if_neg hc249]) rfl)
          exact ev_law_b397 _ hrec p244.2 scr (v2 + (1 : Int32)) v3 v4 v5 v6 (if v21 = (0 : Int32) then (v7 + (-1 : Int32)) else v7) (if v21 = (0 : Int32) then v8 else (v8 + (-1 : Int32))) (if v21 = (0 : Int32) then (-1 : Int32) else v9) (if v21 = (0 : Int32) then v10 else (-1 : Int32)) v11 v12 v13 v15 v17 v21 p244.1 (if v21 = (0 : Int32) then (v7 + (-1 : Int32)) else (v8 + (-1 : Int32))) h hk
        · rw [if_neg hc248] at h
          refine Eval.icmpF rfl (feq hc248).1 ?_
          refine Eval.weak (L' := [some (.ref 0), some (.ref 1), some (.int v2), some (.int v3), some (.int v4), some (.int v5), some (.int v6), some (.int v7), some (.int v8), some (.int v9), some (.int v10), some (.int v11), some (.int v12), some (.long v13), none, some (.int v15), none, none, none, none, none, none, none, none, some (.int p244.1), none, none]) ⟨_, _, rfl, Or.inr rfl, _, _, rfl, Or.inr rfl, _, _, rfl, Or.inr rfl, _, _, rfl, Or.inr rfl, _, _, rfl, Or.inr rfl, _, _, rfl, Or.inr rfl, _, _, rfl, Or.inr rfl, _, _, rfl, Or.inr rfl, _, _, rfl, Or.inr rfl, _, _, rfl, Or.inr rfl, _, _, rfl, Or.inr rfl, _, _, rfl, Or.inr rfl, _, _, rfl, Or.inr rfl, _, _, rfl, Or.inr rfl, _, _, rfl, Or.inl rfl, _, _, rfl, Or.inr rfl, _, _, rfl, Or.inl rfl, _, _, rfl, Or.inl rfl, _, _, rfl, Or.inl rfl, _, _, rfl, Or.inl rfl, _, _, rfl, Or.inl rfl, _, _, rfl, Or.inl rfl, _, _, rfl, Or.inl rfl, _, _, rfl, Or.inl rfl, _, _, rfl, Or.inr rfl, _, _, rfl, Or.inl rfl, _, _, rfl, Or.inl rfl, rfl⟩ ?_
          exact ev_law_b357 _ hrec p244.2 scr v2 v3 v4 v5 v6 v7 v8 v9 v10 v11 v12 v13 v15 p244.1 h hk
    · rw [if_neg hc198] at h
      refine Eval.icmpT (t := 484) rfl rfl (feq hc198).2 ?_
      refine Eval.aload_n rfl rfl ?_
      refine Eval.iload rfl rfl ?_
      obtain ⟨p370, hq371, h⟩ := bind_some h
      refine Eval.callI (rest := []) (x := p370.1) (H1 := (W1 scr p370.2 [])) rfl rfl (ev_j_step [] scr s v17 hq371 rfl) ?_
      refine Eval.istore (L' := [some (.ref 0), some (.ref 1), some (.int v2), some (.int v3), some (.int v4), some (.int v5), some (.int v6), some (.int v7), some (.int v8), some (.int v9), some (.int v10), some (.int v11), some (.int v12), some (.long v13), none, some (.int v15), some (.int v16), some (.int v17), some (.int v18), some (.int v19), some (.int v20), some (.int v21), some (.int v22), some (.int w0), some (.int p370.1), none, none]) rfl rfl ?_
      refine Eval.iload rfl rfl ?_
      by_cases hc372 : w0 = (0 : Int32)
      · rw [if_pos hc372] at h
        refine Eval.ifF rfl (teq hc372).2 ?_
        refine Eval.iload rfl rfl ?_
        refine Eval.bipush (x := (-2 : Int32)) rfl rfl ?_
        by_cases hc373 : p370.1 = (-2 : Int32)
        · rw [if_pos hc373] at h
          refine Eval.icmpT (t := 659) rfl rfl (teq hc373).1 ?_
          refine Eval.weak (L' := [some (.ref 0), some (.ref 1), some (.int v2), some (.int v3), some (.int v4), some (.int v5), some (.int v6), some (.int v7), some (.int v8), some (.int v9), some (.int v10), some (.int v11), some (.int v12), some (.long v13), none, some (.int v15), none, none, none, none, none, none, none, none, none, none, none]) ⟨_, _, rfl, Or.inr rfl, _, _, rfl, Or.inr rfl, _, _, rfl, Or.inr rfl, _, _, rfl, Or.inr rfl, _, _, rfl, Or.inr rfl, _, _, rfl, Or.inr rfl, _, _, rfl, Or.inr rfl, _, _, rfl, Or.inr rfl, _, _, rfl, Or.inr rfl, _, _, rfl, Or.inr rfl, _, _, rfl, Or.inr rfl, _, _, rfl, Or.inr rfl, _, _, rfl, Or.inr rfl, _, _, rfl, Or.inr rfl, _, _, rfl, Or.inl rfl, _, _, rfl, Or.inr rfl, _, _, rfl, Or.inl rfl, _, _, rfl, Or.inl rfl, _, _, rfl, Or.inl rfl, _, _, rfl, Or.inl rfl, _, _, rfl, Or.inl rfl, _, _, rfl, Or.inl rfl, _, _, rfl, Or.inl rfl, _, _, rfl, Or.inl rfl, _, _, rfl, Or.inl rfl, _, _, rfl, Or.inl rfl, _, _, rfl, Or.inl rfl, rfl⟩ ?_
          exact ev_law_b659 _ hrec p370.2 scr v2 v3 v4 v5 v6 v7 v8 v9 v10 v11 v12 v13 v15 h hk
        · rw [if_neg hc373] at h
          refine Eval.icmpF rfl (feq hc373).1 ?_
          cases h
          refine Eval.weak (L' := [none, none, none, none, none, none, none, none, none, none, none, none, none, none, none, none, none, none, none, none, none, none, none, none, none, none, none]) ⟨_, _, rfl, Or.inl rfl, _, _, rfl, Or.inl rfl, _, _, rfl, Or.inl rfl, _, _, rfl, Or.inl rfl, _, _, rfl, Or.inl rfl, _, _, rfl, Or.inl rfl, _, _, rfl, Or.inl rfl, _, _, rfl, Or.inl rfl, _, _, rfl, Or.inl rfl, _, _, rfl, Or.inl rfl, _, _, rfl, Or.inl rfl, _, _, rfl, Or.inl rfl, _, _, rfl, Or.inl rfl, _, _, rfl, Or.inl rfl, _, _, rfl, Or.inl rfl, _, _, rfl, Or.inl rfl, _, _, rfl, Or.inl rfl, _, _, rfl, Or.inl rfl, _, _, rfl, Or.inl rfl, _, _, rfl, Or.inl rfl, _, _, rfl, Or.inl rfl, _, _, rfl, Or.inl rfl, _, _, rfl, Or.inl rfl, _, _, rfl, Or.inl rfl, _, _, rfl, Or.inl rfl, _, _, rfl, Or.inl rfl, _, _, rfl, Or.inl rfl, rfl⟩ ?_
          exact hk
      · rw [if_neg hc372] at h
        refine Eval.ifT (t := 506) rfl rfl (feq hc372).2 ?_
        refine Eval.iinc (L' := [some (.ref 0), some (.ref 1), some (.int (v2 + (1 : Int32))), some (.int v3), some (.int v4), some (.int v5), some (.int v6), some (.int v7), some (.int v8), some (.int v9), some (.int v10), some (.int v11), some (.int v12), some (.long v13), none, some (.int v15), some (.int v16), some (.int v17), some (.int v18), some (.int v19), some (.int v20), some (.int v21), some (.int v22), some (.int w0), some (.int p370.1), none, none]) rfl rfl rfl ?_
        refine Eval.iload rfl rfl ?_
        refine Eval.iconst (x := (2 : Int32)) rfl rfl ?_
        by_cases hc374 : v20 = (2 : Int32)
        · rw [if_pos hc374] at h
          refine Eval.icmpT (t := 521) rfl rfl (teq hc374).1 ?_
          refine Eval.weak (L' := [some (.ref 0), some (.ref 1), some (.int (v2 + (1 : Int32))), some (.int v3), some (.int v4), some (.int v5), some (.int v6), some (.int v7), some (.int v8), some (.int v9), some (.int v10), some (.int v11), some (.int v12), some (.long v13), none, some (.int v15), none, some (.int v17), none, none, some (.int v20), some (.int v21), none, none, some (.int p370.1), none, none]) ⟨_, _, rfl, Or.inr rfl, _, _, rfl, Or.inr rfl, _, _, rfl, Or.inr rfl, _, _, rfl, Or.inr rfl, _, _, rfl, Or.inr rfl, _, _, rfl, Or.inr rfl, _, _, rfl, Or.inr rfl, _, _, rfl, Or.inr rfl, _, _, rfl, Or.inr rfl, _, _, rfl, Or.inr rfl, _, _, rfl, Or.inr rfl, _, _, rfl, Or.inr rfl, _, _, rfl, Or.inr rfl, _, _, rfl, Or.inr rfl, _, _, rfl, Or.inl rfl, _, _, rfl, Or.inr rfl, _, _, rfl, Or.inl rfl, _, _, rfl, Or.inr rfl, _, _, rfl, Or.inl rfl, _, _, rfl, Or.inl rfl, _, _, rfl, Or.inr rfl, _, _, rfl, Or.inr rfl, _, _, rfl, Or.inl rfl, _, _, rfl, Or.inl rfl, _, _, rfl, Or.inr rfl, _, _, rfl, Or.inl rfl, _, _, rfl, Or.inl rfl, rfl⟩ ?_
          exact ev_law_b521 _ hrec p370.2 scr (v2 + (1 : Int32)) v3 v4 v5 v6 v7 v8 v9 v10 v11 v12 v13 v15 v17 v20 v21 p370.1 h hk
        · rw [if_neg hc374] at h
          refine Eval.icmpF rfl (feq hc374).1 ?_
          refine Eval.iload rfl rfl ?_
          refine Eval.iconst (x := (3 : Int32)) rfl rfl ?_
          by_cases hc379 : v20 = (3 : Int32)
          · rw [if_pos hc379] at h
            refine Eval.icmpF rfl (teq hc379).2 ?_
            refine Eval.weak (L' := [some (.ref 0), some (.ref 1), some (.int (v2 + (1 : Int32))), some (.int v3), some (.int v4), some (.int v5), some (.int v6), some (.int v7), some (.int v8), some (.int v9), some (.int v10), some (.int v11), some (.int v12), some (.long v13), none, some (.int v15), none, some (.int v17), none, none, some (.int v20), some (.int v21), none, none, some (.int p370.1), none, none]) ⟨_, _, rfl, Or.inr rfl, _, _, rfl, Or.inr rfl, _, _, rfl, Or.inr rfl, _, _, rfl, Or.inr rfl, _, _, rfl, Or.inr rfl, _, _, rfl, Or.inr rfl, _, _, rfl, Or.inr rfl, _, _, rfl, Or.inr rfl, _, _, rfl, Or.inr rfl, _, _, rfl, Or.inr rfl, _, _, rfl, Or.inr rfl, _, _, rfl, Or.inr rfl, _, _, rfl, Or.inr rfl, _, _, rfl, Or.inr rfl, _, _, rfl, Or.inl rfl, _, _, rfl, Or.inr rfl, _, _, rfl, Or.inl rfl, _, _, rfl, Or.inr rfl, _, _, rfl, Or.inl rfl, _, _, rfl, Or.inl rfl, _, _, rfl, Or.inr rfl, _, _, rfl, Or.inr rfl, _, _, rfl, Or.inl rfl, _, _, rfl, Or.inl rfl, _, _, rfl, Or.inr rfl, _, _, rfl, Or.inl rfl, _, _, rfl, Or.inl rfl, rfl⟩ ?_
            exact ev_law_b521 _ hrec p370.2 scr (v2 + (1 : Int32)) v3 v4 v5 v6 v7 v8 v9 v10 v11 v12 v13 v15 v17 v20 v21 p370.1 h hk
          · rw [if_neg hc379] at h
            refine Eval.icmpT (t := 568) rfl rfl (feq hc379).2 ?_
            refine Eval.lload rfl rfl ?_
            refine Eval.bipush (x := (8 : Int32)) rfl rfl ?_
            refine Eval.iload rfl rfl ?_
            refine Eval.imul rfl ?_
            refine Eval.lushr rfl ?_
            refine Eval.ldc2_w (x := (255 : Int64)) rfl rfl ?_
            refine Eval.land rfl ?_
            refine Eval.l2i rfl ?_
            refine Eval.istore (L' := [some (.ref 0), some (.ref 1), some (.int (v2 + (1 : Int32))), some (.int v3), some (.int v4), some (.int v5), some (.int v6), some (.int v7), some (.int v8), some (.int v9), some (.int v10), some (.int v11), some (.int v12), some (.long v13), none, some (.int v15), some (.int v16), some (.int v17), some (.int v18), some (.int v19), some (.int v20), some (.int v21), some (.int v22), some (.int w0), some (.int p370.1), some (.int (Int64.toInt32 ((lus v13 ((8 : Int32) * v17)) &&& (255 : Int64)))), none]) rfl rfl ?_
            refine Eval.iload rfl rfl ?_
            suffices hJ382 : Eval own_P 0 602 [some (.ref 0), some (.ref 1), some (.int (v2 + (1 : Int32))), some (.int v3), some (.int v4), some (.int v5), some (.int v6), some (.int v7), some (.int v8), some (.int v9), some (.int v10), some (.int v11), some (.int v12), some (.long v13), none, some (.int v15), none, some (.int v17), none, none, none, some (.int v21), some (.int v22), none, some (.int p370.1), none, none] [.int (if (0 : Int32) < (Int64.toInt32 ((lus v13 ((8 : Int32) * v17)) &&& (255 : Int64))) then (if (v22 + (1 : Int32)) < (Int64.toInt32 ((lus v13 ((8 : Int32) * v17)) &&& (255 : Int64))) then (0 : Int32) else (1 : Int32)) else (0 : Int32))] (W1 scr p370.2 []) out by
              by_cases hc380 : (0 : Int32) < (Int64.toInt32 ((lus v13 ((8 : Int32) * v17)) &&& (255 : Int64)))
              · refine Eval.ifF rfl (tlt hc380).2.2.2 ?_
                refine Eval.iload rfl rfl ?_
                refine Eval.iconst (x := (1 : Int32)) rfl rfl ?_
                refine Eval.iadd rfl ?_
                refine Eval.iload rfl rfl ?_
                by_cases hc381 : (v22 + (1 : Int32)) < (Int64.toInt32 ((lus v13 ((8 : Int32) * v17)) &&& (255 : Int64)))
                · refine Eval.icmpT (t := 601) rfl rfl (tlt hc381).1 ?_
                  refine Eval.iconst (x := (0 : Int32)) rfl rfl ?_
                  refine Eval.weak (L' := [some (.ref 0), some (.ref 1), some (.int (v2 + (1 : Int32))), some (.int v3), some (.int v4), some (.int v5), some (.int v6), some (.int v7), some (.int v8), some (.int v9), some (.int v10), some (.int v11), some (.int v12), some (.long v13), none, some (.int v15), none, some (.int v17), none, none, none, some (.int v21), some (.int v22), none, some (.int p370.1), none, none]) ⟨_, _, rfl, Or.inr rfl, _, _, rfl, Or.inr rfl, _, _, rfl, Or.inr rfl, _, _, rfl, Or.inr rfl, _, _, rfl, Or.inr rfl, _, _, rfl, Or.inr rfl, _, _, rfl, Or.inr rfl, _, _, rfl, Or.inr rfl, _, _, rfl, Or.inr rfl, _, _, rfl, Or.inr rfl, _, _, rfl, Or.inr rfl, _, _, rfl, Or.inr rfl, _, _, rfl, Or.inr rfl, _, _, rfl, Or.inr rfl, _, _, rfl, Or.inl rfl, _, _, rfl, Or.inr rfl, _, _, rfl, Or.inl rfl, _, _, rfl, Or.inr rfl, _, _, rfl, Or.inl rfl, _, _, rfl, Or.inl rfl, _, _, rfl, Or.inl rfl, _, _, rfl, Or.inr rfl, _, _, rfl, Or.inr rfl, _, _, rfl, Or.inl rfl, _, _, rfl, Or.inr rfl, _, _, rfl, Or.inl rfl, _, _, rfl, Or.inl rfl, rfl⟩ ?_
                  exact (Eval.conv hJ382 rfl (by simp only [if_pos hc380, if_pos hc381]))
                · refine Eval.icmpF rfl (flt hc381).1 ?_
                  refine Eval.iconst (x := (1 : Int32)) rfl rfl ?_
                  refine Eval.goto (t := 602) rfl rfl ?_
                  refine Eval.weak (L' := [some (.ref 0), some (.ref 1), some (.int (v2 + (1 : Int32))), some (.int v3), some (.int v4), some (.int v5), some (.int v6), some (.int v7), some (.int v8), some (.int v9), some (.int v10), some (.int v11), some (.int v12), some (.long v13), none, some (.int v15), none, some (.int v17), none, none, none, some (.int v21), some (.int v22), none, some (.int p370.1), none, none]) ⟨_, _, rfl, Or.inr rfl, _, _, rfl, Or.inr rfl, _, _, rfl, Or.inr rfl, _, _, rfl, Or.inr rfl, _, _, rfl, Or.inr rfl, _, _, rfl, Or.inr rfl, _, _, rfl, Or.inr rfl, _, _, rfl, Or.inr rfl, _, _, rfl, Or.inr rfl, _, _, rfl, Or.inr rfl, _, _, rfl, Or.inr rfl, _, _, rfl, Or.inr rfl, _, _, rfl, Or.inr rfl, _, _, rfl, Or.inr rfl, _, _, rfl, Or.inl rfl, _, _, rfl, Or.inr rfl, _, _, rfl, Or.inl rfl, _, _, rfl, Or.inr rfl, _, _, rfl, Or.inl rfl, _, _, rfl, Or.inl rfl, _, _, rfl, Or.inl rfl, _, _, rfl, Or.inr rfl, _, _, rfl, Or.inr rfl, _, _, rfl, Or.inl rfl, _, _, rfl, Or.inr rfl, _, _, rfl, Or.inl rfl, _, _, rfl, Or.inl rfl, rfl⟩ ?_
                  exact (Eval.conv hJ382 rfl (by simp only [if_pos hc380, if_neg hc381]))
              · refine Eval.ifT (t := 601) rfl rfl (flt hc380).2.2.2 ?_
                refine Eval.iconst (x := (0 : Int32)) rfl rfl ?_
                refine Eval.weak (L' := [some (.ref 0), some (.ref 1), some (.int (v2 + (1 : Int32))), some (.int v3), some (.int v4), some (.int v5), some (.int v6), some (.int v7), some (.int v8), some (.int v9), some (.int v10), some (.int v11), some (.int v12), some (.long v13), none, some (.int v15), none, some (.int v17), none, none, none, some (.int v21), some (.int v22), none, some (.int p370.1), none, none]) ⟨_, _, rfl, Or.inr rfl, _, _, rfl, Or.inr rfl, _, _, rfl, Or.inr rfl, _, _, rfl, Or.inr rfl, _, _, rfl, Or.inr rfl, _, _, rfl, Or.inr rfl, _, _, rfl, Or.inr rfl, _, _, rfl, Or.inr rfl, _, _, rfl, Or.inr rfl, _, _, rfl, Or.inr rfl, _, _, rfl, Or.inr rfl, _, _, rfl, Or.inr rfl, _, _, rfl, Or.inr rfl, _, _, rfl, Or.inr rfl, _, _, rfl, Or.inl rfl, _, _, rfl, Or.inr rfl, _, _, rfl, Or.inl rfl, _, _, rfl, Or.inr rfl, _, _, rfl, Or.inl rfl, _, _, rfl, Or.inl rfl, _, _, rfl, Or.inl rfl, _, _, rfl, Or.inr rfl, _, _, rfl, Or.inr rfl, _, _, rfl, Or.inl rfl, _, _, rfl, Or.inr rfl, _, _, rfl, Or.inl rfl, _, _, rfl, Or.inl rfl, rfl⟩ ?_
                exact (Eval.conv hJ382 rfl (by simp only [if_neg hc380]))
            exact ev_law_b602 _ hrec p370.2 scr (v2 + (1 : Int32)) v3 v4 v5 v6 v7 v8 v9 v10 v11 v12 v13 v15 v17 v21 v22 p370.1 (if (0 : Int32) < (Int64.toInt32 ((lus v13 ((8 : Int32) * v17)) &&& (255 : Int64))) then (if (v22 + (1 : Int32)) < (Int64.toInt32 ((lus v13 ((8 : Int32) * v17)) &&& (255 : Int64))) then (0 : Int32) else (1 : Int32)) else (0 : Int32)) h hk
def law_l46 : Nat → Q → List Int32 → Int32 → Int32 → Int32 → Int32 → Int32 → Int32 → Int32 → Int32 → Int32 → Int32 → Int32 → Int64 → Int32 → Option ((Q) ⊕ ((Q) ⊕ ((Q) ⊕ ((Q) ⊕ ((Q) ⊕ ((Q) ⊕ ((Q) ⊕ ((Q) ⊕ ((Q) ⊕ ((Q) ⊕ ((Q) ⊕ ((Q) ⊕ ((Q) ⊕ ((Q) ⊕ ((Q) ⊕ ((Q) ⊕ ((Q) ⊕ (Q))))))))))))))))))
  | 0, _, _, _, _, _, _, _, _, _, _, _, _, _, _, _ => none
  | n + 1, s, scr, v2, v3, v4, v5, v6, v7, v8, v9, v10, v11, v12, v13, v15 => (if (v15 + (3 : Int32)) < (Nat.toInt32 scr.length) then (if inb scr.length v15 = true then (if inb scr.length (v15 + (1 : Int32)) = true then (if inb scr.length (v15 + (2 : Int32)) = true then (if inb scr.length (v15 + (3 : Int32)) = true then ((j_state s (((rd scr (v15 + (1 : Int32))) &&& (255 : Int32)) % (5 : Int32))).bind fun p35 => ((j_lockOf s (((rd scr (v15 + (1 : Int32))) &&& (255 : Int32)) % (5 : Int32))).bind fun p39 => ((j_spins s (((rd scr (v15 + (1 : Int32))) &&& (255 : Int32)) % (5 : Int32))).bind fun p43 => (law_b142 (law_l46 n) s scr v2 v3 v4 v5 v6 v7 v8 v9 v10 v11 v12 v13 v15 ((rd scr v15) &&& (3 : Int32)) (((rd scr (v15 + (1 : Int32))) &&& (255 : Int32)) % (5 : Int32)) (((rd scr (v15 + (2 : Int32))) &&& (255 : Int32)) % (3 : Int32)) ((rd scr (v15 + (3 : Int32))) &&& (7 : Int32)) p35 p39 p43 (if (3 : Int32) < (((rd scr (v15 + (1 : Int32))) &&& (255 : Int32)) % (5 : Int32)) then (0 : Int32) else (if p35 = (0 : Int32) then (0 : Int32) else (1 : Int32))))))) else none) else none) else none) else none) else some (.inr (.inr (.inr (.inr (.inr (.inr (.inr (.inr (.inr (.inr (.inr (.inr (.inr (.inr (.inr (.inr (.inr (s)))))))))))))))))))
set_option maxRecDepth 100000 in
theorem ev_law_l46 : ∀ (n : Nat) (s : Q) (scr : List Int32) (v2 : Int32) (v3 : Int32) (v4 : Int32) (v5 : Int32) (v6 : Int32) (v7 : Int32) (v8 : Int32) (v9 : Int32) (v10 : Int32) (v11 : Int32) (v12 : Int32) (v13 : Int64) (v15 : Int32) {res : (Q) ⊕ ((Q) ⊕ ((Q) ⊕ ((Q) ⊕ ((Q) ⊕ ((Q) ⊕ ((Q) ⊕ ((Q) ⊕ ((Q) ⊕ ((Q) ⊕ ((Q) ⊕ ((Q) ⊕ ((Q) ⊕ ((Q) ⊕ ((Q) ⊕ ((Q) ⊕ ((Q) ⊕ (Q)))))))))))))))))} {out : Option Value × AHeap}, law_l46 n s scr v2 v3 v4 v5 v6 v7 v8 v9 v10 v11 v12 v13 v15 = some res → law_l46_K scr res out → Eval own_P 0 46 [some (.ref 0), some (.ref 1), some (.int v2), some (.int v3), some (.int v4), some (.int v5), some (.int v6), some (.int v7), some (.int v8), some (.int v9), some (.int v10), some (.int v11), some (.int v12), some (.long v13), none, some (.int v15), none, none, none, none, none, none, none, none, none, none, none] [] (W1 scr s []) out := by
  intro n
  induction n with
  | zero => intro _ _ _ _ _ _ _ _ _ _ _ _ _ _ _ res out h hk; cases h
  | succ n hrec =>
    intro s scr v2 v3 v4 v5 v6 v7 v8 v9 v10 v11 v12 v13 v15 res out h hk
    rw [law_l46] at h
    refine Eval.iload rfl rfl ?_
    refine Eval.iconst (x := (3 : Int32)) rfl rfl ?_
    refine Eval.iadd rfl ?_
    refine Eval.aload_n rfl rfl ?_
    refine Eval.alenI (xs := scr) rfl rfl ?_
    by_cases hc26 : (v15 + (3 : Int32)) < (Nat.toInt32 scr.length)
    · rw [if_pos hc26] at h
      refine Eval.icmpF rfl (tlt hc26).2.1 ?_
      refine Eval.aload_n rfl rfl ?_
      refine Eval.iload rfl rfl ?_
      obtain ⟨hb27, h⟩ := ite_some h
      refine Eval.iaload0 (xs := scr) rfl rfl hb27 ?_
      refine Eval.iconst (x := (3 : Int32)) rfl rfl ?_
      refine Eval.iand rfl ?_
      refine Eval.istore (L' := [some (.ref 0), some (.ref 1), some (.int v2), some (.int v3), some (.int v4), some (.int v5), some (.int v6), some (.int v7), some (.int v8), some (.int v9), some (.int v10), some (.int v11), some (.int v12), some (.long v13), none, some (.int v15), some (.int ((rd scr v15) &&& (3 : Int32))), none, none, none, none, none, none, none, none, none, none]) rfl rfl ?_
      refine Eval.aload_n rfl rfl ?_
      refine Eval.iload rfl rfl ?_
      refine Eval.iconst (x := (1 : Int32)) rfl rfl ?_
      refine Eval.iadd rfl ?_
      obtain ⟨hb28, h⟩ := ite_some h
      refine Eval.iaload0 (xs := scr) rfl rfl hb28 ?_
      refine Eval.sipush (x := (255 : Int32)) rfl rfl ?_
      refine Eval.iand rfl ?_
      refine Eval.iconst (x := (5 : Int32)) rfl rfl ?_
      refine Eval.irem rfl (by decide) ?_
      refine Eval.istore (L' := [some (.ref 0), some (.ref 1), some (.int v2), some (.int v3), some (.int v4), some (.int v5), some (.int v6), some (.int v7), some (.int v8), some (.int v9), some (.int v10), some (.int v11), some (.int v12), some (.long v13), none, some (.int v15), some (.int ((rd scr v15) &&& (3 : Int32))), some (.int (((rd scr (v15 + (1 : Int32))) &&& (255 : Int32)) % (5 : Int32))), none, none, none, none, none, none, none, none, none]) rfl rfl ?_
      refine Eval.aload_n rfl rfl ?_
      refine Eval.iload rfl rfl ?_
      refine Eval.iconst (x := (2 : Int32)) rfl rfl ?_
      refine Eval.iadd rfl ?_
      obtain ⟨hb29, h⟩ := ite_some h
      refine Eval.iaload0 (xs := scr) rfl rfl hb29 ?_
      refine Eval.sipush (x := (255 : Int32)) rfl rfl ?_
      refine Eval.iand rfl ?_
      refine Eval.iconst (x := (3 : Int32)) rfl rfl ?_
      refine Eval.irem rfl (by decide) ?_
      refine Eval.istore (L' := [some (.ref 0), some (.ref 1), some (.int v2), some (.int v3), some (.int v4), some (.int v5), some (.int v6), some (.int v7), some (.int v8), some (.int v9), some (.int v10), some (.int v11), some (.int v12), some (.long v13), none, some (.int v15), some (.int ((rd scr v15) &&& (3 : Int32))), some (.int (((rd scr (v15 + (1 : Int32))) &&& (255 : Int32)) % (5 : Int32))), some (.int (((rd scr (v15 + (2 : Int32))) &&& (255 : Int32)) % (3 : Int32))), none, none, none, none, none, none, none, none]) rfl rfl ?_
      refine Eval.aload_n rfl rfl ?_
      refine Eval.iload rfl rfl ?_
      refine Eval.iconst (x := (3 : Int32)) rfl rfl ?_
      refine Eval.iadd rfl ?_
      obtain ⟨hb30, h⟩ := ite_some h
      refine Eval.iaload0 (xs := scr) rfl rfl hb30 ?_
      refine Eval.bipush (x := (7 : Int32)) rfl rfl ?_
      refine Eval.iand rfl ?_
      refine Eval.istore (L' := [some (.ref 0), some (.ref 1), some (.int v2), some (.int v3), some (.int v4), some (.int v5), some (.int v6), some (.int v7), some (.int v8), some (.int v9), some (.int v10), some (.int v11), some (.int v12), some (.long v13), none, some (.int v15), some (.int ((rd scr v15) &&& (3 : Int32))), some (.int (((rd scr (v15 + (1 : Int32))) &&& (255 : Int32)) % (5 : Int32))), some (.int (((rd scr (v15 + (2 : Int32))) &&& (255 : Int32)) % (3 : Int32))), some (.int ((rd scr (v15 + (3 : Int32))) &&& (7 : Int32))), none, none, none, none, none, none, none]) rfl rfl ?_
      refine Eval.aload_n rfl rfl ?_
      refine Eval.iload rfl rfl ?_
      obtain ⟨p35, hq36, h⟩ := bind_some h
      refine Eval.callI (rest := []) (x := p35) (H1 := (W1 scr s [])) rfl rfl (ev_j_state [] scr s (((rd scr (v15 + (1 : Int32))) &&& (255 : Int32)) % (5 : Int32)) hq36 rfl) ?_
      refine Eval.istore (L' := [some (.ref 0), some (.ref 1), some (.int v2), some (.int v3), some (.int v4), some (.int v5), some (.int v6), some (.int v7), some (.int v8), some (.int v9), some (.int v10), some (.int v11), some (.int v12), some (.long v13), none, some (.int v15), some (.int ((rd scr v15) &&& (3 : Int32))), some (.int (((rd scr (v15 + (1 : Int32))) &&& (255 : Int32)) % (5 : Int32))), some (.int (((rd scr (v15 + (2 : Int32))) &&& (255 : Int32)) % (3 : Int32))), some (.int ((rd scr (v15 + (3 : Int32))) &&& (7 : Int32))), some (.int p35), none, none, none, none, none, none]) rfl rfl ?_
      refine Eval.aload_n rfl rfl ?_
      refine Eval.iload rfl rfl ?_
      obtain ⟨p39, hq40, h⟩ := bind_some h
      refine Eval.callI (rest := []) (x := p39) (H1 := (W1 scr s [])) rfl rfl (ev_j_lockOf [] scr s (((rd scr (v15 + (1 : Int32))) &&& (255 : Int32)) % (5 : Int32)) hq40 rfl) ?_
      refine Eval.istore (L' := [some (.ref 0), some (.ref 1), some (.int v2), some (.int v3), some (.int v4), some (.int v5), some (.int v6), some (.int v7), some (.int v8), some (.int v9), some (.int v10), some (.int v11), some (.int v12), some (.long v13), none, some (.int v15), some (.int ((rd scr v15) &&& (3 : Int32))), some (.int (((rd scr (v15 + (1 : Int32))) &&& (255 : Int32)) % (5 : Int32))), some (.int (((rd scr (v15 + (2 : Int32))) &&& (255 : Int32)) % (3 : Int32))), some (.int ((rd scr (v15 + (3 : Int32))) &&& (7 : Int32))), some (.int p35), some (.int p39), none, none, none, none, none]) rfl rfl ?_
      refine Eval.aload_n rfl rfl ?_
      refine Eval.iload rfl rfl ?_
      obtain ⟨p43, hq44, h⟩ := bind_some h
      refine Eval.callI (rest := []) (x := p43) (H1 := (W1 scr s [])) rfl rfl (ev_j_spins [] scr s (((rd scr (v15 + (1 : Int32))) &&& (255 : Int32)) % (5 : Int32)) hq44 rfl) ?_
      refine Eval.istore (L' := [some (.ref 0), some (.ref 1), some (.int v2), some (.int v3), some (.int v4), some (.int v5), some (.int v6), some (.int v7), some (.int v8), some (.int v9), some (.int v10), some (.int v11), some (.int v12), some (.long v13), none, some (.int v15), some (.int ((rd scr v15) &&& (3 : Int32))), some (.int (((rd scr (v15 + (1 : Int32))) &&& (255 : Int32)) % (5 : Int32))), some (.int (((rd scr (v15 + (2 : Int32))) &&& (255 : Int32)) % (3 : Int32))), some (.int ((rd scr (v15 + (3 : Int32))) &&& (7 : Int32))), some (.int p35), some (.int p39), some (.int p43), none, none, none, none]) rfl rfl ?_
      refine Eval.iload rfl rfl ?_
      refine Eval.iconst (x := (3 : Int32)) rfl rfl ?_
      suffices hJ47 : Eval own_P 0 142 [some (.ref 0), some (.ref 1), some (.int v2), some (.int v3), some (.int v4), some (.int v5), some (.int v6), some (.int v7), some (.int v8), some (.int v9), some (.int v10), some (.int v11), some (.int v12), some (.long v13), none, some (.int v15), some (.int ((rd scr v15) &&& (3 : Int32))), some (.int (((rd scr (v15 + (1 : Int32))) &&& (255 : Int32)) % (5 : Int32))), some (.int (((rd scr (v15 + (2 : Int32))) &&& (255 : Int32)) % (3 : Int32))), some (.int ((rd scr (v15 + (3 : Int32))) &&& (7 : Int32))), some (.int p35), some (.int p39), some (.int p43), none, none, none, none] [.int (if (3 : Int32) < (((rd scr (v15 + (1 : Int32))) &&& (255 : Int32)) % (5 : Int32)) then (0 : Int32) else (if p35 = (0 : Int32) then (0 : Int32) else (1 : Int32)))] (W1 scr s []) out by
        by_cases hc45 : (3 : Int32) < (((rd scr (v15 + (1 : Int32))) &&& (255 : Int32)) % (5 : Int32))
        · refine Eval.icmpT (t := 141) rfl rfl (tlt hc45).2.2.1 ?_
          refine Eval.iconst (x := (0 : Int32)) rfl rfl ?_
          exact (Eval.conv hJ47 rfl (by simp only [if_pos hc45]))
        · refine Eval.icmpF rfl (flt hc45).2.2.1 ?_
          refine Eval.iload rfl rfl ?_
          by_cases hc46 : p35 = (0 : Int32)
          · refine Eval.ifT (t := 141) rfl rfl (teq hc46).1 ?_
            refine Eval.iconst (x := (0 : Int32)) rfl rfl ?_
            exact (Eval.conv hJ47 rfl (by simp only [if_neg hc45, if_pos hc46]))
          · refine Eval.ifF rfl (feq hc46).1 ?_
            refine Eval.iconst (x := (1 : Int32)) rfl rfl ?_
            refine Eval.goto (t := 142) rfl rfl ?_
            exact (Eval.conv hJ47 rfl (by simp only [if_neg hc45, if_neg hc46]))
      exact ev_law_b142 _ hrec s scr v2 v3 v4 v5 v6 v7 v8 v9 v10 v11 v12 v13 v15 ((rd scr v15) &&& (3 : Int32)) (((rd scr (v15 + (1 : Int32))) &&& (255 : Int32)) % (5 : Int32)) (((rd scr (v15 + (2 : Int32))) &&& (255 : Int32)) % (3 : Int32)) ((rd scr (v15 + (3 : Int32))) &&& (7 : Int32)) p35 p39 p43 (if (3 : Int32) < (((rd scr (v15 + (1 : Int32))) &&& (255 : Int32)) % (5 : Int32)) then (0 : Int32) else (if p35 = (0 : Int32) then (0 : Int32) else (1 : Int32))) h hk
    · rw [if_neg hc26] at h
      refine Eval.icmpT (t := 851) rfl rfl (flt hc26).2.1 ?_
      cases h
      refine Eval.weak (L' := [none, none, none, none, none, none, none, none, none, none, none, none, none, none, none, none, none, none, none, none, none, none, none, none, none, none, none]) ⟨_, _, rfl, Or.inl rfl, _, _, rfl, Or.inl rfl, _, _, rfl, Or.inl rfl, _, _, rfl, Or.inl rfl, _, _, rfl, Or.inl rfl, _, _, rfl, Or.inl rfl, _, _, rfl, Or.inl rfl, _, _, rfl, Or.inl rfl, _, _, rfl, Or.inl rfl, _, _, rfl, Or.inl rfl, _, _, rfl, Or.inl rfl, _, _, rfl, Or.inl rfl, _, _, rfl, Or.inl rfl, _, _, rfl, Or.inl rfl, _, _, rfl, Or.inl rfl, _, _, rfl, Or.inl rfl, _, _, rfl, Or.inl rfl, _, _, rfl, Or.inl rfl, _, _, rfl, Or.inl rfl, _, _, rfl, Or.inl rfl, _, _, rfl, Or.inl rfl, _, _, rfl, Or.inl rfl, _, _, rfl, Or.inl rfl, _, _, rfl, Or.inl rfl, _, _, rfl, Or.inl rfl, _, _, rfl, Or.inl rfl, _, _, rfl, Or.inl rfl, rfl⟩ ?_
      exact hk
def law (scr : List Int32) : Option (Int32 × Q) := ((j_init (4 : Int32)).bind fun p24 => ((law_l46 3000 p24 scr (0 : Int32) (0 : Int32) (0 : Int32) (0 : Int32) (0 : Int32) (0 : Int32) (0 : Int32) (-1 : Int32) (-1 : Int32) (-1 : Int32) (-1 : Int32) (0 : Int64) (0 : Int32)).bind fun p392 => Sum.elim (fun p394 => some ((0 : Int32), p394)) (fun p395 => Sum.elim (fun p396 => some ((0 : Int32), p396)) (fun p397 => Sum.elim (fun p398 => some ((0 : Int32), p398)) (fun p399 => Sum.elim (fun p400 => some ((0 : Int32), p400)) (fun p401 => Sum.elim (fun p402 => some ((0 : Int32), p402)) (fun p403 => Sum.elim (fun p404 => some ((0 : Int32), p404)) (fun p405 => Sum.elim (fun p406 => some ((0 : Int32), p406)) (fun p407 => Sum.elim (fun p408 => some ((0 : Int32), p408)) (fun p409 => Sum.elim (fun p410 => some ((0 : Int32), p410)) (fun p411 => Sum.elim (fun p412 => some ((0 : Int32), p412)) (fun p413 => Sum.elim (fun p414 => some ((0 : Int32), p414)) (fun p415 => Sum.elim (fun p416 => some ((0 : Int32), p416)) (fun p417 => Sum.elim (fun p418 => some ((0 : Int32), p418)) (fun p419 => Sum.elim (fun p420 => some ((0 : Int32), p420)) (fun p421 => Sum.elim (fun p422 => some ((0 : Int32), p422)) (fun p423 => Sum.elim (fun p424 => some ((0 : Int32), p424)) (fun p425 => Sum.elim (fun p426 => some ((0 : Int32), p426)) (fun p427 => some ((1 : Int32), p427)) p425) p423) p421) p419) p417) p415) p413) p411) p409) p407) p405) p403) p401) p399) p397) p395) p392))
set_option maxRecDepth 100000 in
theorem ev_law (scr : List Int32) {res : Int32 × Q} {out : Option Value × AHeap} (h : law scr = some res) (hk : out = (some (.int res.1), (W1 scr res.2 []))) : Eval own_P 0 0 [some (.ref 0), none, none, none, none, none, none, none, none, none, none, none, none, none, none, none, none, none, none, none, none, none, none, none, none, none, none] [] (W0 scr []) out := by
  rw [law] at h
  refine Eval.new (z := 0) (a := 1) (H1 := (W0 scr [.inl (Prog.fresh own_P)])) rfl rfl rfl (by decide) rfl (by decide) rfl ?_
  refine Eval.dupR rfl ?_
  refine Eval.iconst (x := (4 : Int32)) rfl rfl ?_
  obtain ⟨p24, hq25, h⟩ := bind_some h
  refine Eval.callN (rest := [.ref 1]) (H1 := (W1 scr p24 [])) rfl rfl (ev_j_init scr (4 : Int32) hq25 rfl) ?_
  refine Eval.astore_n (L' := [some (.ref 0), some (.ref 1), none, none, none, none, none, none, none, none, none, none, none, none, none, none, none, none, none, none, none, none, none, none, none, none, none]) rfl rfl ?_
  refine Eval.iconst (x := (0 : Int32)) rfl rfl ?_
  refine Eval.istore_n (L' := [some (.ref 0), some (.ref 1), some (.int (0 : Int32)), none, none, none, none, none, none, none, none, none, none, none, none, none, none, none, none, none, none, none, none, none, none, none, none]) rfl rfl ?_
  refine Eval.iconst (x := (0 : Int32)) rfl rfl ?_
  refine Eval.istore_n (L' := [some (.ref 0), some (.ref 1), some (.int (0 : Int32)), some (.int (0 : Int32)), none, none, none, none, none, none, none, none, none, none, none, none, none, none, none, none, none, none, none, none, none, none, none]) rfl rfl ?_
  refine Eval.iconst (x := (0 : Int32)) rfl rfl ?_
  refine Eval.istore (L' := [some (.ref 0), some (.ref 1), some (.int (0 : Int32)), some (.int (0 : Int32)), some (.int (0 : Int32)), none, none, none, none, none, none, none, none, none, none, none, none, none, none, none, none, none, none, none, none, none, none]) rfl rfl ?_
  refine Eval.iconst (x := (0 : Int32)) rfl rfl ?_
  refine Eval.istore (L' := [some (.ref 0), some (.ref 1), some (.int (0 : Int32)), some (.int (0 : Int32)), some (.int (0 : Int32)), some (.int (0 : Int32)), none, none, none, none, none, none, none, none, none, none, none, none, none, none, none, none, none, none, none, none, none]) rfl rfl ?_
  refine Eval.iconst (x := (0 : Int32)) rfl rfl ?_
  refine Eval.istore (L' := [some (.ref 0), some (.ref 1), some (.int (0 : Int32)), some (.int (0 : Int32)), some (.int (0 : Int32)), some (.int (0 : Int32)), some (.int (0 : Int32)), none, none, none, none, none, none, none, none, none, none, none, none, none, none, none, none, none, none, none, none]) rfl rfl ?_
  refine Eval.iconst (x := (0 : Int32)) rfl rfl ?_
  refine Eval.istore (L' := [some (.ref 0), some (.ref 1), some (.int (0 : Int32)), some (.int (0 : Int32)), some (.int (0 : Int32)), some (.int (0 : Int32)), some (.int (0 : Int32)), some (.int (0 : Int32)), none, none, none, none, none, none, none, none, none, none, none, none, none, none, none, none, none, none, none]) rfl rfl ?_
  refine Eval.iconst (x := (0 : Int32)) rfl rfl ?_
  refine Eval.istore (L' := [some (.ref 0), some (.ref 1), some (.int (0 : Int32)), some (.int (0 : Int32)), some (.int (0 : Int32)), some (.int (0 : Int32)), some (.int (0 : Int32)), some (.int (0 : Int32)), some (.int (0 : Int32)), none, none, none, none, none, none, none, none, none, none, none, none, none, none, none, none, none, none]) rfl rfl ?_
  refine Eval.iconst (x := (-1 : Int32)) rfl rfl ?_
  refine Eval.istore (L' := [some (.ref 0), some (.ref 1), some (.int (0 : Int32)), some (.int (0 : Int32)), some (.int (0 : Int32)), some (.int (0 : Int32)), some (.int (0 : Int32)), some (.int (0 : Int32)), some (.int (0 : Int32)), some (.int (-1 : Int32)), none, none, none, none, none, none, none, none, none, none, none, none, none, none, none, none, none]) rfl rfl ?_
  refine Eval.iconst (x := (-1 : Int32)) rfl rfl ?_
  refine Eval.istore (L' := [some (.ref 0), some (.ref 1), some (.int (0 : Int32)), some (.int (0 : Int32)), some (.int (0 : Int32)), some (.int (0 : Int32)), some (.int (0 : Int32)), some (.int (0 : Int32)), some (.int (0 : Int32)), some (.int (-1 : Int32)), some (.int (-1 : Int32)), none, none, none, none, none, none, none, none, none, none, none, none, none, none, none, none]) rfl rfl ?_
  refine Eval.iconst (x := (-1 : Int32)) rfl rfl ?_
  refine Eval.istore (L' := [some (.ref 0), some (.ref 1), some (.int (0 : Int32)), some (.int (0 : Int32)), some (.int (0 : Int32)), some (.int (0 : Int32)), some (.int (0 : Int32)), some (.int (0 : Int32)), some (.int (0 : Int32)), some (.int (-1 : Int32)), some (.int (-1 : Int32)), some (.int (-1 : Int32)), none, none, none, none, none, none, none, none, none, none, none, none, none, none, none]) rfl rfl ?_
  refine Eval.iconst (x := (-1 : Int32)) rfl rfl ?_
  refine Eval.istore (L' := [some (.ref 0), some (.ref 1), some (.int (0 : Int32)), some (.int (0 : Int32)), some (.int (0 : Int32)), some (.int (0 : Int32)), some (.int (0 : Int32)), some (.int (0 : Int32)), some (.int (0 : Int32)), some (.int (-1 : Int32)), some (.int (-1 : Int32)), some (.int (-1 : Int32)), some (.int (-1 : Int32)), none, none, none, none, none, none, none, none, none, none, none, none, none, none]) rfl rfl ?_
  refine Eval.lconst (x := (0 : Int64)) rfl rfl ?_
  refine Eval.lstore (L' := [some (.ref 0), some (.ref 1), some (.int (0 : Int32)), some (.int (0 : Int32)), some (.int (0 : Int32)), some (.int (0 : Int32)), some (.int (0 : Int32)), some (.int (0 : Int32)), some (.int (0 : Int32)), some (.int (-1 : Int32)), some (.int (-1 : Int32)), some (.int (-1 : Int32)), some (.int (-1 : Int32)), some (.long (0 : Int64)), none, none, none, none, none, none, none, none, none, none, none, none, none]) rfl rfl ?_
  refine Eval.iconst (x := (0 : Int32)) rfl rfl ?_
  refine Eval.istore (L' := [some (.ref 0), some (.ref 1), some (.int (0 : Int32)), some (.int (0 : Int32)), some (.int (0 : Int32)), some (.int (0 : Int32)), some (.int (0 : Int32)), some (.int (0 : Int32)), some (.int (0 : Int32)), some (.int (-1 : Int32)), some (.int (-1 : Int32)), some (.int (-1 : Int32)), some (.int (-1 : Int32)), some (.long (0 : Int64)), none, some (.int (0 : Int32)), none, none, none, none, none, none, none, none, none, none, none]) rfl rfl ?_
  obtain ⟨p392, hq393, h⟩ := bind_some h
  rcases p392 with p394 | p395
  · dsimp only [Sum.elim] at h
    refine ev_law_l46 _ p24 scr (0 : Int32) (0 : Int32) (0 : Int32) (0 : Int32) (0 : Int32) (0 : Int32) (0 : Int32) (-1 : Int32) (-1 : Int32) (-1 : Int32) (-1 : Int32) (0 : Int64) (0 : Int32) hq393 ?_
    show Eval own_P 0 185 [none, none, none, none, none, none, none, none, none, none, none, none, none, none, none, none, none, none, none, none, none, none, none, none, none, none, none] [] (W1 scr p394 []) out
    refine Eval.iconst (x := (0 : Int32)) rfl rfl ?_
    cases h
    subst hk
    exact Eval.ret rfl rfl
  · dsimp only [Sum.elim] at h
    rcases p395 with p396 | p397
    · dsimp only [Sum.elim] at h
      refine ev_law_l46 _ p24 scr (0 : Int32) (0 : Int32) (0 : Int32) (0 : Int32) (0 : Int32) (0 : Int32) (0 : Int32) (-1 : Int32) (-1 : Int32) (-1 : Int32) (-1 : Int32) (0 : Int64) (0 : Int32) hq393 ?_
      show Eval own_P 0 247 [none, none, none, none, none, none, none, none, none, none, none, none, none, none, none, none, none, none, none, none, none, none, none, none, none, none, none] [] (W1 scr p396 []) out
      refine Eval.iconst (x := (0 : Int32)) rfl rfl ?_
      cases h
      subst hk
      exact Eval.ret rfl rfl
    · dsimp only [Sum.elim] at h
      rcases p397 with p398 | p399
      · dsimp only [Sum.elim] at h
        refine ev_law_l46 _ p24 scr (0 : Int32) (0 : Int32) (0 : Int32) (0 : Int32) (0 : Int32) (0 : Int32) (0 : Int32) (-1 : Int32) (-1 : Int32) (-1 : Int32) (-1 : Int32) (0 : Int64) (0 : Int32) hq393 ?_
        show Eval own_P 0 326 [none, none, none, none, none, none, none, none, none, none, none, none, none, none, none, none, none, none, none, none, none, none, none, none, none, none, none] [] (W1 scr p398 []) out
        refine Eval.iconst (x := (0 : Int32)) rfl rfl ?_
        cases h
        subst hk
        exact Eval.ret rfl rfl
      · dsimp only [Sum.elim] at h
        rcases p399 with p400 | p401
        · dsimp only [Sum.elim] at h
          refine ev_law_l46 _ p24 scr (0 : Int32) (0 : Int32) (0 : Int32) (0 : Int32) (0 : Int32) (0 : Int32) (0 : Int32) (-1 : Int32) (-1 : Int32) (-1 : Int32) (-1 : Int32) (0 : Int64) (0 : Int32) hq393 ?_
          show Eval own_P 0 364 [none, none, none, none, none, none, none, none, none, none, none, none, none, none, none, none, none, none, none, none, none, none, none, none, none, none, none] [] (W1 scr p400 []) out
          refine Eval.iconst (x := (0 : Int32)) rfl rfl ?_
          cases h
          subst hk
          exact Eval.ret rfl rfl
        · dsimp only [Sum.elim] at h
          rcases p401 with p402 | p403
          · dsimp only [Sum.elim] at h
            refine ev_law_l46 _ p24 scr (0 : Int32) (0 : Int32) (0 : Int32) (0 : Int32) (0 : Int32) (0 : Int32) (0 : Int32) (-1 : Int32) (-1 : Int32) (-1 : Int32) (-1 : Int32) (0 : Int64) (0 : Int32) hq393 ?_
            show Eval own_P 0 408 [none, none, none, none, none, none, none, none, none, none, none, none, none, none, none, none, none, none, none, none, none, none, none, none, none, none, none] [] (W1 scr p402 []) out
            refine Eval.iconst (x := (0 : Int32)) rfl rfl ?_
            cases h
            subst hk
            exact Eval.ret rfl rfl
          · dsimp only [Sum.elim] at h
            rcases p403 with p404 | p405
            · dsimp only [Sum.elim] at h
              refine ev_law_l46 _ p24 scr (0 : Int32) (0 : Int32) (0 : Int32) (0 : Int32) (0 : Int32) (0 : Int32) (0 : Int32) (-1 : Int32) (-1 : Int32) (-1 : Int32) (-1 : Int32) (0 : Int64) (0 : Int32) hq393 ?_
              show Eval own_P 0 458 [none, none, none, none, none, none, none, none, none, none, none, none, none, none, none, none, none, none, none, none, none, none, none, none, none, none, none] [] (W1 scr p404 []) out
              refine Eval.iconst (x := (0 : Int32)) rfl rfl ?_
              cases h
              subst hk
              exact Eval.ret rfl rfl
            · dsimp only [Sum.elim] at h
              rcases p405 with p406 | p407
              · dsimp only [Sum.elim] at h
                refine ev_law_l46 _ p24 scr (0 : Int32) (0 : Int32) (0 : Int32) (0 : Int32) (0 : Int32) (0 : Int32) (0 : Int32) (-1 : Int32) (-1 : Int32) (-1 : Int32) (-1 : Int32) (0 : Int64) (0 : Int32) hq393 ?_
                show Eval own_P 0 479 [none, none, none, none, none, none, none, none, none, none, none, none, none, none, none, none, none, none, none, none, none, none, none, none, none, none, none] [] (W1 scr p406 []) out
                refine Eval.iconst (x := (0 : Int32)) rfl rfl ?_
                cases h
                subst hk
                exact Eval.ret rfl rfl
              · dsimp only [Sum.elim] at h
                rcases p407 with p408 | p409
                · dsimp only [Sum.elim] at h
                  refine ev_law_l46 _ p24 scr (0 : Int32) (0 : Int32) (0 : Int32) (0 : Int32) (0 : Int32) (0 : Int32) (0 : Int32) (-1 : Int32) (-1 : Int32) (-1 : Int32) (-1 : Int32) (0 : Int64) (0 : Int32) hq393 ?_
                  show Eval own_P 0 504 [none, none, none, none, none, none, none, none, none, none, none, none, none, none, none, none, none, none, none, none, none, none, none, none, none, none, none] [] (W1 scr p408 []) out
                  refine Eval.iconst (x := (0 : Int32)) rfl rfl ?_
                  cases h
                  subst hk
                  exact Eval.ret rfl rfl
                · dsimp only [Sum.elim] at h
                  rcases p409 with p410 | p411
                  · dsimp only [Sum.elim] at h
                    refine ev_law_l46 _ p24 scr (0 : Int32) (0 : Int32) (0 : Int32) (0 : Int32) (0 : Int32) (0 : Int32) (0 : Int32) (-1 : Int32) (-1 : Int32) (-1 : Int32) (-1 : Int32) (0 : Int64) (0 : Int32) hq393 ?_
                    show Eval own_P 0 527 [none, none, none, none, none, none, none, none, none, none, none, none, none, none, none, none, none, none, none, none, none, none, none, none, none, none, none] [] (W1 scr p410 []) out
                    refine Eval.iconst (x := (0 : Int32)) rfl rfl ?_
                    cases h
                    subst hk
                    exact Eval.ret rfl rfl
                  · dsimp only [Sum.elim] at h
                    rcases p411 with p412 | p413
                    · dsimp only [Sum.elim] at h
                      refine ev_law_l46 _ p24 scr (0 : Int32) (0 : Int32) (0 : Int32) (0 : Int32) (0 : Int32) (0 : Int32) (0 : Int32) (-1 : Int32) (-1 : Int32) (-1 : Int32) (-1 : Int32) (0 : Int64) (0 : Int32) hq393 ?_
                      show Eval own_P 0 632 [none, none, none, none, none, none, none, none, none, none, none, none, none, none, none, none, none, none, none, none, none, none, none, none, none, none, none] [] (W1 scr p412 []) out
                      refine Eval.iconst (x := (0 : Int32)) rfl rfl ?_
                      cases h
                      subst hk
                      exact Eval.ret rfl rfl
                    · dsimp only [Sum.elim] at h
                      rcases p413 with p414 | p415
                      · dsimp only [Sum.elim] at h
                        refine ev_law_l46 _ p24 scr (0 : Int32) (0 : Int32) (0 : Int32) (0 : Int32) (0 : Int32) (0 : Int32) (0 : Int32) (-1 : Int32) (-1 : Int32) (-1 : Int32) (-1 : Int32) (0 : Int64) (0 : Int32) hq393 ?_
                        show Eval own_P 0 686 [none, none, none, none, none, none, none, none, none, none, none, none, none, none, none, none, none, none, none, none, none, none, none, none, none, none, none] [] (W1 scr p414 []) out
                        refine Eval.iconst (x := (0 : Int32)) rfl rfl ?_
                        cases h
                        subst hk
                        exact Eval.ret rfl rfl
                      · dsimp only [Sum.elim] at h
                        rcases p415 with p416 | p417
                        · dsimp only [Sum.elim] at h
                          refine ev_law_l46 _ p24 scr (0 : Int32) (0 : Int32) (0 : Int32) (0 : Int32) (0 : Int32) (0 : Int32) (0 : Int32) (-1 : Int32) (-1 : Int32) (-1 : Int32) (-1 : Int32) (0 : Int64) (0 : Int32) hq393 ?_
                          show Eval own_P 0 708 [none, none, none, none, none, none, none, none, none, none, none, none, none, none, none, none, none, none, none, none, none, none, none, none, none, none, none] [] (W1 scr p416 []) out
                          refine Eval.iconst (x := (0 : Int32)) rfl rfl ?_
                          cases h
                          subst hk
                          exact Eval.ret rfl rfl
                        · dsimp only [Sum.elim] at h
                          rcases p417 with p418 | p419
                          · dsimp only [Sum.elim] at h
                            refine ev_law_l46 _ p24 scr (0 : Int32) (0 : Int32) (0 : Int32) (0 : Int32) (0 : Int32) (0 : Int32) (0 : Int32) (-1 : Int32) (-1 : Int32) (-1 : Int32) (-1 : Int32) (0 : Int64) (0 : Int32) hq393 ?_
                            show Eval own_P 0 730 [none, none, none, none, none, none, none, none, none, none, none, none, none, none, none, none, none, none, none, none, none, none, none, none, none, none, none] [] (W1 scr p418 []) out
                            refine Eval.iconst (x := (0 : Int32)) rfl rfl ?_
                            cases h
                            subst hk
                            exact Eval.ret rfl rfl
                          · dsimp only [Sum.elim] at h
                            rcases p419 with p420 | p421
                            · dsimp only [Sum.elim] at h
                              refine ev_law_l46 _ p24 scr (0 : Int32) (0 : Int32) (0 : Int32) (0 : Int32) (0 : Int32) (0 : Int32) (0 : Int32) (-1 : Int32) (-1 : Int32) (-1 : Int32) (-1 : Int32) (0 : Int64) (0 : Int32) hq393 ?_
                              show Eval own_P 0 752 [none, none, none, none, none, none, none, none, none, none, none, none, none, none, none, none, none, none, none, none, none, none, none, none, none, none, none] [] (W1 scr p420 []) out
                              refine Eval.iconst (x := (0 : Int32)) rfl rfl ?_
                              cases h
                              subst hk
                              exact Eval.ret rfl rfl
                            · dsimp only [Sum.elim] at h
                              rcases p421 with p422 | p423
                              · dsimp only [Sum.elim] at h
                                refine ev_law_l46 _ p24 scr (0 : Int32) (0 : Int32) (0 : Int32) (0 : Int32) (0 : Int32) (0 : Int32) (0 : Int32) (-1 : Int32) (-1 : Int32) (-1 : Int32) (-1 : Int32) (0 : Int64) (0 : Int32) hq393 ?_
                                show Eval own_P 0 788 [none, none, none, none, none, none, none, none, none, none, none, none, none, none, none, none, none, none, none, none, none, none, none, none, none, none, none] [] (W1 scr p422 []) out
                                refine Eval.iconst (x := (0 : Int32)) rfl rfl ?_
                                cases h
                                subst hk
                                exact Eval.ret rfl rfl
                              · dsimp only [Sum.elim] at h
                                rcases p423 with p424 | p425
                                · dsimp only [Sum.elim] at h
                                  refine ev_law_l46 _ p24 scr (0 : Int32) (0 : Int32) (0 : Int32) (0 : Int32) (0 : Int32) (0 : Int32) (0 : Int32) (-1 : Int32) (-1 : Int32) (-1 : Int32) (-1 : Int32) (0 : Int64) (0 : Int32) hq393 ?_
                                  show Eval own_P 0 814 [none, none, none, none, none, none, none, none, none, none, none, none, none, none, none, none, none, none, none, none, none, none, none, none, none, none, none] [] (W1 scr p424 []) out
                                  refine Eval.iconst (x := (0 : Int32)) rfl rfl ?_
                                  cases h
                                  subst hk
                                  exact Eval.ret rfl rfl
                                · dsimp only [Sum.elim] at h
                                  rcases p425 with p426 | p427
                                  · dsimp only [Sum.elim] at h
                                    refine ev_law_l46 _ p24 scr (0 : Int32) (0 : Int32) (0 : Int32) (0 : Int32) (0 : Int32) (0 : Int32) (0 : Int32) (-1 : Int32) (-1 : Int32) (-1 : Int32) (-1 : Int32) (0 : Int64) (0 : Int32) hq393 ?_
                                    show Eval own_P 0 843 [none, none, none, none, none, none, none, none, none, none, none, none, none, none, none, none, none, none, none, none, none, none, none, none, none, none, none] [] (W1 scr p426 []) out
                                    refine Eval.iconst (x := (0 : Int32)) rfl rfl ?_
                                    cases h
                                    subst hk
                                    exact Eval.ret rfl rfl
                                  · dsimp only [Sum.elim] at h
                                    refine ev_law_l46 _ p24 scr (0 : Int32) (0 : Int32) (0 : Int32) (0 : Int32) (0 : Int32) (0 : Int32) (0 : Int32) (-1 : Int32) (-1 : Int32) (-1 : Int32) (-1 : Int32) (0 : Int64) (0 : Int32) hq393 ?_
                                    show Eval own_P 0 851 [none, none, none, none, none, none, none, none, none, none, none, none, none, none, none, none, none, none, none, none, none, none, none, none, none, none, none] [] (W1 scr p427 []) out
                                    refine Eval.iconst (x := (1 : Int32)) rfl rfl ?_
                                    cases h
                                    subst hk
                                    exact Eval.ret rfl rfl
theorem own_rdc {n : Nat} {c j : Int32} (h : inb n j = true) : rd (List.replicate n c) j = c := by
  have q := rd_at (xs := List.replicate n c) (j := j) (by simpa using h)
  rw [List.getElem?_replicate] at q
  split at q
  · exact (Option.some.inj q).symm
  · cases q
theorem own_n2i {i : Nat} (h : i < 2147483648) : (Int32.ofNat i).toInt = i := by
  rw [Int32.toInt_ofNat']
  simp only [Int32.size, Int.bmod_def]
  omega
theorem own_n2n {i : Nat} (h : i < 2147483648) : (Int32.ofNat i).toNatClampNeg = i := by
  simp only [Int32.toNatClampNeg, own_n2i h]; omega
theorem own_succ (i : Nat) : Int32.ofNat i + 1 = Int32.ofNat (i + 1) := (Int32.ofNat_add i 1).symm
theorem own_inbN {n i : Nat} (h : i < n) (hn : n < 2147483648) : inb n (Int32.ofNat i) = true := inb_iff.mpr (by rw [own_n2i (by omega)]; omega)
theorem own_ltN {i k : Nat} (hi : i < 2147483648) (hk : k < 2147483648) : Int32.ofNat i < Int32.ofNat k ↔ i < k := by
  rw [lt32, own_n2i hi, own_n2i hk]; omega
theorem own_wrA {A r : List Int32} {d x : Int32} {i : Nat} (hi : A.length = i) (h : i < 2147483648) : wr (A ++ d :: r) (Int32.ofNat i) x = A ++ x :: r := by
  unfold wr
  rw [own_n2n h, ← hi]
  simp
theorem own_repS (i : Nat) (c : Int32) (r : List Int32) : List.replicate i c ++ c :: r = List.replicate (i + 1) c ++ r := by
  rw [List.replicate_succ']; simp
theorem own_add {x y : Int32} (h1 : -2147483648 ≤ x.toInt + y.toInt) (h2 : x.toInt + y.toInt < 2147483648) : (x + y).toInt = x.toInt + y.toInt := by
  rw [Int32.toInt_add, Int.bmod_def]
  omega
theorem own_sub {x y : Int32} (h1 : -2147483648 ≤ x.toInt - y.toInt) (h2 : x.toInt - y.toInt < 2147483648) : (x - y).toInt = x.toInt - y.toInt := by
  rw [Int32.toInt_sub, Int.bmod_def]
  omega
theorem own_mul {x y : Int32} (h1 : -2147483648 ≤ x.toInt * y.toInt) (h2 : x.toInt * y.toInt < 2147483648) : (x * y).toInt = x.toInt * y.toInt := by
  rw [Int32.toInt_mul, Int.bmod_def]
  omega
theorem own_eta (s : Q) : Q.mk s.f_st s.f_lk s.f_tmo s.f_spin s.f_nxt0 s.f_prv1 s.f_head s.f_tail s.f_len s.f_ent s.f_aband s.f_log s.f_hist s.f_n s.f_clk = s := rfl
theorem own_wrc (n : Nat) (c j : Int32) : wr (List.replicate n c) j c = List.replicate n c := by simp [wr, List.set_replicate_self]

def own_ok {α : Type} (o : Option α) (P : α → Prop) : Prop := ∃ r, o = some r ∧ P r
theorem own_ok_some {α : Type} (x : α) (P : α → Prop) : own_ok (some x) P ↔ P x := by
  constructor
  · rintro ⟨r, h, p⟩; cases h; exact p
  · intro p; exact ⟨x, rfl, p⟩
theorem own_ok_none {α : Type} (P : α → Prop) : own_ok (none : Option α) P ↔ False := by
  constructor
  · rintro ⟨r, h, p⟩; cases h
  · intro p; exact p.elim
theorem own_ok_bind {α β : Type} (o : Option α) (f : α → Option β) (P : β → Prop) : own_ok (o.bind f) P ↔ own_ok o (fun x => own_ok (f x) P) := by
  constructor
  · rintro ⟨r, h, p⟩
    obtain ⟨a, ha, hb⟩ := Option.bind_eq_some_iff.mp h
    exact ⟨a, ha, r, hb, p⟩
  · rintro ⟨a, ha, r, hb, p⟩
    exact ⟨r, Option.bind_eq_some_iff.mpr ⟨a, ha, hb⟩, p⟩
theorem own_ok_ite {α : Type} (c : Prop) [Decidable c] (a b : Option α) (P : α → Prop) : own_ok (if c then a else b) P ↔ (c → own_ok a P) ∧ (¬ c → own_ok b P) := by
  by_cases h : c
  · simp [h]
  · simp [h]
theorem own_mono {α : Type} {o : Option α} {P R : α → Prop} (h : own_ok o P) (m : ∀ x, P x → R x) : own_ok o R := by
  obtain ⟨r, e, p⟩ := h
  exact ⟨r, e, m r p⟩
theorem own_bind {α β : Type} {o : Option α} {f : α → Option β} {P : α → Prop} {R : β → Prop} (h : own_ok o P) (m : ∀ x, P x → own_ok (f x) R) : own_ok (o.bind f) R :=
  (own_ok_bind o f R).mpr (own_mono h m)
theorem own_okE {α : Type} {o : Option α} {r : α} {P : α → Prop} (e : o = some r) (p : P r) : own_ok o P := ⟨r, e, p⟩

theorem own_rem {x y : Int32} (h0 : 0 ≤ x.toInt) (h1 : 0 < y.toInt) : 0 ≤ (x % y).toInt ∧ (x % y).toInt < y.toInt := by
  rw [Int32.toInt_mod, Int.tmod_eq_emod_of_nonneg h0]
  exact ⟨Int.emod_nonneg _ (by omega), Int.emod_lt_of_pos _ h1⟩

def own_ps : List (List Nat) := [[], [0], [1], [2], [3], [0, 1], [0, 2], [0, 3], [1, 0], [1, 2], [1, 3], [2, 0], [2, 1], [2, 3], [3, 0], [3, 1], [3, 2], [0, 1, 2], [0, 1, 3], [0, 2, 1], [0, 2, 3], [0, 3, 1], [0, 3, 2], [1, 0, 2], [1, 0, 3], [1, 2, 0], [1, 2, 3], [1, 3, 0], [1, 3, 2], [2, 0, 1], [2, 0, 3], [2, 1, 0], [2, 1, 3], [2, 3, 0], [2, 3, 1], [3, 0, 1], [3, 0, 2], [3, 1, 0], [3, 1, 2], [3, 2, 0], [3, 2, 1], [0, 1, 2, 3], [0, 1, 3, 2], [0, 2, 1, 3], [0, 2, 3, 1], [0, 3, 1, 2], [0, 3, 2, 1], [1, 0, 2, 3], [1, 0, 3, 2], [1, 2, 0, 3], [1, 2, 3, 0], [1, 3, 0, 2], [1, 3, 2, 0], [2, 0, 1, 3], [2, 0, 3, 1], [2, 1, 0, 3], [2, 1, 3, 0], [2, 3, 0, 1], [2, 3, 1, 0], [3, 0, 1, 2], [3, 0, 2, 1], [3, 1, 0, 2], [3, 1, 2, 0], [3, 2, 0, 1], [3, 2, 1, 0]]

def own_dj (a b : List Nat) : Bool := a.all (fun u => !(b.contains u))
def own_hd : List Nat → Int32
  | [] => -1
  | a :: _ => Int32.ofNat a
def own_tl : List Nat → Int32
  | [] => -1
  | [a] => Int32.ofNat a
  | _ :: b :: r => own_tl (b :: r)
def own_nx : List Nat → Nat → Int32
  | [], _ => -1
  | [_], _ => -1
  | a :: b :: r, u => if Nat.beq a u then Int32.ofNat b else own_nx (b :: r) u
def own_pv : List Nat → Nat → Int32
  | [], _ => -1
  | [_], _ => -1
  | a :: b :: r, u => if Nat.beq b u then Int32.ofNat a else own_pv (b :: r) u
def own_isHd : List Nat → Nat → Bool
  | [], _ => false
  | a :: _, u => Nat.beq a u
def own_st1 (a b : List Nat) (x y : Int32) (u : Nat) : Int32 := if a.contains u then (if own_isHd a u then x else 1) else if b.contains u then (if own_isHd b u then y else 1) else 0
def own_lk1 (a b : List Nat) (u : Nat) : Int32 := if a.contains u then 0 else if b.contains u then 1 else -1
def own_q (a b : List Nat) (x y : Int32) : Q := Q.mk ([0, 1, 2, 3, 4, 5, 6, 7].map (own_st1 a b x y)) ([0, 1, 2, 3, 4, 5, 6, 7].map (own_lk1 a b)) (List.replicate 8 0) (List.replicate 8 0) ([0, 1, 2, 3, 4, 5, 6, 7].map (own_nx a)) ([0, 1, 2, 3, 4, 5, 6, 7].map (own_pv b)) [own_hd a, own_hd b] [own_tl a, own_tl b] [Int32.ofNat a.length, Int32.ofNat b.length] [0, 0] [0, 0] (List.replicate 128 0) (List.replicate 512 (-1)) 4 0
def own_sst (q : Q) (t v : Int32) : Q := q.s_st (wr q.f_st t v)
def own_slk (q : Q) (t v : Int32) : Q := q.s_lk (wr q.f_lk t v)
def own_eq (p q : Q) : Bool := p.f_st == q.f_st && (p.f_lk == q.f_lk && (p.f_nxt0 == q.f_nxt0 && (p.f_prv1 == q.f_prv1 && (p.f_head == q.f_head && (p.f_tail == q.f_tail && p.f_len == q.f_len)))))
def own_v1 (q : Q) (m u : Int32) : Option Int32 := if rd q.f_lk u = m then some (rd q.f_st u) else none
def own_v2 (q : Q) (m u : Int32) : Option Int32 := if rd q.f_lk u = m then j_ahead q u else none
def own_vw (q : Q) (m : Int32) : List (Option Int32) := [j_holder q m, j_queueLength q m, own_v1 q m 0, own_v2 q m 0, own_v1 q m 1, own_v2 q m 1, own_v1 q m 2, own_v2 q m 2, own_v1 q m 3, own_v2 q m 3]
def own_new (a b : List Nat) (x y : Int32) (z q : Q) (m : Int32) : Bool := own_eq z (own_q a b x y) && (own_ps.contains a && (own_ps.contains b && (own_dj a b && (own_vw (own_q a b x y) m == own_vw q m))))
def own_cA (a b : List Nat) (x y : Int32) (t : Nat) : Bool :=
  (match j_append (own_slk (own_q a b x y) (Int32.ofNat t) 0) (Int32.ofNat t) 0 with
   | none => false
   | some r => own_new (a ++ [t]) b (if a.isEmpty then 3 else x) y (own_sst r (Int32.ofNat t) (if a.isEmpty then 3 else 1)) (own_q a b x y) 1) &&
  (match j_append (own_slk (own_q a b x y) (Int32.ofNat t) 1) (Int32.ofNat t) 1 with
   | none => false
   | some r => own_new a (b ++ [t]) x (if b.isEmpty then 3 else y) (own_sst r (Int32.ofNat t) (if b.isEmpty then 3 else 1)) (own_q a b x y) 0)
def own_cR (a b : List Nat) (x y : Int32) (t : Nat) (l : Int32) : Bool :=
  match j_popFront (own_q a b x y) l with
  | none => false
  | some r => own_new (if l = 0 then a.tail else a) (if l = 0 then b else b.tail) (if l = 0 then 2 else x) (if l = 0 then y else 2) (if j_inNodes r.1 = 0 then own_slk (own_sst r.2 (Int32.ofNat t) 0) (Int32.ofNat t) (-1) else own_slk (own_sst (own_sst r.2 (Int32.ofNat t) 0) r.1 2) (Int32.ofNat t) (-1)) (own_q a b x y) (1 - l) && ((r.1 == -1) || inb 8 r.1)
def own_cU (a b : List Nat) (x y : Int32) (t : Nat) (l : Int32) : Bool :=
  match j_unlink (own_q a b x y) (Int32.ofNat t) l with
  | none => false
  | some r => own_new (if l = 0 then a.erase t else a) (if l = 0 then b else b.erase t) x y (own_slk (own_sst r (Int32.ofNat t) 0) (Int32.ofNat t) (-1)) (own_q a b x y) (1 - l)
def own_cE (a b : List Nat) (x y : Int32) (t : Nat) (l : Int32) : Bool :=
  own_new a b (if l = 0 then 3 else x) (if l = 0 then y else 3) (own_sst (own_q a b x y) (Int32.ofNat t) 3) (own_q a b x y) (1 - l)
def own_c1 (a b : List Nat) (x y : Int32) (t : Nat) : Bool :=
  (j_ahead (own_q a b x y) (Int32.ofNat t)).isSome &&
  (if own_st1 a b x y t = 0 then (own_lk1 a b t == -1) && own_cA a b x y t
   else ((own_lk1 a b t == 0) || (own_lk1 a b t == 1)) && 
    (if own_st1 a b x y t = 3 then own_cR a b x y t (own_lk1 a b t)
     else if own_st1 a b x y t = 2 then own_cE a b x y t (own_lk1 a b t)
     else (own_st1 a b x y t == 1) && own_cU a b x y t (own_lk1 a b t)))
def own_c2 (a b : List Nat) (x y : Int32) : Bool := (j_holder (own_q a b x y) 0).isSome && ((j_holder (own_q a b x y) 1).isSome && [0, 1, 2, 3].all (own_c1 a b x y))
theorem own_en : own_ps.all (fun a => own_ps.all (fun b => !(own_dj a b) || ([2, 3].all (fun x => [2, 3].all (fun y => own_c2 a b x y))))) = true := by decide +kernel

def own_put (s x : Q) : Q := Q.mk x.f_st x.f_lk s.f_tmo s.f_spin x.f_nxt0 x.f_prv1 x.f_head x.f_tail x.f_len s.f_ent s.f_aband s.f_log s.f_hist s.f_n s.f_clk
theorem own_put_eq {p q : Q} (h : own_eq p q = true) (s : Q) : own_put s p = own_put s q := by
  simp only [own_eq, Bool.and_eq_true, beq_iff_eq] at h
  obtain ⟨h1, h2, h3, h4, h5, h6, h7⟩ := h
  unfold own_put
  rw [h1, h2, h3, h4, h5, h6, h7]
theorem own_fA (s x : Q) (t l : Int32) : j_append (own_put s x) t l = (j_append x t l).map (own_put s) := by
  simp only [j_append, j_append_b43, j_append_b55, own_put, own_f_st, own_e_st, own_z_st, own_f_lk, own_e_lk, own_z_lk, own_f_tmo, own_e_tmo, own_z_tmo, own_f_spin, own_e_spin, own_z_spin, own_f_nxt0, own_e_nxt0, own_z_nxt0, own_f_prv1, own_e_prv1, own_z_prv1, own_f_head, own_e_head, own_z_head, own_f_tail, own_e_tail, own_z_tail, own_f_len, own_e_len, own_z_len, own_f_ent, own_e_ent, own_z_ent, own_f_aband, own_e_aband, own_z_aband, own_f_log, own_e_log, own_z_log, own_f_hist, own_e_hist, own_z_hist, own_f_n, own_e_n, own_z_n, own_f_clk, own_e_clk, own_z_clk, apply_ite (Option.map (own_put s)), Option.map_some, Option.map_none]
theorem own_fSl (s x : Q) (hn : s.f_n = x.f_n) (v : Int32) : ∀ (n : Nat) (u : Int32), j_successorClh_l2 n (own_put s x) v u = j_successorClh_l2 n x v u := by
  intro n
  induction n with
  | zero => intro u; rfl
  | succ n ih =>
    intro u
    rw [j_successorClh_l2, j_successorClh_l2]
    simp only [j_successorClh_b46, ih]
    simp only [own_put, own_f_st, own_e_st, own_z_st, own_f_lk, own_e_lk, own_z_lk, own_f_tmo, own_e_tmo, own_z_tmo, own_f_spin, own_e_spin, own_z_spin, own_f_nxt0, own_e_nxt0, own_z_nxt0, own_f_prv1, own_e_prv1, own_z_prv1, own_f_head, own_e_head, own_z_head, own_f_tail, own_e_tail, own_z_tail, own_f_len, own_e_len, own_z_len, own_f_ent, own_e_ent, own_z_ent, own_f_aband, own_e_aband, own_z_aband, own_f_log, own_e_log, own_z_log, own_f_hist, own_e_hist, own_z_hist, own_f_n, own_e_n, own_z_n, own_f_clk, own_e_clk, own_z_clk, hn]
theorem own_fS (s x : Q) (hn : s.f_n = x.f_n) (v : Int32) : j_successorClh (own_put s x) v = j_successorClh x v := by
  unfold j_successorClh
  rw [own_fSl s x hn]
theorem own_fMl (s x : Q) (v : Int32) : ∀ (n : Nat) (u k : Int32), j_predecessorMcs_l9 n (own_put s x) v u k = j_predecessorMcs_l9 n x v u k := by
  intro n
  induction n with
  | zero => intro u k; rfl
  | succ n ih =>
    intro u k
    rw [j_predecessorMcs_l9, j_predecessorMcs_l9]
    simp only [ih]
    simp only [own_put, own_f_st, own_e_st, own_z_st, own_f_lk, own_e_lk, own_z_lk, own_f_tmo, own_e_tmo, own_z_tmo, own_f_spin, own_e_spin, own_z_spin, own_f_nxt0, own_e_nxt0, own_z_nxt0, own_f_prv1, own_e_prv1, own_z_prv1, own_f_head, own_e_head, own_z_head, own_f_tail, own_e_tail, own_z_tail, own_f_len, own_e_len, own_z_len, own_f_ent, own_e_ent, own_z_ent, own_f_aband, own_e_aband, own_z_aband, own_f_log, own_e_log, own_z_log, own_f_hist, own_e_hist, own_z_hist, own_f_n, own_e_n, own_z_n, own_f_clk, own_e_clk, own_z_clk]
theorem own_fM (s x : Q) (v : Int32) : j_predecessorMcs (own_put s x) v = j_predecessorMcs x v := by
  unfold j_predecessorMcs
  simp only [own_fMl]
  simp only [own_put, own_f_st, own_e_st, own_z_st, own_f_lk, own_e_lk, own_z_lk, own_f_tmo, own_e_tmo, own_z_tmo, own_f_spin, own_e_spin, own_z_spin, own_f_nxt0, own_e_nxt0, own_z_nxt0, own_f_prv1, own_e_prv1, own_z_prv1, own_f_head, own_e_head, own_z_head, own_f_tail, own_e_tail, own_z_tail, own_f_len, own_e_len, own_z_len, own_f_ent, own_e_ent, own_z_ent, own_f_aband, own_e_aband, own_z_aband, own_f_log, own_e_log, own_z_log, own_f_hist, own_e_hist, own_z_hist, own_f_n, own_e_n, own_z_n, own_f_clk, own_e_clk, own_z_clk]
def own_putP (s : Q) (r : Int32 × Q) : Int32 × Q := (r.1, own_put s r.2)
theorem own_putPm (s : Q) (a : Int32) (q : Q) : own_putP s (a, q) = (a, own_put s q) := by have _h := trivial; exact rfl
theorem own_fP (s x : Q) (hn : s.f_n = x.f_n) (l : Int32) : j_popFront (own_put s x) l = (j_popFront x l).map (own_putP s) := by
  simp only [j_popFront, own_fS s x hn, Option.map_bind]
  simp only [j_popFront_b66, j_popFront_b85, j_popFront_b59, own_put, own_f_st, own_e_st, own_z_st, own_f_lk, own_e_lk, own_z_lk, own_f_tmo, own_e_tmo, own_z_tmo, own_f_spin, own_e_spin, own_z_spin, own_f_nxt0, own_e_nxt0, own_z_nxt0, own_f_prv1, own_e_prv1, own_z_prv1, own_f_head, own_e_head, own_z_head, own_f_tail, own_e_tail, own_z_tail, own_f_len, own_e_len, own_z_len, own_f_ent, own_e_ent, own_z_ent, own_f_aband, own_e_aband, own_z_aband, own_f_log, own_e_log, own_z_log, own_f_hist, own_e_hist, own_z_hist, own_f_n, own_e_n, own_z_n, own_f_clk, own_e_clk, own_z_clk, apply_ite (Option.map (own_putP s)), Option.map_some, Option.map_none, Option.map_bind, Function.comp_def, own_putPm]
theorem own_fU (s x : Q) (hn : s.f_n = x.f_n) (t l : Int32) : j_unlink (own_put s x) t l = (j_unlink x t l).map (own_put s) := by
  simp only [j_unlink, own_fS s x hn, own_fM s x, Option.map_bind]
  simp only [j_unlink_b30, j_unlink_b47, j_unlink_b88, j_unlink_b105, j_unlink_b112, own_put, own_f_st, own_e_st, own_z_st, own_f_lk, own_e_lk, own_z_lk, own_f_tmo, own_e_tmo, own_z_tmo, own_f_spin, own_e_spin, own_z_spin, own_f_nxt0, own_e_nxt0, own_z_nxt0, own_f_prv1, own_e_prv1, own_z_prv1, own_f_head, own_e_head, own_z_head, own_f_tail, own_e_tail, own_z_tail, own_f_len, own_e_len, own_z_len, own_f_ent, own_e_ent, own_z_ent, own_f_aband, own_e_aband, own_z_aband, own_f_log, own_e_log, own_z_log, own_f_hist, own_e_hist, own_z_hist, own_f_n, own_e_n, own_z_n, own_f_clk, own_e_clk, own_z_clk, apply_ite (Option.map (own_put s)), Option.map_some, Option.map_none, Option.map_bind, Function.comp_def]
theorem own_fH (s x : Q) (m : Int32) : j_holder (own_put s x) m = j_holder x m := by
  simp only [j_holder, own_put, own_f_st, own_e_st, own_z_st, own_f_lk, own_e_lk, own_z_lk, own_f_tmo, own_e_tmo, own_z_tmo, own_f_spin, own_e_spin, own_z_spin, own_f_nxt0, own_e_nxt0, own_z_nxt0, own_f_prv1, own_e_prv1, own_z_prv1, own_f_head, own_e_head, own_z_head, own_f_tail, own_e_tail, own_z_tail, own_f_len, own_e_len, own_z_len, own_f_ent, own_e_ent, own_z_ent, own_f_aband, own_e_aband, own_z_aband, own_f_log, own_e_log, own_z_log, own_f_hist, own_e_hist, own_z_hist, own_f_n, own_e_n, own_z_n, own_f_clk, own_e_clk, own_z_clk]
theorem own_fQ (s x : Q) (m : Int32) : j_queueLength (own_put s x) m = j_queueLength x m := by
  simp only [j_queueLength, own_put, own_f_st, own_e_st, own_z_st, own_f_lk, own_e_lk, own_z_lk, own_f_tmo, own_e_tmo, own_z_tmo, own_f_spin, own_e_spin, own_z_spin, own_f_nxt0, own_e_nxt0, own_z_nxt0, own_f_prv1, own_e_prv1, own_z_prv1, own_f_head, own_e_head, own_z_head, own_f_tail, own_e_tail, own_z_tail, own_f_len, own_e_len, own_z_len, own_f_ent, own_e_ent, own_z_ent, own_f_aband, own_e_aband, own_z_aband, own_f_log, own_e_log, own_z_log, own_f_hist, own_e_hist, own_z_hist, own_f_n, own_e_n, own_z_n, own_f_clk, own_e_clk, own_z_clk]
theorem own_fml (s x : Q) (v : Int32) : ∀ (n : Nat) (u k : Int32), j_aheadMcs_l9 n (own_put s x) v u k = j_aheadMcs_l9 n x v u k := by
  intro n
  induction n with
  | zero => intro u k; rfl
  | succ n ih =>
    intro u k
    rw [j_aheadMcs_l9, j_aheadMcs_l9]
    simp only [ih]
    simp only [own_put, own_f_st, own_e_st, own_z_st, own_f_lk, own_e_lk, own_z_lk, own_f_tmo, own_e_tmo, own_z_tmo, own_f_spin, own_e_spin, own_z_spin, own_f_nxt0, own_e_nxt0, own_z_nxt0, own_f_prv1, own_e_prv1, own_z_prv1, own_f_head, own_e_head, own_z_head, own_f_tail, own_e_tail, own_z_tail, own_f_len, own_e_len, own_z_len, own_f_ent, own_e_ent, own_z_ent, own_f_aband, own_e_aband, own_z_aband, own_f_log, own_e_log, own_z_log, own_f_hist, own_e_hist, own_z_hist, own_f_n, own_e_n, own_z_n, own_f_clk, own_e_clk, own_z_clk]
theorem own_fcl (s x : Q) : ∀ (n : Nat) (u k i : Int32), j_aheadClh_l12 n (own_put s x) u k i = j_aheadClh_l12 n x u k i := by
  intro n
  induction n with
  | zero => intro u k i; rfl
  | succ n ih =>
    intro u k i
    rw [j_aheadClh_l12, j_aheadClh_l12]
    simp only [ih]
    simp only [own_put, own_f_st, own_e_st, own_z_st, own_f_lk, own_e_lk, own_z_lk, own_f_tmo, own_e_tmo, own_z_tmo, own_f_spin, own_e_spin, own_z_spin, own_f_nxt0, own_e_nxt0, own_z_nxt0, own_f_prv1, own_e_prv1, own_z_prv1, own_f_head, own_e_head, own_z_head, own_f_tail, own_e_tail, own_z_tail, own_f_len, own_e_len, own_z_len, own_f_ent, own_e_ent, own_z_ent, own_f_aband, own_e_aband, own_z_aband, own_f_log, own_e_log, own_z_log, own_f_hist, own_e_hist, own_z_hist, own_f_n, own_e_n, own_z_n, own_f_clk, own_e_clk, own_z_clk]
theorem own_fh (s x : Q) (hn : s.f_n = x.f_n) (u : Int32) : j_ahead (own_put s x) u = j_ahead x u := by
  simp only [j_ahead, j_aheadMcs, j_aheadClh, own_fml, own_fcl, j_validThread]
  simp only [own_put, own_f_st, own_e_st, own_z_st, own_f_lk, own_e_lk, own_z_lk, own_f_tmo, own_e_tmo, own_z_tmo, own_f_spin, own_e_spin, own_z_spin, own_f_nxt0, own_e_nxt0, own_z_nxt0, own_f_prv1, own_e_prv1, own_z_prv1, own_f_head, own_e_head, own_z_head, own_f_tail, own_e_tail, own_z_tail, own_f_len, own_e_len, own_z_len, own_f_ent, own_e_ent, own_z_ent, own_f_aband, own_e_aband, own_z_aband, own_f_log, own_e_log, own_z_log, own_f_hist, own_e_hist, own_z_hist, own_f_n, own_e_n, own_z_n, own_f_clk, own_e_clk, own_z_clk, hn]
  rfl
theorem own_fV (s x : Q) (hn : s.f_n = x.f_n) (m : Int32) : own_vw (own_put s x) m = own_vw x m := by
  simp only [own_vw, own_v1, own_v2, own_fH, own_fQ, own_fh s x hn]
  simp only [own_put, own_f_st, own_e_st, own_z_st, own_f_lk, own_e_lk, own_z_lk, own_f_tmo, own_e_tmo, own_z_tmo, own_f_spin, own_e_spin, own_z_spin, own_f_nxt0, own_e_nxt0, own_z_nxt0, own_f_prv1, own_e_prv1, own_z_prv1, own_f_head, own_e_head, own_z_head, own_f_tail, own_e_tail, own_z_tail, own_f_len, own_e_len, own_z_len, own_f_ent, own_e_ent, own_z_ent, own_f_aband, own_e_aband, own_z_aband, own_f_log, own_e_log, own_z_log, own_f_hist, own_e_hist, own_z_hist, own_f_n, own_e_n, own_z_n, own_f_clk, own_e_clk, own_z_clk]

def own_L (s : Q) : Prop := s.f_tmo.length = 8 ∧ s.f_spin.length = 8 ∧ s.f_ent.length = 2 ∧ s.f_aband.length = 2 ∧ s.f_log.length = 128 ∧ s.f_hist.length = 512
def own_cf (a b : List Nat) (x y : Int32) : Prop := own_ps.contains a = true ∧ own_ps.contains b = true ∧ own_dj a b = true ∧ (x = 2 ∨ x = 3) ∧ (y = 2 ∨ y = 3)
def own_J (s : Q) (a b : List Nat) (x y : Int32) : Prop := own_cf a b x y ∧ s = own_put s (own_q a b x y) ∧ own_L s ∧ s.f_n = 4
theorem own_cc {a b : List Nat} {x y : Int32} (h : own_cf a b x y) : own_c2 a b x y = true := by
  obtain ⟨h1, h2, h3, h4, h5⟩ := h
  have k := List.all_eq_true.mp (List.all_eq_true.mp own_en a (List.contains_iff_mem.mp h1)) b (List.contains_iff_mem.mp h2)
  rw [h3] at k
  have k2 := List.all_eq_true.mp (show ([2, 3].all (fun x => [2, 3].all (fun y => own_c2 a b x y))) = true from k) x (by rcases h4 with e | e <;> simp [e])
  exact List.all_eq_true.mp k2 y (by rcases h5 with e | e <;> simp [e])
theorem own_cc1 {a b : List Nat} {x y : Int32} (h : own_cf a b x y) {t : Nat} (ht : t < 4) : own_c1 a b x y t = true := by
  have k := own_cc h
  simp only [own_c2, Bool.and_eq_true] at k
  exact List.all_eq_true.mp k.2.2 t (by match t, ht with | 0, _ => simp | 1, _ => simp | 2, _ => simp | 3, _ => simp)
theorem own_le : own_ps.all (fun a => (Int32.ofNat a.length == 0) == a.isEmpty) = true := by decide +kernel
theorem own_ln {a : List Nat} (h : own_ps.contains a = true) : (Int32.ofNat a.length = 0) ↔ a.isEmpty = true := by
  have k := List.all_eq_true.mp own_le a (List.contains_iff_mem.mp h)
  simp only [beq_iff_eq] at k
  constructor
  · intro e; rw [← k, e]; rfl
  · intro e; rw [e] at k; simpa using k
theorem own_qst (a b : List Nat) (x y : Int32) {t : Nat} (ht : t < 4) : rd (own_q a b x y).f_st (Int32.ofNat t) = own_st1 a b x y t := by
  match t, ht with | 0, _ => rfl | 1, _ => rfl | 2, _ => rfl | 3, _ => rfl
theorem own_qlk (a b : List Nat) (x y : Int32) {t : Nat} (ht : t < 4) : rd (own_q a b x y).f_lk (Int32.ofNat t) = own_lk1 a b t := by
  match t, ht with | 0, _ => rfl | 1, _ => rfl | 2, _ => rfl | 3, _ => rfl
theorem own_tN {t : Int32} (h0 : 0 ≤ t.toInt) (h4 : t.toInt < 4) : ∃ k : Nat, k < 4 ∧ t = Int32.ofNat k := by
  refine ⟨t.toInt.toNat, by omega, ?_⟩
  apply Int32.toInt_inj.mp
  rw [own_n2i (by omega)]; omega
theorem own_hold {s : Q} {a b : List Nat} {x y : Int32} (h : own_J s a b x y) {m : Int32} (hm : m = 0 ∨ m = 1) : ∃ v, j_holder s m = some v := by
  have k := own_cc h.1
  simp only [own_c2, Bool.and_eq_true] at k
  rw [h.2.1, own_fH]
  rcases hm with e | e
  · rw [e]; exact Option.isSome_iff_exists.mp k.1
  · rw [e]; exact Option.isSome_iff_exists.mp k.2.1
theorem own_ix {m v : Int32} (hm : m = 0 ∨ m = 1) (h : inb 64 v = true) : (m * 64 + v).toInt = m.toInt * 64 + v.toInt ∧ inb 128 (m * 64 + v) = true := by
  have hv := inb_iff.mp h
  have hm' : 0 ≤ m.toInt ∧ m.toInt ≤ 1 := by rcases hm with e | e <;> subst e <;> decide
  have e1 : (m * 64).toInt = m.toInt * 64 := by rw [own_mul] <;> simp only [Int32.reduceToInt] <;> omega
  have e2 : (m * 64 + v).toInt = m.toInt * 64 + v.toInt := by rw [own_add] <;> omega
  exact ⟨e2, inb_iff.mpr (by omega)⟩
theorem own_hx {m v : Int32} (hm : m = 0 ∨ m = 1) (h0 : 1 ≤ v.toInt) (h1 : v.toInt ≤ 256) : (m * 256 + v - 1).toInt = m.toInt * 256 + v.toInt - 1 ∧ inb 512 (m * 256 + v - 1) = true := by
  have hm' : 0 ≤ m.toInt ∧ m.toInt ≤ 1 := by rcases hm with e | e <;> subst e <;> decide
  have e1 : (m * 256).toInt = m.toInt * 256 := by rw [own_mul] <;> simp only [Int32.reduceToInt] <;> omega
  have e2 : (m * 256 + v).toInt = m.toInt * 256 + v.toInt := by rw [own_add] <;> omega
  have e3 : (m * 256 + v - 1).toInt = m.toInt * 256 + v.toInt - 1 := by rw [own_sub] <;> simp only [Int32.reduceToInt] <;> omega
  exact ⟨e3, inb_iff.mpr (by omega)⟩
theorem own_b2 {m : Int32} (hm : m = 0 ∨ m = 1) : inb 2 m = true := by rcases hm with e | e <;> subst e <;> rfl
theorem own_enter {s : Q} {t l : Int32} (h : own_L s) (hl : l = 0 ∨ l = 1) : own_ok (j_enter s t l) (fun r => ∃ e g, r = (s.s_ent e).s_log g ∧ e.length = 2 ∧ g.length = 128 ∧ ∀ m, (m = 0 ∨ m = 1) → ¬ m = l → rd e m = rd s.f_ent m ∧ ∀ v, inb 64 v = true → rd g (m * 64 + v) = rd s.f_log (m * 64 + v)) := by
  obtain ⟨w1, w2, w3, w4, w5, w6⟩ := h
  have i := own_b2 hl
  have ne : ∀ (m w : Int32), (m = 0 ∨ m = 1) → ¬ m = l → rd (wr s.f_ent l w) m = rd s.f_ent m := fun m w hm hne => rd_wr_ne (inb_nn i) (inb_nn (own_b2 hm)) (fun e => hne e.symm) w
  unfold j_enter
  rw [w3, if_pos i]
  by_cases c1 : rd s.f_ent l < 0
  · rw [if_pos c1]
    unfold j_enter_b29
    rw [w3, if_pos i]
    exact ⟨_, rfl, wr s.f_ent l (rd s.f_ent l + 1), s.f_log, rfl, by rw [len_wr, w3], w5, fun m hm hne => ⟨ne m _ hm hne, fun v _ => rfl⟩⟩
  · rw [if_neg c1]
    by_cases c2 : rd s.f_ent l < 64
    · have i6 : inb 64 (rd s.f_ent l) = true := by
        simp only [lt32, Int32.reduceToInt] at c1 c2
        exact inb_iff.mpr (by omega)
      obtain ⟨x1, x2⟩ := own_ix hl i6
      rw [if_pos c2, w5, if_pos x2]
      unfold j_enter_b29
      rw [own_f_ent, w3, if_pos i]
      refine ⟨_, rfl, wr s.f_ent l (rd s.f_ent l + 1), wr s.f_log (l * 64 + rd s.f_ent l) t, rfl, by rw [len_wr, w3], by rw [len_wr, w5], fun m hm hne => ⟨ne m _ hm hne, fun v hv => ?_⟩⟩
      obtain ⟨y1, y2⟩ := own_ix hm hv
      refine rd_wr_ne (inb_nn x2) (inb_nn y2) ?_ t
      intro e
      have e' := congrArg Int32.toInt e
      rw [x1, y1] at e'
      have a1 := inb_iff.mp i6
      have a2 := inb_iff.mp hv
      apply hne
      apply Int32.toInt_inj.mp
      omega
    · rw [if_neg c2]
      unfold j_enter_b29
      rw [w3, if_pos i]
      exact ⟨_, rfl, wr s.f_ent l (rd s.f_ent l + 1), s.f_log, rfl, by rw [len_wr, w3], w5, fun m hm hne => ⟨ne m _ hm hne, fun v _ => rfl⟩⟩
theorem own_rec {s : Q} {a b : List Nat} {x y : Int32} (h : own_J s a b x y) : own_ok (j_recordHistory s) (fun r => ∃ g, r = s.s_hist g ∧ g.length = 512 ∧ (∀ m v : Int32, (m = 0 ∨ m = 1) → 1 ≤ v.toInt → v.toInt ≤ 256 → v.toInt < s.f_clk.toInt → rd g (m * 256 + v - 1) = rd s.f_hist (m * 256 + v - 1)) ∧ (1 ≤ s.f_clk.toInt → s.f_clk.toInt ≤ 256 → ∀ m : Int32, (m = 0 ∨ m = 1) → j_holder s m = some (rd g (m * 256 + s.f_clk - 1)))) := by
  have w6 := h.2.2.1.2.2.2.2.2
  unfold j_recordHistory
  by_cases c1 : s.f_clk < 1
  · rw [if_pos c1]
    simp only [lt32, Int32.reduceToInt] at c1
    exact ⟨_, rfl, s.f_hist, rfl, w6, fun _ _ _ _ _ _ => rfl, fun q => by omega⟩
  · rw [if_neg c1]
    by_cases c2 : 256 < s.f_clk
    · rw [if_pos c2]
      simp only [lt32, Int32.reduceToInt] at c2
      exact ⟨_, rfl, s.f_hist, rfl, w6, fun _ _ _ _ _ _ => rfl, fun _ q => by omega⟩
    · rw [if_neg c2]
      simp only [lt32, Int32.reduceToInt] at c1 c2
      obtain ⟨h0, e0⟩ := own_hold h (m := 0) (Or.inl rfl)
      obtain ⟨h1, e1⟩ := own_hold h (m := 1) (Or.inr rfl)
      have k1 : (s.f_clk - 1).toInt = s.f_clk.toInt - 1 := by rw [own_sub] <;> simp only [Int32.reduceToInt] <;> omega
      have k2 : (256 + s.f_clk).toInt = 256 + s.f_clk.toInt := by rw [own_add] <;> simp only [Int32.reduceToInt] <;> omega
      have k3 : (256 + s.f_clk - 1).toInt = 255 + s.f_clk.toInt := by rw [own_sub] <;> simp only [Int32.reduceToInt] <;> omega
      have i1 : inb 512 (s.f_clk - 1) = true := inb_iff.mpr (by omega)
      have i2 : inb 512 (256 + s.f_clk - 1) = true := inb_iff.mpr (by omega)
      rw [e0, e1, Option.bind_some, Option.bind_some, w6, if_pos i1, len_wr, w6, if_pos i2]
      refine ⟨_, rfl, wr (wr s.f_hist (s.f_clk - 1) h0) (256 + s.f_clk - 1) h1, rfl, by rw [len_wr, len_wr, w6], ?_, ?_⟩
      · intro m v hm v1 v2 v3
        obtain ⟨y1, y2⟩ := own_hx hm v1 v2
        have hm' : m.toInt = 0 ∨ m.toInt = 1 := by rcases hm with e | e <;> subst e <;> decide
        rw [rd_wr_ne (inb_nn i2) (inb_nn y2), rd_wr_ne (inb_nn i1) (inb_nn y2)]
        · intro e
          have e' := congrArg Int32.toInt e
          rw [k1, y1] at e'
          omega
        · intro e
          have e' := congrArg Int32.toInt e
          rw [k3, y1] at e'
          omega
      · intro _ _ m hm
        rcases hm with e | e
        · subst e
          have q : (0 : Int32) * 256 + s.f_clk - 1 = s.f_clk - 1 := by
            apply Int32.toInt_inj.mp
            rw [(own_hx (m := 0) (Or.inl rfl) (by omega) (by omega)).1, k1]
            simp only [Int32.reduceToInt]; omega
          rw [e0, q, rd_wr_ne (inb_nn i2) (inb_nn i1), rd_wr_same (by rw [w6]; exact i1)]
          intro e
          have e' := congrArg Int32.toInt e
          rw [k1, k3] at e'
          omega
        · subst e
          have q : (1 : Int32) * 256 + s.f_clk - 1 = 256 + s.f_clk - 1 := by
            apply Int32.toInt_inj.mp
            rw [(own_hx (m := 1) (Or.inr rfl) (by omega) (by omega)).1, k3]
            simp only [Int32.reduceToInt]; omega
          rw [e1, q, rd_wr_same (by rw [len_wr, w6]; exact i2)]
def own_N (m : Int32) (s z : Q) : Prop := z.f_clk = s.f_clk + 1 ∧ own_vw z m = own_vw s m ∧ rd z.f_ent m = rd s.f_ent m ∧ rd z.f_aband m = rd s.f_aband m ∧ (∀ v, inb 64 v = true → rd z.f_log (m * 64 + v) = rd s.f_log (m * 64 + v)) ∧ (∀ u, inb 4 u = true → rd s.f_lk u = m → rd z.f_spin u = rd s.f_spin u)
def own_F (m : Int32) (s z : Q) : Prop := own_N m s z ∧ (∀ v : Int32, 1 ≤ v.toInt → v.toInt ≤ 256 → v.toInt ≤ s.f_clk.toInt → rd z.f_hist (m * 256 + v - 1) = rd s.f_hist (m * 256 + v - 1)) ∧ (z.f_clk.toInt ≤ 256 → j_holder z m = some (rd z.f_hist (m * 256 + z.f_clk - 1)))
theorem own_fin {s z : Q} {a b : List Nat} {x y m : Int32} (hm : m = 0 ∨ m = 1) (h : own_J z a b x y) (N : own_N m s z) (hh : z.f_hist = s.f_hist) (c0 : 0 ≤ s.f_clk.toInt) (c1 : s.f_clk.toInt ≤ 1000) : own_ok (j_recordHistory z) (fun r => own_J r a b x y ∧ own_F m s r) := by
  have ec : z.f_clk.toInt = s.f_clk.toInt + 1 := by rw [N.1, own_add] <;> simp only [Int32.reduceToInt] <;> omega
  refine own_mono (own_rec h) ?_
  rintro r ⟨g, e, hg, h1, h2⟩
  obtain ⟨hc, hp, hL, hn⟩ := h
  have J : own_J (z.s_hist g) a b x y := by
    refine ⟨hc, ?_, ?_, ?_⟩
    · have := congrArg (fun q : Q => q.s_hist g) hp
      exact this
    · obtain ⟨w1, w2, w3, w4, w5, w6⟩ := hL
      exact ⟨w1, w2, w3, w4, w5, hg⟩
    · exact hn
  have hv : ∀ m, own_vw (z.s_hist g) m = own_vw z m := by
    intro m
    have e1 : own_vw (z.s_hist g) m = own_vw (own_q a b x y) m := by rw [J.2.1]; exact own_fV _ _ hn m
    have e2 : own_vw z m = own_vw (own_q a b x y) m := by rw [hp]; exact own_fV _ _ hn m
    rw [e1, e2]
  have hH : ∀ m, j_holder (z.s_hist g) m = j_holder z m := by
    intro m
    rw [J.2.1, hp, own_fH, own_fH]
  subst e
  refine ⟨J, ⟨N.1, by rw [hv]; exact N.2.1, N.2.2⟩, ?_, ?_⟩
  · intro v v1 v2 v3
    have := h1 m v hm v1 v2 (by omega)
    rw [hh] at this
    exact this
  · intro q
    rw [hH]
    exact h2 (by omega) q m hm

theorem own_sf {s : Q} {a b : List Nat} {x y : Int32} (h : own_J s a b x y) : s.f_st = (own_q a b x y).f_st ∧ s.f_lk = (own_q a b x y).f_lk ∧ s.f_nxt0 = (own_q a b x y).f_nxt0 ∧ s.f_prv1 = (own_q a b x y).f_prv1 ∧ s.f_head = (own_q a b x y).f_head ∧ s.f_tail = (own_q a b x y).f_tail ∧ s.f_len = (own_q a b x y).f_len :=
  ⟨(congrArg Q.f_st h.2.1).trans own_f_st, (congrArg Q.f_lk h.2.1).trans own_f_lk, (congrArg Q.f_nxt0 h.2.1).trans own_f_nxt0, (congrArg Q.f_prv1 h.2.1).trans own_f_prv1, (congrArg Q.f_head h.2.1).trans own_f_head, (congrArg Q.f_tail h.2.1).trans own_f_tail, (congrArg Q.f_len h.2.1).trans own_f_len⟩
theorem own_vJ {s : Q} {a b : List Nat} {x y : Int32} (h : own_J s a b x y) (m : Int32) : own_vw s m = own_vw (own_q a b x y) m := by
  rw [h.2.1]; exact own_fV _ _ h.2.2.2 m
theorem own_m1 {l : Int32} (hl : l = 0 ∨ l = 1) : (1 - l = 0 ∨ 1 - l = 1) ∧ ¬ 1 - l = l := by
  rcases hl with e | e <;> subst e <;> decide
theorem own_vt {s : Q} {t : Int32} (hn : s.f_n = 4) (i : inb 4 t = true) : j_validThread s t = 1 := by
  have k := inb_iff.mp i
  unfold j_validThread
  rw [hn, if_neg (by simp only [lt32, Int32.reduceToInt]; omega), if_pos (by simp only [lt32, Int32.reduceToInt]; omega)]
theorem own_vl {l : Int32} (hl : l = 0 ∨ l = 1) : j_validLock l = 1 := by rcases hl with e | e <;> subst e <;> rfl
theorem own_48 {t : Int32} (i : inb 4 t = true) : inb 8 t = true := by
  have k := inb_iff.mp i
  exact inb_iff.mpr (by omega)
theorem own_sl {p : Q} {a b : List Nat} {x y t v : Int32} (h : own_eq (own_sst p t v) (own_q a b x y) = true) : p.f_st.length = 8 := by
  simp only [own_eq, Bool.and_eq_true, beq_iff_eq] at h
  have := congrArg List.length h.1
  rw [← len_wr p.f_st t v]; exact this
theorem own_10 : ((1 : Int32) = 0) = False := by decide
theorem own_30 : ((3 : Int32) = 0) = False := by decide
theorem own_20 : ((2 : Int32) = 0) = False := by decide
theorem own_32 : ((3 : Int32) = 2) = False := by decide
theorem own_31 : ((3 : Int32) = 1) = False := by decide
theorem own_12 : ((1 : Int32) = 2) = False := by decide
theorem own_acq {s r : Q} {a b a' b' : List Nat} {x y x' y' t l w v : Int32} (h : own_J s a b x y) (c0 : 0 ≤ s.f_clk.toInt) (c1 : s.f_clk.toInt ≤ 1000) (i : inb 4 t = true) (hl : l = 0 ∨ l = 1) (z : rd (own_q a b x y).f_st t = 0) (e : j_append (own_slk (own_q a b x y) t l) t l = some r) (hv : v = if rd (own_q a b x y).f_len l = 0 then 3 else 1) (he : own_eq (own_sst r t v) (own_q a' b' x' y') = true) (cf : own_cf a' b' x' y') (vw : own_vw (own_q a' b' x' y') (1 - l) = own_vw (own_q a b x y) (1 - l)) (lk : ¬ rd (own_q a b x y).f_lk t = 1 - l) : own_ok (j_acquire s t l w) (fun p => p.1 = v ∧ own_J p.2 a' b' x' y' ∧ own_F (1 - l) s p.2) := by
  obtain ⟨f1, f2, f3, f4, f5, f6, f7⟩ := own_sf h
  obtain ⟨hc, hp, ⟨w1, w2, w3, w4, w5, w6⟩, hn⟩ := h
  have J : own_J s a b x y := ⟨hc, hp, ⟨w1, w2, w3, w4, w5, w6⟩, hn⟩
  obtain ⟨hm, hne⟩ := own_m1 hl
  have i8 := own_48 i
  have i2 := own_b2 hl
  have hr := own_sl he
  have q1 : (own_q a b x y).f_st.length = 8 := rfl
  have q2 : (own_q a b x y).f_lk.length = 8 := rfl
  have q3 : (own_q a b x y).f_len.length = 2 := rfl
  have vt := own_vt hn i
  have vl := own_vl hl
  unfold j_acquire
  simp only [vt, vl, f1, f2, f3, f4, f5, f6, f7, q1, q2, q3, w1, w2, i8, i2, z, ↓reduceIte, own_10]
  generalize hS : Q.mk (own_q a b x y).f_st (wr (own_q a b x y).f_lk t l) (wr s.f_tmo t (j_clampTimeout w)) (wr s.f_spin t 0) (own_q a b x y).f_nxt0 (own_q a b x y).f_prv1 (own_q a b x y).f_head (own_q a b x y).f_tail (own_q a b x y).f_len s.f_ent s.f_aband s.f_log s.f_hist s.f_n (s.f_clk + 1) = S
  have fa : j_append S t l = some (own_put S r) := by
    have k := own_fA S (own_slk (own_q a b x y) t l) t l
    rw [e] at k
    refine Eq.trans (congrArg (fun q => j_append q t l) ?_) k
    subst hS
    rfl
  have g1 : S.f_clk = s.f_clk + 1 := by subst hS; rfl
  have g2 : S.f_spin = wr s.f_spin t 0 := by subst hS; rfl
  have g3 : S.f_tmo.length = 8 := by subst hS; rw [own_f_tmo, len_wr, w1]
  have g4 : S.f_ent = s.f_ent := by subst hS; rfl
  have g5 : S.f_aband = s.f_aband := by subst hS; rfl
  have g6 : S.f_log = s.f_log := by subst hS; rfl
  have g7 : S.f_hist = s.f_hist := by subst hS; rfl
  have g8 : S.f_n = 4 := by subst hS; exact hn
  have sp : ∀ u, inb 4 u = true → rd s.f_lk u = 1 - l → rd (wr s.f_spin t 0) u = rd s.f_spin u := by
    intro u hu hlu
    refine rd_wr_ne (inb_nn i) (inb_nn hu) ?_ 0
    intro e2; subst e2; rw [f2] at hlu; exact lk hlu
  have fin : ∀ (E G : List Int32), E.length = 2 → G.length = 128 → rd E (1 - l) = rd s.f_ent (1 - l) → (∀ u, inb 64 u = true → rd G ((1 - l) * 64 + u) = rd s.f_log ((1 - l) * 64 + u)) → own_ok (j_acquire_b119 (((own_put S (own_q a' b' x' y')).s_ent E).s_log G) v) (fun p => p.1 = v ∧ own_J p.2 a' b' x' y' ∧ own_F (1 - l) s p.2) := by
    intro E G hE hG h1 h2
    have Jz : own_J (((own_put S (own_q a' b' x' y')).s_ent E).s_log G) a' b' x' y' := by
      refine ⟨cf, rfl, ⟨g3, ?_, hE, ?_, hG, ?_⟩, g8⟩
      · show S.f_spin.length = 8
        rw [g2, len_wr, w2]
      · show S.f_aband.length = 2
        rw [g5, w4]
      · show S.f_hist.length = 512
        rw [g7, w6]
    have Nz : own_N (1 - l) s (((own_put S (own_q a' b' x' y')).s_ent E).s_log G) := by
      refine ⟨g1, ?_, h1, ?_, h2, ?_⟩
      · rw [own_vJ Jz, own_vJ J, vw]
      · show rd S.f_aband _ = _
        rw [g5]
      · intro u hu hlu
        show rd S.f_spin u = _
        rw [g2]; exact sp u hu hlu
    unfold j_acquire_b119
    exact own_bind (own_fin hm Jz Nz g7 c0 c1) fun p hp => ⟨_, rfl, rfl, hp⟩
  rw [fa]
  by_cases c : rd (own_q a b x y).f_len l = 0
  · rw [if_pos c] at hv
    rw [if_pos c, Option.bind_some, if_pos (show inb (own_put S r).f_st.length t = true by rw [show (own_put S r).f_st.length = 8 from hr]; exact i8)]
    have k := own_put_eq he S
    rw [hv] at k fin
    refine own_bind (P := fun r => ∃ e g, r = ((own_put S (own_q a' b' x' y')).s_ent e).s_log g ∧ e.length = 2 ∧ g.length = 128 ∧ ∀ m, (m = 0 ∨ m = 1) → ¬ m = l → rd e m = rd (own_put S (own_q a' b' x' y')).f_ent m ∧ ∀ v, inb 64 v = true → rd g (m * 64 + v) = rd (own_put S (own_q a' b' x' y')).f_log (m * 64 + v)) ?_ ?_
    · show own_ok (j_enter (own_put S (own_sst r t 3)) t l) _
      rw [k]
      refine own_enter ⟨g3, ?_, ?_, ?_, ?_, ?_⟩ hl
      · show S.f_spin.length = 8
        rw [g2, len_wr, w2]
      · show S.f_ent.length = 2
        rw [g4, w3]
      · show S.f_aband.length = 2
        rw [g5, w4]
      · show S.f_log.length = 128
        rw [g6, w5]
      · show S.f_hist.length = 512
        rw [g7, w6]
    · rintro p ⟨E, G, ep, hE, hG, hf⟩
      subst ep
      obtain ⟨k1, k2⟩ := hf (1 - l) hm hne
      rw [hv]
      refine fin E G hE hG ?_ ?_
      · rw [k1]; show rd S.f_ent _ = _; rw [g4]
      · intro u hu; rw [k2 u hu]; show rd S.f_log _ = _; rw [g6]
  · rw [if_neg c] at hv
    rw [if_neg c, Option.bind_some, if_pos (show inb (own_put S r).f_st.length t = true by rw [show (own_put S r).f_st.length = 8 from hr]; exact i8)]
    have k := own_put_eq he S
    rw [hv] at k fin ⊢
    show own_ok (j_acquire_b119 (own_put S (own_sst r t 1)) 1) _
    rw [k]
    have f := fin S.f_ent S.f_log (by rw [g4, w3]) (by rw [g6, w5]) (by rw [g4]) (fun u _ => by rw [g6])
    exact f

def own_Y (s r : Q) (E A G T P : List Int32) : Prop := r.f_clk = s.f_clk + 1 ∧ r.f_ent = E ∧ r.f_aband = A ∧ r.f_log = G ∧ r.f_tmo = T ∧ r.f_spin = P ∧ (r.f_clk.toInt ≤ 256 → ∀ m : Int32, (m = 0 ∨ m = 1) → j_holder r m = some (rd r.f_hist (m * 256 + r.f_clk - 1)))
theorem own_fin8 {s z : Q} {a b : List Nat} {x y : Int32} (h : own_J z a b x y) (hz : z.f_clk = s.f_clk + 1) (c0 : 0 ≤ s.f_clk.toInt) (c1 : s.f_clk.toInt ≤ 1000) : own_ok (j_recordHistory z) (fun r => own_J r a b x y ∧ own_Y s r z.f_ent z.f_aband z.f_log z.f_tmo z.f_spin) := by
  have ec : z.f_clk.toInt = s.f_clk.toInt + 1 := by rw [hz, own_add] <;> simp only [Int32.reduceToInt] <;> omega
  refine own_mono (own_rec h) ?_
  rintro r ⟨g, e, hg, h1, h2⟩
  obtain ⟨hc, hp, hL, hn⟩ := h
  have J : own_J (z.s_hist g) a b x y := by
    refine ⟨hc, ?_, ?_, ?_⟩
    · have := congrArg (fun q : Q => q.s_hist g) hp
      exact this
    · obtain ⟨w1, w2, w3, w4, w5, w6⟩ := hL
      exact ⟨w1, w2, w3, w4, w5, hg⟩
    · exact hn
  have hH : ∀ m, j_holder (z.s_hist g) m = j_holder z m := by
    intro m
    rw [J.2.1, hp, own_fH, own_fH]
  subst e
  refine ⟨J, hz, rfl, rfl, rfl, rfl, rfl, ?_⟩
  intro q m hm
  rw [hH]
  exact h2 (by omega) q m hm
def own_lg (s : Q) (t l : Int32) : List Int32 := if rd s.f_ent l < 64 then wr s.f_log (l * 64 + rd s.f_ent l) t else s.f_log
theorem own_lgl (s : Q) (t l : Int32) : (own_lg s t l).length = s.f_log.length := by
  unfold own_lg
  split
  · rw [len_wr]
  · rfl
theorem own_ent8 {s : Q} {t l : Int32} (h : own_L s) (hl : l = 0 ∨ l = 1) (h0 : 0 ≤ (rd s.f_ent l).toInt) : j_enter s t l = some ((s.s_ent (wr s.f_ent l (rd s.f_ent l + 1))).s_log (own_lg s t l)) := by
  obtain ⟨w1, w2, w3, w4, w5, w6⟩ := h
  have i := own_b2 hl
  unfold j_enter own_lg
  rw [w3, if_pos i, if_neg (by simp only [lt32, Int32.reduceToInt]; omega)]
  by_cases c2 : rd s.f_ent l < 64
  · have i6 : inb 64 (rd s.f_ent l) = true := by
      simp only [lt32, Int32.reduceToInt] at c2
      exact inb_iff.mpr (by omega)
    rw [if_pos c2, if_pos c2, w5, if_pos (own_ix hl i6).2]
    unfold j_enter_b29
    rw [own_f_ent, w3, if_pos i]
    rfl
  · rw [if_neg c2, if_neg c2]
    unfold j_enter_b29
    rw [w3, if_pos i]
    rfl
theorem own_acq8 {s r : Q} {a b a' b' : List Nat} {x y x' y' t l w v : Int32} (h : own_J s a b x y) (c0 : 0 ≤ s.f_clk.toInt) (c1 : s.f_clk.toInt ≤ 1000) (i : inb 4 t = true) (hl : l = 0 ∨ l = 1) (z : rd (own_q a b x y).f_st t = 0) (e : j_append (own_slk (own_q a b x y) t l) t l = some r) (hv : v = if rd (own_q a b x y).f_len l = 0 then 3 else 1) (he : own_eq (own_sst r t v) (own_q a' b' x' y') = true) (cf : own_cf a' b' x' y') (h0 : 0 ≤ (rd s.f_ent l).toInt) : own_ok (j_acquire s t l w) (fun p => p.1 = v ∧ own_J p.2 a' b' x' y' ∧ own_Y s p.2 (if rd (own_q a b x y).f_len l = 0 then wr s.f_ent l (rd s.f_ent l + 1) else s.f_ent) s.f_aband (if rd (own_q a b x y).f_len l = 0 then own_lg s t l else s.f_log) (wr s.f_tmo t (j_clampTimeout w)) (wr s.f_spin t 0)) := by
  obtain ⟨f1, f2, f3, f4, f5, f6, f7⟩ := own_sf h
  obtain ⟨hc, hp, ⟨w1, w2, w3, w4, w5, w6⟩, hn⟩ := h
  have J : own_J s a b x y := ⟨hc, hp, ⟨w1, w2, w3, w4, w5, w6⟩, hn⟩
  have i8 := own_48 i
  have i2 := own_b2 hl
  have hr := own_sl he
  have q1 : (own_q a b x y).f_st.length = 8 := rfl
  have q2 : (own_q a b x y).f_lk.length = 8 := rfl
  have q3 : (own_q a b x y).f_len.length = 2 := rfl
  have vt := own_vt hn i
  have vl := own_vl hl
  unfold j_acquire
  simp only [vt, vl, f1, f2, f3, f4, f5, f6, f7, q1, q2, q3, w1, w2, i8, i2, z, ↓reduceIte, own_10]
  generalize hS : Q.mk (own_q a b x y).f_st (wr (own_q a b x y).f_lk t l) (wr s.f_tmo t (j_clampTimeout w)) (wr s.f_spin t 0) (own_q a b x y).f_nxt0 (own_q a b x y).f_prv1 (own_q a b x y).f_head (own_q a b x y).f_tail (own_q a b x y).f_len s.f_ent s.f_aband s.f_log s.f_hist s.f_n (s.f_clk + 1) = S
  have fa : j_append S t l = some (own_put S r) := by
    have k := own_fA S (own_slk (own_q a b x y) t l) t l
    rw [e] at k
    refine Eq.trans (congrArg (fun q => j_append q t l) ?_) k
    subst hS
    rfl
  have g1 : S.f_clk = s.f_clk + 1 := by subst hS; rfl
  have g2 : S.f_spin = wr s.f_spin t 0 := by subst hS; rfl
  have g3 : S.f_tmo = wr s.f_tmo t (j_clampTimeout w) := by subst hS; rfl
  have g4 : S.f_ent = s.f_ent := by subst hS; rfl
  have g5 : S.f_aband = s.f_aband := by subst hS; rfl
  have g6 : S.f_log = s.f_log := by subst hS; rfl
  have g7 : S.f_hist = s.f_hist := by subst hS; rfl
  have g8 : S.f_n = 4 := by subst hS; exact hn
  have hL : own_L (own_put S (own_q a' b' x' y')) := by
    refine ⟨?_, ?_, ?_, ?_, ?_, ?_⟩
    · show S.f_tmo.length = 8
      rw [g3, len_wr, w1]
    · show S.f_spin.length = 8
      rw [g2, len_wr, w2]
    · show S.f_ent.length = 2
      rw [g4, w3]
    · show S.f_aband.length = 2
      rw [g5, w4]
    · show S.f_log.length = 128
      rw [g6, w5]
    · show S.f_hist.length = 512
      rw [g7, w6]
  rw [fa]
  by_cases c : rd (own_q a b x y).f_len l = 0
  · rw [if_pos c] at hv
    rw [if_pos c, if_pos c, if_pos c, Option.bind_some, if_pos (show inb (own_put S r).f_st.length t = true by rw [show (own_put S r).f_st.length = 8 from hr]; exact i8)]
    have k := own_put_eq he S
    rw [hv] at k
    have ee : j_enter (own_put S (own_sst r t 3)) t l = some (((own_put S (own_q a' b' x' y')).s_ent (wr s.f_ent l (rd s.f_ent l + 1))).s_log (own_lg s t l)) := by
      rw [k]
      have q := own_ent8 (t := t) hL hl (by show 0 ≤ (rd S.f_ent l).toInt; rw [g4]; exact h0)
      rw [q]
      have u1 : (own_put S (own_q a' b' x' y')).f_ent = s.f_ent := g4
      have u2 : own_lg (own_put S (own_q a' b' x' y')) t l = own_lg s t l := by
        unfold own_lg
        rw [u1, show (own_put S (own_q a' b' x' y')).f_log = s.f_log from g6]
      rw [u1, u2]
    show own_ok ((j_enter (own_put S (own_sst r t 3)) t l).bind _) _
    rw [ee, Option.bind_some]
    unfold j_acquire_b119
    have Jz : own_J (((own_put S (own_q a' b' x' y')).s_ent (wr s.f_ent l (rd s.f_ent l + 1))).s_log (own_lg s t l)) a' b' x' y' := by
      obtain ⟨l1, l2, l3, l4, l5, l6⟩ := hL
      exact ⟨cf, rfl, ⟨l1, l2, by show (wr s.f_ent l _).length = 2; rw [len_wr, w3], l4, by show (own_lg s t l).length = 128; rw [own_lgl, w5], l6⟩, g8⟩
    refine own_bind (own_fin8 (s := s) Jz g1 c0 c1) fun p hp => ⟨_, rfl, hv.symm, hp.1, ?_⟩
    obtain ⟨y1, y2, y3, y4, y5, y6, y7⟩ := hp.2
    exact ⟨y1, y2, y3.trans g5, y4, y5.trans g3, y6.trans g2, y7⟩
  · rw [if_neg c] at hv
    rw [if_neg c, if_neg c, if_neg c, Option.bind_some, if_pos (show inb (own_put S r).f_st.length t = true by rw [show (own_put S r).f_st.length = 8 from hr]; exact i8)]
    have k := own_put_eq he S
    rw [hv] at k ⊢
    show own_ok (j_acquire_b119 (own_put S (own_sst r t 1)) 1) _
    rw [k]
    unfold j_acquire_b119
    have Jz : own_J (own_put S (own_q a' b' x' y')) a' b' x' y' := ⟨cf, rfl, hL, g8⟩
    refine own_bind (own_fin8 (s := s) Jz g1 c0 c1) fun p hp => ⟨_, rfl, rfl, hp.1, ?_⟩
    obtain ⟨y1, y2, y3, y4, y5, y6, y7⟩ := hp.2
    exact ⟨y1, y2.trans g4, y3.trans g5, y4.trans g6, y5.trans g3, y6.trans g2, y7⟩
theorem own_rel8 {s r : Q} {a b a' b' : List Nat} {x y x' y' t l nx : Int32} (h : own_J s a b x y) (c0 : 0 ≤ s.f_clk.toInt) (c1 : s.f_clk.toInt ≤ 1000) (i : inb 4 t = true) (z : rd (own_q a b x y).f_st t = 3) (zl : rd (own_q a b x y).f_lk t = l) (e : j_popFront (own_q a b x y) l = some (nx, r)) (hx : j_inNodes nx = 0 ∨ inb 8 nx = true) (r8 : r.f_st.length = 8) (r9 : r.f_lk.length = 8) (he : own_eq (if j_inNodes nx = 0 then own_slk (own_sst r t 0) t (-1) else own_slk (own_sst (own_sst r t 0) nx 2) t (-1)) (own_q a' b' x' y') = true) (cf : own_cf a' b' x' y') : own_ok (j_release s t) (fun p => p.1 = nx ∧ own_J p.2 a' b' x' y' ∧ own_Y s p.2 s.f_ent s.f_aband s.f_log s.f_tmo s.f_spin) := by
  obtain ⟨f1, f2, f3, f4, f5, f6, f7⟩ := own_sf h
  have J := h
  obtain ⟨hc, hp, ⟨w1, w2, w3, w4, w5, w6⟩, hn⟩ := h
  have i8 := own_48 i
  have q1 : (own_q a b x y).f_st.length = 8 := rfl
  have q2 : (own_q a b x y).f_lk.length = 8 := rfl
  have vt := own_vt hn i
  unfold j_release
  simp only [vt, f1, f2, f3, f4, f5, f6, f7, q1, q2, i8, z, zl, ↓reduceIte, own_10, own_30, own_20, own_32, own_31, own_12]
  generalize hS : Q.mk (own_q a b x y).f_st (own_q a b x y).f_lk s.f_tmo s.f_spin (own_q a b x y).f_nxt0 (own_q a b x y).f_prv1 (own_q a b x y).f_head (own_q a b x y).f_tail (own_q a b x y).f_len s.f_ent s.f_aband s.f_log s.f_hist s.f_n (s.f_clk + 1) = S
  have g1 : S.f_clk = s.f_clk + 1 := by subst hS; rfl
  have g8 : S.f_n = 4 := by subst hS; exact hn
  have fa : j_popFront S l = some (nx, own_put S r) := by
    have k := own_fP S (own_q a b x y) g8 l
    rw [e] at k
    refine Eq.trans (congrArg (fun q => j_popFront q l) ?_) k
    subst hS
    rfl
  have hL : own_L S := by subst hS; exact ⟨w1, w2, w3, w4, w5, w6⟩
  have Jz : own_J (own_put S (own_q a' b' x' y')) a' b' x' y' := ⟨cf, rfl, hL, g8⟩
  have gen : own_ok (j_recordHistory (own_put S (own_q a' b' x' y'))) (fun p => own_J p a' b' x' y' ∧ own_Y s p s.f_ent s.f_aband s.f_log s.f_tmo s.f_spin) := by
    refine own_mono (own_fin8 (s := s) Jz g1 c0 c1) fun p hp => ⟨hp.1, ?_⟩
    have := hp.2
    subst hS
    exact this
  have k := own_put_eq he S
  have R8 : (own_put S r).f_st.length = 8 := r8
  have R9 : (own_put S r).f_lk.length = 8 := r9
  rw [fa, Option.bind_some]
  simp only [R8, R9, i8, ↓reduceIte]
  by_cases c : j_inNodes nx = 0
  · rw [if_pos c] at k
    rw [if_pos c]
    unfold j_release_b76
    show own_ok ((j_recordHistory (own_put S (own_slk (own_sst r t 0) t (-1)))).bind _) _
    rw [k]
    exact own_bind gen fun p hp => ⟨_, rfl, rfl, hp⟩
  · rw [if_neg c] at k
    rw [if_neg c, if_pos (show inb (wr (own_put S r).f_st t 0).length nx = true by rw [len_wr, R8]; exact hx.resolve_left c)]
    unfold j_release_b76
    show own_ok ((j_recordHistory (own_put S (own_slk (own_sst (own_sst r t 0) nx 2) t (-1)))).bind _) _
    rw [k]
    exact own_bind gen fun p hp => ⟨_, rfl, rfl, hp⟩
theorem own_ste8 {s : Q} {a b a' b' : List Nat} {x y x' y' t l : Int32} (h : own_J s a b x y) (c0 : 0 ≤ s.f_clk.toInt) (c1 : s.f_clk.toInt ≤ 1000) (i : inb 4 t = true) (hl : l = 0 ∨ l = 1) (z : rd (own_q a b x y).f_st t = 2) (zl : rd (own_q a b x y).f_lk t = l) (he : own_eq (own_sst (own_q a b x y) t 3) (own_q a' b' x' y') = true) (cf : own_cf a' b' x' y') (h0 : 0 ≤ (rd s.f_ent l).toInt) : own_ok (j_step s t) (fun p => p.1 = 3 ∧ own_J p.2 a' b' x' y' ∧ own_Y s p.2 (wr s.f_ent l (rd s.f_ent l + 1)) s.f_aband (own_lg s t l) s.f_tmo s.f_spin) := by
  obtain ⟨f1, f2, f3, f4, f5, f6, f7⟩ := own_sf h
  have J := h
  obtain ⟨hc, hp, ⟨w1, w2, w3, w4, w5, w6⟩, hn⟩ := h
  have i8 := own_48 i
  have q1 : (own_q a b x y).f_st.length = 8 := rfl
  have q2 : (own_q a b x y).f_lk.length = 8 := rfl
  have vt := own_vt hn i
  unfold j_step
  simp only [vt, f1, f2, f3, f4, f5, f6, f7, q1, q2, i8, z, zl, ↓reduceIte, own_10, own_30, own_20, own_32, own_31, own_12]
  generalize hS : Q.mk (wr (own_q a b x y).f_st t 3) (own_q a b x y).f_lk s.f_tmo s.f_spin (own_q a b x y).f_nxt0 (own_q a b x y).f_prv1 (own_q a b x y).f_head (own_q a b x y).f_tail (own_q a b x y).f_len s.f_ent s.f_aband s.f_log s.f_hist s.f_n (s.f_clk + 1) = S
  have k : S = own_put S (own_q a' b' x' y') := by
    rw [← own_put_eq he S]
    subst hS; rfl
  have hL : own_L S := by subst hS; exact ⟨w1, w2, w3, w4, w5, w6⟩
  have g1 : S.f_clk = s.f_clk + 1 := by subst hS; rfl
  have g8 : S.f_n = 4 := by subst hS; exact hn
  have g4 : S.f_ent = s.f_ent := by subst hS; rfl
  have g6 : S.f_log = s.f_log := by subst hS; rfl
  have g5 : S.f_aband = s.f_aband := by subst hS; rfl
  have g3 : S.f_tmo = s.f_tmo := by subst hS; rfl
  have g2 : S.f_spin = s.f_spin := by subst hS; rfl
  have u2 : own_lg S t l = own_lg s t l := by
    unfold own_lg
    rw [g4, g6]
  rw [own_ent8 hL hl (by rw [g4]; exact h0), Option.bind_some, u2, g4]
  have hk : (S.s_ent (wr s.f_ent l (rd s.f_ent l + 1))).s_log (own_lg s t l) = own_put ((S.s_ent (wr s.f_ent l (rd s.f_ent l + 1))).s_log (own_lg s t l)) (own_q a' b' x' y') := congrArg (fun q : Q => (q.s_ent (wr s.f_ent l (rd s.f_ent l + 1))).s_log (own_lg s t l)) k
  unfold j_step_b84
  obtain ⟨l1, l2, l3, l4, l5, l6⟩ := hL
  have Jz : own_J ((S.s_ent (wr s.f_ent l (rd s.f_ent l + 1))).s_log (own_lg s t l)) a' b' x' y' := ⟨cf, hk, ⟨l1, l2, by show (wr s.f_ent l _).length = 2; rw [len_wr, w3], l4, by show (own_lg s t l).length = 128; rw [own_lgl, w5], l6⟩, g8⟩
  refine own_bind (own_fin8 (s := s) Jz g1 c0 c1) fun p hp => ⟨_, rfl, rfl, hp.1, ?_⟩
  obtain ⟨y1, y2, y3, y4, y5, y6, y7⟩ := hp.2
  exact ⟨y1, y2, y3.trans g5, y4, y5.trans g3, y6.trans g2, y7⟩
theorem own_sth8 {s : Q} {a b : List Nat} {x y t : Int32} (h : own_J s a b x y) (c0 : 0 ≤ s.f_clk.toInt) (c1 : s.f_clk.toInt ≤ 1000) (i : inb 4 t = true) (z : rd (own_q a b x y).f_st t = 3) : own_ok (j_step s t) (fun p => p.1 = 3 ∧ own_J p.2 a b x y ∧ own_Y s p.2 s.f_ent s.f_aband s.f_log s.f_tmo s.f_spin) := by
  obtain ⟨f1, f2, f3, f4, f5, f6, f7⟩ := own_sf h
  have J := h
  obtain ⟨hc, hp, ⟨w1, w2, w3, w4, w5, w6⟩, hn⟩ := h
  have i8 := own_48 i
  have q1 : (own_q a b x y).f_st.length = 8 := rfl
  have q2 : (own_q a b x y).f_lk.length = 8 := rfl
  have vt := own_vt hn i
  unfold j_step j_step_b84
  simp only [vt, f1, f2, f3, f4, f5, f6, f7, q1, q2, i8, z, ↓reduceIte, own_10, own_30, own_20, own_32, own_31, own_12]
  generalize hS : Q.mk (own_q a b x y).f_st (own_q a b x y).f_lk s.f_tmo s.f_spin (own_q a b x y).f_nxt0 (own_q a b x y).f_prv1 (own_q a b x y).f_head (own_q a b x y).f_tail (own_q a b x y).f_len s.f_ent s.f_aband s.f_log s.f_hist s.f_n (s.f_clk + 1) = S
  have hk : S = own_put S (own_q a b x y) := by subst hS; rfl
  have Jz : own_J S a b x y := ⟨hc, hk, by subst hS; exact ⟨w1, w2, w3, w4, w5, w6⟩, by subst hS; exact hn⟩
  refine own_bind (own_fin8 (s := s) Jz (by subst hS; rfl) c0 c1) fun p hp => ⟨_, rfl, rfl, hp.1, ?_⟩
  have := hp.2
  subst hS
  exact this
theorem own_stw8 {s r : Q} {a b a' b' : List Nat} {x y x' y' t l : Int32} (h : own_J s a b x y) (c0 : 0 ≤ s.f_clk.toInt) (c1 : s.f_clk.toInt ≤ 1000) (i : inb 4 t = true) (hl : l = 0 ∨ l = 1) (z : rd (own_q a b x y).f_st t = 1) (zl : rd (own_q a b x y).f_lk t = l) (e : j_unlink (own_q a b x y) t l = some r) (r8 : r.f_st.length = 8) (r9 : r.f_lk.length = 8) (he : own_eq (own_slk (own_sst r t 0) t (-1)) (own_q a' b' x' y') = true) (cf : own_cf a' b' x' y') : own_ok (j_step s t) (fun p => if 0 < rd s.f_tmo t ∧ ¬ rd s.f_spin t + 1 < rd s.f_tmo t then p.1 = 4 ∧ own_J p.2 a' b' x' y' ∧ own_Y s p.2 s.f_ent (wr s.f_aband l (rd s.f_aband l + 1)) s.f_log s.f_tmo (wr s.f_spin t (rd s.f_spin t + 1)) else p.1 = 1 ∧ own_J p.2 a b x y ∧ own_Y s p.2 s.f_ent s.f_aband s.f_log s.f_tmo (wr s.f_spin t (rd s.f_spin t + 1))) := by
  obtain ⟨f1, f2, f3, f4, f5, f6, f7⟩ := own_sf h
  have J := h
  obtain ⟨hc, hp, ⟨w1, w2, w3, w4, w5, w6⟩, hn⟩ := h
  have i8 := own_48 i
  have i2 := own_b2 hl
  have q1 : (own_q a b x y).f_st.length = 8 := rfl
  have q2 : (own_q a b x y).f_lk.length = 8 := rfl
  have vt := own_vt hn i
  have rs : rd (wr s.f_spin t (rd s.f_spin t + 1)) t = rd s.f_spin t + 1 := rd_wr_same (by rw [w2]; exact i8) _
  unfold j_step j_spinOnce
  simp only [vt, f1, f2, f3, f4, f5, f6, f7, q1, q2, i8, z, zl, ↓reduceIte, own_10, own_30, own_20, own_32, own_31, own_12, own_f_st, own_e_st, own_z_st, own_f_lk, own_e_lk, own_z_lk, own_f_tmo, own_e_tmo, own_z_tmo, own_f_spin, own_e_spin, own_z_spin, own_f_nxt0, own_e_nxt0, own_z_nxt0, own_f_prv1, own_e_prv1, own_z_prv1, own_f_head, own_e_head, own_z_head, own_f_tail, own_e_tail, own_z_tail, own_f_len, own_e_len, own_z_len, own_f_ent, own_e_ent, own_z_ent, own_f_aband, own_e_aband, own_z_aband, own_f_log, own_e_log, own_z_log, own_f_hist, own_e_hist, own_z_hist, own_f_n, own_e_n, own_z_n, own_f_clk, own_e_clk, own_z_clk, w1, w2, len_wr, rs]
  generalize hS : Q.mk (own_q a b x y).f_st (own_q a b x y).f_lk s.f_tmo (wr s.f_spin t (rd s.f_spin t + 1)) (own_q a b x y).f_nxt0 (own_q a b x y).f_prv1 (own_q a b x y).f_head (own_q a b x y).f_tail (own_q a b x y).f_len s.f_ent s.f_aband s.f_log s.f_hist s.f_n (s.f_clk + 1) = S
  have g8 : S.f_n = 4 := by subst hS; exact hn
  have g1 : S.f_clk = s.f_clk + 1 := by subst hS; rfl
  have hL : own_L S := by subst hS; exact ⟨w1, by rw [own_f_spin, len_wr, w2], w3, w4, w5, w6⟩
  have hk : S = own_put S (own_q a b x y) := by subst hS; rfl
  have b84 : own_ok (j_step_b84 S 1) (fun p => p.1 = 1 ∧ own_J p.2 a b x y ∧ own_Y s p.2 s.f_ent s.f_aband s.f_log s.f_tmo (wr s.f_spin t (rd s.f_spin t + 1))) := by
    unfold j_step_b84
    refine own_bind (own_fin8 (s := s) ⟨hc, hk, hL, g8⟩ g1 c0 c1) fun p hp => ⟨_, rfl, rfl, hp.1, ?_⟩
    have := hp.2
    subst hS
    exact this
  have fa : j_unlink S t l = some (own_put S r) := by
    have k := own_fU S (own_q a b x y) g8 t l
    rw [e] at k
    exact (congrArg (fun q => j_unlink q t l) hk).trans k
  by_cases d1 : 0 < rd s.f_tmo t
  · rw [if_pos d1]
    by_cases d2 : rd s.f_spin t + 1 < rd s.f_tmo t
    · rw [if_pos d2]
      exact own_mono b84 fun p hp => by rw [if_neg (fun q => q.2 d2)]; exact hp
    · rw [if_neg d2]
      have R8 : (own_put S r).f_st.length = 8 := r8
      have R9 : (own_put S r).f_lk.length = 8 := r9
      have R10 : (own_put S r).f_aband.length = 2 := hL.2.2.2.1
      rw [fa, Option.bind_some]
      simp only [R8, R9, R10, i8, i2, ↓reduceIte, Option.bind_some]
      have k := own_put_eq he (S.s_aband (wr S.f_aband l (rd S.f_aband l + 1)))
      have Jz : own_J (own_put (S.s_aband (wr S.f_aband l (rd S.f_aband l + 1))) (own_q a' b' x' y')) a' b' x' y' := by
        obtain ⟨l1, l2, l3, l4, l5, l6⟩ := hL
        exact ⟨cf, rfl, ⟨l1, l2, l3, by show (wr S.f_aband l _).length = 2; rw [len_wr, l4], l5, l6⟩, g8⟩
      unfold j_step_b84
      show own_ok ((j_recordHistory (own_put (S.s_aband (wr S.f_aband l (rd S.f_aband l + 1))) (own_slk (own_sst r t 0) t (-1)))).bind _) _
      rw [k]
      refine own_bind (own_fin8 (s := s) Jz g1 c0 c1) fun p hp => ⟨_, rfl, ?_⟩
      dsimp only
      rw [if_pos (show 0 < rd s.f_tmo t ∧ ¬ rd s.f_spin t + 1 < rd s.f_tmo t from ⟨d1, d2⟩)]
      refine ⟨rfl, hp.1, ?_⟩
      have := hp.2
      subst hS
      exact this
  · rw [if_neg d1]
    exact own_mono b84 fun p hp => by rw [if_neg (fun q => d1 q.1)]; exact hp

theorem own_lo {s : Q} {a b : List Nat} {x y u : Int32} (J : own_J s a b x y) (i : inb 4 u = true) : j_lockOf s u = some (rd s.f_lk u) := by
  have k : s.f_lk.length = 8 := by rw [(own_sf J).2.1]; rfl
  unfold j_lockOf
  rw [own_vt J.2.2.2 i, if_neg (by decide), k, if_pos (own_48 i)]
theorem own_sta {s : Q} {a b : List Nat} {x y u : Int32} (J : own_J s a b x y) (i : inb 4 u = true) : j_state s u = some (rd s.f_st u) := by
  have k : s.f_st.length = 8 := by rw [(own_sf J).1]; rfl
  unfold j_state
  rw [own_vt J.2.2.2 i, if_neg (by decide), k, if_pos (own_48 i)]
theorem own_spi {s : Q} {a b : List Nat} {x y u : Int32} (J : own_J s a b x y) (i : inb 4 u = true) : j_spins s u = some (rd s.f_spin u) := by
  unfold j_spins
  rw [own_vt J.2.2.2 i, if_neg (by decide), J.2.2.1.2.1, if_pos (own_48 i)]
theorem own_ql {s : Q} {a b : List Nat} {x y m : Int32} (J : own_J s a b x y) (hm : m = 0 ∨ m = 1) : j_queueLength s m = some (rd s.f_len m) := by
  have k : s.f_len.length = 2 := by rw [(own_sf J).2.2.2.2.2.2]; rfl
  unfold j_queueLength
  rw [own_vl hm, if_neg (by decide), k, if_pos (own_b2 hm)]
theorem own_et {s : Q} {a b : List Nat} {x y m : Int32} (J : own_J s a b x y) (hm : m = 0 ∨ m = 1) : j_entries s m = some (rd s.f_ent m) := by
  unfold j_entries
  rw [own_vl hm, if_neg (by decide), J.2.2.1.2.2.1, if_pos (own_b2 hm)]
theorem own_ab {s : Q} {a b : List Nat} {x y m : Int32} (J : own_J s a b x y) (hm : m = 0 ∨ m = 1) : j_abandons s m = some (rd s.f_aband m) := by
  unfold j_abandons
  rw [own_vl hm, if_neg (by decide), J.2.2.1.2.2.2.1, if_pos (own_b2 hm)]
theorem own_ea {s : Q} {a b : List Nat} {x y m v : Int32} (J : own_J s a b x y) (hm : m = 0 ∨ m = 1) (i : inb 64 v = true) : j_entryAt s m v = some (if v < rd s.f_ent m then rd s.f_log (m * 64 + v) else -2) := by
  have h := inb_iff.mp i
  unfold j_entryAt
  rw [own_vl hm, if_neg (by decide), if_neg (inb_nn i), J.2.2.1.2.2.1, if_pos (own_b2 hm), if_pos (show v < 64 by simp only [lt32, Int32.reduceToInt]; omega), J.2.2.1.2.2.2.2.1, if_pos (own_ix hm i).2]
  split <;> rfl
theorem own_ha {s : Q} {a b : List Nat} {x y m v : Int32} (J : own_J s a b x y) (hm : m = 0 ∨ m = 1) (h1 : 1 ≤ v.toInt) (h2 : v.toInt ≤ 256) (h3 : v.toInt ≤ s.f_clk.toInt) : j_holderAt s m v = some (rd s.f_hist (m * 256 + v - 1)) := by
  unfold j_holderAt
  rw [own_vl hm, if_neg (by decide), if_neg (by simp only [lt32, Int32.reduceToInt]; omega), if_neg (by simp only [lt32]; omega), if_neg (by simp only [lt32, Int32.reduceToInt]; omega), J.2.2.1.2.2.2.2.2, if_pos (own_hx hm h1 h2).2]
theorem own_vt0 {s : Q} {t : Int32} (hn : s.f_n = 4) (h4 : ¬ t.toInt < 4) : j_validThread s t = 0 := by
  unfold j_validThread
  split
  · rfl
  · rw [hn, if_neg (by simp only [lt32, Int32.reduceToInt]; omega)]
theorem own_new1 {a b : List Nat} {x y : Int32} {z q : Q} {m : Int32} (hx : x = 2 ∨ x = 3) (hy : y = 2 ∨ y = 3) (h : own_new a b x y z q m = true) : own_eq z (own_q a b x y) = true ∧ own_cf a b x y ∧ own_vw (own_q a b x y) m = own_vw q m := by
  simp only [own_new, Bool.and_eq_true, beq_iff_eq] at h
  exact ⟨h.1, ⟨h.2.1, h.2.2.1, h.2.2.2.1, hx, hy⟩, h.2.2.2.2⟩
theorem own_r23 {c : Prop} [Decidable c] {x y : Int32} (hx : x = 2 ∨ x = 3) (hy : y = 2 ∨ y = 3) : (if c then x else y) = 2 ∨ (if c then x else y) = 3 := by
  split
  · exact hx
  · exact hy
theorem own_e8 {p : Q} {a b : List Nat} {x y t v w : Int32} (h : own_eq (own_slk (own_sst p t v) t w) (own_q a b x y) = true) : p.f_st.length = 8 ∧ p.f_lk.length = 8 := by
  simp only [own_eq, Bool.and_eq_true, beq_iff_eq] at h
  constructor
  · have := congrArg List.length h.1
    rw [← len_wr p.f_st t v]; exact this
  · have := congrArg List.length h.2.1
    rw [← len_wr p.f_lk t w]; exact this
theorem own_e9 {p : Q} {a b : List Nat} {x y t v u v' w : Int32} (h : own_eq (own_slk (own_sst (own_sst p t v) u v') t w) (own_q a b x y) = true) : p.f_st.length = 8 ∧ p.f_lk.length = 8 := by
  simp only [own_eq, Bool.and_eq_true, beq_iff_eq] at h
  constructor
  · have := congrArg List.length h.1
    rw [← len_wr p.f_st t v, ← len_wr (wr p.f_st t v) u v']; exact this
  · have := congrArg List.length h.2.1
    rw [← len_wr p.f_lk t w]; exact this

def own_hs (q' q : Q) : Bool := (j_holder q' 0 == j_holder q 0) && (j_holder q' 1 == j_holder q 1)
def own_d0 (a b : List Nat) (x y : Int32) (t : Nat) (q' : Q) (l : Int32) (emp : Bool) : Bool := (j_holder q' l == (if emp then some (Int32.ofNat t) else j_holder (own_q a b x y) l)) && ((j_holder q' (1 - l) == j_holder (own_q a b x y) (1 - l)) && ((rd q'.f_st (Int32.ofNat t) == (if emp then 3 else 1)) && (rd q'.f_lk (Int32.ofNat t) == l)))
def own_d3 (a b : List Nat) (x y : Int32) (t : Nat) (q' : Q) (l nx : Int32) (emp : Bool) : Bool := (if emp then nx == -1 else inb 4 nx && (!(nx == Int32.ofNat t) && ((rd q'.f_st nx == 2) && ((rd q'.f_lk nx == l) && (j_ahead q' nx == some 0))))) && ((j_holder q' l == some (-1)) && ((j_holder q' (1 - l) == j_holder (own_q a b x y) (1 - l)) && ((rd q'.f_st (Int32.ofNat t) == 0) && (rd q'.f_lk (Int32.ofNat t) == -1))))
def own_ll (a b a' b' : List Nat) (l : Int32) : Bool := (Int32.ofNat a'.length == (if l = 0 then Int32.ofNat a.length + (-1) else Int32.ofNat a.length)) && (Int32.ofNat b'.length == (if l = 0 then Int32.ofNat b.length else Int32.ofNat b.length + (-1)))
def own_d1 (a b : List Nat) (x y : Int32) (t : Nat) : Bool :=
  if own_st1 a b x y t = 0 then own_d0 a b x y t (own_q (a ++ [t]) b (if a.isEmpty then 3 else x) y) 0 a.isEmpty && own_d0 a b x y t (own_q a (b ++ [t]) x (if b.isEmpty then 3 else y)) 1 b.isEmpty
  else if own_st1 a b x y t = 3 then
    (match j_popFront (own_q a b x y) (own_lk1 a b t) with
     | none => false
     | some r => own_ll a b (if own_lk1 a b t = 0 then a.tail else a) (if own_lk1 a b t = 0 then b else b.tail) (own_lk1 a b t) && own_d3 a b x y t (own_q (if own_lk1 a b t = 0 then a.tail else a) (if own_lk1 a b t = 0 then b else b.tail) (if own_lk1 a b t = 0 then 2 else x) (if own_lk1 a b t = 0 then y else 2)) (own_lk1 a b t) r.1 (if own_lk1 a b t = 0 then a.tail else b.tail).isEmpty)
  else if own_st1 a b x y t = 2 then (j_holder (own_q a b (if own_lk1 a b t = 0 then 3 else x) (if own_lk1 a b t = 0 then y else 3)) (own_lk1 a b t) == some (Int32.ofNat t)) && (j_holder (own_q a b (if own_lk1 a b t = 0 then 3 else x) (if own_lk1 a b t = 0 then y else 3)) (1 - own_lk1 a b t) == j_holder (own_q a b x y) (1 - own_lk1 a b t))
  else own_ll a b (if own_lk1 a b t = 0 then a.erase t else a) (if own_lk1 a b t = 0 then b else b.erase t) (own_lk1 a b t) && own_hs (own_q (if own_lk1 a b t = 0 then a.erase t else a) (if own_lk1 a b t = 0 then b else b.erase t) x y) (own_q a b x y)
set_option maxHeartbeats 0 in
theorem own_en2 : own_ps.all (fun a => own_ps.all (fun b => !(own_dj a b) || ([2, 3].all (fun x => [2, 3].all (fun y => [0, 1, 2, 3].all (own_d1 a b x y)))))) = true := by decide +kernel
theorem own_dd {a b : List Nat} {x y : Int32} (h : own_cf a b x y) {t : Nat} (ht : t < 4) : own_d1 a b x y t = true := by
  obtain ⟨h1, h2, h3, h4, h5⟩ := h
  have k := List.all_eq_true.mp (List.all_eq_true.mp own_en2 a (List.contains_iff_mem.mp h1)) b (List.contains_iff_mem.mp h2)
  rw [h3] at k
  have k2 := List.all_eq_true.mp (show ([2, 3].all (fun x => [2, 3].all (fun y => [0, 1, 2, 3].all (own_d1 a b x y)))) = true from k) x (by rcases h4 with e | e <;> simp [e])
  have k3 := List.all_eq_true.mp k2 y (by rcases h5 with e | e <;> simp [e])
  exact List.all_eq_true.mp k3 t (by match t, ht with | 0, _ => simp | 1, _ => simp | 2, _ => simp | 3, _ => simp)
theorem own_hq {s : Q} {a b : List Nat} {x y : Int32} (J : own_J s a b x y) (m : Int32) : j_holder s m = j_holder (own_q a b x y) m := by
  rw [J.2.1, own_fH]
def own_pk (a b c d : Nat) : Int64 := Int64.ofNat (a + 256 * b + 65536 * c + 16777216 * d)
def own_gv (v : Int64) (t : Int32) : Int32 := Int64.toInt32 ((lus v (8 * t)) &&& 255)
def own_pv' (v : Int64) (t w : Int32) : Int64 := (v &&& ((lsh 255 (8 * t)) ^^^ (-1))) ||| (lsh (Int32.toInt64 w) (8 * t))
set_option maxHeartbeats 0 in
theorem own_g0' : ∀ a b c d : Fin 8, own_gv (own_pk a.val b.val c.val d.val) 0 = Int32.ofNat a.val ∧ own_gv (own_pk a.val b.val c.val d.val) 1 = Int32.ofNat b.val ∧ own_gv (own_pk a.val b.val c.val d.val) 2 = Int32.ofNat c.val ∧ own_gv (own_pk a.val b.val c.val d.val) 3 = Int32.ofNat d.val := by decide +kernel
set_option maxHeartbeats 0 in
theorem own_u0 : ∀ a b c d w : Fin 8, own_pv' (own_pk a.val b.val c.val d.val) 0 (Int32.ofNat w.val) = own_pk w.val b.val c.val d.val := by decide +kernel
set_option maxHeartbeats 0 in
theorem own_u1 : ∀ a b c d w : Fin 8, own_pv' (own_pk a.val b.val c.val d.val) 1 (Int32.ofNat w.val) = own_pk a.val w.val c.val d.val := by decide +kernel
set_option maxHeartbeats 0 in
theorem own_u2 : ∀ a b c d w : Fin 8, own_pv' (own_pk a.val b.val c.val d.val) 2 (Int32.ofNat w.val) = own_pk a.val b.val w.val d.val := by decide +kernel
set_option maxHeartbeats 0 in
theorem own_u3 : ∀ a b c d w : Fin 8, own_pv' (own_pk a.val b.val c.val d.val) 3 (Int32.ofNat w.val) = own_pk a.val b.val c.val w.val := by decide +kernel
def own_PK (T : List Int32) (v : Int64) : Prop := ∃ a b c d : Fin 8, v = own_pk a.val b.val c.val d.val ∧ rd T 0 = Int32.ofNat a.val ∧ rd T 1 = Int32.ofNat b.val ∧ rd T 2 = Int32.ofNat c.val ∧ rd T 3 = Int32.ofNat d.val
theorem own_pkG {T : List Int32} {v : Int64} (h : own_PK T v) {k : Nat} (hk : k < 4) : own_gv v (Int32.ofNat k) = rd T (Int32.ofNat k) := by
  obtain ⟨a, b, c, d, e, h0, h1, h2, h3⟩ := h
  obtain ⟨g0, g1, g2, g3⟩ := own_g0' a b c d
  rw [e]
  match k, hk with
  | 0, _ => exact g0.trans h0.symm
  | 1, _ => exact g1.trans h1.symm
  | 2, _ => exact g2.trans h2.symm
  | 3, _ => exact g3.trans h3.symm
theorem own_pkU {T : List Int32} {v : Int64} (h : own_PK T v) (hT : T.length = 8) {k : Nat} (hk : k < 4) {w : Int32} (w0 : 0 ≤ w.toInt) (w7 : w.toInt ≤ 7) : own_PK (wr T (Int32.ofNat k) w) (own_pv' v (Int32.ofNat k) w) := by
  obtain ⟨a, b, c, d, e, h0, h1, h2, h3⟩ := h
  have ew : w = Int32.ofNat w.toInt.toNat := by
    apply Int32.toInt_inj.mp
    rw [own_n2i (by omega)]; omega
  have hw : w.toInt.toNat < 8 := by omega
  generalize w.toInt.toNat = z at ew hw
  subst ew
  rw [e]
  have n0 : ∀ j : Int32, inb 8 j = true → ∀ i : Int32, inb 8 i = true → ¬ i = j → rd (wr T i (Int32.ofNat z)) j = rd T j := fun j hj i hi ne => rd_wr_ne (inb_nn hi) (inb_nn hj) ne _
  have s0 : ∀ i : Int32, inb 8 i = true → rd (wr T i (Int32.ofNat z)) i = Int32.ofNat z := fun i hi => rd_wr_same (by rw [hT]; exact hi) _
  match k, hk with
  | 0, _ => exact ⟨⟨z, hw⟩, b, c, d, own_u0 a b c d ⟨z, hw⟩, s0 0 rfl, (n0 1 rfl 0 rfl (by decide)).trans h1, (n0 2 rfl 0 rfl (by decide)).trans h2, (n0 3 rfl 0 rfl (by decide)).trans h3⟩
  | 1, _ => exact ⟨a, ⟨z, hw⟩, c, d, own_u1 a b c d ⟨z, hw⟩, (n0 0 rfl 1 rfl (by decide)).trans h0, s0 1 rfl, (n0 2 rfl 1 rfl (by decide)).trans h2, (n0 3 rfl 1 rfl (by decide)).trans h3⟩
  | 2, _ => exact ⟨a, b, ⟨z, hw⟩, d, own_u2 a b c d ⟨z, hw⟩, (n0 0 rfl 2 rfl (by decide)).trans h0, (n0 1 rfl 2 rfl (by decide)).trans h1, s0 2 rfl, (n0 3 rfl 2 rfl (by decide)).trans h3⟩
  | 3, _ => exact ⟨a, b, c, ⟨z, hw⟩, own_u3 a b c d ⟨z, hw⟩, (n0 0 rfl 3 rfl (by decide)).trans h0, (n0 1 rfl 3 rfl (by decide)).trans h1, (n0 2 rfl 3 rfl (by decide)).trans h2, s0 3 rfl⟩
def own_LG (G : List Int32) (m e l : Int32) : Prop := 1 ≤ e.toInt → e.toInt ≤ 64 → rd G (m * 64 + (e - 1)) = l
theorem own_e1 {e : Int32} (h1 : 1 ≤ e.toInt) (h2 : e.toInt ≤ 64) : (e - 1).toInt = e.toInt - 1 ∧ inb 64 (e - 1) = true := by
  have k : (e - 1).toInt = e.toInt - 1 := by rw [own_sub] <;> simp only [Int32.reduceToInt] <;> omega
  exact ⟨k, inb_iff.mpr (by omega)⟩
theorem own_LGs {s : Q} {t l e : Int32} (hl : l = 0 ∨ l = 1) (hL : s.f_log.length = 128) (he : rd s.f_ent l = e) (h0 : 0 ≤ e.toInt) (h1 : e.toInt ≤ 1000) : own_LG (own_lg s t l) l (e + 1) t := by
  have ee : (e + 1).toInt = e.toInt + 1 := by rw [own_add] <;> simp only [Int32.reduceToInt] <;> omega
  intro a1 a2
  have i6 : inb 64 e = true := inb_iff.mpr (by omega)
  unfold own_lg
  rw [he, if_pos (by simp only [lt32, Int32.reduceToInt]; omega)]
  have : e + 1 - 1 = e := by
    apply Int32.toInt_inj.mp
    rw [(own_e1 a1 a2).1]; omega
  rw [this]
  exact rd_wr_same (by rw [hL]; exact (own_ix hl i6).2) t
theorem own_LGo {s : Q} {t l m e' v : Int32} (hl : l = 0 ∨ l = 1) (hm : m = 0 ∨ m = 1) (ne : ¬ m = l) (h0 : 0 ≤ (rd s.f_ent l).toInt) (h : own_LG s.f_log m e' v) : own_LG (own_lg s t l) m e' v := by
  intro a1 a2
  unfold own_lg
  split
  · rename_i c
    simp only [lt32, Int32.reduceToInt] at c
    have i6 : inb 64 (rd s.f_ent l) = true := inb_iff.mpr (by omega)
    obtain ⟨x1, x2⟩ := own_ix hl i6
    obtain ⟨y1, y2⟩ := own_ix hm (own_e1 a1 a2).2
    rw [rd_wr_ne (inb_nn x2) (inb_nn y2)]
    · exact h a1 a2
    · intro q
      have q' := congrArg Int32.toInt q
      rw [x1, y1] at q'
      have b1 := inb_iff.mp i6
      have b2 := inb_iff.mp (own_e1 a1 a2).2
      apply ne
      apply Int32.toInt_inj.mp
      omega
  · exact h a1 a2
def own_V (B : Int) (s : Q) (v2 v3 v4 v5 v6 v7 v8 v9 v10 v11 v12 : Int32) (v13 : Int64) : Prop := ∃ a b x y, own_J s a b x y ∧ (s.f_clk = v2 ∧ 0 ≤ v2.toInt ∧ v2.toInt ≤ B) ∧ (rd s.f_ent 0 = v3 ∧ 0 ≤ v3.toInt ∧ v3.toInt ≤ B) ∧ (rd s.f_ent 1 = v4 ∧ 0 ≤ v4.toInt ∧ v4.toInt ≤ B) ∧ (rd s.f_aband 0 = v5 ∧ rd s.f_aband 1 = v6) ∧ (Int32.ofNat a.length = v7 ∧ Int32.ofNat b.length = v8) ∧ (j_holder s 0 = some v9 ∧ j_holder s 1 = some v10) ∧ (own_LG s.f_log 0 v3 v11 ∧ own_LG s.f_log 1 v4 v12) ∧ own_PK s.f_tmo v13 ∧ (1 ≤ v2.toInt → v2.toInt ≤ 256 → rd s.f_hist (0 * 256 + v2 - 1) = v9 ∧ rd s.f_hist (1 * 256 + v2 - 1) = v10)
def own_last (r : Q ⊕ (Q ⊕ (Q ⊕ (Q ⊕ (Q ⊕ (Q ⊕ (Q ⊕ (Q ⊕ (Q ⊕ (Q ⊕ (Q ⊕ (Q ⊕ (Q ⊕ (Q ⊕ (Q ⊕ (Q ⊕ (Q ⊕ Q))))))))))))))))) : Prop := ∃ q, r = .inr (.inr (.inr (.inr (.inr (.inr (.inr (.inr (.inr (.inr (.inr (.inr (.inr (.inr (.inr (.inr (.inr q))))))))))))))))
theorem own_Vmk {B : Int} {s r : Q} {a' b' : List Nat} {x' y' v2 v3 v4 v5 v6 v7 v8 v9 v10 v11 v12 : Int32} {v13 : Int64} {E A G T P : List Int32} (J : own_J r a' b' x' y') (Y : own_Y s r E A G T P) (hc : s.f_clk = v2) (c0 : 0 ≤ v2.toInt) (c1 : v2.toInt ≤ B) (hB : B ≤ 1000) (e3 : rd E 0 = v3 ∧ 0 ≤ v3.toInt ∧ v3.toInt ≤ B + 1) (e4 : rd E 1 = v4 ∧ 0 ≤ v4.toInt ∧ v4.toInt ≤ B + 1) (e5 : rd A 0 = v5) (e6 : rd A 1 = v6) (e7 : Int32.ofNat a'.length = v7) (e8 : Int32.ofNat b'.length = v8) (e9 : j_holder r 0 = some v9) (e10 : j_holder r 1 = some v10) (e11 : own_LG G 0 v3 v11) (e12 : own_LG G 1 v4 v12) (e13 : own_PK T v13) : own_V (B + 1) r (v2 + 1) v3 v4 v5 v6 v7 v8 v9 v10 v11 v12 v13 := by
  obtain ⟨y1, y2, y3, y4, y5, y6, y7⟩ := Y
  have ec : (v2 + 1).toInt = v2.toInt + 1 := by rw [own_add] <;> simp only [Int32.reduceToInt] <;> omega
  have k : r.f_clk = v2 + 1 := by rw [y1, hc]
  refine ⟨a', b', x', y', J, ⟨k, by omega, by omega⟩, by rw [y2]; exact e3, by rw [y2]; exact e4, ⟨by rw [y3]; exact e5, by rw [y3]; exact e6⟩, ⟨e7, e8⟩, ⟨e9, e10⟩, ⟨by rw [y4]; exact e11, by rw [y4]; exact e12⟩, by rw [y5]; exact e13, ?_⟩
  intro _ q
  have z0 := y7 (by rw [k]; exact q) 0 (Or.inl rfl)
  have z1 := y7 (by rw [k]; exact q) 1 (Or.inr rfl)
  rw [e9, k] at z0
  rw [e10, k] at z1
  exact ⟨(Option.some.inj z0).symm, (Option.some.inj z1).symm⟩
theorem own_659 {B : Int} {n : Nat} {scr : List Int32} {s : Q} {v2 v3 v4 v5 v6 v7 v8 v9 v10 v11 v12 v15 : Int32} {v13 : Int64} (V : own_V B s v2 v3 v4 v5 v6 v7 v8 v9 v10 v11 v12 v13) (ih : own_ok (law_l46 n s scr v2 v3 v4 v5 v6 v7 v8 v9 v10 v11 v12 v13 (v15 + 4)) own_last) : own_ok (law_b659 (law_l46 n) s scr v2 v3 v4 v5 v6 v7 v8 v9 v10 v11 v12 v13 v15) own_last := by
  obtain ⟨a, b, x, y, J, ⟨k2, b2, c2⟩, ⟨k3, b3, c3⟩, ⟨k4, b4, c4⟩, ⟨k5, k6⟩, ⟨k7, k8⟩, ⟨k9, k10⟩, ⟨k11, k12⟩, k13, kh⟩ := V
  have o0 : (0 : Int32) = 0 ∨ (0 : Int32) = 1 := Or.inl rfl
  have o1 : (1 : Int32) = 0 ∨ (1 : Int32) = 1 := Or.inr rfl
  have b816 : own_ok (law_b816 (law_l46 n) s scr v2 v3 v4 v5 v6 v7 v8 v9 v10 v11 v12 v13 v15) own_last := by
    unfold law_b816 law_b845
    by_cases p : v4 < 1
    · rw [if_pos p]; exact ih
    · rw [if_neg p]
      by_cases q : 64 < v4
      · rw [if_pos q]; exact ih
      · rw [if_neg q]
        simp only [lt32, Int32.reduceToInt] at p q
        obtain ⟨d1, d2⟩ := own_e1 (e := v4) (by omega) (by omega)
        rw [own_ea J o1 d2, k4, if_pos (by rw [lt32, d1]; omega), Option.bind_some, k12 (by omega) (by omega), if_pos rfl]
        exact ih
  have b790 : own_ok (law_b790 (law_l46 n) s scr v2 v3 v4 v5 v6 v7 v8 v9 v10 v11 v12 v13 v15) own_last := by
    unfold law_b790
    by_cases p : v3 < 1
    · rw [if_pos p]; exact b816
    · rw [if_neg p]
      by_cases q : 64 < v3
      · rw [if_pos q]; exact b816
      · rw [if_neg q]
        simp only [lt32, Int32.reduceToInt] at p q
        obtain ⟨d1, d2⟩ := own_e1 (e := v3) (by omega) (by omega)
        rw [own_ea J o0 d2, k3, if_pos (by rw [lt32, d1]; omega), Option.bind_some, k11 (by omega) (by omega), if_pos rfl]
        exact b816
  have f7 : rd s.f_len 0 = v7 := by rw [(own_sf J).2.2.2.2.2.2]; exact k7
  have f8 : rd s.f_len 1 = v8 := by rw [(own_sf J).2.2.2.2.2.2]; exact k8
  unfold law_b659
  rw [if_pos (show j_clock s = v2 from k2), own_et J o0, own_et J o1, own_ab J o0, own_ab J o1, own_ql J o0, own_ql J o1, k9, k10, k3, k4, k5, k6, f7, f8]
  simp only [Option.bind_some, ↓reduceIte]
  by_cases p : v2 < 1
  · rw [if_pos p]; exact b790
  · rw [if_neg p]
    by_cases q : 256 < v2
    · rw [if_pos q]; exact b790
    · rw [if_neg q]
      simp only [lt32, Int32.reduceToInt] at p q
      obtain ⟨z0, z1⟩ := kh (by omega) (by omega)
      rw [own_ha J o0 (by omega) (by omega) (by rw [k2]; exact Int.le_refl _), own_ha J o1 (by omega) (by omega) (by rw [k2]; exact Int.le_refl _), z0, z1]
      simp only [Option.bind_some, ↓reduceIte]
      exact b790
theorem own_Vup {B : Int} {s : Q} {v2 v3 v4 v5 v6 v7 v8 v9 v10 v11 v12 : Int32} {v13 : Int64} (V : own_V B s v2 v3 v4 v5 v6 v7 v8 v9 v10 v11 v12 v13) : own_V (B + 1) s v2 v3 v4 v5 v6 v7 v8 v9 v10 v11 v12 v13 := by
  obtain ⟨a, b, x, y, J, ⟨k2, b2, c2⟩, ⟨k3, b3, c3⟩, ⟨k4, b4, c4⟩, r⟩ := V
  exact ⟨a, b, x, y, J, ⟨k2, b2, by omega⟩, ⟨k3, b3, by omega⟩, ⟨k4, b4, by omega⟩, r⟩
theorem own_Vle {B B' : Int} {s : Q} {v2 v3 v4 v5 v6 v7 v8 v9 v10 v11 v12 : Int32} {v13 : Int64} (hB : B ≤ B') (V : own_V B s v2 v3 v4 v5 v6 v7 v8 v9 v10 v11 v12 v13) : own_V B' s v2 v3 v4 v5 v6 v7 v8 v9 v10 v11 v12 v13 := by
  obtain ⟨a, b, x, y, J, ⟨k2, b2, c2⟩, ⟨k3, b3, c3⟩, ⟨k4, b4, c4⟩, r⟩ := V
  exact ⟨a, b, x, y, J, ⟨k2, b2, by omega⟩, ⟨k3, b3, by omega⟩, ⟨k4, b4, by omega⟩, r⟩
theorem own_cw {w : Int32} (h0 : 0 ≤ w.toInt) (h7 : w.toInt ≤ 7) : j_clampTimeout w = w := by
  unfold j_clampTimeout
  rw [if_neg (by simp only [lt32, Int32.reduceToInt]; omega), if_neg (by simp only [lt32, Int32.reduceToInt]; omega)]
theorem own_aA {s : Q} {a b : List Nat} {x y w : Int32} (J : own_J s a b x y) (c0 : 0 ≤ s.f_clk.toInt) (c1 : s.f_clk.toInt ≤ 1000) {k : Nat} (hk : k < 4) (z : own_st1 a b x y k = 0) (h0 : 0 ≤ (rd s.f_ent 0).toInt) : own_ok (j_acquire s (Int32.ofNat k) 0 w) (fun p => p.1 = (if rd (own_q a b x y).f_len 0 = 0 then 3 else 1) ∧ own_J p.2 (a ++ [k]) b (if a.isEmpty then 3 else x) y ∧ own_Y s p.2 (if rd (own_q a b x y).f_len 0 = 0 then wr s.f_ent 0 (rd s.f_ent 0 + 1) else s.f_ent) s.f_aband (if rd (own_q a b x y).f_len 0 = 0 then own_lg s (Int32.ofNat k) 0 else s.f_log) (wr s.f_tmo (Int32.ofNat k) (j_clampTimeout w)) (wr s.f_spin (Int32.ofNat k) 0)) := by
  have i : inb 4 (Int32.ofNat k) = true := own_inbN hk (by decide)
  have c := own_cc1 J.1 hk
  simp only [own_c1, z, ↓reduceIte, Bool.and_eq_true, beq_iff_eq] at c
  obtain ⟨-, lk1, c⟩ := c
  simp only [own_cA, Bool.and_eq_true] at c
  obtain ⟨cA, cB⟩ := c
  have zq : rd (own_q a b x y).f_st (Int32.ofNat k) = 0 := by rw [own_qst a b x y hk]; exact z
  cases e : j_append (own_slk (own_q a b x y) (Int32.ofNat k) 0) (Int32.ofNat k) 0 with
  | none => rw [e] at cA; cases cA
  | some r =>
    rw [e] at cA
    obtain ⟨n1, n2, n3⟩ := own_new1 (own_r23 (Or.inr rfl) J.1.2.2.2.1) J.1.2.2.2.2 cA
    have hv : (if a.isEmpty = true then (3 : Int32) else 1) = if rd (own_q a b x y).f_len 0 = 0 then 3 else 1 := by
      have := own_ln J.1.1
      rw [show rd (own_q a b x y).f_len 0 = Int32.ofNat a.length from rfl]
      by_cases q : a.isEmpty = true
      · rw [if_pos q, if_pos (this.mpr q)]
      · rw [if_neg q, if_neg (fun p => q (this.mp p))]
    refine own_mono (own_acq8 J c0 c1 i (Or.inl rfl) zq e hv n1 n2 h0) ?_
    rintro p ⟨p1, p2⟩
    exact ⟨p1.trans hv, p2⟩
theorem own_aB {s : Q} {a b : List Nat} {x y w : Int32} (J : own_J s a b x y) (c0 : 0 ≤ s.f_clk.toInt) (c1 : s.f_clk.toInt ≤ 1000) {k : Nat} (hk : k < 4) (z : own_st1 a b x y k = 0) (h0 : 0 ≤ (rd s.f_ent 1).toInt) : own_ok (j_acquire s (Int32.ofNat k) 1 w) (fun p => p.1 = (if rd (own_q a b x y).f_len 1 = 0 then 3 else 1) ∧ own_J p.2 a (b ++ [k]) x (if b.isEmpty then 3 else y) ∧ own_Y s p.2 (if rd (own_q a b x y).f_len 1 = 0 then wr s.f_ent 1 (rd s.f_ent 1 + 1) else s.f_ent) s.f_aband (if rd (own_q a b x y).f_len 1 = 0 then own_lg s (Int32.ofNat k) 1 else s.f_log) (wr s.f_tmo (Int32.ofNat k) (j_clampTimeout w)) (wr s.f_spin (Int32.ofNat k) 0)) := by
  have i : inb 4 (Int32.ofNat k) = true := own_inbN hk (by decide)
  have c := own_cc1 J.1 hk
  simp only [own_c1, z, ↓reduceIte, Bool.and_eq_true, beq_iff_eq] at c
  obtain ⟨-, lk1, c⟩ := c
  simp only [own_cA, Bool.and_eq_true] at c
  obtain ⟨cA, cB⟩ := c
  have zq : rd (own_q a b x y).f_st (Int32.ofNat k) = 0 := by rw [own_qst a b x y hk]; exact z
  cases e : j_append (own_slk (own_q a b x y) (Int32.ofNat k) 1) (Int32.ofNat k) 1 with
  | none => rw [e] at cB; cases cB
  | some r =>
    rw [e] at cB
    obtain ⟨n1, n2, n3⟩ := own_new1 J.1.2.2.2.1 (own_r23 (Or.inr rfl) J.1.2.2.2.2) cB
    have hv : (if b.isEmpty = true then (3 : Int32) else 1) = if rd (own_q a b x y).f_len 1 = 0 then 3 else 1 := by
      have := own_ln J.1.2.1
      rw [show rd (own_q a b x y).f_len 1 = Int32.ofNat b.length from rfl]
      by_cases q : b.isEmpty = true
      · rw [if_pos q, if_pos (this.mpr q)]
      · rw [if_neg q, if_neg (fun p => q (this.mp p))]
    refine own_mono (own_acq8 J c0 c1 i (Or.inr rfl) zq e hv n1 n2 h0) ?_
    rintro p ⟨p1, p2⟩
    exact ⟨p1.trans hv, p2⟩
theorem own_w01 {E : List Int32} {v : Int32} (h : E.length = 2) : rd (wr E 0 v) 0 = v ∧ rd (wr E 0 v) 1 = rd E 1 ∧ rd (wr E 1 v) 1 = v ∧ rd (wr E 1 v) 0 = rd E 0 :=
  ⟨rd_wr_same (by rw [h]; rfl) v, rd_wr_ne (by decide) (by decide) (by decide) v, rd_wr_same (by rw [h]; rfl) v, rd_wr_ne (by decide) (by decide) (by decide) v⟩
theorem own_len1 (a : List Nat) (k : Nat) : Int32.ofNat (a ++ [k]).length = Int32.ofNat a.length + 1 := by
  rw [List.length_append]; exact Int32.ofNat_add _ _
theorem own_ACQ {B : Int} {n : Nat} {scr : List Int32} {s : Q} {v2 v3 v4 v5 v6 v7 v8 v9 v10 v11 v12 v15 t l w st lt sp ok : Int32} {v13 : Int64} (V : own_V B s v2 v3 v4 v5 v6 v7 v8 v9 v10 v11 v12 v13) (hB : B ≤ 900) (ih : ∀ (r : Q) (v2 v3 v4 v5 v6 v7 v8 v9 v10 v11 v12 : Int32) (v13 : Int64), own_V (B + 1) r v2 v3 v4 v5 v6 v7 v8 v9 v10 v11 v12 v13 → own_ok (law_b659 (law_l46 n) r scr v2 v3 v4 v5 v6 v7 v8 v9 v10 v11 v12 v13 v15) own_last) (t0 : 0 ≤ t.toInt) (l0 : 0 ≤ l.toInt) (w0 : 0 ≤ w.toInt) (w7 : w.toInt ≤ 7) (est : j_state s t = some st) : own_ok (law_b142 (law_l46 n) s scr v2 v3 v4 v5 v6 v7 v8 v9 v10 v11 v12 v13 v15 0 t l w st lt sp ok) own_last := by
  have V0 := V
  have up := ih s _ _ _ _ _ _ _ _ _ _ _ _ (own_Vup V)
  obtain ⟨a, b, x, y, J, ⟨k2, b2, c2⟩, ⟨k3, b3, c3⟩, ⟨k4, b4, c4⟩, ⟨k5, k6⟩, ⟨k7, k8⟩, ⟨k9, k10⟩, ⟨k11, k12⟩, k13, kh⟩ := V
  have ref : own_ok (law_b178 (law_l46 n) s scr v2 v3 v4 v5 v6 v7 v8 v9 v10 v11 v12 v13 v15 (-2)) own_last := by
    unfold law_b178 law_b328
    rw [if_pos rfl]; exact up
  unfold law_b142
  rw [if_pos rfl]
  by_cases t4 : t.toInt < 4
  · have i : inb 4 t = true := inb_iff.mpr (by omega)
    obtain ⟨k, hk, et⟩ := own_tN t0 t4
    have est' : st = rd s.f_st t := by rw [own_sta J i] at est; exact (Option.some.inj est).symm
    have sq : rd s.f_st t = own_st1 a b x y k := by rw [(own_sf J).1, et, own_qst a b x y hk]
    have nt : ¬ 3 < t := by simp only [lt32, Int32.reduceToInt]; omega
    by_cases hl : l = 0 ∨ l = 1
    · have nl : ¬ 1 < l := by rcases hl with e | e <;> rw [e] <;> decide
      by_cases z : own_st1 a b x y k = 0
      · have z' : st = 0 := by rw [est', sq, z]
        have dd := own_dd J.1 hk
        simp only [own_d1, z, ↓reduceIte, Bool.and_eq_true] at dd
        have cl0 : 0 ≤ s.f_clk.toInt := by rw [k2]; exact b2
        have cl1 : s.f_clk.toInt ≤ 1000 := by rw [k2]; omega
        have hE := J.2.2.1.2.2.1
        have hT := J.2.2.1.1
        have hS := J.2.2.1.2.1
        have hG := J.2.2.1.2.2.2.2.1
        subst et
        rcases hl with rfl | rfl
        · refine own_bind (own_aA J cl0 cl1 hk z (by rw [k3]; exact b3)) ?_
          rintro p ⟨p1, J', Y⟩
          rw [if_neg nt, if_neg nl, if_pos z']
          have d := dd.1
          simp only [own_d0, Bool.and_eq_true, beq_iff_eq] at d
          obtain ⟨d1, d2, d3, d4⟩ := d
          rw [← own_hq J'] at d1 d2
          rw [← own_hq J] at d2
          have st' : rd p.2.f_st (Int32.ofNat k) = if a.isEmpty = true then 3 else 1 := by rw [(own_sf J').1]; exact d3
          have lk' : rd p.2.f_lk (Int32.ofNat k) = 0 := by rw [(own_sf J').2.1]; exact d4
          have sp' : rd p.2.f_spin (Int32.ofNat k) = 0 := by rw [Y.2.2.2.2.2.1]; exact rd_wr_same (by rw [hS]; exact own_48 i) 0
          have e7 : rd (own_q a b x y).f_len 0 = v7 := k7
          have PK := own_pkU k13 hT hk w0 w7
          rw [e7] at p1 Y
          rw [own_cw w0 w7] at Y
          unfold law_b230 law_b244 law_b295 law_b328
          rw [if_pos rfl, if_pos p1, own_spi J' i, sp', Option.bind_some, if_pos rfl, own_lo J' i, lk', Option.bind_some, if_pos rfl, own_sta J' i, Option.bind_some]
          have hemp : v7 = 0 ↔ a.isEmpty = true := by rw [← k7]; exact own_ln J.1.1
          rw [if_pos (by rw [st', p1]; by_cases q : v7 = 0 <;> simp only [q, hemp.mp, if_true, if_pos, if_neg, ↓reduceIte] <;> first | rfl | (rw [if_neg (fun h => q (hemp.mpr h))]))]
          simp only [↓reduceIte]
          apply ih
          have hd1 : j_holder p.2 1 = some v10 := by
            have := d2
            rw [show (1 : Int32) - 0 = 1 from rfl, k10] at this
            exact this
          by_cases q : v7 = 0
          · have q' := hemp.mp q
            rw [if_pos q'] at d1
            simp only [q, ↓reduceIte] at Y ⊢
            have W := own_w01 (v := rd s.f_ent 0 + 1) hE
            have e1 : (v3 + 1).toInt = v3.toInt + 1 := by rw [own_add] <;> simp only [Int32.reduceToInt] <;> omega
            refine own_Vmk J' Y k2 b2 c2 (by omega) ⟨by rw [W.1, k3], by omega, by omega⟩ ⟨by rw [W.2.1, k4], by omega, by omega⟩ k5 k6 ?_ k8 d1 hd1 ?_ ?_ PK
            · rw [own_len1, k7, q]
            · exact own_LGs (Or.inl rfl) hG k3 b3 (by omega)
            · exact own_LGo (Or.inl rfl) (Or.inr rfl) (by decide) (by rw [k3]; exact b3) k12
          · have q' : ¬ a.isEmpty = true := fun h => q (hemp.mpr h)
            rw [if_neg q', ← own_hq J, k9] at d1
            simp only [q, ↓reduceIte] at Y ⊢
            refine own_Vmk J' Y k2 b2 c2 (by omega) ⟨k3, by omega, by omega⟩ ⟨k4, by omega, by omega⟩ k5 k6 ?_ k8 d1 hd1 k11 k12 PK
            rw [own_len1, k7]
        · refine own_bind (own_aB J cl0 cl1 hk z (by rw [k4]; exact b4)) ?_
          rintro p ⟨p1, J', Y⟩
          rw [if_neg nt, if_neg nl, if_pos z']
          have d := dd.2
          simp only [own_d0, Bool.and_eq_true, beq_iff_eq] at d
          obtain ⟨d1, d2, d3, d4⟩ := d
          rw [← own_hq J'] at d1 d2
          rw [← own_hq J] at d2
          have st' : rd p.2.f_st (Int32.ofNat k) = if b.isEmpty = true then 3 else 1 := by rw [(own_sf J').1]; exact d3
          have lk' : rd p.2.f_lk (Int32.ofNat k) = 1 := by rw [(own_sf J').2.1]; exact d4
          have sp' : rd p.2.f_spin (Int32.ofNat k) = 0 := by rw [Y.2.2.2.2.2.1]; exact rd_wr_same (by rw [hS]; exact own_48 i) 0
          have e7 : rd (own_q a b x y).f_len 1 = v8 := k8
          have PK := own_pkU k13 hT hk w0 w7
          rw [e7] at p1 Y
          rw [own_cw w0 w7] at Y
          unfold law_b230 law_b244 law_b295 law_b328
          rw [if_neg (show ¬ (1 : Int32) = 0 by decide), if_pos p1, own_spi J' i, sp', Option.bind_some, if_pos rfl, own_lo J' i, lk', Option.bind_some, if_pos rfl, own_sta J' i, Option.bind_some]
          have hemp : v8 = 0 ↔ b.isEmpty = true := by rw [← k8]; exact own_ln J.1.2.1
          rw [if_pos (by rw [st', p1]; by_cases q : v8 = 0 <;> simp only [q, hemp.mp, if_true, if_pos, if_neg, ↓reduceIte] <;> first | rfl | (rw [if_neg (fun h => q (hemp.mpr h))]))]
          simp only [↓reduceIte, own_10]
          apply ih
          have hd1 : j_holder p.2 0 = some v9 := by
            have := d2
            rw [show (1 : Int32) - 1 = 0 from rfl, k9] at this
            exact this
          by_cases q : v8 = 0
          · have q' := hemp.mp q
            rw [if_pos q'] at d1
            simp only [q, ↓reduceIte] at Y ⊢
            have W := own_w01 (v := rd s.f_ent 1 + 1) hE
            have e1 : (v4 + 1).toInt = v4.toInt + 1 := by rw [own_add] <;> simp only [Int32.reduceToInt] <;> omega
            refine own_Vmk J' Y k2 b2 c2 (by omega) ⟨by rw [W.2.2.2, k3], by omega, by omega⟩ ⟨by rw [W.2.2.1, k4], by omega, by omega⟩ k5 k6 k7 ?_ hd1 d1 ?_ ?_ PK
            · rw [own_len1, k8, q]
            · exact own_LGo (Or.inr rfl) (Or.inl rfl) (by decide) (by rw [k4]; exact b4) k11
            · exact own_LGs (Or.inr rfl) hG k4 b4 (by omega)
          · have q' : ¬ b.isEmpty = true := fun h => q (hemp.mpr h)
            rw [if_neg q', ← own_hq J, k10] at d1
            simp only [q, ↓reduceIte] at Y ⊢
            refine own_Vmk J' Y k2 b2 c2 (by omega) ⟨k3, by omega, by omega⟩ ⟨k4, by omega, by omega⟩ k5 k6 k7 ?_ hd1 d1 k11 k12 PK
            rw [own_len1, k8]
      · have z' : ¬ st = 0 := by rw [est', sq]; exact z
        have e : j_acquire s t l w = some (-2, s) := by
          have k1 : s.f_st.length = 8 := by rw [(own_sf J).1]; rfl
          unfold j_acquire
          rw [own_vt J.2.2.2 i, if_neg (by decide), own_vl hl, if_neg (by decide), k1, if_pos (own_48 i), if_neg (by rw [sq]; exact z)]
        rw [e, Option.bind_some, if_neg nt, if_neg nl, if_neg z']
        exact ref
    · have e : j_acquire s t l w = some (-2, s) := by
        have : j_validLock l = 0 := by
          unfold j_validLock
          rw [if_neg (fun e => hl (Or.inl e)), if_neg (fun e => hl (Or.inr e))]
        unfold j_acquire
        rw [own_vt J.2.2.2 i, if_neg (by decide), this, if_pos rfl]
      have nl : 1 < l := by
        simp only [lt32, Int32.reduceToInt]
        have h1 : ¬ l.toInt = 0 := fun q => hl (Or.inl (Int32.toInt_inj.mp (by rw [q]; rfl)))
        have h2 : ¬ l.toInt = 1 := fun q => hl (Or.inr (Int32.toInt_inj.mp (by rw [q]; rfl)))
        omega
      rw [e, Option.bind_some, if_neg nt, if_pos nl]
      exact ref
  · have e : j_acquire s t l w = some (-2, s) := by
      unfold j_acquire
      rw [own_vt0 J.2.2.2 t4, if_pos rfl]
    rw [e, Option.bind_some, if_pos (by simp only [lt32, Int32.reduceToInt]; omega)]
    exact ref
theorem own_wo {E : List Int32} {m l v : Int32} (hl : l = 0 ∨ l = 1) (hm : m = 0 ∨ m = 1) (ne : ¬ l = m) : rd (wr E l v) m = rd E m := rd_wr_ne (inb_nn (own_b2 hl)) (inb_nn (own_b2 hm)) ne v
theorem own_m0 (l : Int32) : (1 : Int32) - 0 = 1 ∧ (1 : Int32) - 1 = 0 := ⟨rfl, rfl⟩
theorem own_REL {B : Int} {n : Nat} {scr : List Int32} {s : Q} {v2 v3 v4 v5 v6 v7 v8 v9 v10 v11 v12 v15 t l w st lt sp ok : Int32} {v13 : Int64} (V : own_V B s v2 v3 v4 v5 v6 v7 v8 v9 v10 v11 v12 v13) (hB : B ≤ 900) (ih : ∀ (r : Q) (v2 v3 v4 v5 v6 v7 v8 v9 v10 v11 v12 : Int32) (v13 : Int64), own_V (B + 1) r v2 v3 v4 v5 v6 v7 v8 v9 v10 v11 v12 v13 → own_ok (law_b659 (law_l46 n) r scr v2 v3 v4 v5 v6 v7 v8 v9 v10 v11 v12 v13 v15) own_last) (t0 : 0 ≤ t.toInt) (est : j_state s t = some st) (elt : j_lockOf s t = some lt) : own_ok (law_b142 (law_l46 n) s scr v2 v3 v4 v5 v6 v7 v8 v9 v10 v11 v12 v13 v15 2 t l w st lt sp ok) own_last := by
  have up := ih s _ _ _ _ _ _ _ _ _ _ _ _ (own_Vup V)
  obtain ⟨a, b, x, y, J, ⟨k2, b2, c2⟩, ⟨k3, b3, c3⟩, ⟨k4, b4, c4⟩, ⟨k5, k6⟩, ⟨k7, k8⟩, ⟨k9, k10⟩, ⟨k11, k12⟩, k13, kh⟩ := V
  have ref : own_ok (law_b357 (law_l46 n) s scr v2 v3 v4 v5 v6 v7 v8 v9 v10 v11 v12 v13 v15 (-2)) own_last := by
    unfold law_b357 law_b481
    rw [if_pos rfl]; exact up
  unfold law_b142
  rw [if_neg (by decide), if_pos rfl]
  by_cases t4 : t.toInt < 4
  · have i : inb 4 t = true := inb_iff.mpr (by omega)
    obtain ⟨k, hk, et⟩ := own_tN t0 t4
    have est' : st = rd s.f_st t := by rw [own_sta J i] at est; exact (Option.some.inj est).symm
    have elt' : lt = rd s.f_lk t := by rw [own_lo J i] at elt; exact (Option.some.inj elt).symm
    have sq : rd s.f_st t = own_st1 a b x y k := by rw [(own_sf J).1, et, own_qst a b x y hk]
    have lq : rd s.f_lk t = own_lk1 a b k := by rw [(own_sf J).2.1, et, own_qlk a b x y hk]
    have nt : ¬ 3 < t := by simp only [lt32, Int32.reduceToInt]; omega
    by_cases z : own_st1 a b x y k = 3
    · have z' : st = 3 := by rw [est', sq, z]
      have z0 : ¬ own_st1 a b x y k = 0 := by rw [z]; decide
      have c := own_cc1 J.1 hk
      simp only [own_c1, if_neg z0, if_pos z, Bool.and_eq_true, Bool.or_eq_true, beq_iff_eq] at c
      obtain ⟨-, hl, c⟩ := c
      have dd := own_dd J.1 hk
      simp only [own_d1, if_neg z0, if_pos z] at dd
      have ell : own_lk1 a b k = lt := by rw [elt', lq]
      rw [ell] at hl c dd
      have cl0 : 0 ≤ s.f_clk.toInt := by rw [k2]; exact b2
      have cl1 : s.f_clk.toInt ≤ 1000 := by rw [k2]; omega
      have zq : rd (own_q a b x y).f_st t = 3 := by rw [et, own_qst a b x y hk]; exact z
      have lqq : rd (own_q a b x y).f_lk t = lt := by rw [et, own_qlk a b x y hk]; exact ell
      unfold own_cR at c
      cases e : j_popFront (own_q a b x y) lt with
      | none => rw [e] at c; cases c
      | some r =>
        rw [e] at c dd
        simp only [Bool.and_eq_true, Bool.or_eq_true, beq_iff_eq] at c dd
        obtain ⟨c, hx⟩ := c
        obtain ⟨dl, d3⟩ := dd
        obtain ⟨n1, n2, n3⟩ := own_new1 (own_r23 (Or.inl rfl) J.1.2.2.2.1) (own_r23 J.1.2.2.2.2 (Or.inl rfl)) c
        rw [← et] at n1
        have r89 : r.2.f_st.length = 8 ∧ r.2.f_lk.length = 8 := by
          by_cases q : j_inNodes r.1 = 0
          · rw [if_pos q] at n1; exact own_e8 n1
          · rw [if_neg q] at n1; exact own_e9 n1
        have hx' : j_inNodes r.1 = 0 ∨ inb 8 r.1 = true := by
          rcases hx with q | q
          · left; rw [q]; rfl
          · right; exact q
        refine own_bind (own_rel8 (nx := r.1) (r := r.2) J cl0 cl1 i zq lqq e hx' r89.1 r89.2 n1 n2) ?_
        rintro p ⟨p1, J', Y⟩
        rw [if_neg nt, if_pos z']
        simp only [own_ll, Bool.and_eq_true, beq_iff_eq] at dl
        simp only [own_d3, Bool.and_eq_true, beq_iff_eq] at d3
        obtain ⟨m1, m2, m3, m4, m5⟩ := d3
        rw [← own_hq J'] at m2 m3
        rw [← own_hq J] at m3
        have st' : rd p.2.f_st t = 0 := by rw [(own_sf J').1, et]; exact m4
        have lk' : rd p.2.f_lk t = -1 := by rw [(own_sf J').2.1, et]; exact m5
        have fin : own_ok (law_b460 (law_l46 n) p.2 scr (v2 + 1) v3 v4 v5 v6 (if lt = 0 then v7 + -1 else v7) (if lt = 0 then v8 else v8 + -1) (if lt = 0 then -1 else v9) (if lt = 0 then v10 else -1) v11 v12 v13 v15 t) own_last := by
          unfold law_b460 law_b481
          rw [own_sta J' i, st', Option.bind_some, if_pos rfl, own_lo J' i, lk', Option.bind_some, if_pos rfl]
          apply ih
          rw [k7, k8] at dl
          rcases hl with q | q
          · subst q
            simp only [↓reduceIte] at dl ⊢
            rw [show (1 : Int32) - 0 = 1 from rfl, k10] at m3
            exact own_Vmk J' Y k2 b2 c2 (by omega) ⟨k3, by omega, by omega⟩ ⟨k4, by omega, by omega⟩ k5 k6 dl.1 dl.2 m2 m3 k11 k12 k13
          · subst q
            simp only [↓reduceIte, own_10] at dl ⊢
            rw [show (1 : Int32) - 1 = 0 from rfl, k9] at m3
            exact own_Vmk J' Y k2 b2 c2 (by omega) ⟨k3, by omega, by omega⟩ ⟨k4, by omega, by omega⟩ k5 k6 dl.1 dl.2 m3 m2 k11 k12 k13
        unfold law_b397
        have hlen : ((if lt = 0 then v7 + -1 else v8 + -1) = 0) ↔ (if lt = 0 then a.tail else b.tail).isEmpty = true := by
          have n2' := n2
          rcases hl with q | q
          · subst q
            simp only [↓reduceIte] at dl n2' ⊢
            rw [← k7, ← dl.1]
            exact own_ln n2'.1
          · subst q
            simp only [↓reduceIte, own_10] at dl n2' ⊢
            rw [← k8, ← dl.2]
            exact own_ln n2'.2.1
        by_cases q : (if lt = 0 then v7 + -1 else v8 + -1) = 0
        · rw [if_pos q]
          rw [if_pos (hlen.mp q), beq_iff_eq] at m1
          rw [p1, m1, if_pos rfl]
          exact fin
        · rw [if_neg q]
          rw [if_neg (fun h => q (hlen.mpr h))] at m1
          simp only [Bool.and_eq_true, Bool.not_eq_true', beq_eq_false_iff_ne, beq_iff_eq] at m1
          obtain ⟨x1, x2, x3, x4, x5⟩ := m1
          have ix := inb_iff.mp x1
          rw [p1, if_neg (inb_nn x1), if_neg (by simp only [lt32, Int32.reduceToInt]; omega), if_neg (by rw [et]; exact x2), own_sta J' x1, (own_sf J').1, x3, Option.bind_some, if_pos rfl, own_lo J' x1, (own_sf J').2.1, x4, Option.bind_some, if_pos rfl, J'.2.1, own_fh _ _ J'.2.2.2, x5, Option.bind_some, if_pos rfl, ← J'.2.1]
          exact fin
    · have z' : ¬ st = 3 := by rw [est', sq]; exact z
      have e : j_release s t = some (-2, s) := by
        have k1 : s.f_st.length = 8 := by rw [(own_sf J).1]; rfl
        unfold j_release
        rw [own_vt J.2.2.2 i, if_neg (by decide), k1, if_pos (own_48 i), if_neg (by rw [sq]; exact z)]
      rw [e, Option.bind_some, if_neg nt, if_neg z']
      exact ref
  · have e : j_release s t = some (-2, s) := by
      unfold j_release
      rw [own_vt0 J.2.2.2 t4, if_pos rfl]
    rw [e, Option.bind_some, if_pos (by simp only [lt32, Int32.reduceToInt]; omega)]
    exact ref
theorem own_STP {B : Int} {n : Nat} {scr : List Int32} {s : Q} {v2 v3 v4 v5 v6 v7 v8 v9 v10 v11 v12 v15 o t l w st lt sp : Int32} {v13 : Int64} (V : own_V B s v2 v3 v4 v5 v6 v7 v8 v9 v10 v11 v12 v13) (hB : B ≤ 900) (ih : ∀ (r : Q) (v2 v3 v4 v5 v6 v7 v8 v9 v10 v11 v12 : Int32) (v13 : Int64), own_V (B + 1) r v2 v3 v4 v5 v6 v7 v8 v9 v10 v11 v12 v13 → own_ok (law_b659 (law_l46 n) r scr v2 v3 v4 v5 v6 v7 v8 v9 v10 v11 v12 v13 v15) own_last) (t0 : 0 ≤ t.toInt) (o0 : ¬ o = 0) (o2 : ¬ o = 2) (est : j_state s t = some st) (elt : j_lockOf s t = some lt) (esp : j_spins s t = some sp) : own_ok (law_b142 (law_l46 n) s scr v2 v3 v4 v5 v6 v7 v8 v9 v10 v11 v12 v13 v15 o t l w st lt sp (if 3 < t then 0 else (if st = 0 then 0 else 1))) own_last := by
  have up := ih s _ _ _ _ _ _ _ _ _ _ _ _ (own_Vup V)
  obtain ⟨a, b, x, y, J, ⟨k2, b2, c2⟩, ⟨k3, b3, c3⟩, ⟨k4, b4, c4⟩, ⟨k5, k6⟩, ⟨k7, k8⟩, ⟨k9, k10⟩, ⟨k11, k12⟩, k13, kh⟩ := V
  unfold law_b142
  rw [if_neg o0, if_neg o2]
  by_cases t4 : t.toInt < 4
  · have i : inb 4 t = true := inb_iff.mpr (by omega)
    obtain ⟨k, hk, et⟩ := own_tN t0 t4
    have est' : st = rd s.f_st t := by rw [own_sta J i] at est; exact (Option.some.inj est).symm
    have elt' : lt = rd s.f_lk t := by rw [own_lo J i] at elt; exact (Option.some.inj elt).symm
    have esp' : sp = rd s.f_spin t := by rw [own_spi J i] at esp; exact (Option.some.inj esp).symm
    have sq : rd s.f_st t = own_st1 a b x y k := by rw [(own_sf J).1, et, own_qst a b x y hk]
    have lq : rd s.f_lk t = own_lk1 a b k := by rw [(own_sf J).2.1, et, own_qlk a b x y hk]
    have nt : ¬ 3 < t := by simp only [lt32, Int32.reduceToInt]; omega
    rw [if_neg nt]
    by_cases z0 : own_st1 a b x y k = 0
    · have z' : st = 0 := by rw [est', sq, z0]
      have e : j_step s t = some (-2, s) := by
        have k1 : s.f_st.length = 8 := by rw [(own_sf J).1]; rfl
        unfold j_step
        rw [own_vt J.2.2.2 i, if_neg (by decide), k1, if_pos (own_48 i), if_pos (by rw [sq]; exact z0)]
      rw [e, Option.bind_some, if_pos z', if_pos rfl, if_pos rfl]
      exact up
    · have z' : ¬ st = 0 := by rw [est', sq]; exact z0
      have c := own_cc1 J.1 hk
      simp only [own_c1, if_neg z0, Bool.and_eq_true, Bool.or_eq_true, beq_iff_eq] at c
      obtain ⟨-, hl, c⟩ := c
      have dd := own_dd J.1 hk
      simp only [own_d1, if_neg z0] at dd
      have ell : own_lk1 a b k = lt := by rw [elt', lq]
      rw [ell] at hl c dd
      have cl0 : 0 ≤ s.f_clk.toInt := by rw [k2]; exact b2
      have cl1 : s.f_clk.toInt ≤ 1000 := by rw [k2]; omega
      have sqq : rd (own_q a b x y).f_st t = own_st1 a b x y k := by rw [et, own_qst a b x y hk]
      have lqq : rd (own_q a b x y).f_lk t = lt := by rw [et, own_qlk a b x y hk]; exact ell
      have hE := J.2.2.1.2.2.1
      have hA := J.2.2.1.2.2.2.1
      have hG := J.2.2.1.2.2.2.2.1
      have hS := J.2.2.1.2.1
      by_cases z3 : own_st1 a b x y k = 3
      · have y3 : st = 3 := by rw [est', sq, z3]
        refine own_bind (own_sth8 J cl0 cl1 i (by rw [sqq, z3])) ?_
        rintro p ⟨p1, J', Y⟩
        rw [if_neg z', if_neg (by decide), y3, if_neg (by decide), if_pos rfl]
        unfold law_b521
        rw [if_pos p1]
        simp only [own_32, ↓reduceIte]
        apply ih
        exact own_Vmk J' Y k2 b2 c2 (by omega) ⟨k3, by omega, by omega⟩ ⟨k4, by omega, by omega⟩ k5 k6 k7 k8 (by rw [own_hq J', ← own_hq J]; exact k9) (by rw [own_hq J', ← own_hq J]; exact k10) k11 k12 k13
      · rw [if_neg z3] at c dd
        by_cases z2 : own_st1 a b x y k = 2
        · have y2 : st = 2 := by rw [est', sq, z2]
          rw [if_pos z2] at c dd
          unfold own_cE at c
          simp only [Bool.and_eq_true, beq_iff_eq] at dd
          obtain ⟨n1, n2, n3⟩ := own_new1 (own_r23 (Or.inr rfl) J.1.2.2.2.1) (own_r23 J.1.2.2.2.2 (Or.inr rfl)) c
          rw [← et] at n1 dd
          have he0 : 0 ≤ (rd s.f_ent lt).toInt := by
            rcases hl with q | q
            · rw [q, k3]; exact b3
            · rw [q, k4]; exact b4
          refine own_bind (own_ste8 J cl0 cl1 i hl (by rw [sqq, z2]) lqq n1 n2 he0) ?_
          rintro p ⟨p1, J', Y⟩
          rw [if_neg z', if_neg (by decide), y2, if_pos rfl]
          unfold law_b521
          rw [if_pos p1]
          simp only [↓reduceIte]
          apply ih
          obtain ⟨d1, d2⟩ := dd
          rw [← own_hq J'] at d1 d2
          rw [← own_hq J] at d2
          rcases hl with q | q
          · subst q
            simp only [↓reduceIte]
            rw [show (1 : Int32) - 0 = 1 from rfl, k10] at d2
            have W := own_w01 (v := rd s.f_ent 0 + 1) hE
            have e1 : (v3 + 1).toInt = v3.toInt + 1 := by rw [own_add] <;> simp only [Int32.reduceToInt] <;> omega
            exact own_Vmk J' Y k2 b2 c2 (by omega) ⟨by rw [W.1, k3], by omega, by omega⟩ ⟨by rw [W.2.1, k4], by omega, by omega⟩ k5 k6 k7 k8 d1 d2 (own_LGs (Or.inl rfl) hG k3 b3 (by omega)) (own_LGo (Or.inl rfl) (Or.inr rfl) (by decide) (by rw [k3]; exact b3) k12) k13
          · subst q
            simp only [↓reduceIte, own_10]
            rw [show (1 : Int32) - 1 = 0 from rfl, k9] at d2
            have W := own_w01 (v := rd s.f_ent 1 + 1) hE
            have e1 : (v4 + 1).toInt = v4.toInt + 1 := by rw [own_add] <;> simp only [Int32.reduceToInt] <;> omega
            exact own_Vmk J' Y k2 b2 c2 (by omega) ⟨by rw [W.2.2.2, k3], by omega, by omega⟩ ⟨by rw [W.2.2.1, k4], by omega, by omega⟩ k5 k6 k7 k8 d2 d1 (own_LGo (Or.inr rfl) (Or.inl rfl) (by decide) (by rw [k4]; exact b4) k11) (own_LGs (Or.inr rfl) hG k4 b4 (by omega)) k13
        · rw [if_neg z2] at c dd
          simp only [Bool.and_eq_true, beq_iff_eq] at c dd
          obtain ⟨z1, c⟩ := c
          obtain ⟨dl, ds⟩ := dd
          have y1 : st = 1 := by rw [est', sq, z1]
          unfold own_cU at c
          cases e : j_unlink (own_q a b x y) (Int32.ofNat k) lt with
          | none => rw [e] at c; cases c
          | some r =>
            rw [e] at c
            obtain ⟨n1, n2, n3⟩ := own_new1 J.1.2.2.2.1 J.1.2.2.2.2 c
            rw [← et] at n1 e
            have r89 := own_e8 n1
            refine own_bind (own_stw8 J cl0 cl1 i hl (by rw [sqq, z1]) lqq e r89.1 r89.2 n1 n2) ?_
            intro p hp
            have tm : Int64.toInt32 ((lus v13 (8 * t)) &&& 255) = rd s.f_tmo t := by
              rw [et]; exact own_pkG k13 hk
            rw [if_neg z', if_neg (by decide), y1, if_neg (by decide), if_neg (by decide), tm, esp']
            simp only [own_ll, own_hs, Bool.and_eq_true, beq_iff_eq] at dl ds
            have fin : ∀ f : Int32, p.1 = (if f = 0 then 1 else 4) → rd p.2.f_spin t = rd s.f_spin t + 1 → (∀ P : Prop, P → P) → (∃ a b x y, own_J p.2 a b x y) → own_ok (law_b659 (law_l46 n) p.2 scr (v2 + 1) v3 v4 (if f = 0 then v5 else (if lt = 0 then v5 + 1 else v5)) (if f = 0 then v6 else (if lt = 0 then v6 else v6 + 1)) (if f = 0 then v7 else (if lt = 0 then v7 + -1 else v7)) (if f = 0 then v8 else (if lt = 0 then v8 else v8 + -1)) v9 v10 v11 v12 v13 v15) own_last → own_ok (law_b602 (law_l46 n) p.2 scr (v2 + 1) v3 v4 v5 v6 v7 v8 v9 v10 v11 v12 v13 v15 t lt (rd s.f_spin t) p.1 f) own_last := by
              rintro f hf hs - ⟨a2, b2', x2, y2, J2⟩ g
              unfold law_b602 law_b616
              rw [if_pos hf, own_spi J2 i, hs, Option.bind_some, if_pos rfl]
              exact g
            by_cases d1 : 0 < rd s.f_tmo t
            · rw [if_pos d1]
              by_cases d2 : rd s.f_spin t + 1 < rd s.f_tmo t
              · rw [if_pos d2]
                rw [if_neg (fun q => q.2 d2)] at hp
                obtain ⟨p1, J', Y⟩ := hp
                refine fin 0 (by rw [p1]; rfl) (by rw [Y.2.2.2.2.2.1]; exact rd_wr_same (by rw [hS]; exact own_48 i) _) (fun _ h => h) ⟨_, _, _, _, J'⟩ ?_
                simp only [↓reduceIte]
                apply ih
                exact own_Vmk J' Y k2 b2 c2 (by omega) ⟨k3, by omega, by omega⟩ ⟨k4, by omega, by omega⟩ k5 k6 k7 k8 (by rw [own_hq J', ← own_hq J]; exact k9) (by rw [own_hq J', ← own_hq J]; exact k10) k11 k12 k13
              · rw [if_neg d2]
                rw [if_pos ⟨d1, d2⟩] at hp
                obtain ⟨p1, J', Y⟩ := hp
                refine fin 1 (by rw [p1]; rfl) (by rw [Y.2.2.2.2.2.1]; exact rd_wr_same (by rw [hS]; exact own_48 i) _) (fun _ h => h) ⟨_, _, _, _, J'⟩ ?_
                simp only [own_10, ↓reduceIte]
                apply ih
                rw [k7, k8] at dl
                have h9 : j_holder p.2 0 = some v9 := by rw [own_hq J', ds.1, ← own_hq J]; exact k9
                have h10 : j_holder p.2 1 = some v10 := by rw [own_hq J', ds.2, ← own_hq J]; exact k10
                rcases hl with q | q
                · subst q
                  simp only [↓reduceIte] at dl ⊢
                  have W := own_w01 (v := rd s.f_aband 0 + 1) hA
                  exact own_Vmk J' Y k2 b2 c2 (by omega) ⟨k3, by omega, by omega⟩ ⟨k4, by omega, by omega⟩ (by rw [W.1, k5]) (by rw [W.2.1, k6]) dl.1 dl.2 h9 h10 k11 k12 k13
                · subst q
                  simp only [↓reduceIte, own_10] at dl ⊢
                  have W := own_w01 (v := rd s.f_aband 1 + 1) hA
                  exact own_Vmk J' Y k2 b2 c2 (by omega) ⟨k3, by omega, by omega⟩ ⟨k4, by omega, by omega⟩ (by rw [W.2.2.2, k5]) (by rw [W.2.2.1, k6]) dl.1 dl.2 h9 h10 k11 k12 k13
            · rw [if_neg d1]
              rw [if_neg (fun q => d1 q.1)] at hp
              obtain ⟨p1, J', Y⟩ := hp
              refine fin 0 (by rw [p1]; rfl) (by rw [Y.2.2.2.2.2.1]; exact rd_wr_same (by rw [hS]; exact own_48 i) _) (fun _ h => h) ⟨_, _, _, _, J'⟩ ?_
              simp only [↓reduceIte]
              apply ih
              exact own_Vmk J' Y k2 b2 c2 (by omega) ⟨k3, by omega, by omega⟩ ⟨k4, by omega, by omega⟩ k5 k6 k7 k8 (by rw [own_hq J', ← own_hq J]; exact k9) (by rw [own_hq J', ← own_hq J]; exact k10) k11 k12 k13
  · have e : j_step s t = some (-2, s) := by
      unfold j_step
      rw [own_vt0 J.2.2.2 t4, if_pos rfl]
    rw [e, Option.bind_some, if_pos (show 3 < t by simp only [lt32, Int32.reduceToInt]; omega), if_pos rfl, if_pos rfl]
    exact up
theorem own_gT {s : Q} {a b : List Nat} {x y t : Int32} (J : own_J s a b x y) (t0 : 0 ≤ t.toInt) : ∃ st lt sp, j_state s t = some st ∧ j_lockOf s t = some lt ∧ j_spins s t = some sp := by
  by_cases t4 : t.toInt < 4
  · have i : inb 4 t = true := inb_iff.mpr (by omega)
    exact ⟨_, _, _, own_sta J i, own_lo J i, own_spi J i⟩
  · refine ⟨-2, -2, -2, ?_, ?_, ?_⟩
    · unfold j_state; rw [own_vt0 J.2.2.2 t4, if_pos rfl]
    · unfold j_lockOf; rw [own_vt0 J.2.2.2 t4, if_pos rfl]
    · unfold j_spins; rw [own_vt0 J.2.2.2 t4, if_pos rfl]
theorem own_loop (scr : List Int32) (hl : scr.length ≤ 260) : ∀ (n : Nat) (s : Q) (v2 v3 v4 v5 v6 v7 v8 v9 v10 v11 v12 : Int32) (v13 : Int64) (v15 : Int32), own_V v15.toInt s v2 v3 v4 v5 v6 v7 v8 v9 v10 v11 v12 v13 → 0 ≤ v15.toInt → v15.toInt ≤ 264 → 264 - v15.toInt < n → own_ok (law_l46 n s scr v2 v3 v4 v5 v6 v7 v8 v9 v10 v11 v12 v13 v15) own_last := by
  intro n
  induction n with
  | zero => intro s v2 v3 v4 v5 v6 v7 v8 v9 v10 v11 v12 v13 v15 _ h0 h1 h2; omega
  | succ n ih =>
    intro s v2 v3 v4 v5 v6 v7 v8 v9 v10 v11 v12 v13 v15 V h0 h1 hn
    have eL : (Nat.toInt32 scr.length).toInt = scr.length := own_n2i (by omega)
    have e1 : (v15 + 1).toInt = v15.toInt + 1 := by rw [own_add] <;> simp only [Int32.reduceToInt] <;> omega
    have e2 : (v15 + 2).toInt = v15.toInt + 2 := by rw [own_add] <;> simp only [Int32.reduceToInt] <;> omega
    have e3 : (v15 + 3).toInt = v15.toInt + 3 := by rw [own_add] <;> simp only [Int32.reduceToInt] <;> omega
    have e4 : (v15 + 4).toInt = v15.toInt + 4 := by rw [own_add] <;> simp only [Int32.reduceToInt] <;> omega
    rw [law_l46]
    by_cases c : v15 + 3 < Nat.toInt32 scr.length
    · rw [if_pos c]
      rw [lt32, e3, eL] at c
      have i0 : inb scr.length v15 = true := inb_iff.mpr (by omega)
      have i1 : inb scr.length (v15 + 1) = true := inb_iff.mpr (by omega)
      have i2 : inb scr.length (v15 + 2) = true := inb_iff.mpr (by omega)
      have i3 : inb scr.length (v15 + 3) = true := inb_iff.mpr (by omega)
      rw [if_pos i0, if_pos i1, if_pos i2, if_pos i3]
      have t0 : 0 ≤ ((rd scr (v15 + 1) &&& 255) % 5).toInt := (own_rem (c_and _ _ (by decide)).1 (by decide)).1
      have l0 : 0 ≤ ((rd scr (v15 + 2) &&& 255) % 3).toInt := (own_rem (c_and _ _ (by decide)).1 (by decide)).1
      have w0 := c_and (rd scr (v15 + 3)) 7 (by decide)
      simp only [Int32.reduceToInt] at w0
      generalize (rd scr (v15 + 1) &&& 255) % 5 = t at t0 ⊢
      generalize (rd scr (v15 + 2) &&& 255) % 3 = l at l0 ⊢
      generalize rd scr (v15 + 3) &&& 7 = w at w0 ⊢
      generalize rd scr v15 &&& 3 = o
      have J := V
      obtain ⟨a, b, x, y, J, -⟩ := J
      obtain ⟨st, lt, sp, g1, g2, g3⟩ := own_gT J t0
      rw [g1, g2, g3]
      simp only [Option.bind_some]
      have go : ∀ (r : Q) (v2 v3 v4 v5 v6 v7 v8 v9 v10 v11 v12 : Int32) (v13 : Int64), own_V (v15.toInt + 1) r v2 v3 v4 v5 v6 v7 v8 v9 v10 v11 v12 v13 → own_ok (law_b659 (law_l46 n) r scr v2 v3 v4 v5 v6 v7 v8 v9 v10 v11 v12 v13 v15) own_last := by
        intro r u2 u3 u4 u5 u6 u7 u8 u9 u10 u11 u12 u13 W
        refine own_659 W (ih r u2 u3 u4 u5 u6 u7 u8 u9 u10 u11 u12 u13 (v15 + 4) ?_ (by omega) (by omega) (by omega))
        rw [e4]
        exact own_Vle (by omega) W
      by_cases o0 : o = 0
      · rw [o0]
        exact own_ACQ V (by omega) go t0 l0 w0.1 w0.2 g1
      · by_cases o2 : o = 2
        · rw [o2]
          exact own_REL V (by omega) go t0 g1 g2
        · exact own_STP V (by omega) go t0 o0 o2 g1 g2 g3
    · rw [if_neg c]
      exact ⟨_, rfl, _, rfl⟩
def own_ck (s : Q) : Bool := own_eq s (own_q [] [] 2 2) && ((Q.len s == [8, 8, 8, 8, 8, 8, 2, 2, 2, 2, 2, 128, 512]) && ((s.f_n == 4) && ((s.f_clk == 0) && ((s.f_ent == [0, 0]) && ((s.f_aband == [0, 0]) && (s.f_tmo == [0, 0, 0, 0, 0, 0, 0, 0]))))))
set_option maxHeartbeats 0 in
theorem own_ini : (j_init 4).map own_ck = some true := by decide +kernel
theorem own_law (scr : List Int32) (hl : scr.length ≤ 260) : (law scr).map (·.1) = some 1 := by
  obtain ⟨s, e, k⟩ := Option.map_eq_some_iff.mp own_ini
  simp only [own_ck, Bool.and_eq_true] at k
  obtain ⟨k1, k2, k3, k4, k5, k6, k7⟩ := k
  simp only [Q.len, beq_iff_eq, List.cons.injEq, and_true] at k2 k3 k4 k5 k6 k7
  obtain ⟨l1, l2, l3, l4, l5, l6, l7, l8, l9, l10, l11, l12, l13⟩ := k2
  have J : own_J s [] [] 2 2 := by
    refine ⟨⟨rfl, rfl, rfl, Or.inl rfl, Or.inl rfl⟩, ?_, ⟨l3, l4, l10, l11, l12, l13⟩, k3⟩
    rw [← own_put_eq k1 s]; rfl
  have V : own_V (0 : Int32).toInt s 0 0 0 0 0 0 0 (-1) (-1) (-1) (-1) 0 := by
    refine ⟨[], [], 2, 2, J, ⟨k4, by decide, by decide⟩, ⟨by rw [k5]; rfl, by decide, by decide⟩, ⟨by rw [k5]; rfl, by decide, by decide⟩, ⟨by rw [k6]; rfl, by rw [k6]; rfl⟩, ⟨rfl, rfl⟩, ⟨by rw [own_hq J]; rfl, by rw [own_hq J]; rfl⟩, ⟨fun h => absurd h (by decide), fun h => absurd h (by decide)⟩, ⟨0, 0, 0, 0, rfl, by rw [k7]; rfl, by rw [k7]; rfl, by rw [k7]; rfl, by rw [k7]; rfl⟩, fun h => absurd h (by decide)⟩
  obtain ⟨r, er, q, eq⟩ := own_loop scr hl 3000 s 0 0 0 0 0 0 0 (-1) (-1) (-1) (-1) 0 0 V (by decide) (by decide) (by decide)
  subst eq
  unfold law
  rw [e]
  simp only [Option.bind_some, er, Sum.elim_inr, Option.map_some]

theorem fit_of {s : State} (hF : heapFits s = true) : Fit s := fun {y c} hc i hi => by
  obtain ⟨ha, rfl⟩ := Array.getElem?_eq_some_iff.mp hc
  have q := List.all_eq_true.mp ((Array.all_eq_true_iff_forall_mem.mp hF) _ (Array.getElem_mem ha)) i (List.mem_range.mpr hi)
  simpa [Array.getElem?_eq_getElem hi] using q
set_option maxRecDepth 65536 in
set_option maxHeartbeats 4000000 in
theorem comes_1 {Post : Tables → Env → Array Value → State → Outcome → State → Prop} (hpost : ∀ tb e args s v u, (limb_1_1.after args s (.returned v) u = true ∧ limb_1_2.after args s (.returned v) u = true ∧ True) → FrameEnd s (.returned v) u (Jvm.fieldLocs frame_1_writes args s ++ Jvm.arrayLocs frame_1_arrays args s ++ Jvm.staticLocs frame_1_statics s) 40 1536 → Post tb e args s (.returned v) u) :
    ArmFor flags0 classFile x code maxLocals ret World_1 tables_1 room_1 Calls_1 rest_1 Pre_1 Post := by
  intro l hfl _ _ p e ha hc hk s m args below hf hA hF happ hP
  obtain ⟨hcalls, hrest, hpre⟩ := hP
  obtain ⟨-, -, -, hnamed, -, -, -, hat⟩ := (Spec.applies_iff hf).mp happ
  obtain ⟨hg, hn⟩ := and_e (Cond.before_iff.mp (show (Jvm.Cond.and given_1 narrow_1).before args s = true from hpre))
  obtain ⟨hcnt, h0⟩ := and_e hg
  obtain ⟨w0, rfl⟩ : ∃ w0 : Value, args = #[w0] := by
    have hs : args.size = 1 := by simpa [Cond.value, given_1] using hcnt
    obtain ⟨L⟩ := args
    match L, hs with
    | [w0], _ => exact ⟨w0, rfl⟩
  have hw := fun d (hd : d ∈ tables_1) => atoms_spec (ws := Jvm.Cond.code x code maxLocals ret :: tables_1) hat d (List.mem_cons_of_mem _ hd)
  obtain ⟨hy1, hy2⟩ := and_e hn
  obtain ⟨a, rfl⟩ : ∃ a, w0 = .ref a := by
    cases w0 <;> first | exact ⟨_, rfl⟩ | (exfalso; simp [Cond.value, Term.eval] at hy1)
  obtain ⟨cl, A⟩ := Arr.start (Z := s) (ty := .int) (show (Term.arg 0).eval #[Value.ref a] s none [] s = some (.ref a) from rfl) hy1
  have hlen : (cl.slots.toList.map intOf).length ≤ 260 := by
    have q := A.fin (Vm.Alike.refl _)
    by_cases hz : cl.slots.size < 2 ^ 31
    · simp only [Cond.value, Term.eval, List.getElem?_toArray, List.getElem?_cons_zero, Option.bind_eq_bind, Option.bind_some, q, hz, if_true, Option.pure_def] at hy2
      have q2 := Int32.le_iff_toInt_le.mp (by simpa using hy2)
      rw [len_toInt hz] at q2
      simp only [List.length_map, Array.length_toList]
      have q3 : (260 : Int32).toInt = 260 := rfl
      omega
    · simp [Cond.value, Term.eval, q, hz] at hy2
  have hL := own_law (cl.slots.toList.map intOf) hlen
  obtain ⟨res, hres, hr1⟩ := Option.map_eq_some_iff.mp hL
  obtain ⟨n, hrun⟩ := ev_law (cl.slots.toList.map intOf) hres rfl
  have hr1' : res.1 = 1 := hr1
  rw [hr1'] at hrun
  have hcap := run_cap hrun
  have hcC : own_P.capC = 41 := rfl
  have hcS : own_P.capS = 1536 := rfl
  rw [hcC, hcS] at hcap
  have hc1 : (W0 (cl.slots.toList.map intOf) []).length = 1 := rfl
  have hc2 : hsz own_P (W0 (cl.slots.toList.map intOf) []) = 0 := rfl
  have hM := metOf (sound (own_good hw) n) (k := 0) (as := [.ref 0]) (H := (W0 (cl.slots.toList.map intOf) [])) hrun (l := l) (wsC := tables_1) (rm := room_1) own_pn0 rfl (fun h => nomatch h) (by decide) (by decide) (by show _ ≤ 40; omega) (by show _ ≤ 1536; omega) (am := [a]) (ws := [.ref a]) (h := s.heap) (n0 := s.heap.size) ⟨_, _, rfl, ⟨a, rfl, rfl⟩, rfl⟩ (Nat.le_of_ble_eq_true rfl) (script_start rfl (fit_of hF) A) (Nat.le_refl _)
  obtain ⟨n, o, h1, h2, h3, w, L, rfl, ⟨N, -, am', -, -, hv⟩, hq⟩ := hM p e ha hc hk s m _ below hf ((Spec.applies_iff_loose hf).mp happ).1 ⟨rfl, State.Warmed39.refl s, rfl⟩ trivial
  obtain ⟨y, rfl, rfl⟩ := hv
  exact ⟨n, _, h1, h2, h3, hpost _ _ _ _ _ _ ⟨Cond.after_iff.mpr rfl, Cond.after_iff.mpr (eq_i res_at (Term.int_eval (1)) rfl), trivial⟩ ⟨hq.1, hq.2.1, (hq.2.2.sift fun y hy => Or.inr (N y hy)).mono (by omega) (by omega)⟩⟩
theorem main_1_1 : Claimed_1_1 := comes_1 fun _ _ _ _ _ _ h hF => ⟨h.1, hF⟩
theorem main_1_2 : Claimed_1_2 := comes_1 fun _ _ _ _ _ _ h hF => ⟨h.2.1, hF⟩
end Jvm.Pilot.@@N@@
namespace Jvm.Pilot.@@N@@
open Jvm Jvm.ClassFile Sem Op Lib Jvm.Free Jvm.Stand Jvm.Pilot.@@N@@.Jvm.D
/-! MADE BY PROGRAM (witnessworld.py) out of the Statement's table words and the real class files: 9 classes; the members and pool entries that the words name. The judged class is class 1, her method 1. -/
namespace start1
open Jvm.ClassFile
def u (s : String) : CpInfo := .utf8 (stringToUtf16 s)
/-- a pool by its gaps: so many unusable entries, then the entry; so many at the end -/
def gap : Nat → List CpInfo → List CpInfo
  | 0, r => r
  | n + 1, r => .unusable :: gap n r
def poolList (es : List (Nat × CpInfo)) (last : Nat) : List CpInfo := es.foldr (fun e r => gap e.1 (e.2 :: r)) (gap last [])
def pool (es : List (Nat × CpInfo)) (last : Nat) : Array CpInfo := ⟨poolList es last⟩
def fileOf (pool : Array CpInfo) (this : Nat) (attrs : Array Attribute := #[]) (ms : Array MethodInfo := #[]) (fl : Nat := 33) (sup : Nat := 0) (ifs : Array Nat := #[]) (fds : Array FieldInfo := #[]) : ClassFile where
  minorVersion := 0
  majorVersion := 65
  constantPool := pool
  accessFlags := fl
  thisClass := this
  superClass := sup
  interfaces := ifs
  fields := fds
  methods := ms
  attributes := attrs
def plain (name : String) (sup : Option ClassId) : Class where
  name := name
  kind := .ordinary
  loader := none
  accessFlags := 33
  super := sup
  interfaces := #[]
  cf := none
  fields := #[]
  methods := #[]
  instanceTypes := #[]
  staticTypes := #[]
  resolved := #[]
  callSites := []
  init := .initialized
  statics := none
  mirror := none

def pool0 : Array CpInfo := pool [(5, u "<init>"), (0, u "()V"), (1, .class_ 10), (1, u "java/lang/Object")] 113

def k0c0 : Code := { maxStack := 0, maxLocals := 1, code := object_method_1_code, exceptionTable := #[], attributes := #[] }
def k0m0 : Method := { name := "<init>", desc := "()V", sig := { parameters := [], returnType := none }, accessFlags := 1, code := some k0c0 }
/-- java/lang/Object -/
def k0 : Class := { plain "java/lang/Object" none with
  accessFlags := 33
  interfaces := #[]
  cf := some (fileOf pool0 8 #[] #[{ accessFlags := 1, nameIndex := 5, descriptorIndex := 6, attributes := #[] }] 33 0 #[] #[])
  fields := #[]
  methods := #[k0m0]
  instanceTypes := #[]
  staticTypes := #[]
  resolved := Array.replicate 124 none
  statics := none }

def pool1 : Array CpInfo := pool [(2, .class_ 4), (1, u "java/lang/Object"), (0, u "<init>"), (0, u "()V"), (0, .class_ 8), (0, u "QueueLocks"), (0, .methodref 7 10), (0, .nameAndType 5 11), (0, u "(I)V"), (0, .methodref 7 13), (0, .nameAndType 14 15), (0, u "state"), (0, u "(I)I"), (0, .methodref 7 17), (0, .nameAndType 18 15), (0, u "lockOf"), (0, .methodref 7 20), (0, .nameAndType 21 15), (0, u "spins"), (0, .methodref 7 23), (0, .nameAndType 24 25), (0, u "acquire"), (0, u "(III)I"), (0, .long 255), (1, .long 18446744073709551615), (1, .methodref 7 31), (0, .nameAndType 32 15), (0, u "release"), (0, .methodref 7 34), (0, .nameAndType 35 15), (0, u "ahead"), (0, .methodref 7 37), (0, .nameAndType 38 15), (0, u "step"), (0, .methodref 7 40), (0, .nameAndType 41 42), (0, u "clock"), (0, u "()I"), (0, .methodref 7 44), (0, .nameAndType 45 15), (0, u "entries"), (0, .methodref 7 47), (0, .nameAndType 48 15), (0, u "abandons"), (0, .methodref 7 50), (0, .nameAndType 51 15), (0, u "queueLength"), (0, .methodref 7 53), (0, .nameAndType 54 15), (0, u "holder"), (0, .methodref 7 56), (0, .nameAndType 57 58), (0, u "holderAt"), (0, u "(II)I"), (0, .methodref 7 60), (0, .nameAndType 61 58), (0, u "entryAt"), (0, .class_ 63), (0, u "QueueLocksL6"), (2, u "law"), (0, u "([I)Z")] 5

def k1m0 : Method := { name := "<init>", desc := "()V", sig := { parameters := [], returnType := none }, accessFlags := 1, code := none }
def k1c1 : Code := { maxStack := 6, maxLocals := 27, code := code, exceptionTable := #[], attributes := #[] }
def k1m1 : Method := { name := "law", desc := "([I)Z", sig := { parameters := [(.array .int)], returnType := some .boolean }, accessFlags := 9, code := some k1c1 }
/-- QueueLocksL6 -/
def k1 : Class := { plain "QueueLocksL6" (some 0) with
  accessFlags := 49
  interfaces := #[]
  cf := some (fileOf pool1 62 #[] #[{ accessFlags := 1, nameIndex := 5, descriptorIndex := 6, attributes := #[] }, { accessFlags := 9, nameIndex := 66, descriptorIndex := 67, attributes := #[] }] 49 2 #[] #[])
  fields := #[]
  methods := #[k1m0, k1m1]
  instanceTypes := #[]
  staticTypes := #[]
  resolved := Array.replicate 73 none
  statics := none }

def pool2 : Array CpInfo := pool [(1, .methodref 2 3), (0, .class_ 4), (0, .nameAndType 5 6), (0, u "java/lang/Object"), (0, u "<init>"), (0, u "()V"), (0, .fieldref 8 9), (0, .class_ 10), (0, .nameAndType 11 12), (0, u "QueueLocks"), (0, u "st"), (0, u "[I"), (0, .fieldref 8 14), (0, .nameAndType 15 12), (0, u "lk"), (0, .fieldref 8 17), (0, .nameAndType 18 12), (0, u "tmo"), (0, .fieldref 8 20), (0, .nameAndType 21 12), (0, u "spin"), (0, .fieldref 8 23), (0, .nameAndType 24 12), (0, u "nxt0"), (0, .fieldref 8 26), (0, .nameAndType 27 12), (0, u "prv1"), (0, .fieldref 8 29), (0, .nameAndType 30 12), (0, u "head"), (0, .fieldref 8 32), (0, .nameAndType 33 12), (0, u "tail"), (0, .fieldref 8 35), (0, .nameAndType 36 12), (0, u "len"), (0, .fieldref 8 38), (0, .nameAndType 39 12), (0, u "ent"), (0, .fieldref 8 41), (0, .nameAndType 42 12), (0, u "aband"), (0, .fieldref 8 44), (0, .nameAndType 45 12), (0, u "log"), (0, .fieldref 8 47), (0, .nameAndType 48 12), (0, u "hist"), (0, .fieldref 8 50), (0, .nameAndType 51 52), (0, u "n"), (0, u "I"), (0, .fieldref 8 54), (0, .nameAndType 55 52), (0, u "clk"), (0, .methodref 8 57), (0, .nameAndType 58 59), (0, u "holder"), (0, u "(I)I"), (0, .methodref 8 61), (0, .nameAndType 62 63), (0, u "inNodes"), (0, u "(I)Z"), (0, .methodref 8 65), (0, .nameAndType 66 59), (0, u "successorClh"), (0, .methodref 8 68), (0, .nameAndType 69 59), (0, u "predecessorMcs"), (0, .methodref 8 71), (0, .nameAndType 72 63), (0, u "validThread"), (0, .methodref 8 74), (0, .nameAndType 75 63), (0, u "validLock"), (0, .methodref 8 77), (0, .nameAndType 78 59), (0, u "clampTimeout"), (0, .methodref 8 80), (0, .nameAndType 81 82), (0, u "append"), (0, u "(II)V"), (0, .methodref 8 84), (0, .nameAndType 85 82), (0, u "enter"), (0, .methodref 8 87), (0, .nameAndType 88 6), (0, u "recordHistory"), (0, .methodref 8 90), (0, .nameAndType 91 82), (0, u "unlink"), (0, .methodref 8 93), (0, .nameAndType 94 95), (0, u "spinOnce"), (0, u "(II)I"), (0, .methodref 8 97), (0, .nameAndType 98 59), (0, u "popFront"), (0, .methodref 8 100), (0, .nameAndType 101 59), (0, u "aheadMcs"), (0, .methodref 8 103), (0, .nameAndType 104 59), (0, u "aheadClh"), (0, u "MCS"), (2, u "CLH"), (1, u "IDLE"), (0, u "WAITING"), (0, u "GRANTED"), (1, u "HOLDING"), (1, u "ABANDONED"), (1, u "NONE"), (1, u "REFUSED"), (1, u "MIN_THREADS"), (0, u "MAX_THREADS"), (1, u "MAX_TIMEOUT"), (1, u "LOG_SIZE"), (1, u "HISTORY_SIZE"), (1, u "(I)V"), (3, u "acquire"), (0, u "(III)I"), (0, u "step"), (0, u "release"), (0, u "holderAt"), (0, u "state"), (0, u "lockOf"), (0, u "ahead"), (0, u "queueLength"), (0, u "spins"), (0, u "entries"), (0, u "entryAt"), (0, u "abandons"), (0, u "clock"), (0, u "()I")] 2

def k2c0 : Code := { maxStack := 3, maxLocals := 4, code := prog_1_method_1_code, exceptionTable := #[], attributes := #[] }
def k2m0 : Method := { name := "<init>", desc := "(I)V", sig := { parameters := [.int], returnType := none }, accessFlags := 1, code := some k2c0 }
def k2c1 : Code := { maxStack := 2, maxLocals := 2, code := prog_1_method_2_code, exceptionTable := #[], attributes := #[] }
def k2m1 : Method := { name := "validThread", desc := "(I)Z", sig := { parameters := [.int], returnType := some .boolean }, accessFlags := 2, code := some k2c1 }
def k2c2 : Code := { maxStack := 2, maxLocals := 2, code := prog_1_method_3_code, exceptionTable := #[], attributes := #[] }
def k2m2 : Method := { name := "validLock", desc := "(I)Z", sig := { parameters := [.int], returnType := some .boolean }, accessFlags := 2, code := some k2c2 }
def k2c3 : Code := { maxStack := 2, maxLocals := 2, code := prog_1_method_4_code, exceptionTable := #[], attributes := #[] }
def k2m3 : Method := { name := "inNodes", desc := "(I)Z", sig := { parameters := [.int], returnType := some .boolean }, accessFlags := 2, code := some k2c3 }
def k2c4 : Code := { maxStack := 2, maxLocals := 2, code := prog_1_method_5_code, exceptionTable := #[], attributes := #[] }
def k2m4 : Method := { name := "clampTimeout", desc := "(I)I", sig := { parameters := [.int], returnType := some .int }, accessFlags := 2, code := some k2c4 }
def k2c5 : Code := { maxStack := 4, maxLocals := 4, code := prog_1_method_6_code, exceptionTable := #[], attributes := #[] }
def k2m5 : Method := { name := "enter", desc := "(II)V", sig := { parameters := [.int, .int], returnType := none }, accessFlags := 2, code := some k2c5 }
def k2c6 : Code := { maxStack := 3, maxLocals := 3, code := prog_1_method_7_code, exceptionTable := #[], attributes := #[] }
def k2m6 : Method := { name := "recordHistory", desc := "()V", sig := { parameters := [], returnType := none }, accessFlags := 2, code := some k2c6 }
def k2c7 : Code := { maxStack := 4, maxLocals := 4, code := prog_1_method_8_code, exceptionTable := #[], attributes := #[] }
def k2m7 : Method := { name := "append", desc := "(II)V", sig := { parameters := [.int, .int], returnType := none }, accessFlags := 2, code := some k2c7 }
def k2c8 : Code := { maxStack := 2, maxLocals := 3, code := prog_1_method_9_code, exceptionTable := #[], attributes := #[] }
def k2m8 : Method := { name := "successorClh", desc := "(I)I", sig := { parameters := [.int], returnType := some .int }, accessFlags := 2, code := some k2c8 }
def k2c9 : Code := { maxStack := 2, maxLocals := 4, code := prog_1_method_10_code, exceptionTable := #[], attributes := #[] }
def k2m9 : Method := { name := "predecessorMcs", desc := "(I)I", sig := { parameters := [.int], returnType := some .int }, accessFlags := 2, code := some k2c9 }
def k2c10 : Code := { maxStack := 4, maxLocals := 4, code := prog_1_method_11_code, exceptionTable := #[], attributes := #[] }
def k2m10 : Method := { name := "popFront", desc := "(I)I", sig := { parameters := [.int], returnType := some .int }, accessFlags := 2, code := some k2c10 }
def k2c11 : Code := { maxStack := 4, maxLocals := 5, code := prog_1_method_12_code, exceptionTable := #[], attributes := #[] }
def k2m11 : Method := { name := "unlink", desc := "(II)V", sig := { parameters := [.int, .int], returnType := none }, accessFlags := 2, code := some k2c11 }
def k2c12 : Code := { maxStack := 4, maxLocals := 5, code := prog_1_method_13_code, exceptionTable := #[], attributes := #[] }
def k2m12 : Method := { name := "acquire", desc := "(III)I", sig := { parameters := [.int, .int, .int], returnType := some .int }, accessFlags := 1, code := some k2c12 }
def k2c13 : Code := { maxStack := 4, maxLocals := 3, code := prog_1_method_14_code, exceptionTable := #[], attributes := #[] }
def k2m13 : Method := { name := "spinOnce", desc := "(II)I", sig := { parameters := [.int, .int], returnType := some .int }, accessFlags := 2, code := some k2c13 }
def k2c14 : Code := { maxStack := 3, maxLocals := 5, code := prog_1_method_15_code, exceptionTable := #[], attributes := #[] }
def k2m14 : Method := { name := "step", desc := "(I)I", sig := { parameters := [.int], returnType := some .int }, accessFlags := 1, code := some k2c14 }
def k2c15 : Code := { maxStack := 3, maxLocals := 4, code := prog_1_method_16_code, exceptionTable := #[], attributes := #[] }
def k2m15 : Method := { name := "release", desc := "(I)I", sig := { parameters := [.int], returnType := some .int }, accessFlags := 1, code := some k2c15 }
def k2c16 : Code := { maxStack := 2, maxLocals := 3, code := prog_1_method_17_code, exceptionTable := #[], attributes := #[] }
def k2m16 : Method := { name := "holder", desc := "(I)I", sig := { parameters := [.int], returnType := some .int }, accessFlags := 1, code := some k2c16 }
def k2c17 : Code := { maxStack := 3, maxLocals := 3, code := prog_1_method_18_code, exceptionTable := #[], attributes := #[] }
def k2m17 : Method := { name := "holderAt", desc := "(II)I", sig := { parameters := [.int, .int], returnType := some .int }, accessFlags := 1, code := some k2c17 }
def k2c18 : Code := { maxStack := 2, maxLocals := 2, code := prog_1_method_19_code, exceptionTable := #[], attributes := #[] }
def k2m18 : Method := { name := "state", desc := "(I)I", sig := { parameters := [.int], returnType := some .int }, accessFlags := 1, code := some k2c18 }
def k2c19 : Code := { maxStack := 2, maxLocals := 2, code := prog_1_method_20_code, exceptionTable := #[], attributes := #[] }
def k2m19 : Method := { name := "lockOf", desc := "(I)I", sig := { parameters := [.int], returnType := some .int }, accessFlags := 1, code := some k2c19 }
def k2c20 : Code := { maxStack := 2, maxLocals := 4, code := prog_1_method_21_code, exceptionTable := #[], attributes := #[] }
def k2m20 : Method := { name := "aheadMcs", desc := "(I)I", sig := { parameters := [.int], returnType := some .int }, accessFlags := 2, code := some k2c20 }
def k2c21 : Code := { maxStack := 2, maxLocals := 5, code := prog_1_method_22_code, exceptionTable := #[], attributes := #[] }
def k2m21 : Method := { name := "aheadClh", desc := "(I)I", sig := { parameters := [.int], returnType := some .int }, accessFlags := 2, code := some k2c21 }
def k2c22 : Code := { maxStack := 2, maxLocals := 2, code := prog_1_method_23_code, exceptionTable := #[], attributes := #[] }
def k2m22 : Method := { name := "ahead", desc := "(I)I", sig := { parameters := [.int], returnType := some .int }, accessFlags := 1, code := some k2c22 }
def k2c23 : Code := { maxStack := 2, maxLocals := 2, code := prog_1_method_24_code, exceptionTable := #[], attributes := #[] }
def k2m23 : Method := { name := "queueLength", desc := "(I)I", sig := { parameters := [.int], returnType := some .int }, accessFlags := 1, code := some k2c23 }
def k2c24 : Code := { maxStack := 2, maxLocals := 2, code := prog_1_method_25_code, exceptionTable := #[], attributes := #[] }
def k2m24 : Method := { name := "spins", desc := "(I)I", sig := { parameters := [.int], returnType := some .int }, accessFlags := 1, code := some k2c24 }
def k2c25 : Code := { maxStack := 2, maxLocals := 2, code := prog_1_method_26_code, exceptionTable := #[], attributes := #[] }
def k2m25 : Method := { name := "entries", desc := "(I)I", sig := { parameters := [.int], returnType := some .int }, accessFlags := 1, code := some k2c25 }
def k2c26 : Code := { maxStack := 3, maxLocals := 3, code := prog_1_method_27_code, exceptionTable := #[], attributes := #[] }
def k2m26 : Method := { name := "entryAt", desc := "(II)I", sig := { parameters := [.int, .int], returnType := some .int }, accessFlags := 1, code := some k2c26 }
def k2c27 : Code := { maxStack := 2, maxLocals := 2, code := prog_1_method_28_code, exceptionTable := #[], attributes := #[] }
def k2m27 : Method := { name := "abandons", desc := "(I)I", sig := { parameters := [.int], returnType := some .int }, accessFlags := 1, code := some k2c27 }
def k2c28 : Code := { maxStack := 1, maxLocals := 1, code := prog_1_method_29_code, exceptionTable := #[], attributes := #[] }
def k2m28 : Method := { name := "clock", desc := "()I", sig := { parameters := [], returnType := some .int }, accessFlags := 1, code := some k2c28 }
/-- QueueLocks -/
def k2 : Class := { plain "QueueLocks" (some 0) with
  accessFlags := 49
  interfaces := #[]
  cf := some (fileOf pool2 8 #[] #[{ accessFlags := 1, nameIndex := 5, descriptorIndex := 131, attributes := #[] }, { accessFlags := 2, nameIndex := 72, descriptorIndex := 63, attributes := #[] }, { accessFlags := 2, nameIndex := 75, descriptorIndex := 63, attributes := #[] }, { accessFlags := 2, nameIndex := 62, descriptorIndex := 63, attributes := #[] }, { accessFlags := 2, nameIndex := 78, descriptorIndex := 59, attributes := #[] }, { accessFlags := 2, nameIndex := 85, descriptorIndex := 82, attributes := #[] }, { accessFlags := 2, nameIndex := 88, descriptorIndex := 6, attributes := #[] }, { accessFlags := 2, nameIndex := 81, descriptorIndex := 82, attributes := #[] }, { accessFlags := 2, nameIndex := 66, descriptorIndex := 59, attributes := #[] }, { accessFlags := 2, nameIndex := 69, descriptorIndex := 59, attributes := #[] }, { accessFlags := 2, nameIndex := 98, descriptorIndex := 59, attributes := #[] }, { accessFlags := 2, nameIndex := 91, descriptorIndex := 82, attributes := #[] }, { accessFlags := 1, nameIndex := 135, descriptorIndex := 136, attributes := #[] }, { accessFlags := 2, nameIndex := 94, descriptorIndex := 95, attributes := #[] }, { accessFlags := 1, nameIndex := 137, descriptorIndex := 59, attributes := #[] }, { accessFlags := 1, nameIndex := 138, descriptorIndex := 59, attributes := #[] }, { accessFlags := 1, nameIndex := 58, descriptorIndex := 59, attributes := #[] }, { accessFlags := 1, nameIndex := 139, descriptorIndex := 95, attributes := #[] }, { accessFlags := 1, nameIndex := 140, descriptorIndex := 59, attributes := #[] }, { accessFlags := 1, nameIndex := 141, descriptorIndex := 59, attributes := #[] }, { accessFlags := 2, nameIndex := 101, descriptorIndex := 59, attributes := #[] }, { accessFlags := 2, nameIndex := 104, descriptorIndex := 59, attributes := #[] }, { accessFlags := 1, nameIndex := 142, descriptorIndex := 59, attributes := #[] }, { accessFlags := 1, nameIndex := 143, descriptorIndex := 59, attributes := #[] }, { accessFlags := 1, nameIndex := 144, descriptorIndex := 59, attributes := #[] }, { accessFlags := 1, nameIndex := 145, descriptorIndex := 59, attributes := #[] }, { accessFlags := 1, nameIndex := 146, descriptorIndex := 95, attributes := #[] }, { accessFlags := 1, nameIndex := 147, descriptorIndex := 59, attributes := #[] }, { accessFlags := 1, nameIndex := 148, descriptorIndex := 149, attributes := #[] }] 49 2 #[] #[{ accessFlags := 25, nameIndex := 105, descriptorIndex := 52, attributes := #[] }, { accessFlags := 25, nameIndex := 108, descriptorIndex := 52, attributes := #[] }, { accessFlags := 25, nameIndex := 110, descriptorIndex := 52, attributes := #[] }, { accessFlags := 25, nameIndex := 111, descriptorIndex := 52, attributes := #[] }, { accessFlags := 25, nameIndex := 112, descriptorIndex := 52, attributes := #[] }, { accessFlags := 25, nameIndex := 114, descriptorIndex := 52, attributes := #[] }, { accessFlags := 25, nameIndex := 116, descriptorIndex := 52, attributes := #[] }, { accessFlags := 25, nameIndex := 118, descriptorIndex := 52, attributes := #[] }, { accessFlags := 25, nameIndex := 120, descriptorIndex := 52, attributes := #[] }, { accessFlags := 25, nameIndex := 122, descriptorIndex := 52, attributes := #[] }, { accessFlags := 25, nameIndex := 123, descriptorIndex := 52, attributes := #[] }, { accessFlags := 25, nameIndex := 125, descriptorIndex := 52, attributes := #[] }, { accessFlags := 25, nameIndex := 127, descriptorIndex := 52, attributes := #[] }, { accessFlags := 25, nameIndex := 129, descriptorIndex := 52, attributes := #[] }, { accessFlags := 2, nameIndex := 51, descriptorIndex := 52, attributes := #[] }, { accessFlags := 2, nameIndex := 55, descriptorIndex := 52, attributes := #[] }, { accessFlags := 2, nameIndex := 11, descriptorIndex := 12, attributes := #[] }, { accessFlags := 2, nameIndex := 15, descriptorIndex := 12, attributes := #[] }, { accessFlags := 2, nameIndex := 18, descriptorIndex := 12, attributes := #[] }, { accessFlags := 2, nameIndex := 21, descriptorIndex := 12, attributes := #[] }, { accessFlags := 2, nameIndex := 24, descriptorIndex := 12, attributes := #[] }, { accessFlags := 2, nameIndex := 27, descriptorIndex := 12, attributes := #[] }, { accessFlags := 2, nameIndex := 30, descriptorIndex := 12, attributes := #[] }, { accessFlags := 2, nameIndex := 33, descriptorIndex := 12, attributes := #[] }, { accessFlags := 2, nameIndex := 36, descriptorIndex := 12, attributes := #[] }, { accessFlags := 2, nameIndex := 39, descriptorIndex := 12, attributes := #[] }, { accessFlags := 2, nameIndex := 42, descriptorIndex := 12, attributes := #[] }, { accessFlags := 2, nameIndex := 45, descriptorIndex := 12, attributes := #[] }, { accessFlags := 2, nameIndex := 48, descriptorIndex := 12, attributes := #[] }])
  fields := #[{ name := "MCS", type := .int, accessFlags := 25, slot := 0, constantValue := 0 }, { name := "CLH", type := .int, accessFlags := 25, slot := 1, constantValue := 0 }, { name := "IDLE", type := .int, accessFlags := 25, slot := 2, constantValue := 0 }, { name := "WAITING", type := .int, accessFlags := 25, slot := 3, constantValue := 0 }, { name := "GRANTED", type := .int, accessFlags := 25, slot := 4, constantValue := 0 }, { name := "HOLDING", type := .int, accessFlags := 25, slot := 5, constantValue := 0 }, { name := "ABANDONED", type := .int, accessFlags := 25, slot := 6, constantValue := 0 }, { name := "NONE", type := .int, accessFlags := 25, slot := 7, constantValue := 0 }, { name := "REFUSED", type := .int, accessFlags := 25, slot := 8, constantValue := 0 }, { name := "MIN_THREADS", type := .int, accessFlags := 25, slot := 9, constantValue := 0 }, { name := "MAX_THREADS", type := .int, accessFlags := 25, slot := 10, constantValue := 0 }, { name := "MAX_TIMEOUT", type := .int, accessFlags := 25, slot := 11, constantValue := 0 }, { name := "LOG_SIZE", type := .int, accessFlags := 25, slot := 12, constantValue := 0 }, { name := "HISTORY_SIZE", type := .int, accessFlags := 25, slot := 13, constantValue := 0 }, { name := "n", type := .int, accessFlags := 2, slot := 0, constantValue := 0 }, { name := "clk", type := .int, accessFlags := 2, slot := 1, constantValue := 0 }, { name := "st", type := (.array .int), accessFlags := 2, slot := 2, constantValue := 0 }, { name := "lk", type := (.array .int), accessFlags := 2, slot := 3, constantValue := 0 }, { name := "tmo", type := (.array .int), accessFlags := 2, slot := 4, constantValue := 0 }, { name := "spin", type := (.array .int), accessFlags := 2, slot := 5, constantValue := 0 }, { name := "nxt0", type := (.array .int), accessFlags := 2, slot := 6, constantValue := 0 }, { name := "prv1", type := (.array .int), accessFlags := 2, slot := 7, constantValue := 0 }, { name := "head", type := (.array .int), accessFlags := 2, slot := 8, constantValue := 0 }, { name := "tail", type := (.array .int), accessFlags := 2, slot := 9, constantValue := 0 }, { name := "len", type := (.array .int), accessFlags := 2, slot := 10, constantValue := 0 }, { name := "ent", type := (.array .int), accessFlags := 2, slot := 11, constantValue := 0 }, { name := "aband", type := (.array .int), accessFlags := 2, slot := 12, constantValue := 0 }, { name := "log", type := (.array .int), accessFlags := 2, slot := 13, constantValue := 0 }, { name := "hist", type := (.array .int), accessFlags := 2, slot := 14, constantValue := 0 }]
  methods := #[k2m0, k2m1, k2m2, k2m3, k2m4, k2m5, k2m6, k2m7, k2m8, k2m9, k2m10, k2m11, k2m12, k2m13, k2m14, k2m15, k2m16, k2m17, k2m18, k2m19, k2m20, k2m21, k2m22, k2m23, k2m24, k2m25, k2m26, k2m27, k2m28]
  instanceTypes := #[.int, .int, (.array .int), (.array .int), (.array .int), (.array .int), (.array .int), (.array .int), (.array .int), (.array .int), (.array .int), (.array .int), (.array .int), (.array .int), (.array .int)]
  staticTypes := #[.int, .int, .int, .int, .int, .int, .int, .int, .int, .int, .int, .int, .int, .int]
  resolved := Array.replicate 152 none
  statics := none }

def pool3 : Array CpInfo := pool [(1, u "java/lang/Cloneable"), (0, .class_ 1), (0, u "java/lang/Object"), (0, .class_ 3)] 3

/-- java/lang/Cloneable -/
def k3 : Class := { plain "java/lang/Cloneable" (some 0) with
  accessFlags := 1537
  interfaces := #[]
  cf := some (fileOf pool3 2 #[] #[] 1537 4 #[] #[])
  fields := #[]
  methods := #[]
  instanceTypes := #[]
  staticTypes := #[]
  resolved := Array.replicate 8 none
  statics := none }

def pool4 : Array CpInfo := pool [(1, u "java/io/Serializable"), (0, .class_ 1), (0, u "java/lang/Object"), (0, .class_ 3)] 3

/-- java/io/Serializable -/
def k4 : Class := { plain "java/io/Serializable" (some 0) with
  accessFlags := 1537
  interfaces := #[]
  cf := some (fileOf pool4 2 #[] #[] 1537 4 #[] #[])
  fields := #[]
  methods := #[]
  instanceTypes := #[]
  staticTypes := #[]
  resolved := Array.replicate 8 none
  statics := none }

/-- the primitive byte -/
def k5 : Class := { plain "byte" none with kind := .primitive 'B', accessFlags := 0x411 }
/-- [B -/
def k6 : Class := { plain "[B" (some 0) with kind := .array 5 .byte, interfaces := #[3, 4], accessFlags := 1041 }

/-- the primitive int -/
def k7 : Class := { plain "int" none with kind := .primitive 'I', accessFlags := 0x411 }
/-- [I -/
def k8 : Class := { plain "[I" (some 0) with kind := .array 7 .int, interfaces := #[3, 4], accessFlags := 1041 }

def heap : Heap := #[{ cls := 8, slots := #[.int 0], vm := .none }]
def classes : Array Class := #[k0, k1, k2, k3, k4, k5, k6, k7, k8]
def interned : List (Array UInt16 × Addr) := []
def slotsUsed : Nat := 1
def theMethod : MethodId := ⟨1, 1⟩
def args0 : Array Value := #[.ref 0]
def aboutOver (below : List Frame) : State where
  vm := { classes := classes, interned := interned.toArray }
  heap := heap
  slotsUsed := slotsUsed
  threads := #[{ frames := .invoking theMethod args0 :: below }]
def below0 : List Frame := [.native { method := ⟨0, 0⟩, args := #[] }]
def about1 : State := aboutOver below0
def p0 : Program := .bare "" "" ""
def e0 : Env := launch0.env 0 0 0
theorem w_frames : about1.frames = Frame.invoking theMethod args0 :: below0 := rfl
set_option maxRecDepth 65536 in
theorem w_args : argsFit about1.vm theMethod args0 = true := by decide +kernel
set_option maxRecDepth 65536 in
theorem w_heap : heapFits about1 = true := by decide +kernel
set_option maxRecDepth 65536 in
theorem w_runnable : about1.curStatus? = some .runnable := by decide +kernel
set_option maxRecDepth 65536 in
theorem w_alone : about1.alone = true := by decide +kernel
set_option maxRecDepth 65536 in
theorem w_named : about1.methodNamed? x = some theMethod := by decide +kernel
set_option maxRecDepth 65536 in
theorem w_hears : about1.hears theMethod below0 = true := by decide +kernel
set_option maxRecDepth 65536 in
theorem w_ripe : about1.ripe theMethod args0 below0 = true := by decide +kernel
theorem w_running : about1.status = .running := rfl
set_option maxRecDepth 65536 in
theorem w_room : about1.hasRoom e0.platform room_1 = true :=
  launch0.hasRoom_least _ room_1 (by decide +kernel) (by decide +kernel) (by decide +kernel) (by decide +kernel) (by decide +kernel) (by decide +kernel)
theorem allAtoms_all (ts : List Jvm.Cond) (a : Array Jvm.Value) (st : Jvm.State) : (allAtoms ts).before a st = ts.all (fun c => c.before a st) := by
  induction ts with
  | nil => rfl
  | cons c t ih =>
    show (Jvm.Cond.and c (allAtoms t)).before a st = _
    rw [Jvm.Cond.before_and, ih, List.all_cons]
def words1 : List Jvm.Cond := Jvm.Cond.code x code maxLocals ret :: tables_1
/-- a 'code' word, met by the world's own term for the bytes: nothing is compared byte by byte -/
theorem code_word {y : MethodName} {bytes : ByteArray} {mx : Nat} {rt : Option FieldType} {a : Array Value} {s : State} {m : MethodId} {meth : Method} {c : Code} (h1 : s.methodNamed? y = some m) (h2 : s.vm.method? m = some meth) (h3 : meth.code = some c) (h4 : c.code = bytes)
    (h5 : (c.maxLocals == mx && c.exceptionTable.isEmpty && decide (c.maxStack ≤ mostOperands) && decide (meth.sig.returnType = rt) && !meth.locks && decide (parseMethodDescriptor y.desc = some meth.sig)) = true) : (Jvm.Cond.code y bytes mx rt).before a s = true := by
  simp only [Bool.and_eq_true, beq_iff_eq, Bool.not_eq_true', decide_eq_true_eq] at h5
  obtain ⟨⟨⟨⟨⟨g1, g2⟩, g3⟩, g4⟩, g5⟩, g6⟩ := h5
  simp [Cond.before, Cond.holds, Cond.value, h1, h2, h3, h4, g1, g2, g3, g4, g5, g6]
def isCode : Jvm.Cond → Bool
  | .code _ _ _ _ => true
  | _ => false
theorem all_split {L : List Jvm.Cond} {P : Jvm.Cond → Bool} (h1 : L.all (fun c => isCode c || P c) = true) (h2 : ∀ c ∈ L.filter isCode, P c = true) : L.all P = true := by
  refine List.all_eq_true.mpr fun c hc => ?_
  have h := List.all_eq_true.mp h1 c hc
  rcases Bool.eq_false_or_eq_true (isCode c) with hi | hi
  · exact h2 c (List.mem_filter.mpr ⟨hc, hi⟩)
  · simpa [hi] using h
set_option maxRecDepth 65536 in
theorem w_c0 : (Jvm.Cond.code x code maxLocals ret).before args0 about1 = true := code_word (m := ⟨1, 1⟩) (meth := k1m1) (c := k1c1) (by decide +kernel) rfl rfl rfl (by decide +kernel)
set_option maxRecDepth 65536 in
theorem w_c1 : (Jvm.Cond.code ({ cls := "QueueLocks", name := "<init>", desc := "(I)V" } : Jvm.MethodName) prog_1_method_1_code (4 : Nat) (Option.none : Option Jvm.ClassFile.FieldType)).before args0 about1 = true := code_word (m := ⟨2, 0⟩) (meth := k2m0) (c := k2c0) (by decide +kernel) rfl rfl rfl (by decide +kernel)
set_option maxRecDepth 65536 in
theorem w_c2 : (Jvm.Cond.code ({ cls := "java/lang/Object", name := "<init>", desc := "()V" } : Jvm.MethodName) object_method_1_code (1 : Nat) (Option.none : Option Jvm.ClassFile.FieldType)).before args0 about1 = true := code_word (m := ⟨0, 0⟩) (meth := k0m0) (c := k0c0) (by decide +kernel) rfl rfl rfl (by decide +kernel)
set_option maxRecDepth 65536 in
theorem w_c3 : (Jvm.Cond.code ({ cls := "QueueLocks", name := "state", desc := "(I)I" } : Jvm.MethodName) prog_1_method_19_code (2 : Nat) (Option.some Jvm.ClassFile.FieldType.int)).before args0 about1 = true := code_word (m := ⟨2, 18⟩) (meth := k2m18) (c := k2c18) (by decide +kernel) rfl rfl rfl (by decide +kernel)
set_option maxRecDepth 65536 in
theorem w_c4 : (Jvm.Cond.code ({ cls := "QueueLocks", name := "validThread", desc := "(I)Z" } : Jvm.MethodName) prog_1_method_2_code (2 : Nat) (Option.some Jvm.ClassFile.FieldType.boolean)).before args0 about1 = true := code_word (m := ⟨2, 1⟩) (meth := k2m1) (c := k2c1) (by decide +kernel) rfl rfl rfl (by decide +kernel)
set_option maxRecDepth 65536 in
theorem w_c5 : (Jvm.Cond.code ({ cls := "QueueLocks", name := "lockOf", desc := "(I)I" } : Jvm.MethodName) prog_1_method_20_code (2 : Nat) (Option.some Jvm.ClassFile.FieldType.int)).before args0 about1 = true := code_word (m := ⟨2, 19⟩) (meth := k2m19) (c := k2c19) (by decide +kernel) rfl rfl rfl (by decide +kernel)
set_option maxRecDepth 65536 in
theorem w_c6 : (Jvm.Cond.code ({ cls := "QueueLocks", name := "spins", desc := "(I)I" } : Jvm.MethodName) prog_1_method_25_code (2 : Nat) (Option.some Jvm.ClassFile.FieldType.int)).before args0 about1 = true := code_word (m := ⟨2, 24⟩) (meth := k2m24) (c := k2c24) (by decide +kernel) rfl rfl rfl (by decide +kernel)
set_option maxRecDepth 65536 in
theorem w_c7 : (Jvm.Cond.code ({ cls := "QueueLocks", name := "step", desc := "(I)I" } : Jvm.MethodName) prog_1_method_15_code (5 : Nat) (Option.some Jvm.ClassFile.FieldType.int)).before args0 about1 = true := code_word (m := ⟨2, 14⟩) (meth := k2m14) (c := k2c14) (by decide +kernel) rfl rfl rfl (by decide +kernel)
set_option maxRecDepth 65536 in
theorem w_c8 : (Jvm.Cond.code ({ cls := "QueueLocks", name := "clock", desc := "()I" } : Jvm.MethodName) prog_1_method_29_code (1 : Nat) (Option.some Jvm.ClassFile.FieldType.int)).before args0 about1 = true := code_word (m := ⟨2, 28⟩) (meth := k2m28) (c := k2c28) (by decide +kernel) rfl rfl rfl (by decide +kernel)
set_option maxRecDepth 65536 in
theorem w_c9 : (Jvm.Cond.code ({ cls := "QueueLocks", name := "entries", desc := "(I)I" } : Jvm.MethodName) prog_1_method_26_code (2 : Nat) (Option.some Jvm.ClassFile.FieldType.int)).before args0 about1 = true := code_word (m := ⟨2, 25⟩) (meth := k2m25) (c := k2c25) (by decide +kernel) rfl rfl rfl (by decide +kernel)
set_option maxRecDepth 65536 in
theorem w_c10 : (Jvm.Cond.code ({ cls := "QueueLocks", name := "validLock", desc := "(I)Z" } : Jvm.MethodName) prog_1_method_3_code (2 : Nat) (Option.some Jvm.ClassFile.FieldType.boolean)).before args0 about1 = true := code_word (m := ⟨2, 2⟩) (meth := k2m2) (c := k2c2) (by decide +kernel) rfl rfl rfl (by decide +kernel)
set_option maxRecDepth 65536 in
theorem w_c11 : (Jvm.Cond.code ({ cls := "QueueLocks", name := "abandons", desc := "(I)I" } : Jvm.MethodName) prog_1_method_28_code (2 : Nat) (Option.some Jvm.ClassFile.FieldType.int)).before args0 about1 = true := code_word (m := ⟨2, 27⟩) (meth := k2m27) (c := k2c27) (by decide +kernel) rfl rfl rfl (by decide +kernel)
set_option maxRecDepth 65536 in
theorem w_c12 : (Jvm.Cond.code ({ cls := "QueueLocks", name := "queueLength", desc := "(I)I" } : Jvm.MethodName) prog_1_method_24_code (2 : Nat) (Option.some Jvm.ClassFile.FieldType.int)).before args0 about1 = true := code_word (m := ⟨2, 23⟩) (meth := k2m23) (c := k2c23) (by decide +kernel) rfl rfl rfl (by decide +kernel)
set_option maxRecDepth 65536 in
theorem w_c13 : (Jvm.Cond.code ({ cls := "QueueLocks", name := "holder", desc := "(I)I" } : Jvm.MethodName) prog_1_method_17_code (3 : Nat) (Option.some Jvm.ClassFile.FieldType.int)).before args0 about1 = true := code_word (m := ⟨2, 16⟩) (meth := k2m16) (c := k2c16) (by decide +kernel) rfl rfl rfl (by decide +kernel)
set_option maxRecDepth 65536 in
theorem w_c14 : (Jvm.Cond.code ({ cls := "QueueLocks", name := "inNodes", desc := "(I)Z" } : Jvm.MethodName) prog_1_method_4_code (2 : Nat) (Option.some Jvm.ClassFile.FieldType.boolean)).before args0 about1 = true := code_word (m := ⟨2, 3⟩) (meth := k2m3) (c := k2c3) (by decide +kernel) rfl rfl rfl (by decide +kernel)
set_option maxRecDepth 65536 in
theorem w_c15 : (Jvm.Cond.code ({ cls := "QueueLocks", name := "acquire", desc := "(III)I" } : Jvm.MethodName) prog_1_method_13_code (5 : Nat) (Option.some Jvm.ClassFile.FieldType.int)).before args0 about1 = true := code_word (m := ⟨2, 12⟩) (meth := k2m12) (c := k2c12) (by decide +kernel) rfl rfl rfl (by decide +kernel)
set_option maxRecDepth 65536 in
theorem w_c16 : (Jvm.Cond.code ({ cls := "QueueLocks", name := "clampTimeout", desc := "(I)I" } : Jvm.MethodName) prog_1_method_5_code (2 : Nat) (Option.some Jvm.ClassFile.FieldType.int)).before args0 about1 = true := code_word (m := ⟨2, 4⟩) (meth := k2m4) (c := k2c4) (by decide +kernel) rfl rfl rfl (by decide +kernel)
set_option maxRecDepth 65536 in
theorem w_c17 : (Jvm.Cond.code ({ cls := "QueueLocks", name := "append", desc := "(II)V" } : Jvm.MethodName) prog_1_method_8_code (4 : Nat) (Option.none : Option Jvm.ClassFile.FieldType)).before args0 about1 = true := code_word (m := ⟨2, 7⟩) (meth := k2m7) (c := k2c7) (by decide +kernel) rfl rfl rfl (by decide +kernel)
set_option maxRecDepth 65536 in
theorem w_c18 : (Jvm.Cond.code ({ cls := "QueueLocks", name := "enter", desc := "(II)V" } : Jvm.MethodName) prog_1_method_6_code (4 : Nat) (Option.none : Option Jvm.ClassFile.FieldType)).before args0 about1 = true := code_word (m := ⟨2, 5⟩) (meth := k2m5) (c := k2c5) (by decide +kernel) rfl rfl rfl (by decide +kernel)
set_option maxRecDepth 65536 in
theorem w_c19 : (Jvm.Cond.code ({ cls := "QueueLocks", name := "recordHistory", desc := "()V" } : Jvm.MethodName) prog_1_method_7_code (3 : Nat) (Option.none : Option Jvm.ClassFile.FieldType)).before args0 about1 = true := code_word (m := ⟨2, 6⟩) (meth := k2m6) (c := k2c6) (by decide +kernel) rfl rfl rfl (by decide +kernel)
set_option maxRecDepth 65536 in
theorem w_c20 : (Jvm.Cond.code ({ cls := "QueueLocks", name := "holderAt", desc := "(II)I" } : Jvm.MethodName) prog_1_method_18_code (3 : Nat) (Option.some Jvm.ClassFile.FieldType.int)).before args0 about1 = true := code_word (m := ⟨2, 17⟩) (meth := k2m17) (c := k2c17) (by decide +kernel) rfl rfl rfl (by decide +kernel)
set_option maxRecDepth 65536 in
theorem w_c21 : (Jvm.Cond.code ({ cls := "QueueLocks", name := "entryAt", desc := "(II)I" } : Jvm.MethodName) prog_1_method_27_code (3 : Nat) (Option.some Jvm.ClassFile.FieldType.int)).before args0 about1 = true := code_word (m := ⟨2, 26⟩) (meth := k2m26) (c := k2c26) (by decide +kernel) rfl rfl rfl (by decide +kernel)
set_option maxRecDepth 65536 in
theorem w_c22 : (Jvm.Cond.code ({ cls := "QueueLocks", name := "release", desc := "(I)I" } : Jvm.MethodName) prog_1_method_16_code (4 : Nat) (Option.some Jvm.ClassFile.FieldType.int)).before args0 about1 = true := code_word (m := ⟨2, 15⟩) (meth := k2m15) (c := k2c15) (by decide +kernel) rfl rfl rfl (by decide +kernel)
set_option maxRecDepth 65536 in
theorem w_c23 : (Jvm.Cond.code ({ cls := "QueueLocks", name := "popFront", desc := "(I)I" } : Jvm.MethodName) prog_1_method_11_code (4 : Nat) (Option.some Jvm.ClassFile.FieldType.int)).before args0 about1 = true := code_word (m := ⟨2, 10⟩) (meth := k2m10) (c := k2c10) (by decide +kernel) rfl rfl rfl (by decide +kernel)
set_option maxRecDepth 65536 in
theorem w_c24 : (Jvm.Cond.code ({ cls := "QueueLocks", name := "successorClh", desc := "(I)I" } : Jvm.MethodName) prog_1_method_9_code (3 : Nat) (Option.some Jvm.ClassFile.FieldType.int)).before args0 about1 = true := code_word (m := ⟨2, 8⟩) (meth := k2m8) (c := k2c8) (by decide +kernel) rfl rfl rfl (by decide +kernel)
set_option maxRecDepth 65536 in
theorem w_c25 : (Jvm.Cond.code ({ cls := "QueueLocks", name := "spinOnce", desc := "(II)I" } : Jvm.MethodName) prog_1_method_14_code (3 : Nat) (Option.some Jvm.ClassFile.FieldType.int)).before args0 about1 = true := code_word (m := ⟨2, 13⟩) (meth := k2m13) (c := k2c13) (by decide +kernel) rfl rfl rfl (by decide +kernel)
set_option maxRecDepth 65536 in
theorem w_c26 : (Jvm.Cond.code ({ cls := "QueueLocks", name := "unlink", desc := "(II)V" } : Jvm.MethodName) prog_1_method_12_code (5 : Nat) (Option.none : Option Jvm.ClassFile.FieldType)).before args0 about1 = true := code_word (m := ⟨2, 11⟩) (meth := k2m11) (c := k2c11) (by decide +kernel) rfl rfl rfl (by decide +kernel)
set_option maxRecDepth 65536 in
theorem w_c27 : (Jvm.Cond.code ({ cls := "QueueLocks", name := "predecessorMcs", desc := "(I)I" } : Jvm.MethodName) prog_1_method_10_code (4 : Nat) (Option.some Jvm.ClassFile.FieldType.int)).before args0 about1 = true := code_word (m := ⟨2, 9⟩) (meth := k2m9) (c := k2c9) (by decide +kernel) rfl rfl rfl (by decide +kernel)
set_option maxRecDepth 65536 in
theorem w_c28 : (Jvm.Cond.code ({ cls := "QueueLocks", name := "ahead", desc := "(I)I" } : Jvm.MethodName) prog_1_method_23_code (2 : Nat) (Option.some Jvm.ClassFile.FieldType.int)).before args0 about1 = true := code_word (m := ⟨2, 22⟩) (meth := k2m22) (c := k2c22) (by decide +kernel) rfl rfl rfl (by decide +kernel)
set_option maxRecDepth 65536 in
theorem w_c29 : (Jvm.Cond.code ({ cls := "QueueLocks", name := "aheadMcs", desc := "(I)I" } : Jvm.MethodName) prog_1_method_21_code (4 : Nat) (Option.some Jvm.ClassFile.FieldType.int)).before args0 about1 = true := code_word (m := ⟨2, 20⟩) (meth := k2m20) (c := k2c20) (by decide +kernel) rfl rfl rfl (by decide +kernel)
set_option maxRecDepth 65536 in
theorem w_c30 : (Jvm.Cond.code ({ cls := "QueueLocks", name := "aheadClh", desc := "(I)I" } : Jvm.MethodName) prog_1_method_22_code (5 : Nat) (Option.some Jvm.ClassFile.FieldType.int)).before args0 about1 = true := code_word (m := ⟨2, 21⟩) (meth := k2m21) (c := k2c21) (by decide +kernel) rfl rfl rfl (by decide +kernel)
def codes1 : List Jvm.Cond := [Jvm.Cond.code x code maxLocals ret, Jvm.Cond.code ({ cls := "QueueLocks", name := "<init>", desc := "(I)V" } : Jvm.MethodName) prog_1_method_1_code (4 : Nat) (Option.none : Option Jvm.ClassFile.FieldType), Jvm.Cond.code ({ cls := "java/lang/Object", name := "<init>", desc := "()V" } : Jvm.MethodName) object_method_1_code (1 : Nat) (Option.none : Option Jvm.ClassFile.FieldType), Jvm.Cond.code ({ cls := "QueueLocks", name := "state", desc := "(I)I" } : Jvm.MethodName) prog_1_method_19_code (2 : Nat) (Option.some Jvm.ClassFile.FieldType.int), Jvm.Cond.code ({ cls := "QueueLocks", name := "validThread", desc := "(I)Z" } : Jvm.MethodName) prog_1_method_2_code (2 : Nat) (Option.some Jvm.ClassFile.FieldType.boolean), Jvm.Cond.code ({ cls := "QueueLocks", name := "lockOf", desc := "(I)I" } : Jvm.MethodName) prog_1_method_20_code (2 : Nat) (Option.some Jvm.ClassFile.FieldType.int), Jvm.Cond.code ({ cls := "QueueLocks", name := "spins", desc := "(I)I" } : Jvm.MethodName) prog_1_method_25_code (2 : Nat) (Option.some Jvm.ClassFile.FieldType.int), Jvm.Cond.code ({ cls := "QueueLocks", name := "step", desc := "(I)I" } : Jvm.MethodName) prog_1_method_15_code (5 : Nat) (Option.some Jvm.ClassFile.FieldType.int), Jvm.Cond.code ({ cls := "QueueLocks", name := "clock", desc := "()I" } : Jvm.MethodName) prog_1_method_29_code (1 : Nat) (Option.some Jvm.ClassFile.FieldType.int), Jvm.Cond.code ({ cls := "QueueLocks", name := "entries", desc := "(I)I" } : Jvm.MethodName) prog_1_method_26_code (2 : Nat) (Option.some Jvm.ClassFile.FieldType.int), Jvm.Cond.code ({ cls := "QueueLocks", name := "validLock", desc := "(I)Z" } : Jvm.MethodName) prog_1_method_3_code (2 : Nat) (Option.some Jvm.ClassFile.FieldType.boolean), Jvm.Cond.code ({ cls := "QueueLocks", name := "abandons", desc := "(I)I" } : Jvm.MethodName) prog_1_method_28_code (2 : Nat) (Option.some Jvm.ClassFile.FieldType.int), Jvm.Cond.code ({ cls := "QueueLocks", name := "queueLength", desc := "(I)I" } : Jvm.MethodName) prog_1_method_24_code (2 : Nat) (Option.some Jvm.ClassFile.FieldType.int), Jvm.Cond.code ({ cls := "QueueLocks", name := "holder", desc := "(I)I" } : Jvm.MethodName) prog_1_method_17_code (3 : Nat) (Option.some Jvm.ClassFile.FieldType.int), Jvm.Cond.code ({ cls := "QueueLocks", name := "inNodes", desc := "(I)Z" } : Jvm.MethodName) prog_1_method_4_code (2 : Nat) (Option.some Jvm.ClassFile.FieldType.boolean), Jvm.Cond.code ({ cls := "QueueLocks", name := "acquire", desc := "(III)I" } : Jvm.MethodName) prog_1_method_13_code (5 : Nat) (Option.some Jvm.ClassFile.FieldType.int), Jvm.Cond.code ({ cls := "QueueLocks", name := "clampTimeout", desc := "(I)I" } : Jvm.MethodName) prog_1_method_5_code (2 : Nat) (Option.some Jvm.ClassFile.FieldType.int), Jvm.Cond.code ({ cls := "QueueLocks", name := "append", desc := "(II)V" } : Jvm.MethodName) prog_1_method_8_code (4 : Nat) (Option.none : Option Jvm.ClassFile.FieldType), Jvm.Cond.code ({ cls := "QueueLocks", name := "enter", desc := "(II)V" } : Jvm.MethodName) prog_1_method_6_code (4 : Nat) (Option.none : Option Jvm.ClassFile.FieldType), Jvm.Cond.code ({ cls := "QueueLocks", name := "recordHistory", desc := "()V" } : Jvm.MethodName) prog_1_method_7_code (3 : Nat) (Option.none : Option Jvm.ClassFile.FieldType), Jvm.Cond.code ({ cls := "QueueLocks", name := "holderAt", desc := "(II)I" } : Jvm.MethodName) prog_1_method_18_code (3 : Nat) (Option.some Jvm.ClassFile.FieldType.int), Jvm.Cond.code ({ cls := "QueueLocks", name := "entryAt", desc := "(II)I" } : Jvm.MethodName) prog_1_method_27_code (3 : Nat) (Option.some Jvm.ClassFile.FieldType.int), Jvm.Cond.code ({ cls := "QueueLocks", name := "release", desc := "(I)I" } : Jvm.MethodName) prog_1_method_16_code (4 : Nat) (Option.some Jvm.ClassFile.FieldType.int), Jvm.Cond.code ({ cls := "QueueLocks", name := "popFront", desc := "(I)I" } : Jvm.MethodName) prog_1_method_11_code (4 : Nat) (Option.some Jvm.ClassFile.FieldType.int), Jvm.Cond.code ({ cls := "QueueLocks", name := "successorClh", desc := "(I)I" } : Jvm.MethodName) prog_1_method_9_code (3 : Nat) (Option.some Jvm.ClassFile.FieldType.int), Jvm.Cond.code ({ cls := "QueueLocks", name := "spinOnce", desc := "(II)I" } : Jvm.MethodName) prog_1_method_14_code (3 : Nat) (Option.some Jvm.ClassFile.FieldType.int), Jvm.Cond.code ({ cls := "QueueLocks", name := "unlink", desc := "(II)V" } : Jvm.MethodName) prog_1_method_12_code (5 : Nat) (Option.none : Option Jvm.ClassFile.FieldType), Jvm.Cond.code ({ cls := "QueueLocks", name := "predecessorMcs", desc := "(I)I" } : Jvm.MethodName) prog_1_method_10_code (4 : Nat) (Option.some Jvm.ClassFile.FieldType.int), Jvm.Cond.code ({ cls := "QueueLocks", name := "ahead", desc := "(I)I" } : Jvm.MethodName) prog_1_method_23_code (2 : Nat) (Option.some Jvm.ClassFile.FieldType.int), Jvm.Cond.code ({ cls := "QueueLocks", name := "aheadMcs", desc := "(I)I" } : Jvm.MethodName) prog_1_method_21_code (4 : Nat) (Option.some Jvm.ClassFile.FieldType.int), Jvm.Cond.code ({ cls := "QueueLocks", name := "aheadClh", desc := "(I)I" } : Jvm.MethodName) prog_1_method_22_code (5 : Nat) (Option.some Jvm.ClassFile.FieldType.int)]
set_option maxRecDepth 65536 in
theorem codes_eq : words1.filter isCode = codes1 := rfl
theorem w_codes : ∀ c ∈ words1.filter isCode, c.before args0 about1 = true := by
  rw [codes_eq]
  intro c hc
  simp only [codes1, List.mem_cons, List.not_mem_nil, or_false] at hc
  rcases hc with rfl | rfl | rfl | rfl | rfl | rfl | rfl | rfl | rfl | rfl | rfl | rfl | rfl | rfl | rfl | rfl | rfl | rfl | rfl | rfl | rfl | rfl | rfl | rfl | rfl | rfl | rfl | rfl | rfl | rfl | rfl
  · exact w_c0
  · exact w_c1
  · exact w_c2
  · exact w_c3
  · exact w_c4
  · exact w_c5
  · exact w_c6
  · exact w_c7
  · exact w_c8
  · exact w_c9
  · exact w_c10
  · exact w_c11
  · exact w_c12
  · exact w_c13
  · exact w_c14
  · exact w_c15
  · exact w_c16
  · exact w_c17
  · exact w_c18
  · exact w_c19
  · exact w_c20
  · exact w_c21
  · exact w_c22
  · exact w_c23
  · exact w_c24
  · exact w_c25
  · exact w_c26
  · exact w_c27
  · exact w_c28
  · exact w_c29
  · exact w_c30
set_option maxRecDepth 65536 in
theorem w_t1 : (words1.take 24).all (fun c => isCode c || c.before args0 about1) = true := by decide +kernel
set_option maxRecDepth 65536 in
theorem w_t2 : ((words1.drop 24).take 24).all (fun c => isCode c || c.before args0 about1) = true := by decide +kernel
set_option maxRecDepth 65536 in
theorem w_t3 : (((words1.drop 24).drop 24).take 24).all (fun c => isCode c || c.before args0 about1) = true := by decide +kernel
set_option maxRecDepth 65536 in
theorem w_t4 : ((((words1.drop 24).drop 24).drop 24).take 24).all (fun c => isCode c || c.before args0 about1) = true := by decide +kernel
set_option maxRecDepth 65536 in
theorem w_t5 : (((((words1.drop 24).drop 24).drop 24).drop 24).take 24).all (fun c => isCode c || c.before args0 about1) = true := by decide +kernel
set_option maxRecDepth 65536 in
theorem w_t6 : ((((((words1.drop 24).drop 24).drop 24).drop 24).drop 24).take 24).all (fun c => isCode c || c.before args0 about1) = true := by decide +kernel
set_option maxRecDepth 65536 in
theorem w_t7 : (((((((words1.drop 24).drop 24).drop 24).drop 24).drop 24).drop 24).take 24).all (fun c => isCode c || c.before args0 about1) = true := by decide +kernel
set_option maxRecDepth 65536 in
theorem w_t8 : (((((((words1.drop 24).drop 24).drop 24).drop 24).drop 24).drop 24).drop 24).all (fun c => isCode c || c.before args0 about1) = true := by decide +kernel
theorem w_tables : (allAtoms (Jvm.Cond.code x code maxLocals ret :: tables_1)).before args0 about1 = true := by
  rw [allAtoms_all]
  show words1.all (fun c => c.before args0 about1) = true
  refine all_split ?_ w_codes
  rw [← List.take_append_drop 24 words1, List.all_append, w_t1, ← List.take_append_drop 24 (words1.drop 24), List.all_append, w_t2, ← List.take_append_drop 24 ((words1.drop 24).drop 24), List.all_append, w_t3, ← List.take_append_drop 24 (((words1.drop 24).drop 24).drop 24), List.all_append, w_t4, ← List.take_append_drop 24 ((((words1.drop 24).drop 24).drop 24).drop 24), List.all_append, w_t5, ← List.take_append_drop 24 (((((words1.drop 24).drop 24).drop 24).drop 24).drop 24), List.all_append, w_t6, ← List.take_append_drop 24 ((((((words1.drop 24).drop 24).drop 24).drop 24).drop 24).drop 24), List.all_append, w_t7, w_t8]
  rfl
set_option maxRecDepth 65536 in
theorem w_rest : rest_1_c.before args0 about1 = true := by decide +kernel
set_option maxRecDepth 65536 in
theorem w_case : (Jvm.Cond.and given_1 narrow_1).before args0 about1 = true := by decide +kernel
theorem w_applies : (headSpec (Jvm.Cond.code x code maxLocals ret :: tables_1) room_1).applies x e0.platform about1 = true :=
  (Spec.applies_iff w_frames).mpr ⟨w_running, w_runnable, w_alone, w_named, w_hears, w_ripe, w_room, w_tables⟩
theorem atStart : AtStart classFile x code maxLocals ret World_1 tables_1 room_1 Calls_1 rest_1 Pre_1 launch0 p0 e0 about1 theMethod args0 below0 :=
  ⟨lists_1, trivial, launch0.admits_env _ _ _, launch0.least_env, fairChoices_fair.cas, fairChoices_fair.clock, w_frames, w_args, w_heap, w_applies, trivial, w_rest, w_case⟩
end start1
theorem witness_1 : WitnessClaimed_1 := ⟨start1.p0, start1.e0, start1.about1, start1.theMethod, start1.args0, start1.below0, start1.atStart⟩
end Jvm.Pilot.@@N@@
