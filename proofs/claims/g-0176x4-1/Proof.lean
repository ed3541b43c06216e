import JvmDerived
import JvmDerived.Pilot.@@N@@Statement
import JvmDerived.Pilot.@@N@@Code
set_option linter.unusedVariables false
set_option linter.unusedSimpArgs false
/-! # A small executor over an abstract heap, and that it is sound for the model (Stand's family). Same text in every claim. -/
namespace Jvm.OwnX
open Sem ClassFile Op Lib Jvm.Stand Jvm.Free Jvm.LawKit Jvm.RoadKit
/-- a cell: an object's fields; an array of ints (0: handed in; 1), booleans (2), bytes (3); an array of longs -/
abbrev ACell := Sum (List Value) (Sum (Nat × List Int32) (List Int64))
abbrev AHeap := List ACell
abbrev ALoc := List (Option Value)
/-- a method: class, maxLocals, how many it pops, what it returns, is it a constructor, frames, locals -/
abbrev MI := Nat × Nat × Nat × Option FieldType × Bool × Nat × Nat
/-- code | methods | method links (kind, callee) | field links | constants | fields (name, descriptor, kind, final) | slots of an object | read-only cells | cells at most | slots at most -/
def Prog : Type := (Nat → Nat → Option (Instr × Nat)) × (Nat → MI) × (Nat → Nat → Option (Nat × Nat)) × (Nat → Nat → Option Nat) × (Nat → Nat → Option Value) × List (String × String × Nat × Bool) × Nat × Nat × Nat × Nat
def Prog.code (P : Prog) : Nat → Nat → Option (Instr × Nat) := P.1
def Prog.mi (P : Prog) : Nat → MI := P.2.1
def Prog.link (P : Prog) : Nat → Nat → Option (Nat × Nat) := P.2.2.1
def Prog.fld (P : Prog) : Nat → Nat → Option Nat := P.2.2.2.1
def Prog.kon (P : Prog) : Nat → Nat → Option Value := P.2.2.2.2.1
def Prog.fields (P : Prog) : List (String × String × Nat × Bool) := P.2.2.2.2.2.1
def Prog.objN (P : Prog) : Nat := P.2.2.2.2.2.2.1
def Prog.ro (P : Prog) : Nat := P.2.2.2.2.2.2.2.1
def Prog.capC (P : Prog) : Nat := P.2.2.2.2.2.2.2.2.1
def Prog.capS (P : Prog) : Nat := P.2.2.2.2.2.2.2.2.2
def Prog.cls (P : Prog) (k : Nat) : Nat := (P.mi k).1
def Prog.maxL (P : Prog) (k : Nat) : Nat := (P.mi k).2.1
def Prog.pops (P : Prog) (k : Nat) : Nat := (P.mi k).2.2.1
def Prog.ret (P : Prog) (k : Nat) : Option FieldType := (P.mi k).2.2.2.1
def Prog.ini (P : Prog) (k : Nat) : Bool := (P.mi k).2.2.2.2.1
def Prog.rf (P : Prog) (k : Nat) : Nat := (P.mi k).2.2.2.2.2.1
def Prog.rl (P : Prog) (k : Nat) : Nat := (P.mi k).2.2.2.2.2.2
def dflt : Nat → Value
  | 0 => .int 0
  | 1 => .int 0
  | 2 => .long 0
  | _ => .null
def Prog.fresh (P : Prog) : List Value := P.fields.map fun f => dflt f.2.2.1
/-- is j a place of an array of n -/
def inb (n : Nat) (j : Int32) : Bool := !(decide (j < 0)) && Nat.ble (j.toNatClampNeg + 1) n
def rd (xs : List Int32) (j : Int32) : Int32 := xs.getD j.toNatClampNeg 0
def wr (xs : List Int32) (j : Int32) (v : Int32) : List Int32 := xs.set j.toNatClampNeg v
def rdL (xs : List Int64) (j : Int32) : Int64 := xs.getD j.toNatClampNeg 0
def wrL (xs : List Int64) (j : Int32) (v : Int64) : List Int64 := xs.set j.toNatClampNeg v
def kill1 (L : ALoc) (i : Nat) : ALoc :=
  match i with
  | 0 => L
  | i + 1 => match L[i]? with
    | some (some (.long _)) => L.set i none
    | _ => L
def lput (L : ALoc) (i : Nat) (v : Value) : Option ALoc := bif Nat.ble (i + 1) L.length then some ((kill1 L i).set i (some v)) else none
def lputL (L : ALoc) (i : Nat) (v : Int64) : Option ALoc := bif Nat.ble (i + 2) L.length then some (((kill1 L i).set i (some (.long v))).set (i + 1) none) else none
def entL : List Value → ALoc
  | [] => []
  | .long v :: r => some (.long v) :: none :: entL r
  | v :: r => some v :: entL r
def pad (n : Nat) (L : ALoc) : ALoc := L ++ List.replicate (n - L.length) none
def entry (P : Prog) (k : Nat) (as : List Value) : ALoc := pad (P.maxL k) (entL as)
def cat (v : Value) : Nat := match v with | .long _ => 2 | _ => 1
def cats : List Value → Nat
  | [] => 0
  | v :: r => cat v + cats r
def okV : Value → Bool
  | .int _ => true | .long _ => true | .ref _ => true | .null => true | _ => false
def csz : Nat → ACell → Nat
  | n, .inl _ => n
  | _, .inr (.inl (0, _)) => 0
  | _, .inr (.inl (_, x)) => x.length
  | _, .inr (.inr x) => x.length
def hsz (P : Prog) : AHeap → Nat
  | [] => 0
  | c :: r => csz P.objN c + hsz P r
/-- how long an instruction is (0: as decode says) -/
def ilen : Instr → Nat
  | .iload _ => 2 | .lload _ => 2 | .aload _ => 2 | .istore _ => 2 | .lstore _ => 2 | .astore _ => 2 | .bipush _ => 2 | .ldc _ => 2 | .newarray _ => 2
  | .iinc _ _ => 3 | .sipush _ => 3 | .goto _ => 3 | .ifCond _ _ => 3 | .if_icmp _ _ => 3 | .getfield _ => 3 | .putfield _ => 3 | .new _ => 3 | .invokespecial _ => 3 | .invokestatic _ => 3 | .invokevirtual _ => 3 | .ldc2_w _ => 3
  | .tableswitch _ _ _ _ => 0
  | _ => 1
def tgt (pc : Nat) (o : Int) : Option Nat := match (pc : Int) + o with | .ofNat n => some n | .negSucc _ => none
def ish (x y : Int32) : Int32 := x <<< (y &&& 31)
def isr (x y : Int32) : Int32 := x >>> (y &&& 31)
def ush (x y : Int32) : Int32 := (x.toUInt32 >>> (y &&& 31).toUInt32).toInt32
def lsh (x : Int64) (y : Int32) : Int64 := x <<< (y &&& 0x3f).toInt64
def lus (x : Int64) (y : Int32) : Int64 := (x.toUInt64 >>> (y &&& 0x3f).toInt64.toUInt64).toInt64
def lcm (x y : Int64) : Int32 := if x > y then 1 else if x = y then 0 else -1
def i8 (x : Int32) : Int32 := x.toInt8.toInt32
def aop : Instr → Option (Int32 → Int32 → Int32)
  | .iadd => some fun x y => x + y
  | .isub => some fun x y => x - y
  | .imul => some fun x y => x * y
  | .iand => some fun x y => x &&& y
  | .ior => some fun x y => x ||| y
  | .ixor => some fun x y => x ^^^ y
  | .ishl => some fun x y => x <<< (y &&& 31)
  | .ishr => some fun x y => x >>> (y &&& 31)
  | .iushr => some fun x y => (x.toUInt32 >>> (y &&& 31).toUInt32).toInt32
  | _ => none
def lop : Instr → Option (Int64 → Int64 → Int64)
  | .ladd => some fun x y => x + y
  | .lsub => some fun x y => x - y
  | .lmul => some fun x y => x * y
  | .land => some fun x y => x &&& y
  | .lor => some fun x y => x ||| y
  | .lxor => some fun x y => x ^^^ y
  | _ => none
def loadI (L : ALoc) (n : Nat) : Option Int32 := match L[n]? with | some (some (.int x)) => some x | _ => none
def loadJ (L : ALoc) (n : Nat) : Option Int64 := match L[n]? with | some (some (.long x)) => some x | _ => none
def loadA (L : ALoc) (n : Nat) : Option Nat := match L[n]? with | some (some (.ref a)) => some a | _ => none
def getC (H : AHeap) (a j : Nat) : Option Value := match H[a]? with | some (.inl fs) => fs[j]? | _ => none
def conv (t : Nat) (v : Value) : Option Value :=
  match t, v with
  | 0, .int x => some (.int x)
  | 1, .int x => some (.int (x &&& 1))
  | 2, .long x => some (.long x)
  | 3, .ref a => some (.ref a)
  | _, _ => none
/-- a step within one frame -/
abbrev St := Nat × ALoc × List Value × AHeap
def atyOf : ArrayType → Option Nat
  | .int => some 1 | .boolean => some 2 | .byte => some 3 | .long => some 4 | _ => none
def newC (t n : Nat) : ACell := match t with | 4 => .inr (.inr (List.replicate n 0)) | t => .inr (.inl (t, List.replicate n 0))
def isObjInit (P : Prog) (k j : Nat) : Bool := match P.link (P.cls k) j with | some (4, _) => true | _ => false
/-- what is stored into an array of that kind -/
def narA (t : Nat) (x : Int32) : Int32 := match t with | 2 => x &&& 1 | 3 => x.toInt8.toInt32 | _ => x
def step (P : Prog) (k : Nat) (i : Instr) (np pc : Nat) (L : ALoc) (S : List Value) (H : AHeap) : Option St :=
  match i with
  | .iload_n n => match loadI L n.val with | some x => some (np, L, .int x :: S, H) | none => none
  | .iload n => match loadI L n with | some x => some (np, L, .int x :: S, H) | none => none
  | .lload_n n => match loadJ L n.val with | some x => some (np, L, .long x :: S, H) | none => none
  | .lload n => match loadJ L n with | some x => some (np, L, .long x :: S, H) | none => none
  | .aload_n n => match loadA L n.val with | some x => some (np, L, .ref x :: S, H) | none => none
  | .aload n => match loadA L n with | some x => some (np, L, .ref x :: S, H) | none => none
  | .istore_n n => match S with | .int x :: r => (match lput L n.val (.int x) with | some L' => some (np, L', r, H) | none => none) | _ => none
  | .istore n => match S with | .int x :: r => (match lput L n (.int x) with | some L' => some (np, L', r, H) | none => none) | _ => none
  | .astore_n n => match S with | .ref x :: r => (match lput L n.val (.ref x) with | some L' => some (np, L', r, H) | none => none) | _ => none
  | .astore n => match S with | .ref x :: r => (match lput L n (.ref x) with | some L' => some (np, L', r, H) | none => none) | _ => none
  | .lstore_n n => match S with | .long x :: r => (match lputL L n.val x with | some L' => some (np, L', r, H) | none => none) | _ => none
  | .lstore n => match S with | .long x :: r => (match lputL L n x with | some L' => some (np, L', r, H) | none => none) | _ => none
  | .iinc n c => match loadI L n with | some x => (match lput L n (.int (x + Int32.ofInt c)) with | some L' => some (np, L', S, H) | none => none) | none => none
  | .iconst c => some (np, L, .int (Int32.ofInt c) :: S, H)
  | .bipush c => some (np, L, .int (Int8.ofInt c).toInt32 :: S, H)
  | .sipush c => some (np, L, .int (Int16.ofInt c).toInt32 :: S, H)
  | .lconst c => some (np, L, .long (Int64.ofNat c) :: S, H)
  | .ldc j => match P.kon (P.cls k) j with | some (.int x) => some (np, L, .int x :: S, H) | _ => none
  | .ldc2_w j => match P.kon (P.cls k) j with | some (.long x) => some (np, L, .long x :: S, H) | _ => none
  | .idiv => match S with | .int y :: .int x :: r => (bif decide (y = 0) then none else some (np, L, .int (x / y) :: r, H)) | _ => none
  | .irem => match S with | .int y :: .int x :: r => (bif decide (y = 0) then none else some (np, L, .int (x % y) :: r, H)) | _ => none
  | .lshl => match S with | .int y :: .long x :: r => some (np, L, .long (x <<< (y &&& 0x3f).toInt64) :: r, H) | _ => none
  | .lushr => match S with | .int y :: .long x :: r => some (np, L, .long ((x.toUInt64 >>> (y &&& 0x3f).toInt64.toUInt64).toInt64) :: r, H) | _ => none
  | .lcmp => match S with | .long y :: .long x :: r => some (np, L, .int (if x > y then 1 else if x = y then 0 else -1) :: r, H) | _ => none
  | .lneg => match S with | .long x :: r => some (np, L, .long (-x) :: r, H) | _ => none
  | .i2l => match S with | .int x :: r => some (np, L, .long x.toInt64 :: r, H) | _ => none
  | .l2i => match S with | .long x :: r => some (np, L, .int x.toInt32 :: r, H) | _ => none
  | .i2b => match S with | .int x :: r => some (np, L, .int x.toInt8.toInt32 :: r, H) | _ => none
  | .dup => match S with | .ref x :: r => some (np, L, .ref x :: .ref x :: r, H) | .int x :: r => some (np, L, .int x :: .int x :: r, H) | _ => none
  | .dup2 => match S with | .int x :: .ref y :: r => some (np, L, .int x :: .ref y :: .int x :: .ref y :: r, H) | _ => none
  | .pop => match S with | .int _ :: r => some (np, L, r, H) | .ref _ :: r => some (np, L, r, H) | _ => none
  | .goto o => match tgt pc o with | some t => some (t, L, S, H) | none => none
  | .ifCond cd o => match S with
    | .int x :: r => (bif if_icmp.holds cd x 0 then (match tgt pc o with | some t => some (t, L, r, H) | none => none) else some (np, L, r, H))
    | _ => none
  | .if_icmp cd o => match S with
    | .int y :: .int x :: r => (bif if_icmp.holds cd x y then (match tgt pc o with | some t => some (t, L, r, H) | none => none) else some (np, L, r, H))
    | _ => none
  | .tableswitch d lo hi offs => match S with
    | .int x :: r => (bif decide (x.toInt < lo) || decide (x.toInt > hi) then (match tgt pc d with | some t => some (t, L, r, H) | none => none)
        else (match offs.toList[(x.toInt - lo).toNat]? with | some o => (match tgt pc o with | some t => some (t, L, r, H) | none => none) | none => none))
    | _ => none
  | .getfield j => match S with
    | .ref a :: r => (match P.fld (P.cls k) j with | some f => (match getC H a f with | some v => some (np, L, v :: r, H) | none => none) | none => none)
    | _ => none
  | .putfield j => match S with
    | v :: .ref a :: r => (match P.fld (P.cls k) j with
      | some f => (match P.fields[f]? with
        | some (_, _, t, fin) => (bif (!fin || P.ini k) && Nat.ble P.ro a then (match conv t v with
          | some v' => (match H[a]? with
            | some (.inl fs) => (bif Nat.ble (f + 1) fs.length then some (np, L, r, H.set a (.inl (fs.set f v'))) else none)
            | _ => none)
          | none => none) else none)
        | none => none)
      | none => none)
    | _ => none
  | .iaload => match S with
    | .int j :: .ref a :: r => (match H[a]? with
      | some (.inr (.inl (1, xs))) => (bif inb xs.length j then some (np, L, .int (rd xs j) :: r, H) else none)
      | some (.inr (.inl (0, xs))) => (bif inb xs.length j then some (np, L, .int (rd xs j) :: r, H) else none)
      | _ => none)
    | _ => none
  | .baload => match S with
    | .int j :: .ref a :: r => (match H[a]? with
      | some (.inr (.inl (2, xs))) => (bif inb xs.length j then some (np, L, .int (rd xs j) :: r, H) else none)
      | some (.inr (.inl (3, xs))) => (bif inb xs.length j then some (np, L, .int (rd xs j) :: r, H) else none)
      | _ => none)
    | _ => none
  | .laload => match S with
    | .int j :: .ref a :: r => (match H[a]? with | some (.inr (.inr xs)) => (bif inb xs.length j then some (np, L, .long (rdL xs j) :: r, H) else none) | _ => none)
    | _ => none
  | .iastore => match S with
    | .int x :: .int j :: .ref a :: r => (bif Nat.ble P.ro a then (match H[a]? with | some (.inr (.inl (1, xs))) => (bif inb xs.length j then some (np, L, r, H.set a (.inr (.inl (1, wr xs j x)))) else none) | _ => none) else none)
    | _ => none
  | .bastore => match S with
    | .int x :: .int j :: .ref a :: r => (bif Nat.ble P.ro a then (match H[a]? with
      | some (.inr (.inl (2, xs))) => (bif inb xs.length j then some (np, L, r, H.set a (.inr (.inl (2, wr xs j (x &&& 1))))) else none)
      | some (.inr (.inl (3, xs))) => (bif inb xs.length j then some (np, L, r, H.set a (.inr (.inl (3, wr xs j x.toInt8.toInt32)))) else none)
      | _ => none) else none)
    | _ => none
  | .lastore => match S with
    | .long x :: .int j :: .ref a :: r => (bif Nat.ble P.ro a then (match H[a]? with | some (.inr (.inr xs)) => (bif inb xs.length j then some (np, L, r, H.set a (.inr (.inr (wrL xs j x)))) else none) | _ => none) else none)
    | _ => none
  | .arraylength => match S with
    | .ref a :: r => (match H[a]? with
      | some (.inr (.inl (_, xs))) => some (np, L, .int xs.length.toInt32 :: r, H)
      | some (.inr (.inr xs)) => some (np, L, .int xs.length.toInt32 :: r, H)
      | _ => none)
    | _ => none
  | .newarray t => match S with
    | .int n :: r => (match atyOf t with | some q => (bif !(decide (n < 0)) && Nat.ble n.toNatClampNeg 60000 && Nat.ble (H.length + 1) P.capC && Nat.ble (hsz P H + n.toNatClampNeg) P.capS then some (np, L, .ref H.length :: r, H ++ [newC q n.toNatClampNeg]) else none) | none => none)
    | _ => none
  | .new j => match P.link (P.cls k) j with | some (5, _) => (bif Nat.ble (H.length + 1) P.capC && Nat.ble (hsz P H + P.objN) P.capS then some (np, L, .ref H.length :: S, H ++ [.inl P.fresh]) else none) | _ => none
  | .invokespecial j => match S with
    | .ref _ :: r => (bif isObjInit P k j && Nat.ble 1 (P.rf k) && Nat.ble (cats r + 12) (P.rl k) then some (np, L, r, H) else none)
    | _ => none
  | i => match S with
    | .int y :: .int x :: r => (match aop i with | some f => some (np, L, .int (f x y) :: r, H) | none => none)
    | .long y :: .long x :: r => (match lop i with | some f => some (np, L, .long (f x y) :: r, H) | none => none)
    | _ => none
/-- what a return hands back -/
def retV (P : Prog) (k : Nat) (i : Instr) (S : List Value) : Option (Option Value) :=
  match i with
  | .return_ => match S, P.ret k with | [], none => some none | _, _ => none
  | .ireturn => match S with
    | .int x :: _ => (match P.ret k with | some .int => some (some (.int x)) | some .boolean => some (some (.int (x &&& 1))) | _ => none)
    | _ => none
  | .lreturn => match S with | .long x :: _ => (match P.ret k with | some .long => some (some (.long x)) | _ => none) | _ => none
  | _ => none
def kindOk : Instr → Nat → Bool
  | .invokestatic _, 0 => true
  | .invokespecial _, 1 => true
  | .invokevirtual _, 2 => true
  | .invokevirtual _, 3 => true
  | _, _ => false
def poolOf : Instr → Option Nat
  | .invokestatic j => some j
  | .invokespecial j => some j
  | .invokevirtual j => some j
  | _ => none
/-- the receiver is there -/
def recvOk (P : Prog) (H : AHeap) (q : Nat) (as : List Value) : Bool :=
  match q with
  | 0 => true
  | _ => match as with
    | .ref a :: _ => (match H[a]? with | some (.inl _) => true | _ => false)
    | _ => false
def callV (P : Prog) (k : Nat) (i : Instr) (S : List Value) (H : AHeap) : Option (Nat × List Value × List Value) :=
  match poolOf i with
  | none => none
  | some j => match P.link (P.cls k) j with
    | none => none
    | some (q, k') =>
      bif kindOk i q && Nat.ble (P.pops k') S.length && Nat.ble (P.rf k' + 1) (P.rf k) && Nat.ble (cats (S.drop (P.pops k')) + (P.maxL k' + 11) + P.rl k') (P.rl k) && recvOk P H q (S.take (P.pops k')).reverse && Nat.ble (entL (S.take (P.pops k')).reverse).length (P.maxL k') then
        some (k', (S.take (P.pops k')).reverse, S.drop (P.pops k'))
      else none
def run (P : Prog) : Nat → Nat → Nat → ALoc → List Value → AHeap → Option (Option Value × AHeap)
  | 0, _, _, _, _, _ => none
  | n + 1, k, pc, L, S, H =>
    match P.code k pc with
    | none => none
    | some (i, np) =>
      match retV P k i S with
      | some v => some (v, H)
      | none =>
        match callV P k i S H with
        | some (k', as, rest) =>
          (match run P n k' 0 (entry P k' as) [] H with
          | some (v, H1) => run P n k np L (v.toList ++ rest) H1
          | none => none)
        | none =>
          (match step P k i np pc L S H with
          | some (pc', L', S', H') => run P n k pc' L' S' H'
          | none => none)
def Eval (P : Prog) (k pc : Nat) (L : ALoc) (S : List Value) (H : AHeap) (out : Option Value × AHeap) : Prop := ∃ n, run P n k pc L S H = some out
end Jvm.OwnX
namespace Jvm.OwnX
open Sem ClassFile Op Lib Jvm.Stand Jvm.Free Jvm.LawKit Jvm.RoadKit
/-! ## values, stacks, local variables -/
def VR (am : List Addr) (v w : Value) : Prop := match v with
  | .ref i => ∃ a, am[i]? = some a ∧ w = .ref a
  | .int x => w = .int x
  | .long x => w = .long x
  | .null => w = .null
  | _ => False
def SR (am : List Addr) : List Value → List Value → Prop
  | [], ws => ws = []
  | v :: vs, ws => ∃ w ws', ws = w :: ws' ∧ VR am v w ∧ SR am vs ws'
def Pre (am am' : List Addr) : Prop := ∀ (i : Nat) (a : Addr), am[i]? = some a → am'[i]? = some a
theorem Pre.refl (am : List Addr) : Pre am am := fun _ _ h => h
theorem Pre.trans {a b c : List Addr} (h : Pre a b) (h' : Pre b c) : Pre a c := fun i x q => h' i x (h i x q)
theorem Pre.app (am : List Addr) (x : Addr) : Pre am (am ++ [x]) := fun i a h => by
  rw [List.getElem?_append_left (List.getElem?_eq_some_iff.mp h).1]; exact h
theorem VR.mono {am am' : List Addr} (h : Pre am am') {v w : Value} (r : VR am v w) : VR am' v w := by
  cases v <;> simp only [VR] at r ⊢ <;> try exact r
  obtain ⟨a, h1, h2⟩ := r; exact ⟨a, h _ _ h1, h2⟩
theorem SR.mono {am am' : List Addr} (h : Pre am am') : ∀ {S ws : List Value}, SR am S ws → SR am' S ws
  | [], _, r => r
  | _ :: _, _, ⟨w, ws', e, r1, r2⟩ => ⟨w, ws', e, r1.mono h, SR.mono h r2⟩
theorem VR.cat {am : List Addr} {v w : Value} (r : VR am v w) : w.category = OwnX.cat v := by
  cases v <;> simp only [VR] at r
  · subst r; rfl
  · subst r; rfl
  · subst r; rfl
  · obtain ⟨a, -, rfl⟩ := r; rfl
theorem SR.cats {am : List Addr} : ∀ {S ws : List Value}, SR am S ws → (ws.map fun v => v.category).sum = OwnX.cats S
  | [], _, r => by cases r; rfl
  | v :: vs, _, ⟨w, ws', e, r1, r2⟩ => by subst e; simp [OwnX.cats, r1.cat, SR.cats r2]
theorem SR.app {am : List Addr} : ∀ {S ws : List Value} (A B : List Value), SR am S ws → S = A ++ B → ∃ x y, ws = x ++ y ∧ SR am A x ∧ SR am B y
  | S, ws, [], B, r, e => ⟨[], ws, rfl, rfl, by rw [show B = S from by simpa using e.symm]; exact r⟩
  | S, ws, v :: A, B, r, e => by
    subst e
    obtain ⟨w, ws', rfl, r1, r2⟩ := r
    obtain ⟨x, y, rfl, h1, h2⟩ := SR.app A B r2 rfl
    exact ⟨w :: x, y, rfl, ⟨w, x, rfl, r1, h1⟩, h2⟩
theorem SR.join {am : List Addr} : ∀ {A x B y : List Value}, SR am A x → SR am B y → SR am (A ++ B) (x ++ y)
  | [], _, _, _, h, h' => by cases h; exact h'
  | _ :: _, _, _, _, ⟨w, ws', e, r1, r2⟩, h' => by subst e; exact ⟨w, _, rfl, r1, SR.join r2 h'⟩
theorem SR.rev {am : List Addr} : ∀ {A x : List Value}, SR am A x → SR am A.reverse x.reverse
  | [], _, h => by cases h; rfl
  | _ :: _, _, ⟨w, ws', e, r1, r2⟩ => by
    subst e
    rw [List.reverse_cons, List.reverse_cons]
    exact SR.join (SR.rev r2) ⟨w, [], rfl, r1, rfl⟩
theorem SR.len {am : List Addr} : ∀ {A x : List Value}, SR am A x → x.length = A.length
  | [], _, h => by cases h; rfl
  | _ :: _, _, ⟨w, ws', e, r1, r2⟩ => by subst e; simp [SR.len r2]
def WFL (l : Array Slot) : Prop := (∀ (i : Nat) w, l[i]? = some (.val w) → w.category = 2 → l[i + 1]? = some .second) ∧ (∀ (i : Nat), l[i]? = some .second → ∃ (j : Nat) (w : Value), i = j + 1 ∧ l[j]? = some (.val w) ∧ w.category = 2)
/-- the places of the variables behind a store of one word -/
def After1 (l l' : Array Slot) (i : Nat) (v : Value) : Prop := ∀ j : Nat, l'[j]? = if j = i then some (.val v) else if j + 1 = i ∧ l[i]? = some .second then some .unset else if j = i + 1 ∧ l[j]? = some .second then some .unset else l[j]?
theorem sib (l : Array Slot) (i j : Nat) (x : Slot) (hi : i < l.size) : (l.setIfInBounds i x)[j]? = if j = i then some x else l[j]? := by
  by_cases h : j = i
  · subst h; simp [hi]
  · simp [Array.getElem?_setIfInBounds_ne (Ne.symm h), h]
theorem store1w {l : Array Slot} {i : Nat} {v : Value} (hw : WFL l) (hi : i < l.size) (hv : v.category = 1) : ∃ l', storeLocals l i v = some l' ∧ l'.size = l.size ∧ After1 l l' i v := by
  have hv2 : ¬ v.category = 2 := by omega
  have hg : l[i]? = some l[i] := Array.getElem?_eq_getElem hi
  cases hq : l[i] with
  | unset =>
    rw [hq] at hg
    refine ⟨l.setIfInBounds i (.val v), by simp [storeLocals, storeSelf, setAt, hg, hq, hi, hv2], by simp, fun j => ?_⟩
    rw [sib _ _ _ _ hi, hg]
    by_cases h : j = i
    · simp [h]
    · simp only [h, if_false, reduceCtorEq, and_false, Option.some.injEq]
      by_cases h2 : j = i + 1 ∧ l[j]? = some .second
      · obtain ⟨j', w, e1, e2, e3⟩ := hw.2 _ h2.2
        have : j' = i := by omega
        subst this; rw [hg] at e2; cases e2
      · simp [h2]
  | second =>
    rw [hq] at hg
    obtain ⟨j0, w, e1, e2, e3⟩ := hw.2 _ hg
    subst e1
    have hj0 : j0 < l.size := by omega
    refine ⟨(l.setIfInBounds j0 .unset).setIfInBounds (j0 + 1) (.val v), by simp [storeLocals, storeSelf, setAt, hg, hq, hi, hv2, hj0], by simp, fun j => ?_⟩
    rw [sib _ _ _ _ (by simpa using hi), sib _ _ _ _ hj0, hg]
    by_cases h : j = j0 + 1
    · simp [h]
    · by_cases h3 : j = j0
      · subst h3; simp
      · have h4 : ¬ (j + 1 = j0 + 1) := by omega
        by_cases h2 : j = j0 + 1 + 1 ∧ l[j]? = some .second
        · obtain ⟨j', w', f1, f2, f3⟩ := hw.2 _ h2.2
          have : j' = j0 + 1 := by omega
          subst this; rw [hg] at f2; cases f2
        · simp [h, h3, h2]
  | val old =>
    rw [hq] at hg
    by_cases hc : old.category = 2
    · have h1 := hw.1 _ _ hg hc
      have h1' := (Array.getElem?_eq_some_iff.mp h1).1
      refine ⟨(l.setIfInBounds (i + 1) .unset).setIfInBounds i (.val v), by simp [storeLocals, storeSelf, setAt, hg, hq, hi, hv2, hc, h1'], by simp, fun j => ?_⟩
      rw [sib _ _ _ _ (by simpa using hi), sib _ _ _ _ h1', hg]
      by_cases h : j = i
      · simp [h]
      · by_cases h3 : j = i + 1
        · subst h3; simp [h1]
        · simp [h, h3]
    · refine ⟨l.setIfInBounds i (.val v), by simp [storeLocals, storeSelf, setAt, hg, hq, hi, hv2, hc], by simp, fun j => ?_⟩
      rw [sib _ _ _ _ hi, hg]
      by_cases h : j = i
      · simp [h]
      · simp only [h, if_false, reduceCtorEq, and_false, Option.some.injEq]
        by_cases h2 : j = i + 1 ∧ l[j]? = some .second
        · obtain ⟨j', w, e1, e2, e3⟩ := hw.2 _ h2.2
          have : j' = i := by omega
          subst this; rw [hg] at e2; cases e2; exact absurd e3 hc
        · simp [h2]
theorem After1.wf {l l' : Array Slot} {i : Nat} {v : Value} (hw : WFL l) (hv : v.category = 1) (A : After1 l l' i v) : WFL l' := by
  refine ⟨fun j w h1 h2 => ?_, fun j h1 => ?_⟩
  · rw [A j] at h1
    by_cases c1 : j = i
    · simp only [c1, if_true, Option.some.injEq, Slot.val.injEq] at h1; subst h1; omega
    · rw [if_neg c1] at h1
      by_cases c2 : j + 1 = i ∧ l[i]? = some .second
      · rw [if_pos c2] at h1; cases h1
      · rw [if_neg c2] at h1
        by_cases c3 : j = i + 1 ∧ l[j]? = some .second
        · rw [if_pos c3] at h1; cases h1
        · rw [if_neg c3] at h1
          have h3 := hw.1 _ _ h1 h2
          rw [A (j + 1)]
          have n1 : ¬ (j + 1 = i) := fun q => c2 ⟨q, q ▸ h3⟩
          have n2 : ¬ (j + 1 + 1 = i ∧ l[i]? = some .second) := fun ⟨q1, q2⟩ => by
            obtain ⟨j', w', f1, f2, f3⟩ := hw.2 _ q2
            have : j' = j + 1 := by omega
            subst this; rw [h3] at f2; cases f2
          have n3 : ¬ (j + 1 = i + 1 ∧ l[j + 1]? = some .second) := fun ⟨q1, _⟩ => c1 (by omega)
          rw [if_neg n1, if_neg n2, if_neg n3]; exact h3
  · rw [A j] at h1
    by_cases c1 : j = i
    · rw [if_pos c1] at h1; cases h1
    · rw [if_neg c1] at h1
      by_cases c2 : j + 1 = i ∧ l[i]? = some .second
      · rw [if_pos c2] at h1; cases h1
      · rw [if_neg c2] at h1
        by_cases c3 : j = i + 1 ∧ l[j]? = some .second
        · rw [if_pos c3] at h1; cases h1
        · rw [if_neg c3] at h1
          obtain ⟨j', w, e1, e2, e3⟩ := hw.2 _ h1
          refine ⟨j', w, e1, ?_, e3⟩
          rw [A j']
          have n1 : ¬ (j' = i) := fun q => c3 ⟨by omega, h1⟩
          have n2 : ¬ (j' + 1 = i ∧ l[i]? = some .second) := fun ⟨q, _⟩ => c1 (by omega)
          have n3 : ¬ (j' = i + 1 ∧ l[j']? = some .second) := fun ⟨_, q⟩ => by rw [e2] at q; cases q
          rw [if_neg n1, if_neg n2, if_neg n3]; exact e2
def lng (o : Option Slot) : Bool := match o with | some (.val w) => decide (w.category = 2) | _ => false
theorem lng_iff (o : Option Slot) : lng o = true ↔ ∃ w, o = some (.val w) ∧ w.category = 2 := by
  unfold lng
  split
  · rename_i w; simp
  · rename_i h; simp; intro w hw; exact absurd hw (h w)
/-- behind a store of a long -/
def After2 (l l' : Array Slot) (i : Nat) (v : Value) : Prop := ∀ j : Nat, l'[j]? = if j = i then some (.val v) else if j = i + 1 then some .second else if j + 1 = i ∧ l[i]? = some .second then some .unset else if j = i + 2 ∧ l[j]? = some .second then some .unset else l[j]?
theorem self2 {l : Array Slot} {i : Nat} {v : Value} (hi : i + 1 < l.size) (hv : v.category = 2) (hz : ∀ w, l[i + 1]? = some (.val w) → w.category = 2 → i + 2 < l.size) :
    ∃ l', storeSelf l i v = some l' ∧ l'.size = l.size ∧ ∀ j : Nat, l'[j]? = if j = i then some (.val v) else if j = i + 1 then some .second else if j = i + 2 ∧ lng l[i + 1]? = true then some .unset else l[j]? := by
  have hi0 : i < l.size := by omega
  have hg : l[i + 1]? = some l[i + 1] := Array.getElem?_eq_getElem hi
  have hne : (l.setIfInBounds i (.val v))[i + 1]? = l[i + 1]? := Array.getElem?_setIfInBounds_ne (by omega)
  have hplain : (∀ w, l[i + 1] = .val w → ¬ w.category = 2) → storeSelf l i v = some ((l.setIfInBounds i (.val v)).setIfInBounds (i + 1) .second) := fun hn => by
    cases hq : l[i + 1] with
    | val w => simp [storeSelf, setAt, hi0, hv, hne, hg, hq, hn _ hq, hi]
    | unset => simp [storeSelf, setAt, hi0, hv, hne, hg, hq, hi]
    | second => simp [storeSelf, setAt, hi0, hv, hne, hg, hq, hi]
  by_cases hx : ∃ w, l[i + 1] = .val w ∧ w.category = 2
  · obtain ⟨w, hw1, hw2⟩ := hx
    have h2 := hz w (by rw [hg, hw1]) hw2
    refine ⟨((l.setIfInBounds i (.val v)).setIfInBounds (i + 2) .unset).setIfInBounds (i + 1) .second, by simp [storeSelf, setAt, hi0, hv, hne, hg, hw1, hw2, hi, h2], by simp, fun j => ?_⟩
    rw [sib _ _ _ _ (by simpa using hi), sib _ _ _ _ (by simpa using h2), sib _ _ _ _ hi0]
    have hE : lng l[i + 1]? = true := (lng_iff _).mpr ⟨w, by rw [hg, hw1], hw2⟩
    by_cases c1 : j = i
    · subst c1; simp
    · by_cases c2 : j = i + 1
      · subst c2; simp
      · by_cases c3 : j = i + 2
        · subst c3; simp [hE]
        · simp [c1, c2, c3]
  · refine ⟨_, hplain fun w h1 h2 => hx ⟨w, h1, h2⟩, by simp, fun j => ?_⟩
    rw [sib _ _ _ _ (by simpa using hi), sib _ _ _ _ hi0]
    have hE : ¬ lng l[i + 1]? = true := fun q => by
      obtain ⟨w, q1, q2⟩ := (lng_iff _).mp q
      exact hx ⟨w, by rw [hg] at q1; exact Option.some.inj q1, q2⟩
    by_cases c1 : j = i
    · subst c1; simp
    · by_cases c2 : j = i + 1
      · subst c2; simp
      · simp [c1, c2, hE]
theorem store2w {l : Array Slot} {i : Nat} {v : Value} (hw : WFL l) (hi : i + 1 < l.size) (hv : v.category = 2) : ∃ l', storeLocals l i v = some l' ∧ l'.size = l.size ∧ After2 l l' i v := by
  have hi0 : i < l.size := by omega
  have hg : l[i]? = some l[i] := Array.getElem?_eq_getElem hi0
  have hz : ∀ w, l[i + 1]? = some (.val w) → w.category = 2 → i + 2 < l.size := fun w q1 q2 => (Array.getElem?_eq_some_iff.mp (hw.1 _ _ q1 q2)).1
  have hsec : ∀ j : Nat, (j = i + 2 ∧ lng l[i + 1]? = true) ↔ (j = i + 2 ∧ l[j]? = some .second) := fun j => by
    constructor
    · rintro ⟨rfl, q⟩
      obtain ⟨w, q1, q2⟩ := (lng_iff _).mp q
      exact ⟨rfl, hw.1 _ _ q1 q2⟩
    · rintro ⟨rfl, q⟩
      obtain ⟨j', w, e1, e2, e3⟩ := hw.2 _ q
      have : j' = i + 1 := by omega
      subst this; exact ⟨rfl, (lng_iff _).mpr ⟨w, e2, e3⟩⟩
  cases hq : l[i] with
  | unset =>
    rw [hq] at hg
    obtain ⟨l', h1, h2, h3⟩ := self2 hi hv hz
    refine ⟨l', by simp [storeLocals, hg, hq, hi0, h1], h2, fun j => ?_⟩
    rw [h3 j, hg]; simp only [hsec, reduceCtorEq, and_false, if_false, Option.some.injEq]
  | second =>
    rw [hq] at hg
    obtain ⟨j0, w, e1, e2, e3⟩ := hw.2 _ hg
    subst e1
    have hj0 : j0 < l.size := by omega
    have hi' : j0 + 1 + 1 < (l.setIfInBounds j0 .unset).size := by simpa using hi
    have hk : ∀ j : Nat, j ≠ j0 → (l.setIfInBounds j0 .unset)[j]? = l[j]? := fun j h => Array.getElem?_setIfInBounds_ne (Ne.symm h)
    obtain ⟨l', h1, h2, h3⟩ := self2 (l := l.setIfInBounds j0 .unset) hi' hv (fun w q1 q2 => by rw [hk _ (by omega)] at q1; simpa using hz w q1 q2)
    refine ⟨l', by simp [storeLocals, setAt, hg, hq, hi0, hj0, h1], by simpa using h2, fun j => ?_⟩
    rw [h3 j, hg, hk (j0 + 1 + 1) (by omega)]; simp only [hsec]
    by_cases c1 : j = j0 + 1
    · simp [c1]
    · by_cases c2 : j = j0 + 1 + 1
      · simp [c2]
      · by_cases c3 : j = j0
        · subst c3; simp [hj0]
        · rw [hk _ c3]
          have : ¬ (j + 1 = j0 + 1) := by omega
          simp [c1, c2, c3]
  | val old =>
    rw [hq] at hg
    by_cases hc : old.category = 2
    · have g1 := hw.1 _ _ hg hc
      have hi' : i + 1 < (l.setIfInBounds (i + 1) .unset).size := by simpa using hi
      have hk : ∀ j : Nat, j ≠ i + 1 → (l.setIfInBounds (i + 1) .unset)[j]? = l[j]? := fun j h => Array.getElem?_setIfInBounds_ne (Ne.symm h)
      have hk1 : (l.setIfInBounds (i + 1) .unset)[i + 1]? = some .unset := by simp [hi]
      obtain ⟨l', h1, h2, h3⟩ := self2 (l := l.setIfInBounds (i + 1) .unset) hi' hv (fun w q1 q2 => by rw [hk1] at q1; cases q1)
      refine ⟨l', by simp [storeLocals, setAt, hg, hq, hi0, hc, hi, h1], by simpa using h2, fun j => ?_⟩
      rw [h3 j, hg, hk1]
      by_cases c1 : j = i
      · simp [c1]
      · by_cases c2 : j = i + 1
        · simp [c2]
        · rw [hk _ c2]
          have c3 : ¬ (j = i + 2 ∧ l[j]? = some .second) := fun ⟨q1, q2⟩ => by
            subst q1
            obtain ⟨j', w, e1, e2, e3⟩ := hw.2 _ q2
            have : j' = i + 1 := by omega
            subst this; rw [g1] at e2; cases e2
          simp [c1, c2, c3, lng]
    · obtain ⟨l', h1, h2, h3⟩ := self2 hi hv hz
      refine ⟨l', by simp [storeLocals, hg, hq, hi0, hc, h1], h2, fun j => ?_⟩
      rw [h3 j, hg]; simp only [hsec, reduceCtorEq, and_false, if_false, Option.some.injEq]
theorem After2.wf {l l' : Array Slot} {i : Nat} {v : Value} (hw : WFL l) (hv : v.category = 2) (A : After2 l l' i v) : WFL l' := by
  refine ⟨fun j w h1 h2 => ?_, fun j h1 => ?_⟩
  · rw [A j] at h1
    by_cases c1 : j = i
    · subst c1; rw [A (j + 1)]; simp
    · rw [if_neg c1] at h1
      by_cases c0 : j = i + 1
      · rw [if_pos c0] at h1; cases h1
      · rw [if_neg c0] at h1
        by_cases c2 : j + 1 = i ∧ l[i]? = some .second
        · rw [if_pos c2] at h1; cases h1
        · rw [if_neg c2] at h1
          by_cases c3 : j = i + 2 ∧ l[j]? = some .second
          · rw [if_pos c3] at h1; cases h1
          · rw [if_neg c3] at h1
            have h3 := hw.1 _ _ h1 h2
            rw [A (j + 1)]
            have n1 : ¬ (j + 1 = i) := fun q => c2 ⟨q, q ▸ h3⟩
            have n0 : ¬ (j + 1 = i + 1) := by omega
            have n2 : ¬ (j + 1 + 1 = i ∧ l[i]? = some .second) := fun ⟨q1, q2⟩ => by
              obtain ⟨j', w', f1, f2, f3⟩ := hw.2 _ q2
              have : j' = j + 1 := by omega
              subst this; rw [h3] at f2; cases f2
            have n3 : ¬ (j + 1 = i + 2 ∧ l[j + 1]? = some .second) := fun ⟨q1, _⟩ => c0 (by omega)
            rw [if_neg n1, if_neg n0, if_neg n2, if_neg n3]; exact h3
  · rw [A j] at h1
    by_cases c1 : j = i
    · rw [if_pos c1] at h1; cases h1
    · rw [if_neg c1] at h1
      by_cases c0 : j = i + 1
      · subst c0; exact ⟨i, v, rfl, by rw [A i]; simp, hv⟩
      · rw [if_neg c0] at h1
        by_cases c2 : j + 1 = i ∧ l[i]? = some .second
        · rw [if_pos c2] at h1; cases h1
        · rw [if_neg c2] at h1
          by_cases c3 : j = i + 2 ∧ l[j]? = some .second
          · rw [if_pos c3] at h1; cases h1
          · rw [if_neg c3] at h1
            obtain ⟨j', w, e1, e2, e3⟩ := hw.2 _ h1
            refine ⟨j', w, e1, ?_, e3⟩
            rw [A j']
            have n1 : ¬ (j' = i) := fun q => c0 (by omega)
            have n0 : ¬ (j' = i + 1) := fun q => c3 ⟨by omega, h1⟩
            have n2 : ¬ (j' + 1 = i ∧ l[i]? = some .second) := fun ⟨q, _⟩ => c1 (by omega)
            have n3 : ¬ (j' = i + 2 ∧ l[j']? = some .second) := fun ⟨_, q⟩ => by rw [e2] at q; cases q
            rw [if_neg n1, if_neg n0, if_neg n2, if_neg n3]; exact e2
def LR (am : List Addr) (L : ALoc) (l : Array Slot) : Prop := L.length = l.size ∧ WFL l ∧ ∀ (i : Nat) v, L[i]? = some (some v) → ∃ w, l[i]? = some (.val w) ∧ VR am v w
theorem LR.mono {am am' : List Addr} (h : Pre am am') {L : ALoc} {l : Array Slot} (r : LR am L l) : LR am' L l :=
  ⟨r.1, r.2.1, fun i v q => by obtain ⟨w, h1, h2⟩ := r.2.2 i v q; exact ⟨w, h1, h2.mono h⟩⟩
theorem kill1_len (L : ALoc) (i : Nat) : (kill1 L i).length = L.length := by
  unfold kill1; split
  · rfl
  · split <;> simp
theorem kill1_get {L : ALoc} {i j : Nat} {v : Value} (h : (kill1 L i)[j]? = some (some v)) : L[j]? = some (some v) ∧ (j + 1 = i → ∀ x, v ≠ .long x) := by
  unfold kill1 at h
  split at h
  · exact ⟨h, fun q => by omega⟩
  · rename_i i
    split at h
    · rename_i x hx
      by_cases e : j = i
      · subst e
        rw [List.getElem?_set] at h
        split at h
        · split at h <;> simp at h
        · omega
      · rw [List.getElem?_set_ne (Ne.symm e)] at h
        exact ⟨h, fun q => absurd (by omega) e⟩
    · rename_i hn
      refine ⟨h, fun q x e => ?_⟩
      have : j = i := by omega
      subst this; subst e; exact hn x h
theorem LR.put {am : List Addr} {L L' : ALoc} {l : Array Slot} {i : Nat} {v w : Value} (r : LR am L l) (h : lput L i v = some L') (hv : VR am v w) (hc : w.category = 1) : ∃ l', storeLocals l i w = some l' ∧ l'.size = l.size ∧ LR am L' l' := by
  unfold lput at h
  cases hb : Nat.ble (i + 1) L.length
  · rw [hb] at h; cases h
  · rw [hb] at h
    have hi : i < L.length := Nat.le_of_ble_eq_true hb
    simp only [cond_true, Option.some.injEq] at h
    obtain ⟨l', h1, h2, h3⟩ := store1w (v := w) r.2.1 (by rw [← r.1]; exact hi) hc
    refine ⟨l', h1, h2, ?_, h3.wf r.2.1 hc, fun j u hu => ?_⟩
    · rw [← h]; simp [kill1_len, r.1, h2]
    · rw [← h, List.getElem?_set] at hu
      rw [h3 j]
      by_cases c : i = j
      · subst c
        simp only [if_true] at hu
        split at hu
        · cases hu; exact ⟨w, by simp, hv⟩
        · cases hu
      · rw [if_neg c] at hu
        obtain ⟨q1, q2⟩ := kill1_get hu
        obtain ⟨w', q3, q4⟩ := r.2.2 j u q1
        have n1 : ¬ (j = i) := fun q => c q.symm
        have n2 : ¬ (j + 1 = i ∧ l[i]? = some .second) := fun ⟨a1, a2⟩ => by
          obtain ⟨j', w2, e1, e2, e3⟩ := r.2.1.2 _ a2
          have : j' = j := by omega
          subst this; rw [q3] at e2; cases e2
          have q5 := q4.cat
          rw [e3] at q5
          cases u <;> simp [OwnX.cat] at q5
          exact q2 a1 _ rfl
        have n3 : ¬ (j = i + 1 ∧ l[j]? = some .second) := fun ⟨_, q⟩ => by rw [q3] at q; cases q
        exact ⟨w', by rw [if_neg n1, if_neg n2, if_neg n3]; exact q3, q4⟩
theorem LR.putL {am : List Addr} {L L' : ALoc} {l : Array Slot} {i : Nat} {x : Int64} (r : LR am L l) (h : lputL L i x = some L') : ∃ l', storeLocals l i (.long x) = some l' ∧ l'.size = l.size ∧ LR am L' l' := by
  unfold lputL at h
  cases hb : Nat.ble (i + 2) L.length
  · rw [hb] at h; cases h
  · rw [hb] at h
    have hi : i + 1 < L.length := Nat.le_of_ble_eq_true hb
    simp only [cond_true, Option.some.injEq] at h
    obtain ⟨l', h1, h2, h3⟩ := store2w (v := .long x) r.2.1 (by rw [← r.1]; exact hi) rfl
    refine ⟨l', h1, h2, ?_, h3.wf r.2.1 rfl, fun j u hu => ?_⟩
    · rw [← h]; simp [kill1_len, r.1, h2]
    · rw [← h, List.getElem?_set] at hu
      rw [h3 j]
      by_cases c0 : i + 1 = j
      · subst c0
        simp only [if_true] at hu
        split at hu <;> cases hu
      · rw [if_neg c0, List.getElem?_set] at hu
        by_cases c : i = j
        · subst c
          simp only [if_true] at hu
          split at hu
          · cases hu; exact ⟨.long x, by simp, rfl⟩
          · cases hu
        · rw [if_neg c] at hu
          obtain ⟨q1, q2⟩ := kill1_get hu
          obtain ⟨w', q3, q4⟩ := r.2.2 j u q1
          have n1 : ¬ (j = i) := fun q => c q.symm
          have n0 : ¬ (j = i + 1) := fun q => c0 q.symm
          have n2 : ¬ (j + 1 = i ∧ l[i]? = some .second) := fun ⟨a1, a2⟩ => by
            obtain ⟨j', w2, e1, e2, e3⟩ := r.2.1.2 _ a2
            have : j' = j := by omega
            subst this; rw [q3] at e2; cases e2
            have q5 := q4.cat
            rw [e3] at q5
            cases u <;> simp [OwnX.cat] at q5
            exact q2 a1 _ rfl
          have n3 : ¬ (j = i + 2 ∧ l[j]? = some .second) := fun ⟨_, q⟩ => by rw [q3] at q; cases q
          exact ⟨w', by rw [if_neg n1, if_neg n0, if_neg n2, if_neg n3]; exact q3, q4⟩
theorem LR.int {am : List Addr} {L : ALoc} {l : Array Slot} {i : Nat} {x : Int32} (r : LR am L l) (h : loadI L i = some x) : l[i]? = some (.val (.int x)) := by
  unfold loadI at h
  split at h
  · rename_i y hy
    cases h
    obtain ⟨w, h1, h2⟩ := r.2.2 _ _ hy
    cases h2; exact h1
  · cases h
theorem LR.long {am : List Addr} {L : ALoc} {l : Array Slot} {i : Nat} {x : Int64} (r : LR am L l) (h : loadJ L i = some x) : l[i]? = some (.val (.long x)) := by
  unfold loadJ at h
  split at h
  · rename_i y hy
    cases h
    obtain ⟨w, h1, h2⟩ := r.2.2 _ _ hy
    cases h2; exact h1
  · cases h
theorem LR.ref {am : List Addr} {L : ALoc} {l : Array Slot} {i x : Nat} (r : LR am L l) (h : loadA L i = some x) : ∃ a, am[x]? = some a ∧ l[i]? = some (.val (.ref a)) := by
  unfold loadA at h
  split at h
  · rename_i y hy
    cases h
    obtain ⟨w, h1, a, h2, rfl⟩ := r.2.2 _ _ hy
    exact ⟨a, h2, h1⟩
  · cases h
end Jvm.OwnX
namespace Jvm.OwnX
open Sem ClassFile Op Lib Jvm.Stand Jvm.Free Jvm.LawKit Jvm.RoadKit
/-! ## the entry's variables -/
def slotsL : List Value → List Slot
  | [] => []
  | v :: r => if v.category = 2 then .val v :: .second :: slotsL r else .val v :: slotsL r
theorem fold_slots : ∀ (ws : List Value) (acc : Array Slot), ws.foldl (fun acc v => if v.category = 2 then (acc.push (.val v)).push .second else acc.push (.val v)) acc = acc ++ (slotsL ws).toArray
  | [], acc => by simp [slotsL]
  | v :: r, acc => by
    rw [List.foldl_cons, fold_slots r]
    by_cases h : v.category = 2
    · simp only [h, if_true, slotsL]; apply Array.ext'; simp
    · simp only [h, if_false, slotsL]; apply Array.ext'; simp
theorem argsToLocals_eq (ws : List Value) (n : Nat) : argsToLocals ws.toArray n = (slotsL ws ++ List.replicate (n - (slotsL ws).length) Slot.unset).toArray := by
  unfold argsToLocals
  have h : Array.foldl (fun acc v => if v.category = 2 then (acc.push (.val v)).push .second else acc.push (.val v)) #[] ws.toArray = (slotsL ws).toArray := by
    rw [List.foldl_toArray, fold_slots]; simp
  simp only [h]
  apply Array.ext'; simp
def WFl (s : List Slot) : Prop := (∀ (i : Nat) (w : Value), s[i]? = some (Slot.val w) → w.category = 2 → s[i + 1]? = some Slot.second) ∧ (∀ (i : Nat), s[i]? = some Slot.second → ∃ (j : Nat) (w : Value), i = j + 1 ∧ s[j]? = some (Slot.val w) ∧ w.category = 2)
theorem WFl.nil : WFl [] := ⟨fun i w h => by simp at h, fun i h => by simp at h⟩
theorem WFl.one {s : List Slot} (h : WFl s) {v : Value} (hv : ¬ v.category = 2) : WFl (.val v :: s) := by
  refine ⟨fun i w h1 h2 => ?_, fun i h1 => ?_⟩
  · cases i with
    | zero => simp at h1; subst h1; exact absurd h2 hv
    | succ i => rw [List.getElem?_cons_succ] at h1 ⊢; exact h.1 _ _ h1 h2
  · cases i with
    | zero => simp at h1
    | succ i =>
      rw [List.getElem?_cons_succ] at h1
      obtain ⟨j, w, rfl, e2, e3⟩ := h.2 _ h1
      exact ⟨j + 1, w, rfl, by rw [List.getElem?_cons_succ]; exact e2, e3⟩
theorem WFl.two {s : List Slot} (h : WFl s) {v : Value} (hv : v.category = 2) : WFl (.val v :: .second :: s) := by
  refine ⟨fun i w h1 h2 => ?_, fun i h1 => ?_⟩
  · match i with
    | 0 => simp
    | 1 => simp at h1
    | i + 2 => simp only [List.getElem?_cons_succ] at h1 ⊢; exact h.1 _ _ h1 h2
  · match i with
    | 0 => simp at h1
    | 1 => exact ⟨0, v, rfl, by simp, hv⟩
    | i + 2 =>
      simp only [List.getElem?_cons_succ] at h1
      obtain ⟨j, w, rfl, e2, e3⟩ := h.2 _ h1
      exact ⟨j + 2, w, rfl, by simp only [List.getElem?_cons_succ]; exact e2, e3⟩
theorem WFl.pad {s : List Slot} (h : WFl s) (n : Nat) : WFl (s ++ List.replicate n Slot.unset) := by
  have hk : ∀ (i : Nat) (x : Slot), (s ++ List.replicate n Slot.unset)[i]? = some x → x ≠ Slot.unset → s[i]? = some x := fun i x q hx => by
    by_cases c : i < s.length
    · rw [List.getElem?_append_left c] at q; exact q
    · rw [List.getElem?_append_right (by omega), List.getElem?_replicate] at q
      split at q
      · cases q; exact absurd rfl hx
      · cases q
  have hl : ∀ (i : Nat) (x : Slot), s[i]? = some x → (s ++ List.replicate n Slot.unset)[i]? = some x := fun i x q => by
    rw [List.getElem?_append_left (List.getElem?_eq_some_iff.mp q).1]; exact q
  refine ⟨fun i w h1 h2 => hl _ _ (h.1 _ _ (hk _ _ h1 (by simp)) h2), fun i h1 => ?_⟩
  obtain ⟨j, w, e1, e2, e3⟩ := h.2 _ (hk _ _ h1 (by simp))
  exact ⟨j, w, e1, hl _ _ e2, e3⟩
theorem slotsL_ok {am : List Addr} : ∀ {as ws : List Value}, SR am as ws → (entL as).length = (slotsL ws).length ∧ WFl (slotsL ws) ∧ ∀ (i : Nat) (v : Value), (entL as)[i]? = some (some v) → ∃ w, (slotsL ws)[i]? = some (Slot.val w) ∧ VR am v w
  | [], _, h => by cases h; exact ⟨rfl, WFl.nil, fun i v q => by simp [entL] at q⟩
  | v :: r, _, ⟨w, ws', e, r1, r2⟩ => by
    subst e
    obtain ⟨i1, i2, i3⟩ := slotsL_ok r2
    have hc := r1.cat
    by_cases h2 : ∃ x, v = .long x
    · obtain ⟨x, rfl⟩ := h2
      have hc2 : w.category = 2 := hc
      refine ⟨by simp [entL, slotsL, hc2, i1], by simp only [slotsL, hc2, if_true]; exact i2.two hc2, fun i u q => ?_⟩
      simp only [slotsL, hc2, if_true, entL] at q ⊢
      match i with
      | 0 => simp at q; subst q; exact ⟨w, by simp, r1⟩
      | 1 => simp at q
      | i + 2 => simp only [List.getElem?_cons_succ] at q ⊢; exact i3 i u q
    · have hv1 : OwnX.cat v = 1 := by cases v <;> first | rfl | (exact absurd ⟨_, rfl⟩ h2)
      have hc2 : ¬ w.category = 2 := by rw [hc, hv1]; decide
      have he : entL (v :: r) = some v :: entL r := by cases v <;> first | rfl | (exact absurd ⟨_, rfl⟩ h2)
      refine ⟨by simp [he, slotsL, hc2, i1], by simp only [slotsL, hc2, if_false]; exact i2.one hc2, fun i u q => ?_⟩
      rw [he] at q
      simp only [slotsL, hc2, if_false]
      match i with
      | 0 => simp at q; subst q; exact ⟨w, by simp, r1⟩
      | i + 1 => simp only [List.getElem?_cons_succ] at q ⊢; exact i3 i u q
theorem LR.entry {am : List Addr} {as ws : List Value} {n : Nat} (h : SR am as ws) (hn : (entL as).length ≤ n) : LR am (pad n (entL as)) (argsToLocals ws.toArray n) := by
  obtain ⟨h1, h2, h3⟩ := slotsL_ok h
  rw [argsToLocals_eq]
  have hw := h2.pad (n - (slotsL ws).length)
  refine ⟨by simp [pad, h1], ⟨fun i w q1 q2 => ?_, fun i q1 => ?_⟩, fun i v q => ?_⟩
  · rw [List.getElem?_toArray] at q1 ⊢; exact hw.1 _ _ q1 q2
  · rw [List.getElem?_toArray] at q1
    obtain ⟨j, w, e1, e2, e3⟩ := hw.2 _ q1
    exact ⟨j, w, e1, by rw [List.getElem?_toArray]; exact e2, e3⟩
  · have hi : i < (entL as).length := by
      by_cases c : i < (entL as).length
      · exact c
      · unfold pad at q
        rw [List.getElem?_append_right (by omega), List.getElem?_replicate] at q
        split at q
        · cases q
        · cases q
    unfold pad at q
    rw [List.getElem?_append_left hi] at q
    obtain ⟨w, e1, e2⟩ := h3 i v q
    exact ⟨w, by rw [List.getElem?_toArray, List.getElem?_append_left (by omega)]; exact e1, e2⟩
theorem entry_size {ws : List Value} {n : Nat} (h : (slotsL ws).length ≤ n) : (argsToLocals ws.toArray n).size = n := by
  rw [argsToLocals_eq]; simp; omega
/-! ## the heap -/
def aty : Nat → FieldType
  | 0 => .int
  | 1 => .int
  | 2 => .boolean
  | 3 => .byte
  | _ => .long
def CR (P : Prog) (C : String) (Z : State) (am : List Addr) (c : ACell) (h : Heap) (a : Addr) : Prop := match c with
  | .inl fs => Exa Z h a C ∧ fs.length = P.fields.length ∧ ∀ (j : Nat) (v : Value) (n d : String) (t : Nat) (f : Bool), fs[j]? = some v → P.fields[j]? = some (n, d, t, f) → ∃ w, VR am v w ∧ Fld Z h a C n d w
  | .inr (.inl (t, xs)) => ∃ cl, Arr Z h a cl (aty t) ∧ cl.slots.size = xs.length ∧ ∀ (j : Nat) (x : Int32), xs[j]? = some x → cl.slots[j]? = some (.int x)
  | .inr (.inr xs) => ∃ cl, Arr Z h a cl .long ∧ cl.slots.size = xs.length ∧ ∀ (j : Nat) (x : Int64), xs[j]? = some x → cl.slots[j]? = some (.long x)
def HR (P : Prog) (C : String) (Z : State) (n0 : Nat) (am : List Addr) (H : AHeap) (h : Heap) : Prop :=
  am.length = H.length ∧ (∀ (i j : Nat) (a : Addr), am[i]? = some a → am[j]? = some a → i = j) ∧ (∀ (i : Nat) (a : Addr), am[i]? = some a → a < h.size ∧ (P.ro ≤ i → n0 ≤ a)) ∧ ∀ (i : Nat) (c : ACell), H[i]? = some c → ∃ a, am[i]? = some a ∧ CR P C Z am c h a
section Heap
variable {P : Prog} {C : String} {Z : State} {n0 : Nat} {am am' : List Addr} {H : AHeap} {h h' : Heap} {a b : Addr} {c : ACell}
theorem CR.ext (E : Ext h h') (hp : Pre am am') (r : CR P C Z am c h a) : CR P C Z am' c h' a := by
  match c, r with
  | .inl fs, ⟨r1, r2, r3⟩ => exact ⟨r1.ext E, r2, fun j v n d t f q1 q2 => by obtain ⟨w, e1, e2⟩ := r3 j v n d t f q1 q2; exact ⟨w, e1.mono hp, e2.ext E⟩⟩
  | .inr (.inl (t, xs)), ⟨cl, r1, r2⟩ => exact ⟨cl, r1.ext E, r2⟩
  | .inr (.inr xs), ⟨cl, r1, r2⟩ => exact ⟨cl, r1.ext E, r2⟩
theorem CR.other {sl : Nat} {v : Value} (W : Wr h h' b sl v) (hne : a ≠ b) (r : CR P C Z am c h a) : CR P C Z am c h' a := by
  match c, r with
  | .inl fs, ⟨r1, r2, r3⟩ => exact ⟨r1.wr W, r2, fun j v n d t f q1 q2 => by obtain ⟨w, e1, e2⟩ := r3 j v n d t f q1 q2; exact ⟨w, e1, e2.other W (Or.inl hne)⟩⟩
  | .inr (.inl (t, xs)), ⟨cl, r1, r2⟩ => exact ⟨cl, r1.other W hne, r2⟩
  | .inr (.inr xs), ⟨cl, r1, r2⟩ => exact ⟨cl, r1.other W hne, r2⟩
/-- a new cell -/
theorem HR.push (E : Ext h h') (r : HR P C Z n0 am H h) (hlt : h.size < h'.size) (hn : n0 ≤ h.size) (hc : CR P C Z (am ++ [h.size]) c h' h.size) : HR P C Z n0 (am ++ [h.size]) (H ++ [c]) h' := by
  obtain ⟨r1, r2, r3, r4⟩ := r
  have hin : ∀ (i : Nat) (x : Addr), (am ++ [h.size])[i]? = some x → (am[i]? = some x ∧ i < am.length) ∨ (i = am.length ∧ x = h.size) := fun i x q => by
    by_cases ci : i < am.length
    · rw [List.getElem?_append_left ci] at q; exact Or.inl ⟨q, ci⟩
    · rw [List.getElem?_append_right (by omega)] at q
      have : i - am.length = 0 := by
        by_cases z : i - am.length = 0
        · exact z
        · rw [List.getElem?_eq_none (by simp; omega)] at q; cases q
      rw [this] at q
      simp at q
      exact Or.inr ⟨by omega, q.symm⟩
  refine ⟨by simp [r1], fun i j x q1 q2 => ?_, fun i x q => ?_, fun i d q => ?_⟩
  · rcases hin i x q1 with ⟨u1, u2⟩ | ⟨u1, u2⟩ <;> rcases hin j x q2 with ⟨v1, v2⟩ | ⟨v1, v2⟩
    · exact r2 _ _ _ u1 v1
    · subst v2; exact absurd (r3 _ _ u1).1 (Nat.lt_irrefl _)
    · subst u2; exact absurd (r3 _ _ v1).1 (Nat.lt_irrefl _)
    · omega
  · rcases hin i x q with ⟨u1, u2⟩ | ⟨u1, u2⟩
    · have := r3 _ _ u1; exact ⟨Nat.lt_of_lt_of_le this.1 E.1, this.2⟩
    · subst u2; exact ⟨hlt, fun _ => hn⟩
  · by_cases ci : i < H.length
    · rw [List.getElem?_append_left ci] at q
      obtain ⟨x, e1, e2⟩ := r4 i d q
      exact ⟨x, Pre.app am _ _ _ e1, e2.ext E (Pre.app am _)⟩
    · rw [List.getElem?_append_right (by omega)] at q
      have : i - H.length = 0 := by
        by_cases z : i - H.length = 0
        · exact z
        · rw [List.getElem?_eq_none (by simp; omega)] at q; cases q
      rw [this] at q
      simp at q; subst q
      have e : i = am.length := by omega
      exact ⟨h.size, by rw [e]; simp, hc⟩
/-- a cell changed in place -/
theorem HR.upd {i sl : Nat} {v : Value} (W : Wr h h' a sl v) (r : HR P C Z n0 am H h) (hi : am[i]? = some a) (hc : CR P C Z am c h' a) : HR P C Z n0 am (H.set i c) h' := by
  obtain ⟨r1, r2, r3, r4⟩ := r
  refine ⟨by simp [r1], r2, fun j x q => by rw [W.size]; exact r3 _ _ q, fun j d q => ?_⟩
  rw [List.getElem?_set] at q
  by_cases e : i = j
  · subst e
    simp only [if_true] at q
    split at q
    · cases q; exact ⟨a, hi, hc⟩
    · cases q
  · rw [if_neg e] at q
    obtain ⟨x, e1, e2⟩ := r4 j d q
    exact ⟨x, e1, e2.other W fun q => e (r2 _ _ _ hi (q ▸ e1))⟩
theorem inb_spec {n : Nat} {j : Int32} (h : inb n j = true) : ¬ (j < 0 ∨ n ≤ j.toNatClampNeg) := by
  simp only [inb, Bool.and_eq_true, Bool.not_eq_true', decide_eq_false_iff_not] at h
  have h2 : j.toNatClampNeg < n := Nat.le_of_ble_eq_true h.2
  rintro (q | q)
  · exact h.1 q
  · omega
theorem inb_lt {n : Nat} {j : Int32} (h : inb n j = true) : j.toNatClampNeg < n := by
  have := inb_spec h; exact Nat.lt_of_not_le fun q => this (Or.inr q)
theorem rd_at {xs : List Int32} {j : Int32} (h : inb xs.length j = true) : xs[j.toNatClampNeg]? = some (rd xs j) := by
  rw [rd, List.getD_eq_getElem?_getD, List.getElem?_eq_getElem (inb_lt h)]; rfl
theorem rdL_at {xs : List Int64} {j : Int32} (h : inb xs.length j = true) : xs[j.toNatClampNeg]? = some (rdL xs j) := by
  rw [rdL, List.getD_eq_getElem?_getD, List.getElem?_eq_getElem (inb_lt h)]; rfl
theorem CR.wrI {t : Nat} {xs : List Int32} {j x : Int32} (W : Wr h h' a j.toNatClampNeg (.int x)) (r : CR P C Z am (.inr (.inl (t, xs))) h a) : CR P C Z am (.inr (.inl (t, wr xs j x))) h' a := by
  obtain ⟨cl, r1, r2, r3⟩ := r
  refine ⟨_, r1.same W, by rw [sz_set, r2]; simp [wr], fun i y q => ?_⟩
  unfold wr at q
  rw [List.getElem?_set] at q
  by_cases e : j.toNatClampNeg = i
  · rw [if_pos e] at q
    split at q
    · cases q; subst e
      have hs : j.toNatClampNeg < cl.slots.size := by omega
      simp [Cell.setSlot, hs]
    · cases q
  · rw [if_neg e] at q
    simp only [Cell.setSlot]
    rw [Array.getElem?_setIfInBounds_ne e]; exact r3 _ _ q
theorem CR.wrJ {xs : List Int64} {j : Int32} {x : Int64} (W : Wr h h' a j.toNatClampNeg (.long x)) (r : CR P C Z am (.inr (.inr xs)) h a) : CR P C Z am (.inr (.inr (wrL xs j x))) h' a := by
  obtain ⟨cl, r1, r2, r3⟩ := r
  refine ⟨_, r1.same W, by rw [sz_set, r2]; simp [wrL], fun i y q => ?_⟩
  unfold wrL at q
  rw [List.getElem?_set] at q
  by_cases e : j.toNatClampNeg = i
  · rw [if_pos e] at q
    split at q
    · cases q; subst e
      have hs : j.toNatClampNeg < cl.slots.size := by omega
      simp [Cell.setSlot, hs]
    · cases q
  · rw [if_neg e] at q
    simp only [Cell.setSlot]
    rw [Array.getElem?_setIfInBounds_ne e]; exact r3 _ _ q
end Heap
/-! ## what the sheet's words must say -/
def tyOk : Nat → FieldType → Bool
  | 0, .int => true
  | 1, .boolean => true
  | 2, .long => true
  | 3, .array _ => true
  | _, _ => false
def rcv (q : Nat) : Nat := match q with | 0 => 0 | _ => 1
def KindOk (P : Prog) (nm : Nat → MethodName) (C : String) (Z : State) (a0 : Array Value) (q k : Nat) : Prop := match q with
  | 0 => (Cond.static (nm k)).before a0 Z = true
  | 1 => (nm k).name = "<init>" ∧ (Cond.instanceMethod (nm k)).before a0 Z = true ∧ P.ret k = none
  | 2 => (Cond.declares (nm k)).before a0 Z = true ∧ (Cond.instanceMethod (nm k)).before a0 Z = true ∧ (Cond.selects C (nm k) (nm k)).before a0 Z = true
  | _ => (nm k).cls = C ∧ (Cond.instanceMethod (nm k)).before a0 Z = true ∧ (Cond.privateMethod (nm k)).before a0 Z = true
def CallOk (P : Prog) (nm : Nat → MethodName) (bc : Nat → ByteArray) (cn : Nat → String) (C : String) (Z : State) (a0 : Array Value) (c j q k : Nat) : Prop :=
  (Cond.methodLink (cn c) j (nm k)).before a0 Z = true ∧ (Cond.code (nm k) (bc k) (P.maxL k) (P.ret k)).before a0 Z = true ∧ (Cond.initialized (nm k).cls).before a0 Z = true ∧
      (∃ ps r, parseMethodDescriptor (nm k).desc = some ⟨ps, r⟩ ∧ P.pops k = ps.length + rcv q) ∧ plainName (nm k).cls = true ∧ ((nm k).cls ≠ "java/lang/invoke/MethodHandle" ∧ (nm k).cls ≠ "java/lang/invoke/VarHandle") ∧ (nm k).cls = cn (P.cls k) ∧ (P.ini k = true → (nm k).name = "<init>" ∧ (nm k).cls = C) ∧ KindOk P nm C Z a0 q k
def LinkOk (P : Prog) (nm : Nat → MethodName) (bc : Nat → ByteArray) (cn : Nat → String) (C : String) (Z : State) (a0 : Array Value) (c j q k : Nat) : Prop := match q with
  | 4 => (Cond.methodLink (cn c) j Lib.objectInit).before a0 Z = true ∧ (Cond.instanceMethod Lib.objectInit).before a0 Z = true ∧ (Cond.code Lib.objectInit ⟨#[0xb1]⟩ 1 none).before a0 Z = true
  | 5 => (Cond.classLink (cn c) j C).before a0 Z = true
  | q => CallOk P nm bc cn C Z a0 c j q k
def KonOk (cn : Nat → String) (Z : State) (a0 : Array Value) (c j : Nat) (v : Value) : Prop := match v with
  | .int x => (Cond.constant (cn c) j x).before a0 Z = true
  | .long x => (Cond.constantLong (cn c) j x).before a0 Z = true
  | _ => False
def Good (P : Prog) (nm : Nat → MethodName) (bc : Nat → ByteArray) (cn : Nat → String) (C : String) (Z : State) (a0 : Array Value) : Prop :=
  (∀ k pc i np, P.code k pc = some (i, np) → ∃ len, decode (bc k) pc = .ok (i, len) ∧ np = pc + len ∧ (ilen i = 0 ∨ len = ilen i)) ∧
  (∀ c j f, P.fld c j = some f → ∃ n d t fin, P.fields[f]? = some (n, d, t, fin) ∧ (Cond.fieldLink (cn c) j C n d).before a0 Z = true) ∧
  (∀ (f : Nat) n d t (fin : Bool), P.fields[f]? = some (n, d, t, fin) → (bif fin then (Cond.laysFinal C C n d).before a0 Z else (Cond.lays C C n d).before a0 Z) = true ∧ ∃ ty, parseFieldDescriptor d = some ty ∧ tyOk t ty = true ∧ defaultValue ty = dflt t) ∧
  (∀ (f g : Nat) n d t (fin : Bool) n' d' t' (fin' : Bool), P.fields[f]? = some (n, d, t, fin) → P.fields[g]? = some (n', d', t', fin') → f ≠ g → n ≠ n') ∧
  (∀ c j v, P.kon c j = some v → KonOk cn Z a0 c j v) ∧
  (Cond.instantiable C P.objN).before a0 Z = true ∧ (Cond.initialized C).before a0 Z = true ∧
  (∀ k pc t np, P.code k pc = some (.newarray t, np) → (Cond.arrayClass (newarray.typeOf t)).before a0 Z = true) ∧
  (∀ c j q k, P.link c j = some (q, k) → LinkOk P nm bc cn C Z a0 c j q k)
end Jvm.OwnX
namespace Jvm.OwnX
open Sem ClassFile Op Lib Jvm.Stand Jvm.Free Jvm.LawKit Jvm.RoadKit
section Sound
variable {p : Program} {l : Launch} {e : Env} {R : Room} {s : State} {m : MethodId} {args : Array Value} {below : List Frame} {meth : Method} {c : Code} {T : State} {locs : List Loc} {cells slots : Nat}
variable {P : Prog} {nm : Nat → MethodName} {bc : Nat → ByteArray} {cn : Nat → String} {C : String} {Z : State} {a0 : Array Value} {n0 : Nat}
/-- where the walk stands behind a step -/
def Behind (p : Program) (l : Launch) (e : Env) (R : Room) (s : State) (m : MethodId) (args : Array Value) (below : List Frame) (meth : Method) (c : Code) (P : Prog) (C : String) (Z : State) (n0 : Nat) (am : List Addr) (cells slots : Nat)
    (T : State) (pc : Nat) (ls : Array Slot) (st : List Value) (pc' : Nat) (L' : ALoc) (S' : List Value) (H' : AHeap) (dc ds : Nat) : Prop :=
  ∃ T' am' ls' st' locs', Stand p l e R s m args below meth c T' locs' (cells + dc) (slots + ds) ∧ LR am' L' ls' ∧ ls'.size = ls.size ∧ SR am' S' st' ∧ HR P C Z n0 am' H' T'.heap ∧ Pre am am' ∧ Fr n0 locs' ∧ n0 ≤ T'.heap.size ∧
    ∀ target, Steps p.tables e below (T'.setTop (mkF m pc' ls' st')) target → Steps p.tables e below (T.setTop (mkF m pc ls st)) target
theorem Behind.plain {am : List Addr} {H : AHeap} {pc pc' : Nat} {L' : ALoc} {S' : List Value} {ls ls' : Array Slot} {st st' : List Value} (X : Stand p l e R s m args below meth c T locs cells slots) (hL : LR am L' ls') (hz : ls'.size = ls.size) (hS : SR am S' st') (hH : HR P C Z n0 am H T.heap) (hF : Fr n0 locs) (hn : n0 ≤ T.heap.size)
    (hs : ∀ target, Steps p.tables e below (T.setTop (mkF m pc' ls' st')) target → Steps p.tables e below (T.setTop (mkF m pc ls st)) target) : Behind p l e R s m args below meth c P C Z n0 am cells slots T pc ls st pc' L' S' H (H.length - H.length) (hsz P H - hsz P H) :=
  ⟨T, am, ls', st', locs, by simpa using X, hL, hz, hS, hH, Pre.refl _, hF, hn, hs⟩
theorem Behind.plain' {T' : State} {am : List Addr} {H : AHeap} {pc pc' : Nat} {L' : ALoc} {S' : List Value} {ls ls' : Array Slot} {st st' : List Value} (X : Stand p l e R s m args below meth c T' locs cells slots) (eT : T'.heap = T.heap) (hL : LR am L' ls') (hz : ls'.size = ls.size) (hS : SR am S' st') (hH : HR P C Z n0 am H T.heap) (hF : Fr n0 locs) (hn : n0 ≤ T.heap.size)
    (hs : ∀ target, Steps p.tables e below (T'.setTop (mkF m pc' ls' st')) target → Steps p.tables e below (T.setTop (mkF m pc ls st)) target) : Behind p l e R s m args below meth c P C Z n0 am cells slots T pc ls st pc' L' S' H (H.length - H.length) (hsz P H - hsz P H) :=
  ⟨T', am, ls', st', locs, by simpa using X, hL, hz, hS, by rw [eT]; exact hH, Pre.refl _, hF, by rw [eT]; exact hn, hs⟩
theorem tgt_spec {pc t : Nat} {o : Int} (h : tgt pc o = some t) : 0 ≤ (pc : Int) + o ∧ ((pc : Int) + o).toNat = t := by
  unfold tgt at h
  split at h
  · rename_i n hn; cases h; rw [hn]; exact ⟨Int.natCast_nonneg _, rfl⟩
  · cases h
theorem hsz_app (P : Prog) : ∀ (H : AHeap) (c : ACell), hsz P (H ++ [c]) = hsz P H + csz P.objN c
  | [], c => by simp [hsz]
  | x :: r, c => by simp only [List.cons_append, hsz, hsz_app P r c]; omega
theorem hsz_set (P : Prog) : ∀ (H : AHeap) (i : Nat) (c c' : ACell), H[i]? = some c' → csz P.objN c = csz P.objN c' → hsz P (H.set i c) = hsz P H
  | [], i, c, c', h, _ => by simp at h
  | x :: r, 0, c, c', h, e => by simp at h; subst h; simp [hsz, e]
  | x :: r, i + 1, c, c', h, e => by simp only [List.set_cons_succ, hsz]; rw [List.getElem?_cons_succ] at h; rw [hsz_set P r i c c' h e]
/-- a write -/
theorem Behind.write {T' : State} {am : List Addr} {H : AHeap} {i sl : Nat} {cc cc' : ACell} {a : Addr} {w : Value} {h' : Heap} {pc pc' : Nat} {L' : ALoc} {S' : List Value} {ls : Array Slot} {st st' : List Value} (X : Stand p l e R s m args below meth c T' (locs ++ [⟨a, sl⟩]) cells slots) (eT : T'.heap = h') (W : Wr T.heap h' a sl w)
    (hL : LR am L' ls) (hS : SR am S' st') (hH : HR P C Z n0 am H T.heap) (hi : am[i]? = some a) (hro : P.ro ≤ i) (hc' : H[i]? = some cc') (hcs : csz P.objN cc = csz P.objN cc') (hC : CR P C Z am cc h' a) (hF : Fr n0 locs) (hn : n0 ≤ T.heap.size)
    (hs : ∀ target, Steps p.tables e below (T'.setTop (mkF m pc' ls st')) target → Steps p.tables e below (T.setTop (mkF m pc ls st)) target) :
    Behind p l e R s m args below meth c P C Z n0 am cells slots T pc ls st pc' L' S' (H.set i cc) ((H.set i cc).length - H.length) (hsz P (H.set i cc) - hsz P H) := by
  rw [hsz_set P H i cc cc' hc' hcs]
  refine ⟨T', am, ls, st', _, by simpa using X, hL, rfl, hS, by rw [eT]; exact hH.upd W hi hC, Pre.refl _, Fr.snoc X hF ((hH.2.2.1 _ _ hi).2 hro), by rw [eT, W.size]; exact hn, hs⟩
theorem arr_new {am : List Addr} {h h' : Heap} {cA : ClassId} {q : Nat} {n : Int32} {t : ArrayType} (ht : atyOf t = some q) (hn : ¬ n < 0) (A : Arr Z h' h.size (newA cA (newarray.typeOf t) n) (newarray.typeOf t)) : CR P C Z am (newC q n.toNatClampNeg) h' h.size := by
  have key : ∀ {d : Value}, ∀ j, (Array.replicate n.toNatClampNeg d)[j]? = if j < n.toNatClampNeg then some d else none := fun j => by rw [Array.getElem?_replicate]
  cases t <;> simp only [atyOf, Option.some.injEq, reduceCtorEq] at ht <;> subst ht
  · refine ⟨_, A, by simp [newA], fun j x q => ?_⟩
    rw [List.getElem?_replicate] at q
    split at q
    · cases q; simp only [newA]; rw [key, if_pos (by assumption)]; rfl
    · cases q
  · refine ⟨_, A, by simp [newA], fun j x q => ?_⟩
    rw [List.getElem?_replicate] at q
    split at q
    · cases q; simp only [newA]; rw [key, if_pos (by assumption)]; rfl
    · cases q
  · refine ⟨_, A, by simp [newA], fun j x q => ?_⟩
    rw [List.getElem?_replicate] at q
    split at q
    · cases q; simp only [newA]; rw [key, if_pos (by assumption)]; rfl
    · cases q
  · refine ⟨_, A, by simp [newA], fun j x q => ?_⟩
    rw [List.getElem?_replicate] at q
    split at q
    · cases q; simp only [newA]; rw [key, if_pos (by assumption)]; rfl
    · cases q
theorem csz_new {t : ArrayType} {q : Nat} (N n : Nat) (ht : atyOf t = some q) : csz N (newC q n) = n := by
  cases t <;> simp only [atyOf, Option.some.injEq, reduceCtorEq] at ht <;> subst ht <;> simp [newC, csz]
set_option maxHeartbeats 4000000 in
theorem step_sound (G : Good P nm bc cn C Z a0) {k pc np pc' : Nat} {i : Instr} {L L' : ALoc} {S S' : List Value} {H H' : AHeap} (hcode : P.code k pc = some (i, np)) (h : step P k i np pc L S H = some (pc', L', S', H'))
    (X : Stand p l e R s m args below meth c T locs cells slots) (hx : p.tables.exec = Jvm.exec) (hZ : Z.Warmed39 s.vm) (hby : c.code = bc k) (hml : c.maxLocals = P.maxL k) (hown : s.vm.findClass (cn (P.cls k)) = some m.cls) (hini : P.ini k = true → meth.name = "<init>" ∧ cn (P.cls k) = C)
    (hrf : P.rf k ≤ R.frames) (hrl : P.rl k ≤ R.locals) (hcells : cells + (H'.length - H.length) ≤ R.cells) (hslots : slots + (hsz P H' - hsz P H) ≤ R.slots) {am : List Addr} {ls : Array Slot} {st : List Value} (hlz : ls.size = P.maxL k) (hL : LR am L ls) (hS : SR am S st) (hH : HR P C Z n0 am H T.heap) (hF : Fr n0 locs) (hn : n0 ≤ T.heap.size) :
    Behind p l e R s m args below meth c P C Z n0 am cells slots T pc ls st pc' L' S' H' (H'.length - H.length) (hsz P H' - hsz P H) := by
  obtain ⟨G1, G2, G3, G4, G5, G6, G7, G8, G9⟩ := G
  obtain ⟨len, hdec, rfl, hlen⟩ := G1 _ _ _ _ hcode
  have hd : decode c.code pc = .ok (i, len) := by rw [hby]; exact hdec
  cases i
  case iload_n n =>
    simp only [step] at h
    obtain rfl := hlen.resolve_left (by simp [ilen])
    cases hl : loadI L n.val with
    | none => simp [hl] at h
    | some x =>
      simp only [hl, Option.some.injEq, Prod.mk.injEq] at h; obtain ⟨rfl, rfl, rfl, rfl⟩ := h
      exact Behind.plain X hL rfl ⟨_, _, rfl, rfl, hS⟩ hH hF hn fun target hr => XS.iloadN X.here hx rfl (g := mkF m pc ls st) hd (hL.int hl) hr
  case iload n =>
    simp only [step] at h
    obtain rfl := hlen.resolve_left (by simp [ilen])
    cases hl : loadI L n with
    | none => simp [hl] at h
    | some x =>
      simp only [hl, Option.some.injEq, Prod.mk.injEq] at h; obtain ⟨rfl, rfl, rfl, rfl⟩ := h
      exact Behind.plain X hL rfl ⟨_, _, rfl, rfl, hS⟩ hH hF hn fun target hr => XS.iload X.here hx rfl (g := mkF m pc ls st) hd (hL.int hl) hr
  case lload_n n =>
    simp only [step] at h
    obtain rfl := hlen.resolve_left (by simp [ilen])
    cases hl : loadJ L n.val with
    | none => simp [hl] at h
    | some x =>
      simp only [hl, Option.some.injEq, Prod.mk.injEq] at h; obtain ⟨rfl, rfl, rfl, rfl⟩ := h
      exact Behind.plain X hL rfl ⟨_, _, rfl, rfl, hS⟩ hH hF hn fun target hr => XS.lloadN X.here hx rfl (g := mkF m pc ls st) hd (hL.long hl) hr
  case lload n =>
    simp only [step] at h
    obtain rfl := hlen.resolve_left (by simp [ilen])
    cases hl : loadJ L n with
    | none => simp [hl] at h
    | some x =>
      simp only [hl, Option.some.injEq, Prod.mk.injEq] at h; obtain ⟨rfl, rfl, rfl, rfl⟩ := h
      exact Behind.plain X hL rfl ⟨_, _, rfl, rfl, hS⟩ hH hF hn fun target hr => XS.lload X.here hx rfl (g := mkF m pc ls st) hd (hL.long hl) hr
  case aload_n n =>
    simp only [step] at h
    obtain rfl := hlen.resolve_left (by simp [ilen])
    cases hl : loadA L n.val with
    | none => simp [hl] at h
    | some x =>
      simp only [hl, Option.some.injEq, Prod.mk.injEq] at h; obtain ⟨rfl, rfl, rfl, rfl⟩ := h
      obtain ⟨a, ha, hl'⟩ := hL.ref hl
      exact Behind.plain X hL rfl ⟨_, _, rfl, ⟨a, ha, rfl⟩, hS⟩ hH hF hn fun target hr => XS.aloadN X.here hx rfl (g := mkF m pc ls st) hd hl' rfl hr
  case aload n =>
    simp only [step] at h
    obtain rfl := hlen.resolve_left (by simp [ilen])
    cases hl : loadA L n with
    | none => simp [hl] at h
    | some x =>
      simp only [hl, Option.some.injEq, Prod.mk.injEq] at h; obtain ⟨rfl, rfl, rfl, rfl⟩ := h
      obtain ⟨a, ha, hl'⟩ := hL.ref hl
      exact Behind.plain X hL rfl ⟨_, _, rfl, ⟨a, ha, rfl⟩, hS⟩ hH hF hn fun target hr => XS.aload X.here hx rfl (g := mkF m pc ls st) hd hl' rfl hr
  case istore_n n =>
    simp only [step] at h
    obtain rfl := hlen.resolve_left (by simp [ilen])
    split at h
    · rename_i x r
      cases hl : lput L n.val (.int x) with
      | none => simp [hl] at h
      | some L2 =>
        simp only [hl, Option.some.injEq, Prod.mk.injEq] at h; obtain ⟨rfl, rfl, rfl, rfl⟩ := h
        obtain ⟨_, _, rfl, rfl, hr'⟩ := hS
        obtain ⟨l', h1, h2, h3⟩ := hL.put (w := .int x) hl rfl rfl
        exact Behind.plain X h3 h2 hr' hH hF hn fun target hr => XS.istoreN X.here hx rfl (g := mkF m pc ls _) hd rfl h1 hr
    · cases h
  case istore n =>
    simp only [step] at h
    obtain rfl := hlen.resolve_left (by simp [ilen])
    split at h
    · rename_i x r
      cases hl : lput L n (.int x) with
      | none => simp [hl] at h
      | some L2 =>
        simp only [hl, Option.some.injEq, Prod.mk.injEq] at h; obtain ⟨rfl, rfl, rfl, rfl⟩ := h
        obtain ⟨_, _, rfl, rfl, hr'⟩ := hS
        obtain ⟨l', h1, h2, h3⟩ := hL.put (w := .int x) hl rfl rfl
        exact Behind.plain X h3 h2 hr' hH hF hn fun target hr => XS.istore X.here hx rfl (g := mkF m pc ls _) hd rfl h1 hr
    · cases h
  case lstore_n n =>
    simp only [step] at h
    obtain rfl := hlen.resolve_left (by simp [ilen])
    split at h
    · rename_i x r
      cases hl : lputL L n.val x with
      | none => simp [hl] at h
      | some L2 =>
        simp only [hl, Option.some.injEq, Prod.mk.injEq] at h; obtain ⟨rfl, rfl, rfl, rfl⟩ := h
        obtain ⟨_, _, rfl, rfl, hr'⟩ := hS
        obtain ⟨l', h1, h2, h3⟩ := hL.putL hl
        exact Behind.plain X h3 h2 hr' hH hF hn fun target hr => XS.lstoreN X.here hx rfl (g := mkF m pc ls _) hd rfl h1 hr
    · cases h
  case lstore n =>
    simp only [step] at h
    obtain rfl := hlen.resolve_left (by simp [ilen])
    split at h
    · rename_i x r
      cases hl : lputL L n x with
      | none => simp [hl] at h
      | some L2 =>
        simp only [hl, Option.some.injEq, Prod.mk.injEq] at h; obtain ⟨rfl, rfl, rfl, rfl⟩ := h
        obtain ⟨_, _, rfl, rfl, hr'⟩ := hS
        obtain ⟨l', h1, h2, h3⟩ := hL.putL hl
        exact Behind.plain X h3 h2 hr' hH hF hn fun target hr => XS.lstore X.here hx rfl (g := mkF m pc ls _) hd rfl h1 hr
    · cases h
  case astore_n n =>
    simp only [step] at h
    obtain rfl := hlen.resolve_left (by simp [ilen])
    split at h
    · rename_i x r
      cases hl : lput L n.val (.ref x) with
      | none => simp [hl] at h
      | some L2 =>
        simp only [hl, Option.some.injEq, Prod.mk.injEq] at h; obtain ⟨rfl, rfl, rfl, rfl⟩ := h
        obtain ⟨_, _, rfl, ⟨a, ha, rfl⟩, hr'⟩ := hS
        obtain ⟨l', h1, h2, h3⟩ := hL.put (w := .ref a) hl ⟨a, ha, rfl⟩ rfl
        exact Behind.plain X h3 h2 hr' hH hF hn fun target hr => XS.astoreN X.here hx rfl (g := mkF m pc ls _) hd rfl rfl h1 hr
    · cases h
  case astore n =>
    simp only [step] at h
    obtain rfl := hlen.resolve_left (by simp [ilen])
    split at h
    · rename_i x r
      cases hl : lput L n (.ref x) with
      | none => simp [hl] at h
      | some L2 =>
        simp only [hl, Option.some.injEq, Prod.mk.injEq] at h; obtain ⟨rfl, rfl, rfl, rfl⟩ := h
        obtain ⟨_, _, rfl, ⟨a, ha, rfl⟩, hr'⟩ := hS
        obtain ⟨l', h1, h2, h3⟩ := hL.put (w := .ref a) hl ⟨a, ha, rfl⟩ rfl
        exact Behind.plain X h3 h2 hr' hH hF hn fun target hr => XS.astore X.here hx rfl (g := mkF m pc ls _) hd rfl rfl h1 hr
    · cases h
  case iinc n cst =>
    simp only [step] at h
    obtain rfl := hlen.resolve_left (by simp [ilen])
    cases hl : loadI L n with
    | none => simp [hl] at h
    | some x =>
      cases hp : lput L n (.int (x + Int32.ofInt cst)) with
      | none => simp [hl, hp] at h
      | some L2 =>
        simp only [hl, hp, Option.some.injEq, Prod.mk.injEq] at h; obtain ⟨rfl, rfl, rfl, rfl⟩ := h
        obtain ⟨l', h1, h2, h3⟩ := hL.put (w := .int (x + Int32.ofInt cst)) hp rfl rfl
        exact Behind.plain X h3 h2 hS hH hF hn fun target hr => XS.iinc X.here hx rfl (g := mkF m pc ls st) hd (hL.int hl) h1 hr
  case iconst q =>
    simp only [step] at h
    obtain rfl := hlen.resolve_left (by simp [ilen])
    simp only [Option.some.injEq, Prod.mk.injEq] at h; obtain ⟨rfl, rfl, rfl, rfl⟩ := h
    exact Behind.plain X hL rfl ⟨_, _, rfl, rfl, hS⟩ hH hF hn fun target hr => XS.iconst X.here hx rfl (g := mkF m pc ls st) hd hr
  case bipush q =>
    simp only [step] at h
    obtain rfl := hlen.resolve_left (by simp [ilen])
    simp only [Option.some.injEq, Prod.mk.injEq] at h; obtain ⟨rfl, rfl, rfl, rfl⟩ := h
    exact Behind.plain X hL rfl ⟨_, _, rfl, rfl, hS⟩ hH hF hn fun target hr => XS.bipush X.here hx rfl (g := mkF m pc ls st) hd hr
  case sipush q =>
    simp only [step] at h
    obtain rfl := hlen.resolve_left (by simp [ilen])
    simp only [Option.some.injEq, Prod.mk.injEq] at h; obtain ⟨rfl, rfl, rfl, rfl⟩ := h
    exact Behind.plain X hL rfl ⟨_, _, rfl, rfl, hS⟩ hH hF hn fun target hr => XS.sipush X.here hx rfl (g := mkF m pc ls st) hd hr
  case lconst q =>
    simp only [step] at h
    obtain rfl := hlen.resolve_left (by simp [ilen])
    simp only [Option.some.injEq, Prod.mk.injEq] at h; obtain ⟨rfl, rfl, rfl, rfl⟩ := h
    exact Behind.plain X hL rfl ⟨_, _, rfl, rfl, hS⟩ hH hF hn fun target hr => XS.lconst X.here hx rfl (g := mkF m pc ls st) hd hr
  case ldc j =>
    simp only [step] at h
    obtain rfl := hlen.resolve_left (by simp [ilen])
    split at h
    · rename_i x hk
      simp only [Option.some.injEq, Prod.mk.injEq] at h; obtain ⟨rfl, rfl, rfl, rfl⟩ := h
      have w := G5 _ _ _ hk
      exact Behind.plain X hL rfl ⟨_, _, rfl, rfl, hS⟩ hH hF hn fun target hr => X.ldcInt hx hown (mvT hZ w) (g := mkF m pc ls st) rfl hd _ hr
    · cases h
  case ldc2_w j =>
    simp only [step] at h
    obtain rfl := hlen.resolve_left (by simp [ilen])
    split at h
    · rename_i x hk
      simp only [Option.some.injEq, Prod.mk.injEq] at h; obtain ⟨rfl, rfl, rfl, rfl⟩ := h
      have w := G5 _ _ _ hk
      exact Behind.plain X hL rfl ⟨_, _, rfl, rfl, hS⟩ hH hF hn fun target hr => X.ldc2Long hx hown (mvT hZ w) (g := mkF m pc ls st) rfl hd _ hr
    · cases h
  case idiv =>
    simp only [step] at h
    obtain rfl := hlen.resolve_left (by simp [ilen])
    split at h
    · rename_i y x r
      by_cases hy : y = 0
      · simp [hy] at h
      · simp only [hy, decide_false, cond_false, Option.some.injEq, Prod.mk.injEq] at h; obtain ⟨rfl, rfl, rfl, rfl⟩ := h
        obtain ⟨_, _, rfl, rfl, _, _, rfl, rfl, hr'⟩ := hS
        exact Behind.plain X hL rfl ⟨_, _, rfl, rfl, hr'⟩ hH hF hn fun target hr => XS.idiv X.here hx rfl (g := mkF m pc ls _) hd rfl hy hr
    · cases h
  case irem =>
    simp only [step] at h
    obtain rfl := hlen.resolve_left (by simp [ilen])
    split at h
    · rename_i y x r
      by_cases hy : y = 0
      · simp [hy] at h
      · simp only [hy, decide_false, cond_false, Option.some.injEq, Prod.mk.injEq] at h; obtain ⟨rfl, rfl, rfl, rfl⟩ := h
        obtain ⟨_, _, rfl, rfl, _, _, rfl, rfl, hr'⟩ := hS
        exact Behind.plain X hL rfl ⟨_, _, rfl, rfl, hr'⟩ hH hF hn fun target hr => iremM X hx rfl (g := mkF m pc ls _) hd rfl hy hr
    · cases h
  case lshl =>
    simp only [step] at h
    obtain rfl := hlen.resolve_left (by simp [ilen])
    split at h
    · rename_i y x r
      simp only [Option.some.injEq, Prod.mk.injEq] at h; obtain ⟨rfl, rfl, rfl, rfl⟩ := h
      obtain ⟨_, _, rfl, rfl, _, _, rfl, rfl, hr'⟩ := hS
      exact Behind.plain X hL rfl ⟨_, _, rfl, rfl, hr'⟩ hH hF hn fun target hr => XS.lshl X.here hx rfl (g := mkF m pc ls _) hd rfl hr
    · cases h
  case lushr =>
    simp only [step] at h
    obtain rfl := hlen.resolve_left (by simp [ilen])
    split at h
    · rename_i y x r
      simp only [Option.some.injEq, Prod.mk.injEq] at h; obtain ⟨rfl, rfl, rfl, rfl⟩ := h
      obtain ⟨_, _, rfl, rfl, _, _, rfl, rfl, hr'⟩ := hS
      exact Behind.plain X hL rfl ⟨_, _, rfl, rfl, hr'⟩ hH hF hn fun target hr => XS.lushr X.here hx rfl (g := mkF m pc ls _) hd rfl hr
    · cases h
  case lcmp =>
    simp only [step] at h
    obtain rfl := hlen.resolve_left (by simp [ilen])
    split at h
    · rename_i y x r
      simp only [Option.some.injEq, Prod.mk.injEq] at h; obtain ⟨rfl, rfl, rfl, rfl⟩ := h
      obtain ⟨_, _, rfl, rfl, _, _, rfl, rfl, hr'⟩ := hS
      exact Behind.plain X hL rfl ⟨_, _, rfl, rfl, hr'⟩ hH hF hn fun target hr => XS.lcmp X.here hx rfl (g := mkF m pc ls _) hd rfl hr
    · cases h
  case lneg =>
    simp only [step] at h
    obtain rfl := hlen.resolve_left (by simp [ilen])
    split at h
    · rename_i x r
      simp only [Option.some.injEq, Prod.mk.injEq] at h; obtain ⟨rfl, rfl, rfl, rfl⟩ := h
      obtain ⟨_, _, rfl, rfl, hr'⟩ := hS
      exact Behind.plain X hL rfl ⟨_, _, rfl, rfl, hr'⟩ hH hF hn fun target hr => XS.lneg X.here hx rfl (g := mkF m pc ls _) hd rfl hr
    · cases h
  case i2l =>
    simp only [step] at h
    obtain rfl := hlen.resolve_left (by simp [ilen])
    split at h
    · rename_i x r
      simp only [Option.some.injEq, Prod.mk.injEq] at h; obtain ⟨rfl, rfl, rfl, rfl⟩ := h
      obtain ⟨_, _, rfl, rfl, hr'⟩ := hS
      exact Behind.plain X hL rfl ⟨_, _, rfl, rfl, hr'⟩ hH hF hn fun target hr => XS.i2l X.here hx rfl (g := mkF m pc ls _) hd rfl hr
    · cases h
  case l2i =>
    simp only [step] at h
    obtain rfl := hlen.resolve_left (by simp [ilen])
    split at h
    · rename_i x r
      simp only [Option.some.injEq, Prod.mk.injEq] at h; obtain ⟨rfl, rfl, rfl, rfl⟩ := h
      obtain ⟨_, _, rfl, rfl, hr'⟩ := hS
      exact Behind.plain X hL rfl ⟨_, _, rfl, rfl, hr'⟩ hH hF hn fun target hr => XS.l2i X.here hx rfl (g := mkF m pc ls _) hd rfl hr
    · cases h
  case i2b =>
    simp only [step] at h
    obtain rfl := hlen.resolve_left (by simp [ilen])
    split at h
    · rename_i x r
      simp only [Option.some.injEq, Prod.mk.injEq] at h; obtain ⟨rfl, rfl, rfl, rfl⟩ := h
      obtain ⟨_, _, rfl, rfl, hr'⟩ := hS
      exact Behind.plain X hL rfl ⟨_, _, rfl, rfl, hr'⟩ hH hF hn fun target hr => XS.i2b X.here hx rfl (g := mkF m pc ls _) hd rfl hr
    · cases h
  case dup =>
    simp only [step] at h
    obtain rfl := hlen.resolve_left (by simp [ilen])
    split at h
    · rename_i x r
      simp only [Option.some.injEq, Prod.mk.injEq] at h; obtain ⟨rfl, rfl, rfl, rfl⟩ := h
      obtain ⟨_, _, rfl, ⟨a, ha, rfl⟩, hr'⟩ := hS
      exact Behind.plain X hL rfl ⟨_, _, rfl, ⟨a, ha, rfl⟩, _, _, rfl, ⟨a, ha, rfl⟩, hr'⟩ hH hF hn fun target hr => XS.dup X.here hx rfl (g := mkF m pc ls _) hd rfl rfl hr
    · rename_i x r
      simp only [Option.some.injEq, Prod.mk.injEq] at h; obtain ⟨rfl, rfl, rfl, rfl⟩ := h
      obtain ⟨_, _, rfl, rfl, hr'⟩ := hS
      exact Behind.plain X hL rfl ⟨_, _, rfl, rfl, _, _, rfl, rfl, hr'⟩ hH hF hn fun target hr => XS.dup X.here hx rfl (g := mkF m pc ls _) hd rfl rfl hr
    · cases h
  case dup2 =>
    simp only [step] at h
    obtain rfl := hlen.resolve_left (by simp [ilen])
    split at h
    · rename_i x y r
      simp only [Option.some.injEq, Prod.mk.injEq] at h; obtain ⟨rfl, rfl, rfl, rfl⟩ := h
      obtain ⟨_, _, rfl, rfl, _, _, rfl, ⟨a, ha, rfl⟩, hr'⟩ := hS
      exact Behind.plain X hL rfl ⟨_, _, rfl, rfl, _, _, rfl, ⟨a, ha, rfl⟩, _, _, rfl, rfl, _, _, rfl, ⟨a, ha, rfl⟩, hr'⟩ hH hF hn fun target hr => XT.dup2 X.here hx rfl (g := mkF m pc ls _) hd rfl rfl rfl hr
    · cases h
  case pop =>
    simp only [step] at h
    obtain rfl := hlen.resolve_left (by simp [ilen])
    split at h
    · rename_i x r
      simp only [Option.some.injEq, Prod.mk.injEq] at h; obtain ⟨rfl, rfl, rfl, rfl⟩ := h
      obtain ⟨_, _, rfl, rfl, hr'⟩ := hS
      exact Behind.plain X hL rfl hr' hH hF hn fun target hr => XS.pop X.here hx rfl (g := mkF m pc ls _) hd rfl rfl hr
    · rename_i x r
      simp only [Option.some.injEq, Prod.mk.injEq] at h; obtain ⟨rfl, rfl, rfl, rfl⟩ := h
      obtain ⟨_, _, rfl, ⟨a, ha, rfl⟩, hr'⟩ := hS
      exact Behind.plain X hL rfl hr' hH hF hn fun target hr => XS.pop X.here hx rfl (g := mkF m pc ls _) hd rfl rfl hr
    · cases h
  case goto o =>
    simp only [step] at h
    obtain rfl := hlen.resolve_left (by simp [ilen])
    cases ht : tgt pc o with
    | none => simp [ht] at h
    | some t =>
      simp only [ht, Option.some.injEq, Prod.mk.injEq] at h; obtain ⟨rfl, rfl, rfl, rfl⟩ := h
      exact Behind.plain X hL rfl hS hH hF hn fun target hr => XS.goto X.here hx rfl (g := mkF m pc ls st) (pc0 := pc) rfl hd (tgt_spec ht).1 (tgt_spec ht).2 hr
  case ifCond cd o =>
    simp only [step] at h
    obtain rfl := hlen.resolve_left (by simp [ilen])
    split at h
    · rename_i x r
      obtain ⟨_, _, rfl, rfl, hr'⟩ := hS
      cases hc : if_icmp.holds cd x 0
      · simp only [hc, cond_false, Option.some.injEq, Prod.mk.injEq] at h; obtain ⟨rfl, rfl, rfl, rfl⟩ := h
        exact Behind.plain X hL rfl hr' hH hF hn fun target hr => XS.ifNo X.here hx rfl (g := mkF m pc ls _) hd rfl ((if0 _ _).trans hc) hr
      · cases ht : tgt pc o with
        | none => simp [hc, ht] at h
        | some t =>
          simp only [hc, ht, cond_true, Option.some.injEq, Prod.mk.injEq] at h; obtain ⟨rfl, rfl, rfl, rfl⟩ := h
          exact Behind.plain X hL rfl hr' hH hF hn fun target hr => XS.ifYes X.here hx rfl (g := mkF m pc ls _) (pc0 := pc) rfl hd rfl ((if0 _ _).trans hc) (tgt_spec ht).1 (tgt_spec ht).2 hr
    · cases h
  case if_icmp cd o =>
    simp only [step] at h
    obtain rfl := hlen.resolve_left (by simp [ilen])
    split at h
    · rename_i y x r
      obtain ⟨_, _, rfl, rfl, _, _, rfl, rfl, hr'⟩ := hS
      cases hc : if_icmp.holds cd x y
      · simp only [hc, cond_false, Option.some.injEq, Prod.mk.injEq] at h; obtain ⟨rfl, rfl, rfl, rfl⟩ := h
        exact Behind.plain X hL rfl hr' hH hF hn fun target hr => XS.icmpNo X.here hx rfl (g := mkF m pc ls _) hd rfl hc hr
      · cases ht : tgt pc o with
        | none => simp [hc, ht] at h
        | some t =>
          simp only [hc, ht, cond_true, Option.some.injEq, Prod.mk.injEq] at h; obtain ⟨rfl, rfl, rfl, rfl⟩ := h
          exact Behind.plain X hL rfl hr' hH hF hn fun target hr => XS.icmpYes X.here hx rfl (g := mkF m pc ls _) (pc0 := pc) rfl hd rfl hc (tgt_spec ht).1 (tgt_spec ht).2 hr
    · cases h
  case tableswitch d lo hi offs =>
    simp only [step] at h
    split at h
    · rename_i x r
      obtain ⟨_, _, rfl, rfl, hr'⟩ := hS
      by_cases ho : x.toInt < lo ∨ x.toInt > hi
      · have ho' : (decide (x.toInt < lo) || decide (x.toInt > hi)) = true := by simpa using ho
        cases ht : tgt pc d with
        | none => simp [ho', ht] at h
        | some t =>
          simp only [ho', ht, cond_true, Option.some.injEq, Prod.mk.injEq] at h; obtain ⟨rfl, rfl, rfl, rfl⟩ := h
          exact Behind.plain X hL rfl hr' hH hF hn fun target hr => XS.tswOut X.here hx rfl (g := mkF m pc ls _) (pc0 := pc) rfl hd rfl ho (tgt_spec ht).1 (tgt_spec ht).2 hr
      · have ho' : (decide (x.toInt < lo) || decide (x.toInt > hi)) = false := by simpa using ho
        cases hq : offs.toList[(x.toInt - lo).toNat]? with
        | none => simp [ho', hq] at h
        | some o =>
          cases ht : tgt pc o with
          | none => simp [ho', hq, ht] at h
          | some t =>
            simp only [ho', hq, ht, cond_false, Option.some.injEq, Prod.mk.injEq] at h; obtain ⟨rfl, rfl, rfl, rfl⟩ := h
            exact Behind.plain X hL rfl hr' hH hF hn fun target hr => XS.tswIn X.here hx rfl (g := mkF m pc ls _) (pc0 := pc) rfl hd rfl ho (by rw [← Array.getElem?_toList]; exact hq) (tgt_spec ht).1 (tgt_spec ht).2 hr
    · cases h
  case getfield j =>
    simp only [step] at h
    obtain rfl := hlen.resolve_left (by simp [ilen])
    split at h
    · rename_i a r
      obtain ⟨_, _, rfl, ⟨b, hb, rfl⟩, hr'⟩ := hS
      cases hf : P.fld (P.cls k) j with
      | none => simp [hf] at h
      | some f =>
        cases hg : getC H a f with
        | none => simp [hf, hg] at h
        | some v =>
          simp only [hf, hg, Option.some.injEq, Prod.mk.injEq] at h; obtain ⟨rfl, rfl, rfl, rfl⟩ := h
          obtain ⟨n, d, t, fin, g1, g2⟩ := G2 _ _ _ hf
          unfold getC at hg
          split at hg
          · rename_i fs hfs
            obtain ⟨b', e1, e2, e3, e4⟩ := hH.2.2.2 _ _ hfs
            cases hb.symm.trans e1
            obtain ⟨w, e5, e6⟩ := e4 _ _ _ _ _ _ hg g1
            obtain ⟨T2, X2, e7, s2⟩ := getF X hx hZ hown (host := "") (Or.inl g2) Via.refl rfl e6 (g := mkF m pc ls _) rfl rfl hd
            exact Behind.plain' X2 e7 hL rfl ⟨w, _, rfl, e5, hr'⟩ hH hF hn s2
          · cases hg
    · cases h
  case putfield j =>
    simp only [step] at h
    obtain rfl := hlen.resolve_left (by simp [ilen])
    split at h
    · rename_i v a r
      obtain ⟨w0, _, rfl, hv0, _, _, rfl, ⟨b, hb, rfl⟩, hr'⟩ := hS
      cases hf : P.fld (P.cls k) j with
      | none => simp [hf] at h
      | some f =>
        obtain ⟨n, d, t, fin, g1, g2⟩ := G2 _ _ _ hf
        simp only [hf, g1] at h
        cases hq : (!fin || P.ini k) && Nat.ble P.ro a
        · simp [hq] at h
        · simp only [hq, cond_true] at h
          cases hv : conv t v with
          | none => simp [hv] at h
          | some v' =>
            simp only [hv] at h
            split at h
            · rename_i fs hfs
              cases hz : Nat.ble (f + 1) fs.length
              · simp [hz] at h
              · simp only [hz, cond_true, Option.some.injEq, Prod.mk.injEq] at h; obtain ⟨rfl, rfl, rfl, rfl⟩ := h
                obtain ⟨b', e1, e2, e3, e4⟩ := hH.2.2.2 _ _ hfs
                cases hb.symm.trans e1
                simp only [Bool.and_eq_true, Bool.or_eq_true, Bool.not_eq_true'] at hq
                have hro : P.ro ≤ a := Nat.le_of_ble_eq_true hq.2
                have hfl : f < fs.length := Nat.le_of_ble_eq_true hz
                obtain ⟨l1, ty, l2, l3, l4⟩ := G3 _ _ _ _ _ g1
                obtain ⟨w, hw, hnw, hfw⟩ : ∃ w, VR am v' w ∧ narrow ty w0 = w ∧ fits ty w = true := by
                  unfold conv at hv
                  split at hv
                  · cases hv; cases hv0; cases ty <;> simp only [tyOk, Bool.false_eq_true] at l3; exact ⟨_, rfl, rfl, rfl⟩
                  · cases hv; cases hv0; cases ty <;> simp only [tyOk, Bool.false_eq_true] at l3; exact ⟨_, rfl, rfl, fits_nar_bool _⟩
                  · cases hv; cases hv0; cases ty <;> simp only [tyOk, Bool.false_eq_true] at l3; exact ⟨_, rfl, rfl, rfl⟩
                  · cases hv; obtain ⟨z, hz1, rfl⟩ := hv0; cases ty <;> simp only [tyOk, Bool.false_eq_true] at l3; exact ⟨_, ⟨z, hz1, rfl⟩, rfl, rfl⟩
                  · cases hv
                obtain ⟨old, o1, o2⟩ := e4 f _ _ _ _ _ (List.getElem?_eq_getElem hfl) g1
                have hfin : (Cond.lays C C n d).before a0 Z = true ∨ ((Cond.laysFinal C C n d).before a0 Z = true ∧ cn (P.cls k) = C ∧ meth.name = "<init>") := by
                  cases fin
                  · exact Or.inl l1
                  · obtain ⟨q1, q2⟩ := hini (by simpa using hq.1); exact Or.inr ⟨l1, q2, q1⟩
                obtain ⟨T2, h2, X2, e7, W2, s2⟩ := putFN X hx hZ hown g2 Via.refl rfl o2 e2 hfin G6 l2 hnw hfw (g := mkF m pc ls _) rfl rfl hd
                refine Behind.write (T' := T2) X2 e7 W2 hL hr' hH hb hro hfs rfl ?_ hF hn s2
                refine ⟨e2.wr W2, by rw [List.length_set]; exact e3, fun j' u n' d' t' f' q1 q2 => ?_⟩
                rw [List.getElem?_set] at q1
                by_cases ej : f = j'
                · subst ej
                  rw [if_pos rfl, if_pos hfl] at q1
                  cases q1
                  rw [g1] at q2; cases q2
                  exact ⟨w, hw, o2.same W2⟩
                · rw [if_neg ej] at q1
                  obtain ⟨w', y1, y2⟩ := e4 _ _ _ _ _ _ q1 q2
                  obtain ⟨l1', ty', l2', -, -⟩ := G3 _ _ _ _ _ q2
                  have hl1 : Laid Z a0 C C n d := by cases fin; exact Or.inl l1; exact Or.inr l1
                  have hl2 : Laid Z a0 C C n' d' := by cases f'; exact Or.inl l1'; exact Or.inr l1'
                  exact ⟨w', y1, y2.other W2 (Or.inr (slot_ne hl2 hl1 (G4 _ _ _ _ _ _ _ _ _ _ q2 g1 (Ne.symm ej)) l2' l2))⟩
            · cases h
    · cases h
  case iaload =>
    simp only [step] at h
    obtain rfl := hlen.resolve_left (by simp [ilen])
    split at h
    · rename_i j a r
      obtain ⟨_, _, rfl, rfl, _, _, rfl, ⟨b, hb, rfl⟩, hr'⟩ := hS
      split at h
      · rename_i xs hxs
        cases hj : inb xs.length j
        · simp [hj] at h
        · simp only [hj, cond_true, Option.some.injEq, Prod.mk.injEq] at h; obtain ⟨rfl, rfl, rfl, rfl⟩ := h
          obtain ⟨b', e1, cl, A1, A2, A3⟩ := hH.2.2.2 _ _ hxs
          cases hb.symm.trans e1
          have hin := inb_spec hj
          rw [← A2] at hin
          exact Behind.plain X hL rfl ⟨_, _, rfl, rfl, hr'⟩ hH hF hn fun target hr => X.iaload hx A1.1 (State.isArrayOf_alike hZ.alike A1.2.1) A1.2.2 hin (A3 _ _ (rd_at hj)) (g := mkF m pc ls _) rfl rfl hd _ hr
      · rename_i xs hxs
        cases hj : inb xs.length j
        · simp [hj] at h
        · simp only [hj, cond_true, Option.some.injEq, Prod.mk.injEq] at h; obtain ⟨rfl, rfl, rfl, rfl⟩ := h
          obtain ⟨b', e1, cl, A1, A2, A3⟩ := hH.2.2.2 _ _ hxs
          cases hb.symm.trans e1
          have hin := inb_spec hj
          rw [← A2] at hin
          exact Behind.plain X hL rfl ⟨_, _, rfl, rfl, hr'⟩ hH hF hn fun target hr => X.iaload hx A1.1 (State.isArrayOf_alike hZ.alike A1.2.1) A1.2.2 hin (A3 _ _ (rd_at hj)) (g := mkF m pc ls _) rfl rfl hd _ hr
      · cases h
    · cases h
  case baload =>
    simp only [step] at h
    obtain rfl := hlen.resolve_left (by simp [ilen])
    split at h
    · rename_i j a r
      obtain ⟨_, _, rfl, rfl, _, _, rfl, ⟨b, hb, rfl⟩, hr'⟩ := hS
      split at h
      · rename_i xs hxs
        cases hj : inb xs.length j
        · simp [hj] at h
        · simp only [hj, cond_true, Option.some.injEq, Prod.mk.injEq] at h; obtain ⟨rfl, rfl, rfl, rfl⟩ := h
          obtain ⟨b', e1, cl, A1, A2, A3⟩ := hH.2.2.2 _ _ hxs
          cases hb.symm.trans e1
          have hin := inb_spec hj
          rw [← A2] at hin
          exact Behind.plain X hL rfl ⟨_, _, rfl, rfl, hr'⟩ hH hF hn fun target hr => X.baloadBooleans hx A1.1 (State.isArrayOf_alike hZ.alike A1.2.1) A1.2.2 hin (A3 _ _ (rd_at hj)) (g := mkF m pc ls _) rfl rfl hd _ hr
      · rename_i xs hxs
        cases hj : inb xs.length j
        · simp [hj] at h
        · simp only [hj, cond_true, Option.some.injEq, Prod.mk.injEq] at h; obtain ⟨rfl, rfl, rfl, rfl⟩ := h
          obtain ⟨b', e1, cl, A1, A2, A3⟩ := hH.2.2.2 _ _ hxs
          cases hb.symm.trans e1
          have hin := inb_spec hj
          rw [← A2] at hin
          exact Behind.plain X hL rfl ⟨_, _, rfl, rfl, hr'⟩ hH hF hn fun target hr => X.baloadBytes hx A1.1 (State.isArrayOf_alike hZ.alike A1.2.1) A1.2.2 hin (A3 _ _ (rd_at hj)) (g := mkF m pc ls _) rfl rfl hd _ hr
      · cases h
    · cases h
  case laload =>
    simp only [step] at h
    obtain rfl := hlen.resolve_left (by simp [ilen])
    split at h
    · rename_i j a r
      obtain ⟨_, _, rfl, rfl, _, _, rfl, ⟨b, hb, rfl⟩, hr'⟩ := hS
      split at h
      · rename_i xs hxs
        cases hj : inb xs.length j
        · simp [hj] at h
        · simp only [hj, cond_true, Option.some.injEq, Prod.mk.injEq] at h; obtain ⟨rfl, rfl, rfl, rfl⟩ := h
          obtain ⟨b', e1, cl, A1, A2, A3⟩ := hH.2.2.2 _ _ hxs
          cases hb.symm.trans e1
          have hin := inb_spec hj
          rw [← A2] at hin
          exact Behind.plain X hL rfl ⟨_, _, rfl, rfl, hr'⟩ hH hF hn fun target hr => X.laload hx A1.1 (State.isArrayOf_alike hZ.alike A1.2.1) A1.2.2 hin (A3 _ _ (rdL_at hj)) (g := mkF m pc ls _) rfl rfl hd _ hr
      · cases h
    · cases h
  case iastore =>
    simp only [step] at h
    obtain rfl := hlen.resolve_left (by simp [ilen])
    split at h
    · rename_i x j a r
      obtain ⟨_, _, rfl, rfl, _, _, rfl, rfl, _, _, rfl, ⟨b, hb, rfl⟩, hr'⟩ := hS
      cases hq : Nat.ble P.ro a
      · simp [hq] at h
      · simp only [hq, cond_true] at h
        have hro : P.ro ≤ a := Nat.le_of_ble_eq_true hq
        split at h
        · rename_i xs hxs
          cases hj : inb xs.length j
          · simp [hj] at h
          · simp only [hj, cond_true, Option.some.injEq, Prod.mk.injEq] at h; obtain ⟨rfl, rfl, rfl, rfl⟩ := h
            obtain ⟨b', e1, hcr⟩ := hH.2.2.2 _ _ hxs
            cases hb.symm.trans e1
            have hcr0 := hcr
            obtain ⟨cl, A1, A2, A3⟩ := hcr0
            have hin := inb_spec hj
            rw [← A2] at hin
            obtain ⟨T2, h2, X2, e7, W2, s2⟩ := stI X hx hZ rfl A1 hin (g := mkF m pc ls _) rfl rfl hd
            exact Behind.write (T' := T2) X2 e7 W2 hL hr' hH hb hro hxs (by simp [csz, wr, wrL]) (CR.wrI W2 hcr) hF hn s2
        · cases h
    · cases h
  case bastore =>
    simp only [step] at h
    obtain rfl := hlen.resolve_left (by simp [ilen])
    split at h
    · rename_i x j a r
      obtain ⟨_, _, rfl, rfl, _, _, rfl, rfl, _, _, rfl, ⟨b, hb, rfl⟩, hr'⟩ := hS
      cases hq : Nat.ble P.ro a
      · simp [hq] at h
      · simp only [hq, cond_true] at h
        have hro : P.ro ≤ a := Nat.le_of_ble_eq_true hq
        split at h
        · rename_i xs hxs
          cases hj : inb xs.length j
          · simp [hj] at h
          · simp only [hj, cond_true, Option.some.injEq, Prod.mk.injEq] at h; obtain ⟨rfl, rfl, rfl, rfl⟩ := h
            obtain ⟨b', e1, hcr⟩ := hH.2.2.2 _ _ hxs
            cases hb.symm.trans e1
            have hcr0 := hcr
            obtain ⟨cl, A1, A2, A3⟩ := hcr0
            have hin := inb_spec hj
            rw [← A2] at hin
            obtain ⟨T2, h2, X2, e7, W2, s2⟩ := stZ X hx hZ rfl A1 hin (g := mkF m pc ls _) rfl rfl hd
            exact Behind.write (T' := T2) X2 e7 W2 hL hr' hH hb hro hxs (by simp [csz, wr, wrL]) (CR.wrI W2 hcr) hF hn s2
        · rename_i xs hxs
          cases hj : inb xs.length j
          · simp [hj] at h
          · simp only [hj, cond_true, Option.some.injEq, Prod.mk.injEq] at h; obtain ⟨rfl, rfl, rfl, rfl⟩ := h
            obtain ⟨b', e1, hcr⟩ := hH.2.2.2 _ _ hxs
            cases hb.symm.trans e1
            have hcr0 := hcr
            obtain ⟨cl, A1, A2, A3⟩ := hcr0
            have hin := inb_spec hj
            rw [← A2] at hin
            obtain ⟨T2, h2, X2, e7, W2, s2⟩ := stB X hx hZ rfl A1 hin (g := mkF m pc ls _) rfl rfl hd
            exact Behind.write (T' := T2) X2 e7 W2 hL hr' hH hb hro hxs (by simp [csz, wr, wrL]) (CR.wrI W2 hcr) hF hn s2
        · cases h
    · cases h
  case lastore =>
    simp only [step] at h
    obtain rfl := hlen.resolve_left (by simp [ilen])
    split at h
    · rename_i x j a r
      obtain ⟨_, _, rfl, rfl, _, _, rfl, rfl, _, _, rfl, ⟨b, hb, rfl⟩, hr'⟩ := hS
      cases hq : Nat.ble P.ro a
      · simp [hq] at h
      · simp only [hq, cond_true] at h
        have hro : P.ro ≤ a := Nat.le_of_ble_eq_true hq
        split at h
        · rename_i xs hxs
          cases hj : inb xs.length j
          · simp [hj] at h
          · simp only [hj, cond_true, Option.some.injEq, Prod.mk.injEq] at h; obtain ⟨rfl, rfl, rfl, rfl⟩ := h
            obtain ⟨b', e1, hcr⟩ := hH.2.2.2 _ _ hxs
            cases hb.symm.trans e1
            have hcr0 := hcr
            obtain ⟨cl, A1, A2, A3⟩ := hcr0
            have hin := inb_spec hj
            rw [← A2] at hin
            obtain ⟨T2, h2, X2, e7, W2, s2⟩ := stJ X hx hZ rfl A1 hin (g := mkF m pc ls _) rfl rfl hd
            exact Behind.write (T' := T2) X2 e7 W2 hL hr' hH hb hro hxs (by simp [csz, wr, wrL]) (CR.wrJ W2 hcr) hF hn s2
        · cases h
    · cases h
  case arraylength =>
    simp only [step] at h
    obtain rfl := hlen.resolve_left (by simp [ilen])
    split at h
    · rename_i a r
      obtain ⟨_, _, rfl, ⟨b, hb, rfl⟩, hr'⟩ := hS
      split at h
      · rename_i t xs hxs
        simp only [Option.some.injEq, Prod.mk.injEq] at h; obtain ⟨rfl, rfl, rfl, rfl⟩ := h
        obtain ⟨b', e1, cl, A1, A2, A3⟩ := hH.2.2.2 _ _ hxs
        cases hb.symm.trans e1
        exact Behind.plain X hL rfl ⟨_, _, rfl, rfl, hr'⟩ hH hF hn fun target hr => X.arraylength hx A1.1 (State.isArrayOf_alike hZ.alike A1.2.1) (g := mkF m pc ls _) rfl rfl hd _ (by rw [A2]; exact hr)
      · rename_i xs hxs
        simp only [Option.some.injEq, Prod.mk.injEq] at h; obtain ⟨rfl, rfl, rfl, rfl⟩ := h
        obtain ⟨b', e1, cl, A1, A2, A3⟩ := hH.2.2.2 _ _ hxs
        cases hb.symm.trans e1
        exact Behind.plain X hL rfl ⟨_, _, rfl, rfl, hr'⟩ hH hF hn fun target hr => X.arraylength hx A1.1 (State.isArrayOf_alike hZ.alike A1.2.1) (g := mkF m pc ls _) rfl rfl hd _ (by rw [A2]; exact hr)
      · cases h
    · cases h
  case newarray t =>
    simp only [step] at h
    obtain rfl := hlen.resolve_left (by simp [ilen])
    split at h
    · rename_i n r
      obtain ⟨_, _, rfl, rfl, hr'⟩ := hS
      cases ht : atyOf t with
      | none => simp [ht] at h
      | some q =>
        simp only [ht] at h
        cases hq : (!(decide (n < 0)) && Nat.ble n.toNatClampNeg 60000 && Nat.ble (H.length + 1) P.capC && Nat.ble (hsz P H + n.toNatClampNeg) P.capS)
        · simp [hq] at h
        · simp only [hq, cond_true, Option.some.injEq, Prod.mk.injEq] at h; obtain ⟨rfl, rfl, rfl, rfl⟩ := h
          simp only [Bool.and_eq_true, Bool.not_eq_true', decide_eq_false_iff_not] at hq
          have hcap : n.toNatClampNeg ≤ 60000 := Nat.le_of_ble_eq_true hq.1.1.2
          have hq1 := hq.1.1.1
          have d1 : (H ++ [newC q n.toNatClampNeg]).length - H.length = 1 := by simp
          have d2 : hsz P (H ++ [newC q n.toNatClampNeg]) - hsz P H = n.toNatClampNeg := by rw [hsz_app, csz_new _ _ ht]; omega
          rw [d1] at hcells ⊢; rw [d2] at hslots ⊢
          obtain ⟨T2, h2, cA, X2, e7, E2, A2, s2⟩ := newP X hx hZ (G8 _ _ _ _ hcode) rfl (g := mkF m pc ls _) rfl hd rfl hq1 (cap := n.toNatClampNeg) (Nat.le_refl _) (by omega) hcells hslots
          have hlt : T.heap.size < h2.size := A2.lt
          have hm' := hH.1
          refine ⟨T2, am ++ [T.heap.size], ls, _, locs, X2, hL.mono (Pre.app _ _), rfl, ⟨_, _, rfl, ⟨T.heap.size, by rw [← hm']; simp, rfl⟩, hr'.mono (Pre.app _ _)⟩, by rw [e7]; exact hH.push E2 hlt hn (arr_new ht hq1 A2), Pre.app _ _, hF, by rw [e7]; omega, s2⟩
    · cases h
  case new j =>
    simp only [step] at h
    obtain rfl := hlen.resolve_left (by simp [ilen])
    split at h
    · rename_i q hk
      rw [Bool.cond_eq_ite] at h
      split at h
      case isFalse => cases h
      simp only [Option.some.injEq, Prod.mk.injEq] at h; obtain ⟨rfl, rfl, rfl, rfl⟩ := h
      have w := G9 _ _ _ _ hk
      have d1 : (H ++ [Sum.inl P.fresh]).length - H.length = 1 := by simp
      have d2 : hsz P (H ++ [Sum.inl P.fresh]) - hsz P H = P.objN := by rw [hsz_app]; simp [csz]
      rw [d1] at hcells ⊢; rw [d2] at hslots ⊢
      obtain ⟨T2, h2, X2, e7, E2, A2, D2, -, s2⟩ := newO X hx hZ hown w G6 G7 rfl (g := mkF m pc ls st) rfl hd hcells hslots
      have hlt : T.heap.size < h2.size := A2.lt
      have hm' := hH.1
      refine ⟨T2, am ++ [T.heap.size], ls, _, locs, X2, hL.mono (Pre.app _ _), rfl, ⟨_, _, rfl, ⟨T.heap.size, by rw [← hm']; simp, rfl⟩, hS.mono (Pre.app _ _)⟩, ?_, Pre.app _ _, hF, by rw [e7]; omega, s2⟩
      rw [e7]
      refine hH.push E2 hlt hn ⟨A2, by simp [Prog.fresh], fun j' v n d t f q1 q2 => ?_⟩
      obtain ⟨l1, ty, l2, l3, l4⟩ := G3 _ _ _ _ _ q2
      have hl1 : Laid Z a0 C C n d := by cases f; exact Or.inl l1; exact Or.inr l1
      have hv : v = dflt t := by rw [Prog.fresh, List.getElem?_map, q2] at q1; simpa using q1.symm
      subst hv
      refine ⟨defaultValue ty, ?_, D2 hl1 l2⟩
      rw [l4]; unfold dflt; split <;> rfl
    · cases h
  case invokespecial j =>
    simp only [step] at h
    obtain rfl := hlen.resolve_left (by simp [ilen])
    split at h
    · rename_i a r
      obtain ⟨_, _, rfl, ⟨b, hb, rfl⟩, hr'⟩ := hS
      cases hq : isObjInit P k j && Nat.ble 1 (P.rf k) && Nat.ble (cats r + 12) (P.rl k)
      · simp [hq] at h
      · simp only [hq, cond_true, Option.some.injEq, Prod.mk.injEq] at h; obtain ⟨rfl, rfl, rfl, rfl⟩ := h
        simp only [Bool.and_eq_true] at hq
        have h1 : 1 ≤ P.rf k := Nat.le_of_ble_eq_true hq.1.2
        have h2 : cats r + 12 ≤ P.rl k := Nat.le_of_ble_eq_true hq.2
        have h3 := hq.1.1
        unfold isObjInit at h3
        split at h3
        · rename_i kk hk
          obtain ⟨w1, w2, w3⟩ := G9 _ _ _ _ hk
          obtain ⟨T2, X2, e7, s2⟩ := initO X hx hZ hown w1 w2 w3 rfl (g := mkF m pc ls _) rfl (by rw [hml]; exact hlz) rfl hd (by omega) (W := cats r) (by rw [hr'.cats]; show 2 * 0 + _ ≤ _; omega) (by omega)
          exact Behind.plain' X2 e7 hL rfl hr' hH hF hn s2
        · cases h3
    · cases h
  case iadd =>
    simp only [step] at h
    obtain rfl := hlen.resolve_left (by simp [ilen])
    split at h
    · rename_i y x r
      simp only [aop, Option.some.injEq, Prod.mk.injEq] at h; obtain ⟨rfl, rfl, rfl, rfl⟩ := h
      obtain ⟨_, _, rfl, rfl, _, _, rfl, rfl, hr'⟩ := hS
      exact Behind.plain X hL rfl ⟨_, _, rfl, rfl, hr'⟩ hH hF hn fun target hr => XS.iadd X.here hx rfl (g := mkF m pc ls _) hd rfl hr
    · simp [lop] at h
    · cases h
  case isub =>
    simp only [step] at h
    obtain rfl := hlen.resolve_left (by simp [ilen])
    split at h
    · rename_i y x r
      simp only [aop, Option.some.injEq, Prod.mk.injEq] at h; obtain ⟨rfl, rfl, rfl, rfl⟩ := h
      obtain ⟨_, _, rfl, rfl, _, _, rfl, rfl, hr'⟩ := hS
      exact Behind.plain X hL rfl ⟨_, _, rfl, rfl, hr'⟩ hH hF hn fun target hr => XS.isub X.here hx rfl (g := mkF m pc ls _) hd rfl hr
    · simp [lop] at h
    · cases h
  case imul =>
    simp only [step] at h
    obtain rfl := hlen.resolve_left (by simp [ilen])
    split at h
    · rename_i y x r
      simp only [aop, Option.some.injEq, Prod.mk.injEq] at h; obtain ⟨rfl, rfl, rfl, rfl⟩ := h
      obtain ⟨_, _, rfl, rfl, _, _, rfl, rfl, hr'⟩ := hS
      exact Behind.plain X hL rfl ⟨_, _, rfl, rfl, hr'⟩ hH hF hn fun target hr => XS.imul X.here hx rfl (g := mkF m pc ls _) hd rfl hr
    · simp [lop] at h
    · cases h
  case iand =>
    simp only [step] at h
    obtain rfl := hlen.resolve_left (by simp [ilen])
    split at h
    · rename_i y x r
      simp only [aop, Option.some.injEq, Prod.mk.injEq] at h; obtain ⟨rfl, rfl, rfl, rfl⟩ := h
      obtain ⟨_, _, rfl, rfl, _, _, rfl, rfl, hr'⟩ := hS
      exact Behind.plain X hL rfl ⟨_, _, rfl, rfl, hr'⟩ hH hF hn fun target hr => XS.iand X.here hx rfl (g := mkF m pc ls _) hd rfl hr
    · simp [lop] at h
    · cases h
  case ior =>
    simp only [step] at h
    obtain rfl := hlen.resolve_left (by simp [ilen])
    split at h
    · rename_i y x r
      simp only [aop, Option.some.injEq, Prod.mk.injEq] at h; obtain ⟨rfl, rfl, rfl, rfl⟩ := h
      obtain ⟨_, _, rfl, rfl, _, _, rfl, rfl, hr'⟩ := hS
      exact Behind.plain X hL rfl ⟨_, _, rfl, rfl, hr'⟩ hH hF hn fun target hr => XS.ior X.here hx rfl (g := mkF m pc ls _) hd rfl hr
    · simp [lop] at h
    · cases h
  case ixor =>
    simp only [step] at h
    obtain rfl := hlen.resolve_left (by simp [ilen])
    split at h
    · rename_i y x r
      simp only [aop, Option.some.injEq, Prod.mk.injEq] at h; obtain ⟨rfl, rfl, rfl, rfl⟩ := h
      obtain ⟨_, _, rfl, rfl, _, _, rfl, rfl, hr'⟩ := hS
      exact Behind.plain X hL rfl ⟨_, _, rfl, rfl, hr'⟩ hH hF hn fun target hr => XS.ixor X.here hx rfl (g := mkF m pc ls _) hd rfl hr
    · simp [lop] at h
    · cases h
  case ishl =>
    simp only [step] at h
    obtain rfl := hlen.resolve_left (by simp [ilen])
    split at h
    · rename_i y x r
      simp only [aop, Option.some.injEq, Prod.mk.injEq] at h; obtain ⟨rfl, rfl, rfl, rfl⟩ := h
      obtain ⟨_, _, rfl, rfl, _, _, rfl, rfl, hr'⟩ := hS
      exact Behind.plain X hL rfl ⟨_, _, rfl, rfl, hr'⟩ hH hF hn fun target hr => XS.ishl X.here hx rfl (g := mkF m pc ls _) hd rfl hr
    · simp [lop] at h
    · cases h
  case ishr =>
    simp only [step] at h
    obtain rfl := hlen.resolve_left (by simp [ilen])
    split at h
    · rename_i y x r
      simp only [aop, Option.some.injEq, Prod.mk.injEq] at h; obtain ⟨rfl, rfl, rfl, rfl⟩ := h
      obtain ⟨_, _, rfl, rfl, _, _, rfl, rfl, hr'⟩ := hS
      exact Behind.plain X hL rfl ⟨_, _, rfl, rfl, hr'⟩ hH hF hn fun target hr => XS.ishr X.here hx rfl (g := mkF m pc ls _) hd rfl hr
    · simp [lop] at h
    · cases h
  case iushr =>
    simp only [step] at h
    obtain rfl := hlen.resolve_left (by simp [ilen])
    split at h
    · rename_i y x r
      simp only [aop, Option.some.injEq, Prod.mk.injEq] at h; obtain ⟨rfl, rfl, rfl, rfl⟩ := h
      obtain ⟨_, _, rfl, rfl, _, _, rfl, rfl, hr'⟩ := hS
      exact Behind.plain X hL rfl ⟨_, _, rfl, rfl, hr'⟩ hH hF hn fun target hr => XS.iushr X.here hx rfl (g := mkF m pc ls _) hd rfl hr
    · simp [lop] at h
    · cases h
  case ladd =>
    simp only [step] at h
    obtain rfl := hlen.resolve_left (by simp [ilen])
    split at h
    · simp [aop] at h
    · rename_i y x r
      simp only [lop, Option.some.injEq, Prod.mk.injEq] at h; obtain ⟨rfl, rfl, rfl, rfl⟩ := h
      obtain ⟨_, _, rfl, rfl, _, _, rfl, rfl, hr'⟩ := hS
      exact Behind.plain X hL rfl ⟨_, _, rfl, rfl, hr'⟩ hH hF hn fun target hr => XS.ladd X.here hx rfl (g := mkF m pc ls _) hd rfl hr
    · cases h
  case lsub =>
    simp only [step] at h
    obtain rfl := hlen.resolve_left (by simp [ilen])
    split at h
    · simp [aop] at h
    · rename_i y x r
      simp only [lop, Option.some.injEq, Prod.mk.injEq] at h; obtain ⟨rfl, rfl, rfl, rfl⟩ := h
      obtain ⟨_, _, rfl, rfl, _, _, rfl, rfl, hr'⟩ := hS
      exact Behind.plain X hL rfl ⟨_, _, rfl, rfl, hr'⟩ hH hF hn fun target hr => XS.lsub X.here hx rfl (g := mkF m pc ls _) hd rfl hr
    · cases h
  case lmul =>
    simp only [step] at h
    obtain rfl := hlen.resolve_left (by simp [ilen])
    split at h
    · simp [aop] at h
    · rename_i y x r
      simp only [lop, Option.some.injEq, Prod.mk.injEq] at h; obtain ⟨rfl, rfl, rfl, rfl⟩ := h
      obtain ⟨_, _, rfl, rfl, _, _, rfl, rfl, hr'⟩ := hS
      exact Behind.plain X hL rfl ⟨_, _, rfl, rfl, hr'⟩ hH hF hn fun target hr => XS.lmul X.here hx rfl (g := mkF m pc ls _) hd rfl hr
    · cases h
  case land =>
    simp only [step] at h
    obtain rfl := hlen.resolve_left (by simp [ilen])
    split at h
    · simp [aop] at h
    · rename_i y x r
      simp only [lop, Option.some.injEq, Prod.mk.injEq] at h; obtain ⟨rfl, rfl, rfl, rfl⟩ := h
      obtain ⟨_, _, rfl, rfl, _, _, rfl, rfl, hr'⟩ := hS
      exact Behind.plain X hL rfl ⟨_, _, rfl, rfl, hr'⟩ hH hF hn fun target hr => XS.land X.here hx rfl (g := mkF m pc ls _) hd rfl hr
    · cases h
  case lor =>
    simp only [step] at h
    obtain rfl := hlen.resolve_left (by simp [ilen])
    split at h
    · simp [aop] at h
    · rename_i y x r
      simp only [lop, Option.some.injEq, Prod.mk.injEq] at h; obtain ⟨rfl, rfl, rfl, rfl⟩ := h
      obtain ⟨_, _, rfl, rfl, _, _, rfl, rfl, hr'⟩ := hS
      exact Behind.plain X hL rfl ⟨_, _, rfl, rfl, hr'⟩ hH hF hn fun target hr => XS.lor X.here hx rfl (g := mkF m pc ls _) hd rfl hr
    · cases h
  case lxor =>
    simp only [step] at h
    obtain rfl := hlen.resolve_left (by simp [ilen])
    split at h
    · simp [aop] at h
    · rename_i y x r
      simp only [lop, Option.some.injEq, Prod.mk.injEq] at h; obtain ⟨rfl, rfl, rfl, rfl⟩ := h
      obtain ⟨_, _, rfl, rfl, _, _, rfl, rfl, hr'⟩ := hS
      exact Behind.plain X hL rfl ⟨_, _, rfl, rfl, hr'⟩ hH hF hn fun target hr => XS.lxor X.here hx rfl (g := mkF m pc ls _) hd rfl hr
    · cases h
  all_goals (exfalso; simp only [step] at h; split at h <;> simp [aop, lop] at h)
end Sound
end Jvm.OwnX
namespace Jvm.OwnX
open Sem ClassFile Op Lib Jvm.Stand Jvm.Free Jvm.LawKit Jvm.RoadKit
set_option maxHeartbeats 4000000 in
theorem step_grow {P : Prog} {k pc np pc' : Nat} {i : Instr} {L L' : ALoc} {S S' : List Value} {H H' : AHeap} (h : step P k i np pc L S H = some (pc', L', S', H')) : H.length ≤ H'.length ∧ hsz P H ≤ hsz P H' := by
  cases i <;> simp only [step, Bool.cond_eq_ite] at h
  all_goals (repeat' (split at h))
  all_goals first
    | (cases h; done)
    | (simp only [Option.some.injEq, Prod.mk.injEq] at h; obtain ⟨-, -, -, rfl⟩ := h; exact ⟨Nat.le_refl _, Nat.le_refl _⟩)
    | (simp only [Option.some.injEq, Prod.mk.injEq] at h; obtain ⟨-, -, -, rfl⟩ := h; exact ⟨by simp, by rw [hsz_app]; omega⟩)
    | (simp only [Option.some.injEq, Prod.mk.injEq] at h; obtain ⟨-, -, -, rfl⟩ := h; exact ⟨by simp, Nat.le_of_eq (hsz_set P _ _ _ _ (by assumption) (by simp [csz, wr, wrL])).symm⟩)
set_option maxHeartbeats 4000000 in
theorem step_cap {P : Prog} {k pc np pc' : Nat} {i : Instr} {L L' : ALoc} {S S' : List Value} {H H' : AHeap} (h : step P k i np pc L S H = some (pc', L', S', H')) : (H'.length ≤ H.length ∨ H'.length ≤ P.capC) ∧ (hsz P H' ≤ hsz P H ∨ hsz P H' ≤ P.capS) := by
  cases i <;> simp only [step, Bool.cond_eq_ite] at h
  case newarray t =>
    split at h
    · split at h
      · rename_i q ht
        split at h
        · rename_i hq
          simp only [Option.some.injEq, Prod.mk.injEq] at h; obtain ⟨-, -, -, rfl⟩ := h
          simp only [Bool.and_eq_true] at hq
          have h1 := Nat.le_of_ble_eq_true hq.1.2
          have h2 := Nat.le_of_ble_eq_true hq.2
          exact ⟨Or.inr (by simpa using h1), Or.inr (by rw [hsz_app, csz_new _ _ ht]; exact h2)⟩
        · cases h
      · cases h
    · cases h
  case new j =>
    split at h
    · split at h
      · rename_i hq
        simp only [Option.some.injEq, Prod.mk.injEq] at h; obtain ⟨-, -, -, rfl⟩ := h
        simp only [Bool.and_eq_true] at hq
        have h1 := Nat.le_of_ble_eq_true hq.1
        have h2 := Nat.le_of_ble_eq_true hq.2
        exact ⟨Or.inr (by simpa using h1), Or.inr (by rw [hsz_app]; exact h2)⟩
      · cases h
    · cases h
  all_goals (repeat' (split at h))
  all_goals first
    | (cases h; done)
    | (simp only [Option.some.injEq, Prod.mk.injEq] at h; obtain ⟨-, -, -, rfl⟩ := h; exact ⟨Or.inl (Nat.le_refl _), Or.inl (Nat.le_refl _)⟩)
    | (simp only [Option.some.injEq, Prod.mk.injEq] at h; obtain ⟨-, -, -, rfl⟩ := h; exact ⟨Or.inl (by simp), Or.inl (Nat.le_of_eq (hsz_set P _ _ _ _ (by assumption) (by simp [csz, wr, wrL])))⟩)
theorem run_cap {P : Prog} : ∀ {n k pc : Nat} {L : ALoc} {S : List Value} {H : AHeap} {v : Option Value} {H' : AHeap}, run P n k pc L S H = some (v, H') → (H'.length ≤ H.length ∨ H'.length ≤ P.capC) ∧ (hsz P H' ≤ hsz P H ∨ hsz P H' ≤ P.capS)
  | 0, k, pc, L, S, H, v, H', h => by simp [run] at h
  | n + 1, k, pc, L, S, H, v, H', h => by
    rw [run] at h
    split at h
    · cases h
    · split at h
      · cases h; exact ⟨Or.inl (Nat.le_refl _), Or.inl (Nat.le_refl _)⟩
      · split at h
        · split at h
          · rename_i h1
            have g1 := run_cap h1
            have g2 := run_cap h
            omega
          · cases h
        · split at h
          · rename_i h1
            have g1 := step_cap h1
            have g2 := run_cap h
            omega
          · cases h
theorem run_grow {P : Prog} : ∀ {n k pc : Nat} {L : ALoc} {S : List Value} {H : AHeap} {v : Option Value} {H' : AHeap}, run P n k pc L S H = some (v, H') → H.length ≤ H'.length ∧ hsz P H ≤ hsz P H'
  | 0, k, pc, L, S, H, v, H', h => by simp [run] at h
  | n + 1, k, pc, L, S, H, v, H', h => by
    rw [run] at h
    split at h
    · cases h
    · split at h
      · cases h; exact ⟨Nat.le_refl _, Nat.le_refl _⟩
      · split at h
        · split at h
          · rename_i h1
            have g1 := run_grow h1
            have g2 := run_grow h
            omega
          · cases h
        · split at h
          · rename_i h1
            have g1 := step_grow h1
            have g2 := run_grow h
            omega
          · cases h
def OVR (am : List Addr) (v w : Option Value) : Prop := match v with
  | none => w = none
  | some x => ∃ y, w = some y ∧ VR am x y
theorem callV_spec {P : Prog} {k k' : Nat} {i : Instr} {S as rest : List Value} {H : AHeap} (h : callV P k i S H = some (k', as, rest)) :
    ∃ j q, poolOf i = some j ∧ P.link (P.cls k) j = some (q, k') ∧ kindOk i q = true ∧ S = as.reverse ++ rest ∧ as.length = P.pops k' ∧ P.rf k' + 1 ≤ P.rf k ∧ cats rest + (P.maxL k' + 11) + P.rl k' ≤ P.rl k ∧ recvOk P H q as = true ∧ (entL as).length ≤ P.maxL k' := by
  unfold callV at h
  split at h
  · cases h
  · rename_i j hj
    split at h
    · cases h
    · rename_i q k'' hk
      rw [Bool.cond_eq_ite] at h
      split at h
      · rename_i hc
        simp only [Option.some.injEq, Prod.mk.injEq] at h
        obtain ⟨rfl, rfl, rfl⟩ := h
        simp only [Bool.and_eq_true] at hc
        obtain ⟨⟨⟨⟨⟨c1, c2⟩, c3⟩, c4⟩, c5⟩, c6⟩ := hc
        have c2' := Nat.le_of_ble_eq_true c2
        exact ⟨j, q, hj, hk, c1, by rw [List.reverse_reverse, List.take_append_drop], by simp [c2'], Nat.le_of_ble_eq_true c3, Nat.le_of_ble_eq_true c4, c5, Nat.le_of_ble_eq_true c6⟩
      · cases h
theorem linkOk_call {P : Prog} {nm : Nat → MethodName} {bc : Nat → ByteArray} {cn : Nat → String} {C : String} {Z : State} {a0 : Array Value} {c j q k : Nat} (h4 : q ≠ 4) (h5 : q ≠ 5) (h : LinkOk P nm bc cn C Z a0 c j q k) : CallOk P nm bc cn C Z a0 c j q k := by
  unfold LinkOk at h
  split at h
  · exact absurd rfl h4
  · exact absurd rfl h5
  · exact h
theorem recv_spec {P : Prog} {H : AHeap} {q : Nat} {as : List Value} (h0 : q ≠ 0) (h : recvOk P H q as = true) : ∃ a r fs, as = .ref a :: r ∧ H[a]? = some (.inl fs) := by
  unfold recvOk at h
  split at h
  · exact absurd rfl h0
  · split at h
    · split at h
      · rename_i fs hfs
        exact ⟨_, _, fs, rfl, hfs⟩
      · cases h
    · cases h
theorem retV_spec {P : Prog} {k : Nat} {i : Instr} {S : List Value} {v : Option Value} (h : retV P k i S = some v) :
    (i = .return_ ∧ S = [] ∧ P.ret k = none ∧ v = none) ∨ (∃ x r, i = .ireturn ∧ S = .int x :: r ∧ P.ret k = some .int ∧ v = some (.int x)) ∨ (∃ x r, i = .ireturn ∧ S = .int x :: r ∧ P.ret k = some .boolean ∧ v = some (.int (x &&& 1))) ∨ (∃ x r, i = .lreturn ∧ S = .long x :: r ∧ P.ret k = some .long ∧ v = some (.long x)) := by
  unfold retV at h
  split at h
  · split at h
    · rename_i hr; cases h; exact Or.inl ⟨rfl, rfl, hr, rfl⟩
    · cases h
  · split at h
    · split at h
      · rename_i hr; cases h; exact Or.inr (Or.inl ⟨_, _, rfl, rfl, hr, rfl⟩)
      · rename_i hr; cases h; exact Or.inr (Or.inr (Or.inl ⟨_, _, rfl, rfl, hr, rfl⟩))
      · cases h
    · cases h
  · split at h
    · split at h
      · rename_i hr; cases h; exact Or.inr (Or.inr (Or.inr ⟨_, _, rfl, rfl, hr, rfl⟩))
      · cases h
    · cases h
  · cases h
/-- what a callee's contract says behind it -/
def QC (P : Prog) (C : String) (Z : State) (n0 : Nat) (am : List Addr) (v : Option Value) (H1 : AHeap) (w : Option Value) (h' : Heap) (Lc : List Loc) : Prop := Fr n0 Lc ∧ n0 ≤ h'.size ∧ ∃ am', Pre am am' ∧ HR P C Z n0 am' H1 h' ∧ OVR am' v w
/-- the frame's theorem, for one amount of fuel -/
def SoundAt (P : Prog) (nm : Nat → MethodName) (bc : Nat → ByteArray) (cn : Nat → String) (C : String) (Z : State) (n : Nat) : Prop :=
  ∀ (k pc : Nat) (L : ALoc) (S : List Value) (H : AHeap) (v : Option Value) (H' : AHeap), run P n k pc L S H = some (v, H') →
  ∀ {p : Program} {l : Launch} {e : Env} {R : Room} {s : State} {m : MethodId} {args : Array Value} {below : List Frame} {meth : Method} {c : Code} {T : State} {locs : List Loc} {cells slots n0 : Nat} {am : List Addr} {ls : Array Slot} {st : List Value},
    Stand p l e R s m args below meth c T locs cells slots → p.tables.exec = Jvm.exec → Z.Warmed39 s.vm → c.code = bc k → c.maxLocals = P.maxL k → meth.sig.returnType = P.ret k → s.vm.findClass (cn (P.cls k)) = some m.cls → (P.ini k = true → meth.name = "<init>" ∧ cn (P.cls k) = C) →
    P.rf k ≤ R.frames → P.rl k ≤ R.locals → cells + (H'.length - H.length) ≤ R.cells → slots + (hsz P H' - hsz P H) ≤ R.slots → ls.size = P.maxL k → LR am L ls → SR am S st → HR P C Z n0 am H T.heap → Fr n0 locs → n0 ≤ T.heap.size →
    ∃ T' am' locs' w, Stand p l e R s m args below meth c T' locs' (cells + (H'.length - H.length)) (slots + (hsz P H' - hsz P H)) ∧ HR P C Z n0 am' H' T'.heap ∧ Pre am am' ∧ Fr n0 locs' ∧ OVR am' v w ∧ n0 ≤ T'.heap.size ∧ (P.ret k = none → w = none) ∧
      ∀ fs, (∀ (f : JFrame) (acts : List Action), f.method = m → f.locked = none → f.entered = [] → (doReturn e (T'.setTop f) acts w).1 = T'.setFrames fs) → Steps p.tables e below (T.setTop (mkF m pc ls st)) (T'.setFrames fs)
section Met
variable {P : Prog} {nm : Nat → MethodName} {bc : Nat → ByteArray} {cn : Nat → String} {C : String} {Z : State} {a0 : Array Value}
theorem metOf {n k : Nat} {as : List Value} {H H1 : AHeap} {v : Option Value} (IH : SoundAt P nm bc cn C Z n) (hrun : run P n k 0 (entry P k as) [] H = some (v, H1)) {l : Launch} {wsC : List Cond} {rm : Room} (hpl : plainName (nm k).cls = true) (hcls : (nm k).cls = cn (P.cls k)) (hini : P.ini k = true → (nm k).name = "<init>" ∧ (nm k).cls = C)
    (hrf : P.rf k ≤ rm.frames) (hrl : P.rl k ≤ rm.locals) (hrc : H1.length - H.length ≤ rm.cells) (hrs : hsz P H1 - hsz P H ≤ rm.slots) {am : List Addr} {ws : List Value} {h : Heap} {n0 : Nat} (hS : SR am as ws) (hE : (entL as).length ≤ P.maxL k) (hH : HR P C Z n0 am H h) (hn : n0 ≤ h.size) :
    MetFree l (nm k) (head1 (Cond.code (nm k) (bc k) (P.maxL k) (P.ret k) :: wsC) rm) (fun a U => a = ws.toArray ∧ Z.Warmed39 U.vm ∧ U.heap = h) (fun _ _ _ _ _ => True)
      (fun _ U o U' => ∃ w Lc, o = .returned w ∧ QC P C Z n0 am v H1 w U'.heap Lc ∧ FrameEnd U o U' Lc (H1.length - H.length) (hsz P H1 - hsz P H)) := by
  refine MetFree.of_bodySF (plainFor_of_name hpl) hisR ?_
  intro p e s m args below meth c s₁ Bd hml0 hP hK
  obtain ⟨rfl, hZ, hh⟩ := hP
  have hown : s.vm.findClass (nm k).cls = some m.cls := findClass_of_methodNamed Bd.named
  have hnm := (name_of_methodNamed Bd.named Bd.method).1
  have X0 : Stand p l e rm s m ws.toArray below meth c s₁ [] 0 0 := Stand.of_body Bd
  have e0 : s₁.heap = h := by rw [← hh, Bd.state]; rfl
  have hsl := (slotsL_ok hS).1
  obtain ⟨T', am', locs', w, X', h1, h2, h3, h4, h5, h6, h7⟩ := IH k 0 _ _ _ _ _ hrun X0 Bd.exec hZ Bd.bytes hml0 Bd.returns (by rw [← hcls]; exact hown) (fun q => ⟨by rw [hnm]; exact (hini q).1, by rw [← hcls]; exact (hini q).2⟩) hrf hrl (by omega) (by omega) (entry_size (ws := ws) (n := P.maxL k) (by omega)) (LR.entry hS hE) (st := []) rfl (by rw [e0]; exact hH) (Fr.nil n0) (by rw [e0]; exact hn)
  obtain ⟨fs, hr, hrun', hended, hW, hsame⟩ := X'.leave (v := w) (fun q => h6 (by rw [← Bd.returns]; exact q))
  exact ⟨_, _, h7 fs hr, hrun', hended, w, locs', rfl, ⟨h3, h5, am', h2, h1, h4⟩, ⟨_, rfl⟩, hW, hsame.mono (by omega) (by omega)⟩
variable {p : Program} {l : Launch} {e : Env} {R : Room} {s : State} {m : MethodId} {args : Array Value} {below : List Frame} {meth : Method} {c : Code} {T : State} {locs : List Loc} {cells slots : Nat} {n0 : Nat}
theorem call_sound (G : Good P nm bc cn C Z a0) {n k k' pc np : Nat} {i : Instr} {S as rest : List Value} {H H1 : AHeap} {v : Option Value} (IH : SoundAt P nm bc cn C Z n) (hcode : P.code k pc = some (i, np)) (hcall : callV P k i S H = some (k', as, rest)) (hrun : run P n k' 0 (entry P k' as) [] H = some (v, H1))
    (X : Stand p l e R s m args below meth c T locs cells slots) (hx : p.tables.exec = Jvm.exec) (hZ : Z.Warmed39 s.vm) (hby : c.code = bc k) (hml : c.maxLocals = P.maxL k) (hown : s.vm.findClass (cn (P.cls k)) = some m.cls)
    (hrf : P.rf k ≤ R.frames) (hrl : P.rl k ≤ R.locals) (hcells : cells + (H1.length - H.length) ≤ R.cells) (hslots : slots + (hsz P H1 - hsz P H) ≤ R.slots) {am : List Addr} {ls : Array Slot} {st : List Value} (hlz : ls.size = P.maxL k) (hS : SR am S st) (hH : HR P C Z n0 am H T.heap) (hn : n0 ≤ T.heap.size) :
    ∃ T2 w Lc z, np = pc + 3 ∧ Stand p l e R s m args below meth c T2 (locs ++ Lc) (cells + (H1.length - H.length)) (slots + (hsz P H1 - hsz P H)) ∧ QC P C Z n0 am v H1 w T2.heap Lc ∧ SR am rest z ∧
      ∀ target, Steps p.tables e below (T2.setTop (mkF m (pc + 3) ls (w.toList ++ z))) target → Steps p.tables e below (T.setTop (mkF m pc ls st)) target := by
  obtain ⟨j, q, hj, hk, hkind, rfl, hlen, c3, c4, c5, c6⟩ := callV_spec hcall
  obtain ⟨G1, -, -, -, -, G6, -, -, G9⟩ := G
  obtain ⟨len, hdec, rfl, hlen'⟩ := G1 _ _ _ _ hcode
  have hd : decode c.code pc = .ok (i, len) := by rw [hby]; exact hdec
  obtain ⟨y, z, rfl, hy, hz⟩ := SR.app _ _ hS rfl
  have hws : SR am as y.reverse := by have := hy.rev; rwa [List.reverse_reverse] at this
  have hcz := hz.cats
  have lk := G9 _ _ _ _ hk
  have hq4 : q ≠ 4 := fun q4 => by subst q4; cases i <;> simp [kindOk] at hkind
  have hq5 : q ≠ 5 := fun q5 => by subst q5; cases i <;> simp [kindOk] at hkind
  have lk' : CallOk P nm bc cn C Z a0 (P.cls k) j q k' := linkOk_call hq4 hq5 lk
  obtain ⟨w1, w2, w3, ⟨ps, r, w4, w5⟩, w6, w7, w8, w9, w10⟩ := lk'
  have hM := metOf IH hrun (l := l) (wsC := []) (rm := ({ frames := P.rf k', cells := H1.length - H.length, slots := hsz P H1 - hsz P H, locals := P.rl k' } : Room)) w6 w8 w9 (Nat.le_refl _) (Nat.le_refl _) (Nat.le_refl _) (Nat.le_refl _) hws c6 hH hn
  have hB := backOf (R := R) (p := p) (e := e) (below := below) (args := args) (s := s) (len := 3) (W := cats rest) hM hZ w2 w3 (by show P.rf k' + 1 ≤ _; omega) (by show cats rest + (P.maxL k' + 11) + P.rl k' ≤ _; omega)
  have hyl : y.reverse.length = as.length := hws.len
  have recv : q ≠ 0 → ∃ a r' b ws', as = .ref a :: r' ∧ y.reverse = .ref b :: ws' ∧ Exa Z T.heap b C := fun h0 => by
    obtain ⟨a, r', fs, rfl, hfs⟩ := recv_spec h0 c5
    obtain ⟨_, ws', e1, ⟨b, hb, rfl⟩, -⟩ := hws
    obtain ⟨b', f1, f2, -⟩ := hH.2.2.2 _ _ hfs
    cases hb.symm.trans f1
    exact ⟨a, r', b, ws', rfl, e1, f2⟩
  cases i <;> simp only [poolOf, Option.some.injEq, reduceCtorEq] at hj
  case invokestatic j' =>
    subst hj
    obtain rfl : len = 3 := hlen'.resolve_left (by simp [ilen])
    obtain rfl : q = 0 := by
      match q, hkind with
      | 0, _ => rfl
    obtain ⟨w, _, ⟨T2, L2, k2, n2⟩, -, X2, ⟨Lc, hQ, l1, l2, l3⟩, st2⟩ := Jvm.LawKit.callS X hx (y := nm k') hown (mvT hZ w1) (mvT hZ w10) (mvT hZ w3) (mvT hZ w2) w7 hB (g := mkF m pc ls (y ++ z)) rfl (by rw [hml]; exact hlz) (argsL := y.reverse) (rest := z) (lenOf w4 (by rw [hyl, hlen, w5]; rfl)) (by simp) (by rw [hcz]; show 2 * 0 + _ ≤ _; omega) hd (fun _ _ => ⟨rfl, rfl, hcells, hslots⟩)
    dsimp only [Pt.U, Pt.locs, Pt.cells, Pt.slots] at X2 l1 l2 l3 st2 hQ
    subst l1 l2 l3
    exact ⟨T2, w, Lc, z, rfl, X2, hQ, hz, st2⟩
  case invokespecial j' =>
    subst hj
    obtain rfl : len = 3 := hlen'.resolve_left (by simp [ilen])
    obtain rfl : q = 1 := by
      match q, hkind with
      | 1, _ => rfl
    obtain ⟨a, r', b, ws', ea, ey, hEx⟩ := recv (by decide)
    obtain ⟨w11, w12, w13⟩ := w10
    have ey' : y = ws'.reverse ++ [.ref b] := by rw [← List.reverse_reverse y, ey]; simp
    rw [ey] at hB
    have hl : ws'.length = ps.length := by rw [ey, hlen, w5] at hyl; simpa [rcv] using hyl
    obtain ⟨w, _, ⟨T2, L2, k2, n2⟩, -, X2, ⟨Lc, hQ, l1, l2, l3⟩, st2⟩ := X.specialBack hx (y := nm k') w11 hown (mvT hZ w1) (mvT hZ w12) (bytes := bc k') (maxL := P.maxL k') (mvT hZ (by rw [w13] at w2; exact w2)) w7 hB (g := mkF m pc ls (y ++ z)) rfl (by rw [hml]; exact hlz) (Steps.refl _) (a := b) (argsL := ws') (rest := z) (lenOf w4 hl) (by rw [ey']; simp) (by rw [hcz]; show 2 * 0 + _ ≤ _; omega) hd (fun _ _ => ⟨rfl, rfl, hcells, hslots⟩)
    dsimp only [Pt.U, Pt.locs, Pt.cells, Pt.slots] at X2 l1 l2 l3 st2 hQ
    subst l1 l2 l3
    exact ⟨T2, w, Lc, z, rfl, X2, hQ, hz, fun target hr => st2.trans hr⟩
  case invokevirtual j' =>
    subst hj
    obtain rfl : len = 3 := hlen'.resolve_left (by simp [ilen])
    have hq : q = 2 ∨ q = 3 := by
      match q, hkind with
      | 2, _ => exact Or.inl rfl
      | 3, _ => exact Or.inr rfl
    obtain ⟨a, r', b, ws', ea, ey, hEx⟩ := recv (by omega)
    have ey' : y = ws'.reverse ++ [.ref b] := by rw [← List.reverse_reverse y, ey]; simp
    rw [ey] at hB
    rcases hq with rfl | rfl
    · obtain ⟨w11, w12, w13⟩ := w10
      have hl : ws'.length = ps.length := by rw [ey, hlen, w5] at hyl; simpa [rcv] using hyl
      obtain ⟨cq, kq, qa, qb, qc⟩ := isOf hZ rfl hEx
      obtain ⟨w, _, ⟨T2, L2, k2, n2⟩, -, X2, ⟨Lc, hQ, l1, l2, l3⟩, st2⟩ := X.virtualBack hx (y := nm k') (z := nm k') hown (mvT hZ w1) (mvT hZ w11) (notFace_of_selects (args := #[]) (mvT hZ w13)) (mvT hZ w13) (mvT hZ w12) w7 hB qa qc (g := mkF m pc ls (y ++ z)) rfl (by rw [hml]; exact hlz) (Steps.refl _) (argsL := ws') (rest := z) (lenOf w4 hl) (by rw [ey']; simp) (by rw [hcz]; show 2 * 0 + _ ≤ _; omega) hd (fun _ _ => ⟨rfl, rfl, hcells, hslots⟩)
      dsimp only [Pt.U, Pt.locs, Pt.cells, Pt.slots] at X2 l1 l2 l3 st2 hQ
      subst l1 l2 l3
      exact ⟨T2, w, Lc, z, rfl, X2, hQ, hz, fun target hr => st2.trans hr⟩
    · obtain ⟨w11, w12, w13⟩ := w10
      have hl : ws'.length = ps.length := by rw [ey, hlen, w5] at hyl; simpa [rcv] using hyl
      obtain ⟨cq, q1, q2⟩ := hEx.cell
      obtain ⟨cC, kC, i1, i2, i3, i4, -⟩ := Cond.instantiable_spec (mvT hZ G6 : (Cond.instantiable C P.objN).before #[] s = true)
      have hpriv : s.PrivateAt (nm k') := Cond.privateMethod_at (mvP hZ w13 (args := #[]))
      have hsel : (Cond.selects (nm k').cls (nm k') (nm k')).before args s = true := selects_self_of_private (by rw [w11]; exact i1) i2 (by simpa using (Bool.or_eq_false_iff.mp i4).1) hpriv (mvT hZ w12) w7
      obtain ⟨w, _, ⟨T2, L2, k2, n2⟩, -, X2, ⟨Lc, hQ, l1, l2, l3⟩, st2⟩ := X.privateBack hx (y := nm k') hown (mvT hZ w1) (mvT hZ w12) hsel hpriv (mvT hZ w2) w7 hB (g := mkF m pc ls (y ++ z)) rfl (by rw [hml]; exact hlz) (Steps.refl _) (a := b) q1 q2 (argsL := ws') (rest := z) (lenOf w4 hl) (by rw [ey']; simp) (by rw [hcz]; show 2 * 0 + _ ≤ _; omega) hd (fun _ _ => ⟨rfl, rfl, hcells, hslots⟩)
      dsimp only [Pt.U, Pt.locs, Pt.cells, Pt.slots] at X2 l1 l2 l3 st2 hQ
      subst l1 l2 l3
      exact ⟨T2, w, Lc, z, rfl, X2, hQ, hz, fun target hr => st2.trans hr⟩
theorem ret_sound (G : Good P nm bc cn C Z a0) {k pc np : Nat} {i : Instr} {S : List Value} {v : Option Value} (hcode : P.code k pc = some (i, np)) (h : retV P k i S = some v)
    (X : Stand p l e R s m args below meth c T locs cells slots) (hx : p.tables.exec = Jvm.exec) (hby : c.code = bc k) (hret : meth.sig.returnType = P.ret k) {am : List Addr} {ls : Array Slot} {st : List Value} (hS : SR am S st) :
    ∃ w, OVR am v w ∧ (P.ret k = none → w = none) ∧ ∀ fs, (∀ (f : JFrame) (acts : List Action), f.method = m → f.locked = none → f.entered = [] → (doReturn e (T.setTop f) acts w).1 = T.setFrames fs) → Steps p.tables e below (T.setTop (mkF m pc ls st)) (T.setFrames fs) := by
  obtain ⟨G1, -⟩ := G
  obtain ⟨len, hdec, rfl, hlen⟩ := G1 _ _ _ _ hcode
  have hd : decode c.code pc = .ok (i, len) := by rw [hby]; exact hdec
  rcases retV_spec h with ⟨rfl, rfl, hr, rfl⟩ | ⟨x, r, rfl, rfl, hr, rfl⟩ | ⟨x, r, rfl, rfl, hr, rfl⟩ | ⟨x, r, rfl, rfl, hr, rfl⟩
  · obtain rfl : len = 1 := hlen.resolve_left (by simp [ilen])
    cases hS
    exact ⟨none, rfl, fun _ => rfl, fun fs hl => X.returnOut hx (hret.trans hr) hd hl⟩
  · obtain rfl : len = 1 := hlen.resolve_left (by simp [ilen])
    obtain ⟨_, _, rfl, rfl, hr'⟩ := hS
    exact ⟨some (.int x), ⟨_, rfl, rfl⟩, (fun q => by rw [hr] at q; cases q), fun fs hl => retOut X hx (hret.trans hr) rfl (Or.inl ⟨rfl, Or.inl rfl, x, rfl⟩) hd hl⟩
  · obtain rfl : len = 1 := hlen.resolve_left (by simp [ilen])
    obtain ⟨_, _, rfl, rfl, hr'⟩ := hS
    exact ⟨some (.int (x &&& 1)), ⟨_, rfl, rfl⟩, (fun q => by rw [hr] at q; cases q), fun fs hl => retN X hx (hret.trans hr) (Or.inl rfl) hd hl⟩
  · obtain rfl : len = 1 := hlen.resolve_left (by simp [ilen])
    obtain ⟨_, _, rfl, rfl, hr'⟩ := hS
    exact ⟨some (.long x), ⟨_, rfl, rfl⟩, (fun q => by rw [hr] at q; cases q), fun fs hl => retOut X hx (hret.trans hr) rfl (Or.inr (Or.inl ⟨rfl, rfl, x, rfl⟩)) hd hl⟩
theorem SR.opt {am : List Addr} {v w : Option Value} {S st : List Value} (h : OVR am v w) (hS : SR am S st) : SR am (v.toList ++ S) (w.toList ++ st) := by
  cases v with
  | none => cases h; exact hS
  | some x => obtain ⟨y, rfl, h1⟩ := h; exact ⟨y, st, rfl, h1, hS⟩
theorem sound (G : Good P nm bc cn C Z a0) : ∀ n, SoundAt P nm bc cn C Z n
  | 0 => fun k pc L S H v H' h => by simp [run] at h
  | n + 1 => fun k pc L S H v H' h => by
    have IH := sound G n
    intro p l e R s m args below meth c T locs cells slots n0 am ls st X hx hZ hby hml hret hown hini hrf hrl hcells hslots hlz hL hS hH hF hn
    rw [run] at h
    split at h
    · cases h
    · rename_i i np hcode
      split at h
      · rename_i v' hv
        cases h
        obtain ⟨w, h1, h2, h3⟩ := ret_sound G hcode hv X hx hby hret (ls := ls) hS
        exact ⟨T, am, locs, w, by simpa using X, hH, Pre.refl _, hF, h1, hn, h2, h3⟩
      · split at h
        · rename_i k' as rest hcall
          split at h
          · rename_i v1 H1 hr1
            have g1 := run_grow hr1
            have g2 := run_grow h
            obtain ⟨T2, w, Lc, z, rfl, X2, ⟨q1, q2, am2, q3, q4, q5⟩, hz, st2⟩ := call_sound G IH hcode hcall hr1 X hx hZ hby hml hown hrf hrl (by omega) (by omega) (ls := ls) hlz hS hH hn
            obtain ⟨T', am', locs', w', X', f1, f2, f3, f4, f5, f6, f7⟩ := IH k _ _ _ _ _ _ h X2 hx hZ hby hml hret hown hini hrf hrl (by omega) (by omega) hlz (hL.mono q3) (SR.opt q5 (hz.mono q3)) q4 (Fr.app hF q1) q2
            refine ⟨T', am', locs', w', ?_, f1, q3.trans f2, f3, f4, f5, f6, fun fs hl => st2 _ (f7 fs hl)⟩
            have a1 : cells + (H1.length - H.length) + (H'.length - H1.length) = cells + (H'.length - H.length) := by omega
            have a2 : slots + (hsz P H1 - hsz P H) + (hsz P H' - hsz P H1) = slots + (hsz P H' - hsz P H) := by omega
            rw [a1, a2] at X'; exact X'
          · cases h
        · split at h
          · rename_i pc1 L1 S1 H1 hs1
            have g1 := step_grow hs1
            have g2 := run_grow h
            obtain ⟨T2, am2, ls2, st2, locs2, X2, b1, b2, b3, b4, b5, b6, b7, b8⟩ := step_sound G hcode hs1 X hx hZ hby hml hown hini hrf hrl (by omega) (by omega) hlz hL hS hH hF hn
            obtain ⟨T', am', locs', w', X', f1, f2, f3, f4, f5, f6, f7⟩ := IH k _ _ _ _ _ _ h X2 hx hZ hby hml hret hown hini hrf hrl (by omega) (by omega) (b2.trans hlz) b1 b3 b4 b6 b7
            refine ⟨T', am', locs', w', ?_, f1, b5.trans f2, f3, f4, f5, f6, fun fs hl => b8 _ (f7 fs hl)⟩
            have a1 : cells + (H1.length - H.length) + (H'.length - H1.length) = cells + (H'.length - H.length) := by omega
            have a2 : slots + (hsz P H1 - hsz P H) + (hsz P H' - hsz P H1) = slots + (hsz P H' - hsz P H) := by omega
            rw [a1, a2] at X'; exact X'
          · cases h
end Met
end Jvm.OwnX
namespace Jvm.OwnX
open Sem ClassFile Op Lib Jvm.Stand Jvm.Free Jvm.LawKit Jvm.RoadKit
theorem run_succ {P : Prog} : ∀ (n : Nat) {k pc : Nat} {L : ALoc} {S : List Value} {H : AHeap} {out : Option Value × AHeap}, run P n k pc L S H = some out → run P (n + 1) k pc L S H = some out
  | 0, k, pc, L, S, H, out, h => by simp [run] at h
  | n + 1, k, pc, L, S, H, out, h => by
    rw [run] at h
    rw [run]
    split at h
    · cases h
    · rename_i i np hc
      try simp only [hc]
      split at h
      · rename_i v hv
        try simp only [hv]
        exact h
      · rename_i hv
        try simp only [hv]
        split at h
        · rename_i k' as rest hcall
          try simp only [hcall]
          split at h
          · rename_i v1 H1 h1
            rw [run_succ n h1]; exact run_succ n h
          · cases h
        · rename_i hcall
          try simp only [hcall]
          split at h
          · rename_i pc1 L1 S1 H1 h1
            try simp only [h1]
            exact run_succ n h
          · cases h
theorem run_le {P : Prog} {n m k pc : Nat} {L : ALoc} {S : List Value} {H : AHeap} {out : Option Value × AHeap} (hm : n ≤ m) (h : run P n k pc L S H = some out) : run P m k pc L S H = some out := by
  induction hm with
  | refl => exact h
  | step _ ih => exact run_succ _ ih
section Rules
variable {P : Prog} {k pc np : Nat} {L L' : ALoc} {S r : List Value} {H : AHeap} {out : Option Value × AHeap}
theorem Eval.of_step {i : Instr} {pc' : Nat} {S' : List Value} {H' : AHeap} (hc : P.code k pc = some (i, np)) (h1 : retV P k i S = none) (h2 : callV P k i S H = none) (h3 : step P k i np pc L S H = some (pc', L', S', H')) (h : Eval P k pc' L' S' H' out) : Eval P k pc L S H out := by
  obtain ⟨n, h⟩ := h
  exact ⟨n + 1, by rw [run]; simp only [hc, h1, h2, h3]; exact h⟩
theorem Eval.call {i : Instr} {k' : Nat} {as rest : List Value} {v : Option Value} {H1 : AHeap} (hc : P.code k pc = some (i, np)) (h2 : callV P k i S H = some (k', as, rest)) (he : Eval P k' 0 (entry P k' as) [] H (v, H1)) (h : Eval P k np L (v.toList ++ rest) H1 out) : Eval P k pc L S H out := by
  obtain ⟨n, he⟩ := he
  obtain ⟨m, h⟩ := h
  have h1 : retV P k i S = none := by
    unfold callV at h2
    cases i <;> simp only [poolOf, reduceCtorEq] at h2 <;> rfl
  exact ⟨n + m + 1, by rw [run]; simp only [hc, h1, h2]; rw [run_le (Nat.le_add_right n m) he]; exact run_le (Nat.le_add_left m n) h⟩
theorem Eval.ret {i : Instr} {v : Option Value} (hc : P.code k pc = some (i, np)) (h1 : retV P k i S = some v) : Eval P k pc L S H (v, H) := ⟨1, by rw [run]; simp only [hc, h1]⟩
theorem Eval.eq {out' : Option Value × AHeap} (h : Eval P k pc L S H out') (e : out' = out) : Eval P k pc L S H out := e ▸ h
theorem Eval.iload_n {n : Fin 4} {x : Int32} (hc : P.code k pc = some (.iload_n n, np)) (hl : loadI L n.val = some x) (h : Eval P k np L (.int x :: S) H out) : Eval P k pc L S H out := Eval.of_step hc rfl rfl (by simp only [step, hl]) h
theorem Eval.iload {n : Nat} {x : Int32} (hc : P.code k pc = some (.iload n, np)) (hl : loadI L n = some x) (h : Eval P k np L (.int x :: S) H out) : Eval P k pc L S H out := Eval.of_step hc rfl rfl (by simp only [step, hl]) h
theorem Eval.lload_n {n : Fin 4} {x : Int64} (hc : P.code k pc = some (.lload_n n, np)) (hl : loadJ L n.val = some x) (h : Eval P k np L (.long x :: S) H out) : Eval P k pc L S H out := Eval.of_step hc rfl rfl (by simp only [step, hl]) h
theorem Eval.lload {n : Nat} {x : Int64} (hc : P.code k pc = some (.lload n, np)) (hl : loadJ L n = some x) (h : Eval P k np L (.long x :: S) H out) : Eval P k pc L S H out := Eval.of_step hc rfl rfl (by simp only [step, hl]) h
theorem Eval.aload_n {n : Fin 4} {x : Nat} (hc : P.code k pc = some (.aload_n n, np)) (hl : loadA L n.val = some x) (h : Eval P k np L (.ref x :: S) H out) : Eval P k pc L S H out := Eval.of_step hc rfl rfl (by simp only [step, hl]) h
theorem Eval.aload {n : Nat} {x : Nat} (hc : P.code k pc = some (.aload n, np)) (hl : loadA L n = some x) (h : Eval P k np L (.ref x :: S) H out) : Eval P k pc L S H out := Eval.of_step hc rfl rfl (by simp only [step, hl]) h
theorem Eval.istore_n {n : Fin 4} {x : Int32} (hc : P.code k pc = some (.istore_n n, np)) (hl : lput L n.val (.int x) = some L') (h : Eval P k np L' r H out) : Eval P k pc L (.int x :: r) H out := Eval.of_step hc rfl rfl (by simp only [step, hl]) h
theorem Eval.istore {n : Nat} {x : Int32} (hc : P.code k pc = some (.istore n, np)) (hl : lput L n (.int x) = some L') (h : Eval P k np L' r H out) : Eval P k pc L (.int x :: r) H out := Eval.of_step hc rfl rfl (by simp only [step, hl]) h
theorem Eval.astore_n {n : Fin 4} {x : Nat} (hc : P.code k pc = some (.astore_n n, np)) (hl : lput L n.val (.ref x) = some L') (h : Eval P k np L' r H out) : Eval P k pc L (.ref x :: r) H out := Eval.of_step hc rfl rfl (by simp only [step, hl]) h
theorem Eval.astore {n : Nat} {x : Nat} (hc : P.code k pc = some (.astore n, np)) (hl : lput L n (.ref x) = some L') (h : Eval P k np L' r H out) : Eval P k pc L (.ref x :: r) H out := Eval.of_step hc rfl rfl (by simp only [step, hl]) h
theorem Eval.lstore_n {n : Fin 4} {x : Int64} (hc : P.code k pc = some (.lstore_n n, np)) (hl : lputL L n.val x = some L') (h : Eval P k np L' r H out) : Eval P k pc L (.long x :: r) H out := Eval.of_step hc rfl rfl (by simp only [step, hl]) h
theorem Eval.lstore {n : Nat} {x : Int64} (hc : P.code k pc = some (.lstore n, np)) (hl : lputL L n x = some L') (h : Eval P k np L' r H out) : Eval P k pc L (.long x :: r) H out := Eval.of_step hc rfl rfl (by simp only [step, hl]) h
theorem Eval.iinc {n : Nat} {c : Int} {x : Int32} (hc : P.code k pc = some (.iinc n c, np)) (hl : loadI L n = some x) (hp : lput L n (.int (x + Int32.ofInt c)) = some L') (h : Eval P k np L' S H out) : Eval P k pc L S H out := Eval.of_step hc rfl rfl (by simp only [step, hl, hp]) h
theorem Eval.iconst {c : Int} {x : Int32} (hc : P.code k pc = some (.iconst c, np)) (hx : Int32.ofInt c = x) (h : Eval P k np L (.int x :: S) H out) : Eval P k pc L S H out := Eval.of_step hc rfl rfl (by subst hx; rfl) h
theorem Eval.bipush {c : Int} {x : Int32} (hc : P.code k pc = some (.bipush c, np)) (hx : (Int8.ofInt c).toInt32 = x) (h : Eval P k np L (.int x :: S) H out) : Eval P k pc L S H out := Eval.of_step hc rfl rfl (by subst hx; rfl) h
theorem Eval.sipush {c : Int} {x : Int32} (hc : P.code k pc = some (.sipush c, np)) (hx : (Int16.ofInt c).toInt32 = x) (h : Eval P k np L (.int x :: S) H out) : Eval P k pc L S H out := Eval.of_step hc rfl rfl (by subst hx; rfl) h
theorem Eval.lconst {c : Fin 2} {x : Int64} (hc : P.code k pc = some (.lconst c, np)) (hx : Int64.ofNat c = x) (h : Eval P k np L (.long x :: S) H out) : Eval P k pc L S H out := Eval.of_step hc rfl rfl (by subst hx; rfl) h
theorem Eval.ldc {j : Nat} {x : Int32} (hc : P.code k pc = some (.ldc j, np)) (hx : P.kon (P.cls k) j = some (.int x)) (h : Eval P k np L (.int x :: S) H out) : Eval P k pc L S H out := Eval.of_step hc rfl rfl (by simp only [step, hx]) h
theorem Eval.ldc2_w {j : Nat} {x : Int64} (hc : P.code k pc = some (.ldc2_w j, np)) (hx : P.kon (P.cls k) j = some (.long x)) (h : Eval P k np L (.long x :: S) H out) : Eval P k pc L S H out := Eval.of_step hc rfl rfl (by simp only [step, hx]) h
theorem Eval.idiv {x y : Int32} (hc : P.code k pc = some (.idiv, np)) (hy : ¬ y = 0) (h : Eval P k np L (.int (x / y) :: r) H out) : Eval P k pc L (.int y :: .int x :: r) H out := Eval.of_step hc rfl rfl (by simp [step, hy]) h
theorem Eval.irem {x y : Int32} (hc : P.code k pc = some (.irem, np)) (hy : ¬ y = 0) (h : Eval P k np L (.int (x % y) :: r) H out) : Eval P k pc L (.int y :: .int x :: r) H out := Eval.of_step hc rfl rfl (by simp [step, hy]) h
theorem Eval.iadd {x y : Int32} (hc : P.code k pc = some (.iadd, np))  (h : Eval P k np L (.int (x + y) :: r) H out) : Eval P k pc L (.int y :: .int x :: r) H out := Eval.of_step hc rfl rfl (by rfl) h
theorem Eval.isub {x y : Int32} (hc : P.code k pc = some (.isub, np))  (h : Eval P k np L (.int (x - y) :: r) H out) : Eval P k pc L (.int y :: .int x :: r) H out := Eval.of_step hc rfl rfl (by rfl) h
theorem Eval.imul {x y : Int32} (hc : P.code k pc = some (.imul, np))  (h : Eval P k np L (.int (x * y) :: r) H out) : Eval P k pc L (.int y :: .int x :: r) H out := Eval.of_step hc rfl rfl (by rfl) h
theorem Eval.iand {x y : Int32} (hc : P.code k pc = some (.iand, np))  (h : Eval P k np L (.int (x &&& y) :: r) H out) : Eval P k pc L (.int y :: .int x :: r) H out := Eval.of_step hc rfl rfl (by rfl) h
theorem Eval.ior {x y : Int32} (hc : P.code k pc = some (.ior, np))  (h : Eval P k np L (.int (x ||| y) :: r) H out) : Eval P k pc L (.int y :: .int x :: r) H out := Eval.of_step hc rfl rfl (by rfl) h
theorem Eval.ixor {x y : Int32} (hc : P.code k pc = some (.ixor, np))  (h : Eval P k np L (.int (x ^^^ y) :: r) H out) : Eval P k pc L (.int y :: .int x :: r) H out := Eval.of_step hc rfl rfl (by rfl) h
theorem Eval.ishl {x y : Int32} (hc : P.code k pc = some (.ishl, np))  (h : Eval P k np L (.int (ish x y) :: r) H out) : Eval P k pc L (.int y :: .int x :: r) H out := Eval.of_step hc rfl rfl (by rfl) h
theorem Eval.ishr {x y : Int32} (hc : P.code k pc = some (.ishr, np))  (h : Eval P k np L (.int (isr x y) :: r) H out) : Eval P k pc L (.int y :: .int x :: r) H out := Eval.of_step hc rfl rfl (by rfl) h
theorem Eval.iushr {x y : Int32} (hc : P.code k pc = some (.iushr, np))  (h : Eval P k np L (.int (ush x y) :: r) H out) : Eval P k pc L (.int y :: .int x :: r) H out := Eval.of_step hc rfl rfl (by rfl) h
theorem Eval.ladd {x y : Int64} (hc : P.code k pc = some (.ladd, np))  (h : Eval P k np L (.long (x + y) :: r) H out) : Eval P k pc L (.long y :: .long x :: r) H out := Eval.of_step hc rfl rfl (by rfl) h
theorem Eval.lsub {x y : Int64} (hc : P.code k pc = some (.lsub, np))  (h : Eval P k np L (.long (x - y) :: r) H out) : Eval P k pc L (.long y :: .long x :: r) H out := Eval.of_step hc rfl rfl (by rfl) h
theorem Eval.lmul {x y : Int64} (hc : P.code k pc = some (.lmul, np))  (h : Eval P k np L (.long (x * y) :: r) H out) : Eval P k pc L (.long y :: .long x :: r) H out := Eval.of_step hc rfl rfl (by rfl) h
theorem Eval.land {x y : Int64} (hc : P.code k pc = some (.land, np))  (h : Eval P k np L (.long (x &&& y) :: r) H out) : Eval P k pc L (.long y :: .long x :: r) H out := Eval.of_step hc rfl rfl (by rfl) h
theorem Eval.lor {x y : Int64} (hc : P.code k pc = some (.lor, np))  (h : Eval P k np L (.long (x ||| y) :: r) H out) : Eval P k pc L (.long y :: .long x :: r) H out := Eval.of_step hc rfl rfl (by rfl) h
theorem Eval.lxor {x y : Int64} (hc : P.code k pc = some (.lxor, np))  (h : Eval P k np L (.long (x ^^^ y) :: r) H out) : Eval P k pc L (.long y :: .long x :: r) H out := Eval.of_step hc rfl rfl (by rfl) h
theorem Eval.lshl {x : Int64} {y : Int32} (hc : P.code k pc = some (.lshl, np))  (h : Eval P k np L (.long (lsh x y) :: r) H out) : Eval P k pc L (.int y :: .long x :: r) H out := Eval.of_step hc rfl rfl (by rfl) h
theorem Eval.lushr {x : Int64} {y : Int32} (hc : P.code k pc = some (.lushr, np))  (h : Eval P k np L (.long (lus x y) :: r) H out) : Eval P k pc L (.int y :: .long x :: r) H out := Eval.of_step hc rfl rfl (by rfl) h
theorem Eval.lcmp {x y : Int64} (hc : P.code k pc = some (.lcmp, np))  (h : Eval P k np L (.int (lcm x y) :: r) H out) : Eval P k pc L (.long y :: .long x :: r) H out := Eval.of_step hc rfl rfl (by rfl) h
theorem Eval.lneg {x : Int64} (hc : P.code k pc = some (.lneg, np))  (h : Eval P k np L (.long (-x) :: r) H out) : Eval P k pc L (.long x :: r) H out := Eval.of_step hc rfl rfl (by rfl) h
theorem Eval.i2l {x : Int32} (hc : P.code k pc = some (.i2l, np))  (h : Eval P k np L (.long x.toInt64 :: r) H out) : Eval P k pc L (.int x :: r) H out := Eval.of_step hc rfl rfl (by rfl) h
theorem Eval.l2i {x : Int64} (hc : P.code k pc = some (.l2i, np))  (h : Eval P k np L (.int x.toInt32 :: r) H out) : Eval P k pc L (.long x :: r) H out := Eval.of_step hc rfl rfl (by rfl) h
theorem Eval.i2b {x : Int32} (hc : P.code k pc = some (.i2b, np))  (h : Eval P k np L (.int (i8 x) :: r) H out) : Eval P k pc L (.int x :: r) H out := Eval.of_step hc rfl rfl (by rfl) h
theorem Eval.dupR {x : Nat} (hc : P.code k pc = some (.dup, np))  (h : Eval P k np L (.ref x :: .ref x :: r) H out) : Eval P k pc L (.ref x :: r) H out := Eval.of_step hc rfl rfl (by rfl) h
theorem Eval.dupI {x : Int32} (hc : P.code k pc = some (.dup, np))  (h : Eval P k np L (.int x :: .int x :: r) H out) : Eval P k pc L (.int x :: r) H out := Eval.of_step hc rfl rfl (by rfl) h
theorem Eval.dup2 {x : Int32} {y : Nat} (hc : P.code k pc = some (.dup2, np))  (h : Eval P k np L (.int x :: .ref y :: .int x :: .ref y :: r) H out) : Eval P k pc L (.int x :: .ref y :: r) H out := Eval.of_step hc rfl rfl (by rfl) h
theorem Eval.popI {x : Int32} (hc : P.code k pc = some (.pop, np))  (h : Eval P k np L r H out) : Eval P k pc L (.int x :: r) H out := Eval.of_step hc rfl rfl (by rfl) h
theorem Eval.popR {x : Nat} (hc : P.code k pc = some (.pop, np))  (h : Eval P k np L r H out) : Eval P k pc L (.ref x :: r) H out := Eval.of_step hc rfl rfl (by rfl) h
theorem Eval.goto {o : Int} {t : Nat} (hc : P.code k pc = some (.goto o, np)) (ht : tgt pc o = some t) (h : Eval P k t L S H out) : Eval P k pc L S H out := Eval.of_step hc rfl rfl (by simp only [step, ht]) h
theorem Eval.ifT {cd : ClassFile.Cond} {o : Int} {t : Nat} {x : Int32} (hc : P.code k pc = some (.ifCond cd o, np)) (ht : tgt pc o = some t) (hb : if_icmp.holds cd x 0 = true) (h : Eval P k t L r H out) : Eval P k pc L (.int x :: r) H out := Eval.of_step hc rfl rfl (by simp only [step, ht, hb, cond_true]) h
theorem Eval.ifF {cd : ClassFile.Cond} {o : Int} {x : Int32} (hc : P.code k pc = some (.ifCond cd o, np)) (hb : if_icmp.holds cd x 0 = false) (h : Eval P k np L r H out) : Eval P k pc L (.int x :: r) H out := Eval.of_step hc rfl rfl (by simp only [step, hb, cond_false]) h
theorem Eval.icmpT {cd : ClassFile.Cond} {o : Int} {t : Nat} {x y : Int32} (hc : P.code k pc = some (.if_icmp cd o, np)) (ht : tgt pc o = some t) (hb : if_icmp.holds cd x y = true) (h : Eval P k t L r H out) : Eval P k pc L (.int y :: .int x :: r) H out := Eval.of_step hc rfl rfl (by simp only [step, ht, hb, cond_true]) h
theorem Eval.icmpF {cd : ClassFile.Cond} {o : Int} {x y : Int32} (hc : P.code k pc = some (.if_icmp cd o, np)) (hb : if_icmp.holds cd x y = false) (h : Eval P k np L r H out) : Eval P k pc L (.int y :: .int x :: r) H out := Eval.of_step hc rfl rfl (by simp only [step, hb, cond_false]) h
theorem Eval.tswIn {d lo hi o : Int} {offs : Array Int} {t : Nat} {x : Int32} (hc : P.code k pc = some (.tableswitch d lo hi offs, np)) (h1 : (decide (x.toInt < lo) || decide (x.toInt > hi)) = false) (h2 : offs.toList[(x.toInt - lo).toNat]? = some o) (ht : tgt pc o = some t) (h : Eval P k t L r H out) : Eval P k pc L (.int x :: r) H out := Eval.of_step hc rfl rfl (by simp only [step, h1, h2, ht, cond_false]) h
theorem Eval.tswOut {d lo hi : Int} {offs : Array Int} {t : Nat} {x : Int32} (hc : P.code k pc = some (.tableswitch d lo hi offs, np)) (h1 : (decide (x.toInt < lo) || decide (x.toInt > hi)) = true) (ht : tgt pc d = some t) (h : Eval P k t L r H out) : Eval P k pc L (.int x :: r) H out := Eval.of_step hc rfl rfl (by simp only [step, h1, ht, cond_true]) h
theorem Eval.getfield {j f a : Nat} {v : Value} (hc : P.code k pc = some (.getfield j, np)) (hf : P.fld (P.cls k) j = some f) (hg : getC H a f = some v) (h : Eval P k np L (v :: r) H out) : Eval P k pc L (.ref a :: r) H out := Eval.of_step hc rfl rfl (by simp only [step, hf, hg]) h
/-- the heap with a field written -/
def putC (P : Prog) (k : Nat) (H : AHeap) (a f : Nat) (v : Value) : Option AHeap := match P.fields[f]? with
  | some (_, _, t, fin) => (bif (!fin || P.ini k) && Nat.ble P.ro a then (match conv t v with
    | some v' => (match H[a]? with
      | some (.inl fs) => (bif Nat.ble (f + 1) fs.length then some (H.set a (.inl (fs.set f v'))) else none)
      | _ => none)
    | none => none) else none)
  | none => none
theorem putC_spec {P : Prog} {k a f : Nat} {v : Value} {H H1 : AHeap} (hp : putC P k H a f v = some H1) : ∃ n d t fin v' fs, P.fields[f]? = some (n, d, t, fin) ∧ ((!fin || P.ini k) && Nat.ble P.ro a) = true ∧ conv t v = some v' ∧ H[a]? = some (.inl fs) ∧ Nat.ble (f + 1) fs.length = true ∧ H1 = H.set a (.inl (fs.set f v')) := by
  unfold putC at hp
  simp only [Bool.cond_eq_ite] at hp
  split at hp
  · rename_i n d t fin hq
    split at hp
    · rename_i hc
      split at hp
      · rename_i v' hv
        split at hp
        · rename_i fs hfs
          split at hp
          · rename_i hz
            cases hp; exact ⟨n, d, t, fin, v', fs, hq, hc, hv, hfs, hz, rfl⟩
          · cases hp
        · cases hp
      · cases hp
    · cases hp
  · cases hp
theorem step_put {j f a : Nat} {v : Value} {H1 : AHeap} (hf : P.fld (P.cls k) j = some f) (hp : putC P k H a f v = some H1) : step P k (.putfield j) np pc L (v :: .ref a :: r) H = some (np, L, r, H1) := by
  obtain ⟨n, d, t, fin, v', fs, h1, h2, h3, h4, h5, rfl⟩ := putC_spec hp
  simp only [step, hf, h1, h2, h3, h4, h5, cond_true]
theorem Eval.putfield {j f a : Nat} {v : Value} {H1 : AHeap} (hc : P.code k pc = some (.putfield j, np)) (hf : P.fld (P.cls k) j = some f) (hp : putC P k H a f v = some H1) (h : Eval P k np L r H1 out) : Eval P k pc L (v :: .ref a :: r) H out := Eval.of_step hc rfl rfl (step_put hf hp) h
theorem Eval.iaload0 {a : Nat} {j : Int32} {xs : List Int32} (hc : P.code k pc = some (.iaload, np)) (ha : H[a]? = some (.inr (.inl (0, xs)))) (hj : inb xs.length j = true) (h : Eval P k np L (.int (rd xs j) :: r) H out) : Eval P k pc L (.int j :: .ref a :: r) H out := Eval.of_step hc rfl rfl (by simp only [step, ha, hj, cond_true]) h
theorem Eval.iaload {a : Nat} {j : Int32} {xs : List Int32} (hc : P.code k pc = some (.iaload, np)) (ha : H[a]? = some (.inr (.inl (1, xs)))) (hj : inb xs.length j = true) (h : Eval P k np L (.int (rd xs j) :: r) H out) : Eval P k pc L (.int j :: .ref a :: r) H out := Eval.of_step hc rfl rfl (by simp only [step, ha, hj, cond_true]) h
theorem Eval.baloadZ {a : Nat} {j : Int32} {xs : List Int32} (hc : P.code k pc = some (.baload, np)) (ha : H[a]? = some (.inr (.inl (2, xs)))) (hj : inb xs.length j = true) (h : Eval P k np L (.int (rd xs j) :: r) H out) : Eval P k pc L (.int j :: .ref a :: r) H out := Eval.of_step hc rfl rfl (by simp only [step, ha, hj, cond_true]) h
theorem Eval.baloadB {a : Nat} {j : Int32} {xs : List Int32} (hc : P.code k pc = some (.baload, np)) (ha : H[a]? = some (.inr (.inl (3, xs)))) (hj : inb xs.length j = true) (h : Eval P k np L (.int (rd xs j) :: r) H out) : Eval P k pc L (.int j :: .ref a :: r) H out := Eval.of_step hc rfl rfl (by simp only [step, ha, hj, cond_true]) h
theorem Eval.laload {a : Nat} {j : Int32} {xs : List Int64} (hc : P.code k pc = some (.laload, np)) (ha : H[a]? = some (.inr (.inr xs))) (hj : inb xs.length j = true) (h : Eval P k np L (.long (rdL xs j) :: r) H out) : Eval P k pc L (.int j :: .ref a :: r) H out := Eval.of_step hc rfl rfl (by simp only [step, ha, hj, cond_true]) h
theorem Eval.iastore {a : Nat} {j : Int32} {x : Int32} {xs : List Int32} {H1 : AHeap} (hc : P.code k pc = some (.iastore, np)) (hro : Nat.ble P.ro a = true) (ha : H[a]? = some (.inr (.inl (1, xs)))) (hj : inb xs.length j = true) (hH : H.set a (.inr (.inl (1, wr xs j x))) = H1) (h : Eval P k np L r H1 out) : Eval P k pc L (.int x :: .int j :: .ref a :: r) H out := Eval.of_step hc rfl rfl (by subst hH; simp only [step, hro, ha, hj, cond_true]; try rfl) h
theorem Eval.bastoreZ {a : Nat} {j : Int32} {x : Int32} {xs : List Int32} {H1 : AHeap} (hc : P.code k pc = some (.bastore, np)) (hro : Nat.ble P.ro a = true) (ha : H[a]? = some (.inr (.inl (2, xs)))) (hj : inb xs.length j = true) (hH : H.set a (.inr (.inl (2, wr xs j (x &&& 1)))) = H1) (h : Eval P k np L r H1 out) : Eval P k pc L (.int x :: .int j :: .ref a :: r) H out := Eval.of_step hc rfl rfl (by subst hH; simp only [step, hro, ha, hj, cond_true]; try rfl) h
theorem Eval.bastoreB {a : Nat} {j : Int32} {x : Int32} {xs : List Int32} {H1 : AHeap} (hc : P.code k pc = some (.bastore, np)) (hro : Nat.ble P.ro a = true) (ha : H[a]? = some (.inr (.inl (3, xs)))) (hj : inb xs.length j = true) (hH : H.set a (.inr (.inl (3, wr xs j (i8 x)))) = H1) (h : Eval P k np L r H1 out) : Eval P k pc L (.int x :: .int j :: .ref a :: r) H out := Eval.of_step hc rfl rfl (by subst hH; simp only [step, hro, ha, hj, cond_true]; try rfl) h
theorem Eval.lastore {a : Nat} {j : Int32} {x : Int64} {xs : List Int64} {H1 : AHeap} (hc : P.code k pc = some (.lastore, np)) (hro : Nat.ble P.ro a = true) (ha : H[a]? = some (.inr (.inr xs))) (hj : inb xs.length j = true) (hH : H.set a (.inr (.inr (wrL xs j x))) = H1) (h : Eval P k np L r H1 out) : Eval P k pc L (.long x :: .int j :: .ref a :: r) H out := Eval.of_step hc rfl rfl (by subst hH; simp only [step, hro, ha, hj, cond_true]; try rfl) h
theorem Eval.alenI {a t : Nat} {xs : List Int32} (hc : P.code k pc = some (.arraylength, np)) (ha : H[a]? = some (.inr (.inl (t, xs)))) (h : Eval P k np L (.int xs.length.toInt32 :: r) H out) : Eval P k pc L (.ref a :: r) H out := Eval.of_step hc rfl rfl (by simp only [step, ha]) h
theorem Eval.newarray {t : ArrayType} {n : Int32} {q a z N : Nat} {H1 : AHeap} (hc : P.code k pc = some (.newarray t, np)) (hla : H.length = a) (ht : atyOf t = some q) (hn : decide (n < 0) = false) (hN : n.toNatClampNeg = N) (hb : N ≤ 60000) (hC : a + 1 ≤ P.capC) (hz : hsz P H = z) (hS : z + N ≤ P.capS) (hH : H ++ [newC q N] = H1) (h : Eval P k np L (.ref a :: r) H1 out) : Eval P k pc L (.int n :: r) H out := by
  subst hla hN hz
  have hq : (!(decide (n < 0)) && Nat.ble n.toNatClampNeg 60000 && Nat.ble (H.length + 1) P.capC && Nat.ble (hsz P H + n.toNatClampNeg) P.capS) = true := by
    simp only [hn, Bool.not_false, Bool.true_and, Bool.and_eq_true]
    exact ⟨⟨Nat.ble_eq_true_of_le hb, Nat.ble_eq_true_of_le hC⟩, Nat.ble_eq_true_of_le hS⟩
  exact Eval.of_step hc rfl rfl (by simp only [step, ht, hq, cond_true, hH]) h
theorem Eval.new {j q a z : Nat} {H1 : AHeap} (hc : P.code k pc = some (.new j, np)) (hla : H.length = a) (ht : P.link (P.cls k) j = some (5, q)) (hC : a + 1 ≤ P.capC) (hz : hsz P H = z) (hS : z + P.objN ≤ P.capS) (hH : H ++ [.inl P.fresh] = H1) (h : Eval P k np L (.ref a :: S) H1 out) : Eval P k pc L S H out := by
  subst hla hz
  have hq : (Nat.ble (H.length + 1) P.capC && Nat.ble (hsz P H + P.objN) P.capS) = true := by
    simp only [Bool.and_eq_true]
    exact ⟨Nat.ble_eq_true_of_le hC, Nat.ble_eq_true_of_le hS⟩
  exact Eval.of_step hc rfl rfl (by simp only [step, ht, hq, cond_true, hH]) h
theorem Eval.objInit {j a : Nat} (hc : P.code k pc = some (.invokespecial j, np)) (hq : (isObjInit P k j && Nat.ble 1 (P.rf k) && Nat.ble (cats r + 12) (P.rl k)) = true) (h : Eval P k np L r H out) : Eval P k pc L (.ref a :: r) H out := by
  refine Eval.of_step hc rfl ?_ (by simp only [step, hq, cond_true]) h
  simp only [Bool.and_eq_true] at hq
  have h3 := hq.1.1
  unfold isObjInit at h3
  split at h3
  · rename_i kk hk
    simp [callV, poolOf, hk, kindOk]
  · cases h3
/-- the left knows at least what the right knows -/
def lw : ALoc → ALoc → Prop
  | [], b => b = []
  | a :: r, b => ∃ x r', b = x :: r' ∧ (x = none ∨ x = a) ∧ lw r r'
theorem lw.refl : ∀ L : ALoc, lw L L
  | [] => rfl
  | a :: r => ⟨a, r, rfl, Or.inr rfl, lw.refl r⟩
theorem lw.spec : ∀ {L L' : ALoc}, lw L L' → L.length = L'.length ∧ ∀ (i : Nat) v, L'[i]? = some (some v) → L[i]? = some (some v)
  | [], _, h => by cases h; exact ⟨rfl, fun i v q => by simp at q⟩
  | a :: r, _, ⟨x, r', e, h1, h2⟩ => by
    subst e
    obtain ⟨i1, i2⟩ := lw.spec h2
    refine ⟨by simp [i1], fun i v q => ?_⟩
    cases i with
    | zero =>
      simp only [List.getElem?_cons_zero, Option.some.injEq] at q ⊢
      rcases h1 with rfl | rfl
      · cases q
      · exact q
    | succ i => rw [List.getElem?_cons_succ] at q ⊢; exact i2 i v q
theorem lw.of : ∀ {L L' : ALoc}, L.length = L'.length → (∀ (i : Nat) v, L'[i]? = some (some v) → L[i]? = some (some v)) → lw L L'
  | [], L', h, _ => by cases L' with
    | nil => rfl
    | cons _ _ => simp at h
  | a :: r, L', h, q => by
    cases L' with
    | nil => simp at h
    | cons x r' =>
      refine ⟨x, r', rfl, ?_, lw.of (by simpa using h) fun i v e => ?_⟩
      · cases x with
        | none => exact Or.inl rfl
        | some v => have := q 0 v rfl; simp at this; exact Or.inr this.symm
      · have := q (i + 1) v (by rw [List.getElem?_cons_succ]; exact e); rwa [List.getElem?_cons_succ] at this
theorem lw.kill {L L' : ALoc} (h : lw L L') (i : Nat) : lw (kill1 L i) (kill1 L' i) := by
  obtain ⟨h1, h2⟩ := h.spec
  refine lw.of (by rw [kill1_len, kill1_len, h1]) fun j v q => ?_
  obtain ⟨q1, q2⟩ := kill1_get q
  have q3 := h2 _ _ q1
  unfold kill1
  split
  · exact q3
  · rename_i i
    split
    · rename_i x hx
      by_cases e : i = j
      · subst e; rw [hx] at q3; cases q3; exact absurd rfl (q2 rfl x)
      · rw [List.getElem?_set_ne e]; exact q3
    · exact q3
theorem lw.set {L L' : ALoc} (h : lw L L') (i : Nat) (x : Option Value) : lw (L.set i x) (L'.set i x) := by
  obtain ⟨h1, h2⟩ := h.spec
  refine lw.of (by simp [h1]) fun j v q => ?_
  rw [List.getElem?_set] at q ⊢
  split at q
  · rename_i e
    rw [if_pos e, h1]; exact q
  · rename_i e
    rw [if_neg e]; exact h2 _ _ q
theorem lw.put {L L' L1 : ALoc} (h : lw L L') {i : Nat} {v : Value} (hp : lput L' i v = some L1) : ∃ L2, lput L i v = some L2 ∧ lw L2 L1 := by
  unfold lput at hp ⊢
  rw [h.spec.1]
  rw [Bool.cond_eq_ite] at hp ⊢
  split at hp
  · rename_i hc
    cases hp; exact ⟨_, if_pos hc, (h.kill i).set i _⟩
  · cases hp
theorem lw.putL {L L' L1 : ALoc} (h : lw L L') {i : Nat} {v : Int64} (hp : lputL L' i v = some L1) : ∃ L2, lputL L i v = some L2 ∧ lw L2 L1 := by
  unfold lputL at hp ⊢
  rw [h.spec.1]
  rw [Bool.cond_eq_ite] at hp ⊢
  split at hp
  · rename_i hc
    cases hp; exact ⟨_, if_pos hc, ((h.kill i).set i _).set (i + 1) _⟩
  · cases hp
theorem lw.loadI {L L' : ALoc} (h : lw L L') {i : Nat} {x : Int32} (q : OwnX.loadI L' i = some x) : OwnX.loadI L i = some x := by
  unfold OwnX.loadI at q ⊢
  split at q
  · rename_i y hy
    rw [h.spec.2 _ _ hy]; exact q
  · cases q
theorem lw.loadJ {L L' : ALoc} (h : lw L L') {i : Nat} {x : Int64} (q : OwnX.loadJ L' i = some x) : OwnX.loadJ L i = some x := by
  unfold OwnX.loadJ at q ⊢
  split at q
  · rename_i y hy
    rw [h.spec.2 _ _ hy]; exact q
  · cases q
theorem lw.loadA {L L' : ALoc} (h : lw L L') {i x : Nat} (q : OwnX.loadA L' i = some x) : OwnX.loadA L i = some x := by
  unfold OwnX.loadA at q ⊢
  split at q
  · rename_i y hy
    rw [h.spec.2 _ _ hy]; exact q
  · cases q
set_option maxHeartbeats 4000000 in
theorem step_weak {i : Instr} {pc' : Nat} {S' : List Value} {H' : AHeap} {L1 : ALoc} (hw : lw L L') (h : step P k i np pc L' S H = some (pc', L1, S', H')) : ∃ L2, step P k i np pc L S H = some (pc', L2, S', H') ∧ lw L2 L1 := by
  cases i
  case iload_n n =>
    simp only [step] at h ⊢
    split at h
    · rename_i x hx
      rw [hw.loadI hx]; cases h; exact ⟨L, rfl, hw⟩
    · cases h
  case iload n =>
    simp only [step] at h ⊢
    split at h
    · rename_i x hx
      rw [hw.loadI hx]; cases h; exact ⟨L, rfl, hw⟩
    · cases h
  case lload_n n =>
    simp only [step] at h ⊢
    split at h
    · rename_i x hx
      rw [hw.loadJ hx]; cases h; exact ⟨L, rfl, hw⟩
    · cases h
  case lload n =>
    simp only [step] at h ⊢
    split at h
    · rename_i x hx
      rw [hw.loadJ hx]; cases h; exact ⟨L, rfl, hw⟩
    · cases h
  case aload_n n =>
    simp only [step] at h ⊢
    split at h
    · rename_i x hx
      rw [hw.loadA hx]; cases h; exact ⟨L, rfl, hw⟩
    · cases h
  case aload n =>
    simp only [step] at h ⊢
    split at h
    · rename_i x hx
      rw [hw.loadA hx]; cases h; exact ⟨L, rfl, hw⟩
    · cases h
  case istore_n n =>
    simp only [step] at h ⊢
    split at h
    · split at h
      · rename_i L3 hx
        obtain ⟨L2, e1, e2⟩ := hw.put hx
        cases h; exact ⟨L2, by simp only [e1], e2⟩
      · cases h
    · cases h
  case istore n =>
    simp only [step] at h ⊢
    split at h
    · split at h
      · rename_i L3 hx
        obtain ⟨L2, e1, e2⟩ := hw.put hx
        cases h; exact ⟨L2, by simp only [e1], e2⟩
      · cases h
    · cases h
  case astore_n n =>
    simp only [step] at h ⊢
    split at h
    · split at h
      · rename_i L3 hx
        obtain ⟨L2, e1, e2⟩ := hw.put hx
        cases h; exact ⟨L2, by simp only [e1], e2⟩
      · cases h
    · cases h
  case astore n =>
    simp only [step] at h ⊢
    split at h
    · split at h
      · rename_i L3 hx
        obtain ⟨L2, e1, e2⟩ := hw.put hx
        cases h; exact ⟨L2, by simp only [e1], e2⟩
      · cases h
    · cases h
  case lstore_n n =>
    simp only [step] at h ⊢
    split at h
    · split at h
      · rename_i L3 hx
        obtain ⟨L2, e1, e2⟩ := hw.putL hx
        cases h; exact ⟨L2, by simp only [e1], e2⟩
      · cases h
    · cases h
  case lstore n =>
    simp only [step] at h ⊢
    split at h
    · split at h
      · rename_i L3 hx
        obtain ⟨L2, e1, e2⟩ := hw.putL hx
        cases h; exact ⟨L2, by simp only [e1], e2⟩
      · cases h
    · cases h
  case iinc n c =>
    simp only [step] at h ⊢
    split at h
    · rename_i x hx
      rw [hw.loadI hx]
      split at h
      · rename_i L3 hp
        obtain ⟨L2, e1, e2⟩ := hw.put hp
        cases h; exact ⟨L2, by simp only [e1], e2⟩
      · cases h
    · cases h
  all_goals
    simp only [step, Bool.cond_eq_ite] at h ⊢
    repeat' (split at h)
  all_goals first
    | (cases h; done)
    | (simp only [Option.some.injEq, Prod.mk.injEq] at h; obtain ⟨rfl, rfl, rfl, rfl⟩ := h; refine ⟨L, ?_, hw⟩; first | rfl | (simp only [*, if_true, if_false]; done) | (simp [*]; done))
theorem run_weak : ∀ (n : Nat) {pc : Nat} {L L' : ALoc} {S : List Value} {H : AHeap} {out : Option Value × AHeap}, lw L L' → run P n k pc L' S H = some out → run P n k pc L S H = some out
  | 0, _, _, _, _, _, _, _, h => by simp [run] at h
  | n + 1, pc, L, L', S, H, out, hw, h => by
    rw [run] at h
    rw [run]
    split at h
    · cases h
    · rename_i i np hc
      try simp only [hc]
      split at h
      · rename_i v hv
        try simp only [hv]
        exact h
      · rename_i hv
        try simp only [hv]
        split at h
        · rename_i k' as rest hcall
          try simp only [hcall]
          split at h
          · rename_i v1 H1 h1
            try simp only [h1]
            exact run_weak n hw h
          · cases h
        · rename_i hcall
          try simp only [hcall]
          split at h
          · rename_i pc1 L1 S1 H1 h1
            obtain ⟨L2, e1, e2⟩ := step_weak hw h1
            simp only [e1]; exact run_weak n e2 h
          · cases h
theorem Eval.weak (hw : lw L L') (h : Eval P k pc L' S H out) : Eval P k pc L S H out := by
  obtain ⟨n, h⟩ := h
  exact ⟨n, run_weak n hw h⟩
end Rules
end Jvm.OwnX
namespace Jvm.OwnX
open Sem ClassFile Op Lib Jvm.Stand Jvm.Free Jvm.LawKit Jvm.RoadKit
/-! ## tables as lists -/
def findC : List (Nat × Instr × Nat) → Nat → Option (Instr × Nat)
  | [], _ => none
  | (q, x) :: r, pc => bif Nat.beq q pc then some x else findC r pc
abbrev CodeL := List (ByteArray × List (List (Nat × Instr × Nat)))
def codeAt (cs : CodeL) (k pc : Nat) : Option (Instr × Nat) := match cs[k]? with
  | some (_, ch) => (match ch[pc / 32]? with | some c => findC c pc | none => none)
  | none => none
def bcOf (cs : CodeL) (k : Nat) : ByteArray := match cs[k]? with | some (b, _) => b | none => ⟨#[]⟩
def okI (b : ByteArray) (e : Nat × Instr × Nat) : Bool := match decode b e.1 with
  | .ok (i, len) => decide (i = e.2.1) && Nat.beq (e.1 + len) e.2.2 && (Nat.beq (ilen i) 0 || Nat.beq len (ilen i))
  | _ => false
def okCs (cs : CodeL) : Bool := cs.all fun m => m.2.all fun c => c.all (okI m.1)
def tyCs (ty : ArrayType → Bool) (cs : CodeL) : Bool := cs.all fun m => m.2.all fun c => c.all fun e => match e.2.1 with | .newarray t => ty t | _ => true
theorem findC_mem : ∀ {l : List (Nat × Instr × Nat)} {pc : Nat} {x : Instr × Nat}, findC l pc = some x → (pc, x) ∈ l
  | [], pc, x, h => by cases h
  | (q, y) :: r, pc, x, h => by
    unfold findC at h
    cases hb : Nat.beq q pc
    · rw [hb] at h; exact List.mem_cons_of_mem _ (findC_mem h)
    · rw [hb] at h; cases h
      have : q = pc := Nat.eq_of_beq_eq_true hb
      subst this; exact List.mem_cons_self ..
theorem codeAt_mem {cs : CodeL} {k pc : Nat} {x : Instr × Nat} (h : codeAt cs k pc = some x) : ∃ m ∈ cs, bcOf cs k = m.1 ∧ ∃ c ∈ m.2, (pc, x) ∈ c := by
  unfold codeAt at h
  split at h
  · rename_i b ch hk
    split at h
    · rename_i c hc
      exact ⟨(b, ch), List.mem_of_getElem? hk, by simp [bcOf, hk], c, List.mem_of_getElem? hc, findC_mem h⟩
    · cases h
  · cases h
theorem code_ok {cs : CodeL} (h : okCs cs = true) {k pc : Nat} {i : Instr} {np : Nat} (hc : codeAt cs k pc = some (i, np)) : ∃ len, decode (bcOf cs k) pc = .ok (i, len) ∧ np = pc + len ∧ (ilen i = 0 ∨ len = ilen i) := by
  obtain ⟨m, h1, h2, c, h3, h4⟩ := codeAt_mem hc
  have q := List.all_eq_true.mp (List.all_eq_true.mp (List.all_eq_true.mp h m h1) c h3) _ h4
  unfold okI at q
  rw [h2]
  split at q
  · rename_i i' len hd
    simp only [Bool.and_eq_true, Bool.or_eq_true, decide_eq_true_eq] at q
    obtain ⟨⟨rfl, q2⟩, q3⟩ := q
    refine ⟨len, hd, (Nat.eq_of_beq_eq_true q2).symm, q3.elim (fun z => Or.inl (Nat.eq_of_beq_eq_true z)) fun z => Or.inr (Nat.eq_of_beq_eq_true z)⟩
  · cases q
theorem code_ty {ty : ArrayType → Bool} {cs : CodeL} (h : tyCs ty cs = true) {k pc : Nat} {t : ArrayType} {np : Nat} (hc : codeAt cs k pc = some (.newarray t, np)) : ty t = true := by
  obtain ⟨m, h1, h2, c, h3, h4⟩ := codeAt_mem hc
  exact List.all_eq_true.mp (List.all_eq_true.mp (List.all_eq_true.mp h m h1) c h3) _ h4
def lookT {α : Type} : List (Nat × Nat × α) → Nat → Nat → Option α
  | [], _, _ => none
  | (c', j', x) :: r, c, j => bif Nat.beq j' j && Nat.beq c' c then some x else lookT r c j
theorem lookT_mem {α : Type} : ∀ {l : List (Nat × Nat × α)} {c j : Nat} {x : α}, lookT l c j = some x → (c, j, x) ∈ l
  | [], c, j, x, h => by cases h
  | (c', j', y) :: r, c, j, x, h => by
    unfold lookT at h
    cases hb : (Nat.beq j' j && Nat.beq c' c)
    · rw [hb] at h; exact List.mem_cons_of_mem _ (lookT_mem h)
    · rw [hb] at h; cases h
      simp only [Bool.and_eq_true] at hb
      have h1 : j' = j := Nat.eq_of_beq_eq_true hb.1
      have h2 : c' = c := Nat.eq_of_beq_eq_true hb.2
      subst h1 h2; exact List.mem_cons_self ..
def AllP {α : Type} (p : α → Prop) : List α → Prop
  | [] => True
  | a :: r => p a ∧ AllP p r
theorem AllP.mem {α : Type} {p : α → Prop} : ∀ {l : List α}, AllP p l → ∀ a ∈ l, p a
  | [], _, a, h => nomatch h
  | _ :: _, ⟨h1, h2⟩, a, h => (List.mem_cons.mp h).elim (fun e => e ▸ h1) (AllP.mem h2 a)
def FldOk (P : Prog) (cn : Nat → String) (C : String) (Z : State) (a0 : Array Value) (e : Nat × Nat × Nat) : Prop := ∃ n d t fin, P.fields[e.2.2]? = some (n, d, t, fin) ∧ (Cond.fieldLink (cn e.1) e.2.1 C n d).before a0 Z = true
def FieldOk (C : String) (Z : State) (a0 : Array Value) (e : String × String × Nat × Bool) : Prop := (bif e.2.2.2 then (Cond.laysFinal C C e.1 e.2.1).before a0 Z else (Cond.lays C C e.1 e.2.1).before a0 Z) = true ∧ ∃ ty, parseFieldDescriptor e.2.1 = some ty ∧ tyOk e.2.2.1 ty = true ∧ defaultValue ty = dflt e.2.2.1
theorem good_of {cs : CodeL} {mi : Nat → MI} {links : List (Nat × Nat × Nat × Nat)} {flds : List (Nat × Nat × Nat)} {kons : List (Nat × Nat × Value)} {fields : List (String × String × Nat × Bool)} {objN ro cc cS : Nat} {nm : Nat → MethodName} {cn : Nat → String} {C : String} {Z : State} {a0 : Array Value} {ty : ArrayType → Bool} {P : Prog}
    (hP : P = (codeAt cs, mi, lookT links, lookT flds, lookT kons, fields, objN, ro, cc, cS)) (h1 : okCs cs = true) (h2 : AllP (FldOk P cn C Z a0) flds) (h3 : AllP (FieldOk C Z a0) fields) (h4 : (fields.map (·.1)).Nodup) (h5 : AllP (fun e => KonOk cn Z a0 e.1 e.2.1 e.2.2) kons)
    (h6 : (Cond.instantiable C objN).before a0 Z = true) (h7 : (Cond.initialized C).before a0 Z = true) (h8 : tyCs ty cs = true) (h8' : ∀ t, ty t = true → (Cond.arrayClass (newarray.typeOf t)).before a0 Z = true) (h9 : AllP (fun e => LinkOk P nm (bcOf cs) cn C Z a0 e.1 e.2.1 e.2.2.1 e.2.2.2) links) : Good P nm (bcOf cs) cn C Z a0 := by
  subst hP
  refine ⟨fun k pc i np h => code_ok h1 h, fun c j f h => h2.mem _ (lookT_mem h), fun f n d t fin h => h3.mem _ (List.mem_of_getElem? h), fun f g n d t fin n' d' t' fin' q1 q2 ne e => ?_, fun c j v h => h5.mem _ (lookT_mem h), h6, h7, fun k pc t np h => h8' _ (code_ty h8 h), fun c j q k h => h9.mem _ (lookT_mem h)⟩
  subst e
  have e1 : (fields.map (·.1))[f]? = some n := by rw [List.getElem?_map]; exact congrArg (Option.map (·.1)) q1
  have e2 : (fields.map (·.1))[g]? = some n := by rw [List.getElem?_map]; exact congrArg (Option.map (·.1)) q2
  exact ne ((List.getElem?_inj (List.getElem?_eq_some_iff.mp e1).1 h4).mp (e1.trans e2.symm))
/-! ## what the walks of functions use -/
theorem ite_some {α : Type} {c : Prop} [Decidable c] {a : Option α} {r : α} (h : (if c then a else none) = some r) : c ∧ a = some r := by
  by_cases hc : c
  · rw [if_pos hc] at h; exact ⟨hc, h⟩
  · rw [if_neg hc] at h; cases h
theorem ite_none {α : Type} {c : Prop} [Decidable c] {a : Option α} {r : α} (h : (if c then none else a) = some r) : ¬ c ∧ a = some r := by
  by_cases hc : c
  · rw [if_pos hc] at h; cases h
  · rw [if_neg hc] at h; exact ⟨hc, h⟩
theorem bind_some {α β : Type} {o : Option α} {f : α → Option β} {r : β} (h : o.bind f = some r) : ∃ a, o = some a ∧ f a = some r := Option.bind_eq_some_iff.mp h
section Calls
variable {P : Prog} {k pc np : Nat} {L L' : ALoc} {S S' : List Value} {H H1 : AHeap} {out : Option Value × AHeap} {i : Instr} {k' : Nat} {as rest : List Value}
theorem Eval.callI {x : Int32} (hc : P.code k pc = some (i, np)) (h2 : callV P k i S H = some (k', as, rest)) (he : Eval P k' 0 (entry P k' as) [] H (some (.int x), H1)) (h : Eval P k np L (.int x :: rest) H1 out) : Eval P k pc L S H out := Eval.call hc h2 he h
theorem Eval.callJ {x : Int64} (hc : P.code k pc = some (i, np)) (h2 : callV P k i S H = some (k', as, rest)) (he : Eval P k' 0 (entry P k' as) [] H (some (.long x), H1)) (h : Eval P k np L (.long x :: rest) H1 out) : Eval P k pc L S H out := Eval.call hc h2 he h
theorem Eval.callN (hc : P.code k pc = some (i, np)) (h2 : callV P k i S H = some (k', as, rest)) (he : Eval P k' 0 (entry P k' as) [] H (none, H1)) (h : Eval P k np L rest H1 out) : Eval P k pc L S H out := Eval.call hc h2 he h
theorem Eval.conv (h : Eval P k pc L S H out) (e1 : L = L') (e2 : S = S') : Eval P k pc L' S' H out := e1 ▸ e2 ▸ h
end Calls
end Jvm.OwnX
namespace Jvm.OwnX
open Sem ClassFile Op Lib Jvm.Stand Jvm.Free Jvm.LawKit Jvm.RoadKit
theorem HR.none (P : Prog) (C : String) (Z : State) (n0 : Nat) (h : Heap) : HR P C Z n0 [] [] h := ⟨rfl, fun i j a q => by simp at q, fun i a q => by simp at q, fun i c q => by simp at q⟩
def intOf : Value → Int32
  | .int x => x
  | _ => 0
theorem script_start {P : Prog} {C : String} {s : State} {a : Addr} {c : Cell} (hro : P.ro = 1) (hf : Fit s) (A : Arr s s.heap a c .int) : HR P C s s.heap.size [a] [.inr (.inl (0, c.slots.toList.map intOf))] s.heap := by
  have hlt := (Array.getElem?_eq_some_iff.mp A.1).1
  have hint : ∀ i (hi : i < c.slots.size), ∃ x, c.slots[i] = .int x := fun i hi => by
    have q := hf A.1 hi
    obtain ⟨hs, k, hk, comp, hkind⟩ := A.2.1
    have e : s.slotType? c.cls c.vm i = some .int := by
      cases hq : c.vm <;> first | exact absurd hq (hs _) | simp [State.slotType?, hk, hkind]
    have q2 : fits .int c.slots[i] = true := by simpa [State.fitsSlot, e] using q
    exact fit_I q2 (Or.inl rfl)
  refine ⟨rfl, fun i j x q1 q2 => ?_, fun i x q => ?_, fun i d q => ?_⟩
  · cases i with
    | zero => cases j with
      | zero => rfl
      | succ j => simp at q2
    | succ i => simp at q1
  · cases i with
    | zero => simp at q; subst q; exact ⟨hlt, fun h => by rw [hro] at h; omega⟩
    | succ i => simp at q
  · cases i with
    | zero =>
      simp at q; subst q
      refine ⟨a, rfl, c, A, by simp, fun j x hx => ?_⟩
      rw [List.getElem?_map] at hx
      obtain ⟨v, hv, rfl⟩ := Option.map_eq_some_iff.mp hx
      rw [Array.getElem?_toList] at hv
      obtain ⟨hj, rfl⟩ := Array.getElem?_eq_some_iff.mp hv
      obtain ⟨x, e⟩ := hint j hj
      rw [Array.getElem?_eq_getElem hj, e]; rfl
    | succ i => simp at q
end Jvm.OwnX
namespace Jvm.OwnX
/-! ## plain facts on the functions' words -/
theorem len_wr (xs : List Int32) (j v : Int32) : (wr xs j v).length = xs.length := by simp [wr]
theorem len_wrL (xs : List Int64) (j : Int32) (v : Int64) : (wrL xs j v).length = xs.length := by simp [wrL]
theorem rd_wr_same {xs : List Int32} {j : Int32} (h : inb xs.length j = true) (v : Int32) : rd (wr xs j v) j = v := by
  have := inb_lt h
  simp [rd, wr, List.getD_eq_getElem?_getD, this]
theorem rdL_wrL_same {xs : List Int64} {j : Int32} (h : inb xs.length j = true) (v : Int64) : rdL (wrL xs j v) j = v := by
  have := inb_lt h
  simp [rdL, wrL, List.getD_eq_getElem?_getD, this]
theorem nat_inj {i j : Int32} (hi : ¬ i < 0) (hj : ¬ j < 0) (h : i.toNatClampNeg = j.toNatClampNeg) : i = j := by
  apply Int32.toInt_inj.mp
  simp only [Int32.lt_iff_toInt_lt, Int32.toNatClampNeg, Int32.reduceToInt] at hi hj h; omega
theorem inb_nn {n : Nat} {j : Int32} (h : inb n j = true) : ¬ j < 0 := fun q => inb_spec h (Or.inl q)
theorem rd_wr_ne {xs : List Int32} {i j : Int32} (hi : ¬ i < 0) (hj : ¬ j < 0) (h : i ≠ j) (v : Int32) : rd (wr xs i v) j = rd xs j := by
  have : i.toNatClampNeg ≠ j.toNatClampNeg := fun q => h (nat_inj hi hj q)
  simp [rd, wr, List.getD_eq_getElem?_getD, List.getElem?_set_ne this]
theorem rdL_wrL_ne {xs : List Int64} {i j : Int32} (hi : ¬ i < 0) (hj : ¬ j < 0) (h : i ≠ j) (v : Int64) : rdL (wrL xs i v) j = rdL xs j := by
  have : i.toNatClampNeg ≠ j.toNatClampNeg := fun q => h (nat_inj hi hj q)
  simp [rdL, wrL, List.getD_eq_getElem?_getD, List.getElem?_set_ne this]
theorem rd_rep (n : Nat) (j : Int32) : rd (List.replicate n 0) j = 0 := by
  simp only [rd, List.getD_eq_getElem?_getD, List.getElem?_replicate]; split <;> rfl
theorem rdL_rep (n : Nat) (j : Int32) : rdL (List.replicate n 0) j = 0 := by
  simp only [rdL, List.getD_eq_getElem?_getD, List.getElem?_replicate]; split <;> rfl
theorem inb_iff {n : Nat} {j : Int32} : inb n j = true ↔ 0 ≤ j.toInt ∧ j.toInt < n := by
  simp only [inb, Bool.and_eq_true, Bool.not_eq_true', decide_eq_false_iff_not, Int32.lt_iff_toInt_lt, Int32.reduceToInt]
  constructor
  · rintro ⟨h1, h2⟩
    have h3 := Nat.le_of_ble_eq_true h2
    simp only [Int32.toNatClampNeg] at h3
    omega
  · rintro ⟨h1, h2⟩
    refine ⟨by omega, Nat.ble_eq_true_of_le ?_⟩
    simp only [Int32.toNatClampNeg]; omega
theorem lt32 {x y : Int32} : x < y ↔ x.toInt < y.toInt := Int32.lt_iff_toInt_lt
theorem eq32 {x y : Int32} : x = y ↔ x.toInt = y.toInt := Int32.toInt_inj.symm
end Jvm.OwnX
namespace Jvm.Pilot.@@N@@
open Jvm Jvm.ClassFile Sem Op Lib Jvm.Free Jvm.Stand Jvm.LawKit Jvm.RoadKit Bundle Jvm.Pilot.@@N@@.Jvm.D Jvm.OwnX
/-! # tables (printed by gen.py out of the claim's listing and sheet) -/
def own_cs : CodeL := [
  (code, [
    [(0, .new 7, 3), (3, .dup, 4), (4, .iconst 2, 5), (5, .iload_n 0, 6), (6, .iconst 0, 7), (7, .invokespecial 9, 10), (10, .astore 6, 12), (12, .iload_n 0, 13), (13, .iconst 1, 14), (14, .if_icmp .ge 7, 17), (17, .iconst 1, 18), (18, .goto 13, 21), (21, .iload_n 0, 22), (22, .iconst 4, 23), (23, .if_icmp .le 7, 26), (26, .iconst 4, 27), (27, .goto 4, 30), (30, .iload_n 0, 31), (31, .istore 7, 33)],
    [(33, .iload_n 1, 34), (34, .ifCond .lt 13, 37), (37, .iload_n 1, 38), (38, .iload 7, 40), (40, .if_icmp .ge 7, 43), (43, .iconst 1, 44), (44, .goto 4, 47), (47, .iconst 0, 48), (48, .istore 8, 50), (50, .iload_n 2, 51), (51, .iconst 1, 52), (52, .if_icmp .ne 7, 55), (55, .iconst 1, 56), (56, .goto 4, 59), (59, .iconst 0, 60), (60, .istore 9, 62), (62, .iload 8, 64)],
    [(64, .ifCond .eq 17, 67), (67, .iload 9, 69), (69, .ifCond .ne 8, 72), (72, .iload_n 2, 73), (73, .iconst 2, 74), (74, .if_icmp .ne 7, 77), (77, .iconst 1, 78), (78, .goto 4, 81), (81, .iconst 0, 82), (82, .istore 10, 84), (84, .iload 9, 86), (86, .ifCond .eq 23, 89), (89, .iload 4, 91), (91, .iconst 1, 92), (92, .if_icmp .eq 9, 95), (95, .iload 4, 97)],
    [(97, .iconst 2, 98), (98, .if_icmp .ne 7, 101), (101, .iconst 1, 102), (102, .goto 24, 105), (105, .iconst 0, 106), (106, .goto 20, 109), (109, .iload 4, 111), (111, .iconst 1, 112), (112, .if_icmp .eq 9, 115), (115, .iload 4, 117), (117, .iconst 3, 118), (118, .if_icmp .ne 7, 121), (121, .iconst 1, 122), (122, .goto 4, 125), (125, .iconst 0, 126), (126, .istore 11, 128)],
    [(128, .iload 10, 130), (130, .ifCond .eq 12, 133), (133, .iload 11, 135), (135, .ifCond .eq 7, 138), (138, .iconst 1, 139), (139, .goto 4, 142), (142, .iconst 0, 143), (143, .istore 12, 145), (145, .aload 6, 147), (147, .iload_n 1, 148), (148, .iload_n 2, 149), (149, .iload_n 3, 150), (150, .invokevirtual 12, 153), (153, .istore 13, 155), (155, .aload 6, 157), (157, .iload_n 1, 158), (158, .iload 4, 160)],
    [(160, .iload 5, 162), (162, .invokevirtual 16, 165), (165, .istore 14, 167), (167, .aload 6, 169), (169, .invokevirtual 19, 172), (172, .istore 15, 174), (174, .aload 6, 176), (176, .iconst 0, 177), (177, .invokevirtual 23, 180), (180, .istore 16, 182), (182, .aload 6, 184), (184, .iconst 0, 185), (185, .invokevirtual 27, 188), (188, .istore 17, 190), (190, .aload 6, 192)],
    [(192, .iconst 1, 193), (193, .invokevirtual 23, 196), (196, .istore 18, 198), (198, .aload 6, 200), (200, .iconst 1, 201), (201, .invokevirtual 27, 204), (204, .istore 19, 206), (206, .aload 6, 208), (208, .iload_n 1, 209), (209, .invokevirtual 30, 212), (212, .istore 20, 214), (214, .aload 6, 216), (216, .iload_n 1, 217), (217, .invokevirtual 33, 220), (220, .istore 21, 222), (222, .iload 4, 224)],
    [(224, .iconst 1, 225), (225, .if_icmp .ne 7, 228), (228, .iconst 3, 229), (229, .goto 14, 232), (232, .iload 4, 234), (234, .iconst 2, 235), (235, .if_icmp .ne 7, 238), (238, .iconst 4, 239), (239, .goto 4, 242), (242, .iconst 5, 243), (243, .istore 22, 245), (245, .iload 10, 247), (247, .ifCond .eq 7, 250), (250, .iconst 1, 251), (251, .goto 4, 254), (254, .iconst 0, 255), (255, .iload 12, 257)],
    [(257, .ifCond .eq 7, 260), (260, .iconst 1, 261), (261, .goto 4, 264), (264, .iconst 0, 265), (265, .iadd, 266), (266, .istore 23, 268), (268, .iload 10, 270), (270, .ifCond .eq 21, 273), (273, .iload 9, 275), (275, .ifCond .eq 7, 278), (278, .iconst 1, 279), (279, .goto 4, 282), (282, .iconst 2, 283), (283, .bipush 16, 285), (285, .imul, 286), (286, .iload_n 1, 287), (287, .iadd, 288)],
    [(288, .goto 4, 291), (291, .iconst 0, 292), (292, .istore 24, 294), (294, .iload 10, 296), (296, .ifCond .eq 12, 299), (299, .iload 9, 301), (301, .ifCond .eq 7, 304), (304, .iload_n 3, 305), (305, .goto 4, 308), (308, .iconst 0, 309), (309, .istore 25, 311), (311, .iload 12, 313), (313, .ifCond .eq 13, 316), (316, .iload 22, 318), (318, .bipush 16, 320)],
    [(320, .imul, 321), (321, .iload_n 1, 322), (322, .iadd, 323), (323, .goto 4, 326), (326, .iconst 0, 327), (327, .istore 26, 329), (329, .iload 12, 331), (331, .ifCond .eq 19, 334), (334, .iload 9, 336), (336, .ifCond .ne 14, 339), (339, .iload 4, 341), (341, .iconst 1, 342), (342, .if_icmp .ne 8, 345), (345, .iload 5, 347), (347, .goto 4, 350), (350, .iconst 0, 351), (351, .istore 27, 353)],
    [(353, .iload 8, 355), (355, .ifCond .ne 7, 358), (358, .iconst (-1), 359), (359, .goto 18, 362), (362, .iload 10, 364), (364, .ifCond .eq 12, 367), (367, .iload 12, 369), (369, .ifCond .ne 7, 372), (372, .iconst 1, 373), (373, .goto 4, 376), (376, .iconst 0, 377), (377, .istore 28, 379), (379, .iload 8, 381), (381, .ifCond .eq 7, 384)],
    [(384, .iconst 0, 385), (385, .goto 4, 388), (388, .iconst (-1), 389), (389, .istore 29, 391), (391, .iload 13, 393), (393, .iload 10, 395), (395, .if_icmp .ne 63, 398), (398, .iload 14, 400), (400, .iload 12, 402), (402, .if_icmp .ne 56, 405), (405, .iload 15, 407), (407, .iload 23, 409), (409, .if_icmp .ne 49, 412), (412, .iload 16, 414), (414, .iload 24, 416)],
    [(416, .if_icmp .ne 42, 419), (419, .iload 17, 421), (421, .iload 25, 423), (423, .if_icmp .ne 35, 426), (426, .iload 18, 428), (428, .iload 26, 430), (430, .if_icmp .ne 28, 433), (433, .iload 19, 435), (435, .iload 27, 437), (437, .if_icmp .ne 21, 440), (440, .iload 20, 442), (442, .iload 28, 444), (444, .if_icmp .ne 14, 447), (447, .iload 21, 449)],
    [(449, .iload 29, 451), (451, .if_icmp .ne 7, 454), (454, .iconst 1, 455), (455, .goto 4, 458), (458, .iconst 0, 459), (459, .ireturn, 460)]]),
  (prog_1_method_1_code, [
    [(0, .aload_n 0, 1), (1, .invokespecial 1, 4), (4, .aload_n 0, 5), (5, .bipush 8, 7), (7, .newarray .int, 9), (9, .putfield 7, 12), (12, .aload_n 0, 13), (13, .bipush 8, 15), (15, .newarray .int, 17), (17, .putfield 13, 20), (20, .aload_n 0, 21), (21, .iconst 4, 22), (22, .newarray .int, 24), (24, .putfield 16, 27), (27, .aload_n 0, 28), (28, .iconst 4, 29), (29, .newarray .int, 31), (31, .putfield 19, 34)],
    [(34, .aload_n 0, 35), (35, .iconst 4, 36), (36, .newarray .int, 38), (38, .putfield 22, 41), (41, .aload_n 0, 42), (42, .iconst 4, 43), (43, .newarray .int, 45), (45, .putfield 25, 48), (48, .aload_n 0, 49), (49, .iconst 4, 50), (50, .newarray .int, 52), (52, .putfield 28, 55), (55, .aload_n 0, 56), (56, .iconst 4, 57), (57, .newarray .int, 59), (59, .putfield 31, 62), (62, .aload_n 0, 63), (63, .bipush 64, 65)],
    [(65, .newarray .int, 67), (67, .putfield 34, 70), (70, .aload_n 0, 71), (71, .bipush 64, 73), (73, .newarray .int, 75), (75, .putfield 37, 78), (78, .aload_n 0, 79), (79, .bipush 64, 81), (81, .newarray .int, 83), (83, .putfield 40, 86), (86, .aload_n 0, 87), (87, .bipush 8, 89), (89, .newarray .int, 91), (91, .putfield 43, 94), (94, .aload_n 0, 95), (95, .bipush 6, 97)],
    [(97, .newarray .int, 99), (99, .putfield 46, 102), (102, .aload_n 0, 103), (103, .bipush 6, 105), (105, .newarray .int, 107), (107, .putfield 49, 110), (110, .aload_n 0, 111), (111, .bipush 6, 113), (113, .newarray .int, 115), (115, .putfield 52, 118), (118, .aload_n 0, 119), (119, .bipush 6, 121), (121, .newarray .int, 123), (123, .putfield 55, 126), (126, .aload_n 0, 127), (127, .bipush 6, 129)],
    [(129, .newarray .int, 131), (131, .putfield 58, 134), (134, .aload_n 0, 135), (135, .bipush 6, 137), (137, .newarray .int, 139), (139, .putfield 61, 142), (142, .aload_n 0, 143), (143, .bipush 6, 145), (145, .newarray .int, 147), (147, .putfield 64, 150), (150, .aload_n 0, 151), (151, .iconst 4, 152), (152, .newarray .int, 154), (154, .putfield 67, 157), (157, .aload_n 0, 158), (158, .bipush 56, 160)],
    [(160, .newarray .int, 162), (162, .putfield 70, 165), (165, .aload_n 0, 166), (166, .bipush 7, 168), (168, .newarray .int, 170), (170, .putfield 73, 173), (173, .aload_n 0, 174), (174, .bipush 7, 176), (176, .newarray .int, 178), (178, .putfield 76, 181), (181, .aload_n 0, 182), (182, .bipush 7, 184), (184, .newarray .int, 186), (186, .putfield 79, 189), (189, .aload_n 0, 190), (190, .iload_n 1, 191), (191, .iconst 1, 192)],
    [(192, .iconst 3, 193), (193, .invokevirtual 82, 196), (196, .istore 4, 198), (198, .aload_n 0, 199), (199, .aload_n 0, 200), (200, .iload_n 2, 201), (201, .iconst 1, 202), (202, .iconst 4, 203), (203, .invokevirtual 82, 206), (206, .putfield 86, 209), (209, .aload_n 0, 210), (210, .iload_n 3, 211), (211, .iconst 0, 212), (212, .bipush 63, 214), (214, .invokevirtual 82, 217), (217, .istore 5, 219), (219, .aload_n 0, 220), (220, .iconst 1, 221), (221, .iload 4, 223), (223, .ishl, 224)],
    [(224, .putfield 90, 227), (227, .aload_n 0, 228), (228, .aload_n 0, 229), (229, .getfield 90, 232), (232, .iconst 1, 233), (233, .isub, 234), (234, .putfield 93, 237), (237, .ldc 96, 239), (239, .iload 5, 241), (241, .iadd, 242), (242, .istore 6, 244), (244, .aload_n 0, 245), (245, .iload 6, 247), (247, .putfield 97, 250), (250, .aload_n 0, 251), (251, .iload 6, 253), (253, .putfield 100, 256)],
    [(256, .iconst 0, 257), (257, .istore 7, 259), (259, .iload 7, 261), (261, .bipush 8, 263), (263, .if_icmp .ge 41, 266), (266, .iload 7, 268), (268, .aload_n 0, 269), (269, .getfield 90, 272), (272, .if_icmp .lt 6, 275), (275, .goto 29, 278), (278, .aload_n 0, 279), (279, .getfield 7, 282), (282, .iload 6, 284), (284, .iload 7, 286), (286, .iadd, 287), (287, .aload_n 0, 288)],
    [(288, .getfield 93, 291), (291, .iand, 292), (292, .iload 6, 294), (294, .iload 7, 296), (296, .iadd, 297), (297, .iastore, 298), (298, .iinc 7 1, 301), (301, .goto (-42), 304), (304, .aload_n 0, 305), (305, .iconst 0, 306), (306, .putfield 103, 309), (309, .aload_n 0, 310), (310, .iconst 0, 311), (311, .putfield 106, 314), (314, .return_, 315)]]),
  (prog_1_method_2_code, [
    [(0, .iload_n 1, 1), (1, .iload_n 2, 2), (2, .if_icmp .ge 5, 5), (5, .iload_n 2, 6), (6, .ireturn, 7), (7, .iload_n 1, 8), (8, .iload_n 3, 9), (9, .if_icmp .le 5, 12), (12, .iload_n 3, 13), (13, .ireturn, 14), (14, .iload_n 1, 15), (15, .ireturn, 16)]]),
  (prog_1_method_21_code, [
    [(0, .aload_n 0, 1), (1, .iload_n 1, 2), (2, .invokevirtual 113, 5), (5, .ifCond .eq 13, 8), (8, .iload_n 2, 9), (9, .iconst 1, 10), (10, .if_icmp .eq 10, 13), (13, .iload_n 2, 14), (14, .iconst 2, 15), (15, .if_icmp .eq 5, 18), (18, .iconst 0, 19), (19, .ireturn, 20), (20, .aload_n 0, 21), (21, .getfield 16, 24), (24, .iload_n 1, 25), (25, .iaload, 26), (26, .ifCond .ne 10, 29), (29, .aload_n 0, 30), (30, .invokevirtual 117, 33)],
    [(33, .ifCond .ne 5, 36), (36, .iconst 0, 37), (37, .ireturn, 38), (38, .iload_n 2, 39), (39, .iconst 1, 40), (40, .if_icmp .ne 13, 43), (43, .aload_n 0, 44), (44, .iconst 1, 45), (45, .iload_n 1, 46), (46, .iload_n 3, 47), (47, .invokevirtual 121, 50), (50, .goto 10, 53), (53, .aload_n 0, 54), (54, .iconst 2, 55), (55, .iload_n 1, 56), (56, .iconst 0, 57), (57, .invokevirtual 121, 60), (60, .aload_n 0, 61), (61, .getfield 31, 64)],
    [(64, .iload_n 1, 65), (65, .iload_n 2, 66), (66, .iastore, 67), (67, .aload_n 0, 68), (68, .getfield 16, 71), (71, .iload_n 1, 72), (72, .iconst 1, 73), (73, .iastore, 74), (74, .iconst 1, 75), (75, .ireturn, 76)]]),
  (prog_1_method_3_code, [
    [(0, .iload_n 1, 1), (1, .ifCond .lt 15, 4), (4, .iload_n 1, 5), (5, .aload_n 0, 6), (6, .getfield 86, 9), (9, .if_icmp .ge 7, 12), (12, .iconst 1, 13), (13, .goto 4, 16), (16, .iconst 0, 17), (17, .ireturn, 18)]]),
  (prog_1_method_22_code, [
    [(0, .aload_n 0, 1), (1, .iload_n 1, 2), (2, .invokevirtual 113, 5), (5, .ifCond .eq 13, 8), (8, .aload_n 0, 9), (9, .getfield 16, 12), (12, .iload_n 1, 13), (13, .iaload, 14), (14, .iconst 1, 15), (15, .if_icmp .eq 5, 18), (18, .iconst 0, 19), (19, .ireturn, 20), (20, .aload_n 0, 21), (21, .getfield 31, 24), (24, .iload_n 1, 25), (25, .iaload, 26), (26, .istore 4, 28), (28, .iload_n 2, 29), (29, .iconst 1, 30), (30, .if_icmp .eq 25, 33)],
    [(33, .iload 4, 35), (35, .iconst 1, 36), (36, .if_icmp .ne 8, 39), (39, .iload_n 2, 40), (40, .iconst 2, 41), (41, .if_icmp .eq 14, 44), (44, .iload 4, 46), (46, .iconst 2, 47), (47, .if_icmp .ne 12, 50), (50, .iload_n 2, 51), (51, .iconst 3, 52), (52, .if_icmp .ne 7, 55), (55, .iconst 1, 56), (56, .goto 4, 59), (59, .iconst 0, 60), (60, .istore 5, 62), (62, .iload 5, 64)],
    [(64, .ifCond .ne 5, 67), (67, .iconst 0, 68), (68, .ireturn, 69), (69, .iload 4, 71), (71, .iconst 2, 72), (72, .if_icmp .ne 12, 75), (75, .iload_n 2, 76), (76, .iconst 1, 77), (77, .if_icmp .ne 7, 80), (80, .iload_n 3, 81), (81, .goto 4, 84), (84, .iconst 0, 85), (85, .istore 6, 87), (87, .aload_n 0, 88), (88, .iload_n 2, 89), (89, .invokevirtual 138, 92), (92, .istore 7, 94), (94, .aload_n 0, 95), (95, .iload 7, 97)],
    [(97, .iload_n 1, 98), (98, .iload 6, 100), (100, .invokevirtual 121, 103), (103, .aload_n 0, 104), (104, .getfield 16, 107), (107, .iload_n 1, 108), (108, .iconst 0, 109), (109, .iastore, 110), (110, .iconst 1, 111), (111, .ireturn, 112)]]),
  (prog_1_method_24_code, [
    [(0, .aload_n 0, 1), (1, .getfield 103, 4), (4, .ireturn, 5)]]),
  (prog_1_method_25_code, [
    [(0, .iload_n 1, 1), (1, .ifCond .lt 34, 4), (4, .iload_n 1, 5), (5, .aload_n 0, 6), (6, .getfield 103, 9), (9, .if_icmp .ge 26, 12), (12, .iload_n 1, 13), (13, .bipush 64, 15), (15, .if_icmp .ge 20, 18), (18, .aload_n 0, 19), (19, .getfield 34, 22), (22, .iload_n 1, 23), (23, .iaload, 24), (24, .bipush 16, 26), (26, .imul, 27), (27, .aload_n 0, 28), (28, .getfield 37, 31), (31, .iload_n 1, 32)],
    [(32, .iaload, 33), (33, .iadd, 34), (34, .ireturn, 35), (35, .iconst 0, 36), (36, .ireturn, 37)]]),
  (prog_1_method_26_code, [
    [(0, .iload_n 1, 1), (1, .ifCond .lt 24, 4), (4, .iload_n 1, 5), (5, .aload_n 0, 6), (6, .getfield 103, 9), (9, .if_icmp .ge 16, 12), (12, .iload_n 1, 13), (13, .bipush 64, 15), (15, .if_icmp .ge 10, 18), (18, .aload_n 0, 19), (19, .getfield 40, 22), (22, .iload_n 1, 23), (23, .iaload, 24), (24, .ireturn, 25), (25, .iconst 0, 26), (26, .ireturn, 27)]]),
  (prog_1_method_16_code, [
    [(0, .aload_n 0, 1), (1, .iload_n 1, 2), (2, .invokevirtual 113, 5), (5, .ifCond .eq 12, 8), (8, .aload_n 0, 9), (9, .getfield 16, 12), (12, .iload_n 1, 13), (13, .iaload, 14), (14, .goto 4, 17), (17, .iconst (-1), 18), (18, .ireturn, 19)]]),
  (prog_1_method_17_code, [
    [(0, .aload_n 0, 1), (1, .iload_n 1, 2), (2, .invokevirtual 113, 5), (5, .ifCond .eq 12, 8), (8, .aload_n 0, 9), (9, .getfield 25, 12), (12, .iload_n 1, 13), (13, .iaload, 14), (14, .goto 4, 17), (17, .iconst (-1), 18), (18, .ireturn, 19)]]),
  (prog_1_method_5_code, [
    [(0, .aload_n 0, 1), (1, .invokevirtual 109, 4), (4, .istore_n 1, 5), (5, .aload_n 0, 6), (6, .getfield 103, 9), (9, .iload_n 1, 10), (10, .iadd, 11), (11, .iconst 2, 12), (12, .iadd, 13), (13, .bipush 64, 15), (15, .if_icmp .gt 7, 18), (18, .iconst 1, 19), (19, .goto 4, 22), (22, .iconst 0, 23), (23, .ireturn, 24)]]),
  (prog_1_method_4_code, [
    [(0, .iconst 0, 1), (1, .istore_n 1, 2), (2, .iconst 0, 3), (3, .istore_n 2, 4), (4, .iload_n 2, 5), (5, .iconst 4, 6), (6, .if_icmp .ge 29, 9), (9, .iload_n 2, 10), (10, .aload_n 0, 11), (11, .getfield 86, 14), (14, .if_icmp .ge 15, 17), (17, .aload_n 0, 18), (18, .getfield 16, 21), (21, .iload_n 2, 22), (22, .iaload, 23), (23, .ifCond .eq 6, 26), (26, .iinc 1 1, 29), (29, .iinc 2 1, 32)],
    [(32, .goto (-28), 35), (35, .iload_n 1, 36), (36, .ireturn, 37)]]),
  (prog_1_method_6_code, [
    [(0, .aload_n 0, 1), (1, .getfield 103, 4), (4, .ifCond .lt 52, 7), (7, .aload_n 0, 8), (8, .getfield 103, 11), (11, .bipush 64, 13), (13, .if_icmp .ge 43, 16), (16, .aload_n 0, 17), (17, .getfield 34, 20), (20, .aload_n 0, 21), (21, .getfield 103, 24), (24, .iload_n 1, 25), (25, .iastore, 26), (26, .aload_n 0, 27), (27, .getfield 37, 30), (30, .aload_n 0, 31), (31, .getfield 103, 34)],
    [(34, .iload_n 2, 35), (35, .iastore, 36), (36, .aload_n 0, 37), (37, .getfield 40, 40), (40, .aload_n 0, 41), (41, .getfield 103, 44), (44, .iload_n 3, 45), (45, .iastore, 46), (46, .aload_n 0, 47), (47, .dup, 48), (48, .getfield 103, 51), (51, .iconst 1, 52), (52, .iadd, 53), (53, .putfield 103, 56), (56, .return_, 57)]]),
  (prog_1_method_7_code, [
    [(0, .iload_n 1, 1), (1, .iconst 2, 2), (2, .if_icmp .ne 5, 5), (5, .iconst 4, 6), (6, .ireturn, 7), (7, .iload_n 1, 8), (8, .iconst 3, 9), (9, .if_icmp .ne 5, 12), (12, .iconst 5, 13), (13, .ireturn, 14), (14, .iconst 3, 15), (15, .ireturn, 16)]])]
def own_mis : List MI := [(0, 30, 6, some .boolean, false, 6, 144), (1, 8, 4, none, true, 1, 16), (1, 4, 4, some .int, false, 0, 0), (1, 4, 4, some .boolean, false, 2, 27), (1, 2, 2, some .boolean, false, 0, 0), (1, 8, 4, some .boolean, false, 1, 15), (1, 1, 1, some .int, false, 0, 0), (1, 2, 2, some .int, false, 0, 0), (1, 2, 2, some .int, false, 0, 0), (1, 2, 2, some .int, false, 1, 13), (1, 2, 2, some .int, false, 1, 13), (1, 2, 1, some .boolean, false, 1, 14), (1, 3, 1, some .int, false, 0, 0), (1, 4, 4, none, false, 0, 0), (1, 2, 2, some .int, false, 0, 0)]
def own_links : List (Nat × Nat × Nat × Nat) := [(0, 9, 1, 1), (1, 1, 4, 0), (1, 82, 3, 2), (0, 12, 2, 3), (1, 113, 3, 4), (0, 16, 2, 5), (0, 19, 2, 6), (0, 23, 2, 7), (0, 27, 2, 8), (0, 30, 2, 9), (0, 33, 2, 10), (1, 117, 3, 11), (1, 109, 3, 12), (1, 121, 3, 13), (1, 138, 3, 14), (0, 7, 5, 0)]
def own_flds : List (Nat × Nat × Nat) := [(1, 7, 0), (1, 13, 1), (1, 16, 2), (1, 19, 3), (1, 22, 4), (1, 25, 5), (1, 28, 6), (1, 31, 7), (1, 34, 8), (1, 37, 9), (1, 40, 10), (1, 43, 11), (1, 46, 12), (1, 49, 13), (1, 52, 14), (1, 55, 15), (1, 58, 16), (1, 61, 17), (1, 64, 18), (1, 67, 19), (1, 70, 20), (1, 73, 21), (1, 76, 22), (1, 79, 23), (1, 86, 24), (1, 90, 25), (1, 93, 26), (1, 97, 27), (1, 100, 28), (1, 103, 29), (1, 106, 30)]
def own_kons : List (Nat × Nat × Value) := [(1, 96, .int (2147483584))]
def own_fields : List (String × String × Nat × Bool) := [("seq", "[I", 3, false), ("val", "[I", 3, false), ("st", "[I", 3, false), ("locP", "[I", 3, false), ("locV", "[I", 3, false), ("lastSt", "[I", 3, false), ("lastVal", "[I", 3, false), ("logKind", "[I", 3, false), ("evKind", "[I", 3, false), ("evThread", "[I", 3, false), ("evVal", "[I", 3, false), ("snap", "[I", 3, false), ("opKind", "[I", 3, false), ("opArg", "[I", 3, false), ("opInv", "[I", 3, false), ("opRes", "[I", 3, false), ("opStatus", "[I", 3, false), ("opRVal", "[I", 3, false), ("predMask", "[I", 3, false), ("openOp", "[I", 3, false), ("qBuf", "[I", 3, false), ("qLen", "[I", 3, false), ("nextCand", "[I", 3, false), ("chosen", "[I", 3, false), ("nThreads", "I", 0, false), ("cap", "I", 0, false), ("mask", "I", 0, false), ("head", "I", 0, false), ("tail", "I", 0, false), ("histLen", "I", 0, false), ("snapLen", "I", 0, false)]
def own_P : Prog := (codeAt own_cs, fun k => own_mis.getD k (0, 0, 0, none, false, 0, 0), lookT own_links, lookT own_flds, lookT own_kons, own_fields, 33, 0, 64, 896)
def own_nms : List MethodName := [⟨"SeqRingQueueL2", "law", "(IIIIII)Z"⟩, ⟨"SeqRingQueue", "<init>", "(III)V"⟩, ⟨"SeqRingQueue", "clamp", "(III)I"⟩, ⟨"SeqRingQueue", "logInvoke", "(III)Z"⟩, ⟨"SeqRingQueue", "valid", "(I)Z"⟩, ⟨"SeqRingQueue", "logResponse", "(III)Z"⟩, ⟨"SeqRingQueue", "historyLength", "()I"⟩, ⟨"SeqRingQueue", "historyEvent", "(I)I"⟩, ⟨"SeqRingQueue", "historyValue", "(I)I"⟩, ⟨"SeqRingQueue", "state", "(I)I"⟩, ⟨"SeqRingQueue", "lastStatus", "(I)I"⟩, ⟨"SeqRingQueue", "hasRoom", "()Z"⟩, ⟨"SeqRingQueue", "pending", "()I"⟩, ⟨"SeqRingQueue", "append", "(III)V"⟩, ⟨"SeqRingQueue", "resKind", "(I)I"⟩]
def own_nm (k : Nat) : MethodName := own_nms.getD k ⟨"", "", ""⟩
def own_cn (c : Nat) : String := match c with | 0 => "SeqRingQueueL2" | _ => "SeqRingQueue"
theorem own_pn0 : plainName "SeqRingQueueL2" = true := by first | (simp [plainName, overriddenIn]; done) | decide +kernel
theorem own_pn1 : plainName "SeqRingQueue" = true := by first | (simp [plainName, overriddenIn]; done) | decide +kernel
theorem own_ne0 : "SeqRingQueueL2" ≠ "java/lang/invoke/MethodHandle" ∧ "SeqRingQueueL2" ≠ "java/lang/invoke/VarHandle" := by decide
theorem own_ne1 : "SeqRingQueue" ≠ "java/lang/invoke/MethodHandle" ∧ "SeqRingQueue" ≠ "java/lang/invoke/VarHandle" := by decide
theorem own_pd0 : parseMethodDescriptor "(III)V" = some ⟨[.int, .int, .int], none⟩ := by decide +kernel
theorem own_pd1 : parseMethodDescriptor "(III)I" = some ⟨[.int, .int, .int], some .int⟩ := by decide +kernel
theorem own_pd2 : parseMethodDescriptor "(III)Z" = some ⟨[.int, .int, .int], some .boolean⟩ := by decide +kernel
theorem own_pd3 : parseMethodDescriptor "(I)Z" = some ⟨[.int], some .boolean⟩ := by decide +kernel
theorem own_pd4 : parseMethodDescriptor "()I" = some ⟨[], some .int⟩ := by decide +kernel
theorem own_pd5 : parseMethodDescriptor "(I)I" = some ⟨[.int], some .int⟩ := by decide +kernel
theorem own_pd6 : parseMethodDescriptor "()Z" = some ⟨[], some .boolean⟩ := by decide +kernel
set_option maxRecDepth 100000 in
theorem own_okcs : okCs own_cs = true := by decide +kernel
def own_ty (t : ArrayType) : Bool := decide (t = .int)
theorem own_tyok : tyCs own_ty own_cs = true := by decide +kernel
theorem own_nodup : (own_fields.map (·.1)).Nodup := by decide +kernel
set_option maxRecDepth 100000 in
set_option maxHeartbeats 4000000 in
theorem own_good {Z : State} {a0 : Array Value} (hw : ∀ d ∈ tables_1, d.before a0 Z = true) : Good own_P own_nm (bcOf own_cs) own_cn "SeqRingQueue" Z a0 := by
  refine good_of (ty := own_ty) rfl own_okcs ?_ ?_ own_nodup ?_ (hw _ (List.mem_of_getElem? (i := 1) rfl)) (hw _ (List.mem_of_getElem? (i := 2) rfl)) own_tyok ?_ ?_
  · exact ⟨⟨_, _, _, _, rfl, (hw _ (List.mem_of_getElem? (i := 10) rfl))⟩,
      ⟨_, _, _, _, rfl, (hw _ (List.mem_of_getElem? (i := 12) rfl))⟩,
      ⟨_, _, _, _, rfl, (hw _ (List.mem_of_getElem? (i := 14) rfl))⟩,
      ⟨_, _, _, _, rfl, (hw _ (List.mem_of_getElem? (i := 16) rfl))⟩,
      ⟨_, _, _, _, rfl, (hw _ (List.mem_of_getElem? (i := 18) rfl))⟩,
      ⟨_, _, _, _, rfl, (hw _ (List.mem_of_getElem? (i := 20) rfl))⟩,
      ⟨_, _, _, _, rfl, (hw _ (List.mem_of_getElem? (i := 22) rfl))⟩,
      ⟨_, _, _, _, rfl, (hw _ (List.mem_of_getElem? (i := 24) rfl))⟩,
      ⟨_, _, _, _, rfl, (hw _ (List.mem_of_getElem? (i := 26) rfl))⟩,
      ⟨_, _, _, _, rfl, (hw _ (List.mem_of_getElem? (i := 28) rfl))⟩,
      ⟨_, _, _, _, rfl, (hw _ (List.mem_of_getElem? (i := 30) rfl))⟩,
      ⟨_, _, _, _, rfl, (hw _ (List.mem_of_getElem? (i := 32) rfl))⟩,
      ⟨_, _, _, _, rfl, (hw _ (List.mem_of_getElem? (i := 34) rfl))⟩,
      ⟨_, _, _, _, rfl, (hw _ (List.mem_of_getElem? (i := 36) rfl))⟩,
      ⟨_, _, _, _, rfl, (hw _ (List.mem_of_getElem? (i := 38) rfl))⟩,
      ⟨_, _, _, _, rfl, (hw _ (List.mem_of_getElem? (i := 40) rfl))⟩,
      ⟨_, _, _, _, rfl, (hw _ (List.mem_of_getElem? (i := 42) rfl))⟩,
      ⟨_, _, _, _, rfl, (hw _ (List.mem_of_getElem? (i := 44) rfl))⟩,
      ⟨_, _, _, _, rfl, (hw _ (List.mem_of_getElem? (i := 46) rfl))⟩,
      ⟨_, _, _, _, rfl, (hw _ (List.mem_of_getElem? (i := 48) rfl))⟩,
      ⟨_, _, _, _, rfl, (hw _ (List.mem_of_getElem? (i := 50) rfl))⟩,
      ⟨_, _, _, _, rfl, (hw _ (List.mem_of_getElem? (i := 52) rfl))⟩,
      ⟨_, _, _, _, rfl, (hw _ (List.mem_of_getElem? (i := 54) rfl))⟩,
      ⟨_, _, _, _, rfl, (hw _ (List.mem_of_getElem? (i := 56) rfl))⟩,
      ⟨_, _, _, _, rfl, (hw _ (List.mem_of_getElem? (i := 62) rfl))⟩,
      ⟨_, _, _, _, rfl, (hw _ (List.mem_of_getElem? (i := 64) rfl))⟩,
      ⟨_, _, _, _, rfl, (hw _ (List.mem_of_getElem? (i := 66) rfl))⟩,
      ⟨_, _, _, _, rfl, (hw _ (List.mem_of_getElem? (i := 69) rfl))⟩,
      ⟨_, _, _, _, rfl, (hw _ (List.mem_of_getElem? (i := 71) rfl))⟩,
      ⟨_, _, _, _, rfl, (hw _ (List.mem_of_getElem? (i := 73) rfl))⟩,
      ⟨_, _, _, _, rfl, (hw _ (List.mem_of_getElem? (i := 75) rfl))⟩,
      trivial⟩
  · exact ⟨⟨(hw _ (List.mem_of_getElem? (i := 11) rfl)), .array .int, by decide, rfl, rfl⟩,
      ⟨(hw _ (List.mem_of_getElem? (i := 13) rfl)), .array .int, by decide, rfl, rfl⟩,
      ⟨(hw _ (List.mem_of_getElem? (i := 15) rfl)), .array .int, by decide, rfl, rfl⟩,
      ⟨(hw _ (List.mem_of_getElem? (i := 17) rfl)), .array .int, by decide, rfl, rfl⟩,
      ⟨(hw _ (List.mem_of_getElem? (i := 19) rfl)), .array .int, by decide, rfl, rfl⟩,
      ⟨(hw _ (List.mem_of_getElem? (i := 21) rfl)), .array .int, by decide, rfl, rfl⟩,
      ⟨(hw _ (List.mem_of_getElem? (i := 23) rfl)), .array .int, by decide, rfl, rfl⟩,
      ⟨(hw _ (List.mem_of_getElem? (i := 25) rfl)), .array .int, by decide, rfl, rfl⟩,
      ⟨(hw _ (List.mem_of_getElem? (i := 27) rfl)), .array .int, by decide, rfl, rfl⟩,
      ⟨(hw _ (List.mem_of_getElem? (i := 29) rfl)), .array .int, by decide, rfl, rfl⟩,
      ⟨(hw _ (List.mem_of_getElem? (i := 31) rfl)), .array .int, by decide, rfl, rfl⟩,
      ⟨(hw _ (List.mem_of_getElem? (i := 33) rfl)), .array .int, by decide, rfl, rfl⟩,
      ⟨(hw _ (List.mem_of_getElem? (i := 35) rfl)), .array .int, by decide, rfl, rfl⟩,
      ⟨(hw _ (List.mem_of_getElem? (i := 37) rfl)), .array .int, by decide, rfl, rfl⟩,
      ⟨(hw _ (List.mem_of_getElem? (i := 39) rfl)), .array .int, by decide, rfl, rfl⟩,
      ⟨(hw _ (List.mem_of_getElem? (i := 41) rfl)), .array .int, by decide, rfl, rfl⟩,
      ⟨(hw _ (List.mem_of_getElem? (i := 43) rfl)), .array .int, by decide, rfl, rfl⟩,
      ⟨(hw _ (List.mem_of_getElem? (i := 45) rfl)), .array .int, by decide, rfl, rfl⟩,
      ⟨(hw _ (List.mem_of_getElem? (i := 47) rfl)), .array .int, by decide, rfl, rfl⟩,
      ⟨(hw _ (List.mem_of_getElem? (i := 49) rfl)), .array .int, by decide, rfl, rfl⟩,
      ⟨(hw _ (List.mem_of_getElem? (i := 51) rfl)), .array .int, by decide, rfl, rfl⟩,
      ⟨(hw _ (List.mem_of_getElem? (i := 53) rfl)), .array .int, by decide, rfl, rfl⟩,
      ⟨(hw _ (List.mem_of_getElem? (i := 55) rfl)), .array .int, by decide, rfl, rfl⟩,
      ⟨(hw _ (List.mem_of_getElem? (i := 57) rfl)), .array .int, by decide, rfl, rfl⟩,
      ⟨(hw _ (List.mem_of_getElem? (i := 63) rfl)), .int, by decide, rfl, rfl⟩,
      ⟨(hw _ (List.mem_of_getElem? (i := 65) rfl)), .int, by decide, rfl, rfl⟩,
      ⟨(hw _ (List.mem_of_getElem? (i := 67) rfl)), .int, by decide, rfl, rfl⟩,
      ⟨(hw _ (List.mem_of_getElem? (i := 70) rfl)), .int, by decide, rfl, rfl⟩,
      ⟨(hw _ (List.mem_of_getElem? (i := 72) rfl)), .int, by decide, rfl, rfl⟩,
      ⟨(hw _ (List.mem_of_getElem? (i := 74) rfl)), .int, by decide, rfl, rfl⟩,
      ⟨(hw _ (List.mem_of_getElem? (i := 76) rfl)), .int, by decide, rfl, rfl⟩,
      trivial⟩
  · exact ⟨(hw _ (List.mem_of_getElem? (i := 68) rfl)),
      trivial⟩
  · intro t ht
    simp only [own_ty, Bool.or_eq_true, decide_eq_true_eq] at ht
    subst ht
    exact (hw _ (List.mem_of_getElem? (i := 9) rfl))
  · exact ⟨⟨(hw _ (List.mem_of_getElem? (i := 3) rfl)), (hw _ (List.mem_of_getElem? (i := 5) rfl)), (hw _ (List.mem_of_getElem? (i := 2) rfl)), ⟨_, _, own_pd0, rfl⟩, own_pn1, own_ne1, rfl, (fun _ => ⟨rfl, rfl⟩), ⟨rfl, (hw _ (List.mem_of_getElem? (i := 4) rfl)), rfl⟩⟩,
      ⟨(hw _ (List.mem_of_getElem? (i := 6) rfl)), (hw _ (List.mem_of_getElem? (i := 7) rfl)), (hw _ (List.mem_of_getElem? (i := 8) rfl))⟩,
      ⟨(hw _ (List.mem_of_getElem? (i := 58) rfl)), (hw _ (List.mem_of_getElem? (i := 61) rfl)), (hw _ (List.mem_of_getElem? (i := 2) rfl)), ⟨_, _, own_pd1, rfl⟩, own_pn1, own_ne1, rfl, (fun h => nomatch h), ⟨rfl, (hw _ (List.mem_of_getElem? (i := 59) rfl)), (hw _ (List.mem_of_getElem? (i := 60) rfl))⟩⟩,
      ⟨(hw _ (List.mem_of_getElem? (i := 77) rfl)), (hw _ (List.mem_of_getElem? (i := 81) rfl)), (hw _ (List.mem_of_getElem? (i := 2) rfl)), ⟨_, _, own_pd2, rfl⟩, own_pn1, own_ne1, rfl, (fun h => nomatch h), ⟨(hw _ (List.mem_of_getElem? (i := 78) rfl)), (hw _ (List.mem_of_getElem? (i := 79) rfl)), (hw _ (List.mem_of_getElem? (i := 80) rfl))⟩⟩,
      ⟨(hw _ (List.mem_of_getElem? (i := 82) rfl)), (hw _ (List.mem_of_getElem? (i := 85) rfl)), (hw _ (List.mem_of_getElem? (i := 2) rfl)), ⟨_, _, own_pd3, rfl⟩, own_pn1, own_ne1, rfl, (fun h => nomatch h), ⟨rfl, (hw _ (List.mem_of_getElem? (i := 83) rfl)), (hw _ (List.mem_of_getElem? (i := 84) rfl))⟩⟩,
      ⟨(hw _ (List.mem_of_getElem? (i := 86) rfl)), (hw _ (List.mem_of_getElem? (i := 90) rfl)), (hw _ (List.mem_of_getElem? (i := 2) rfl)), ⟨_, _, own_pd2, rfl⟩, own_pn1, own_ne1, rfl, (fun h => nomatch h), ⟨(hw _ (List.mem_of_getElem? (i := 87) rfl)), (hw _ (List.mem_of_getElem? (i := 88) rfl)), (hw _ (List.mem_of_getElem? (i := 89) rfl))⟩⟩,
      ⟨(hw _ (List.mem_of_getElem? (i := 91) rfl)), (hw _ (List.mem_of_getElem? (i := 95) rfl)), (hw _ (List.mem_of_getElem? (i := 2) rfl)), ⟨_, _, own_pd4, rfl⟩, own_pn1, own_ne1, rfl, (fun h => nomatch h), ⟨(hw _ (List.mem_of_getElem? (i := 92) rfl)), (hw _ (List.mem_of_getElem? (i := 93) rfl)), (hw _ (List.mem_of_getElem? (i := 94) rfl))⟩⟩,
      ⟨(hw _ (List.mem_of_getElem? (i := 96) rfl)), (hw _ (List.mem_of_getElem? (i := 100) rfl)), (hw _ (List.mem_of_getElem? (i := 2) rfl)), ⟨_, _, own_pd5, rfl⟩, own_pn1, own_ne1, rfl, (fun h => nomatch h), ⟨(hw _ (List.mem_of_getElem? (i := 97) rfl)), (hw _ (List.mem_of_getElem? (i := 98) rfl)), (hw _ (List.mem_of_getElem? (i := 99) rfl))⟩⟩,
      ⟨(hw _ (List.mem_of_getElem? (i := 101) rfl)), (hw _ (List.mem_of_getElem? (i := 105) rfl)), (hw _ (List.mem_of_getElem? (i := 2) rfl)), ⟨_, _, own_pd5, rfl⟩, own_pn1, own_ne1, rfl, (fun h => nomatch h), ⟨(hw _ (List.mem_of_getElem? (i := 102) rfl)), (hw _ (List.mem_of_getElem? (i := 103) rfl)), (hw _ (List.mem_of_getElem? (i := 104) rfl))⟩⟩,
      ⟨(hw _ (List.mem_of_getElem? (i := 106) rfl)), (hw _ (List.mem_of_getElem? (i := 110) rfl)), (hw _ (List.mem_of_getElem? (i := 2) rfl)), ⟨_, _, own_pd5, rfl⟩, own_pn1, own_ne1, rfl, (fun h => nomatch h), ⟨(hw _ (List.mem_of_getElem? (i := 107) rfl)), (hw _ (List.mem_of_getElem? (i := 108) rfl)), (hw _ (List.mem_of_getElem? (i := 109) rfl))⟩⟩,
      ⟨(hw _ (List.mem_of_getElem? (i := 111) rfl)), (hw _ (List.mem_of_getElem? (i := 115) rfl)), (hw _ (List.mem_of_getElem? (i := 2) rfl)), ⟨_, _, own_pd5, rfl⟩, own_pn1, own_ne1, rfl, (fun h => nomatch h), ⟨(hw _ (List.mem_of_getElem? (i := 112) rfl)), (hw _ (List.mem_of_getElem? (i := 113) rfl)), (hw _ (List.mem_of_getElem? (i := 114) rfl))⟩⟩,
      ⟨(hw _ (List.mem_of_getElem? (i := 116) rfl)), (hw _ (List.mem_of_getElem? (i := 119) rfl)), (hw _ (List.mem_of_getElem? (i := 2) rfl)), ⟨_, _, own_pd6, rfl⟩, own_pn1, own_ne1, rfl, (fun h => nomatch h), ⟨rfl, (hw _ (List.mem_of_getElem? (i := 117) rfl)), (hw _ (List.mem_of_getElem? (i := 118) rfl))⟩⟩,
      ⟨(hw _ (List.mem_of_getElem? (i := 120) rfl)), (hw _ (List.mem_of_getElem? (i := 123) rfl)), (hw _ (List.mem_of_getElem? (i := 2) rfl)), ⟨_, _, own_pd4, rfl⟩, own_pn1, own_ne1, rfl, (fun h => nomatch h), ⟨rfl, (hw _ (List.mem_of_getElem? (i := 121) rfl)), (hw _ (List.mem_of_getElem? (i := 122) rfl))⟩⟩,
      ⟨(hw _ (List.mem_of_getElem? (i := 124) rfl)), (hw _ (List.mem_of_getElem? (i := 127) rfl)), (hw _ (List.mem_of_getElem? (i := 2) rfl)), ⟨_, _, own_pd0, rfl⟩, own_pn1, own_ne1, rfl, (fun h => nomatch h), ⟨rfl, (hw _ (List.mem_of_getElem? (i := 125) rfl)), (hw _ (List.mem_of_getElem? (i := 126) rfl))⟩⟩,
      ⟨(hw _ (List.mem_of_getElem? (i := 128) rfl)), (hw _ (List.mem_of_getElem? (i := 131) rfl)), (hw _ (List.mem_of_getElem? (i := 2) rfl)), ⟨_, _, own_pd5, rfl⟩, own_pn1, own_ne1, rfl, (fun h => nomatch h), ⟨rfl, (hw _ (List.mem_of_getElem? (i := 129) rfl)), (hw _ (List.mem_of_getElem? (i := 130) rfl))⟩⟩,
      (hw _ (List.mem_of_getElem? (i := 0) rfl)),
      trivial⟩
/-! # the object's state -/
def Q : Type := List Int32 × List Int32 × List Int32 × List Int32 × List Int32 × List Int32 × List Int32 × List Int32 × List Int32 × List Int32 × List Int32 × List Int32 × List Int32 × List Int32 × List Int32 × List Int32 × List Int32 × List Int32 × List Int32 × List Int32 × List Int32 × List Int32 × List Int32 × List Int32 × Int32 × Int32 × Int32 × Int32 × Int32 × Int32 × Int32
def Q.f_seq (s : Q) : List Int32 := s.1
def Q.f_val (s : Q) : List Int32 := s.2.1
def Q.f_st (s : Q) : List Int32 := s.2.2.1
def Q.f_locP (s : Q) : List Int32 := s.2.2.2.1
def Q.f_locV (s : Q) : List Int32 := s.2.2.2.2.1
def Q.f_lastSt (s : Q) : List Int32 := s.2.2.2.2.2.1
def Q.f_lastVal (s : Q) : List Int32 := s.2.2.2.2.2.2.1
def Q.f_logKind (s : Q) : List Int32 := s.2.2.2.2.2.2.2.1
def Q.f_evKind (s : Q) : List Int32 := s.2.2.2.2.2.2.2.2.1
def Q.f_evThread (s : Q) : List Int32 := s.2.2.2.2.2.2.2.2.2.1
def Q.f_evVal (s : Q) : List Int32 := s.2.2.2.2.2.2.2.2.2.2.1
def Q.f_snap (s : Q) : List Int32 := s.2.2.2.2.2.2.2.2.2.2.2.1
def Q.f_opKind (s : Q) : List Int32 := s.2.2.2.2.2.2.2.2.2.2.2.2.1
def Q.f_opArg (s : Q) : List Int32 := s.2.2.2.2.2.2.2.2.2.2.2.2.2.1
def Q.f_opInv (s : Q) : List Int32 := s.2.2.2.2.2.2.2.2.2.2.2.2.2.2.1
def Q.f_opRes (s : Q) : List Int32 := s.2.2.2.2.2.2.2.2.2.2.2.2.2.2.2.1
def Q.f_opStatus (s : Q) : List Int32 := s.2.2.2.2.2.2.2.2.2.2.2.2.2.2.2.2.1
def Q.f_opRVal (s : Q) : List Int32 := s.2.2.2.2.2.2.2.2.2.2.2.2.2.2.2.2.2.1
def Q.f_predMask (s : Q) : List Int32 := s.2.2.2.2.2.2.2.2.2.2.2.2.2.2.2.2.2.2.1
def Q.f_openOp (s : Q) : List Int32 := s.2.2.2.2.2.2.2.2.2.2.2.2.2.2.2.2.2.2.2.1
def Q.f_qBuf (s : Q) : List Int32 := s.2.2.2.2.2.2.2.2.2.2.2.2.2.2.2.2.2.2.2.2.1
def Q.f_qLen (s : Q) : List Int32 := s.2.2.2.2.2.2.2.2.2.2.2.2.2.2.2.2.2.2.2.2.2.1
def Q.f_nextCand (s : Q) : List Int32 := s.2.2.2.2.2.2.2.2.2.2.2.2.2.2.2.2.2.2.2.2.2.2.1
def Q.f_chosen (s : Q) : List Int32 := s.2.2.2.2.2.2.2.2.2.2.2.2.2.2.2.2.2.2.2.2.2.2.2.1
def Q.f_nThreads (s : Q) : Int32 := s.2.2.2.2.2.2.2.2.2.2.2.2.2.2.2.2.2.2.2.2.2.2.2.2.1
def Q.f_cap (s : Q) : Int32 := s.2.2.2.2.2.2.2.2.2.2.2.2.2.2.2.2.2.2.2.2.2.2.2.2.2.1
def Q.f_mask (s : Q) : Int32 := s.2.2.2.2.2.2.2.2.2.2.2.2.2.2.2.2.2.2.2.2.2.2.2.2.2.2.1
def Q.f_head (s : Q) : Int32 := s.2.2.2.2.2.2.2.2.2.2.2.2.2.2.2.2.2.2.2.2.2.2.2.2.2.2.2.1
def Q.f_tail (s : Q) : Int32 := s.2.2.2.2.2.2.2.2.2.2.2.2.2.2.2.2.2.2.2.2.2.2.2.2.2.2.2.2.1
def Q.f_histLen (s : Q) : Int32 := s.2.2.2.2.2.2.2.2.2.2.2.2.2.2.2.2.2.2.2.2.2.2.2.2.2.2.2.2.2.1
def Q.f_snapLen (s : Q) : Int32 := s.2.2.2.2.2.2.2.2.2.2.2.2.2.2.2.2.2.2.2.2.2.2.2.2.2.2.2.2.2.2
def Q.s_seq (s : Q) (x : List Int32) : Q := (x, s.2.1, s.2.2.1, s.2.2.2.1, s.2.2.2.2.1, s.2.2.2.2.2.1, s.2.2.2.2.2.2.1, s.2.2.2.2.2.2.2.1, s.2.2.2.2.2.2.2.2.1, s.2.2.2.2.2.2.2.2.2.1, s.2.2.2.2.2.2.2.2.2.2.1, s.2.2.2.2.2.2.2.2.2.2.2.1, s.2.2.2.2.2.2.2.2.2.2.2.2.1, s.2.2.2.2.2.2.2.2.2.2.2.2.2.1, s.2.2.2.2.2.2.2.2.2.2.2.2.2.2.1, s.2.2.2.2.2.2.2.2.2.2.2.2.2.2.2.1, s.2.2.2.2.2.2.2.2.2.2.2.2.2.2.2.2.1, s.2.2.2.2.2.2.2.2.2.2.2.2.2.2.2.2.2.1, s.2.2.2.2.2.2.2.2.2.2.2.2.2.2.2.2.2.2.1, s.2.2.2.2.2.2.2.2.2.2.2.2.2.2.2.2.2.2.2.1, s.2.2.2.2.2.2.2.2.2.2.2.2.2.2.2.2.2.2.2.2.1, s.2.2.2.2.2.2.2.2.2.2.2.2.2.2.2.2.2.2.2.2.2.1, s.2.2.2.2.2.2.2.2.2.2.2.2.2.2.2.2.2.2.2.2.2.2.1, s.2.2.2.2.2.2.2.2.2.2.2.2.2.2.2.2.2.2.2.2.2.2.2.1, s.2.2.2.2.2.2.2.2.2.2.2.2.2.2.2.2.2.2.2.2.2.2.2.2.1, s.2.2.2.2.2.2.2.2.2.2.2.2.2.2.2.2.2.2.2.2.2.2.2.2.2.1, s.2.2.2.2.2.2.2.2.2.2.2.2.2.2.2.2.2.2.2.2.2.2.2.2.2.2.1, s.2.2.2.2.2.2.2.2.2.2.2.2.2.2.2.2.2.2.2.2.2.2.2.2.2.2.2.1, s.2.2.2.2.2.2.2.2.2.2.2.2.2.2.2.2.2.2.2.2.2.2.2.2.2.2.2.2.1, s.2.2.2.2.2.2.2.2.2.2.2.2.2.2.2.2.2.2.2.2.2.2.2.2.2.2.2.2.2.1, s.2.2.2.2.2.2.2.2.2.2.2.2.2.2.2.2.2.2.2.2.2.2.2.2.2.2.2.2.2.2)
def Q.s_val (s : Q) (x : List Int32) : Q := (s.1, x, s.2.2.1, s.2.2.2.1, s.2.2.2.2.1, s.2.2.2.2.2.1, s.2.2.2.2.2.2.1, s.2.2.2.2.2.2.2.1, s.2.2.2.2.2.2.2.2.1, s.2.2.2.2.2.2.2.2.2.1, s.2.2.2.2.2.2.2.2.2.2.1, s.2.2.2.2.2.2.2.2.2.2.2.1, s.2.2.2.2.2.2.2.2.2.2.2.2.1, s.2.2.2.2.2.2.2.2.2.2.2.2.2.1, s.2.2.2.2.2.2.2.2.2.2.2.2.2.2.1, s.2.2.2.2.2.2.2.2.2.2.2.2.2.2.2.1, s.2.2.2.2.2.2.2.2.2.2.2.2.2.2.2.2.1, s.2.2.2.2.2.2.2.2.2.2.2.2.2.2.2.2.2.1, s.2.2.2.2.2.2.2.2.2.2.2.2.2.2.2.2.2.2.1, s.2.2.2.2.2.2.2.2.2.2.2.2.2.2.2.2.2.2.2.1, s.2.2.2.2.2.2.2.2.2.2.2.2.2.2.2.2.2.2.2.2.1, s.2.2.2.2.2.2.2.2.2.2.2.2.2.2.2.2.2.2.2.2.2.1, s.2.2.2.2.2.2.2.2.2.2.2.2.2.2.2.2.2.2.2.2.2.2.1, s.2.2.2.2.2.2.2.2.2.2.2.2.2.2.2.2.2.2.2.2.2.2.2.1, s.2.2.2.2.2.2.2.2.2.2.2.2.2.2.2.2.2.2.2.2.2.2.2.2.1, s.2.2.2.2.2.2.2.2.2.2.2.2.2.2.2.2.2.2.2.2.2.2.2.2.2.1, s.2.2.2.2.2.2.2.2.2.2.2.2.2.2.2.2.2.2.2.2.2.2.2.2.2.2.1, s.2.2.2.2.2.2.2.2.2.2.2.2.2.2.2.2.2.2.2.2.2.2.2.2.2.2.2.1, s.2.2.2.2.2.2.2.2.2.2.2.2.2.2.2.2.2.2.2.2.2.2.2.2.2.2.2.2.1, s.2.2.2.2.2.2.2.2.2.2.2.2.2.2.2.2.2.2.2.2.2.2.2.2.2.2.2.2.2.1, s.2.2.2.2.2.2.2.2.2.2.2.2.2.2.2.2.2.2.2.2.2.2.2.2.2.2.2.2.2.2)
def Q.s_st (s : Q) (x : List Int32) : Q := (s.1, s.2.1, x, s.2.2.2.1, s.2.2.2.2.1, s.2.2.2.2.2.1, s.2.2.2.2.2.2.1, s.2.2.2.2.2.2.2.1, s.2.2.2.2.2.2.2.2.1, s.2.2.2.2.2.2.2.2.2.1, s.2.2.2.2.2.2.2.2.2.2.1, s.2.2.2.2.2.2.2.2.2.2.2.1, s.2.2.2.2.2.2.2.2.2.2.2.2.1, s.2.2.2.2.2.2.2.2.2.2.2.2.2.1, s.2.2.2.2.2.2.2.2.2.2.2.2.2.2.1, s.2.2.2.2.2.2.2.2.2.2.2.2.2.2.2.1, s.2.2.2.2.2.2.2.2.2.2.2.2.2.2.2.2.1, s.2.2.2.2.2.2.2.2.2.2.2.2.2.2.2.2.2.1, s.2.2.2.2.2.2.2.2.2.2.2.2.2.2.2.2.2.2.1, s.2.2.2.2.2.2.2.2.2.2.2.2.2.2.2.2.2.2.2.1, s.2.2.2.2.2.2.2.2.2.2.2.2.2.2.2.2.2.2.2.2.1, s.2.2.2.2.2.2.2.2.2.2.2.2.2.2.2.2.2.2.2.2.2.1, s.2.2.2.2.2.2.2.2.2.2.2.2.2.2.2.2.2.2.2.2.2.2.1, s.2.2.2.2.2.2.2.2.2.2.2.2.2.2.2.2.2.2.2.2.2.2.2.1, s.2.2.2.2.2.2.2.2.2.2.2.2.2.2.2.2.2.2.2.2.2.2.2.2.1, s.2.2.2.2.2.2.2.2.2.2.2.2.2.2.2.2.2.2.2.2.2.2.2.2.2.1, s.2.2.2.2.2.2.2.2.2.2.2.2.2.2.2.2.2.2.2.2.2.2.2.2.2.2.1, s.2.2.2.2.2.2.2.2.2.2.2.2.2.2.2.2.2.2.2.2.2.2.2.2.2.2.2.1, s.2.2.2.2.2.2.2.2.2.2.2.2.2.2.2.2.2.2.2.2.2.2.2.2.2.2.2.2.1, s.2.2.2.2.2.2.2.2.2.2.2.2.2.2.2.2.2.2.2.2.2.2.2.2.2.2.2.2.2.1, s.2.2.2.2.2.2.2.2.2.2.2.2.2.2.2.2.2.2.2.2.2.2.2.2.2.2.2.2.2.2)
def Q.s_locP (s : Q) (x : List Int32) : Q := (s.1, s.2.1, s.2.2.1, x, s.2.2.2.2.1, s.2.2.2.2.2.1, s.2.2.2.2.2.2.1, s.2.2.2.2.2.2.2.1, s.2.2.2.2.2.2.2.2.1, s.2.2.2.2.2.2.2.2.2.1, s.2.2.2.2.2.2.2.2.2.2.1, s.2.2.2.2.2.2.2.2.2.2.2.1, s.2.2.2.2.2.2.2.2.2.2.2.2.1, s.2.2.2.2.2.2.2.2.2.2.2.2.2.1, s.2.2.2.2.2.2.2.2.2.2.2.2.2.2.1, s.2.2.2.2.2.2.2.2.2.2.2.2.2.2.2.1, s.2.2.2.2.2.2.2.2.2.2.2.2.2.2.2.2.1, s.2.2.2.2.2.2.2.2.2.2.2.2.2.2.2.2.2.1, s.2.2.2.2.2.2.2.2.2.2.2.2.2.2.2.2.2.2.1, s.2.2.2.2.2.2.2.2.2.2.2.2.2.2.2.2.2.2.2.1, s.2.2.2.2.2.2.2.2.2.2.2.2.2.2.2.2.2.2.2.2.1, s.2.2.2.2.2.2.2.2.2.2.2.2.2.2.2.2.2.2.2.2.2.1, s.2.2.2.2.2.2.2.2.2.2.2.2.2.2.2.2.2.2.2.2.2.2.1, s.2.2.2.2.2.2.2.2.2.2.2.2.2.2.2.2.2.2.2.2.2.2.2.1, s.2.2.2.2.2.2.2.2.2.2.2.2.2.2.2.2.2.2.2.2.2.2.2.2.1, s.2.2.2.2.2.2.2.2.2.2.2.2.2.2.2.2.2.2.2.2.2.2.2.2.2.1, s.2.2.2.2.2.2.2.2.2.2.2.2.2.2.2.2.2.2.2.2.2.2.2.2.2.2.1, s.2.2.2.2.2.2.2.2.2.2.2.2.2.2.2.2.2.2.2.2.2.2.2.2.2.2.2.1, s.2.2.2.2.2.2.2.2.2.2.2.2.2.2.2.2.2.2.2.2.2.2.2.2.2.2.2.2.1, s.2.2.2.2.2.2.2.2.2.2.2.2.2.2.2.2.2.2.2.2.2.2.2.2.2.2.2.2.2.1, s.2.2.2.2.2.2.2.2.2.2.2.2.2.2.2.2.2.2.2.2.2.2.2.2.2.2.2.2.2.2)
def Q.s_locV (s : Q) (x : List Int32) : Q := (s.1, s.2.1, s.2.2.1, s.2.2.2.1, x, s.2.2.2.2.2.1, s.2.2.2.2.2.2.1, s.2.2.2.2.2.2.2.1, s.2.2.2.2.2.2.2.2.1, s.2.2.2.2.2.2.2.2.2.1, s.2.2.2.2.2.2.2.2.2.2.1, s.2.2.2.2.2.2.2.2.2.2.2.1, s.2.2.2.2.2.2.2.2.2.2.2.2.1, s.2.2.2.2.2.2.2.2.2.2.2.2.2.1, s.2.2.2.2.2.2.2.2.2.2.2.2.2.2.1, s.2.2.2.2.2.2.2.2.2.2.2.2.2.2.2.1, s.2.2.2.2.2.2.2.2.2.2.2.2.2.2.2.2.1, s.2.2.2.2.2.2.2.2.2.2.2.2.2.2.2.2.2.1, s.2.2.2.2.2.2.2.2.2.2.2.2.2.2.2.2.2.2.1, s.2.2.2.2.2.2.2.2.2.2.2.2.2.2.2.2.2.2.2.1, s.2.2.2.2.2.2.2.2.2.2.2.2.2.2.2.2.2.2.2.2.1, s.2.2.2.2.2.2.2.2.2.2.2.2.2.2.2.2.2.2.2.2.2.1, s.2.2.2.2.2.2.2.2.2.2.2.2.2.2.2.2.2.2.2.2.2.2.1, s.2.2.2.2.2.2.2.2.2.2.2.2.2.2.2.2.2.2.2.2.2.2.2.1, s.2.2.2.2.2.2.2.2.2.2.2.2.2.2.2.2.2.2.2.2.2.2.2.2.1, s.2.2.2.2.2.2.2.2.2.2.2.2.2.2.2.2.2.2.2.2.2.2.2.2.2.1, s.2.2.2.2.2.2.2.2.2.2.2.2.2.2.2.2.2.2.2.2.2.2.2.2.2.2.1, s.2.2.2.2.2.2.2.2.2.2.2.2.2.2.2.2.2.2.2.2.2.2.2.2.2.2.2.1, s.2.2.2.2.2.2.2.2.2.2.2.2.2.2.2.2.2.2.2.2.2.2.2.2.2.2.2.2.1, s.2.2.2.2.2.2.2.2.2.2.2.2.2.2.2.2.2.2.2.2.2.2.2.2.2.2.2.2.2.1, s.2.2.2.2.2.2.2.2.2.2.2.2.2.2.2.2.2.2.2.2.2.2.2.2.2.2.2.2.2.2)
def Q.s_lastSt (s : Q) (x : List Int32) : Q := (s.1, s.2.1, s.2.2.1, s.2.2.2.1, s.2.2.2.2.1, x, s.2.2.2.2.2.2.1, s.2.2.2.2.2.2.2.1, s.2.2.2.2.2.2.2.2.1, s.2.2.2.2.2.2.2.2.2.1, s.2.2.2.2.2.2.2.2.2.2.1, s.2.2.2.2.2.2.2.2.2.2.2.1, s.2.2.2.2.2.2.2.2.2.2.2.2.1, s.2.2.2.2.2.2.2.2.2.2.2.2.2.1, s.2.2.2.2.2.2.2.2.2.2.2.2.2.2.1, s.2.2.2.2.2.2.2.2.2.2.2.2.2.2.2.1, s.2.2.2.2.2.2.2.2.2.2.2.2.2.2.2.2.1, s.2.2.2.2.2.2.2.2.2.2.2.2.2.2.2.2.2.1, s.2.2.2.2.2.2.2.2.2.2.2.2.2.2.2.2.2.2.1, s.2.2.2.2.2.2.2.2.2.2.2.2.2.2.2.2.2.2.2.1, s.2.2.2.2.2.2.2.2.2.2.2.2.2.2.2.2.2.2.2.2.1, s.2.2.2.2.2.2.2.2.2.2.2.2.2.2.2.2.2.2.2.2.2.1, s.2.2.2.2.2.2.2.2.2.2.2.2.2.2.2.2.2.2.2.2.2.2.1, s.2.2.2.2.2.2.2.2.2.2.2.2.2.2.2.2.2.2.2.2.2.2.2.1, s.2.2.2.2.2.2.2.2.2.2.2.2.2.2.2.2.2.2.2.2.2.2.2.2.1, s.2.2.2.2.2.2.2.2.2.2.2.2.2.2.2.2.2.2.2.2.2.2.2.2.2.1, s.2.2.2.2.2.2.2.2.2.2.2.2.2.2.2.2.2.2.2.2.2.2.2.2.2.2.1, s.2.2.2.2.2.2.2.2.2.2.2.2.2.2.2.2.2.2.2.2.2.2.2.2.2.2.2.1, s.2.2.2.2.2.2.2.2.2.2.2.2.2.2.2.2.2.2.2.2.2.2.2.2.2.2.2.2.1, s.2.2.2.2.2.2.2.2.2.2.2.2.2.2.2.2.2.2.2.2.2.2.2.2.2.2.2.2.2.1, s.2.2.2.2.2.2.2.2.2.2.2.2.2.2.2.2.2.2.2.2.2.2.2.2.2.2.2.2.2.2)
def Q.s_lastVal (s : Q) (x : List Int32) : Q := (s.1, s.2.1, s.2.2.1, s.2.2.2.1, s.2.2.2.2.1, s.2.2.2.2.2.1, x, s.2.2.2.2.2.2.2.1, s.2.2.2.2.2.2.2.2.1, s.2.2.2.2.2.2.2.2.2.1, s.2.2.2.2.2.2.2.2.2.2.1, s.2.2.2.2.2.2.2.2.2.2.2.1, s.2.2.2.2.2.2.2.2.2.2.2.2.1, s.2.2.2.2.2.2.2.2.2.2.2.2.2.1, s.2.2.2.2.2.2.2.2.2.2.2.2.2.2.1, s.2.2.2.2.2.2.2.2.2.2.2.2.2.2.2.1, s.2.2.2.2.2.2.2.2.2.2.2.2.2.2.2.2.1, s.2.2.2.2.2.2.2.2.2.2.2.2.2.2.2.2.2.1, s.2.2.2.2.2.2.2.2.2.2.2.2.2.2.2.2.2.2.1, s.2.2.2.2.2.2.2.2.2.2.2.2.2.2.2.2.2.2.2.1, s.2.2.2.2.2.2.2.2.2.2.2.2.2.2.2.2.2.2.2.2.1, s.2.2.2.2.2.2.2.2.2.2.2.2.2.2.2.2.2.2.2.2.2.1, s.2.2.2.2.2.2.2.2.2.2.2.2.2.2.2.2.2.2.2.2.2.2.1, s.2.2.2.2.2.2.2.2.2.2.2.2.2.2.2.2.2.2.2.2.2.2.2.1, s.2.2.2.2.2.2.2.2.2.2.2.2.2.2.2.2.2.2.2.2.2.2.2.2.1, s.2.2.2.2.2.2.2.2.2.2.2.2.2.2.2.2.2.2.2.2.2.2.2.2.2.1, s.2.2.2.2.2.2.2.2.2.2.2.2.2.2.2.2.2.2.2.2.2.2.2.2.2.2.1, s.2.2.2.2.2.2.2.2.2.2.2.2.2.2.2.2.2.2.2.2.2.2.2.2.2.2.2.1, s.2.2.2.2.2.2.2.2.2.2.2.2.2.2.2.2.2.2.2.2.2.2.2.2.2.2.2.2.1, s.2.2.2.2.2.2.2.2.2.2.2.2.2.2.2.2.2.2.2.2.2.2.2.2.2.2.2.2.2.1, s.2.2.2.2.2.2.2.2.2.2.2.2.2.2.2.2.2.2.2.2.2.2.2.2.2.2.2.2.2.2)
def Q.s_logKind (s : Q) (x : List Int32) : Q := (s.1, s.2.1, s.2.2.1, s.2.2.2.1, s.2.2.2.2.1, s.2.2.2.2.2.1, s.2.2.2.2.2.2.1, x, s.2.2.2.2.2.2.2.2.1, s.2.2.2.2.2.2.2.2.2.1, s.2.2.2.2.2.2.2.2.2.2.1, s.2.2.2.2.2.2.2.2.2.2.2.1, s.2.2.2.2.2.2.2.2.2.2.2.2.1, s.2.2.2.2.2.2.2.2.2.2.2.2.2.1, s.2.2.2.2.2.2.2.2.2.2.2.2.2.2.1, s.2.2.2.2.2.2.2.2.2.2.2.2.2.2.2.1, s.2.2.2.2.2.2.2.2.2.2.2.2.2.2.2.2.1, s.2.2.2.2.2.2.2.2.2.2.2.2.2.2.2.2.2.1, s.2.2.2.2.2.2.2.2.2.2.2.2.2.2.2.2.2.2.1, s.2.2.2.2.2.2.2.2.2.2.2.2.2.2.2.2.2.2.2.1, s.2.2.2.2.2.2.2.2.2.2.2.2.2.2.2.2.2.2.2.2.1, s.2.2.2.2.2.2.2.2.2.2.2.2.2.2.2.2.2.2.2.2.2.1, s.2.2.2.2.2.2.2.2.2.2.2.2.2.2.2.2.2.2.2.2.2.2.1, s.2.2.2.2.2.2.2.2.2.2.2.2.2.2.2.2.2.2.2.2.2.2.2.1, s.2.2.2.2.2.2.2.2.2.2.2.2.2.2.2.2.2.2.2.2.2.2.2.2.1, s.2.2.2.2.2.2.2.2.2.2.2.2.2.2.2.2.2.2.2.2.2.2.2.2.2.1, s.2.2.2.2.2.2.2.2.2.2.2.2.2.2.2.2.2.2.2.2.2.2.2.2.2.2.1, s.2.2.2.2.2.2.2.2.2.2.2.2.2.2.2.2.2.2.2.2.2.2.2.2.2.2.2.1, s.2.2.2.2.2.2.2.2.2.2.2.2.2.2.2.2.2.2.2.2.2.2.2.2.2.2.2.2.1, s.2.2.2.2.2.2.2.2.2.2.2.2.2.2.2.2.2.2.2.2.2.2.2.2.2.2.2.2.2.1, s.2.2.2.2.2.2.2.2.2.2.2.2.2.2.2.2.2.2.2.2.2.2.2.2.2.2.2.2.2.2)
def Q.s_evKind (s : Q) (x : List Int32) : Q := (s.1, s.2.1, s.2.2.1, s.2.2.2.1, s.2.2.2.2.1, s.2.2.2.2.2.1, s.2.2.2.2.2.2.1, s.2.2.2.2.2.2.2.1, x, s.2.2.2.2.2.2.2.2.2.1, s.2.2.2.2.2.2.2.2.2.2.1, s.2.2.2.2.2.2.2.2.2.2.2.1, s.2.2.2.2.2.2.2.2.2.2.2.2.1, s.2.2.2.2.2.2.2.2.2.2.2.2.2.1, s.2.2.2.2.2.2.2.2.2.2.2.2.2.2.1, s.2.2.2.2.2.2.2.2.2.2.2.2.2.2.2.1, s.2.2.2.2.2.2.2.2.2.2.2.2.2.2.2.2.1, s.2.2.2.2.2.2.2.2.2.2.2.2.2.2.2.2.2.1, s.2.2.2.2.2.2.2.2.2.2.2.2.2.2.2.2.2.2.1, s.2.2.2.2.2.2.2.2.2.2.2.2.2.2.2.2.2.2.2.1, s.2.2.2.2.2.2.2.2.2.2.2.2.2.2.2.2.2.2.2.2.1, s.2.2.2.2.2.2.2.2.2.2.2.2.2.2.2.2.2.2.2.2.2.1, s.2.2.2.2.2.2.2.2.2.2.2.2.2.2.2.2.2.2.2.2.2.2.1, s.2.2.2.2.2.2.2.2.2.2.2.2.2.2.2.2.2.2.2.2.2.2.2.1, s.2.2.2.2.2.2.2.2.2.2.2.2.2.2.2.2.2.2.2.2.2.2.2.2.1, s.2.2.2.2.2.2.2.2.2.2.2.2.2.2.2.2.2.2.2.2.2.2.2.2.2.1, s.2.2.2.2.2.2.2.2.2.2.2.2.2.2.2.2.2.2.2.2.2.2.2.2.2.2.1, s.2.2.2.2.2.2.2.2.2.2.2.2.2.2.2.2.2.2.2.2.2.2.2.2.2.2.2.1, s.2.2.2.2.2.2.2.2.2.2.2.2.2.2.2.2.2.2.2.2.2.2.2.2.2.2.2.2.1, s.2.2.2.2.2.2.2.2.2.2.2.2.2.2.2.2.2.2.2.2.2.2.2.2.2.2.2.2.2.1, s.2.2.2.2.2.2.2.2.2.2.2.2.2.2.2.2.2.2.2.2.2.2.2.2.2.2.2.2.2.2)
def Q.s_evThread (s : Q) (x : List Int32) : Q := (s.1, s.2.1, s.2.2.1, s.2.2.2.1, s.2.2.2.2.1, s.2.2.2.2.2.1, s.2.2.2.2.2.2.1, s.2.2.2.2.2.2.2.1, s.2.2.2.2.2.2.2.2.1, x, s.2.2.2.2.2.2.2.2.2.2.1, s.2.2.2.2.2.2.2.2.2.2.2.1, s.2.2.2.2.2.2.2.2.2.2.2.2.1, s.2.2.2.2.2.2.2.2.2.2.2.2.2.1, s.2.2.2.2.2.2.2.2.2.2.2.2.2.2.1, s.2.2.2.2.2.2.2.2.2.2.2.2.2.2.2.1, s.2.2.2.2.2.2.2.2.2.2.2.2.2.2.2.2.1, s.2.2.2.2.2.2.2.2.2.2.2.2.2.2.2.2.2.1, s.2.2.2.2.2.2.2.2.2.2.2.2.2.2.2.2.2.2.1, s.2.2.2.2.2.2.2.2.2.2.2.2.2.2.2.2.2.2.2.1, s.2.2.2.2.2.2.2.2.2.2.2.2.2.2.2.2.2.2.2.2.1, s.2.2.2.2.2.2.2.2.2.2.2.2.2.2.2.2.2.2.2.2.2.1, s.2.2.2.2.2.2.2.2.2.2.2.2.2.2.2.2.2.2.2.2.2.2.1, s.2.2.2.2.2.2.2.2.2.2.2.2.2.2.2.2.2.2.2.2.2.2.2.1, s.2.2.2.2.2.2.2.2.2.2.2.2.2.2.2.2.2.2.2.2.2.2.2.2.1, s.2.2.2.2.2.2.2.2.2.2.2.2.2.2.2.2.2.2.2.2.2.2.2.2.2.1, s.2.2.2.2.2.2.2.2.2.2.2.2.2.2.2.2.2.2.2.2.2.2.2.2.2.2.1, s.2.2.2.2.2.2.2.2.2.2.2.2.2.2.2.2.2.2.2.2.2.2.2.2.2.2.2.1, s.2.2.2.2.2.2.2.2.2.2.2.2.2.2.2.2.2.2.2.2.2.2.2.2.2.2.2.2.1, s.2.2.2.2.2.2.2.2.2.2.2.2.2.2.2.2.2.2.2.2.2.2.2.2.2.2.2.2.2.1, s.2.2.2.2.2.2.2.2.2.2.2.2.2.2.2.2.2.2.2.2.2.2.2.2.2.2.2.2.2.2)
def Q.s_evVal (s : Q) (x : List Int32) : Q := (s.1, s.2.1, s.2.2.1, s.2.2.2.1, s.2.2.2.2.1, s.2.2.2.2.2.1, s.2.2.2.2.2.2.1, s.2.2.2.2.2.2.2.1, s.2.2.2.2.2.2.2.2.1, s.2.2.2.2.2.2.2.2.2.1, x, s.2.2.2.2.2.2.2.2.2.2.2.1, s.2.2.2.2.2.2.2.2.2.2.2.2.1, s.2.2.2.2.2.2.2.2.2.2.2.2.2.1, s.2.2.2.2.2.2.2.2.2.2.2.2.2.2.1, s.2.2.2.2.2.2.2.2.2.2.2.2.2.2.2.1, s.2.2.2.2.2.2.2.2.2.2.2.2.2.2.2.2.1, s.2.2.2.2.2.2.2.2.2.2.2.2.2.2.2.2.2.1, s.2.2.2.2.2.2.2.2.2.2.2.2.2.2.2.2.2.2.1, s.2.2.2.2.2.2.2.2.2.2.2.2.2.2.2.2.2.2.2.1, s.2.2.2.2.2.2.2.2.2.2.2.2.2.2.2.2.2.2.2.2.1, s.2.2.2.2.2.2.2.2.2.2.2.2.2.2.2.2.2.2.2.2.2.1, s.2.2.2.2.2.2.2.2.2.2.2.2.2.2.2.2.2.2.2.2.2.2.1, s.2.2.2.2.2.2.2.2.2.2.2.2.2.2.2.2.2.2.2.2.2.2.2.1, s.2.2.2.2.2.2.2.2.2.2.2.2.2.2.2.2.2.2.2.2.2.2.2.2.1, s.2.2.2.2.2.2.2.2.2.2.2.2.2.2.2.2.2.2.2.2.2.2.2.2.2.1, s.2.2.2.2.2.2.2.2.2.2.2.2.2.2.2.2.2.2.2.2.2.2.2.2.2.2.1, s.2.2.2.2.2.2.2.2.2.2.2.2.2.2.2.2.2.2.2.2.2.2.2.2.2.2.2.1, s.2.2.2.2.2.2.2.2.2.2.2.2.2.2.2.2.2.2.2.2.2.2.2.2.2.2.2.2.1, s.2.2.2.2.2.2.2.2.2.2.2.2.2.2.2.2.2.2.2.2.2.2.2.2.2.2.2.2.2.1, s.2.2.2.2.2.2.2.2.2.2.2.2.2.2.2.2.2.2.2.2.2.2.2.2.2.2.2.2.2.2)
def Q.s_snap (s : Q) (x : List Int32) : Q := (s.1, s.2.1, s.2.2.1, s.2.2.2.1, s.2.2.2.2.1, s.2.2.2.2.2.1, s.2.2.2.2.2.2.1, s.2.2.2.2.2.2.2.1, s.2.2.2.2.2.2.2.2.1, s.2.2.2.2.2.2.2.2.2.1, s.2.2.2.2.2.2.2.2.2.2.1, x, s.2.2.2.2.2.2.2.2.2.2.2.2.1, s.2.2.2.2.2.2.2.2.2.2.2.2.2.1, s.2.2.2.2.2.2.2.2.2.2.2.2.2.2.1, s.2.2.2.2.2.2.2.2.2.2.2.2.2.2.2.1, s.2.2.2.2.2.2.2.2.2.2.2.2.2.2.2.2.1, s.2.2.2.2.2.2.2.2.2.2.2.2.2.2.2.2.2.1, s.2.2.2.2.2.2.2.2.2.2.2.2.2.2.2.2.2.2.1, s.2.2.2.2.2.2.2.2.2.2.2.2.2.2.2.2.2.2.2.1, s.2.2.2.2.2.2.2.2.2.2.2.2.2.2.2.2.2.2.2.2.1, s.2.2.2.2.2.2.2.2.2.2.2.2.2.2.2.2.2.2.2.2.2.1, s.2.2.2.2.2.2.2.2.2.2.2.2.2.2.2.2.2.2.2.2.2.2.1, s.2.2.2.2.2.2.2.2.2.2.2.2.2.2.2.2.2.2.2.2.2.2.2.1, s.2.2.2.2.2.2.2.2.2.2.2.2.2.2.2.2.2.2.2.2.2.2.2.2.1, s.2.2.2.2.2.2.2.2.2.2.2.2.2.2.2.2.2.2.2.2.2.2.2.2.2.1, s.2.2.2.2.2.2.2.2.2.2.2.2.2.2.2.2.2.2.2.2.2.2.2.2.2.2.1, s.2.2.2.2.2.2.2.2.2.2.2.2.2.2.2.2.2.2.2.2.2.2.2.2.2.2.2.1, s.2.2.2.2.2.2.2.2.2.2.2.2.2.2.2.2.2.2.2.2.2.2.2.2.2.2.2.2.1, s.2.2.2.2.2.2.2.2.2.2.2.2.2.2.2.2.2.2.2.2.2.2.2.2.2.2.2.2.2.1, s.2.2.2.2.2.2.2.2.2.2.2.2.2.2.2.2.2.2.2.2.2.2.2.2.2.2.2.2.2.2)
def Q.s_opKind (s : Q) (x : List Int32) : Q := (s.1, s.2.1, s.2.2.1, s.2.2.2.1, s.2.2.2.2.1, s.2.2.2.2.2.1, s.2.2.2.2.2.2.1, s.2.2.2.2.2.2.2.1, s.2.2.2.2.2.2.2.2.1, s.2.2.2.2.2.2.2.2.2.1, s.2.2.2.2.2.2.2.2.2.2.1, s.2.2.2.2.2.2.2.2.2.2.2.1, x, s.2.2.2.2.2.2.2.2.2.2.2.2.2.1, s.2.2.2.2.2.2.2.2.2.2.2.2.2.2.1, s.2.2.2.2.2.2.2.2.2.2.2.2.2.2.2.1, s.2.2.2.2.2.2.2.2.2.2.2.2.2.2.2.2.1, s.2.2.2.2.2.2.2.2.2.2.2.2.2.2.2.2.2.1, s.2.2.2.2.2.2.2.2.2.2.2.2.2.2.2.2.2.2.1, s.2.2.2.2.2.2.2.2.2.2.2.2.2.2.2.2.2.2.2.1, s.2.2.2.2.2.2.2.2.2.2.2.2.2.2.2.2.2.2.2.2.1, s.2.2.2.2.2.2.2.2.2.2.2.2.2.2.2.2.2.2.2.2.2.1, s.2.2.2.2.2.2.2.2.2.2.2.2.2.2.2.2.2.2.2.2.2.2.1, s.2.2.2.2.2.2.2.2.2.2.2.2.2.2.2.2.2.2.2.2.2.2.2.1, s.2.2.2.2.2.2.2.2.2.2.2.2.2.2.2.2.2.2.2.2.2.2.2.2.1, s.2.2.2.2.2.2.2.2.2.2.2.2.2.2.2.2.2.2.2.2.2.2.2.2.2.1, s.2.2.2.2.2.2.2.2.2.2.2.2.2.2.2.2.2.2.2.2.2.2.2.2.2.2.1, s.2.2.2.2.2.2.2.2.2.2.2.2.2.2.2.2.2.2.2.2.2.2.2.2.2.2.2.1, s.2.2.2.2.2.2.2.2.2.2.2.2.2.2.2.2.2.2.2.2.2.2.2.2.2.2.2.2.1, s.2.2.2.2.2.2.2.2.2.2.2.2.2.2.2.2.2.2.2.2.2.2.2.2.2.2.2.2.2.1, s.2.2.2.2.2.2.2.2.2.2.2.2.2.2.2.2.2.2.2.2.2.2.2.2.2.2.2.2.2.2)
def Q.s_opArg (s : Q) (x : List Int32) : Q := (s.1, s.2.1, s.2.2.1, s.2.2.2.1, s.2.2.2.2.1, s.2.2.2.2.2.1, s.2.2.2.2.2.2.1, s.2.2.2.2.2.2.2.1, s.2.2.2.2.2.2.2.2.1, s.2.2.2.2.2.2.2.2.2.1, s.2.2.2.2.2.2.2.2.2.2.1, s.2.2.2.2.2.2.2.2.2.2.2.1, s.2.2.2.2.2.2.2.2.2.2.2.2.1, x, s.2.2.2.2.2.2.2.2.2.2.2.2.2.2.1, s.2.2.2.2.2.2.2.2.2.2.2.2.2.2.2.1, s.2.2.2.2.2.2.2.2.2.2.2.2.2.2.2.2.1, s.2.2.2.2.2.2.2.2.2.2.2.2.2.2.2.2.2.1, s.2.2.2.2.2.2.2.2.2.2.2.2.2.2.2.2.2.2.1, s.2.2.2.2.2.2.2.2.2.2.2.2.2.2.2.2.2.2.2.1, s.2.2.2.2.2.2.2.2.2.2.2.2.2.2.2.2.2.2.2.2.1, s.2.2.2.2.2.2.2.2.2.2.2.2.2.2.2.2.2.2.2.2.2.1, s.2.2.2.2.2.2.2.2.2.2.2.2.2.2.2.2.2.2.2.2.2.2.1, s.2.2.2.2.2.2.2.2.2.2.2.2.2.2.2.2.2.2.2.2.2.2.2.1, s.2.2.2.2.2.2.2.2.2.2.2.2.2.2.2.2.2.2.2.2.2.2.2.2.1, s.2.2.2.2.2.2.2.2.2.2.2.2.2.2.2.2.2.2.2.2.2.2.2.2.2.1, s.2.2.2.2.2.2.2.2.2.2.2.2.2.2.2.2.2.2.2.2.2.2.2.2.2.2.1, s.2.2.2.2.2.2.2.2.2.2.2.2.2.2.2.2.2.2.2.2.2.2.2.2.2.2.2.1, s.2.2.2.2.2.2.2.2.2.2.2.2.2.2.2.2.2.2.2.2.2.2.2.2.2.2.2.2.1, s.2.2.2.2.2.2.2.2.2.2.2.2.2.2.2.2.2.2.2.2.2.2.2.2.2.2.2.2.2.1, s.2.2.2.2.2.2.2.2.2.2.2.2.2.2.2.2.2.2.2.2.2.2.2.2.2.2.2.2.2.2)
def Q.s_opInv (s : Q) (x : List Int32) : Q := (s.1, s.2.1, s.2.2.1, s.2.2.2.1, s.2.2.2.2.1, s.2.2.2.2.2.1, s.2.2.2.2.2.2.1, s.2.2.2.2.2.2.2.1, s.2.2.2.2.2.2.2.2.1, s.2.2.2.2.2.2.2.2.2.1, s.2.2.2.2.2.2.2.2.2.2.1, s.2.2.2.2.2.2.2.2.2.2.2.1, s.2.2.2.2.2.2.2.2.2.2.2.2.1, s.2.2.2.2.2.2.2.2.2.2.2.2.2.1, x, s.2.2.2.2.2.2.2.2.2.2.2.2.2.2.2.1, s.2.2.2.2.2.2.2.2.2.2.2.2.2.2.2.2.1, s.2.2.2.2.2.2.2.2.2.2.2.2.2.2.2.2.2.1, s.2.2.2.2.2.2.2.2.2.2.2.2.2.2.2.2.2.2.1, s.2.2.2.2.2.2.2.2.2.2.2.2.2.2.2.2.2.2.2.1, s.2.2.2.2.2.2.2.2.2.2.2.2.2.2.2.2.2.2.2.2.1, s.2.2.2.2.2.2.2.2.2.2.2.2.2.2.2.2.2.2.2.2.2.1, s.2.2.2.2.2.2.2.2.2.2.2.2.2.2.2.2.2.2.2.2.2.2.1, s.2.2.2.2.2.2.2.2.2.2.2.2.2.2.2.2.2.2.2.2.2.2.2.1, s.2.2.2.2.2.2.2.2.2.2.2.2.2.2.2.2.2.2.2.2.2.2.2.2.1, s.2.2.2.2.2.2.2.2.2.2.2.2.2.2.2.2.2.2.2.2.2.2.2.2.2.1, s.2.2.2.2.2.2.2.2.2.2.2.2.2.2.2.2.2.2.2.2.2.2.2.2.2.2.1, s.2.2.2.2.2.2.2.2.2.2.2.2.2.2.2.2.2.2.2.2.2.2.2.2.2.2.2.1, s.2.2.2.2.2.2.2.2.2.2.2.2.2.2.2.2.2.2.2.2.2.2.2.2.2.2.2.2.1, s.2.2.2.2.2.2.2.2.2.2.2.2.2.2.2.2.2.2.2.2.2.2.2.2.2.2.2.2.2.1, s.2.2.2.2.2.2.2.2.2.2.2.2.2.2.2.2.2.2.2.2.2.2.2.2.2.2.2.2.2.2)
def Q.s_opRes (s : Q) (x : List Int32) : Q := (s.1, s.2.1, s.2.2.1, s.2.2.2.1, s.2.2.2.2.1, s.2.2.2.2.2.1, s.2.2.2.2.2.2.1, s.2.2.2.2.2.2.2.1, s.2.2.2.2.2.2.2.2.1, s.2.2.2.2.2.2.2.2.2.1, s.2.2.2.2.2.2.2.2.2.2.1, s.2.2.2.2.2.2.2.2.2.2.2.1, s.2.2.2.2.2.2.2.2.2.2.2.2.1, s.2.2.2.2.2.2.2.2.2.2.2.2.2.1, s.2.2.2.2.2.2.2.2.2.2.2.2.2.2.1, x, s.2.2.2.2.2.2.2.2.2.2.2.2.2.2.2.2.1, s.2.2.2.2.2.2.2.2.2.2.2.2.2.2.2.2.2.1, s.2.2.2.2.2.2.2.2.2.2.2.2.2.2.2.2.2.2.1, s.2.2.2.2.2.2.2.2.2.2.2.2.2.2.2.2.2.2.2.1, s.2.2.2.2.2.2.2.2.2.2.2.2.2.2.2.2.2.2.2.2.1, s.2.2.2.2.2.2.2.2.2.2.2.2.2.2.2.2.2.2.2.2.2.1, s.2.2.2.2.2.2.2.2.2.2.2.2.2.2.2.2.2.2.2.2.2.2.1, s.2.2.2.2.2.2.2.2.2.2.2.2.2.2.2.2.2.2.2.2.2.2.2.1, s.2.2.2.2.2.2.2.2.2.2.2.2.2.2.2.2.2.2.2.2.2.2.2.2.1, s.2.2.2.2.2.2.2.2.2.2.2.2.2.2.2.2.2.2.2.2.2.2.2.2.2.1, s.2.2.2.2.2.2.2.2.2.2.2.2.2.2.2.2.2.2.2.2.2.2.2.2.2.2.1, s.2.2.2.2.2.2.2.2.2.2.2.2.2.2.2.2.2.2.2.2.2.2.2.2.2.2.2.1, s.2.2.2.2.2.2.2.2.2.2.2.2.2.2.2.2.2.2.2.2.2.2.2.2.2.2.2.2.1, s.2.2.2.2.2.2.2.2.2.2.2.2.2.2.2.2.2.2.2.2.2.2.2.2.2.2.2.2.2.1, s.2.2.2.2.2.2.2.2.2.2.2.2.2.2.2.2.2.2.2.2.2.2.2.2.2.2.2.2.2.2)
def Q.s_opStatus (s : Q) (x : List Int32) : Q := (s.1, s.2.1, s.2.2.1, s.2.2.2.1, s.2.2.2.2.1, s.2.2.2.2.2.1, s.2.2.2.2.2.2.1, s.2.2.2.2.2.2.2.1, s.2.2.2.2.2.2.2.2.1, s.2.2.2.2.2.2.2.2.2.1, s.2.2.2.2.2.2.2.2.2.2.1, s.2.2.2.2.2.2.2.2.2.2.2.1, s.2.2.2.2.2.2.2.2.2.2.2.2.1, s.2.2.2.2.2.2.2.2.2.2.2.2.2.1, s.2.2.2.2.2.2.2.2.2.2.2.2.2.2.1, s.2.2.2.2.2.2.2.2.2.2.2.2.2.2.2.1, x, s.2.2.2.2.2.2.2.2.2.2.2.2.2.2.2.2.2.1, s.2.2.2.2.2.2.2.2.2.2.2.2.2.2.2.2.2.2.1, s.2.2.2.2.2.2.2.2.2.2.2.2.2.2.2.2.2.2.2.1, s.2.2.2.2.2.2.2.2.2.2.2.2.2.2.2.2.2.2.2.2.1, s.2.2.2.2.2.2.2.2.2.2.2.2.2.2.2.2.2.2.2.2.2.1, s.2.2.2.2.2.2.2.2.2.2.2.2.2.2.2.2.2.2.2.2.2.2.1, s.2.2.2.2.2.2.2.2.2.2.2.2.2.2.2.2.2.2.2.2.2.2.2.1, s.2.2.2.2.2.2.2.2.2.2.2.2.2.2.2.2.2.2.2.2.2.2.2.2.1, s.2.2.2.2.2.2.2.2.2.2.2.2.2.2.2.2.2.2.2.2.2.2.2.2.2.1, s.2.2.2.2.2.2.2.2.2.2.2.2.2.2.2.2.2.2.2.2.2.2.2.2.2.2.1, s.2.2.2.2.2.2.2.2.2.2.2.2.2.2.2.2.2.2.2.2.2.2.2.2.2.2.2.1, s.2.2.2.2.2.2.2.2.2.2.2.2.2.2.2.2.2.2.2.2.2.2.2.2.2.2.2.2.1, s.2.2.2.2.2.2.2.2.2.2.2.2.2.2.2.2.2.2.2.2.2.2.2.2.2.2.2.2.2.1, s.2.2.2.2.2.2.2.2.2.2.2.2.2.2.2.2.2.2.2.2.2.2.2.2.2.2.2.2.2.2)
def Q.s_opRVal (s : Q) (x : List Int32) : Q := (s.1, s.2.1, s.2.2.1, s.2.2.2.1, s.2.2.2.2.1, s.2.2.2.2.2.1, s.2.2.2.2.2.2.1, s.2.2.2.2.2.2.2.1, s.2.2.2.2.2.2.2.2.1, s.2.2.2.2.2.2.2.2.2.1, s.2.2.2.2.2.2.2.2.2.2.1, s.2.2.2.2.2.2.2.2.2.2.2.1, s.2.2.2.2.2.2.2.2.2.2.2.2.1, s.2.2.2.2.2.2.2.2.2.2.2.2.2.1, s.2.2.2.2.2.2.2.2.2.2.2.2.2.2.1, s.2.2.2.2.2.2.2.2.2.2.2.2.2.2.2.1, s.2.2.2.2.2.2.2.2.2.2.2.2.2.2.2.2.1, x, s.2.2.2.2.2.2.2.2.2.2.2.2.2.2.2.2.2.2.1, s.2.2.2.2.2.2.2.2.2.2.2.2.2.2.2.2.2.2.2.1, s.2.2.2.2.2.2.2.2.2.2.2.2.2.2.2.2.2.2.2.2.1, s.2.2.2.2.2.2.2.2.2.2.2.2.2.2.2.2.2.2.2.2.2.1, s.2.2.2.2.2.2.2.2.2.2.2.2.2.2.2.2.2.2.2.2.2.2.1, s.2.2.2.2.2.2.2.2.2.2.2.2.2.2.2.2.2.2.2.2.2.2.2.1, s.2.2.2.2.2.2.2.2.2.2.2.2.2.2.2.2.2.2.2.2.2.2.2.2.1, s.2.2.2.2.2.2.2.2.2.2.2.2.2.2.2.2.2.2.2.2.2.2.2.2.2.1, s.2.2.2.2.2.2.2.2.2.2.2.2.2.2.2.2.2.2.2.2.2.2.2.2.2.2.1, s.2.2.2.2.2.2.2.2.2.2.2.2.2.2.2.2.2.2.2.2.2.2.2.2.2.2.2.1, s.2.2.2.2.2.2.2.2.2.2.2.2.2.2.2.2.2.2.2.2.2.2.2.2.2.2.2.2.1, s.2.2.2.2.2.2.2.2.2.2.2.2.2.2.2.2.2.2.2.2.2.2.2.2.2.2.2.2.2.1, s.2.2.2.2.2.2.2.2.2.2.2.2.2.2.2.2.2.2.2.2.2.2.2.2.2.2.2.2.2.2)
def Q.s_predMask (s : Q) (x : List Int32) : Q := (s.1, s.2.1, s.2.2.1, s.2.2.2.1, s.2.2.2.2.1, s.2.2.2.2.2.1, s.2.2.2.2.2.2.1, s.2.2.2.2.2.2.2.1, s.2.2.2.2.2.2.2.2.1, s.2.2.2.2.2.2.2.2.2.1, s.2.2.2.2.2.2.2.2.2.2.1, s.2.2.2.2.2.2.2.2.2.2.2.1, s.2.2.2.2.2.2.2.2.2.2.2.2.1, s.2.2.2.2.2.2.2.2.2.2.2.2.2.1, s.2.2.2.2.2.2.2.2.2.2.2.2.2.2.1, s.2.2.2.2.2.2.2.2.2.2.2.2.2.2.2.1, s.2.2.2.2.2.2.2.2.2.2.2.2.2.2.2.2.1, s.2.2.2.2.2.2.2.2.2.2.2.2.2.2.2.2.2.1, x, s.2.2.2.2.2.2.2.2.2.2.2.2.2.2.2.2.2.2.2.1, s.2.2.2.2.2.2.2.2.2.2.2.2.2.2.2.2.2.2.2.2.1, s.2.2.2.2.2.2.2.2.2.2.2.2.2.2.2.2.2.2.2.2.2.1, s.2.2.2.2.2.2.2.2.2.2.2.2.2.2.2.2.2.2.2.2.2.2.1, s.2.2.2.2.2.2.2.2.2.2.2.2.2.2.2.2.2.2.2.2.2.2.2.1, s.2.2.2.2.2.2.2.2.2.2.2.2.2.2.2.2.2.2.2.2.2.2.2.2.1, s.2.2.2.2.2.2.2.2.2.2.2.2.2.2.2.2.2.2.2.2.2.2.2.2.2.1, s.2.2.2.2.2.2.2.2.2.2.2.2.2.2.2.2.2.2.2.2.2.2.2.2.2.2.1, s.2.2.2.2.2.2.2.2.2.2.2.2.2.2.2.2.2.2.2.2.2.2.2.2.2.2.2.1, s.2.2.2.2.2.2.2.2.2.2.2.2.2.2.2.2.2.2.2.2.2.2.2.2.2.2.2.2.1, s.2.2.2.2.2.2.2.2.2.2.2.2.2.2.2.2.2.2.2.2.2.2.2.2.2.2.2.2.2.1, s.2.2.2.2.2.2.2.2.2.2.2.2.2.2.2.2.2.2.2.2.2.2.2.2.2.2.2.2.2.2)
def Q.s_openOp (s : Q) (x : List Int32) : Q := (s.1, s.2.1, s.2.2.1, s.2.2.2.1, s.2.2.2.2.1, s.2.2.2.2.2.1, s.2.2.2.2.2.2.1, s.2.2.2.2.2.2.2.1, s.2.2.2.2.2.2.2.2.1, s.2.2.2.2.2.2.2.2.2.1, s.2.2.2.2.2.2.2.2.2.2.1, s.2.2.2.2.2.2.2.2.2.2.2.1, s.2.2.2.2.2.2.2.2.2.2.2.2.1, s.2.2.2.2.2.2.2.2.2.2.2.2.2.1, s.2.2.2.2.2.2.2.2.2.2.2.2.2.2.1, s.2.2.2.2.2.2.2.2.2.2.2.2.2.2.2.1, s.2.2.2.2.2.2.2.2.2.2.2.2.2.2.2.2.1, s.2.2.2.2.2.2.2.2.2.2.2.2.2.2.2.2.2.1, s.2.2.2.2.2.2.2.2.2.2.2.2.2.2.2.2.2.2.1, x, s.2.2.2.2.2.2.2.2.2.2.2.2.2.2.2.2.2.2.2.2.1, s.2.2.2.2.2.2.2.2.2.2.2.2.2.2.2.2.2.2.2.2.2.1, s.2.2.2.2.2.2.2.2.2.2.2.2.2.2.2.2.2.2.2.2.2.2.1, s.2.2.2.2.2.2.2.2.2.2.2.2.2.2.2.2.2.2.2.2.2.2.2.1, s.2.2.2.2.2.2.2.2.2.2.2.2.2.2.2.2.2.2.2.2.2.2.2.2.1, s.2.2.2.2.2.2.2.2.2.2.2.2.2.2.2.2.2.2.2.2.2.2.2.2.2.1, s.2.2.2.2.2.2.2.2.2.2.2.2.2.2.2.2.2.2.2.2.2.2.2.2.2.2.1, s.2.2.2.2.2.2.2.2.2.2.2.2.2.2.2.2.2.2.2.2.2.2.2.2.2.2.2.1, s.2.2.2.2.2.2.2.2.2.2.2.2.2.2.2.2.2.2.2.2.2.2.2.2.2.2.2.2.1, s.2.2.2.2.2.2.2.2.2.2.2.2.2.2.2.2.2.2.2.2.2.2.2.2.2.2.2.2.2.1, s.2.2.2.2.2.2.2.2.2.2.2.2.2.2.2.2.2.2.2.2.2.2.2.2.2.2.2.2.2.2)
def Q.s_qBuf (s : Q) (x : List Int32) : Q := (s.1, s.2.1, s.2.2.1, s.2.2.2.1, s.2.2.2.2.1, s.2.2.2.2.2.1, s.2.2.2.2.2.2.1, s.2.2.2.2.2.2.2.1, s.2.2.2.2.2.2.2.2.1, s.2.2.2.2.2.2.2.2.2.1, s.2.2.2.2.2.2.2.2.2.2.1, s.2.2.2.2.2.2.2.2.2.2.2.1, s.2.2.2.2.2.2.2.2.2.2.2.2.1, s.2.2.2.2.2.2.2.2.2.2.2.2.2.1, s.2.2.2.2.2.2.2.2.2.2.2.2.2.2.1, s.2.2.2.2.2.2.2.2.2.2.2.2.2.2.2.1, s.2.2.2.2.2.2.2.2.2.2.2.2.2.2.2.2.1, s.2.2.2.2.2.2.2.2.2.2.2.2.2.2.2.2.2.1, s.2.2.2.2.2.2.2.2.2.2.2.2.2.2.2.2.2.2.1, s.2.2.2.2.2.2.2.2.2.2.2.2.2.2.2.2.2.2.2.1, x, s.2.2.2.2.2.2.2.2.2.2.2.2.2.2.2.2.2.2.2.2.2.1, s.2.2.2.2.2.2.2.2.2.2.2.2.2.2.2.2.2.2.2.2.2.2.1, s.2.2.2.2.2.2.2.2.2.2.2.2.2.2.2.2.2.2.2.2.2.2.2.1, s.2.2.2.2.2.2.2.2.2.2.2.2.2.2.2.2.2.2.2.2.2.2.2.2.1, s.2.2.2.2.2.2.2.2.2.2.2.2.2.2.2.2.2.2.2.2.2.2.2.2.2.1, s.2.2.2.2.2.2.2.2.2.2.2.2.2.2.2.2.2.2.2.2.2.2.2.2.2.2.1, s.2.2.2.2.2.2.2.2.2.2.2.2.2.2.2.2.2.2.2.2.2.2.2.2.2.2.2.1, s.2.2.2.2.2.2.2.2.2.2.2.2.2.2.2.2.2.2.2.2.2.2.2.2.2.2.2.2.1, s.2.2.2.2.2.2.2.2.2.2.2.2.2.2.2.2.2.2.2.2.2.2.2.2.2.2.2.2.2.1, s.2.2.2.2.2.2.2.2.2.2.2.2.2.2.2.2.2.2.2.2.2.2.2.2.2.2.2.2.2.2)
def Q.s_qLen (s : Q) (x : List Int32) : Q := (s.1, s.2.1, s.2.2.1, s.2.2.2.1, s.2.2.2.2.1, s.2.2.2.2.2.1, s.2.2.2.2.2.2.1, s.2.2.2.2.2.2.2.1, s.2.2.2.2.2.2.2.2.1, s.2.2.2.2.2.2.2.2.2.1, s.2.2.2.2.2.2.2.2.2.2.1, s.2.2.2.2.2.2.2.2.2.2.2.1, s.2.2.2.2.2.2.2.2.2.2.2.2.1, s.2.2.2.2.2.2.2.2.2.2.2.2.2.1, s.2.2.2.2.2.2.2.2.2.2.2.2.2.2.1, s.2.2.2.2.2.2.2.2.2.2.2.2.2.2.2.1, s.2.2.2.2.2.2.2.2.2.2.2.2.2.2.2.2.1, s.2.2.2.2.2.2.2.2.2.2.2.2.2.2.2.2.2.1, s.2.2.2.2.2.2.2.2.2.2.2.2.2.2.2.2.2.2.1, s.2.2.2.2.2.2.2.2.2.2.2.2.2.2.2.2.2.2.2.1, s.2.2.2.2.2.2.2.2.2.2.2.2.2.2.2.2.2.2.2.2.1, x, s.2.2.2.2.2.2.2.2.2.2.2.2.2.2.2.2.2.2.2.2.2.2.1, s.2.2.2.2.2.2.2.2.2.2.2.2.2.2.2.2.2.2.2.2.2.2.2.1, s.2.2.2.2.2.2.2.2.2.2.2.2.2.2.2.2.2.2.2.2.2.2.2.2.1, s.2.2.2.2.2.2.2.2.2.2.2.2.2.2.2.2.2.2.2.2.2.2.2.2.2.1, s.2.2.2.2.2.2.2.2.2.2.2.2.2.2.2.2.2.2.2.2.2.2.2.2.2.2.1, s.2.2.2.2.2.2.2.2.2.2.2.2.2.2.2.2.2.2.2.2.2.2.2.2.2.2.2.1, s.2.2.2.2.2.2.2.2.2.2.2.2.2.2.2.2.2.2.2.2.2.2.2.2.2.2.2.2.1, s.2.2.2.2.2.2.2.2.2.2.2.2.2.2.2.2.2.2.2.2.2.2.2.2.2.2.2.2.2.1, s.2.2.2.2.2.2.2.2.2.2.2.2.2.2.2.2.2.2.2.2.2.2.2.2.2.2.2.2.2.2)
def Q.s_nextCand (s : Q) (x : List Int32) : Q := (s.1, s.2.1, s.2.2.1, s.2.2.2.1, s.2.2.2.2.1, s.2.2.2.2.2.1, s.2.2.2.2.2.2.1, s.2.2.2.2.2.2.2.1, s.2.2.2.2.2.2.2.2.1, s.2.2.2.2.2.2.2.2.2.1, s.2.2.2.2.2.2.2.2.2.2.1, s.2.2.2.2.2.2.2.2.2.2.2.1, s.2.2.2.2.2.2.2.2.2.2.2.2.1, s.2.2.2.2.2.2.2.2.2.2.2.2.2.1, s.2.2.2.2.2.2.2.2.2.2.2.2.2.2.1, s.2.2.2.2.2.2.2.2.2.2.2.2.2.2.2.1, s.2.2.2.2.2.2.2.2.2.2.2.2.2.2.2.2.1, s.2.2.2.2.2.2.2.2.2.2.2.2.2.2.2.2.2.1, s.2.2.2.2.2.2.2.2.2.2.2.2.2.2.2.2.2.2.1, s.2.2.2.2.2.2.2.2.2.2.2.2.2.2.2.2.2.2.2.1, s.2.2.2.2.2.2.2.2.2.2.2.2.2.2.2.2.2.2.2.2.1, s.2.2.2.2.2.2.2.2.2.2.2.2.2.2.2.2.2.2.2.2.2.1, x, s.2.2.2.2.2.2.2.2.2.2.2.2.2.2.2.2.2.2.2.2.2.2.2.1, s.2.2.2.2.2.2.2.2.2.2.2.2.2.2.2.2.2.2.2.2.2.2.2.2.1, s.2.2.2.2.2.2.2.2.2.2.2.2.2.2.2.2.2.2.2.2.2.2.2.2.2.1, s.2.2.2.2.2.2.2.2.2.2.2.2.2.2.2.2.2.2.2.2.2.2.2.2.2.2.1, s.2.2.2.2.2.2.2.2.2.2.2.2.2.2.2.2.2.2.2.2.2.2.2.2.2.2.2.1, s.2.2.2.2.2.2.2.2.2.2.2.2.2.2.2.2.2.2.2.2.2.2.2.2.2.2.2.2.1, s.2.2.2.2.2.2.2.2.2.2.2.2.2.2.2.2.2.2.2.2.2.2.2.2.2.2.2.2.2.1, s.2.2.2.2.2.2.2.2.2.2.2.2.2.2.2.2.2.2.2.2.2.2.2.2.2.2.2.2.2.2)
def Q.s_chosen (s : Q) (x : List Int32) : Q := (s.1, s.2.1, s.2.2.1, s.2.2.2.1, s.2.2.2.2.1, s.2.2.2.2.2.1, s.2.2.2.2.2.2.1, s.2.2.2.2.2.2.2.1, s.2.2.2.2.2.2.2.2.1, s.2.2.2.2.2.2.2.2.2.1, s.2.2.2.2.2.2.2.2.2.2.1, s.2.2.2.2.2.2.2.2.2.2.2.1, s.2.2.2.2.2.2.2.2.2.2.2.2.1, s.2.2.2.2.2.2.2.2.2.2.2.2.2.1, s.2.2.2.2.2.2.2.2.2.2.2.2.2.2.1, s.2.2.2.2.2.2.2.2.2.2.2.2.2.2.2.1, s.2.2.2.2.2.2.2.2.2.2.2.2.2.2.2.2.1, s.2.2.2.2.2.2.2.2.2.2.2.2.2.2.2.2.2.1, s.2.2.2.2.2.2.2.2.2.2.2.2.2.2.2.2.2.2.1, s.2.2.2.2.2.2.2.2.2.2.2.2.2.2.2.2.2.2.2.1, s.2.2.2.2.2.2.2.2.2.2.2.2.2.2.2.2.2.2.2.2.1, s.2.2.2.2.2.2.2.2.2.2.2.2.2.2.2.2.2.2.2.2.2.1, s.2.2.2.2.2.2.2.2.2.2.2.2.2.2.2.2.2.2.2.2.2.2.1, x, s.2.2.2.2.2.2.2.2.2.2.2.2.2.2.2.2.2.2.2.2.2.2.2.2.1, s.2.2.2.2.2.2.2.2.2.2.2.2.2.2.2.2.2.2.2.2.2.2.2.2.2.1, s.2.2.2.2.2.2.2.2.2.2.2.2.2.2.2.2.2.2.2.2.2.2.2.2.2.2.1, s.2.2.2.2.2.2.2.2.2.2.2.2.2.2.2.2.2.2.2.2.2.2.2.2.2.2.2.1, s.2.2.2.2.2.2.2.2.2.2.2.2.2.2.2.2.2.2.2.2.2.2.2.2.2.2.2.2.1, s.2.2.2.2.2.2.2.2.2.2.2.2.2.2.2.2.2.2.2.2.2.2.2.2.2.2.2.2.2.1, s.2.2.2.2.2.2.2.2.2.2.2.2.2.2.2.2.2.2.2.2.2.2.2.2.2.2.2.2.2.2)
def Q.s_nThreads (s : Q) (x : Int32) : Q := (s.1, s.2.1, s.2.2.1, s.2.2.2.1, s.2.2.2.2.1, s.2.2.2.2.2.1, s.2.2.2.2.2.2.1, s.2.2.2.2.2.2.2.1, s.2.2.2.2.2.2.2.2.1, s.2.2.2.2.2.2.2.2.2.1, s.2.2.2.2.2.2.2.2.2.2.1, s.2.2.2.2.2.2.2.2.2.2.2.1, s.2.2.2.2.2.2.2.2.2.2.2.2.1, s.2.2.2.2.2.2.2.2.2.2.2.2.2.1, s.2.2.2.2.2.2.2.2.2.2.2.2.2.2.1, s.2.2.2.2.2.2.2.2.2.2.2.2.2.2.2.1, s.2.2.2.2.2.2.2.2.2.2.2.2.2.2.2.2.1, s.2.2.2.2.2.2.2.2.2.2.2.2.2.2.2.2.2.1, s.2.2.2.2.2.2.2.2.2.2.2.2.2.2.2.2.2.2.1, s.2.2.2.2.2.2.2.2.2.2.2.2.2.2.2.2.2.2.2.1, s.2.2.2.2.2.2.2.2.2.2.2.2.2.2.2.2.2.2.2.2.1, s.2.2.2.2.2.2.2.2.2.2.2.2.2.2.2.2.2.2.2.2.2.1, s.2.2.2.2.2.2.2.2.2.2.2.2.2.2.2.2.2.2.2.2.2.2.1, s.2.2.2.2.2.2.2.2.2.2.2.2.2.2.2.2.2.2.2.2.2.2.2.1, x, s.2.2.2.2.2.2.2.2.2.2.2.2.2.2.2.2.2.2.2.2.2.2.2.2.2.1, s.2.2.2.2.2.2.2.2.2.2.2.2.2.2.2.2.2.2.2.2.2.2.2.2.2.2.1, s.2.2.2.2.2.2.2.2.2.2.2.2.2.2.2.2.2.2.2.2.2.2.2.2.2.2.2.1, s.2.2.2.2.2.2.2.2.2.2.2.2.2.2.2.2.2.2.2.2.2.2.2.2.2.2.2.2.1, s.2.2.2.2.2.2.2.2.2.2.2.2.2.2.2.2.2.2.2.2.2.2.2.2.2.2.2.2.2.1, s.2.2.2.2.2.2.2.2.2.2.2.2.2.2.2.2.2.2.2.2.2.2.2.2.2.2.2.2.2.2)
def Q.s_cap (s : Q) (x : Int32) : Q := (s.1, s.2.1, s.2.2.1, s.2.2.2.1, s.2.2.2.2.1, s.2.2.2.2.2.1, s.2.2.2.2.2.2.1, s.2.2.2.2.2.2.2.1, s.2.2.2.2.2.2.2.2.1, s.2.2.2.2.2.2.2.2.2.1, s.2.2.2.2.2.2.2.2.2.2.1, s.2.2.2.2.2.2.2.2.2.2.2.1, s.2.2.2.2.2.2.2.2.2.2.2.2.1, s.2.2.2.2.2.2.2.2.2.2.2.2.2.1, s.2.2.2.2.2.2.2.2.2.2.2.2.2.2.1, s.2.2.2.2.2.2.2.2.2.2.2.2.2.2.2.1, s.2.2.2.2.2.2.2.2.2.2.2.2.2.2.2.2.1, s.2.2.2.2.2.2.2.2.2.2.2.2.2.2.2.2.2.1, s.2.2.2.2.2.2.2.2.2.2.2.2.2.2.2.2.2.2.1, s.2.2.2.2.2.2.2.2.2.2.2.2.2.2.2.2.2.2.2.1, s.2.2.2.2.2.2.2.2.2.2.2.2.2.2.2.2.2.2.2.2.1, s.2.2.2.2.2.2.2.2.2.2.2.2.2.2.2.2.2.2.2.2.2.1, s.2.2.2.2.2.2.2.2.2.2.2.2.2.2.2.2.2.2.2.2.2.2.1, s.2.2.2.2.2.2.2.2.2.2.2.2.2.2.2.2.2.2.2.2.2.2.2.1, s.2.2.2.2.2.2.2.2.2.2.2.2.2.2.2.2.2.2.2.2.2.2.2.2.1, x, s.2.2.2.2.2.2.2.2.2.2.2.2.2.2.2.2.2.2.2.2.2.2.2.2.2.2.1, s.2.2.2.2.2.2.2.2.2.2.2.2.2.2.2.2.2.2.2.2.2.2.2.2.2.2.2.1, s.2.2.2.2.2.2.2.2.2.2.2.2.2.2.2.2.2.2.2.2.2.2.2.2.2.2.2.2.1, s.2.2.2.2.2.2.2.2.2.2.2.2.2.2.2.2.2.2.2.2.2.2.2.2.2.2.2.2.2.1, s.2.2.2.2.2.2.2.2.2.2.2.2.2.2.2.2.2.2.2.2.2.2.2.2.2.2.2.2.2.2)
def Q.s_mask (s : Q) (x : Int32) : Q := (s.1, s.2.1, s.2.2.1, s.2.2.2.1, s.2.2.2.2.1, s.2.2.2.2.2.1, s.2.2.2.2.2.2.1, s.2.2.2.2.2.2.2.1, s.2.2.2.2.2.2.2.2.1, s.2.2.2.2.2.2.2.2.2.1, s.2.2.2.2.2.2.2.2.2.2.1, s.2.2.2.2.2.2.2.2.2.2.2.1, s.2.2.2.2.2.2.2.2.2.2.2.2.1, s.2.2.2.2.2.2.2.2.2.2.2.2.2.1, s.2.2.2.2.2.2.2.2.2.2.2.2.2.2.1, s.2.2.2.2.2.2.2.2.2.2.2.2.2.2.2.1, s.2.2.2.2.2.2.2.2.2.2.2.2.2.2.2.2.1, s.2.2.2.2.2.2.2.2.2.2.2.2.2.2.2.2.2.1, s.2.2.2.2.2.2.2.2.2.2.2.2.2.2.2.2.2.2.1, s.2.2.2.2.2.2.2.2.2.2.2.2.2.2.2.2.2.2.2.1, s.2.2.2.2.2.2.2.2.2.2.2.2.2.2.2.2.2.2.2.2.1, s.2.2.2.2.2.2.2.2.2.2.2.2.2.2.2.2.2.2.2.2.2.1, s.2.2.2.2.2.2.2.2.2.2.2.2.2.2.2.2.2.2.2.2.2.2.1, s.2.2.2.2.2.2.2.2.2.2.2.2.2.2.2.2.2.2.2.2.2.2.2.1, s.2.2.2.2.2.2.2.2.2.2.2.2.2.2.2.2.2.2.2.2.2.2.2.2.1, s.2.2.2.2.2.2.2.2.2.2.2.2.2.2.2.2.2.2.2.2.2.2.2.2.2.1, x, s.2.2.2.2.2.2.2.2.2.2.2.2.2.2.2.2.2.2.2.2.2.2.2.2.2.2.2.1, s.2.2.2.2.2.2.2.2.2.2.2.2.2.2.2.2.2.2.2.2.2.2.2.2.2.2.2.2.1, s.2.2.2.2.2.2.2.2.2.2.2.2.2.2.2.2.2.2.2.2.2.2.2.2.2.2.2.2.2.1, s.2.2.2.2.2.2.2.2.2.2.2.2.2.2.2.2.2.2.2.2.2.2.2.2.2.2.2.2.2.2)
def Q.s_head (s : Q) (x : Int32) : Q := (s.1, s.2.1, s.2.2.1, s.2.2.2.1, s.2.2.2.2.1, s.2.2.2.2.2.1, s.2.2.2.2.2.2.1, s.2.2.2.2.2.2.2.1, s.2.2.2.2.2.2.2.2.1, s.2.2.2.2.2.2.2.2.2.1, s.2.2.2.2.2.2.2.2.2.2.1, s.2.2.2.2.2.2.2.2.2.2.2.1, s.2.2.2.2.2.2.2.2.2.2.2.2.1, s.2.2.2.2.2.2.2.2.2.2.2.2.2.1, s.2.2.2.2.2.2.2.2.2.2.2.2.2.2.1, s.2.2.2.2.2.2.2.2.2.2.2.2.2.2.2.1, s.2.2.2.2.2.2.2.2.2.2.2.2.2.2.2.2.1, s.2.2.2.2.2.2.2.2.2.2.2.2.2.2.2.2.2.1, s.2.2.2.2.2.2.2.2.2.2.2.2.2.2.2.2.2.2.1, s.2.2.2.2.2.2.2.2.2.2.2.2.2.2.2.2.2.2.2.1, s.2.2.2.2.2.2.2.2.2.2.2.2.2.2.2.2.2.2.2.2.1, s.2.2.2.2.2.2.2.2.2.2.2.2.2.2.2.2.2.2.2.2.2.1, s.2.2.2.2.2.2.2.2.2.2.2.2.2.2.2.2.2.2.2.2.2.2.1, s.2.2.2.2.2.2.2.2.2.2.2.2.2.2.2.2.2.2.2.2.2.2.2.1, s.2.2.2.2.2.2.2.2.2.2.2.2.2.2.2.2.2.2.2.2.2.2.2.2.1, s.2.2.2.2.2.2.2.2.2.2.2.2.2.2.2.2.2.2.2.2.2.2.2.2.2.1, s.2.2.2.2.2.2.2.2.2.2.2.2.2.2.2.2.2.2.2.2.2.2.2.2.2.2.1, x, s.2.2.2.2.2.2.2.2.2.2.2.2.2.2.2.2.2.2.2.2.2.2.2.2.2.2.2.2.1, s.2.2.2.2.2.2.2.2.2.2.2.2.2.2.2.2.2.2.2.2.2.2.2.2.2.2.2.2.2.1, s.2.2.2.2.2.2.2.2.2.2.2.2.2.2.2.2.2.2.2.2.2.2.2.2.2.2.2.2.2.2)
def Q.s_tail (s : Q) (x : Int32) : Q := (s.1, s.2.1, s.2.2.1, s.2.2.2.1, s.2.2.2.2.1, s.2.2.2.2.2.1, s.2.2.2.2.2.2.1, s.2.2.2.2.2.2.2.1, s.2.2.2.2.2.2.2.2.1, s.2.2.2.2.2.2.2.2.2.1, s.2.2.2.2.2.2.2.2.2.2.1, s.2.2.2.2.2.2.2.2.2.2.2.1, s.2.2.2.2.2.2.2.2.2.2.2.2.1, s.2.2.2.2.2.2.2.2.2.2.2.2.2.1, s.2.2.2.2.2.2.2.2.2.2.2.2.2.2.1, s.2.2.2.2.2.2.2.2.2.2.2.2.2.2.2.1, s.2.2.2.2.2.2.2.2.2.2.2.2.2.2.2.2.1, s.2.2.2.2.2.2.2.2.2.2.2.2.2.2.2.2.2.1, s.2.2.2.2.2.2.2.2.2.2.2.2.2.2.2.2.2.2.1, s.2.2.2.2.2.2.2.2.2.2.2.2.2.2.2.2.2.2.2.1, s.2.2.2.2.2.2.2.2.2.2.2.2.2.2.2.2.2.2.2.2.1, s.2.2.2.2.2.2.2.2.2.2.2.2.2.2.2.2.2.2.2.2.2.1, s.2.2.2.2.2.2.2.2.2.2.2.2.2.2.2.2.2.2.2.2.2.2.1, s.2.2.2.2.2.2.2.2.2.2.2.2.2.2.2.2.2.2.2.2.2.2.2.1, s.2.2.2.2.2.2.2.2.2.2.2.2.2.2.2.2.2.2.2.2.2.2.2.2.1, s.2.2.2.2.2.2.2.2.2.2.2.2.2.2.2.2.2.2.2.2.2.2.2.2.2.1, s.2.2.2.2.2.2.2.2.2.2.2.2.2.2.2.2.2.2.2.2.2.2.2.2.2.2.1, s.2.2.2.2.2.2.2.2.2.2.2.2.2.2.2.2.2.2.2.2.2.2.2.2.2.2.2.1, x, s.2.2.2.2.2.2.2.2.2.2.2.2.2.2.2.2.2.2.2.2.2.2.2.2.2.2.2.2.2.1, s.2.2.2.2.2.2.2.2.2.2.2.2.2.2.2.2.2.2.2.2.2.2.2.2.2.2.2.2.2.2)
def Q.s_histLen (s : Q) (x : Int32) : Q := (s.1, s.2.1, s.2.2.1, s.2.2.2.1, s.2.2.2.2.1, s.2.2.2.2.2.1, s.2.2.2.2.2.2.1, s.2.2.2.2.2.2.2.1, s.2.2.2.2.2.2.2.2.1, s.2.2.2.2.2.2.2.2.2.1, s.2.2.2.2.2.2.2.2.2.2.1, s.2.2.2.2.2.2.2.2.2.2.2.1, s.2.2.2.2.2.2.2.2.2.2.2.2.1, s.2.2.2.2.2.2.2.2.2.2.2.2.2.1, s.2.2.2.2.2.2.2.2.2.2.2.2.2.2.1, s.2.2.2.2.2.2.2.2.2.2.2.2.2.2.2.1, s.2.2.2.2.2.2.2.2.2.2.2.2.2.2.2.2.1, s.2.2.2.2.2.2.2.2.2.2.2.2.2.2.2.2.2.1, s.2.2.2.2.2.2.2.2.2.2.2.2.2.2.2.2.2.2.1, s.2.2.2.2.2.2.2.2.2.2.2.2.2.2.2.2.2.2.2.1, s.2.2.2.2.2.2.2.2.2.2.2.2.2.2.2.2.2.2.2.2.1, s.2.2.2.2.2.2.2.2.2.2.2.2.2.2.2.2.2.2.2.2.2.1, s.2.2.2.2.2.2.2.2.2.2.2.2.2.2.2.2.2.2.2.2.2.2.1, s.2.2.2.2.2.2.2.2.2.2.2.2.2.2.2.2.2.2.2.2.2.2.2.1, s.2.2.2.2.2.2.2.2.2.2.2.2.2.2.2.2.2.2.2.2.2.2.2.2.1, s.2.2.2.2.2.2.2.2.2.2.2.2.2.2.2.2.2.2.2.2.2.2.2.2.2.1, s.2.2.2.2.2.2.2.2.2.2.2.2.2.2.2.2.2.2.2.2.2.2.2.2.2.2.1, s.2.2.2.2.2.2.2.2.2.2.2.2.2.2.2.2.2.2.2.2.2.2.2.2.2.2.2.1, s.2.2.2.2.2.2.2.2.2.2.2.2.2.2.2.2.2.2.2.2.2.2.2.2.2.2.2.2.1, x, s.2.2.2.2.2.2.2.2.2.2.2.2.2.2.2.2.2.2.2.2.2.2.2.2.2.2.2.2.2.2)
def Q.s_snapLen (s : Q) (x : Int32) : Q := (s.1, s.2.1, s.2.2.1, s.2.2.2.1, s.2.2.2.2.1, s.2.2.2.2.2.1, s.2.2.2.2.2.2.1, s.2.2.2.2.2.2.2.1, s.2.2.2.2.2.2.2.2.1, s.2.2.2.2.2.2.2.2.2.1, s.2.2.2.2.2.2.2.2.2.2.1, s.2.2.2.2.2.2.2.2.2.2.2.1, s.2.2.2.2.2.2.2.2.2.2.2.2.1, s.2.2.2.2.2.2.2.2.2.2.2.2.2.1, s.2.2.2.2.2.2.2.2.2.2.2.2.2.2.1, s.2.2.2.2.2.2.2.2.2.2.2.2.2.2.2.1, s.2.2.2.2.2.2.2.2.2.2.2.2.2.2.2.2.1, s.2.2.2.2.2.2.2.2.2.2.2.2.2.2.2.2.2.1, s.2.2.2.2.2.2.2.2.2.2.2.2.2.2.2.2.2.2.1, s.2.2.2.2.2.2.2.2.2.2.2.2.2.2.2.2.2.2.2.1, s.2.2.2.2.2.2.2.2.2.2.2.2.2.2.2.2.2.2.2.2.1, s.2.2.2.2.2.2.2.2.2.2.2.2.2.2.2.2.2.2.2.2.2.1, s.2.2.2.2.2.2.2.2.2.2.2.2.2.2.2.2.2.2.2.2.2.2.1, s.2.2.2.2.2.2.2.2.2.2.2.2.2.2.2.2.2.2.2.2.2.2.2.1, s.2.2.2.2.2.2.2.2.2.2.2.2.2.2.2.2.2.2.2.2.2.2.2.2.1, s.2.2.2.2.2.2.2.2.2.2.2.2.2.2.2.2.2.2.2.2.2.2.2.2.2.1, s.2.2.2.2.2.2.2.2.2.2.2.2.2.2.2.2.2.2.2.2.2.2.2.2.2.2.1, s.2.2.2.2.2.2.2.2.2.2.2.2.2.2.2.2.2.2.2.2.2.2.2.2.2.2.2.1, s.2.2.2.2.2.2.2.2.2.2.2.2.2.2.2.2.2.2.2.2.2.2.2.2.2.2.2.2.1, s.2.2.2.2.2.2.2.2.2.2.2.2.2.2.2.2.2.2.2.2.2.2.2.2.2.2.2.2.2.1, x)
def Q0 : Q := (List.replicate 8 0, List.replicate 8 0, List.replicate 4 0, List.replicate 4 0, List.replicate 4 0, List.replicate 4 0, List.replicate 4 0, List.replicate 4 0, List.replicate 64 0, List.replicate 64 0, List.replicate 64 0, List.replicate 8 0, List.replicate 6 0, List.replicate 6 0, List.replicate 6 0, List.replicate 6 0, List.replicate 6 0, List.replicate 6 0, List.replicate 6 0, List.replicate 4 0, List.replicate 56 0, List.replicate 7 0, List.replicate 7 0, List.replicate 7 0, (0 : Int32), (0 : Int32), (0 : Int32), (0 : Int32), (0 : Int32), (0 : Int32), (0 : Int32))
def Q.mk (q0 : List Int32) (q1 : List Int32) (q2 : List Int32) (q3 : List Int32) (q4 : List Int32) (q5 : List Int32) (q6 : List Int32) (q7 : List Int32) (q8 : List Int32) (q9 : List Int32) (q10 : List Int32) (q11 : List Int32) (q12 : List Int32) (q13 : List Int32) (q14 : List Int32) (q15 : List Int32) (q16 : List Int32) (q17 : List Int32) (q18 : List Int32) (q19 : List Int32) (q20 : List Int32) (q21 : List Int32) (q22 : List Int32) (q23 : List Int32) (q24 : Int32) (q25 : Int32) (q26 : Int32) (q27 : Int32) (q28 : Int32) (q29 : Int32) (q30 : Int32) : Q := (q0, q1, q2, q3, q4, q5, q6, q7, q8, q9, q10, q11, q12, q13, q14, q15, q16, q17, q18, q19, q20, q21, q22, q23, q24, q25, q26, q27, q28, q29, q30)
theorem own_f_seq {q0 : List Int32} {q1 : List Int32} {q2 : List Int32} {q3 : List Int32} {q4 : List Int32} {q5 : List Int32} {q6 : List Int32} {q7 : List Int32} {q8 : List Int32} {q9 : List Int32} {q10 : List Int32} {q11 : List Int32} {q12 : List Int32} {q13 : List Int32} {q14 : List Int32} {q15 : List Int32} {q16 : List Int32} {q17 : List Int32} {q18 : List Int32} {q19 : List Int32} {q20 : List Int32} {q21 : List Int32} {q22 : List Int32} {q23 : List Int32} {q24 : Int32} {q25 : Int32} {q26 : Int32} {q27 : Int32} {q28 : Int32} {q29 : Int32} {q30 : Int32} : (Q.mk q0 q1 q2 q3 q4 q5 q6 q7 q8 q9 q10 q11 q12 q13 q14 q15 q16 q17 q18 q19 q20 q21 q22 q23 q24 q25 q26 q27 q28 q29 q30).f_seq = q0 := by have _h := trivial; exact rfl
theorem own_f_val {q0 : List Int32} {q1 : List Int32} {q2 : List Int32} {q3 : List Int32} {q4 : List Int32} {q5 : List Int32} {q6 : List Int32} {q7 : List Int32} {q8 : List Int32} {q9 : List Int32} {q10 : List Int32} {q11 : List Int32} {q12 : List Int32} {q13 : List Int32} {q14 : List Int32} {q15 : List Int32} {q16 : List Int32} {q17 : List Int32} {q18 : List Int32} {q19 : List Int32} {q20 : List Int32} {q21 : List Int32} {q22 : List Int32} {q23 : List Int32} {q24 : Int32} {q25 : Int32} {q26 : Int32} {q27 : Int32} {q28 : Int32} {q29 : Int32} {q30 : Int32} : (Q.mk q0 q1 q2 q3 q4 q5 q6 q7 q8 q9 q10 q11 q12 q13 q14 q15 q16 q17 q18 q19 q20 q21 q22 q23 q24 q25 q26 q27 q28 q29 q30).f_val = q1 := by have _h := trivial; exact rfl
theorem own_f_st {q0 : List Int32} {q1 : List Int32} {q2 : List Int32} {q3 : List Int32} {q4 : List Int32} {q5 : List Int32} {q6 : List Int32} {q7 : List Int32} {q8 : List Int32} {q9 : List Int32} {q10 : List Int32} {q11 : List Int32} {q12 : List Int32} {q13 : List Int32} {q14 : List Int32} {q15 : List Int32} {q16 : List Int32} {q17 : List Int32} {q18 : List Int32} {q19 : List Int32} {q20 : List Int32} {q21 : List Int32} {q22 : List Int32} {q23 : List Int32} {q24 : Int32} {q25 : Int32} {q26 : Int32} {q27 : Int32} {q28 : Int32} {q29 : Int32} {q30 : Int32} : (Q.mk q0 q1 q2 q3 q4 q5 q6 q7 q8 q9 q10 q11 q12 q13 q14 q15 q16 q17 q18 q19 q20 q21 q22 q23 q24 q25 q26 q27 q28 q29 q30).f_st = q2 := by have _h := trivial; exact rfl
theorem own_f_locP {q0 : List Int32} {q1 : List Int32} {q2 : List Int32} {q3 : List Int32} {q4 : List Int32} {q5 : List Int32} {q6 : List Int32} {q7 : List Int32} {q8 : List Int32} {q9 : List Int32} {q10 : List Int32} {q11 : List Int32} {q12 : List Int32} {q13 : List Int32} {q14 : List Int32} {q15 : List Int32} {q16 : List Int32} {q17 : List Int32} {q18 : List Int32} {q19 : List Int32} {q20 : List Int32} {q21 : List Int32} {q22 : List Int32} {q23 : List Int32} {q24 : Int32} {q25 : Int32} {q26 : Int32} {q27 : Int32} {q28 : Int32} {q29 : Int32} {q30 : Int32} : (Q.mk q0 q1 q2 q3 q4 q5 q6 q7 q8 q9 q10 q11 q12 q13 q14 q15 q16 q17 q18 q19 q20 q21 q22 q23 q24 q25 q26 q27 q28 q29 q30).f_locP = q3 := by have _h := trivial; exact rfl
theorem own_f_locV {q0 : List Int32} {q1 : List Int32} {q2 : List Int32} {q3 : List Int32} {q4 : List Int32} {q5 : List Int32} {q6 : List Int32} {q7 : List Int32} {q8 : List Int32} {q9 : List Int32} {q10 : List Int32} {q11 : List Int32} {q12 : List Int32} {q13 : List Int32} {q14 : List Int32} {q15 : List Int32} {q16 : List Int32} {q17 : List Int32} {q18 : List Int32} {q19 : List Int32} {q20 : List Int32} {q21 : List Int32} {q22 : List Int32} {q23 : List Int32} {q24 : Int32} {q25 : Int32} {q26 : Int32} {q27 : Int32} {q28 : Int32} {q29 : Int32} {q30 : Int32} : (Q.mk q0 q1 q2 q3 q4 q5 q6 q7 q8 q9 q10 q11 q12 q13 q14 q15 q16 q17 q18 q19 q20 q21 q22 q23 q24 q25 q26 q27 q28 q29 q30).f_locV = q4 := by have _h := trivial; exact rfl
theorem own_f_lastSt {q0 : List Int32} {q1 : List Int32} {q2 : List Int32} {q3 : List Int32} {q4 : List Int32} {q5 : List Int32} {q6 : List Int32} {q7 : List Int32} {q8 : List Int32} {q9 : List Int32} {q10 : List Int32} {q11 : List Int32} {q12 : List Int32} {q13 : List Int32} {q14 : List Int32} {q15 : List Int32} {q16 : List Int32} {q17 : List Int32} {q18 : List Int32} {q19 : List Int32} {q20 : List Int32} {q21 : List Int32} {q22 : List Int32} {q23 : List Int32} {q24 : Int32} {q25 : Int32} {q26 : Int32} {q27 : Int32} {q28 : Int32} {q29 : Int32} {q30 : Int32} : (Q.mk q0 q1 q2 q3 q4 q5 q6 q7 q8 q9 q10 q11 q12 q13 q14 q15 q16 q17 q18 q19 q20 q21 q22 q23 q24 q25 q26 q27 q28 q29 q30).f_lastSt = q5 := by have _h := trivial; exact rfl
theorem own_f_lastVal {q0 : List Int32} {q1 : List Int32} {q2 : List Int32} {q3 : List Int32} {q4 : List Int32} {q5 : List Int32} {q6 : List Int32} {q7 : List Int32} {q8 : List Int32} {q9 : List Int32} {q10 : List Int32} {q11 : List Int32} {q12 : List Int32} {q13 : List Int32} {q14 : List Int32} {q15 : List Int32} {q16 : List Int32} {q17 : List Int32} {q18 : List Int32} {q19 : List Int32} {q20 : List Int32} {q21 : List Int32} {q22 : List Int32} {q23 : List Int32} {q24 : Int32} {q25 : Int32} {q26 : Int32} {q27 : Int32} {q28 : Int32} {q29 : Int32} {q30 : Int32} : (Q.mk q0 q1 q2 q3 q4 q5 q6 q7 q8 q9 q10 q11 q12 q13 q14 q15 q16 q17 q18 q19 q20 q21 q22 q23 q24 q25 q26 q27 q28 q29 q30).f_lastVal = q6 := by have _h := trivial; exact rfl
theorem own_f_logKind {q0 : List Int32} {q1 : List Int32} {q2 : List Int32} {q3 : List Int32} {q4 : List Int32} {q5 : List Int32} {q6 : List Int32} {q7 : List Int32} {q8 : List Int32} {q9 : List Int32} {q10 : List Int32} {q11 : List Int32} {q12 : List Int32} {q13 : List Int32} {q14 : List Int32} {q15 : List Int32} {q16 : List Int32} {q17 : List Int32} {q18 : List Int32} {q19 : List Int32} {q20 : List Int32} {q21 : List Int32} {q22 : List Int32} {q23 : List Int32} {q24 : Int32} {q25 : Int32} {q26 : Int32} {q27 : Int32} {q28 : Int32} {q29 : Int32} {q30 : Int32} : (Q.mk q0 q1 q2 q3 q4 q5 q6 q7 q8 q9 q10 q11 q12 q13 q14 q15 q16 q17 q18 q19 q20 q21 q22 q23 q24 q25 q26 q27 q28 q29 q30).f_logKind = q7 := by have _h := trivial; exact rfl
theorem own_f_evKind {q0 : List Int32} {q1 : List Int32} {q2 : List Int32} {q3 : List Int32} {q4 : List Int32} {q5 : List Int32} {q6 : List Int32} {q7 : List Int32} {q8 : List Int32} {q9 : List Int32} {q10 : List Int32} {q11 : List Int32} {q12 : List Int32} {q13 : List Int32} {q14 : List Int32} {q15 : List Int32} {q16 : List Int32} {q17 : List Int32} {q18 : List Int32} {q19 : List Int32} {q20 : List Int32} {q21 : List Int32} {q22 : List Int32} {q23 : List Int32} {q24 : Int32} {q25 : Int32} {q26 : Int32} {q27 : Int32} {q28 : Int32} {q29 : Int32} {q30 : Int32} : (Q.mk q0 q1 q2 q3 q4 q5 q6 q7 q8 q9 q10 q11 q12 q13 q14 q15 q16 q17 q18 q19 q20 q21 q22 q23 q24 q25 q26 q27 q28 q29 q30).f_evKind = q8 := by have _h := trivial; exact rfl
theorem own_f_evThread {q0 : List Int32} {q1 : List Int32} {q2 : List Int32} {q3 : List Int32} {q4 : List Int32} {q5 : List Int32} {q6 : List Int32} {q7 : List Int32} {q8 : List Int32} {q9 : List Int32} {q10 : List Int32} {q11 : List Int32} {q12 : List Int32} {q13 : List Int32} {q14 : List Int32} {q15 : List Int32} {q16 : List Int32} {q17 : List Int32} {q18 : List Int32} {q19 : List Int32} {q20 : List Int32} {q21 : List Int32} {q22 : List Int32} {q23 : List Int32} {q24 : Int32} {q25 : Int32} {q26 : Int32} {q27 : Int32} {q28 : Int32} {q29 : Int32} {q30 : Int32} : (Q.mk q0 q1 q2 q3 q4 q5 q6 q7 q8 q9 q10 q11 q12 q13 q14 q15 q16 q17 q18 q19 q20 q21 q22 q23 q24 q25 q26 q27 q28 q29 q30).f_evThread = q9 := by have _h := trivial; exact rfl
theorem own_f_evVal {q0 : List Int32} {q1 : List Int32} {q2 : List Int32} {q3 : List Int32} {q4 : List Int32} {q5 : List Int32} {q6 : List Int32} {q7 : List Int32} {q8 : List Int32} {q9 : List Int32} {q10 : List Int32} {q11 : List Int32} {q12 : List Int32} {q13 : List Int32} {q14 : List Int32} {q15 : List Int32} {q16 : List Int32} {q17 : List Int32} {q18 : List Int32} {q19 : List Int32} {q20 : List Int32} {q21 : List Int32} {q22 : List Int32} {q23 : List Int32} {q24 : Int32} {q25 : Int32} {q26 : Int32} {q27 : Int32} {q28 : Int32} {q29 : Int32} {q30 : Int32} : (Q.mk q0 q1 q2 q3 q4 q5 q6 q7 q8 q9 q10 q11 q12 q13 q14 q15 q16 q17 q18 q19 q20 q21 q22 q23 q24 q25 q26 q27 q28 q29 q30).f_evVal = q10 := by have _h := trivial; exact rfl
theorem own_f_snap {q0 : List Int32} {q1 : List Int32} {q2 : List Int32} {q3 : List Int32} {q4 : List Int32} {q5 : List Int32} {q6 : List Int32} {q7 : List Int32} {q8 : List Int32} {q9 : List Int32} {q10 : List Int32} {q11 : List Int32} {q12 : List Int32} {q13 : List Int32} {q14 : List Int32} {q15 : List Int32} {q16 : List Int32} {q17 : List Int32} {q18 : List Int32} {q19 : List Int32} {q20 : List Int32} {q21 : List Int32} {q22 : List Int32} {q23 : List Int32} {q24 : Int32} {q25 : Int32} {q26 : Int32} {q27 : Int32} {q28 : Int32} {q29 : Int32} {q30 : Int32} : (Q.mk q0 q1 q2 q3 q4 q5 q6 q7 q8 q9 q10 q11 q12 q13 q14 q15 q16 q17 q18 q19 q20 q21 q22 q23 q24 q25 q26 q27 q28 q29 q30).f_snap = q11 := by have _h := trivial; exact rfl
theorem own_f_opKind {q0 : List Int32} {q1 : List Int32} {q2 : List Int32} {q3 : List Int32} {q4 : List Int32} {q5 : List Int32} {q6 : List Int32} {q7 : List Int32} {q8 : List Int32} {q9 : List Int32} {q10 : List Int32} {q11 : List Int32} {q12 : List Int32} {q13 : List Int32} {q14 : List Int32} {q15 : List Int32} {q16 : List Int32} {q17 : List Int32} {q18 : List Int32} {q19 : List Int32} {q20 : List Int32} {q21 : List Int32} {q22 : List Int32} {q23 : List Int32} {q24 : Int32} {q25 : Int32} {q26 : Int32} {q27 : Int32} {q28 : Int32} {q29 : Int32} {q30 : Int32} : (Q.mk q0 q1 q2 q3 q4 q5 q6 q7 q8 q9 q10 q11 q12 q13 q14 q15 q16 q17 q18 q19 q20 q21 q22 q23 q24 q25 q26 q27 q28 q29 q30).f_opKind = q12 := by have _h := trivial; exact rfl
theorem own_f_opArg {q0 : List Int32} {q1 : List Int32} {q2 : List Int32} {q3 : List Int32} {q4 : List Int32} {q5 : List Int32} {q6 : List Int32} {q7 : List Int32} {q8 : List Int32} {q9 : List Int32} {q10 : List Int32} {q11 : List Int32} {q12 : List Int32} {q13 : List Int32} {q14 : List Int32} {q15 : List Int32} {q16 : List Int32} {q17 : List Int32} {q18 : List Int32} {q19 : List Int32} {q20 : List Int32} {q21 : List Int32} {q22 : List Int32} {q23 : List Int32} {q24 : Int32} {q25 : Int32} {q26 : Int32} {q27 : Int32} {q28 : Int32} {q29 : Int32} {q30 : Int32} : (Q.mk q0 q1 q2 q3 q4 q5 q6 q7 q8 q9 q10 q11 q12 q13 q14 q15 q16 q17 q18 q19 q20 q21 q22 q23 q24 q25 q26 q27 q28 q29 q30).f_opArg = q13 := by have _h := trivial; exact rfl
theorem own_f_opInv {q0 : List Int32} {q1 : List Int32} {q2 : List Int32} {q3 : List Int32} {q4 : List Int32} {q5 : List Int32} {q6 : List Int32} {q7 : List Int32} {q8 : List Int32} {q9 : List Int32} {q10 : List Int32} {q11 : List Int32} {q12 : List Int32} {q13 : List Int32} {q14 : List Int32} {q15 : List Int32} {q16 : List Int32} {q17 : List Int32} {q18 : List Int32} {q19 : List Int32} {q20 : List Int32} {q21 : List Int32} {q22 : List Int32} {q23 : List Int32} {q24 : Int32} {q25 : Int32} {q26 : Int32} {q27 : Int32} {q28 : Int32} {q29 : Int32} {q30 : Int32} : (Q.mk q0 q1 q2 q3 q4 q5 q6 q7 q8 q9 q10 q11 q12 q13 q14 q15 q16 q17 q18 q19 q20 q21 q22 q23 q24 q25 q26 q27 q28 q29 q30).f_opInv = q14 := by have _h := trivial; exact rfl
theorem own_f_opRes {q0 : List Int32} {q1 : List Int32} {q2 : List Int32} {q3 : List Int32} {q4 : List Int32} {q5 : List Int32} {q6 : List Int32} {q7 : List Int32} {q8 : List Int32} {q9 : List Int32} {q10 : List Int32} {q11 : List Int32} {q12 : List Int32} {q13 : List Int32} {q14 : List Int32} {q15 : List Int32} {q16 : List Int32} {q17 : List Int32} {q18 : List Int32} {q19 : List Int32} {q20 : List Int32} {q21 : List Int32} {q22 : List Int32} {q23 : List Int32} {q24 : Int32} {q25 : Int32} {q26 : Int32} {q27 : Int32} {q28 : Int32} {q29 : Int32} {q30 : Int32} : (Q.mk q0 q1 q2 q3 q4 q5 q6 q7 q8 q9 q10 q11 q12 q13 q14 q15 q16 q17 q18 q19 q20 q21 q22 q23 q24 q25 q26 q27 q28 q29 q30).f_opRes = q15 := by have _h := trivial; exact rfl
theorem own_f_opStatus {q0 : List Int32} {q1 : List Int32} {q2 : List Int32} {q3 : List Int32} {q4 : List Int32} {q5 : List Int32} {q6 : List Int32} {q7 : List Int32} {q8 : List Int32} {q9 : List Int32} {q10 : List Int32} {q11 : List Int32} {q12 : List Int32} {q13 : List Int32} {q14 : List Int32} {q15 : List Int32} {q16 : List Int32} {q17 : List Int32} {q18 : List Int32} {q19 : List Int32} {q20 : List Int32} {q21 : List Int32} {q22 : List Int32} {q23 : List Int32} {q24 : Int32} {q25 : Int32} {q26 : Int32} {q27 : Int32} {q28 : Int32} {q29 : Int32} {q30 : Int32} : (Q.mk q0 q1 q2 q3 q4 q5 q6 q7 q8 q9 q10 q11 q12 q13 q14 q15 q16 q17 q18 q19 q20 q21 q22 q23 q24 q25 q26 q27 q28 q29 q30).f_opStatus = q16 := by have _h := trivial; exact rfl
theorem own_f_opRVal {q0 : List Int32} {q1 : List Int32} {q2 : List Int32} {q3 : List Int32} {q4 : List Int32} {q5 : List Int32} {q6 : List Int32} {q7 : List Int32} {q8 : List Int32} {q9 : List Int32} {q10 : List Int32} {q11 : List Int32} {q12 : List Int32} {q13 : List Int32} {q14 : List Int32} {q15 : List Int32} {q16 : List Int32} {q17 : List Int32} {q18 : List Int32} {q19 : List Int32} {q20 : List Int32} {q21 : List Int32} {q22 : List Int32} {q23 : List Int32} {q24 : Int32} {q25 : Int32} {q26 : Int32} {q27 : Int32} {q28 : Int32} {q29 : Int32} {q30 : Int32} : (Q.mk q0 q1 q2 q3 q4 q5 q6 q7 q8 q9 q10 q11 q12 q13 q14 q15 q16 q17 q18 q19 q20 q21 q22 q23 q24 q25 q26 q27 q28 q29 q30).f_opRVal = q17 := by have _h := trivial; exact rfl
theorem own_f_predMask {q0 : List Int32} {q1 : List Int32} {q2 : List Int32} {q3 : List Int32} {q4 : List Int32} {q5 : List Int32} {q6 : List Int32} {q7 : List Int32} {q8 : List Int32} {q9 : List Int32} {q10 : List Int32} {q11 : List Int32} {q12 : List Int32} {q13 : List Int32} {q14 : List Int32} {q15 : List Int32} {q16 : List Int32} {q17 : List Int32} {q18 : List Int32} {q19 : List Int32} {q20 : List Int32} {q21 : List Int32} {q22 : List Int32} {q23 : List Int32} {q24 : Int32} {q25 : Int32} {q26 : Int32} {q27 : Int32} {q28 : Int32} {q29 : Int32} {q30 : Int32} : (Q.mk q0 q1 q2 q3 q4 q5 q6 q7 q8 q9 q10 q11 q12 q13 q14 q15 q16 q17 q18 q19 q20 q21 q22 q23 q24 q25 q26 q27 q28 q29 q30).f_predMask = q18 := by have _h := trivial; exact rfl
theorem own_f_openOp {q0 : List Int32} {q1 : List Int32} {q2 : List Int32} {q3 : List Int32} {q4 : List Int32} {q5 : List Int32} {q6 : List Int32} {q7 : List Int32} {q8 : List Int32} {q9 : List Int32} {q10 : List Int32} {q11 : List Int32} {q12 : List Int32} {q13 : List Int32} {q14 : List Int32} {q15 : List Int32} {q16 : List Int32} {q17 : List Int32} {q18 : List Int32} {q19 : List Int32} {q20 : List Int32} {q21 : List Int32} {q22 : List Int32} {q23 : List Int32} {q24 : Int32} {q25 : Int32} {q26 : Int32} {q27 : Int32} {q28 : Int32} {q29 : Int32} {q30 : Int32} : (Q.mk q0 q1 q2 q3 q4 q5 q6 q7 q8 q9 q10 q11 q12 q13 q14 q15 q16 q17 q18 q19 q20 q21 q22 q23 q24 q25 q26 q27 q28 q29 q30).f_openOp = q19 := by have _h := trivial; exact rfl
theorem own_f_qBuf {q0 : List Int32} {q1 : List Int32} {q2 : List Int32} {q3 : List Int32} {q4 : List Int32} {q5 : List Int32} {q6 : List Int32} {q7 : List Int32} {q8 : List Int32} {q9 : List Int32} {q10 : List Int32} {q11 : List Int32} {q12 : List Int32} {q13 : List Int32} {q14 : List Int32} {q15 : List Int32} {q16 : List Int32} {q17 : List Int32} {q18 : List Int32} {q19 : List Int32} {q20 : List Int32} {q21 : List Int32} {q22 : List Int32} {q23 : List Int32} {q24 : Int32} {q25 : Int32} {q26 : Int32} {q27 : Int32} {q28 : Int32} {q29 : Int32} {q30 : Int32} : (Q.mk q0 q1 q2 q3 q4 q5 q6 q7 q8 q9 q10 q11 q12 q13 q14 q15 q16 q17 q18 q19 q20 q21 q22 q23 q24 q25 q26 q27 q28 q29 q30).f_qBuf = q20 := by have _h := trivial; exact rfl
theorem own_f_qLen {q0 : List Int32} {q1 : List Int32} {q2 : List Int32} {q3 : List Int32} {q4 : List Int32} {q5 : List Int32} {q6 : List Int32} {q7 : List Int32} {q8 : List Int32} {q9 : List Int32} {q10 : List Int32} {q11 : List Int32} {q12 : List Int32} {q13 : List Int32} {q14 : List Int32} {q15 : List Int32} {q16 : List Int32} {q17 : List Int32} {q18 : List Int32} {q19 : List Int32} {q20 : List Int32} {q21 : List Int32} {q22 : List Int32} {q23 : List Int32} {q24 : Int32} {q25 : Int32} {q26 : Int32} {q27 : Int32} {q28 : Int32} {q29 : Int32} {q30 : Int32} : (Q.mk q0 q1 q2 q3 q4 q5 q6 q7 q8 q9 q10 q11 q12 q13 q14 q15 q16 q17 q18 q19 q20 q21 q22 q23 q24 q25 q26 q27 q28 q29 q30).f_qLen = q21 := by have _h := trivial; exact rfl
theorem own_f_nextCand {q0 : List Int32} {q1 : List Int32} {q2 : List Int32} {q3 : List Int32} {q4 : List Int32} {q5 : List Int32} {q6 : List Int32} {q7 : List Int32} {q8 : List Int32} {q9 : List Int32} {q10 : List Int32} {q11 : List Int32} {q12 : List Int32} {q13 : List Int32} {q14 : List Int32} {q15 : List Int32} {q16 : List Int32} {q17 : List Int32} {q18 : List Int32} {q19 : List Int32} {q20 : List Int32} {q21 : List Int32} {q22 : List Int32} {q23 : List Int32} {q24 : Int32} {q25 : Int32} {q26 : Int32} {q27 : Int32} {q28 : Int32} {q29 : Int32} {q30 : Int32} : (Q.mk q0 q1 q2 q3 q4 q5 q6 q7 q8 q9 q10 q11 q12 q13 q14 q15 q16 q17 q18 q19 q20 q21 q22 q23 q24 q25 q26 q27 q28 q29 q30).f_nextCand = q22 := by have _h := trivial; exact rfl
theorem own_f_chosen {q0 : List Int32} {q1 : List Int32} {q2 : List Int32} {q3 : List Int32} {q4 : List Int32} {q5 : List Int32} {q6 : List Int32} {q7 : List Int32} {q8 : List Int32} {q9 : List Int32} {q10 : List Int32} {q11 : List Int32} {q12 : List Int32} {q13 : List Int32} {q14 : List Int32} {q15 : List Int32} {q16 : List Int32} {q17 : List Int32} {q18 : List Int32} {q19 : List Int32} {q20 : List Int32} {q21 : List Int32} {q22 : List Int32} {q23 : List Int32} {q24 : Int32} {q25 : Int32} {q26 : Int32} {q27 : Int32} {q28 : Int32} {q29 : Int32} {q30 : Int32} : (Q.mk q0 q1 q2 q3 q4 q5 q6 q7 q8 q9 q10 q11 q12 q13 q14 q15 q16 q17 q18 q19 q20 q21 q22 q23 q24 q25 q26 q27 q28 q29 q30).f_chosen = q23 := by have _h := trivial; exact rfl
theorem own_f_nThreads {q0 : List Int32} {q1 : List Int32} {q2 : List Int32} {q3 : List Int32} {q4 : List Int32} {q5 : List Int32} {q6 : List Int32} {q7 : List Int32} {q8 : List Int32} {q9 : List Int32} {q10 : List Int32} {q11 : List Int32} {q12 : List Int32} {q13 : List Int32} {q14 : List Int32} {q15 : List Int32} {q16 : List Int32} {q17 : List Int32} {q18 : List Int32} {q19 : List Int32} {q20 : List Int32} {q21 : List Int32} {q22 : List Int32} {q23 : List Int32} {q24 : Int32} {q25 : Int32} {q26 : Int32} {q27 : Int32} {q28 : Int32} {q29 : Int32} {q30 : Int32} : (Q.mk q0 q1 q2 q3 q4 q5 q6 q7 q8 q9 q10 q11 q12 q13 q14 q15 q16 q17 q18 q19 q20 q21 q22 q23 q24 q25 q26 q27 q28 q29 q30).f_nThreads = q24 := by have _h := trivial; exact rfl
theorem own_f_cap {q0 : List Int32} {q1 : List Int32} {q2 : List Int32} {q3 : List Int32} {q4 : List Int32} {q5 : List Int32} {q6 : List Int32} {q7 : List Int32} {q8 : List Int32} {q9 : List Int32} {q10 : List Int32} {q11 : List Int32} {q12 : List Int32} {q13 : List Int32} {q14 : List Int32} {q15 : List Int32} {q16 : List Int32} {q17 : List Int32} {q18 : List Int32} {q19 : List Int32} {q20 : List Int32} {q21 : List Int32} {q22 : List Int32} {q23 : List Int32} {q24 : Int32} {q25 : Int32} {q26 : Int32} {q27 : Int32} {q28 : Int32} {q29 : Int32} {q30 : Int32} : (Q.mk q0 q1 q2 q3 q4 q5 q6 q7 q8 q9 q10 q11 q12 q13 q14 q15 q16 q17 q18 q19 q20 q21 q22 q23 q24 q25 q26 q27 q28 q29 q30).f_cap = q25 := by have _h := trivial; exact rfl
theorem own_f_mask {q0 : List Int32} {q1 : List Int32} {q2 : List Int32} {q3 : List Int32} {q4 : List Int32} {q5 : List Int32} {q6 : List Int32} {q7 : List Int32} {q8 : List Int32} {q9 : List Int32} {q10 : List Int32} {q11 : List Int32} {q12 : List Int32} {q13 : List Int32} {q14 : List Int32} {q15 : List Int32} {q16 : List Int32} {q17 : List Int32} {q18 : List Int32} {q19 : List Int32} {q20 : List Int32} {q21 : List Int32} {q22 : List Int32} {q23 : List Int32} {q24 : Int32} {q25 : Int32} {q26 : Int32} {q27 : Int32} {q28 : Int32} {q29 : Int32} {q30 : Int32} : (Q.mk q0 q1 q2 q3 q4 q5 q6 q7 q8 q9 q10 q11 q12 q13 q14 q15 q16 q17 q18 q19 q20 q21 q22 q23 q24 q25 q26 q27 q28 q29 q30).f_mask = q26 := by have _h := trivial; exact rfl
theorem own_f_head {q0 : List Int32} {q1 : List Int32} {q2 : List Int32} {q3 : List Int32} {q4 : List Int32} {q5 : List Int32} {q6 : List Int32} {q7 : List Int32} {q8 : List Int32} {q9 : List Int32} {q10 : List Int32} {q11 : List Int32} {q12 : List Int32} {q13 : List Int32} {q14 : List Int32} {q15 : List Int32} {q16 : List Int32} {q17 : List Int32} {q18 : List Int32} {q19 : List Int32} {q20 : List Int32} {q21 : List Int32} {q22 : List Int32} {q23 : List Int32} {q24 : Int32} {q25 : Int32} {q26 : Int32} {q27 : Int32} {q28 : Int32} {q29 : Int32} {q30 : Int32} : (Q.mk q0 q1 q2 q3 q4 q5 q6 q7 q8 q9 q10 q11 q12 q13 q14 q15 q16 q17 q18 q19 q20 q21 q22 q23 q24 q25 q26 q27 q28 q29 q30).f_head = q27 := by have _h := trivial; exact rfl
theorem own_f_tail {q0 : List Int32} {q1 : List Int32} {q2 : List Int32} {q3 : List Int32} {q4 : List Int32} {q5 : List Int32} {q6 : List Int32} {q7 : List Int32} {q8 : List Int32} {q9 : List Int32} {q10 : List Int32} {q11 : List Int32} {q12 : List Int32} {q13 : List Int32} {q14 : List Int32} {q15 : List Int32} {q16 : List Int32} {q17 : List Int32} {q18 : List Int32} {q19 : List Int32} {q20 : List Int32} {q21 : List Int32} {q22 : List Int32} {q23 : List Int32} {q24 : Int32} {q25 : Int32} {q26 : Int32} {q27 : Int32} {q28 : Int32} {q29 : Int32} {q30 : Int32} : (Q.mk q0 q1 q2 q3 q4 q5 q6 q7 q8 q9 q10 q11 q12 q13 q14 q15 q16 q17 q18 q19 q20 q21 q22 q23 q24 q25 q26 q27 q28 q29 q30).f_tail = q28 := by have _h := trivial; exact rfl
theorem own_f_histLen {q0 : List Int32} {q1 : List Int32} {q2 : List Int32} {q3 : List Int32} {q4 : List Int32} {q5 : List Int32} {q6 : List Int32} {q7 : List Int32} {q8 : List Int32} {q9 : List Int32} {q10 : List Int32} {q11 : List Int32} {q12 : List Int32} {q13 : List Int32} {q14 : List Int32} {q15 : List Int32} {q16 : List Int32} {q17 : List Int32} {q18 : List Int32} {q19 : List Int32} {q20 : List Int32} {q21 : List Int32} {q22 : List Int32} {q23 : List Int32} {q24 : Int32} {q25 : Int32} {q26 : Int32} {q27 : Int32} {q28 : Int32} {q29 : Int32} {q30 : Int32} : (Q.mk q0 q1 q2 q3 q4 q5 q6 q7 q8 q9 q10 q11 q12 q13 q14 q15 q16 q17 q18 q19 q20 q21 q22 q23 q24 q25 q26 q27 q28 q29 q30).f_histLen = q29 := by have _h := trivial; exact rfl
theorem own_f_snapLen {q0 : List Int32} {q1 : List Int32} {q2 : List Int32} {q3 : List Int32} {q4 : List Int32} {q5 : List Int32} {q6 : List Int32} {q7 : List Int32} {q8 : List Int32} {q9 : List Int32} {q10 : List Int32} {q11 : List Int32} {q12 : List Int32} {q13 : List Int32} {q14 : List Int32} {q15 : List Int32} {q16 : List Int32} {q17 : List Int32} {q18 : List Int32} {q19 : List Int32} {q20 : List Int32} {q21 : List Int32} {q22 : List Int32} {q23 : List Int32} {q24 : Int32} {q25 : Int32} {q26 : Int32} {q27 : Int32} {q28 : Int32} {q29 : Int32} {q30 : Int32} : (Q.mk q0 q1 q2 q3 q4 q5 q6 q7 q8 q9 q10 q11 q12 q13 q14 q15 q16 q17 q18 q19 q20 q21 q22 q23 q24 q25 q26 q27 q28 q29 q30).f_snapLen = q30 := by have _h := trivial; exact rfl
theorem own_e_seq (s : Q) (x : List Int32) : s.s_seq x = Q.mk x s.f_val s.f_st s.f_locP s.f_locV s.f_lastSt s.f_lastVal s.f_logKind s.f_evKind s.f_evThread s.f_evVal s.f_snap s.f_opKind s.f_opArg s.f_opInv s.f_opRes s.f_opStatus s.f_opRVal s.f_predMask s.f_openOp s.f_qBuf s.f_qLen s.f_nextCand s.f_chosen s.f_nThreads s.f_cap s.f_mask s.f_head s.f_tail s.f_histLen s.f_snapLen := by have _h := trivial; exact rfl
theorem own_e_val (s : Q) (x : List Int32) : s.s_val x = Q.mk s.f_seq x s.f_st s.f_locP s.f_locV s.f_lastSt s.f_lastVal s.f_logKind s.f_evKind s.f_evThread s.f_evVal s.f_snap s.f_opKind s.f_opArg s.f_opInv s.f_opRes s.f_opStatus s.f_opRVal s.f_predMask s.f_openOp s.f_qBuf s.f_qLen s.f_nextCand s.f_chosen s.f_nThreads s.f_cap s.f_mask s.f_head s.f_tail s.f_histLen s.f_snapLen := by have _h := trivial; exact rfl
theorem own_e_st (s : Q) (x : List Int32) : s.s_st x = Q.mk s.f_seq s.f_val x s.f_locP s.f_locV s.f_lastSt s.f_lastVal s.f_logKind s.f_evKind s.f_evThread s.f_evVal s.f_snap s.f_opKind s.f_opArg s.f_opInv s.f_opRes s.f_opStatus s.f_opRVal s.f_predMask s.f_openOp s.f_qBuf s.f_qLen s.f_nextCand s.f_chosen s.f_nThreads s.f_cap s.f_mask s.f_head s.f_tail s.f_histLen s.f_snapLen := by have _h := trivial; exact rfl
theorem own_e_locP (s : Q) (x : List Int32) : s.s_locP x = Q.mk s.f_seq s.f_val s.f_st x s.f_locV s.f_lastSt s.f_lastVal s.f_logKind s.f_evKind s.f_evThread s.f_evVal s.f_snap s.f_opKind s.f_opArg s.f_opInv s.f_opRes s.f_opStatus s.f_opRVal s.f_predMask s.f_openOp s.f_qBuf s.f_qLen s.f_nextCand s.f_chosen s.f_nThreads s.f_cap s.f_mask s.f_head s.f_tail s.f_histLen s.f_snapLen := by have _h := trivial; exact rfl
theorem own_e_locV (s : Q) (x : List Int32) : s.s_locV x = Q.mk s.f_seq s.f_val s.f_st s.f_locP x s.f_lastSt s.f_lastVal s.f_logKind s.f_evKind s.f_evThread s.f_evVal s.f_snap s.f_opKind s.f_opArg s.f_opInv s.f_opRes s.f_opStatus s.f_opRVal s.f_predMask s.f_openOp s.f_qBuf s.f_qLen s.f_nextCand s.f_chosen s.f_nThreads s.f_cap s.f_mask s.f_head s.f_tail s.f_histLen s.f_snapLen := by have _h := trivial; exact rfl
theorem own_e_lastSt (s : Q) (x : List Int32) : s.s_lastSt x = Q.mk s.f_seq s.f_val s.f_st s.f_locP s.f_locV x s.f_lastVal s.f_logKind s.f_evKind s.f_evThread s.f_evVal s.f_snap s.f_opKind s.f_opArg s.f_opInv s.f_opRes s.f_opStatus s.f_opRVal s.f_predMask s.f_openOp s.f_qBuf s.f_qLen s.f_nextCand s.f_chosen s.f_nThreads s.f_cap s.f_mask s.f_head s.f_tail s.f_histLen s.f_snapLen := by have _h := trivial; exact rfl
theorem own_e_lastVal (s : Q) (x : List Int32) : s.s_lastVal x = Q.mk s.f_seq s.f_val s.f_st s.f_locP s.f_locV s.f_lastSt x s.f_logKind s.f_evKind s.f_evThread s.f_evVal s.f_snap s.f_opKind s.f_opArg s.f_opInv s.f_opRes s.f_opStatus s.f_opRVal s.f_predMask s.f_openOp s.f_qBuf s.f_qLen s.f_nextCand s.f_chosen s.f_nThreads s.f_cap s.f_mask s.f_head s.f_tail s.f_histLen s.f_snapLen := by have _h := trivial; exact rfl
theorem own_e_logKind (s : Q) (x : List Int32) : s.s_logKind x = Q.mk s.f_seq s.f_val s.f_st s.f_locP s.f_locV s.f_lastSt s.f_lastVal x s.f_evKind s.f_evThread s.f_evVal s.f_snap s.f_opKind s.f_opArg s.f_opInv s.f_opRes s.f_opStatus s.f_opRVal s.f_predMask s.f_openOp s.f_qBuf s.f_qLen s.f_nextCand s.f_chosen s.f_nThreads s.f_cap s.f_mask s.f_head s.f_tail s.f_histLen s.f_snapLen := by have _h := trivial; exact rfl
theorem own_e_evKind (s : Q) (x : List Int32) : s.s_evKind x = Q.mk s.f_seq s.f_val s.f_st s.f_locP s.f_locV s.f_lastSt s.f_lastVal s.f_logKind x s.f_evThread s.f_evVal s.f_snap s.f_opKind s.f_opArg s.f_opInv s.f_opRes s.f_opStatus s.f_opRVal s.f_predMask s.f_openOp s.f_qBuf s.f_qLen s.f_nextCand s.f_chosen s.f_nThreads s.f_cap s.f_mask s.f_head s.f_tail s.f_histLen s.f_snapLen := by have _h := trivial; exact rfl
theorem own_e_evThread (s : Q) (x : List Int32) : s.s_evThread x = Q.mk s.f_seq s.f_val s.f_st s.f_locP s.f_locV s.f_lastSt s.f_lastVal s.f_logKind s.f_evKind x s.f_evVal s.f_snap s.f_opKind s.f_opArg s.f_opInv s.f_opRes s.f_opStatus s.f_opRVal s.f_predMask s.f_openOp s.f_qBuf s.f_qLen s.f_nextCand s.f_chosen s.f_nThreads s.f_cap s.f_mask s.f_head s.f_tail s.f_histLen s.f_snapLen := by have _h := trivial; exact rfl
theorem own_e_evVal (s : Q) (x : List Int32) : s.s_evVal x = Q.mk s.f_seq s.f_val s.f_st s.f_locP s.f_locV s.f_lastSt s.f_lastVal s.f_logKind s.f_evKind s.f_evThread x s.f_snap s.f_opKind s.f_opArg s.f_opInv s.f_opRes s.f_opStatus s.f_opRVal s.f_predMask s.f_openOp s.f_qBuf s.f_qLen s.f_nextCand s.f_chosen s.f_nThreads s.f_cap s.f_mask s.f_head s.f_tail s.f_histLen s.f_snapLen := by have _h := trivial; exact rfl
theorem own_e_snap (s : Q) (x : List Int32) : s.s_snap x = Q.mk s.f_seq s.f_val s.f_st s.f_locP s.f_locV s.f_lastSt s.f_lastVal s.f_logKind s.f_evKind s.f_evThread s.f_evVal x s.f_opKind s.f_opArg s.f_opInv s.f_opRes s.f_opStatus s.f_opRVal s.f_predMask s.f_openOp s.f_qBuf s.f_qLen s.f_nextCand s.f_chosen s.f_nThreads s.f_cap s.f_mask s.f_head s.f_tail s.f_histLen s.f_snapLen := by have _h := trivial; exact rfl
theorem own_e_opKind (s : Q) (x : List Int32) : s.s_opKind x = Q.mk s.f_seq s.f_val s.f_st s.f_locP s.f_locV s.f_lastSt s.f_lastVal s.f_logKind s.f_evKind s.f_evThread s.f_evVal s.f_snap x s.f_opArg s.f_opInv s.f_opRes s.f_opStatus s.f_opRVal s.f_predMask s.f_openOp s.f_qBuf s.f_qLen s.f_nextCand s.f_chosen s.f_nThreads s.f_cap s.f_mask s.f_head s.f_tail s.f_histLen s.f_snapLen := by have _h := trivial; exact rfl
theorem own_e_opArg (s : Q) (x : List Int32) : s.s_opArg x = Q.mk s.f_seq s.f_val s.f_st s.f_locP s.f_locV s.f_lastSt s.f_lastVal s.f_logKind s.f_evKind s.f_evThread s.f_evVal s.f_snap s.f_opKind x s.f_opInv s.f_opRes s.f_opStatus s.f_opRVal s.f_predMask s.f_openOp s.f_qBuf s.f_qLen s.f_nextCand s.f_chosen s.f_nThreads s.f_cap s.f_mask s.f_head s.f_tail s.f_histLen s.f_snapLen := by have _h := trivial; exact rfl
theorem own_e_opInv (s : Q) (x : List Int32) : s.s_opInv x = Q.mk s.f_seq s.f_val s.f_st s.f_locP s.f_locV s.f_lastSt s.f_lastVal s.f_logKind s.f_evKind s.f_evThread s.f_evVal s.f_snap s.f_opKind s.f_opArg x s.f_opRes s.f_opStatus s.f_opRVal s.f_predMask s.f_openOp s.f_qBuf s.f_qLen s.f_nextCand s.f_chosen s.f_nThreads s.f_cap s.f_mask s.f_head s.f_tail s.f_histLen s.f_snapLen := by have _h := trivial; exact rfl
theorem own_e_opRes (s : Q) (x : List Int32) : s.s_opRes x = Q.mk s.f_seq s.f_val s.f_st s.f_locP s.f_locV s.f_lastSt s.f_lastVal s.f_logKind s.f_evKind s.f_evThread s.f_evVal s.f_snap s.f_opKind s.f_opArg s.f_opInv x s.f_opStatus s.f_opRVal s.f_predMask s.f_openOp s.f_qBuf s.f_qLen s.f_nextCand s.f_chosen s.f_nThreads s.f_cap s.f_mask s.f_head s.f_tail s.f_histLen s.f_snapLen := by have _h := trivial; exact rfl
theorem own_e_opStatus (s : Q) (x : List Int32) : s.s_opStatus x = Q.mk s.f_seq s.f_val s.f_st s.f_locP s.f_locV s.f_lastSt s.f_lastVal s.f_logKind s.f_evKind s.f_evThread s.f_evVal s.f_snap s.f_opKind s.f_opArg s.f_opInv s.f_opRes x s.f_opRVal s.f_predMask s.f_openOp s.f_qBuf s.f_qLen s.f_nextCand s.f_chosen s.f_nThreads s.f_cap s.f_mask s.f_head s.f_tail s.f_histLen s.f_snapLen := by have _h := trivial; exact rfl
theorem own_e_opRVal (s : Q) (x : List Int32) : s.s_opRVal x = Q.mk s.f_seq s.f_val s.f_st s.f_locP s.f_locV s.f_lastSt s.f_lastVal s.f_logKind s.f_evKind s.f_evThread s.f_evVal s.f_snap s.f_opKind s.f_opArg s.f_opInv s.f_opRes s.f_opStatus x s.f_predMask s.f_openOp s.f_qBuf s.f_qLen s.f_nextCand s.f_chosen s.f_nThreads s.f_cap s.f_mask s.f_head s.f_tail s.f_histLen s.f_snapLen := by have _h := trivial; exact rfl
theorem own_e_predMask (s : Q) (x : List Int32) : s.s_predMask x = Q.mk s.f_seq s.f_val s.f_st s.f_locP s.f_locV s.f_lastSt s.f_lastVal s.f_logKind s.f_evKind s.f_evThread s.f_evVal s.f_snap s.f_opKind s.f_opArg s.f_opInv s.f_opRes s.f_opStatus s.f_opRVal x s.f_openOp s.f_qBuf s.f_qLen s.f_nextCand s.f_chosen s.f_nThreads s.f_cap s.f_mask s.f_head s.f_tail s.f_histLen s.f_snapLen := by have _h := trivial; exact rfl
theorem own_e_openOp (s : Q) (x : List Int32) : s.s_openOp x = Q.mk s.f_seq s.f_val s.f_st s.f_locP s.f_locV s.f_lastSt s.f_lastVal s.f_logKind s.f_evKind s.f_evThread s.f_evVal s.f_snap s.f_opKind s.f_opArg s.f_opInv s.f_opRes s.f_opStatus s.f_opRVal s.f_predMask x s.f_qBuf s.f_qLen s.f_nextCand s.f_chosen s.f_nThreads s.f_cap s.f_mask s.f_head s.f_tail s.f_histLen s.f_snapLen := by have _h := trivial; exact rfl
theorem own_e_qBuf (s : Q) (x : List Int32) : s.s_qBuf x = Q.mk s.f_seq s.f_val s.f_st s.f_locP s.f_locV s.f_lastSt s.f_lastVal s.f_logKind s.f_evKind s.f_evThread s.f_evVal s.f_snap s.f_opKind s.f_opArg s.f_opInv s.f_opRes s.f_opStatus s.f_opRVal s.f_predMask s.f_openOp x s.f_qLen s.f_nextCand s.f_chosen s.f_nThreads s.f_cap s.f_mask s.f_head s.f_tail s.f_histLen s.f_snapLen := by have _h := trivial; exact rfl
theorem own_e_qLen (s : Q) (x : List Int32) : s.s_qLen x = Q.mk s.f_seq s.f_val s.f_st s.f_locP s.f_locV s.f_lastSt s.f_lastVal s.f_logKind s.f_evKind s.f_evThread s.f_evVal s.f_snap s.f_opKind s.f_opArg s.f_opInv s.f_opRes s.f_opStatus s.f_opRVal s.f_predMask s.f_openOp s.f_qBuf x s.f_nextCand s.f_chosen s.f_nThreads s.f_cap s.f_mask s.f_head s.f_tail s.f_histLen s.f_snapLen := by have _h := trivial; exact rfl
theorem own_e_nextCand (s : Q) (x : List Int32) : s.s_nextCand x = Q.mk s.f_seq s.f_val s.f_st s.f_locP s.f_locV s.f_lastSt s.f_lastVal s.f_logKind s.f_evKind s.f_evThread s.f_evVal s.f_snap s.f_opKind s.f_opArg s.f_opInv s.f_opRes s.f_opStatus s.f_opRVal s.f_predMask s.f_openOp s.f_qBuf s.f_qLen x s.f_chosen s.f_nThreads s.f_cap s.f_mask s.f_head s.f_tail s.f_histLen s.f_snapLen := by have _h := trivial; exact rfl
theorem own_e_chosen (s : Q) (x : List Int32) : s.s_chosen x = Q.mk s.f_seq s.f_val s.f_st s.f_locP s.f_locV s.f_lastSt s.f_lastVal s.f_logKind s.f_evKind s.f_evThread s.f_evVal s.f_snap s.f_opKind s.f_opArg s.f_opInv s.f_opRes s.f_opStatus s.f_opRVal s.f_predMask s.f_openOp s.f_qBuf s.f_qLen s.f_nextCand x s.f_nThreads s.f_cap s.f_mask s.f_head s.f_tail s.f_histLen s.f_snapLen := by have _h := trivial; exact rfl
theorem own_e_nThreads (s : Q) (x : Int32) : s.s_nThreads x = Q.mk s.f_seq s.f_val s.f_st s.f_locP s.f_locV s.f_lastSt s.f_lastVal s.f_logKind s.f_evKind s.f_evThread s.f_evVal s.f_snap s.f_opKind s.f_opArg s.f_opInv s.f_opRes s.f_opStatus s.f_opRVal s.f_predMask s.f_openOp s.f_qBuf s.f_qLen s.f_nextCand s.f_chosen x s.f_cap s.f_mask s.f_head s.f_tail s.f_histLen s.f_snapLen := by have _h := trivial; exact rfl
theorem own_e_cap (s : Q) (x : Int32) : s.s_cap x = Q.mk s.f_seq s.f_val s.f_st s.f_locP s.f_locV s.f_lastSt s.f_lastVal s.f_logKind s.f_evKind s.f_evThread s.f_evVal s.f_snap s.f_opKind s.f_opArg s.f_opInv s.f_opRes s.f_opStatus s.f_opRVal s.f_predMask s.f_openOp s.f_qBuf s.f_qLen s.f_nextCand s.f_chosen s.f_nThreads x s.f_mask s.f_head s.f_tail s.f_histLen s.f_snapLen := by have _h := trivial; exact rfl
theorem own_e_mask (s : Q) (x : Int32) : s.s_mask x = Q.mk s.f_seq s.f_val s.f_st s.f_locP s.f_locV s.f_lastSt s.f_lastVal s.f_logKind s.f_evKind s.f_evThread s.f_evVal s.f_snap s.f_opKind s.f_opArg s.f_opInv s.f_opRes s.f_opStatus s.f_opRVal s.f_predMask s.f_openOp s.f_qBuf s.f_qLen s.f_nextCand s.f_chosen s.f_nThreads s.f_cap x s.f_head s.f_tail s.f_histLen s.f_snapLen := by have _h := trivial; exact rfl
theorem own_e_head (s : Q) (x : Int32) : s.s_head x = Q.mk s.f_seq s.f_val s.f_st s.f_locP s.f_locV s.f_lastSt s.f_lastVal s.f_logKind s.f_evKind s.f_evThread s.f_evVal s.f_snap s.f_opKind s.f_opArg s.f_opInv s.f_opRes s.f_opStatus s.f_opRVal s.f_predMask s.f_openOp s.f_qBuf s.f_qLen s.f_nextCand s.f_chosen s.f_nThreads s.f_cap s.f_mask x s.f_tail s.f_histLen s.f_snapLen := by have _h := trivial; exact rfl
theorem own_e_tail (s : Q) (x : Int32) : s.s_tail x = Q.mk s.f_seq s.f_val s.f_st s.f_locP s.f_locV s.f_lastSt s.f_lastVal s.f_logKind s.f_evKind s.f_evThread s.f_evVal s.f_snap s.f_opKind s.f_opArg s.f_opInv s.f_opRes s.f_opStatus s.f_opRVal s.f_predMask s.f_openOp s.f_qBuf s.f_qLen s.f_nextCand s.f_chosen s.f_nThreads s.f_cap s.f_mask s.f_head x s.f_histLen s.f_snapLen := by have _h := trivial; exact rfl
theorem own_e_histLen (s : Q) (x : Int32) : s.s_histLen x = Q.mk s.f_seq s.f_val s.f_st s.f_locP s.f_locV s.f_lastSt s.f_lastVal s.f_logKind s.f_evKind s.f_evThread s.f_evVal s.f_snap s.f_opKind s.f_opArg s.f_opInv s.f_opRes s.f_opStatus s.f_opRVal s.f_predMask s.f_openOp s.f_qBuf s.f_qLen s.f_nextCand s.f_chosen s.f_nThreads s.f_cap s.f_mask s.f_head s.f_tail x s.f_snapLen := by have _h := trivial; exact rfl
theorem own_e_snapLen (s : Q) (x : Int32) : s.s_snapLen x = Q.mk s.f_seq s.f_val s.f_st s.f_locP s.f_locV s.f_lastSt s.f_lastVal s.f_logKind s.f_evKind s.f_evThread s.f_evVal s.f_snap s.f_opKind s.f_opArg s.f_opInv s.f_opRes s.f_opStatus s.f_opRVal s.f_predMask s.f_openOp s.f_qBuf s.f_qLen s.f_nextCand s.f_chosen s.f_nThreads s.f_cap s.f_mask s.f_head s.f_tail s.f_histLen x := by have _h := trivial; exact rfl
theorem own_z_seq : Q0.f_seq = List.replicate 8 0 := by have _h := trivial; exact rfl
theorem own_z_val : Q0.f_val = List.replicate 8 0 := by have _h := trivial; exact rfl
theorem own_z_st : Q0.f_st = List.replicate 4 0 := by have _h := trivial; exact rfl
theorem own_z_locP : Q0.f_locP = List.replicate 4 0 := by have _h := trivial; exact rfl
theorem own_z_locV : Q0.f_locV = List.replicate 4 0 := by have _h := trivial; exact rfl
theorem own_z_lastSt : Q0.f_lastSt = List.replicate 4 0 := by have _h := trivial; exact rfl
theorem own_z_lastVal : Q0.f_lastVal = List.replicate 4 0 := by have _h := trivial; exact rfl
theorem own_z_logKind : Q0.f_logKind = List.replicate 4 0 := by have _h := trivial; exact rfl
theorem own_z_evKind : Q0.f_evKind = List.replicate 64 0 := by have _h := trivial; exact rfl
theorem own_z_evThread : Q0.f_evThread = List.replicate 64 0 := by have _h := trivial; exact rfl
theorem own_z_evVal : Q0.f_evVal = List.replicate 64 0 := by have _h := trivial; exact rfl
theorem own_z_snap : Q0.f_snap = List.replicate 8 0 := by have _h := trivial; exact rfl
theorem own_z_opKind : Q0.f_opKind = List.replicate 6 0 := by have _h := trivial; exact rfl
theorem own_z_opArg : Q0.f_opArg = List.replicate 6 0 := by have _h := trivial; exact rfl
theorem own_z_opInv : Q0.f_opInv = List.replicate 6 0 := by have _h := trivial; exact rfl
theorem own_z_opRes : Q0.f_opRes = List.replicate 6 0 := by have _h := trivial; exact rfl
theorem own_z_opStatus : Q0.f_opStatus = List.replicate 6 0 := by have _h := trivial; exact rfl
theorem own_z_opRVal : Q0.f_opRVal = List.replicate 6 0 := by have _h := trivial; exact rfl
theorem own_z_predMask : Q0.f_predMask = List.replicate 6 0 := by have _h := trivial; exact rfl
theorem own_z_openOp : Q0.f_openOp = List.replicate 4 0 := by have _h := trivial; exact rfl
theorem own_z_qBuf : Q0.f_qBuf = List.replicate 56 0 := by have _h := trivial; exact rfl
theorem own_z_qLen : Q0.f_qLen = List.replicate 7 0 := by have _h := trivial; exact rfl
theorem own_z_nextCand : Q0.f_nextCand = List.replicate 7 0 := by have _h := trivial; exact rfl
theorem own_z_chosen : Q0.f_chosen = List.replicate 7 0 := by have _h := trivial; exact rfl
theorem own_z_nThreads : Q0.f_nThreads = (0 : Int32) := by have _h := trivial; exact rfl
theorem own_z_cap : Q0.f_cap = (0 : Int32) := by have _h := trivial; exact rfl
theorem own_z_mask : Q0.f_mask = (0 : Int32) := by have _h := trivial; exact rfl
theorem own_z_head : Q0.f_head = (0 : Int32) := by have _h := trivial; exact rfl
theorem own_z_tail : Q0.f_tail = (0 : Int32) := by have _h := trivial; exact rfl
theorem own_z_histLen : Q0.f_histLen = (0 : Int32) := by have _h := trivial; exact rfl
theorem own_z_snapLen : Q0.f_snapLen = (0 : Int32) := by have _h := trivial; exact rfl
abbrev W0 (R : AHeap) : AHeap := R
def own_cells1 (q0 : List Int32) (q1 : List Int32) (q2 : List Int32) (q3 : List Int32) (q4 : List Int32) (q5 : List Int32) (q6 : List Int32) (q7 : List Int32) (q8 : List Int32) (q9 : List Int32) (q10 : List Int32) (q11 : List Int32) (q12 : List Int32) (q13 : List Int32) (q14 : List Int32) (q15 : List Int32) (q16 : List Int32) (q17 : List Int32) (q18 : List Int32) (q19 : List Int32) (q20 : List Int32) (q21 : List Int32) (q22 : List Int32) (q23 : List Int32) (q24 : Int32) (q25 : Int32) (q26 : Int32) (q27 : Int32) (q28 : Int32) (q29 : Int32) (q30 : Int32) (R : AHeap) : AHeap := .inl [.ref 1, .ref 2, .ref 3, .ref 4, .ref 5, .ref 6, .ref 7, .ref 8, .ref 9, .ref 10, .ref 11, .ref 12, .ref 13, .ref 14, .ref 15, .ref 16, .ref 17, .ref 18, .ref 19, .ref 20, .ref 21, .ref 22, .ref 23, .ref 24, .int q24, .int q25, .int q26, .int q27, .int q28, .int q29, .int q30] ::
  .inr (.inl (1, q0)) ::
  .inr (.inl (1, q1)) ::
  .inr (.inl (1, q2)) ::
  .inr (.inl (1, q3)) ::
  .inr (.inl (1, q4)) ::
  .inr (.inl (1, q5)) ::
  .inr (.inl (1, q6)) ::
  .inr (.inl (1, q7)) ::
  .inr (.inl (1, q8)) ::
  .inr (.inl (1, q9)) ::
  .inr (.inl (1, q10)) ::
  .inr (.inl (1, q11)) ::
  .inr (.inl (1, q12)) ::
  .inr (.inl (1, q13)) ::
  .inr (.inl (1, q14)) ::
  .inr (.inl (1, q15)) ::
  .inr (.inl (1, q16)) ::
  .inr (.inl (1, q17)) ::
  .inr (.inl (1, q18)) ::
  .inr (.inl (1, q19)) ::
  .inr (.inl (1, q20)) ::
  .inr (.inl (1, q21)) ::
  .inr (.inl (1, q22)) ::
  .inr (.inl (1, q23)) ::
  R
def C1 (q0 : List Int32) (q1 : List Int32) (q2 : List Int32) (q3 : List Int32) (q4 : List Int32) (q5 : List Int32) (q6 : List Int32) (q7 : List Int32) (q8 : List Int32) (q9 : List Int32) (q10 : List Int32) (q11 : List Int32) (q12 : List Int32) (q13 : List Int32) (q14 : List Int32) (q15 : List Int32) (q16 : List Int32) (q17 : List Int32) (q18 : List Int32) (q19 : List Int32) (q20 : List Int32) (q21 : List Int32) (q22 : List Int32) (q23 : List Int32) (q24 : Int32) (q25 : Int32) (q26 : Int32) (q27 : Int32) (q28 : Int32) (q29 : Int32) (q30 : Int32) (R : AHeap) : AHeap := own_cells1 q0 q1 q2 q3 q4 q5 q6 q7 q8 q9 q10 q11 q12 q13 q14 q15 q16 q17 q18 q19 q20 q21 q22 q23 q24 q25 q26 q27 q28 q29 q30 R
abbrev W1 (s : Q) (R : AHeap) : AHeap := C1 s.f_seq s.f_val s.f_st s.f_locP s.f_locV s.f_lastSt s.f_lastVal s.f_logKind s.f_evKind s.f_evThread s.f_evVal s.f_snap s.f_opKind s.f_opArg s.f_opInv s.f_opRes s.f_opStatus s.f_opRVal s.f_predMask s.f_openOp s.f_qBuf s.f_qLen s.f_nextCand s.f_chosen s.f_nThreads s.f_cap s.f_mask s.f_head s.f_tail s.f_histLen s.f_snapLen R
theorem own_g1_seq {q0 : List Int32} {q1 : List Int32} {q2 : List Int32} {q3 : List Int32} {q4 : List Int32} {q5 : List Int32} {q6 : List Int32} {q7 : List Int32} {q8 : List Int32} {q9 : List Int32} {q10 : List Int32} {q11 : List Int32} {q12 : List Int32} {q13 : List Int32} {q14 : List Int32} {q15 : List Int32} {q16 : List Int32} {q17 : List Int32} {q18 : List Int32} {q19 : List Int32} {q20 : List Int32} {q21 : List Int32} {q22 : List Int32} {q23 : List Int32} {q24 : Int32} {q25 : Int32} {q26 : Int32} {q27 : Int32} {q28 : Int32} {q29 : Int32} {q30 : Int32} {R : AHeap} : getC (C1 q0 q1 q2 q3 q4 q5 q6 q7 q8 q9 q10 q11 q12 q13 q14 q15 q16 q17 q18 q19 q20 q21 q22 q23 q24 q25 q26 q27 q28 q29 q30 R) 0 0 = some (.ref 1) := rfl
theorem own_a1_seq {q0 : List Int32} {q1 : List Int32} {q2 : List Int32} {q3 : List Int32} {q4 : List Int32} {q5 : List Int32} {q6 : List Int32} {q7 : List Int32} {q8 : List Int32} {q9 : List Int32} {q10 : List Int32} {q11 : List Int32} {q12 : List Int32} {q13 : List Int32} {q14 : List Int32} {q15 : List Int32} {q16 : List Int32} {q17 : List Int32} {q18 : List Int32} {q19 : List Int32} {q20 : List Int32} {q21 : List Int32} {q22 : List Int32} {q23 : List Int32} {q24 : Int32} {q25 : Int32} {q26 : Int32} {q27 : Int32} {q28 : Int32} {q29 : Int32} {q30 : Int32} {R : AHeap} : (C1 q0 q1 q2 q3 q4 q5 q6 q7 q8 q9 q10 q11 q12 q13 q14 q15 q16 q17 q18 q19 q20 q21 q22 q23 q24 q25 q26 q27 q28 q29 q30 R)[1]? = some (.inr (.inl (1, q0))) := rfl
theorem own_s1_seq {q0 : List Int32} {q1 : List Int32} {q2 : List Int32} {q3 : List Int32} {q4 : List Int32} {q5 : List Int32} {q6 : List Int32} {q7 : List Int32} {q8 : List Int32} {q9 : List Int32} {q10 : List Int32} {q11 : List Int32} {q12 : List Int32} {q13 : List Int32} {q14 : List Int32} {q15 : List Int32} {q16 : List Int32} {q17 : List Int32} {q18 : List Int32} {q19 : List Int32} {q20 : List Int32} {q21 : List Int32} {q22 : List Int32} {q23 : List Int32} {q24 : Int32} {q25 : Int32} {q26 : Int32} {q27 : Int32} {q28 : Int32} {q29 : Int32} {q30 : Int32} {R : AHeap} {x : List Int32} : (C1 q0 q1 q2 q3 q4 q5 q6 q7 q8 q9 q10 q11 q12 q13 q14 q15 q16 q17 q18 q19 q20 q21 q22 q23 q24 q25 q26 q27 q28 q29 q30 R).set 1 (.inr (.inl (1, x))) = (C1 x q1 q2 q3 q4 q5 q6 q7 q8 q9 q10 q11 q12 q13 q14 q15 q16 q17 q18 q19 q20 q21 q22 q23 q24 q25 q26 q27 q28 q29 q30 R) := rfl
theorem own_g1_val {q0 : List Int32} {q1 : List Int32} {q2 : List Int32} {q3 : List Int32} {q4 : List Int32} {q5 : List Int32} {q6 : List Int32} {q7 : List Int32} {q8 : List Int32} {q9 : List Int32} {q10 : List Int32} {q11 : List Int32} {q12 : List Int32} {q13 : List Int32} {q14 : List Int32} {q15 : List Int32} {q16 : List Int32} {q17 : List Int32} {q18 : List Int32} {q19 : List Int32} {q20 : List Int32} {q21 : List Int32} {q22 : List Int32} {q23 : List Int32} {q24 : Int32} {q25 : Int32} {q26 : Int32} {q27 : Int32} {q28 : Int32} {q29 : Int32} {q30 : Int32} {R : AHeap} : getC (C1 q0 q1 q2 q3 q4 q5 q6 q7 q8 q9 q10 q11 q12 q13 q14 q15 q16 q17 q18 q19 q20 q21 q22 q23 q24 q25 q26 q27 q28 q29 q30 R) 0 1 = some (.ref 2) := rfl
theorem own_a1_val {q0 : List Int32} {q1 : List Int32} {q2 : List Int32} {q3 : List Int32} {q4 : List Int32} {q5 : List Int32} {q6 : List Int32} {q7 : List Int32} {q8 : List Int32} {q9 : List Int32} {q10 : List Int32} {q11 : List Int32} {q12 : List Int32} {q13 : List Int32} {q14 : List Int32} {q15 : List Int32} {q16 : List Int32} {q17 : List Int32} {q18 : List Int32} {q19 : List Int32} {q20 : List Int32} {q21 : List Int32} {q22 : List Int32} {q23 : List Int32} {q24 : Int32} {q25 : Int32} {q26 : Int32} {q27 : Int32} {q28 : Int32} {q29 : Int32} {q30 : Int32} {R : AHeap} : (C1 q0 q1 q2 q3 q4 q5 q6 q7 q8 q9 q10 q11 q12 q13 q14 q15 q16 q17 q18 q19 q20 q21 q22 q23 q24 q25 q26 q27 q28 q29 q30 R)[2]? = some (.inr (.inl (1, q1))) := rfl
theorem own_s1_val {q0 : List Int32} {q1 : List Int32} {q2 : List Int32} {q3 : List Int32} {q4 : List Int32} {q5 : List Int32} {q6 : List Int32} {q7 : List Int32} {q8 : List Int32} {q9 : List Int32} {q10 : List Int32} {q11 : List Int32} {q12 : List Int32} {q13 : List Int32} {q14 : List Int32} {q15 : List Int32} {q16 : List Int32} {q17 : List Int32} {q18 : List Int32} {q19 : List Int32} {q20 : List Int32} {q21 : List Int32} {q22 : List Int32} {q23 : List Int32} {q24 : Int32} {q25 : Int32} {q26 : Int32} {q27 : Int32} {q28 : Int32} {q29 : Int32} {q30 : Int32} {R : AHeap} {x : List Int32} : (C1 q0 q1 q2 q3 q4 q5 q6 q7 q8 q9 q10 q11 q12 q13 q14 q15 q16 q17 q18 q19 q20 q21 q22 q23 q24 q25 q26 q27 q28 q29 q30 R).set 2 (.inr (.inl (1, x))) = (C1 q0 x q2 q3 q4 q5 q6 q7 q8 q9 q10 q11 q12 q13 q14 q15 q16 q17 q18 q19 q20 q21 q22 q23 q24 q25 q26 q27 q28 q29 q30 R) := rfl
theorem own_g1_st {q0 : List Int32} {q1 : List Int32} {q2 : List Int32} {q3 : List Int32} {q4 : List Int32} {q5 : List Int32} {q6 : List Int32} {q7 : List Int32} {q8 : List Int32} {q9 : List Int32} {q10 : List Int32} {q11 : List Int32} {q12 : List Int32} {q13 : List Int32} {q14 : List Int32} {q15 : List Int32} {q16 : List Int32} {q17 : List Int32} {q18 : List Int32} {q19 : List Int32} {q20 : List Int32} {q21 : List Int32} {q22 : List Int32} {q23 : List Int32} {q24 : Int32} {q25 : Int32} {q26 : Int32} {q27 : Int32} {q28 : Int32} {q29 : Int32} {q30 : Int32} {R : AHeap} : getC (C1 q0 q1 q2 q3 q4 q5 q6 q7 q8 q9 q10 q11 q12 q13 q14 q15 q16 q17 q18 q19 q20 q21 q22 q23 q24 q25 q26 q27 q28 q29 q30 R) 0 2 = some (.ref 3) := rfl
theorem own_a1_st {q0 : List Int32} {q1 : List Int32} {q2 : List Int32} {q3 : List Int32} {q4 : List Int32} {q5 : List Int32} {q6 : List Int32} {q7 : List Int32} {q8 : List Int32} {q9 : List Int32} {q10 : List Int32} {q11 : List Int32} {q12 : List Int32} {q13 : List Int32} {q14 : List Int32} {q15 : List Int32} {q16 : List Int32} {q17 : List Int32} {q18 : List Int32} {q19 : List Int32} {q20 : List Int32} {q21 : List Int32} {q22 : List Int32} {q23 : List Int32} {q24 : Int32} {q25 : Int32} {q26 : Int32} {q27 : Int32} {q28 : Int32} {q29 : Int32} {q30 : Int32} {R : AHeap} : (C1 q0 q1 q2 q3 q4 q5 q6 q7 q8 q9 q10 q11 q12 q13 q14 q15 q16 q17 q18 q19 q20 q21 q22 q23 q24 q25 q26 q27 q28 q29 q30 R)[3]? = some (.inr (.inl (1, q2))) := rfl
theorem own_s1_st {q0 : List Int32} {q1 : List Int32} {q2 : List Int32} {q3 : List Int32} {q4 : List Int32} {q5 : List Int32} {q6 : List Int32} {q7 : List Int32} {q8 : List Int32} {q9 : List Int32} {q10 : List Int32} {q11 : List Int32} {q12 : List Int32} {q13 : List Int32} {q14 : List Int32} {q15 : List Int32} {q16 : List Int32} {q17 : List Int32} {q18 : List Int32} {q19 : List Int32} {q20 : List Int32} {q21 : List Int32} {q22 : List Int32} {q23 : List Int32} {q24 : Int32} {q25 : Int32} {q26 : Int32} {q27 : Int32} {q28 : Int32} {q29 : Int32} {q30 : Int32} {R : AHeap} {x : List Int32} : (C1 q0 q1 q2 q3 q4 q5 q6 q7 q8 q9 q10 q11 q12 q13 q14 q15 q16 q17 q18 q19 q20 q21 q22 q23 q24 q25 q26 q27 q28 q29 q30 R).set 3 (.inr (.inl (1, x))) = (C1 q0 q1 x q3 q4 q5 q6 q7 q8 q9 q10 q11 q12 q13 q14 q15 q16 q17 q18 q19 q20 q21 q22 q23 q24 q25 q26 q27 q28 q29 q30 R) := rfl
theorem own_g1_locP {q0 : List Int32} {q1 : List Int32} {q2 : List Int32} {q3 : List Int32} {q4 : List Int32} {q5 : List Int32} {q6 : List Int32} {q7 : List Int32} {q8 : List Int32} {q9 : List Int32} {q10 : List Int32} {q11 : List Int32} {q12 : List Int32} {q13 : List Int32} {q14 : List Int32} {q15 : List Int32} {q16 : List Int32} {q17 : List Int32} {q18 : List Int32} {q19 : List Int32} {q20 : List Int32} {q21 : List Int32} {q22 : List Int32} {q23 : List Int32} {q24 : Int32} {q25 : Int32} {q26 : Int32} {q27 : Int32} {q28 : Int32} {q29 : Int32} {q30 : Int32} {R : AHeap} : getC (C1 q0 q1 q2 q3 q4 q5 q6 q7 q8 q9 q10 q11 q12 q13 q14 q15 q16 q17 q18 q19 q20 q21 q22 q23 q24 q25 q26 q27 q28 q29 q30 R) 0 3 = some (.ref 4) := rfl
theorem own_a1_locP {q0 : List Int32} {q1 : List Int32} {q2 : List Int32} {q3 : List Int32} {q4 : List Int32} {q5 : List Int32} {q6 : List Int32} {q7 : List Int32} {q8 : List Int32} {q9 : List Int32} {q10 : List Int32} {q11 : List Int32} {q12 : List Int32} {q13 : List Int32} {q14 : List Int32} {q15 : List Int32} {q16 : List Int32} {q17 : List Int32} {q18 : List Int32} {q19 : List Int32} {q20 : List Int32} {q21 : List Int32} {q22 : List Int32} {q23 : List Int32} {q24 : Int32} {q25 : Int32} {q26 : Int32} {q27 : Int32} {q28 : Int32} {q29 : Int32} {q30 : Int32} {R : AHeap} : (C1 q0 q1 q2 q3 q4 q5 q6 q7 q8 q9 q10 q11 q12 q13 q14 q15 q16 q17 q18 q19 q20 q21 q22 q23 q24 q25 q26 q27 q28 q29 q30 R)[4]? = some (.inr (.inl (1, q3))) := rfl
theorem own_s1_locP {q0 : List Int32} {q1 : List Int32} {q2 : List Int32} {q3 : List Int32} {q4 : List Int32} {q5 : List Int32} {q6 : List Int32} {q7 : List Int32} {q8 : List Int32} {q9 : List Int32} {q10 : List Int32} {q11 : List Int32} {q12 : List Int32} {q13 : List Int32} {q14 : List Int32} {q15 : List Int32} {q16 : List Int32} {q17 : List Int32} {q18 : List Int32} {q19 : List Int32} {q20 : List Int32} {q21 : List Int32} {q22 : List Int32} {q23 : List Int32} {q24 : Int32} {q25 : Int32} {q26 : Int32} {q27 : Int32} {q28 : Int32} {q29 : Int32} {q30 : Int32} {R : AHeap} {x : List Int32} : (C1 q0 q1 q2 q3 q4 q5 q6 q7 q8 q9 q10 q11 q12 q13 q14 q15 q16 q17 q18 q19 q20 q21 q22 q23 q24 q25 q26 q27 q28 q29 q30 R).set 4 (.inr (.inl (1, x))) = (C1 q0 q1 q2 x q4 q5 q6 q7 q8 q9 q10 q11 q12 q13 q14 q15 q16 q17 q18 q19 q20 q21 q22 q23 q24 q25 q26 q27 q28 q29 q30 R) := rfl
theorem own_g1_locV {q0 : List Int32} {q1 : List Int32} {q2 : List Int32} {q3 : List Int32} {q4 : List Int32} {q5 : List Int32} {q6 : List Int32} {q7 : List Int32} {q8 : List Int32} {q9 : List Int32} {q10 : List Int32} {q11 : List Int32} {q12 : List Int32} {q13 : List Int32} {q14 : List Int32} {q15 : List Int32} {q16 : List Int32} {q17 : List Int32} {q18 : List Int32} {q19 : List Int32} {q20 : List Int32} {q21 : List Int32} {q22 : List Int32} {q23 : List Int32} {q24 : Int32} {q25 : Int32} {q26 : Int32} {q27 : Int32} {q28 : Int32} {q29 : Int32} {q30 : Int32} {R : AHeap} : getC (C1 q0 q1 q2 q3 q4 q5 q6 q7 q8 q9 q10 q11 q12 q13 q14 q15 q16 q17 q18 q19 q20 q21 q22 q23 q24 q25 q26 q27 q28 q29 q30 R) 0 4 = some (.ref 5) := rfl
theorem own_a1_locV {q0 : List Int32} {q1 : List Int32} {q2 : List Int32} {q3 : List Int32} {q4 : List Int32} {q5 : List Int32} {q6 : List Int32} {q7 : List Int32} {q8 : List Int32} {q9 : List Int32} {q10 : List Int32} {q11 : List Int32} {q12 : List Int32} {q13 : List Int32} {q14 : List Int32} {q15 : List Int32} {q16 : List Int32} {q17 : List Int32} {q18 : List Int32} {q19 : List Int32} {q20 : List Int32} {q21 : List Int32} {q22 : List Int32} {q23 : List Int32} {q24 : Int32} {q25 : Int32} {q26 : Int32} {q27 : Int32} {q28 : Int32} {q29 : Int32} {q30 : Int32} {R : AHeap} : (C1 q0 q1 q2 q3 q4 q5 q6 q7 q8 q9 q10 q11 q12 q13 q14 q15 q16 q17 q18 q19 q20 q21 q22 q23 q24 q25 q26 q27 q28 q29 q30 R)[5]? = some (.inr (.inl (1, q4))) := rfl
theorem own_s1_locV {q0 : List Int32} {q1 : List Int32} {q2 : List Int32} {q3 : List Int32} {q4 : List Int32} {q5 : List Int32} {q6 : List Int32} {q7 : List Int32} {q8 : List Int32} {q9 : List Int32} {q10 : List Int32} {q11 : List Int32} {q12 : List Int32} {q13 : List Int32} {q14 : List Int32} {q15 : List Int32} {q16 : List Int32} {q17 : List Int32} {q18 : List Int32} {q19 : List Int32} {q20 : List Int32} {q21 : List Int32} {q22 : List Int32} {q23 : List Int32} {q24 : Int32} {q25 : Int32} {q26 : Int32} {q27 : Int32} {q28 : Int32} {q29 : Int32} {q30 : Int32} {R : AHeap} {x : List Int32} : (C1 q0 q1 q2 q3 q4 q5 q6 q7 q8 q9 q10 q11 q12 q13 q14 q15 q16 q17 q18 q19 q20 q21 q22 q23 q24 q25 q26 q27 q28 q29 q30 R).set 5 (.inr (.inl (1, x))) = (C1 q0 q1 q2 q3 x q5 q6 q7 q8 q9 q10 q11 q12 q13 q14 q15 q16 q17 q18 q19 q20 q21 q22 q23 q24 q25 q26 q27 q28 q29 q30 R) := rfl
theorem own_g1_lastSt {q0 : List Int32} {q1 : List Int32} {q2 : List Int32} {q3 : List Int32} {q4 : List Int32} {q5 : List Int32} {q6 : List Int32} {q7 : List Int32} {q8 : List Int32} {q9 : List Int32} {q10 : List Int32} {q11 : List Int32} {q12 : List Int32} {q13 : List Int32} {q14 : List Int32} {q15 : List Int32} {q16 : List Int32} {q17 : List Int32} {q18 : List Int32} {q19 : List Int32} {q20 : List Int32} {q21 : List Int32} {q22 : List Int32} {q23 : List Int32} {q24 : Int32} {q25 : Int32} {q26 : Int32} {q27 : Int32} {q28 : Int32} {q29 : Int32} {q30 : Int32} {R : AHeap} : getC (C1 q0 q1 q2 q3 q4 q5 q6 q7 q8 q9 q10 q11 q12 q13 q14 q15 q16 q17 q18 q19 q20 q21 q22 q23 q24 q25 q26 q27 q28 q29 q30 R) 0 5 = some (.ref 6) := rfl
theorem own_a1_lastSt {q0 : List Int32} {q1 : List Int32} {q2 : List Int32} {q3 : List Int32} {q4 : List Int32} {q5 : List Int32} {q6 : List Int32} {q7 : List Int32} {q8 : List Int32} {q9 : List Int32} {q10 : List Int32} {q11 : List Int32} {q12 : List Int32} {q13 : List Int32} {q14 : List Int32} {q15 : List Int32} {q16 : List Int32} {q17 : List Int32} {q18 : List Int32} {q19 : List Int32} {q20 : List Int32} {q21 : List Int32} {q22 : List Int32} {q23 : List Int32} {q24 : Int32} {q25 : Int32} {q26 : Int32} {q27 : Int32} {q28 : Int32} {q29 : Int32} {q30 : Int32} {R : AHeap} : (C1 q0 q1 q2 q3 q4 q5 q6 q7 q8 q9 q10 q11 q12 q13 q14 q15 q16 q17 q18 q19 q20 q21 q22 q23 q24 q25 q26 q27 q28 q29 q30 R)[6]? = some (.inr (.inl (1, q5))) := rfl
theorem own_s1_lastSt {q0 : List Int32} {q1 : List Int32} {q2 : List Int32} {q3 : List Int32} {q4 : List Int32} {q5 : List Int32} {q6 : List Int32} {q7 : List Int32} {q8 : List Int32} {q9 : List Int32} {q10 : List Int32} {q11 : List Int32} {q12 : List Int32} {q13 : List Int32} {q14 : List Int32} {q15 : List Int32} {q16 : List Int32} {q17 : List Int32} {q18 : List Int32} {q19 : List Int32} {q20 : List Int32} {q21 : List Int32} {q22 : List Int32} {q23 : List Int32} {q24 : Int32} {q25 : Int32} {q26 : Int32} {q27 : Int32} {q28 : Int32} {q29 : Int32} {q30 : Int32} {R : AHeap} {x : List Int32} : (C1 q0 q1 q2 q3 q4 q5 q6 q7 q8 q9 q10 q11 q12 q13 q14 q15 q16 q17 q18 q19 q20 q21 q22 q23 q24 q25 q26 q27 q28 q29 q30 R).set 6 (.inr (.inl (1, x))) = (C1 q0 q1 q2 q3 q4 x q6 q7 q8 q9 q10 q11 q12 q13 q14 q15 q16 q17 q18 q19 q20 q21 q22 q23 q24 q25 q26 q27 q28 q29 q30 R) := rfl
theorem own_g1_lastVal {q0 : List Int32} {q1 : List Int32} {q2 : List Int32} {q3 : List Int32} {q4 : List Int32} {q5 : List Int32} {q6 : List Int32} {q7 : List Int32} {q8 : List Int32} {q9 : List Int32} {q10 : List Int32} {q11 : List Int32} {q12 : List Int32} {q13 : List Int32} {q14 : List Int32} {q15 : List Int32} {q16 : List Int32} {q17 : List Int32} {q18 : List Int32} {q19 : List Int32} {q20 : List Int32} {q21 : List Int32} {q22 : List Int32} {q23 : List Int32} {q24 : Int32} {q25 : Int32} {q26 : Int32} {q27 : Int32} {q28 : Int32} {q29 : Int32} {q30 : Int32} {R : AHeap} : getC (C1 q0 q1 q2 q3 q4 q5 q6 q7 q8 q9 q10 q11 q12 q13 q14 q15 q16 q17 q18 q19 q20 q21 q22 q23 q24 q25 q26 q27 q28 q29 q30 R) 0 6 = some (.ref 7) := rfl
theorem own_a1_lastVal {q0 : List Int32} {q1 : List Int32} {q2 : List Int32} {q3 : List Int32} {q4 : List Int32} {q5 : List Int32} {q6 : List Int32} {q7 : List Int32} {q8 : List Int32} {q9 : List Int32} {q10 : List Int32} {q11 : List Int32} {q12 : List Int32} {q13 : List Int32} {q14 : List Int32} {q15 : List Int32} {q16 : List Int32} {q17 : List Int32} {q18 : List Int32} {q19 : List Int32} {q20 : List Int32} {q21 : List Int32} {q22 : List Int32} {q23 : List Int32} {q24 : Int32} {q25 : Int32} {q26 : Int32} {q27 : Int32} {q28 : Int32} {q29 : Int32} {q30 : Int32} {R : AHeap} : (C1 q0 q1 q2 q3 q4 q5 q6 q7 q8 q9 q10 q11 q12 q13 q14 q15 q16 q17 q18 q19 q20 q21 q22 q23 q24 q25 q26 q27 q28 q29 q30 R)[7]? = some (.inr (.inl (1, q6))) := rfl
theorem own_s1_lastVal {q0 : List Int32} {q1 : List Int32} {q2 : List Int32} {q3 : List Int32} {q4 : List Int32} {q5 : List Int32} {q6 : List Int32} {q7 : List Int32} {q8 : List Int32} {q9 : List Int32} {q10 : List Int32} {q11 : List Int32} {q12 : List Int32} {q13 : List Int32} {q14 : List Int32} {q15 : List Int32} {q16 : List Int32} {q17 : List Int32} {q18 : List Int32} {q19 : List Int32} {q20 : List Int32} {q21 : List Int32} {q22 : List Int32} {q23 : List Int32} {q24 : Int32} {q25 : Int32} {q26 : Int32} {q27 : Int32} {q28 : Int32} {q29 : Int32} {q30 : Int32} {R : AHeap} {x : List Int32} : (C1 q0 q1 q2 q3 q4 q5 q6 q7 q8 q9 q10 q11 q12 q13 q14 q15 q16 q17 q18 q19 q20 q21 q22 q23 q24 q25 q26 q27 q28 q29 q30 R).set 7 (.inr (.inl (1, x))) = (C1 q0 q1 q2 q3 q4 q5 x q7 q8 q9 q10 q11 q12 q13 q14 q15 q16 q17 q18 q19 q20 q21 q22 q23 q24 q25 q26 q27 q28 q29 q30 R) := rfl
theorem own_g1_logKind {q0 : List Int32} {q1 : List Int32} {q2 : List Int32} {q3 : List Int32} {q4 : List Int32} {q5 : List Int32} {q6 : List Int32} {q7 : List Int32} {q8 : List Int32} {q9 : List Int32} {q10 : List Int32} {q11 : List Int32} {q12 : List Int32} {q13 : List Int32} {q14 : List Int32} {q15 : List Int32} {q16 : List Int32} {q17 : List Int32} {q18 : List Int32} {q19 : List Int32} {q20 : List Int32} {q21 : List Int32} {q22 : List Int32} {q23 : List Int32} {q24 : Int32} {q25 : Int32} {q26 : Int32} {q27 : Int32} {q28 : Int32} {q29 : Int32} {q30 : Int32} {R : AHeap} : getC (C1 q0 q1 q2 q3 q4 q5 q6 q7 q8 q9 q10 q11 q12 q13 q14 q15 q16 q17 q18 q19 q20 q21 q22 q23 q24 q25 q26 q27 q28 q29 q30 R) 0 7 = some (.ref 8) := rfl
theorem own_a1_logKind {q0 : List Int32} {q1 : List Int32} {q2 : List Int32} {q3 : List Int32} {q4 : List Int32} {q5 : List Int32} {q6 : List Int32} {q7 : List Int32} {q8 : List Int32} {q9 : List Int32} {q10 : List Int32} {q11 : List Int32} {q12 : List Int32} {q13 : List Int32} {q14 : List Int32} {q15 : List Int32} {q16 : List Int32} {q17 : List Int32} {q18 : List Int32} {q19 : List Int32} {q20 : List Int32} {q21 : List Int32} {q22 : List Int32} {q23 : List Int32} {q24 : Int32} {q25 : Int32} {q26 : Int32} {q27 : Int32} {q28 : Int32} {q29 : Int32} {q30 : Int32} {R : AHeap} : (C1 q0 q1 q2 q3 q4 q5 q6 q7 q8 q9 q10 q11 q12 q13 q14 q15 q16 q17 q18 q19 q20 q21 q22 q23 q24 q25 q26 q27 q28 q29 q30 R)[8]? = some (.inr (.inl (1, q7))) := rfl
theorem own_s1_logKind {q0 : List Int32} {q1 : List Int32} {q2 : List Int32} {q3 : List Int32} {q4 : List Int32} {q5 : List Int32} {q6 : List Int32} {q7 : List Int32} {q8 : List Int32} {q9 : List Int32} {q10 : List Int32} {q11 : List Int32} {q12 : List Int32} {q13 : List Int32} {q14 : List Int32} {q15 : List Int32} {q16 : List Int32} {q17 : List Int32} {q18 : List Int32} {q19 : List Int32} {q20 : List Int32} {q21 : List Int32} {q22 : List Int32} {q23 : List Int32} {q24 : Int32} {q25 : Int32} {q26 : Int32} {q27 : Int32} {q28 : Int32} {q29 : Int32} {q30 : Int32} {R : AHeap} {x : List Int32} : (C1 q0 q1 q2 q3 q4 q5 q6 q7 q8 q9 q10 q11 q12 q13 q14 q15 q16 q17 q18 q19 q20 q21 q22 q23 q24 q25 q26 q27 q28 q29 q30 R).set 8 (.inr (.inl (1, x))) = (C1 q0 q1 q2 q3 q4 q5 q6 x q8 q9 q10 q11 q12 q13 q14 q15 q16 q17 q18 q19 q20 q21 q22 q23 q24 q25 q26 q27 q28 q29 q30 R) := rfl
theorem own_g1_evKind {q0 : List Int32} {q1 : List Int32} {q2 : List Int32} {q3 : List Int32} {q4 : List Int32} {q5 : List Int32} {q6 : List Int32} {q7 : List Int32} {q8 : List Int32} {q9 : List Int32} {q10 : List Int32} {q11 : List Int32} {q12 : List Int32} {q13 : List Int32} {q14 : List Int32} {q15 : List Int32} {q16 : List Int32} {q17 : List Int32} {q18 : List Int32} {q19 : List Int32} {q20 : List Int32} {q21 : List Int32} {q22 : List Int32} {q23 : List Int32} {q24 : Int32} {q25 : Int32} {q26 : Int32} {q27 : Int32} {q28 : Int32} {q29 : Int32} {q30 : Int32} {R : AHeap} : getC (C1 q0 q1 q2 q3 q4 q5 q6 q7 q8 q9 q10 q11 q12 q13 q14 q15 q16 q17 q18 q19 q20 q21 q22 q23 q24 q25 q26 q27 q28 q29 q30 R) 0 8 = some (.ref 9) := rfl
theorem own_a1_evKind {q0 : List Int32} {q1 : List Int32} {q2 : List Int32} {q3 : List Int32} {q4 : List Int32} {q5 : List Int32} {q6 : List Int32} {q7 : List Int32} {q8 : List Int32} {q9 : List Int32} {q10 : List Int32} {q11 : List Int32} {q12 : List Int32} {q13 : List Int32} {q14 : List Int32} {q15 : List Int32} {q16 : List Int32} {q17 : List Int32} {q18 : List Int32} {q19 : List Int32} {q20 : List Int32} {q21 : List Int32} {q22 : List Int32} {q23 : List Int32} {q24 : Int32} {q25 : Int32} {q26 : Int32} {q27 : Int32} {q28 : Int32} {q29 : Int32} {q30 : Int32} {R : AHeap} : (C1 q0 q1 q2 q3 q4 q5 q6 q7 q8 q9 q10 q11 q12 q13 q14 q15 q16 q17 q18 q19 q20 q21 q22 q23 q24 q25 q26 q27 q28 q29 q30 R)[9]? = some (.inr (.inl (1, q8))) := rfl
theorem own_s1_evKind {q0 : List Int32} {q1 : List Int32} {q2 : List Int32} {q3 : List Int32} {q4 : List Int32} {q5 : List Int32} {q6 : List Int32} {q7 : List Int32} {q8 : List Int32} {q9 : List Int32} {q10 : List Int32} {q11 : List Int32} {q12 : List Int32} {q13 : List Int32} {q14 : List Int32} {q15 : List Int32} {q16 : List Int32} {q17 : List Int32} {q18 : List Int32} {q19 : List Int32} {q20 : List Int32} {q21 : List Int32} {q22 : List Int32} {q23 : List Int32} {q24 : Int32} {q25 : Int32} {q26 : Int32} {q27 : Int32} {q28 : Int32} {q29 : Int32} {q30 : Int32} {R : AHeap} {x : List Int32} : (C1 q0 q1 q2 q3 q4 q5 q6 q7 q8 q9 q10 q11 q12 q13 q14 q15 q16 q17 q18 q19 q20 q21 q22 q23 q24 q25 q26 q27 q28 q29 q30 R).set 9 (.inr (.inl (1, x))) = (C1 q0 q1 q2 q3 q4 q5 q6 q7 x q9 q10 q11 q12 q13 q14 q15 q16 q17 q18 q19 q20 q21 q22 q23 q24 q25 q26 q27 q28 q29 q30 R) := rfl
theorem own_g1_evThread {q0 : List Int32} {q1 : List Int32} {q2 : List Int32} {q3 : List Int32} {q4 : List Int32} {q5 : List Int32} {q6 : List Int32} {q7 : List Int32} {q8 : List Int32} {q9 : List Int32} {q10 : List Int32} {q11 : List Int32} {q12 : List Int32} {q13 : List Int32} {q14 : List Int32} {q15 : List Int32} {q16 : List Int32} {q17 : List Int32} {q18 : List Int32} {q19 : List Int32} {q20 : List Int32} {q21 : List Int32} {q22 : List Int32} {q23 : List Int32} {q24 : Int32} {q25 : Int32} {q26 : Int32} {q27 : Int32} {q28 : Int32} {q29 : Int32} {q30 : Int32} {R : AHeap} : getC (C1 q0 q1 q2 q3 q4 q5 q6 q7 q8 q9 q10 q11 q12 q13 q14 q15 q16 q17 q18 q19 q20 q21 q22 q23 q24 q25 q26 q27 q28 q29 q30 R) 0 9 = some (.ref 10) := rfl
theorem own_a1_evThread {q0 : List Int32} {q1 : List Int32} {q2 : List Int32} {q3 : List Int32} {q4 : List Int32} {q5 : List Int32} {q6 : List Int32} {q7 : List Int32} {q8 : List Int32} {q9 : List Int32} {q10 : List Int32} {q11 : List Int32} {q12 : List Int32} {q13 : List Int32} {q14 : List Int32} {q15 : List Int32} {q16 : List Int32} {q17 : List Int32} {q18 : List Int32} {q19 : List Int32} {q20 : List Int32} {q21 : List Int32} {q22 : List Int32} {q23 : List Int32} {q24 : Int32} {q25 : Int32} {q26 : Int32} {q27 : Int32} {q28 : Int32} {q29 : Int32} {q30 : Int32} {R : AHeap} : (C1 q0 q1 q2 q3 q4 q5 q6 q7 q8 q9 q10 q11 q12 q13 q14 q15 q16 q17 q18 q19 q20 q21 q22 q23 q24 q25 q26 q27 q28 q29 q30 R)[10]? = some (.inr (.inl (1, q9))) := rfl
theorem own_s1_evThread {q0 : List Int32} {q1 : List Int32} {q2 : List Int32} {q3 : List Int32} {q4 : List Int32} {q5 : List Int32} {q6 : List Int32} {q7 : List Int32} {q8 : List Int32} {q9 : List Int32} {q10 : List Int32} {q11 : List Int32} {q12 : List Int32} {q13 : List Int32} {q14 : List Int32} {q15 : List Int32} {q16 : List Int32} {q17 : List Int32} {q18 : List Int32} {q19 : List Int32} {q20 : List Int32} {q21 : List Int32} {q22 : List Int32} {q23 : List Int32} {q24 : Int32} {q25 : Int32} {q26 : Int32} {q27 : Int32} {q28 : Int32} {q29 : Int32} {q30 : Int32} {R : AHeap} {x : List Int32} : (C1 q0 q1 q2 q3 q4 q5 q6 q7 q8 q9 q10 q11 q12 q13 q14 q15 q16 q17 q18 q19 q20 q21 q22 q23 q24 q25 q26 q27 q28 q29 q30 R).set 10 (.inr (.inl (1, x))) = (C1 q0 q1 q2 q3 q4 q5 q6 q7 q8 x q10 q11 q12 q13 q14 q15 q16 q17 q18 q19 q20 q21 q22 q23 q24 q25 q26 q27 q28 q29 q30 R) := rfl
theorem own_g1_evVal {q0 : List Int32} {q1 : List Int32} {q2 : List Int32} {q3 : List Int32} {q4 : List Int32} {q5 : List Int32} {q6 : List Int32} {q7 : List Int32} {q8 : List Int32} {q9 : List Int32} {q10 : List Int32} {q11 : List Int32} {q12 : List Int32} {q13 : List Int32} {q14 : List Int32} {q15 : List Int32} {q16 : List Int32} {q17 : List Int32} {q18 : List Int32} {q19 : List Int32} {q20 : List Int32} {q21 : List Int32} {q22 : List Int32} {q23 : List Int32} {q24 : Int32} {q25 : Int32} {q26 : Int32} {q27 : Int32} {q28 : Int32} {q29 : Int32} {q30 : Int32} {R : AHeap} : getC (C1 q0 q1 q2 q3 q4 q5 q6 q7 q8 q9 q10 q11 q12 q13 q14 q15 q16 q17 q18 q19 q20 q21 q22 q23 q24 q25 q26 q27 q28 q29 q30 R) 0 10 = some (.ref 11) := rfl
theorem own_a1_evVal {q0 : List Int32} {q1 : List Int32} {q2 : List Int32} {q3 : List Int32} {q4 : List Int32} {q5 : List Int32} {q6 : List Int32} {q7 : List Int32} {q8 : List Int32} {q9 : List Int32} {q10 : List Int32} {q11 : List Int32} {q12 : List Int32} {q13 : List Int32} {q14 : List Int32} {q15 : List Int32} {q16 : List Int32} {q17 : List Int32} {q18 : List Int32} {q19 : List Int32} {q20 : List Int32} {q21 : List Int32} {q22 : List Int32} {q23 : List Int32} {q24 : Int32} {q25 : Int32} {q26 : Int32} {q27 : Int32} {q28 : Int32} {q29 : Int32} {q30 : Int32} {R : AHeap} : (C1 q0 q1 q2 q3 q4 q5 q6 q7 q8 q9 q10 q11 q12 q13 q14 q15 q16 q17 q18 q19 q20 q21 q22 q23 q24 q25 q26 q27 q28 q29 q30 R)[11]? = some (.inr (.inl (1, q10))) := rfl
theorem own_s1_evVal {q0 : List Int32} {q1 : List Int32} {q2 : List Int32} {q3 : List Int32} {q4 : List Int32} {q5 : List Int32} {q6 : List Int32} {q7 : List Int32} {q8 : List Int32} {q9 : List Int32} {q10 : List Int32} {q11 : List Int32} {q12 : List Int32} {q13 : List Int32} {q14 : List Int32} {q15 : List Int32} {q16 : List Int32} {q17 : List Int32} {q18 : List Int32} {q19 : List Int32} {q20 : List Int32} {q21 : List Int32} {q22 : List Int32} {q23 : List Int32} {q24 : Int32} {q25 : Int32} {q26 : Int32} {q27 : Int32} {q28 : Int32} {q29 : Int32} {q30 : Int32} {R : AHeap} {x : List Int32} : (C1 q0 q1 q2 q3 q4 q5 q6 q7 q8 q9 q10 q11 q12 q13 q14 q15 q16 q17 q18 q19 q20 q21 q22 q23 q24 q25 q26 q27 q28 q29 q30 R).set 11 (.inr (.inl (1, x))) = (C1 q0 q1 q2 q3 q4 q5 q6 q7 q8 q9 x q11 q12 q13 q14 q15 q16 q17 q18 q19 q20 q21 q22 q23 q24 q25 q26 q27 q28 q29 q30 R) := rfl
theorem own_g1_snap {q0 : List Int32} {q1 : List Int32} {q2 : List Int32} {q3 : List Int32} {q4 : List Int32} {q5 : List Int32} {q6 : List Int32} {q7 : List Int32} {q8 : List Int32} {q9 : List Int32} {q10 : List Int32} {q11 : List Int32} {q12 : List Int32} {q13 : List Int32} {q14 : List Int32} {q15 : List Int32} {q16 : List Int32} {q17 : List Int32} {q18 : List Int32} {q19 : List Int32} {q20 : List Int32} {q21 : List Int32} {q22 : List Int32} {q23 : List Int32} {q24 : Int32} {q25 : Int32} {q26 : Int32} {q27 : Int32} {q28 : Int32} {q29 : Int32} {q30 : Int32} {R : AHeap} : getC (C1 q0 q1 q2 q3 q4 q5 q6 q7 q8 q9 q10 q11 q12 q13 q14 q15 q16 q17 q18 q19 q20 q21 q22 q23 q24 q25 q26 q27 q28 q29 q30 R) 0 11 = some (.ref 12) := rfl
theorem own_a1_snap {q0 : List Int32} {q1 : List Int32} {q2 : List Int32} {q3 : List Int32} {q4 : List Int32} {q5 : List Int32} {q6 : List Int32} {q7 : List Int32} {q8 : List Int32} {q9 : List Int32} {q10 : List Int32} {q11 : List Int32} {q12 : List Int32} {q13 : List Int32} {q14 : List Int32} {q15 : List Int32} {q16 : List Int32} {q17 : List Int32} {q18 : List Int32} {q19 : List Int32} {q20 : List Int32} {q21 : List Int32} {q22 : List Int32} {q23 : List Int32} {q24 : Int32} {q25 : Int32} {q26 : Int32} {q27 : Int32} {q28 : Int32} {q29 : Int32} {q30 : Int32} {R : AHeap} : (C1 q0 q1 q2 q3 q4 q5 q6 q7 q8 q9 q10 q11 q12 q13 q14 q15 q16 q17 q18 q19 q20 q21 q22 q23 q24 q25 q26 q27 q28 q29 q30 R)[12]? = some (.inr (.inl (1, q11))) := rfl
theorem own_s1_snap {q0 : List Int32} {q1 : List Int32} {q2 : List Int32} {q3 : List Int32} {q4 : List Int32} {q5 : List Int32} {q6 : List Int32} {q7 : List Int32} {q8 : List Int32} {q9 : List Int32} {q10 : List Int32} {q11 : List Int32} {q12 : List Int32} {q13 : List Int32} {q14 : List Int32} {q15 : List Int32} {q16 : List Int32} {q17 : List Int32} {q18 : List Int32} {q19 : List Int32} {q20 : List Int32} {q21 : List Int32} {q22 : List Int32} {q23 : List Int32} {q24 : Int32} {q25 : Int32} {q26 : Int32} {q27 : Int32} {q28 : Int32} {q29 : Int32} {q30 : Int32} {R : AHeap} {x : List Int32} : (C1 q0 q1 q2 q3 q4 q5 q6 q7 q8 q9 q10 q11 q12 q13 q14 q15 q16 q17 q18 q19 q20 q21 q22 q23 q24 q25 q26 q27 q28 q29 q30 R).set 12 (.inr (.inl (1, x))) = (C1 q0 q1 q2 q3 q4 q5 q6 q7 q8 q9 q10 x q12 q13 q14 q15 q16 q17 q18 q19 q20 q21 q22 q23 q24 q25 q26 q27 q28 q29 q30 R) := rfl
theorem own_g1_opKind {q0 : List Int32} {q1 : List Int32} {q2 : List Int32} {q3 : List Int32} {q4 : List Int32} {q5 : List Int32} {q6 : List Int32} {q7 : List Int32} {q8 : List Int32} {q9 : List Int32} {q10 : List Int32} {q11 : List Int32} {q12 : List Int32} {q13 : List Int32} {q14 : List Int32} {q15 : List Int32} {q16 : List Int32} {q17 : List Int32} {q18 : List Int32} {q19 : List Int32} {q20 : List Int32} {q21 : List Int32} {q22 : List Int32} {q23 : List Int32} {q24 : Int32} {q25 : Int32} {q26 : Int32} {q27 : Int32} {q28 : Int32} {q29 : Int32} {q30 : Int32} {R : AHeap} : getC (C1 q0 q1 q2 q3 q4 q5 q6 q7 q8 q9 q10 q11 q12 q13 q14 q15 q16 q17 q18 q19 q20 q21 q22 q23 q24 q25 q26 q27 q28 q29 q30 R) 0 12 = some (.ref 13) := rfl
theorem own_a1_opKind {q0 : List Int32} {q1 : List Int32} {q2 : List Int32} {q3 : List Int32} {q4 : List Int32} {q5 : List Int32} {q6 : List Int32} {q7 : List Int32} {q8 : List Int32} {q9 : List Int32} {q10 : List Int32} {q11 : List Int32} {q12 : List Int32} {q13 : List Int32} {q14 : List Int32} {q15 : List Int32} {q16 : List Int32} {q17 : List Int32} {q18 : List Int32} {q19 : List Int32} {q20 : List Int32} {q21 : List Int32} {q22 : List Int32} {q23 : List Int32} {q24 : Int32} {q25 : Int32} {q26 : Int32} {q27 : Int32} {q28 : Int32} {q29 : Int32} {q30 : Int32} {R : AHeap} : (C1 q0 q1 q2 q3 q4 q5 q6 q7 q8 q9 q10 q11 q12 q13 q14 q15 q16 q17 q18 q19 q20 q21 q22 q23 q24 q25 q26 q27 q28 q29 q30 R)[13]? = some (.inr (.inl (1, q12))) := rfl
theorem own_s1_opKind {q0 : List Int32} {q1 : List Int32} {q2 : List Int32} {q3 : List Int32} {q4 : List Int32} {q5 : List Int32} {q6 : List Int32} {q7 : List Int32} {q8 : List Int32} {q9 : List Int32} {q10 : List Int32} {q11 : List Int32} {q12 : List Int32} {q13 : List Int32} {q14 : List Int32} {q15 : List Int32} {q16 : List Int32} {q17 : List Int32} {q18 : List Int32} {q19 : List Int32} {q20 : List Int32} {q21 : List Int32} {q22 : List Int32} {q23 : List Int32} {q24 : Int32} {q25 : Int32} {q26 : Int32} {q27 : Int32} {q28 : Int32} {q29 : Int32} {q30 : Int32} {R : AHeap} {x : List Int32} : (C1 q0 q1 q2 q3 q4 q5 q6 q7 q8 q9 q10 q11 q12 q13 q14 q15 q16 q17 q18 q19 q20 q21 q22 q23 q24 q25 q26 q27 q28 q29 q30 R).set 13 (.inr (.inl (1, x))) = (C1 q0 q1 q2 q3 q4 q5 q6 q7 q8 q9 q10 q11 x q13 q14 q15 q16 q17 q18 q19 q20 q21 q22 q23 q24 q25 q26 q27 q28 q29 q30 R) := rfl
theorem own_g1_opArg {q0 : List Int32} {q1 : List Int32} {q2 : List Int32} {q3 : List Int32} {q4 : List Int32} {q5 : List Int32} {q6 : List Int32} {q7 : List Int32} {q8 : List Int32} {q9 : List Int32} {q10 : List Int32} {q11 : List Int32} {q12 : List Int32} {q13 : List Int32} {q14 : List Int32} {q15 : List Int32} {q16 : List Int32} {q17 : List Int32} {q18 : List Int32} {q19 : List Int32} {q20 : List Int32} {q21 : List Int32} {q22 : List Int32} {q23 : List Int32} {q24 : Int32} {q25 : Int32} {q26 : Int32} {q27 : Int32} {q28 : Int32} {q29 : Int32} {q30 : Int32} {R : AHeap} : getC (C1 q0 q1 q2 q3 q4 q5 q6 q7 q8 q9 q10 q11 q12 q13 q14 q15 q16 q17 q18 q19 q20 q21 q22 q23 q24 q25 q26 q27 q28 q29 q30 R) 0 13 = some (.ref 14) := rfl
theorem own_a1_opArg {q0 : List Int32} {q1 : List Int32} {q2 : List Int32} {q3 : List Int32} {q4 : List Int32} {q5 : List Int32} {q6 : List Int32} {q7 : List Int32} {q8 : List Int32} {q9 : List Int32} {q10 : List Int32} {q11 : List Int32} {q12 : List Int32} {q13 : List Int32} {q14 : List Int32} {q15 : List Int32} {q16 : List Int32} {q17 : List Int32} {q18 : List Int32} {q19 : List Int32} {q20 : List Int32} {q21 : List Int32} {q22 : List Int32} {q23 : List Int32} {q24 : Int32} {q25 : Int32} {q26 : Int32} {q27 : Int32} {q28 : Int32} {q29 : Int32} {q30 : Int32} {R : AHeap} : (C1 q0 q1 q2 q3 q4 q5 q6 q7 q8 q9 q10 q11 q12 q13 q14 q15 q16 q17 q18 q19 q20 q21 q22 q23 q24 q25 q26 q27 q28 q29 q30 R)[14]? = some (.inr (.inl (1, q13))) := rfl
theorem own_s1_opArg {q0 : List Int32} {q1 : List Int32} {q2 : List Int32} {q3 : List Int32} {q4 : List Int32} {q5 : List Int32} {q6 : List Int32} {q7 : List Int32} {q8 : List Int32} {q9 : List Int32} {q10 : List Int32} {q11 : List Int32} {q12 : List Int32} {q13 : List Int32} {q14 : List Int32} {q15 : List Int32} {q16 : List Int32} {q17 : List Int32} {q18 : List Int32} {q19 : List Int32} {q20 : List Int32} {q21 : List Int32} {q22 : List Int32} {q23 : List Int32} {q24 : Int32} {q25 : Int32} {q26 : Int32} {q27 : Int32} {q28 : Int32} {q29 : Int32} {q30 : Int32} {R : AHeap} {x : List Int32} : (C1 q0 q1 q2 q3 q4 q5 q6 q7 q8 q9 q10 q11 q12 q13 q14 q15 q16 q17 q18 q19 q20 q21 q22 q23 q24 q25 q26 q27 q28 q29 q30 R).set 14 (.inr (.inl (1, x))) = (C1 q0 q1 q2 q3 q4 q5 q6 q7 q8 q9 q10 q11 q12 x q14 q15 q16 q17 q18 q19 q20 q21 q22 q23 q24 q25 q26 q27 q28 q29 q30 R) := rfl
theorem own_g1_opInv {q0 : List Int32} {q1 : List Int32} {q2 : List Int32} {q3 : List Int32} {q4 : List Int32} {q5 : List Int32} {q6 : List Int32} {q7 : List Int32} {q8 : List Int32} {q9 : List Int32} {q10 : List Int32} {q11 : List Int32} {q12 : List Int32} {q13 : List Int32} {q14 : List Int32} {q15 : List Int32} {q16 : List Int32} {q17 : List Int32} {q18 : List Int32} {q19 : List Int32} {q20 : List Int32} {q21 : List Int32} {q22 : List Int32} {q23 : List Int32} {q24 : Int32} {q25 : Int32} {q26 : Int32} {q27 : Int32} {q28 : Int32} {q29 : Int32} {q30 : Int32} {R : AHeap} : getC (C1 q0 q1 q2 q3 q4 q5 q6 q7 q8 q9 q10 q11 q12 q13 q14 q15 q16 q17 q18 q19 q20 q21 q22 q23 q24 q25 q26 q27 q28 q29 q30 R) 0 14 = some (.ref 15) := rfl
theorem own_a1_opInv {q0 : List Int32} {q1 : List Int32} {q2 : List Int32} {q3 : List Int32} {q4 : List Int32} {q5 : List Int32} {q6 : List Int32} {q7 : List Int32} {q8 : List Int32} {q9 : List Int32} {q10 : List Int32} {q11 : List Int32} {q12 : List Int32} {q13 : List Int32} {q14 : List Int32} {q15 : List Int32} {q16 : List Int32} {q17 : List Int32} {q18 : List Int32} {q19 : List Int32} {q20 : List Int32} {q21 : List Int32} {q22 : List Int32} {q23 : List Int32} {q24 : Int32} {q25 : Int32} {q26 : Int32} {q27 : Int32} {q28 : Int32} {q29 : Int32} {q30 : Int32} {R : AHeap} : (C1 q0 q1 q2 q3 q4 q5 q6 q7 q8 q9 q10 q11 q12 q13 q14 q15 q16 q17 q18 q19 q20 q21 q22 q23 q24 q25 q26 q27 q28 q29 q30 R)[15]? = some (.inr (.inl (1, q14))) := rfl
theorem own_s1_opInv {q0 : List Int32} {q1 : List Int32} {q2 : List Int32} {q3 : List Int32} {q4 : List Int32} {q5 : List Int32} {q6 : List Int32} {q7 : List Int32} {q8 : List Int32} {q9 : List Int32} {q10 : List Int32} {q11 : List Int32} {q12 : List Int32} {q13 : List Int32} {q14 : List Int32} {q15 : List Int32} {q16 : List Int32} {q17 : List Int32} {q18 : List Int32} {q19 : List Int32} {q20 : List Int32} {q21 : List Int32} {q22 : List Int32} {q23 : List Int32} {q24 : Int32} {q25 : Int32} {q26 : Int32} {q27 : Int32} {q28 : Int32} {q29 : Int32} {q30 : Int32} {R : AHeap} {x : List Int32} : (C1 q0 q1 q2 q3 q4 q5 q6 q7 q8 q9 q10 q11 q12 q13 q14 q15 q16 q17 q18 q19 q20 q21 q22 q23 q24 q25 q26 q27 q28 q29 q30 R).set 15 (.inr (.inl (1, x))) = (C1 q0 q1 q2 q3 q4 q5 q6 q7 q8 q9 q10 q11 q12 q13 x q15 q16 q17 q18 q19 q20 q21 q22 q23 q24 q25 q26 q27 q28 q29 q30 R) := rfl
theorem own_g1_opRes {q0 : List Int32} {q1 : List Int32} {q2 : List Int32} {q3 : List Int32} {q4 : List Int32} {q5 : List Int32} {q6 : List Int32} {q7 : List Int32} {q8 : List Int32} {q9 : List Int32} {q10 : List Int32} {q11 : List Int32} {q12 : List Int32} {q13 : List Int32} {q14 : List Int32} {q15 : List Int32} {q16 : List Int32} {q17 : List Int32} {q18 : List Int32} {q19 : List Int32} {q20 : List Int32} {q21 : List Int32} {q22 : List Int32} {q23 : List Int32} {q24 : Int32} {q25 : Int32} {q26 : Int32} {q27 : Int32} {q28 : Int32} {q29 : Int32} {q30 : Int32} {R : AHeap} : getC (C1 q0 q1 q2 q3 q4 q5 q6 q7 q8 q9 q10 q11 q12 q13 q14 q15 q16 q17 q18 q19 q20 q21 q22 q23 q24 q25 q26 q27 q28 q29 q30 R) 0 15 = some (.ref 16) := rfl
theorem own_a1_opRes {q0 : List Int32} {q1 : List Int32} {q2 : List Int32} {q3 : List Int32} {q4 : List Int32} {q5 : List Int32} {q6 : List Int32} {q7 : List Int32} {q8 : List Int32} {q9 : List Int32} {q10 : List Int32} {q11 : List Int32} {q12 : List Int32} {q13 : List Int32} {q14 : List Int32} {q15 : List Int32} {q16 : List Int32} {q17 : List Int32} {q18 : List Int32} {q19 : List Int32} {q20 : List Int32} {q21 : List Int32} {q22 : List Int32} {q23 : List Int32} {q24 : Int32} {q25 : Int32} {q26 : Int32} {q27 : Int32} {q28 : Int32} {q29 : Int32} {q30 : Int32} {R : AHeap} : (C1 q0 q1 q2 q3 q4 q5 q6 q7 q8 q9 q10 q11 q12 q13 q14 q15 q16 q17 q18 q19 q20 q21 q22 q23 q24 q25 q26 q27 q28 q29 q30 R)[16]? = some (.inr (.inl (1, q15))) := rfl
theorem own_s1_opRes {q0 : List Int32} {q1 : List Int32} {q2 : List Int32} {q3 : List Int32} {q4 : List Int32} {q5 : List Int32} {q6 : List Int32} {q7 : List Int32} {q8 : List Int32} {q9 : List Int32} {q10 : List Int32} {q11 : List Int32} {q12 : List Int32} {q13 : List Int32} {q14 : List Int32} {q15 : List Int32} {q16 : List Int32} {q17 : List Int32} {q18 : List Int32} {q19 : List Int32} {q20 : List Int32} {q21 : List Int32} {q22 : List Int32} {q23 : List Int32} {q24 : Int32} {q25 : Int32} {q26 : Int32} {q27 : Int32} {q28 : Int32} {q29 : Int32} {q30 : Int32} {R : AHeap} {x : List Int32} : (C1 q0 q1 q2 q3 q4 q5 q6 q7 q8 q9 q10 q11 q12 q13 q14 q15 q16 q17 q18 q19 q20 q21 q22 q23 q24 q25 q26 q27 q28 q29 q30 R).set 16 (.inr (.inl (1, x))) = (C1 q0 q1 q2 q3 q4 q5 q6 q7 q8 q9 q10 q11 q12 q13 q14 x q16 q17 q18 q19 q20 q21 q22 q23 q24 q25 q26 q27 q28 q29 q30 R) := rfl
theorem own_g1_opStatus {q0 : List Int32} {q1 : List Int32} {q2 : List Int32} {q3 : List Int32} {q4 : List Int32} {q5 : List Int32} {q6 : List Int32} {q7 : List Int32} {q8 : List Int32} {q9 : List Int32} {q10 : List Int32} {q11 : List Int32} {q12 : List Int32} {q13 : List Int32} {q14 : List Int32} {q15 : List Int32} {q16 : List Int32} {q17 : List Int32} {q18 : List Int32} {q19 : List Int32} {q20 : List Int32} {q21 : List Int32} {q22 : List Int32} {q23 : List Int32} {q24 : Int32} {q25 : Int32} {q26 : Int32} {q27 : Int32} {q28 : Int32} {q29 : Int32} {q30 : Int32} {R : AHeap} : getC (C1 q0 q1 q2 q3 q4 q5 q6 q7 q8 q9 q10 q11 q12 q13 q14 q15 q16 q17 q18 q19 q20 q21 q22 q23 q24 q25 q26 q27 q28 q29 q30 R) 0 16 = some (.ref 17) := rfl
theorem own_a1_opStatus {q0 : List Int32} {q1 : List Int32} {q2 : List Int32} {q3 : List Int32} {q4 : List Int32} {q5 : List Int32} {q6 : List Int32} {q7 : List Int32} {q8 : List Int32} {q9 : List Int32} {q10 : List Int32} {q11 : List Int32} {q12 : List Int32} {q13 : List Int32} {q14 : List Int32} {q15 : List Int32} {q16 : List Int32} {q17 : List Int32} {q18 : List Int32} {q19 : List Int32} {q20 : List Int32} {q21 : List Int32} {q22 : List Int32} {q23 : List Int32} {q24 : Int32} {q25 : Int32} {q26 : Int32} {q27 : Int32} {q28 : Int32} {q29 : Int32} {q30 : Int32} {R : AHeap} : (C1 q0 q1 q2 q3 q4 q5 q6 q7 q8 q9 q10 q11 q12 q13 q14 q15 q16 q17 q18 q19 q20 q21 q22 q23 q24 q25 q26 q27 q28 q29 q30 R)[17]? = some (.inr (.inl (1, q16))) := rfl
theorem own_s1_opStatus {q0 : List Int32} {q1 : List Int32} {q2 : List Int32} {q3 : List Int32} {q4 : List Int32} {q5 : List Int32} {q6 : List Int32} {q7 : List Int32} {q8 : List Int32} {q9 : List Int32} {q10 : List Int32} {q11 : List Int32} {q12 : List Int32} {q13 : List Int32} {q14 : List Int32} {q15 : List Int32} {q16 : List Int32} {q17 : List Int32} {q18 : List Int32} {q19 : List Int32} {q20 : List Int32} {q21 : List Int32} {q22 : List Int32} {q23 : List Int32} {q24 : Int32} {q25 : Int32} {q26 : Int32} {q27 : Int32} {q28 : Int32} {q29 : Int32} {q30 : Int32} {R : AHeap} {x : List Int32} : (C1 q0 q1 q2 q3 q4 q5 q6 q7 q8 q9 q10 q11 q12 q13 q14 q15 q16 q17 q18 q19 q20 q21 q22 q23 q24 q25 q26 q27 q28 q29 q30 R).set 17 (.inr (.inl (1, x))) = (C1 q0 q1 q2 q3 q4 q5 q6 q7 q8 q9 q10 q11 q12 q13 q14 q15 x q17 q18 q19 q20 q21 q22 q23 q24 q25 q26 q27 q28 q29 q30 R) := rfl
theorem own_g1_opRVal {q0 : List Int32} {q1 : List Int32} {q2 : List Int32} {q3 : List Int32} {q4 : List Int32} {q5 : List Int32} {q6 : List Int32} {q7 : List Int32} {q8 : List Int32} {q9 : List Int32} {q10 : List Int32} {q11 : List Int32} {q12 : List Int32} {q13 : List Int32} {q14 : List Int32} {q15 : List Int32} {q16 : List Int32} {q17 : List Int32} {q18 : List Int32} {q19 : List Int32} {q20 : List Int32} {q21 : List Int32} {q22 : List Int32} {q23 : List Int32} {q24 : Int32} {q25 : Int32} {q26 : Int32} {q27 : Int32} {q28 : Int32} {q29 : Int32} {q30 : Int32} {R : AHeap} : getC (C1 q0 q1 q2 q3 q4 q5 q6 q7 q8 q9 q10 q11 q12 q13 q14 q15 q16 q17 q18 q19 q20 q21 q22 q23 q24 q25 q26 q27 q28 q29 q30 R) 0 17 = some (.ref 18) := rfl
theorem own_a1_opRVal {q0 : List Int32} {q1 : List Int32} {q2 : List Int32} {q3 : List Int32} {q4 : List Int32} {q5 : List Int32} {q6 : List Int32} {q7 : List Int32} {q8 : List Int32} {q9 : List Int32} {q10 : List Int32} {q11 : List Int32} {q12 : List Int32} {q13 : List Int32} {q14 : List Int32} {q15 : List Int32} {q16 : List Int32} {q17 : List Int32} {q18 : List Int32} {q19 : List Int32} {q20 : List Int32} {q21 : List Int32} {q22 : List Int32} {q23 : List Int32} {q24 : Int32} {q25 : Int32} {q26 : Int32} {q27 : Int32} {q28 : Int32} {q29 : Int32} {q30 : Int32} {R : AHeap} : (C1 q0 q1 q2 q3 q4 q5 q6 q7 q8 q9 q10 q11 q12 q13 q14 q15 q16 q17 q18 q19 q20 q21 q22 q23 q24 q25 q26 q27 q28 q29 q30 R)[18]? = some (.inr (.inl (1, q17))) := rfl
theorem own_s1_opRVal {q0 : List Int32} {q1 : List Int32} {q2 : List Int32} {q3 : List Int32} {q4 : List Int32} {q5 : List Int32} {q6 : List Int32} {q7 : List Int32} {q8 : List Int32} {q9 : List Int32} {q10 : List Int32} {q11 : List Int32} {q12 : List Int32} {q13 : List Int32} {q14 : List Int32} {q15 : List Int32} {q16 : List Int32} {q17 : List Int32} {q18 : List Int32} {q19 : List Int32} {q20 : List Int32} {q21 : List Int32} {q22 : List Int32} {q23 : List Int32} {q24 : Int32} {q25 : Int32} {q26 : Int32} {q27 : Int32} {q28 : Int32} {q29 : Int32} {q30 : Int32} {R : AHeap} {x : List Int32} : (C1 q0 q1 q2 q3 q4 q5 q6 q7 q8 q9 q10 q11 q12 q13 q14 q15 q16 q17 q18 q19 q20 q21 q22 q23 q24 q25 q26 q27 q28 q29 q30 R).set 18 (.inr (.inl (1, x))) = (C1 q0 q1 q2 q3 q4 q5 q6 q7 q8 q9 q10 q11 q12 q13 q14 q15 q16 x q18 q19 q20 q21 q22 q23 q24 q25 q26 q27 q28 q29 q30 R) := rfl
theorem own_g1_predMask {q0 : List Int32} {q1 : List Int32} {q2 : List Int32} {q3 : List Int32} {q4 : List Int32} {q5 : List Int32} {q6 : List Int32} {q7 : List Int32} {q8 : List Int32} {q9 : List Int32} {q10 : List Int32} {q11 : List Int32} {q12 : List Int32} {q13 : List Int32} {q14 : List Int32} {q15 : List Int32} {q16 : List Int32} {q17 : List Int32} {q18 : List Int32} {q19 : List Int32} {q20 : List Int32} {q21 : List Int32} {q22 : List Int32} {q23 : List Int32} {q24 : Int32} {q25 : Int32} {q26 : Int32} {q27 : Int32} {q28 : Int32} {q29 : Int32} {q30 : Int32} {R : AHeap} : getC (C1 q0 q1 q2 q3 q4 q5 q6 q7 q8 q9 q10 q11 q12 q13 q14 q15 q16 q17 q18 q19 q20 q21 q22 q23 q24 q25 q26 q27 q28 q29 q30 R) 0 18 = some (.ref 19) := rfl
theorem own_a1_predMask {q0 : List Int32} {q1 : List Int32} {q2 : List Int32} {q3 : List Int32} {q4 : List Int32} {q5 : List Int32} {q6 : List Int32} {q7 : List Int32} {q8 : List Int32} {q9 : List Int32} {q10 : List Int32} {q11 : List Int32} {q12 : List Int32} {q13 : List Int32} {q14 : List Int32} {q15 : List Int32} {q16 : List Int32} {q17 : List Int32} {q18 : List Int32} {q19 : List Int32} {q20 : List Int32} {q21 : List Int32} {q22 : List Int32} {q23 : List Int32} {q24 : Int32} {q25 : Int32} {q26 : Int32} {q27 : Int32} {q28 : Int32} {q29 : Int32} {q30 : Int32} {R : AHeap} : (C1 q0 q1 q2 q3 q4 q5 q6 q7 q8 q9 q10 q11 q12 q13 q14 q15 q16 q17 q18 q19 q20 q21 q22 q23 q24 q25 q26 q27 q28 q29 q30 R)[19]? = some (.inr (.inl (1, q18))) := rfl
theorem own_s1_predMask {q0 : List Int32} {q1 : List Int32} {q2 : List Int32} {q3 : List Int32} {q4 : List Int32} {q5 : List Int32} {q6 : List Int32} {q7 : List Int32} {q8 : List Int32} {q9 : List Int32} {q10 : List Int32} {q11 : List Int32} {q12 : List Int32} {q13 : List Int32} {q14 : List Int32} {q15 : List Int32} {q16 : List Int32} {q17 : List Int32} {q18 : List Int32} {q19 : List Int32} {q20 : List Int32} {q21 : List Int32} {q22 : List Int32} {q23 : List Int32} {q24 : Int32} {q25 : Int32} {q26 : Int32} {q27 : Int32} {q28 : Int32} {q29 : Int32} {q30 : Int32} {R : AHeap} {x : List Int32} : (C1 q0 q1 q2 q3 q4 q5 q6 q7 q8 q9 q10 q11 q12 q13 q14 q15 q16 q17 q18 q19 q20 q21 q22 q23 q24 q25 q26 q27 q28 q29 q30 R).set 19 (.inr (.inl (1, x))) = (C1 q0 q1 q2 q3 q4 q5 q6 q7 q8 q9 q10 q11 q12 q13 q14 q15 q16 q17 x q19 q20 q21 q22 q23 q24 q25 q26 q27 q28 q29 q30 R) := rfl
theorem own_g1_openOp {q0 : List Int32} {q1 : List Int32} {q2 : List Int32} {q3 : List Int32} {q4 : List Int32} {q5 : List Int32} {q6 : List Int32} {q7 : List Int32} {q8 : List Int32} {q9 : List Int32} {q10 : List Int32} {q11 : List Int32} {q12 : List Int32} {q13 : List Int32} {q14 : List Int32} {q15 : List Int32} {q16 : List Int32} {q17 : List Int32} {q18 : List Int32} {q19 : List Int32} {q20 : List Int32} {q21 : List Int32} {q22 : List Int32} {q23 : List Int32} {q24 : Int32} {q25 : Int32} {q26 : Int32} {q27 : Int32} {q28 : Int32} {q29 : Int32} {q30 : Int32} {R : AHeap} : getC (C1 q0 q1 q2 q3 q4 q5 q6 q7 q8 q9 q10 q11 q12 q13 q14 q15 q16 q17 q18 q19 q20 q21 q22 q23 q24 q25 q26 q27 q28 q29 q30 R) 0 19 = some (.ref 20) := rfl
theorem own_a1_openOp {q0 : List Int32} {q1 : List Int32} {q2 : List Int32} {q3 : List Int32} {q4 : List Int32} {q5 : List Int32} {q6 : List Int32} {q7 : List Int32} {q8 : List Int32} {q9 : List Int32} {q10 : List Int32} {q11 : List Int32} {q12 : List Int32} {q13 : List Int32} {q14 : List Int32} {q15 : List Int32} {q16 : List Int32} {q17 : List Int32} {q18 : List Int32} {q19 : List Int32} {q20 : List Int32} {q21 : List Int32} {q22 : List Int32} {q23 : List Int32} {q24 : Int32} {q25 : Int32} {q26 : Int32} {q27 : Int32} {q28 : Int32} {q29 : Int32} {q30 : Int32} {R : AHeap} : (C1 q0 q1 q2 q3 q4 q5 q6 q7 q8 q9 q10 q11 q12 q13 q14 q15 q16 q17 q18 q19 q20 q21 q22 q23 q24 q25 q26 q27 q28 q29 q30 R)[20]? = some (.inr (.inl (1, q19))) := rfl
theorem own_s1_openOp {q0 : List Int32} {q1 : List Int32} {q2 : List Int32} {q3 : List Int32} {q4 : List Int32} {q5 : List Int32} {q6 : List Int32} {q7 : List Int32} {q8 : List Int32} {q9 : List Int32} {q10 : List Int32} {q11 : List Int32} {q12 : List Int32} {q13 : List Int32} {q14 : List Int32} {q15 : List Int32} {q16 : List Int32} {q17 : List Int32} {q18 : List Int32} {q19 : List Int32} {q20 : List Int32} {q21 : List Int32} {q22 : List Int32} {q23 : List Int32} {q24 : Int32} {q25 : Int32} {q26 : Int32} {q27 : Int32} {q28 : Int32} {q29 : Int32} {q30 : Int32} {R : AHeap} {x : List Int32} : (C1 q0 q1 q2 q3 q4 q5 q6 q7 q8 q9 q10 q11 q12 q13 q14 q15 q16 q17 q18 q19 q20 q21 q22 q23 q24 q25 q26 q27 q28 q29 q30 R).set 20 (.inr (.inl (1, x))) = (C1 q0 q1 q2 q3 q4 q5 q6 q7 q8 q9 q10 q11 q12 q13 q14 q15 q16 q17 q18 x q20 q21 q22 q23 q24 q25 q26 q27 q28 q29 q30 R) := rfl
theorem own_g1_qBuf {q0 : List Int32} {q1 : List Int32} {q2 : List Int32} {q3 : List Int32} {q4 : List Int32} {q5 : List Int32} {q6 : List Int32} {q7 : List Int32} {q8 : List Int32} {q9 : List Int32} {q10 : List Int32} {q11 : List Int32} {q12 : List Int32} {q13 : List Int32} {q14 : List Int32} {q15 : List Int32} {q16 : List Int32} {q17 : List Int32} {q18 : List Int32} {q19 : List Int32} {q20 : List Int32} {q21 : List Int32} {q22 : List Int32} {q23 : List Int32} {q24 : Int32} {q25 : Int32} {q26 : Int32} {q27 : Int32} {q28 : Int32} {q29 : Int32} {q30 : Int32} {R : AHeap} : getC (C1 q0 q1 q2 q3 q4 q5 q6 q7 q8 q9 q10 q11 q12 q13 q14 q15 q16 q17 q18 q19 q20 q21 q22 q23 q24 q25 q26 q27 q28 q29 q30 R) 0 20 = some (.ref 21) := rfl
theorem own_a1_qBuf {q0 : List Int32} {q1 : List Int32} {q2 : List Int32} {q3 : List Int32} {q4 : List Int32} {q5 : List Int32} {q6 : List Int32} {q7 : List Int32} {q8 : List Int32} {q9 : List Int32} {q10 : List Int32} {q11 : List Int32} {q12 : List Int32} {q13 : List Int32} {q14 : List Int32} {q15 : List Int32} {q16 : List Int32} {q17 : List Int32} {q18 : List Int32} {q19 : List Int32} {q20 : List Int32} {q21 : List Int32} {q22 : List Int32} {q23 : List Int32} {q24 : Int32} {q25 : Int32} {q26 : Int32} {q27 : Int32} {q28 : Int32} {q29 : Int32} {q30 : Int32} {R : AHeap} : (C1 q0 q1 q2 q3 q4 q5 q6 q7 q8 q9 q10 q11 q12 q13 q14 q15 q16 q17 q18 q19 q20 q21 q22 q23 q24 q25 q26 q27 q28 q29 q30 R)[21]? = some (.inr (.inl (1, q20))) := rfl
theorem own_s1_qBuf {q0 : List Int32} {q1 : List Int32} {q2 : List Int32} {q3 : List Int32} {q4 : List Int32} {q5 : List Int32} {q6 : List Int32} {q7 : List Int32} {q8 : List Int32} {q9 : List Int32} {q10 : List Int32} {q11 : List Int32} {q12 : List Int32} {q13 : List Int32} {q14 : List Int32} {q15 : List Int32} {q16 : List Int32} {q17 : List Int32} {q18 : List Int32} {q19 : List Int32} {q20 : List Int32} {q21 : List Int32} {q22 : List Int32} {q23 : List Int32} {q24 : Int32} {q25 : Int32} {q26 : Int32} {q27 : Int32} {q28 : Int32} {q29 : Int32} {q30 : Int32} {R : AHeap} {x : List Int32} : (C1 q0 q1 q2 q3 q4 q5 q6 q7 q8 q9 q10 q11 q12 q13 q14 q15 q16 q17 q18 q19 q20 q21 q22 q23 q24 q25 q26 q27 q28 q29 q30 R).set 21 (.inr (.inl (1, x))) = (C1 q0 q1 q2 q3 q4 q5 q6 q7 q8 q9 q10 q11 q12 q13 q14 q15 q16 q17 q18 q19 x q21 q22 q23 q24 q25 q26 q27 q28 q29 q30 R) := rfl
theorem own_g1_qLen {q0 : List Int32} {q1 : List Int32} {q2 : List Int32} {q3 : List Int32} {q4 : List Int32} {q5 : List Int32} {q6 : List Int32} {q7 : List Int32} {q8 : List Int32} {q9 : List Int32} {q10 : List Int32} {q11 : List Int32} {q12 : List Int32} {q13 : List Int32} {q14 : List Int32} {q15 : List Int32} {q16 : List Int32} {q17 : List Int32} {q18 : List Int32} {q19 : List Int32} {q20 : List Int32} {q21 : List Int32} {q22 : List Int32} {q23 : List Int32} {q24 : Int32} {q25 : Int32} {q26 : Int32} {q27 : Int32} {q28 : Int32} {q29 : Int32} {q30 : Int32} {R : AHeap} : getC (C1 q0 q1 q2 q3 q4 q5 q6 q7 q8 q9 q10 q11 q12 q13 q14 q15 q16 q17 q18 q19 q20 q21 q22 q23 q24 q25 q26 q27 q28 q29 q30 R) 0 21 = some (.ref 22) := rfl
theorem own_a1_qLen {q0 : List Int32} {q1 : List Int32} {q2 : List Int32} {q3 : List Int32} {q4 : List Int32} {q5 : List Int32} {q6 : List Int32} {q7 : List Int32} {q8 : List Int32} {q9 : List Int32} {q10 : List Int32} {q11 : List Int32} {q12 : List Int32} {q13 : List Int32} {q14 : List Int32} {q15 : List Int32} {q16 : List Int32} {q17 : List Int32} {q18 : List Int32} {q19 : List Int32} {q20 : List Int32} {q21 : List Int32} {q22 : List Int32} {q23 : List Int32} {q24 : Int32} {q25 : Int32} {q26 : Int32} {q27 : Int32} {q28 : Int32} {q29 : Int32} {q30 : Int32} {R : AHeap} : (C1 q0 q1 q2 q3 q4 q5 q6 q7 q8 q9 q10 q11 q12 q13 q14 q15 q16 q17 q18 q19 q20 q21 q22 q23 q24 q25 q26 q27 q28 q29 q30 R)[22]? = some (.inr (.inl (1, q21))) := rfl
theorem own_s1_qLen {q0 : List Int32} {q1 : List Int32} {q2 : List Int32} {q3 : List Int32} {q4 : List Int32} {q5 : List Int32} {q6 : List Int32} {q7 : List Int32} {q8 : List Int32} {q9 : List Int32} {q10 : List Int32} {q11 : List Int32} {q12 : List Int32} {q13 : List Int32} {q14 : List Int32} {q15 : List Int32} {q16 : List Int32} {q17 : List Int32} {q18 : List Int32} {q19 : List Int32} {q20 : List Int32} {q21 : List Int32} {q22 : List Int32} {q23 : List Int32} {q24 : Int32} {q25 : Int32} {q26 : Int32} {q27 : Int32} {q28 : Int32} {q29 : Int32} {q30 : Int32} {R : AHeap} {x : List Int32} : (C1 q0 q1 q2 q3 q4 q5 q6 q7 q8 q9 q10 q11 q12 q13 q14 q15 q16 q17 q18 q19 q20 q21 q22 q23 q24 q25 q26 q27 q28 q29 q30 R).set 22 (.inr (.inl (1, x))) = (C1 q0 q1 q2 q3 q4 q5 q6 q7 q8 q9 q10 q11 q12 q13 q14 q15 q16 q17 q18 q19 q20 x q22 q23 q24 q25 q26 q27 q28 q29 q30 R) := rfl
theorem own_g1_nextCand {q0 : List Int32} {q1 : List Int32} {q2 : List Int32} {q3 : List Int32} {q4 : List Int32} {q5 : List Int32} {q6 : List Int32} {q7 : List Int32} {q8 : List Int32} {q9 : List Int32} {q10 : List Int32} {q11 : List Int32} {q12 : List Int32} {q13 : List Int32} {q14 : List Int32} {q15 : List Int32} {q16 : List Int32} {q17 : List Int32} {q18 : List Int32} {q19 : List Int32} {q20 : List Int32} {q21 : List Int32} {q22 : List Int32} {q23 : List Int32} {q24 : Int32} {q25 : Int32} {q26 : Int32} {q27 : Int32} {q28 : Int32} {q29 : Int32} {q30 : Int32} {R : AHeap} : getC (C1 q0 q1 q2 q3 q4 q5 q6 q7 q8 q9 q10 q11 q12 q13 q14 q15 q16 q17 q18 q19 q20 q21 q22 q23 q24 q25 q26 q27 q28 q29 q30 R) 0 22 = some (.ref 23) := rfl
theorem own_a1_nextCand {q0 : List Int32} {q1 : List Int32} {q2 : List Int32} {q3 : List Int32} {q4 : List Int32} {q5 : List Int32} {q6 : List Int32} {q7 : List Int32} {q8 : List Int32} {q9 : List Int32} {q10 : List Int32} {q11 : List Int32} {q12 : List Int32} {q13 : List Int32} {q14 : List Int32} {q15 : List Int32} {q16 : List Int32} {q17 : List Int32} {q18 : List Int32} {q19 : List Int32} {q20 : List Int32} {q21 : List Int32} {q22 : List Int32} {q23 : List Int32} {q24 : Int32} {q25 : Int32} {q26 : Int32} {q27 : Int32} {q28 : Int32} {q29 : Int32} {q30 : Int32} {R : AHeap} : (C1 q0 q1 q2 q3 q4 q5 q6 q7 q8 q9 q10 q11 q12 q13 q14 q15 q16 q17 q18 q19 q20 q21 q22 q23 q24 q25 q26 q27 q28 q29 q30 R)[23]? = some (.inr (.inl (1, q22))) := rfl
theorem own_s1_nextCand {q0 : List Int32} {q1 : List Int32} {q2 : List Int32} {q3 : List Int32} {q4 : List Int32} {q5 : List Int32} {q6 : List Int32} {q7 : List Int32} {q8 : List Int32} {q9 : List Int32} {q10 : List Int32} {q11 : List Int32} {q12 : List Int32} {q13 : List Int32} {q14 : List Int32} {q15 : List Int32} {q16 : List Int32} {q17 : List Int32} {q18 : List Int32} {q19 : List Int32} {q20 : List Int32} {q21 : List Int32} {q22 : List Int32} {q23 : List Int32} {q24 : Int32} {q25 : Int32} {q26 : Int32} {q27 : Int32} {q28 : Int32} {q29 : Int32} {q30 : Int32} {R : AHeap} {x : List Int32} : (C1 q0 q1 q2 q3 q4 q5 q6 q7 q8 q9 q10 q11 q12 q13 q14 q15 q16 q17 q18 q19 q20 q21 q22 q23 q24 q25 q26 q27 q28 q29 q30 R).set 23 (.inr (.inl (1, x))) = (C1 q0 q1 q2 q3 q4 q5 q6 q7 q8 q9 q10 q11 q12 q13 q14 q15 q16 q17 q18 q19 q20 q21 x q23 q24 q25 q26 q27 q28 q29 q30 R) := rfl
theorem own_g1_chosen {q0 : List Int32} {q1 : List Int32} {q2 : List Int32} {q3 : List Int32} {q4 : List Int32} {q5 : List Int32} {q6 : List Int32} {q7 : List Int32} {q8 : List Int32} {q9 : List Int32} {q10 : List Int32} {q11 : List Int32} {q12 : List Int32} {q13 : List Int32} {q14 : List Int32} {q15 : List Int32} {q16 : List Int32} {q17 : List Int32} {q18 : List Int32} {q19 : List Int32} {q20 : List Int32} {q21 : List Int32} {q22 : List Int32} {q23 : List Int32} {q24 : Int32} {q25 : Int32} {q26 : Int32} {q27 : Int32} {q28 : Int32} {q29 : Int32} {q30 : Int32} {R : AHeap} : getC (C1 q0 q1 q2 q3 q4 q5 q6 q7 q8 q9 q10 q11 q12 q13 q14 q15 q16 q17 q18 q19 q20 q21 q22 q23 q24 q25 q26 q27 q28 q29 q30 R) 0 23 = some (.ref 24) := rfl
theorem own_a1_chosen {q0 : List Int32} {q1 : List Int32} {q2 : List Int32} {q3 : List Int32} {q4 : List Int32} {q5 : List Int32} {q6 : List Int32} {q7 : List Int32} {q8 : List Int32} {q9 : List Int32} {q10 : List Int32} {q11 : List Int32} {q12 : List Int32} {q13 : List Int32} {q14 : List Int32} {q15 : List Int32} {q16 : List Int32} {q17 : List Int32} {q18 : List Int32} {q19 : List Int32} {q20 : List Int32} {q21 : List Int32} {q22 : List Int32} {q23 : List Int32} {q24 : Int32} {q25 : Int32} {q26 : Int32} {q27 : Int32} {q28 : Int32} {q29 : Int32} {q30 : Int32} {R : AHeap} : (C1 q0 q1 q2 q3 q4 q5 q6 q7 q8 q9 q10 q11 q12 q13 q14 q15 q16 q17 q18 q19 q20 q21 q22 q23 q24 q25 q26 q27 q28 q29 q30 R)[24]? = some (.inr (.inl (1, q23))) := rfl
theorem own_s1_chosen {q0 : List Int32} {q1 : List Int32} {q2 : List Int32} {q3 : List Int32} {q4 : List Int32} {q5 : List Int32} {q6 : List Int32} {q7 : List Int32} {q8 : List Int32} {q9 : List Int32} {q10 : List Int32} {q11 : List Int32} {q12 : List Int32} {q13 : List Int32} {q14 : List Int32} {q15 : List Int32} {q16 : List Int32} {q17 : List Int32} {q18 : List Int32} {q19 : List Int32} {q20 : List Int32} {q21 : List Int32} {q22 : List Int32} {q23 : List Int32} {q24 : Int32} {q25 : Int32} {q26 : Int32} {q27 : Int32} {q28 : Int32} {q29 : Int32} {q30 : Int32} {R : AHeap} {x : List Int32} : (C1 q0 q1 q2 q3 q4 q5 q6 q7 q8 q9 q10 q11 q12 q13 q14 q15 q16 q17 q18 q19 q20 q21 q22 q23 q24 q25 q26 q27 q28 q29 q30 R).set 24 (.inr (.inl (1, x))) = (C1 q0 q1 q2 q3 q4 q5 q6 q7 q8 q9 q10 q11 q12 q13 q14 q15 q16 q17 q18 q19 q20 q21 q22 x q24 q25 q26 q27 q28 q29 q30 R) := rfl
theorem own_g1_nThreads {q0 : List Int32} {q1 : List Int32} {q2 : List Int32} {q3 : List Int32} {q4 : List Int32} {q5 : List Int32} {q6 : List Int32} {q7 : List Int32} {q8 : List Int32} {q9 : List Int32} {q10 : List Int32} {q11 : List Int32} {q12 : List Int32} {q13 : List Int32} {q14 : List Int32} {q15 : List Int32} {q16 : List Int32} {q17 : List Int32} {q18 : List Int32} {q19 : List Int32} {q20 : List Int32} {q21 : List Int32} {q22 : List Int32} {q23 : List Int32} {q24 : Int32} {q25 : Int32} {q26 : Int32} {q27 : Int32} {q28 : Int32} {q29 : Int32} {q30 : Int32} {R : AHeap} : getC (C1 q0 q1 q2 q3 q4 q5 q6 q7 q8 q9 q10 q11 q12 q13 q14 q15 q16 q17 q18 q19 q20 q21 q22 q23 q24 q25 q26 q27 q28 q29 q30 R) 0 24 = some (.int q24) := rfl
theorem own_p1_nThreads {q0 : List Int32} {q1 : List Int32} {q2 : List Int32} {q3 : List Int32} {q4 : List Int32} {q5 : List Int32} {q6 : List Int32} {q7 : List Int32} {q8 : List Int32} {q9 : List Int32} {q10 : List Int32} {q11 : List Int32} {q12 : List Int32} {q13 : List Int32} {q14 : List Int32} {q15 : List Int32} {q16 : List Int32} {q17 : List Int32} {q18 : List Int32} {q19 : List Int32} {q20 : List Int32} {q21 : List Int32} {q22 : List Int32} {q23 : List Int32} {q24 : Int32} {q25 : Int32} {q26 : Int32} {q27 : Int32} {q28 : Int32} {q29 : Int32} {q30 : Int32} {R : AHeap} {k : Nat} {x : Int32} : putC own_P k (C1 q0 q1 q2 q3 q4 q5 q6 q7 q8 q9 q10 q11 q12 q13 q14 q15 q16 q17 q18 q19 q20 q21 q22 q23 q24 q25 q26 q27 q28 q29 q30 R) 0 24 (.int x) = some (C1 q0 q1 q2 q3 q4 q5 q6 q7 q8 q9 q10 q11 q12 q13 q14 q15 q16 q17 q18 q19 q20 q21 q22 q23 x q25 q26 q27 q28 q29 q30 R) := rfl
theorem own_g1_cap {q0 : List Int32} {q1 : List Int32} {q2 : List Int32} {q3 : List Int32} {q4 : List Int32} {q5 : List Int32} {q6 : List Int32} {q7 : List Int32} {q8 : List Int32} {q9 : List Int32} {q10 : List Int32} {q11 : List Int32} {q12 : List Int32} {q13 : List Int32} {q14 : List Int32} {q15 : List Int32} {q16 : List Int32} {q17 : List Int32} {q18 : List Int32} {q19 : List Int32} {q20 : List Int32} {q21 : List Int32} {q22 : List Int32} {q23 : List Int32} {q24 : Int32} {q25 : Int32} {q26 : Int32} {q27 : Int32} {q28 : Int32} {q29 : Int32} {q30 : Int32} {R : AHeap} : getC (C1 q0 q1 q2 q3 q4 q5 q6 q7 q8 q9 q10 q11 q12 q13 q14 q15 q16 q17 q18 q19 q20 q21 q22 q23 q24 q25 q26 q27 q28 q29 q30 R) 0 25 = some (.int q25) := rfl
theorem own_p1_cap {q0 : List Int32} {q1 : List Int32} {q2 : List Int32} {q3 : List Int32} {q4 : List Int32} {q5 : List Int32} {q6 : List Int32} {q7 : List Int32} {q8 : List Int32} {q9 : List Int32} {q10 : List Int32} {q11 : List Int32} {q12 : List Int32} {q13 : List Int32} {q14 : List Int32} {q15 : List Int32} {q16 : List Int32} {q17 : List Int32} {q18 : List Int32} {q19 : List Int32} {q20 : List Int32} {q21 : List Int32} {q22 : List Int32} {q23 : List Int32} {q24 : Int32} {q25 : Int32} {q26 : Int32} {q27 : Int32} {q28 : Int32} {q29 : Int32} {q30 : Int32} {R : AHeap} {k : Nat} {x : Int32} : putC own_P k (C1 q0 q1 q2 q3 q4 q5 q6 q7 q8 q9 q10 q11 q12 q13 q14 q15 q16 q17 q18 q19 q20 q21 q22 q23 q24 q25 q26 q27 q28 q29 q30 R) 0 25 (.int x) = some (C1 q0 q1 q2 q3 q4 q5 q6 q7 q8 q9 q10 q11 q12 q13 q14 q15 q16 q17 q18 q19 q20 q21 q22 q23 q24 x q26 q27 q28 q29 q30 R) := rfl
theorem own_g1_mask {q0 : List Int32} {q1 : List Int32} {q2 : List Int32} {q3 : List Int32} {q4 : List Int32} {q5 : List Int32} {q6 : List Int32} {q7 : List Int32} {q8 : List Int32} {q9 : List Int32} {q10 : List Int32} {q11 : List Int32} {q12 : List Int32} {q13 : List Int32} {q14 : List Int32} {q15 : List Int32} {q16 : List Int32} {q17 : List Int32} {q18 : List Int32} {q19 : List Int32} {q20 : List Int32} {q21 : List Int32} {q22 : List Int32} {q23 : List Int32} {q24 : Int32} {q25 : Int32} {q26 : Int32} {q27 : Int32} {q28 : Int32} {q29 : Int32} {q30 : Int32} {R : AHeap} : getC (C1 q0 q1 q2 q3 q4 q5 q6 q7 q8 q9 q10 q11 q12 q13 q14 q15 q16 q17 q18 q19 q20 q21 q22 q23 q24 q25 q26 q27 q28 q29 q30 R) 0 26 = some (.int q26) := rfl
theorem own_p1_mask {q0 : List Int32} {q1 : List Int32} {q2 : List Int32} {q3 : List Int32} {q4 : List Int32} {q5 : List Int32} {q6 : List Int32} {q7 : List Int32} {q8 : List Int32} {q9 : List Int32} {q10 : List Int32} {q11 : List Int32} {q12 : List Int32} {q13 : List Int32} {q14 : List Int32} {q15 : List Int32} {q16 : List Int32} {q17 : List Int32} {q18 : List Int32} {q19 : List Int32} {q20 : List Int32} {q21 : List Int32} {q22 : List Int32} {q23 : List Int32} {q24 : Int32} {q25 : Int32} {q26 : Int32} {q27 : Int32} {q28 : Int32} {q29 : Int32} {q30 : Int32} {R : AHeap} {k : Nat} {x : Int32} : putC own_P k (C1 q0 q1 q2 q3 q4 q5 q6 q7 q8 q9 q10 q11 q12 q13 q14 q15 q16 q17 q18 q19 q20 q21 q22 q23 q24 q25 q26 q27 q28 q29 q30 R) 0 26 (.int x) = some (C1 q0 q1 q2 q3 q4 q5 q6 q7 q8 q9 q10 q11 q12 q13 q14 q15 q16 q17 q18 q19 q20 q21 q22 q23 q24 q25 x q27 q28 q29 q30 R) := rfl
theorem own_g1_head {q0 : List Int32} {q1 : List Int32} {q2 : List Int32} {q3 : List Int32} {q4 : List Int32} {q5 : List Int32} {q6 : List Int32} {q7 : List Int32} {q8 : List Int32} {q9 : List Int32} {q10 : List Int32} {q11 : List Int32} {q12 : List Int32} {q13 : List Int32} {q14 : List Int32} {q15 : List Int32} {q16 : List Int32} {q17 : List Int32} {q18 : List Int32} {q19 : List Int32} {q20 : List Int32} {q21 : List Int32} {q22 : List Int32} {q23 : List Int32} {q24 : Int32} {q25 : Int32} {q26 : Int32} {q27 : Int32} {q28 : Int32} {q29 : Int32} {q30 : Int32} {R : AHeap} : getC (C1 q0 q1 q2 q3 q4 q5 q6 q7 q8 q9 q10 q11 q12 q13 q14 q15 q16 q17 q18 q19 q20 q21 q22 q23 q24 q25 q26 q27 q28 q29 q30 R) 0 27 = some (.int q27) := rfl
theorem own_p1_head {q0 : List Int32} {q1 : List Int32} {q2 : List Int32} {q3 : List Int32} {q4 : List Int32} {q5 : List Int32} {q6 : List Int32} {q7 : List Int32} {q8 : List Int32} {q9 : List Int32} {q10 : List Int32} {q11 : List Int32} {q12 : List Int32} {q13 : List Int32} {q14 : List Int32} {q15 : List Int32} {q16 : List Int32} {q17 : List Int32} {q18 : List Int32} {q19 : List Int32} {q20 : List Int32} {q21 : List Int32} {q22 : List Int32} {q23 : List Int32} {q24 : Int32} {q25 : Int32} {q26 : Int32} {q27 : Int32} {q28 : Int32} {q29 : Int32} {q30 : Int32} {R : AHeap} {k : Nat} {x : Int32} : putC own_P k (C1 q0 q1 q2 q3 q4 q5 q6 q7 q8 q9 q10 q11 q12 q13 q14 q15 q16 q17 q18 q19 q20 q21 q22 q23 q24 q25 q26 q27 q28 q29 q30 R) 0 27 (.int x) = some (C1 q0 q1 q2 q3 q4 q5 q6 q7 q8 q9 q10 q11 q12 q13 q14 q15 q16 q17 q18 q19 q20 q21 q22 q23 q24 q25 q26 x q28 q29 q30 R) := rfl
theorem own_g1_tail {q0 : List Int32} {q1 : List Int32} {q2 : List Int32} {q3 : List Int32} {q4 : List Int32} {q5 : List Int32} {q6 : List Int32} {q7 : List Int32} {q8 : List Int32} {q9 : List Int32} {q10 : List Int32} {q11 : List Int32} {q12 : List Int32} {q13 : List Int32} {q14 : List Int32} {q15 : List Int32} {q16 : List Int32} {q17 : List Int32} {q18 : List Int32} {q19 : List Int32} {q20 : List Int32} {q21 : List Int32} {q22 : List Int32} {q23 : List Int32} {q24 : Int32} {q25 : Int32} {q26 : Int32} {q27 : Int32} {q28 : Int32} {q29 : Int32} {q30 : Int32} {R : AHeap} : getC (C1 q0 q1 q2 q3 q4 q5 q6 q7 q8 q9 q10 q11 q12 q13 q14 q15 q16 q17 q18 q19 q20 q21 q22 q23 q24 q25 q26 q27 q28 q29 q30 R) 0 28 = some (.int q28) := rfl
theorem own_p1_tail {q0 : List Int32} {q1 : List Int32} {q2 : List Int32} {q3 : List Int32} {q4 : List Int32} {q5 : List Int32} {q6 : List Int32} {q7 : List Int32} {q8 : List Int32} {q9 : List Int32} {q10 : List Int32} {q11 : List Int32} {q12 : List Int32} {q13 : List Int32} {q14 : List Int32} {q15 : List Int32} {q16 : List Int32} {q17 : List Int32} {q18 : List Int32} {q19 : List Int32} {q20 : List Int32} {q21 : List Int32} {q22 : List Int32} {q23 : List Int32} {q24 : Int32} {q25 : Int32} {q26 : Int32} {q27 : Int32} {q28 : Int32} {q29 : Int32} {q30 : Int32} {R : AHeap} {k : Nat} {x : Int32} : putC own_P k (C1 q0 q1 q2 q3 q4 q5 q6 q7 q8 q9 q10 q11 q12 q13 q14 q15 q16 q17 q18 q19 q20 q21 q22 q23 q24 q25 q26 q27 q28 q29 q30 R) 0 28 (.int x) = some (C1 q0 q1 q2 q3 q4 q5 q6 q7 q8 q9 q10 q11 q12 q13 q14 q15 q16 q17 q18 q19 q20 q21 q22 q23 q24 q25 q26 q27 x q29 q30 R) := rfl
theorem own_g1_histLen {q0 : List Int32} {q1 : List Int32} {q2 : List Int32} {q3 : List Int32} {q4 : List Int32} {q5 : List Int32} {q6 : List Int32} {q7 : List Int32} {q8 : List Int32} {q9 : List Int32} {q10 : List Int32} {q11 : List Int32} {q12 : List Int32} {q13 : List Int32} {q14 : List Int32} {q15 : List Int32} {q16 : List Int32} {q17 : List Int32} {q18 : List Int32} {q19 : List Int32} {q20 : List Int32} {q21 : List Int32} {q22 : List Int32} {q23 : List Int32} {q24 : Int32} {q25 : Int32} {q26 : Int32} {q27 : Int32} {q28 : Int32} {q29 : Int32} {q30 : Int32} {R : AHeap} : getC (C1 q0 q1 q2 q3 q4 q5 q6 q7 q8 q9 q10 q11 q12 q13 q14 q15 q16 q17 q18 q19 q20 q21 q22 q23 q24 q25 q26 q27 q28 q29 q30 R) 0 29 = some (.int q29) := rfl
theorem own_p1_histLen {q0 : List Int32} {q1 : List Int32} {q2 : List Int32} {q3 : List Int32} {q4 : List Int32} {q5 : List Int32} {q6 : List Int32} {q7 : List Int32} {q8 : List Int32} {q9 : List Int32} {q10 : List Int32} {q11 : List Int32} {q12 : List Int32} {q13 : List Int32} {q14 : List Int32} {q15 : List Int32} {q16 : List Int32} {q17 : List Int32} {q18 : List Int32} {q19 : List Int32} {q20 : List Int32} {q21 : List Int32} {q22 : List Int32} {q23 : List Int32} {q24 : Int32} {q25 : Int32} {q26 : Int32} {q27 : Int32} {q28 : Int32} {q29 : Int32} {q30 : Int32} {R : AHeap} {k : Nat} {x : Int32} : putC own_P k (C1 q0 q1 q2 q3 q4 q5 q6 q7 q8 q9 q10 q11 q12 q13 q14 q15 q16 q17 q18 q19 q20 q21 q22 q23 q24 q25 q26 q27 q28 q29 q30 R) 0 29 (.int x) = some (C1 q0 q1 q2 q3 q4 q5 q6 q7 q8 q9 q10 q11 q12 q13 q14 q15 q16 q17 q18 q19 q20 q21 q22 q23 q24 q25 q26 q27 q28 x q30 R) := rfl
theorem own_g1_snapLen {q0 : List Int32} {q1 : List Int32} {q2 : List Int32} {q3 : List Int32} {q4 : List Int32} {q5 : List Int32} {q6 : List Int32} {q7 : List Int32} {q8 : List Int32} {q9 : List Int32} {q10 : List Int32} {q11 : List Int32} {q12 : List Int32} {q13 : List Int32} {q14 : List Int32} {q15 : List Int32} {q16 : List Int32} {q17 : List Int32} {q18 : List Int32} {q19 : List Int32} {q20 : List Int32} {q21 : List Int32} {q22 : List Int32} {q23 : List Int32} {q24 : Int32} {q25 : Int32} {q26 : Int32} {q27 : Int32} {q28 : Int32} {q29 : Int32} {q30 : Int32} {R : AHeap} : getC (C1 q0 q1 q2 q3 q4 q5 q6 q7 q8 q9 q10 q11 q12 q13 q14 q15 q16 q17 q18 q19 q20 q21 q22 q23 q24 q25 q26 q27 q28 q29 q30 R) 0 30 = some (.int q30) := rfl
theorem own_p1_snapLen {q0 : List Int32} {q1 : List Int32} {q2 : List Int32} {q3 : List Int32} {q4 : List Int32} {q5 : List Int32} {q6 : List Int32} {q7 : List Int32} {q8 : List Int32} {q9 : List Int32} {q10 : List Int32} {q11 : List Int32} {q12 : List Int32} {q13 : List Int32} {q14 : List Int32} {q15 : List Int32} {q16 : List Int32} {q17 : List Int32} {q18 : List Int32} {q19 : List Int32} {q20 : List Int32} {q21 : List Int32} {q22 : List Int32} {q23 : List Int32} {q24 : Int32} {q25 : Int32} {q26 : Int32} {q27 : Int32} {q28 : Int32} {q29 : Int32} {q30 : Int32} {R : AHeap} {k : Nat} {x : Int32} : putC own_P k (C1 q0 q1 q2 q3 q4 q5 q6 q7 q8 q9 q10 q11 q12 q13 q14 q15 q16 q17 q18 q19 q20 q21 q22 q23 q24 q25 q26 q27 q28 q29 q30 R) 0 30 (.int x) = some (C1 q0 q1 q2 q3 q4 q5 q6 q7 q8 q9 q10 q11 q12 q13 q14 q15 q16 q17 q18 q19 q20 q21 q22 q23 q24 q25 q26 q27 q28 q29 x R) := rfl
theorem own_objN : own_P.objN = 33 := rfl
def j_clamp (v1 : Int32) (v2 : Int32) (v3 : Int32) : Int32 := (if v1 < v2 then (v2) else (if v3 < v1 then (v3) else (v1)))
set_option maxRecDepth 100000 in
theorem ev_j_clamp (H : AHeap) (a : Nat) (v1 : Int32) (v2 : Int32) (v3 : Int32) {res : Int32} {out : Option Value × AHeap} (h : j_clamp v1 v2 v3 = res) (hk : out = (some (.int res), H)) : Eval own_P 2 0 [some (.ref a), some (.int v1), some (.int v2), some (.int v3)] [] H out := by
  rw [j_clamp] at h
  refine Eval.iload_n rfl rfl ?_
  refine Eval.iload_n rfl rfl ?_
  by_cases hc1 : v1 < v2
  · rw [if_pos hc1] at h
    refine Eval.icmpF rfl (tlt hc1).2.1 ?_
    refine Eval.iload_n rfl rfl ?_
    subst h
    subst hk
    exact Eval.ret rfl rfl
  · rw [if_neg hc1] at h
    refine Eval.icmpT (t := 7) rfl rfl (flt hc1).2.1 ?_
    refine Eval.iload_n rfl rfl ?_
    refine Eval.iload_n rfl rfl ?_
    by_cases hc2 : v3 < v1
    · rw [if_pos hc2] at h
      refine Eval.icmpF rfl (tlt hc2).2.2.2 ?_
      refine Eval.iload_n rfl rfl ?_
      subst h
      subst hk
      exact Eval.ret rfl rfl
    · rw [if_neg hc2] at h
      refine Eval.icmpT (t := 14) rfl rfl (flt hc2).2.2.2 ?_
      refine Eval.iload_n rfl rfl ?_
      subst h
      subst hk
      exact Eval.ret rfl rfl
abbrev j_init_l259_K (res : (Q) ⊕ (Q)) (out : Option Value × AHeap) : Prop := Sum.elim (fun res => Eval own_P 1 275 [some (.ref 0), none, none, none, none, none, none, none] [] (W1 res []) out) (fun res => Eval own_P 1 304 [some (.ref 0), none, none, none, none, none, none, none] [] (W1 res []) out) res

def j_init_l259 : Nat → Q → Int32 → Int32 → Option ((Q) ⊕ (Q))
  | 0, _, _, _ => none
  | n + 1, s, v6, v7 => (if v7 < (8 : Int32) then (if v7 < s.f_cap then (if inb s.f_seq.length ((v6 + v7) &&& s.f_mask) = true then (j_init_l259 n (s.s_seq (wr s.f_seq ((v6 + v7) &&& s.f_mask) (v6 + v7))) v6 (v7 + (1 : Int32))) else none) else some (.inl (s))) else some (.inr (s)))
set_option maxRecDepth 100000 in
theorem ev_j_init_l259 : ∀ (n : Nat) (s : Q) (v6 : Int32) (v7 : Int32) {res : (Q) ⊕ (Q)} {out : Option Value × AHeap}, j_init_l259 n s v6 v7 = some res → j_init_l259_K res out → Eval own_P 1 259 [some (.ref 0), none, none, none, none, none, some (.int v6), some (.int v7)] [] (W1 s []) out := by
  intro n
  induction n with
  | zero => intro _ _ _ res out h hk; cases h
  | succ n hrec =>
    intro s v6 v7 res out h hk
    rw [j_init_l259] at h
    refine Eval.iload rfl rfl ?_
    refine Eval.bipush (x := (8 : Int32)) rfl rfl ?_
    by_cases hc3 : v7 < (8 : Int32)
    · rw [if_pos hc3] at h
      refine Eval.icmpF rfl (tlt hc3).2.1 ?_
      refine Eval.iload rfl rfl ?_
      refine Eval.aload_n rfl rfl ?_
      refine Eval.getfield rfl rfl own_g1_cap ?_
      by_cases hc4 : v7 < s.f_cap
      · rw [if_pos hc4] at h
        refine Eval.icmpT (t := 278) rfl rfl (tlt hc4).1 ?_
        refine Eval.aload_n rfl rfl ?_
        refine Eval.getfield rfl rfl own_g1_seq ?_
        refine Eval.iload rfl rfl ?_
        refine Eval.iload rfl rfl ?_
        refine Eval.iadd rfl ?_
        refine Eval.aload_n rfl rfl ?_
        refine Eval.getfield rfl rfl own_g1_mask ?_
        refine Eval.iand rfl ?_
        refine Eval.iload rfl rfl ?_
        refine Eval.iload rfl rfl ?_
        refine Eval.iadd rfl ?_
        obtain ⟨hb5, h⟩ := ite_some h
        refine Eval.iastore rfl rfl own_a1_seq hb5 own_s1_seq ?_
        refine Eval.iinc (L' := [some (.ref 0), none, none, none, none, none, some (.int v6), some (.int (v7 + (1 : Int32)))]) rfl rfl rfl ?_
        refine Eval.goto (t := 259) rfl rfl ?_
        exact hrec _ _ _ h hk
      · rw [if_neg hc4] at h
        refine Eval.icmpF rfl (flt hc4).1 ?_
        cases h
        refine Eval.weak (L' := [some (.ref 0), none, none, none, none, none, none, none]) ⟨_, _, rfl, Or.inr rfl, _, _, rfl, Or.inl rfl, _, _, rfl, Or.inl rfl, _, _, rfl, Or.inl rfl, _, _, rfl, Or.inl rfl, _, _, rfl, Or.inl rfl, _, _, rfl, Or.inl rfl, _, _, rfl, Or.inl rfl, rfl⟩ ?_
        exact hk
    · rw [if_neg hc3] at h
      refine Eval.icmpT (t := 304) rfl rfl (flt hc3).2.1 ?_
      cases h
      refine Eval.weak (L' := [some (.ref 0), none, none, none, none, none, none, none]) ⟨_, _, rfl, Or.inr rfl, _, _, rfl, Or.inl rfl, _, _, rfl, Or.inl rfl, _, _, rfl, Or.inl rfl, _, _, rfl, Or.inl rfl, _, _, rfl, Or.inl rfl, _, _, rfl, Or.inl rfl, _, _, rfl, Or.inl rfl, rfl⟩ ?_
      exact hk
def j_init_b304 (s : Q) : Option (Q) := some ((Q.mk s.f_seq s.f_val s.f_st s.f_locP s.f_locV s.f_lastSt s.f_lastVal s.f_logKind s.f_evKind s.f_evThread s.f_evVal s.f_snap s.f_opKind s.f_opArg s.f_opInv s.f_opRes s.f_opStatus s.f_opRVal s.f_predMask s.f_openOp s.f_qBuf s.f_qLen s.f_nextCand s.f_chosen s.f_nThreads s.f_cap s.f_mask s.f_head s.f_tail (0 : Int32) (0 : Int32)))
set_option maxRecDepth 100000 in
theorem ev_j_init_b304 (s : Q) {res : Q} {out : Option Value × AHeap} (h : j_init_b304 s = some res) (hk : out = (none, (W1 res []))) : Eval own_P 1 304 [some (.ref 0), none, none, none, none, none, none, none] [] (W1 s []) out := by
  rw [j_init_b304] at h
  refine Eval.aload_n rfl rfl ?_
  refine Eval.iconst (x := (0 : Int32)) rfl rfl ?_
  refine Eval.putfield rfl rfl own_p1_histLen ?_
  refine Eval.aload_n rfl rfl ?_
  refine Eval.iconst (x := (0 : Int32)) rfl rfl ?_
  refine Eval.putfield rfl rfl own_p1_snapLen ?_
  cases h
  subst hk
  exact Eval.ret rfl rfl
def j_init_b189 (s : Q) (v1 : Int32) (v2 : Int32) (v3 : Int32) : Option (Q) := ((j_init_l259 3000 (Q.mk s.f_seq s.f_val s.f_st s.f_locP s.f_locV s.f_lastSt s.f_lastVal s.f_logKind s.f_evKind s.f_evThread s.f_evVal s.f_snap s.f_opKind s.f_opArg s.f_opInv s.f_opRes s.f_opStatus s.f_opRVal s.f_predMask s.f_openOp s.f_qBuf s.f_qLen s.f_nextCand s.f_chosen (j_clamp v2 (1 : Int32) (4 : Int32)) (ish (1 : Int32) (j_clamp v1 (1 : Int32) (3 : Int32))) ((ish (1 : Int32) (j_clamp v1 (1 : Int32) (3 : Int32))) - (1 : Int32)) ((2147483584 : Int32) + (j_clamp v3 (0 : Int32) (63 : Int32))) ((2147483584 : Int32) + (j_clamp v3 (0 : Int32) (63 : Int32))) s.f_histLen s.f_snapLen) ((2147483584 : Int32) + (j_clamp v3 (0 : Int32) (63 : Int32))) (0 : Int32)).bind fun p6 => Sum.elim (fun p8 => (j_init_b304 p8)) (fun p9 => (j_init_b304 p9)) p6)
set_option maxRecDepth 100000 in
theorem ev_j_init_b189 (s : Q) (v1 : Int32) (v2 : Int32) (v3 : Int32) {res : Q} {out : Option Value × AHeap} (h : j_init_b189 s v1 v2 v3 = some res) (hk : out = (none, (W1 res []))) : Eval own_P 1 189 [some (.ref 0), some (.int v1), some (.int v2), some (.int v3), none, none, none, none] [] (W1 s []) out := by
  rw [j_init_b189] at h
  refine Eval.aload_n rfl rfl ?_
  refine Eval.iload_n rfl rfl ?_
  refine Eval.iconst (x := (1 : Int32)) rfl rfl ?_
  refine Eval.iconst (x := (3 : Int32)) rfl rfl ?_
  refine Eval.callI (rest := []) (x := (j_clamp v1 (1 : Int32) (3 : Int32))) (H1 := (W1 s [])) rfl rfl (ev_j_clamp (W1 s []) 0 v1 (1 : Int32) (3 : Int32) rfl rfl) ?_
  refine Eval.istore (L' := [some (.ref 0), some (.int v1), some (.int v2), some (.int v3), some (.int (j_clamp v1 (1 : Int32) (3 : Int32))), none, none, none]) rfl rfl ?_
  refine Eval.aload_n rfl rfl ?_
  refine Eval.aload_n rfl rfl ?_
  refine Eval.iload_n rfl rfl ?_
  refine Eval.iconst (x := (1 : Int32)) rfl rfl ?_
  refine Eval.iconst (x := (4 : Int32)) rfl rfl ?_
  refine Eval.callI (rest := [.ref 0]) (x := (j_clamp v2 (1 : Int32) (4 : Int32))) (H1 := (W1 s [])) rfl rfl (ev_j_clamp (W1 s []) 0 v2 (1 : Int32) (4 : Int32) rfl rfl) ?_
  refine Eval.putfield rfl rfl own_p1_nThreads ?_
  refine Eval.aload_n rfl rfl ?_
  refine Eval.iload_n rfl rfl ?_
  refine Eval.iconst (x := (0 : Int32)) rfl rfl ?_
  refine Eval.bipush (x := (63 : Int32)) rfl rfl ?_
  refine Eval.callI (rest := []) (x := (j_clamp v3 (0 : Int32) (63 : Int32))) (H1 := (C1 s.f_seq s.f_val s.f_st s.f_locP s.f_locV s.f_lastSt s.f_lastVal s.f_logKind s.f_evKind s.f_evThread s.f_evVal s.f_snap s.f_opKind s.f_opArg s.f_opInv s.f_opRes s.f_opStatus s.f_opRVal s.f_predMask s.f_openOp s.f_qBuf s.f_qLen s.f_nextCand s.f_chosen (j_clamp v2 (1 : Int32) (4 : Int32)) s.f_cap s.f_mask s.f_head s.f_tail s.f_histLen s.f_snapLen [])) rfl rfl (ev_j_clamp (C1 s.f_seq s.f_val s.f_st s.f_locP s.f_locV s.f_lastSt s.f_lastVal s.f_logKind s.f_evKind s.f_evThread s.f_evVal s.f_snap s.f_opKind s.f_opArg s.f_opInv s.f_opRes s.f_opStatus s.f_opRVal s.f_predMask s.f_openOp s.f_qBuf s.f_qLen s.f_nextCand s.f_chosen (j_clamp v2 (1 : Int32) (4 : Int32)) s.f_cap s.f_mask s.f_head s.f_tail s.f_histLen s.f_snapLen []) 0 v3 (0 : Int32) (63 : Int32) rfl rfl) ?_
  refine Eval.istore (L' := [some (.ref 0), some (.int v1), some (.int v2), some (.int v3), some (.int (j_clamp v1 (1 : Int32) (3 : Int32))), some (.int (j_clamp v3 (0 : Int32) (63 : Int32))), none, none]) rfl rfl ?_
  refine Eval.aload_n rfl rfl ?_
  refine Eval.iconst (x := (1 : Int32)) rfl rfl ?_
  refine Eval.iload rfl rfl ?_
  refine Eval.ishl rfl ?_
  refine Eval.putfield rfl rfl own_p1_cap ?_
  refine Eval.aload_n rfl rfl ?_
  refine Eval.aload_n rfl rfl ?_
  refine Eval.getfield rfl rfl own_g1_cap ?_
  refine Eval.iconst (x := (1 : Int32)) rfl rfl ?_
  refine Eval.isub rfl ?_
  refine Eval.putfield rfl rfl own_p1_mask ?_
  refine Eval.ldc (x := (2147483584 : Int32)) rfl rfl ?_
  refine Eval.iload rfl rfl ?_
  refine Eval.iadd rfl ?_
  refine Eval.istore (L' := [some (.ref 0), some (.int v1), some (.int v2), some (.int v3), some (.int (j_clamp v1 (1 : Int32) (3 : Int32))), some (.int (j_clamp v3 (0 : Int32) (63 : Int32))), some (.int ((2147483584 : Int32) + (j_clamp v3 (0 : Int32) (63 : Int32)))), none]) rfl rfl ?_
  refine Eval.aload_n rfl rfl ?_
  refine Eval.iload rfl rfl ?_
  refine Eval.putfield rfl rfl own_p1_head ?_
  refine Eval.aload_n rfl rfl ?_
  refine Eval.iload rfl rfl ?_
  refine Eval.putfield rfl rfl own_p1_tail ?_
  refine Eval.iconst (x := (0 : Int32)) rfl rfl ?_
  refine Eval.istore (L' := [some (.ref 0), some (.int v1), some (.int v2), some (.int v3), some (.int (j_clamp v1 (1 : Int32) (3 : Int32))), some (.int (j_clamp v3 (0 : Int32) (63 : Int32))), some (.int ((2147483584 : Int32) + (j_clamp v3 (0 : Int32) (63 : Int32)))), some (.int (0 : Int32))]) rfl rfl ?_
  refine Eval.weak (L' := [some (.ref 0), none, none, none, none, none, some (.int ((2147483584 : Int32) + (j_clamp v3 (0 : Int32) (63 : Int32)))), some (.int (0 : Int32))]) ⟨_, _, rfl, Or.inr rfl, _, _, rfl, Or.inl rfl, _, _, rfl, Or.inl rfl, _, _, rfl, Or.inl rfl, _, _, rfl, Or.inl rfl, _, _, rfl, Or.inl rfl, _, _, rfl, Or.inr rfl, _, _, rfl, Or.inr rfl, rfl⟩ ?_
  obtain ⟨p6, hq7, h⟩ := bind_some h
  rcases p6 with p8 | p9
  · dsimp only [Sum.elim] at h
    refine ev_j_init_l259 _ (Q.mk s.f_seq s.f_val s.f_st s.f_locP s.f_locV s.f_lastSt s.f_lastVal s.f_logKind s.f_evKind s.f_evThread s.f_evVal s.f_snap s.f_opKind s.f_opArg s.f_opInv s.f_opRes s.f_opStatus s.f_opRVal s.f_predMask s.f_openOp s.f_qBuf s.f_qLen s.f_nextCand s.f_chosen (j_clamp v2 (1 : Int32) (4 : Int32)) (ish (1 : Int32) (j_clamp v1 (1 : Int32) (3 : Int32))) ((ish (1 : Int32) (j_clamp v1 (1 : Int32) (3 : Int32))) - (1 : Int32)) ((2147483584 : Int32) + (j_clamp v3 (0 : Int32) (63 : Int32))) ((2147483584 : Int32) + (j_clamp v3 (0 : Int32) (63 : Int32))) s.f_histLen s.f_snapLen) ((2147483584 : Int32) + (j_clamp v3 (0 : Int32) (63 : Int32))) (0 : Int32) hq7 ?_
    show Eval own_P 1 275 [some (.ref 0), none, none, none, none, none, none, none] [] (W1 p8 []) out
    refine Eval.goto (t := 304) rfl rfl ?_
    exact ev_j_init_b304 p8 h hk
  · dsimp only [Sum.elim] at h
    refine ev_j_init_l259 _ (Q.mk s.f_seq s.f_val s.f_st s.f_locP s.f_locV s.f_lastSt s.f_lastVal s.f_logKind s.f_evKind s.f_evThread s.f_evVal s.f_snap s.f_opKind s.f_opArg s.f_opInv s.f_opRes s.f_opStatus s.f_opRVal s.f_predMask s.f_openOp s.f_qBuf s.f_qLen s.f_nextCand s.f_chosen (j_clamp v2 (1 : Int32) (4 : Int32)) (ish (1 : Int32) (j_clamp v1 (1 : Int32) (3 : Int32))) ((ish (1 : Int32) (j_clamp v1 (1 : Int32) (3 : Int32))) - (1 : Int32)) ((2147483584 : Int32) + (j_clamp v3 (0 : Int32) (63 : Int32))) ((2147483584 : Int32) + (j_clamp v3 (0 : Int32) (63 : Int32))) s.f_histLen s.f_snapLen) ((2147483584 : Int32) + (j_clamp v3 (0 : Int32) (63 : Int32))) (0 : Int32) hq7 ?_
    show Eval own_P 1 304 [some (.ref 0), none, none, none, none, none, none, none] [] (W1 p9 []) out
    exact ev_j_init_b304 p9 h hk
def j_init (v1 : Int32) (v2 : Int32) (v3 : Int32) : Option (Q) := (j_init_b189 Q0 v1 v2 v3)
set_option maxRecDepth 100000 in
theorem ev_j_init (v1 : Int32) (v2 : Int32) (v3 : Int32) {res : Q} {out : Option Value × AHeap} (h : j_init v1 v2 v3 = some res) (hk : out = (none, (W1 res []))) : Eval own_P 1 0 [some (.ref 0), some (.int v1), some (.int v2), some (.int v3), none, none, none, none] [] (W0 [.inl [.null, .null, .null, .null, .null, .null, .null, .null, .null, .null, .null, .null, .null, .null, .null, .null, .null, .null, .null, .null, .null, .null, .null, .null, .int (0 : Int32), .int (0 : Int32), .int (0 : Int32), .int (0 : Int32), .int (0 : Int32), .int (0 : Int32), .int (0 : Int32)]]) out := by
  rw [j_init] at h
  refine Eval.aload_n rfl rfl ?_
  refine Eval.objInit rfl rfl ?_
  refine Eval.aload_n rfl rfl ?_
  refine Eval.bipush (x := (8 : Int32)) rfl rfl ?_
  refine Eval.newarray (z := 33) (N := 8) (a := 1) (H1 := (W0 [.inl [.null, .null, .null, .null, .null, .null, .null, .null, .null, .null, .null, .null, .null, .null, .null, .null, .null, .null, .null, .null, .null, .null, .null, .null, .int (0 : Int32), .int (0 : Int32), .int (0 : Int32), .int (0 : Int32), .int (0 : Int32), .int (0 : Int32), .int (0 : Int32)], .inr (.inl (1, List.replicate 8 0))])) rfl rfl rfl rfl rfl (by decide) (by decide) (by unfold W0; simp only [hsz, csz, own_objN, List.length_replicate]) (by decide) rfl ?_
  refine Eval.putfield (H1 := (W0 [.inl [.ref 1, .null, .null, .null, .null, .null, .null, .null, .null, .null, .null, .null, .null, .null, .null, .null, .null, .null, .null, .null, .null, .null, .null, .null, .int (0 : Int32), .int (0 : Int32), .int (0 : Int32), .int (0 : Int32), .int (0 : Int32), .int (0 : Int32), .int (0 : Int32)], .inr (.inl (1, List.replicate 8 0))])) rfl rfl rfl ?_
  refine Eval.aload_n rfl rfl ?_
  refine Eval.bipush (x := (8 : Int32)) rfl rfl ?_
  refine Eval.newarray (z := 41) (N := 8) (a := 2) (H1 := (W0 [.inl [.ref 1, .null, .null, .null, .null, .null, .null, .null, .null, .null, .null, .null, .null, .null, .null, .null, .null, .null, .null, .null, .null, .null, .null, .null, .int (0 : Int32), .int (0 : Int32), .int (0 : Int32), .int (0 : Int32), .int (0 : Int32), .int (0 : Int32), .int (0 : Int32)], .inr (.inl (1, List.replicate 8 0)), .inr (.inl (1, List.replicate 8 0))])) rfl rfl rfl rfl rfl (by decide) (by decide) (by unfold W0; simp only [hsz, csz, own_objN, List.length_replicate]) (by decide) rfl ?_
  refine Eval.putfield (H1 := (W0 [.inl [.ref 1, .ref 2, .null, .null, .null, .null, .null, .null, .null, .null, .null, .null, .null, .null, .null, .null, .null, .null, .null, .null, .null, .null, .null, .null, .int (0 : Int32), .int (0 : Int32), .int (0 : Int32), .int (0 : Int32), .int (0 : Int32), .int (0 : Int32), .int (0 : Int32)], .inr (.inl (1, List.replicate 8 0)), .inr (.inl (1, List.replicate 8 0))])) rfl rfl rfl ?_
  refine Eval.aload_n rfl rfl ?_
  refine Eval.iconst (x := (4 : Int32)) rfl rfl ?_
  refine Eval.newarray (z := 49) (N := 4) (a := 3) (H1 := (W0 [.inl [.ref 1, .ref 2, .null, .null, .null, .null, .null, .null, .null, .null, .null, .null, .null, .null, .null, .null, .null, .null, .null, .null, .null, .null, .null, .null, .int (0 : Int32), .int (0 : Int32), .int (0 : Int32), .int (0 : Int32), .int (0 : Int32), .int (0 : Int32), .int (0 : Int32)], .inr (.inl (1, List.replicate 8 0)), .inr (.inl (1, List.replicate 8 0)), .inr (.inl (1, List.replicate 4 0))])) rfl rfl rfl rfl rfl (by decide) (by decide) (by unfold W0; simp only [hsz, csz, own_objN, List.length_replicate]) (by decide) rfl ?_
  refine Eval.putfield (H1 := (W0 [.inl [.ref 1, .ref 2, .ref 3, .null, .null, .null, .null, .null, .null, .null, .null, .null, .null, .null, .null, .null, .null, .null, .null, .null, .null, .null, .null, .null, .int (0 : Int32), .int (0 : Int32), .int (0 : Int32), .int (0 : Int32), .int (0 : Int32), .int (0 : Int32), .int (0 : Int32)], .inr (.inl (1, List.replicate 8 0)), .inr (.inl (1, List.replicate 8 0)), .inr (.inl (1, List.replicate 4 0))])) rfl rfl rfl ?_
  refine Eval.aload_n rfl rfl ?_
  refine Eval.iconst (x := (4 : Int32)) rfl rfl ?_
  refine Eval.newarray (z := 53) (N := 4) (a := 4) (H1 := (W0 [.inl [.ref 1, .ref 2, .ref 3, .null, .null, .null, .null, .null, .null, .null, .null, .null, .null, .null, .null, .null, .null, .null, .null, .null, .null, .null, .null, .null, .int (0 : Int32), .int (0 : Int32), .int (0 : Int32), .int (0 : Int32), .int (0 : Int32), .int (0 : Int32), .int (0 : Int32)], .inr (.inl (1, List.replicate 8 0)), .inr (.inl (1, List.replicate 8 0)), .inr (.inl (1, List.replicate 4 0)), .inr (.inl (1, List.replicate 4 0))])) rfl rfl rfl rfl rfl (by decide) (by decide) (by unfold W0; simp only [hsz, csz, own_objN, List.length_replicate]) (by decide) rfl ?_
  refine Eval.putfield (H1 := (W0 [.inl [.ref 1, .ref 2, .ref 3, .ref 4, .null, .null, .null, .null, .null, .null, .null, .null, .null, .null, .null, .null, .null, .null, .null, .null, .null, .null, .null, .null, .int (0 : Int32), .int (0 : Int32), .int (0 : Int32), .int (0 : Int32), .int (0 : Int32), .int (0 : Int32), .int (0 : Int32)], .inr (.inl (1, List.replicate 8 0)), .inr (.inl (1, List.replicate 8 0)), .inr (.inl (1, List.replicate 4 0)), .inr (.inl (1, List.replicate 4 0))])) rfl rfl rfl ?_
  refine Eval.aload_n rfl rfl ?_
  refine Eval.iconst (x := (4 : Int32)) rfl rfl ?_
  refine Eval.newarray (z := 57) (N := 4) (a := 5) (H1 := (W0 [.inl [.ref 1, .ref 2, .ref 3, .ref 4, .null, .null, .null, .null, .null, .null, .null, .null, .null, .null, .null, .null, .null, .null, .null, .null, .null, .null, .null, .null, .int (0 : Int32), .int (0 : Int32), .int (0 : Int32), .int (0 : Int32), .int (0 : Int32), .int (0 : Int32), .int (0 : Int32)], .inr (.inl (1, List.replicate 8 0)), .inr (.inl (1, List.replicate 8 0)), .inr (.inl (1, List.replicate 4 0)), .inr (.inl (1, List.replicate 4 0)), .inr (.inl (1, List.replicate 4 0))])) rfl rfl rfl rfl rfl (by decide) (by decide) (by unfold W0; simp only [hsz, csz, own_objN, List.length_replicate]) (by decide) rfl ?_
  refine Eval.putfield (H1 := (W0 [.inl [.ref 1, .ref 2, .ref 3, .ref 4, .ref 5, .null, .null, .null, .null, .null, .null, .null, .null, .null, .null, .null, .null, .null, .null, .null, .null, .null, .null, .null, .int (0 : Int32), .int (0 : Int32), .int (0 : Int32), .int (0 : Int32), .int (0 : Int32), .int (0 : Int32), .int (0 : Int32)], .inr (.inl (1, List.replicate 8 0)), .inr (.inl (1, List.replicate 8 0)), .inr (.inl (1, List.replicate 4 0)), .inr (.inl (1, List.replicate 4 0)), .inr (.inl (1, List.replicate 4 0))])) rfl rfl rfl ?_
  refine Eval.aload_n rfl rfl ?_
  refine Eval.iconst (x := (4 : Int32)) rfl rfl ?_
  refine Eval.newarray (z := 61) (N := 4) (a := 6) (H1 := (W0 [.inl [.ref 1, .ref 2, .ref 3, .ref 4, .ref 5, .null, .null, .null, .null, .null, .null, .null, .null, .null, .null, .null, .null, .null, .null, .null, .null, .null, .null, .null, .int (0 : Int32), .int (0 : Int32), .int (0 : Int32), .int (0 : Int32), .int (0 : Int32), .int (0 : Int32), .int (0 : Int32)], .inr (.inl (1, List.replicate 8 0)), .inr (.inl (1, List.replicate 8 0)), .inr (.inl (1, List.replicate 4 0)), .inr (.inl (1, List.replicate 4 0)), .inr (.inl (1, List.replicate 4 0)), .inr (.inl (1, List.replicate 4 0))])) rfl rfl rfl rfl rfl (by decide) (by decide) (by unfold W0; simp only [hsz, csz, own_objN, List.length_replicate]) (by decide) rfl ?_
  refine Eval.putfield (H1 := (W0 [.inl [.ref 1, .ref 2, .ref 3, .ref 4, .ref 5, .ref 6, .null, .null, .null, .null, .null, .null, .null, .null, .null, .null, .null, .null, .null, .null, .null, .null, .null, .null, .int (0 : Int32), .int (0 : Int32), .int (0 : Int32), .int (0 : Int32), .int (0 : Int32), .int (0 : Int32), .int (0 : Int32)], .inr (.inl (1, List.replicate 8 0)), .inr (.inl (1, List.replicate 8 0)), .inr (.inl (1, List.replicate 4 0)), .inr (.inl (1, List.replicate 4 0)), .inr (.inl (1, List.replicate 4 0)), .inr (.inl (1, List.replicate 4 0))])) rfl rfl rfl ?_
  refine Eval.aload_n rfl rfl ?_
  refine Eval.iconst (x := (4 : Int32)) rfl rfl ?_
  refine Eval.newarray (z := 65) (N := 4) (a := 7) (H1 := (W0 [.inl [.ref 1, .ref 2, .ref 3, .ref 4, .ref 5, .ref 6, .null, .null, .null, .null, .null, .null, .null, .null, .null, .null, .null, .null, .null, .null, .null, .null, .null, .null, .int (0 : Int32), .int (0 : Int32), .int (0 : Int32), .int (0 : Int32), .int (0 : Int32), .int (0 : Int32), .int (0 : Int32)], .inr (.inl (1, List.replicate 8 0)), .inr (.inl (1, List.replicate 8 0)), .inr (.inl (1, List.replicate 4 0)), .inr (.inl (1, List.replicate 4 0)), .inr (.inl (1, List.replicate 4 0)), .inr (.inl (1, List.replicate 4 0)), .inr (.inl (1, List.replicate 4 0))])) rfl rfl rfl rfl rfl (by decide) (by decide) (by unfold W0; simp only [hsz, csz, own_objN, List.length_replicate]) (by decide) rfl ?_
  refine Eval.putfield (H1 := (W0 [.inl [.ref 1, .ref 2, .ref 3, .ref 4, .ref 5, .ref 6, .ref 7, .null, .null, .null, .null, .null, .null, .null, .null, .null, .null, .null, .null, .null, .null, .null, .null, .null, .int (0 : Int32), .int (0 : Int32), .int (0 : Int32), .int (0 : Int32), .int (0 : Int32), .int (0 : Int32), .int (0 : Int32)], .inr (.inl (1, List.replicate 8 0)), .inr (.inl (1, List.replicate 8 0)), .inr (.inl (1, List.replicate 4 0)), .inr (.inl (1, List.replicate 4 0)), .inr (.inl (1, List.replicate 4 0)), .inr (.inl (1, List.replicate 4 0)), .inr (.inl (1, List.replicate 4 0))])) rfl rfl rfl ?_
  refine Eval.aload_n rfl rfl ?_
  refine Eval.iconst (x := (4 : Int32)) rfl rfl ?_
  refine Eval.newarray (z := 69) (N := 4) (a := 8) (H1 := (W0 [.inl [.ref 1, .ref 2, .ref 3, .ref 4, .ref 5, .ref 6, .ref 7, .null, .null, .null, .null, .null, .null, .null, .null, .null, .null, .null, .null, .null, .null, .null, .null, .null, .int (0 : Int32), .int (0 : Int32), .int (0 : Int32), .int (0 : Int32), .int (0 : Int32), .int (0 : Int32), .int (0 : Int32)], .inr (.inl (1, List.replicate 8 0)), .inr (.inl (1, List.replicate 8 0)), .inr (.inl (1, List.replicate 4 0)), .inr (.inl (1, List.replicate 4 0)), .inr (.inl (1, List.replicate 4 0)), .inr (.inl (1, List.replicate 4 0)), .inr (.inl (1, List.replicate 4 0)), .inr (.inl (1, List.replicate 4 0))])) rfl rfl rfl rfl rfl (by decide) (by decide) (by unfold W0; simp only [hsz, csz, own_objN, List.length_replicate]) (by decide) rfl ?_
  refine Eval.putfield (H1 := (W0 [.inl [.ref 1, .ref 2, .ref 3, .ref 4, .ref 5, .ref 6, .ref 7, .ref 8, .null, .null, .null, .null, .null, .null, .null, .null, .null, .null, .null, .null, .null, .null, .null, .null, .int (0 : Int32), .int (0 : Int32), .int (0 : Int32), .int (0 : Int32), .int (0 : Int32), .int (0 : Int32), .int (0 : Int32)], .inr (.inl (1, List.replicate 8 0)), .inr (.inl (1, List.replicate 8 0)), .inr (.inl (1, List.replicate 4 0)), .inr (.inl (1, List.replicate 4 0)), .inr (.inl (1, List.replicate 4 0)), .inr (.inl (1, List.replicate 4 0)), .inr (.inl (1, List.replicate 4 0)), .inr (.inl (1, List.replicate 4 0))])) rfl rfl rfl ?_
  refine Eval.aload_n rfl rfl ?_
  refine Eval.bipush (x := (64 : Int32)) rfl rfl ?_
  refine Eval.newarray (z := 73) (N := 64) (a := 9) (H1 := (W0 [.inl [.ref 1, .ref 2, .ref 3, .ref 4, .ref 5, .ref 6, .ref 7, .ref 8, .null, .null, .null, .null, .null, .null, .null, .null, .null, .null, .null, .null, .null, .null, .null, .null, .int (0 : Int32), .int (0 : Int32), .int (0 : Int32), .int (0 : Int32), .int (0 : Int32), .int (0 : Int32), .int (0 : Int32)], .inr (.inl (1, List.replicate 8 0)), .inr (.inl (1, List.replicate 8 0)), .inr (.inl (1, List.replicate 4 0)), .inr (.inl (1, List.replicate 4 0)), .inr (.inl (1, List.replicate 4 0)), .inr (.inl (1, List.replicate 4 0)), .inr (.inl (1, List.replicate 4 0)), .inr (.inl (1, List.replicate 4 0)), .inr (.inl (1, List.replicate 64 0))])) rfl rfl rfl rfl rfl (by decide) (by decide) (by unfold W0; simp only [hsz, csz, own_objN, List.length_replicate]) (by decide) rfl ?_
  refine Eval.putfield (H1 := (W0 [.inl [.ref 1, .ref 2, .ref 3, .ref 4, .ref 5, .ref 6, .ref 7, .ref 8, .ref 9, .null, .null, .null, .null, .null, .null, .null, .null, .null, .null, .null, .null, .null, .null, .null, .int (0 : Int32), .int (0 : Int32), .int (0 : Int32), .int (0 : Int32), .int (0 : Int32), .int (0 : Int32), .int (0 : Int32)], .inr (.inl (1, List.replicate 8 0)), .inr (.inl (1, List.replicate 8 0)), .inr (.inl (1, List.replicate 4 0)), .inr (.inl (1, List.replicate 4 0)), .inr (.inl (1, List.replicate 4 0)), .inr (.inl (1, List.replicate 4 0)), .inr (.inl (1, List.replicate 4 0)), .inr (.inl (1, List.replicate 4 0)), .inr (.inl (1, List.replicate 64 0))])) rfl rfl rfl ?_
  refine Eval.aload_n rfl rfl ?_
  refine Eval.bipush (x := (64 : Int32)) rfl rfl ?_
  refine Eval.newarray (z := 137) (N := 64) (a := 10) (H1 := (W0 [.inl [.ref 1, .ref 2, .ref 3, .ref 4, .ref 5, .ref 6, .ref 7, .ref 8, .ref 9, .null, .null, .null, .null, .null, .null, .null, .null, .null, .null, .null, .null, .null, .null, .null, .int (0 : Int32), .int (0 : Int32), .int (0 : Int32), .int (0 : Int32), .int (0 : Int32), .int (0 : Int32), .int (0 : Int32)], .inr (.inl (1, List.replicate 8 0)), .inr (.inl (1, List.replicate 8 0)), .inr (.inl (1, List.replicate 4 0)), .inr (.inl (1, List.replicate 4 0)), .inr (.inl (1, List.replicate 4 0)), .inr (.inl (1, List.replicate 4 0)), .inr (.inl (1, List.replicate 4 0)), .inr (.inl (1, List.replicate 4 0)), .inr (.inl (1, List.replicate 64 0)), .inr (.inl (1, List.replicate 64 0))])) rfl rfl rfl rfl rfl (by decide) (by decide) (by unfold W0; simp only [hsz, csz, own_objN, List.length_replicate]) (by decide) rfl ?_
  refine Eval.putfield (H1 := (W0 [.inl [.ref 1, .ref 2, .ref 3, .ref 4, .ref 5, .ref 6, .ref 7, .ref 8, .ref 9, .ref 10, .null, .null, .null, .null, .null, .null, .null, .null, .null, .null, .null, .null, .null, .null, .int (0 : Int32), .int (0 : Int32), .int (0 : Int32), .int (0 : Int32), .int (0 : Int32), .int (0 : Int32), .int (0 : Int32)], .inr (.inl (1, List.replicate 8 0)), .inr (.inl (1, List.replicate 8 0)), .inr (.inl (1, List.replicate 4 0)), .inr (.inl (1, List.replicate 4 0)), .inr (.inl (1, List.replicate 4 0)), .inr (.inl (1, List.replicate 4 0)), .inr (.inl (1, List.replicate 4 0)), .inr (.inl (1, List.replicate 4 0)), .inr (.inl (1, List.replicate 64 0)), .inr (.inl (1, List.replicate 64 0))])) rfl rfl rfl ?_
  refine Eval.aload_n rfl rfl ?_
  refine Eval.bipush (x := (64 : Int32)) rfl rfl ?_
  refine Eval.newarray (z := 201) (N := 64) (a := 11) (H1 := (W0 [.inl [.ref 1, .ref 2, .ref 3, .ref 4, .ref 5, .ref 6, .ref 7, .ref 8, .ref 9, .ref 10, .null, .null, .null, .null, .null, .null, .null, .null, .null, .null, .null, .null, .null, .null, .int (0 : Int32), .int (0 : Int32), .int (0 : Int32), .int (0 : Int32), .int (0 : Int32), .int (0 : Int32), .int (0 : Int32)], .inr (.inl (1, List.replicate 8 0)), .inr (.inl (1, List.replicate 8 0)), .inr (.inl (1, List.replicate 4 0)), .inr (.inl (1, List.replicate 4 0)), .inr (.inl (1, List.replicate 4 0)), .inr (.inl (1, List.replicate 4 0)), .inr (.inl (1, List.replicate 4 0)), .inr (.inl (1, List.replicate 4 0)), .inr (.inl (1, List.replicate 64 0)), .inr (.inl (1, List.replicate 64 0)), .inr (.inl (1, List.replicate 64 0))])) rfl rfl rfl rfl rfl (by decide) (by decide) (by unfold W0; simp only [hsz, csz, own_objN, List.length_replicate]) (by decide) rfl ?_
  refine Eval.putfield (H1 := (W0 [.inl [.ref 1, .ref 2, .ref 3, .ref 4, .ref 5, .ref 6, .ref 7, .ref 8, .ref 9, .ref 10, .ref 11, .null, .null, .null, .null, .null, .null, .null, .null, .null, .null, .null, .null, .null, .int (0 : Int32), .int (0 : Int32), .int (0 : Int32), .int (0 : Int32), .int (0 : Int32), .int (0 : Int32), .int (0 : Int32)], .inr (.inl (1, List.replicate 8 0)), .inr (.inl (1, List.replicate 8 0)), .inr (.inl (1, List.replicate 4 0)), .inr (.inl (1, List.replicate 4 0)), .inr (.inl (1, List.replicate 4 0)), .inr (.inl (1, List.replicate 4 0)), .inr (.inl (1, List.replicate 4 0)), .inr (.inl (1, List.replicate 4 0)), .inr (.inl (1, List.replicate 64 0)), .inr (.inl (1, List.replicate 64 0)), .inr (.inl (1, List.replicate 64 0))])) rfl rfl rfl ?_
  refine Eval.aload_n rfl rfl ?_
  refine Eval.bipush (x := (8 : Int32)) rfl rfl ?_
  refine Eval.newarray (z := 265) (N := 8) (a := 12) (H1 := (W0 [.inl [.ref 1, .ref 2, .ref 3, .ref 4, .ref 5, .ref 6, .ref 7, .ref 8, .ref 9, .ref 10, .ref 11, .null, .null, .null, .null, .null, .null, .null, .null, .null, .null, .null, .null, .null, .int (0 : Int32), .int (0 : Int32), .int (0 : Int32), .int (0 : Int32), .int (0 : Int32), .int (0 : Int32), .int (0 : Int32)], .inr (.inl (1, List.replicate 8 0)), .inr (.inl (1, List.replicate 8 0)), .inr (.inl (1, List.replicate 4 0)), .inr (.inl (1, List.replicate 4 0)), .inr (.inl (1, List.replicate 4 0)), .inr (.inl (1, List.replicate 4 0)), .inr (.inl (1, List.replicate 4 0)), .inr (.inl (1, List.replicate 4 0)), .inr (.inl (1, List.replicate 64 0)), .inr (.inl (1, List.replicate 64 0)), .inr (.inl (1, List.replicate 64 0)), .inr (.inl (1, List.replicate 8 0))])) rfl rfl rfl rfl rfl (by decide) (by decide) (by unfold W0; simp only [hsz, csz, own_objN, List.length_replicate]) (by decide) rfl ?_
  refine Eval.putfield (H1 := (W0 [.inl [.ref 1, .ref 2, .ref 3, .ref 4, .ref 5, .ref 6, .ref 7, .ref 8, .ref 9, .ref 10, .ref 11, .ref 12, .null, .null, .null, .null, .null, .null, .null, .null, .null, .null, .null, .null, .int (0 : Int32), .int (0 : Int32), .int (0 : Int32), .int (0 : Int32), .int (0 : Int32), .int (0 : Int32), .int (0 : Int32)], .inr (.inl (1, List.replicate 8 0)), .inr (.inl (1, List.replicate 8 0)), .inr (.inl (1, List.replicate 4 0)), .inr (.inl (1, List.replicate 4 0)), .inr (.inl (1, List.replicate 4 0)), .inr (.inl (1, List.replicate 4 0)), .inr (.inl (1, List.replicate 4 0)), .inr (.inl (1, List.replicate 4 0)), .inr (.inl (1, List.replicate 64 0)), .inr (.inl (1, List.replicate 64 0)), .inr (.inl (1, List.replicate 64 0)), .inr (.inl (1, List.replicate 8 0))])) rfl rfl rfl ?_
  refine Eval.aload_n rfl rfl ?_
  refine Eval.bipush (x := (6 : Int32)) rfl rfl ?_
  refine Eval.newarray (z := 273) (N := 6) (a := 13) (H1 := (W0 [.inl [.ref 1, .ref 2, .ref 3, .ref 4, .ref 5, .ref 6, .ref 7, .ref 8, .ref 9, .ref 10, .ref 11, .ref 12, .null, .null, .null, .null, .null, .null, .null, .null, .null, .null, .null, .null, .int (0 : Int32), .int (0 : Int32), .int (0 : Int32), .int (0 : Int32), .int (0 : Int32), .int (0 : Int32), .int (0 : Int32)], .inr (.inl (1, List.replicate 8 0)), .inr (.inl (1, List.replicate 8 0)), .inr (.inl (1, List.replicate 4 0)), .inr (.inl (1, List.replicate 4 0)), .inr (.inl (1, List.replicate 4 0)), .inr (.inl (1, List.replicate 4 0)), .inr (.inl (1, List.replicate 4 0)), .inr (.inl (1, List.replicate 4 0)), .inr (.inl (1, List.replicate 64 0)), .inr (.inl (1, List.replicate 64 0)), .inr (.inl (1, List.replicate 64 0)), .inr (.inl (1, List.replicate 8 0)), .inr (.inl (1, List.replicate 6 0))])) rfl rfl rfl rfl rfl (by decide) (by decide) (by unfold W0; simp only [hsz, csz, own_objN, List.length_replicate]) (by decide) rfl ?_
  refine Eval.putfield (H1 := (W0 [.inl [.ref 1, .ref 2, .ref 3, .ref 4, .ref 5, .ref 6, .ref 7, .ref 8, .ref 9, .ref 10, .ref 11, .ref 12, .ref 13, .null, .null, .null, .null, .null, .null, .null, .null, .null, .null, .null, .int (0 : Int32), .int (0 : Int32), .int (0 : Int32), .int (0 : Int32), .int (0 : Int32), .int (0 : Int32), .int (0 : Int32)], .inr (.inl (1, List.replicate 8 0)), .inr (.inl (1, List.replicate 8 0)), .inr (.inl (1, List.replicate 4 0)), .inr (.inl (1, List.replicate 4 0)), .inr (.inl (1, List.replicate 4 0)), .inr (.inl (1, List.replicate 4 0)), .inr (.inl (1, List.replicate 4 0)), .inr (.inl (1, List.replicate 4 0)), .inr (.inl (1, List.replicate 64 0)), .inr (.inl (1, List.replicate 64 0)), .inr (.inl (1, List.replicate 64 0)), .inr (.inl (1, List.replicate 8 0)), .inr (.inl (1, List.replicate 6 0))])) rfl rfl rfl ?_
  refine Eval.aload_n rfl rfl ?_
  refine Eval.bipush (x := (6 : Int32)) rfl rfl ?_
  refine Eval.newarray (z := 279) (N := 6) (a := 14) (H1 := (W0 [.inl [.ref 1, .ref 2, .ref 3, .ref 4, .ref 5, .ref 6, .ref 7, .ref 8, .ref 9, .ref 10, .ref 11, .ref 12, .ref 13, .null, .null, .null, .null, .null, .null, .null, .null, .null, .null, .null, .int (0 : Int32), .int (0 : Int32), .int (0 : Int32), .int (0 : Int32), .int (0 : Int32), .int (0 : Int32), .int (0 : Int32)], .inr (.inl (1, List.replicate 8 0)), .inr (.inl (1, List.replicate 8 0)), .inr (.inl (1, List.replicate 4 0)), .inr (.inl (1, List.replicate 4 0)), .inr (.inl (1, List.replicate 4 0)), .inr (.inl (1, List.replicate 4 0)), .inr (.inl (1, List.replicate 4 0)), .inr (.inl (1, List.replicate 4 0)), .inr (.inl (1, List.replicate 64 0)), .inr (.inl (1, List.replicate 64 0)), .inr (.inl (1, List.replicate 64 0)), .inr (.inl (1, List.replicate 8 0)), .inr (.inl (1, List.replicate 6 0)), .inr (.inl (1, List.replicate 6 0))])) rfl rfl rfl rfl rfl (by decide) (by decide) (by unfold W0; simp only [hsz, csz, own_objN, List.length_replicate]) (by decide) rfl ?_
  refine Eval.putfield (H1 := (W0 [.inl [.ref 1, .ref 2, .ref 3, .ref 4, .ref 5, .ref 6, .ref 7, .ref 8, .ref 9, .ref 10, .ref 11, .ref 12, .ref 13, .ref 14, .null, .null, .null, .null, .null, .null, .null, .null, .null, .null, .int (0 : Int32), .int (0 : Int32), .int (0 : Int32), .int (0 : Int32), .int (0 : Int32), .int (0 : Int32), .int (0 : Int32)], .inr (.inl (1, List.replicate 8 0)), .inr (.inl (1, List.replicate 8 0)), .inr (.inl (1, List.replicate 4 0)), .inr (.inl (1, List.replicate 4 0)), .inr (.inl (1, List.replicate 4 0)), .inr (.inl (1, List.replicate 4 0)), .inr (.inl (1, List.replicate 4 0)), .inr (.inl (1, List.replicate 4 0)), .inr (.inl (1, List.replicate 64 0)), .inr (.inl (1, List.replicate 64 0)), .inr (.inl (1, List.replicate 64 0)), .inr (.inl (1, List.replicate 8 0)), .inr (.inl (1, List.replicate 6 0)), .inr (.inl (1, List.replicate 6 0))])) rfl rfl rfl ?_
  refine Eval.aload_n rfl rfl ?_
  refine Eval.bipush (x := (6 : Int32)) rfl rfl ?_
  refine Eval.newarray (z := 285) (N := 6) (a := 15) (H1 := (W0 [.inl [.ref 1, .ref 2, .ref 3, .ref 4, .ref 5, .ref 6, .ref 7, .ref 8, .ref 9, .ref 10, .ref 11, .ref 12, .ref 13, .ref 14, .null, .null, .null, .null, .null, .null, .null, .null, .null, .null, .int (0 : Int32), .int (0 : Int32), .int (0 : Int32), .int (0 : Int32), .int (0 : Int32), .int (0 : Int32), .int (0 : Int32)], .inr (.inl (1, List.replicate 8 0)), .inr (.inl (1, List.replicate 8 0)), .inr (.inl (1, List.replicate 4 0)), .inr (.inl (1, List.replicate 4 0)), .inr (.inl (1, List.replicate 4 0)), .inr (.inl (1, List.replicate 4 0)), .inr (.inl (1, List.replicate 4 0)), .inr (.inl (1, List.replicate 4 0)), .inr (.inl (1, List.replicate 64 0)), .inr (.inl (1, List.replicate 64 0)), .inr (.inl (1, List.replicate 64 0)), .inr (.inl (1, List.replicate 8 0)), .inr (.inl (1, List.replicate 6 0)), .inr (.inl (1, List.replicate 6 0)), .inr (.inl (1, List.replicate 6 0))])) rfl rfl rfl rfl rfl (by decide) (by decide) (by unfold W0; simp only [hsz, csz, own_objN, List.length_replicate]) (by decide) rfl ?_
  refine Eval.putfield (H1 := (W0 [.inl [.ref 1, .ref 2, .ref 3, .ref 4, .ref 5, .ref 6, .ref 7, .ref 8, .ref 9, .ref 10, .ref 11, .ref 12, .ref 13, .ref 14, .ref 15, .null, .null, .null, .null, .null, .null, .null, .null, .null, .int (0 : Int32), .int (0 : Int32), .int (0 : Int32), .int (0 : Int32), .int (0 : Int32), .int (0 : Int32), .int (0 : Int32)], .inr (.inl (1, List.replicate 8 0)), .inr (.inl (1, List.replicate 8 0)), .inr (.inl (1, List.replicate 4 0)), .inr (.inl (1, List.replicate 4 0)), .inr (.inl (1, List.replicate 4 0)), .inr (.inl (1, List.replicate 4 0)), .inr (.inl (1, List.replicate 4 0)), .inr (.inl (1, List.replicate 4 0)), .inr (.inl (1, List.replicate 64 0)), .inr (.inl (1, List.replicate 64 0)), .inr (.inl (1, List.replicate 64 0)), .inr (.inl (1, List.replicate 8 0)), .inr (.inl (1, List.replicate 6 0)), .inr (.inl (1, List.replicate 6 0)), .inr (.inl (1, List.replicate 6 0))])) rfl rfl rfl ?_
  refine Eval.aload_n rfl rfl ?_
  refine Eval.bipush (x := (6 : Int32)) rfl rfl ?_
  refine Eval.newarray (z := 291) (N := 6) (a := 16) (H1 := (W0 [.inl [.ref 1, .ref 2, .ref 3, .ref 4, .ref 5, .ref 6, .ref 7, .ref 8, .ref 9, .ref 10, .ref 11, .ref 12, .ref 13, .ref 14, .ref 15, .null, .null, .null, .null, .null, .null, .null, .null, .null, .int (0 : Int32), .int (0 : Int32), .int (0 : Int32), .int (0 : Int32), .int (0 : Int32), .int (0 : Int32), .int (0 : Int32)], .inr (.inl (1, List.replicate 8 0)), .inr (.inl (1, List.replicate 8 0)), .inr (.inl (1, List.replicate 4 0)), .inr (.inl (1, List.replicate 4 0)), .inr (.inl (1, List.replicate 4 0)), .inr (.inl (1, List.replicate 4 0)), .inr (.inl (1, List.replicate 4 0)), .inr (.inl (1, List.replicate 4 0)), .inr (.inl (1, List.replicate 64 0)), .inr (.inl (1, List.replicate 64 0)), .inr (.inl (1, List.replicate 64 0)), .inr (.inl (1, List.replicate 8 0)), .inr (.inl (1, List.replicate 6 0)), .inr (.inl (1, List.replicate 6 0)), .inr (.inl (1, List.replicate 6 0)), .inr (.inl (1, List.replicate 6 0))])) rfl rfl rfl rfl rfl (by decide) (by decide) (by unfold W0; simp only [hsz, csz, own_objN, List.length_replicate]) (by decide) rfl ?_
  refine Eval.putfield (H1 := (W0 [.inl [.ref 1, .ref 2, .ref 3, .ref 4, .ref 5, .ref 6, .ref 7, .ref 8, .ref 9, .ref 10, .ref 11, .ref 12, .ref 13, .ref 14, .ref 15, .ref 16, .null, .null, .null, .null, .null, .null, .null, .null, .int (0 : Int32), .int (0 : Int32), .int (0 : Int32), .int (0 : Int32), .int (0 : Int32), .int (0 : Int32), .int (0 : Int32)], .inr (.inl (1, List.replicate 8 0)), .inr (.inl (1, List.replicate 8 0)), .inr (.inl (1, List.replicate 4 0)), .inr (.inl (1, List.replicate 4 0)), .inr (.inl (1, List.replicate 4 0)), .inr (.inl (1, List.replicate 4 0)), .inr (.inl (1, List.replicate 4 0)), .inr (.inl (1, List.replicate 4 0)), .inr (.inl (1, List.replicate 64 0)), .inr (.inl (1, List.replicate 64 0)), .inr (.inl (1, List.replicate 64 0)), .inr (.inl (1, List.replicate 8 0)), .inr (.inl (1, List.replicate 6 0)), .inr (.inl (1, List.replicate 6 0)), .inr (.inl (1, List.replicate 6 0)), .inr (.inl (1, List.replicate 6 0))])) rfl rfl rfl ?_
  refine Eval.aload_n rfl rfl ?_
  refine Eval.bipush (x := (6 : Int32)) rfl rfl ?_
  refine Eval.newarray (z := 297) (N := 6) (a := 17) (H1 := (W0 [.inl [.ref 1, .ref 2, .ref 3, .ref 4, .ref 5, .ref 6, .ref 7, .ref 8, .ref 9, .ref 10, .ref 11, .ref 12, .ref 13, .ref 14, .ref 15, .ref 16, .null, .null, .null, .null, .null, .null, .null, .null, .int (0 : Int32), .int (0 : Int32), .int (0 : Int32), .int (0 : Int32), .int (0 : Int32), .int (0 : Int32), .int (0 : Int32)], .inr (.inl (1, List.replicate 8 0)), .inr (.inl (1, List.replicate 8 0)), .inr (.inl (1, List.replicate 4 0)), .inr (.inl (1, List.replicate 4 0)), .inr (.inl (1, List.replicate 4 0)), .inr (.inl (1, List.replicate 4 0)), .inr (.inl (1, List.replicate 4 0)), .inr (.inl (1, List.replicate 4 0)), .inr (.inl (1, List.replicate 64 0)), .inr (.inl (1, List.replicate 64 0)), .inr (.inl (1, List.replicate 64 0)), .inr (.inl (1, List.replicate 8 0)), .inr (.inl (1, List.replicate 6 0)), .inr (.inl (1, List.replicate 6 0)), .inr (.inl (1, List.replicate 6 0)), .inr (.inl (1, List.replicate 6 0)), .inr (.inl (1, List.replicate 6 0))])) rfl rfl rfl rfl rfl (by decide) (by decide) (by unfold W0; simp only [hsz, csz, own_objN, List.length_replicate]) (by decide) rfl ?_
  refine Eval.putfield (H1 := (W0 [.inl [.ref 1, .ref 2, .ref 3, .ref 4, .ref 5, .ref 6, .ref 7, .ref 8, .ref 9, .ref 10, .ref 11, .ref 12, .ref 13, .ref 14, .ref 15, .ref 16, .ref 17, .null, .null, .null, .null, .null, .null, .null, .int (0 : Int32), .int (0 : Int32), .int (0 : Int32), .int (0 : Int32), .int (0 : Int32), .int (0 : Int32), .int (0 : Int32)], .inr (.inl (1, List.replicate 8 0)), .inr (.inl (1, List.replicate 8 0)), .inr (.inl (1, List.replicate 4 0)), .inr (.inl (1, List.replicate 4 0)), .inr (.inl (1, List.replicate 4 0)), .inr (.inl (1, List.replicate 4 0)), .inr (.inl (1, List.replicate 4 0)), .inr (.inl (1, List.replicate 4 0)), .inr (.inl (1, List.replicate 64 0)), .inr (.inl (1, List.replicate 64 0)), .inr (.inl (1, List.replicate 64 0)), .inr (.inl (1, List.replicate 8 0)), .inr (.inl (1, List.replicate 6 0)), .inr (.inl (1, List.replicate 6 0)), .inr (.inl (1, List.replicate 6 0)), .inr (.inl (1, List.replicate 6 0)), .inr (.inl (1, List.replicate 6 0))])) rfl rfl rfl ?_
  refine Eval.aload_n rfl rfl ?_
  refine Eval.bipush (x := (6 : Int32)) rfl rfl ?_
  refine Eval.newarray (z := 303) (N := 6) (a := 18) (H1 := (W0 [.inl [.ref 1, .ref 2, .ref 3, .ref 4, .ref 5, .ref 6, .ref 7, .ref 8, .ref 9, .ref 10, .ref 11, .ref 12, .ref 13, .ref 14, .ref 15, .ref 16, .ref 17, .null, .null, .null, .null, .null, .null, .null, .int (0 : Int32), .int (0 : Int32), .int (0 : Int32), .int (0 : Int32), .int (0 : Int32), .int (0 : Int32), .int (0 : Int32)], .inr (.inl (1, List.replicate 8 0)), .inr (.inl (1, List.replicate 8 0)), .inr (.inl (1, List.replicate 4 0)), .inr (.inl (1, List.replicate 4 0)), .inr (.inl (1, List.replicate 4 0)), .inr (.inl (1, List.replicate 4 0)), .inr (.inl (1, List.replicate 4 0)), .inr (.inl (1, List.replicate 4 0)), .inr (.inl (1, List.replicate 64 0)), .inr (.inl (1, List.replicate 64 0)), .inr (.inl (1, List.replicate 64 0)), .inr (.inl (1, List.replicate 8 0)), .inr (.inl (1, List.replicate 6 0)), .inr (.inl (1, List.replicate 6 0)), .inr (.inl (1, List.replicate 6 0)), .inr (.inl (1, List.replicate 6 0)), .inr (.inl (1, List.replicate 6 0)), .inr (.inl (1, List.replicate 6 0))])) rfl rfl rfl rfl rfl (by decide) (by decide) (by unfold W0; simp only [hsz, csz, own_objN, List.length_replicate]) (by decide) rfl ?_
  refine Eval.putfield (H1 := (W0 [.inl [.ref 1, .ref 2, .ref 3, .ref 4, .ref 5, .ref 6, .ref 7, .ref 8, .ref 9, .ref 10, .ref 11, .ref 12, .ref 13, .ref 14, .ref 15, .ref 16, .ref 17, .ref 18, .null, .null, .null, .null, .null, .null, .int (0 : Int32), .int (0 : Int32), .int (0 : Int32), .int (0 : Int32), .int (0 : Int32), .int (0 : Int32), .int (0 : Int32)], .inr (.inl (1, List.replicate 8 0)), .inr (.inl (1, List.replicate 8 0)), .inr (.inl (1, List.replicate 4 0)), .inr (.inl (1, List.replicate 4 0)), .inr (.inl (1, List.replicate 4 0)), .inr (.inl (1, List.replicate 4 0)), .inr (.inl (1, List.replicate 4 0)), .inr (.inl (1, List.replicate 4 0)), .inr (.inl (1, List.replicate 64 0)), .inr (.inl (1, List.replicate 64 0)), .inr (.inl (1, List.replicate 64 0)), .inr (.inl (1, List.replicate 8 0)), .inr (.inl (1, List.replicate 6 0)), .inr (.inl (1, List.replicate 6 0)), .inr (.inl (1, List.replicate 6 0)), .inr (.inl (1, List.replicate 6 0)), .inr (.inl (1, List.replicate 6 0)), .inr (.inl (1, List.replicate 6 0))])) rfl rfl rfl ?_
  refine Eval.aload_n rfl rfl ?_
  refine Eval.bipush (x := (6 : Int32)) rfl rfl ?_
  refine Eval.newarray (z := 309) (N := 6) (a := 19) (H1 := (W0 [.inl [.ref 1, .ref 2, .ref 3, .ref 4, .ref 5, .ref 6, .ref 7, .ref 8, .ref 9, .ref 10, .ref 11, .ref 12, .ref 13, .ref 14, .ref 15, .ref 16, .ref 17, .ref 18, .null, .null, .null, .null, .null, .null, .int (0 : Int32), .int (0 : Int32), .int (0 : Int32), .int (0 : Int32), .int (0 : Int32), .int (0 : Int32), .int (0 : Int32)], .inr (.inl (1, List.replicate 8 0)), .inr (.inl (1, List.replicate 8 0)), .inr (.inl (1, List.replicate 4 0)), .inr (.inl (1, List.replicate 4 0)), .inr (.inl (1, List.replicate 4 0)), .inr (.inl (1, List.replicate 4 0)), .inr (.inl (1, List.replicate 4 0)), .inr (.inl (1, List.replicate 4 0)), .inr (.inl (1, List.replicate 64 0)), .inr (.inl (1, List.replicate 64 0)), .inr (.inl (1, List.replicate 64 0)), .inr (.inl (1, List.replicate 8 0)), .inr (.inl (1, List.replicate 6 0)), .inr (.inl (1, List.replicate 6 0)), .inr (.inl (1, List.replicate 6 0)), .inr (.inl (1, List.replicate 6 0)), .inr (.inl (1, List.replicate 6 0)), .inr (.inl (1, List.replicate 6 0)), .inr (.inl (1, List.replicate 6 0))])) rfl rfl rfl rfl rfl (by decide) (by decide) (by unfold W0; simp only [hsz, csz, own_objN, List.length_replicate]) (by decide) rfl ?_
  refine Eval.putfield (H1 := (W0 [.inl [.ref 1, .ref 2, .ref 3, .ref 4, .ref 5, .ref 6, .ref 7, .ref 8, .ref 9, .ref 10, .ref 11, .ref 12, .ref 13, .ref 14, .ref 15, .ref 16, .ref 17, .ref 18, .ref 19, .null, .null, .null, .null, .null, .int (0 : Int32), .int (0 : Int32), .int (0 : Int32), .int (0 : Int32), .int (0 : Int32), .int (0 : Int32), .int (0 : Int32)], .inr (.inl (1, List.replicate 8 0)), .inr (.inl (1, List.replicate 8 0)), .inr (.inl (1, List.replicate 4 0)), .inr (.inl (1, List.replicate 4 0)), .inr (.inl (1, List.replicate 4 0)), .inr (.inl (1, List.replicate 4 0)), .inr (.inl (1, List.replicate 4 0)), .inr (.inl (1, List.replicate 4 0)), .inr (.inl (1, List.replicate 64 0)), .inr (.inl (1, List.replicate 64 0)), .inr (.inl (1, List.replicate 64 0)), .inr (.inl (1, List.replicate 8 0)), .inr (.inl (1, List.replicate 6 0)), .inr (.inl (1, List.replicate 6 0)), .inr (.inl (1, List.replicate 6 0)), .inr (.inl (1, List.replicate 6 0)), .inr (.inl (1, List.replicate 6 0)), .inr (.inl (1, List.replicate 6 0)), .inr (.inl (1, List.replicate 6 0))])) rfl rfl rfl ?_
  refine Eval.aload_n rfl rfl ?_
  refine Eval.iconst (x := (4 : Int32)) rfl rfl ?_
  refine Eval.newarray (z := 315) (N := 4) (a := 20) (H1 := (W0 [.inl [.ref 1, .ref 2, .ref 3, .ref 4, .ref 5, .ref 6, .ref 7, .ref 8, .ref 9, .ref 10, .ref 11, .ref 12, .ref 13, .ref 14, .ref 15, .ref 16, .ref 17, .ref 18, .ref 19, .null, .null, .null, .null, .null, .int (0 : Int32), .int (0 : Int32), .int (0 : Int32), .int (0 : Int32), .int (0 : Int32), .int (0 : Int32), .int (0 : Int32)], .inr (.inl (1, List.replicate 8 0)), .inr (.inl (1, List.replicate 8 0)), .inr (.inl (1, List.replicate 4 0)), .inr (.inl (1, List.replicate 4 0)), .inr (.inl (1, List.replicate 4 0)), .inr (.inl (1, List.replicate 4 0)), .inr (.inl (1, List.replicate 4 0)), .inr (.inl (1, List.replicate 4 0)), .inr (.inl (1, List.replicate 64 0)), .inr (.inl (1, List.replicate 64 0)), .inr (.inl (1, List.replicate 64 0)), .inr (.inl (1, List.replicate 8 0)), .inr (.inl (1, List.replicate 6 0)), .inr (.inl (1, List.replicate 6 0)), .inr (.inl (1, List.replicate 6 0)), .inr (.inl (1, List.replicate 6 0)), .inr (.inl (1, List.replicate 6 0)), .inr (.inl (1, List.replicate 6 0)), .inr (.inl (1, List.replicate 6 0)), .inr (.inl (1, List.replicate 4 0))])) rfl rfl rfl rfl rfl (by decide) (by decide) (by unfold W0; simp only [hsz, csz, own_objN, List.length_replicate]) (by decide) rfl ?_
  refine Eval.putfield (H1 := (W0 [.inl [.ref 1, .ref 2, .ref 3, .ref 4, .ref 5, .ref 6, .ref 7, .ref 8, .ref 9, .ref 10, .ref 11, .ref 12, .ref 13, .ref 14, .ref 15, .ref 16, .ref 17, .ref 18, .ref 19, .ref 20, .null, .null, .null, .null, .int (0 : Int32), .int (0 : Int32), .int (0 : Int32), .int (0 : Int32), .int (0 : Int32), .int (0 : Int32), .int (0 : Int32)], .inr (.inl (1, List.replicate 8 0)), .inr (.inl (1, List.replicate 8 0)), .inr (.inl (1, List.replicate 4 0)), .inr (.inl (1, List.replicate 4 0)), .inr (.inl (1, List.replicate 4 0)), .inr (.inl (1, List.replicate 4 0)), .inr (.inl (1, List.replicate 4 0)), .inr (.inl (1, List.replicate 4 0)), .inr (.inl (1, List.replicate 64 0)), .inr (.inl (1, List.replicate 64 0)), .inr (.inl (1, List.replicate 64 0)), .inr (.inl (1, List.replicate 8 0)), .inr (.inl (1, List.replicate 6 0)), .inr (.inl (1, List.replicate 6 0)), .inr (.inl (1, List.replicate 6 0)), .inr (.inl (1, List.replicate 6 0)), .inr (.inl (1, List.replicate 6 0)), .inr (.inl (1, List.replicate 6 0)), .inr (.inl (1, List.replicate 6 0)), .inr (.inl (1, List.replicate 4 0))])) rfl rfl rfl ?_
  refine Eval.aload_n rfl rfl ?_
  refine Eval.bipush (x := (56 : Int32)) rfl rfl ?_
  refine Eval.newarray (z := 319) (N := 56) (a := 21) (H1 := (W0 [.inl [.ref 1, .ref 2, .ref 3, .ref 4, .ref 5, .ref 6, .ref 7, .ref 8, .ref 9, .ref 10, .ref 11, .ref 12, .ref 13, .ref 14, .ref 15, .ref 16, .ref 17, .ref 18, .ref 19, .ref 20, .null, .null, .null, .null, .int (0 : Int32), .int (0 : Int32), .int (0 : Int32), .int (0 : Int32), .int (0 : Int32), .int (0 : Int32), .int (0 : Int32)], .inr (.inl (1, List.replicate 8 0)), .inr (.inl (1, List.replicate 8 0)), .inr (.inl (1, List.replicate 4 0)), .inr (.inl (1, List.replicate 4 0)), .inr (.inl (1, List.replicate 4 0)), .inr (.inl (1, List.replicate 4 0)), .inr (.inl (1, List.replicate 4 0)), .inr (.inl (1, List.replicate 4 0)), .inr (.inl (1, List.replicate 64 0)), .inr (.inl (1, List.replicate 64 0)), .inr (.inl (1, List.replicate 64 0)), .inr (.inl (1, List.replicate 8 0)), .inr (.inl (1, List.replicate 6 0)), .inr (.inl (1, List.replicate 6 0)), .inr (.inl (1, List.replicate 6 0)), .inr (.inl (1, List.replicate 6 0)), .inr (.inl (1, List.replicate 6 0)), .inr (.inl (1, List.replicate 6 0)), .inr (.inl (1, List.replicate 6 0)), .inr (.inl (1, List.replicate 4 0)), .inr (.inl (1, List.replicate 56 0))])) rfl rfl rfl rfl rfl (by decide) (by decide) (by unfold W0; simp only [hsz, csz, own_objN, List.length_replicate]) (by decide) rfl ?_
  refine Eval.putfield (H1 := (W0 [.inl [.ref 1, .ref 2, .ref 3, .ref 4, .ref 5, .ref 6, .ref 7, .ref 8, .ref 9, .ref 10, .ref 11, .ref 12, .ref 13, .ref 14, .ref 15, .ref 16, .ref 17, .ref 18, .ref 19, .ref 20, .ref 21, .null, .null, .null, .int (0 : Int32), .int (0 : Int32), .int (0 : Int32), .int (0 : Int32), .int (0 : Int32), .int (0 : Int32), .int (0 : Int32)], .inr (.inl (1, List.replicate 8 0)), .inr (.inl (1, List.replicate 8 0)), .inr (.inl (1, List.replicate 4 0)), .inr (.inl (1, List.replicate 4 0)), .inr (.inl (1, List.replicate 4 0)), .inr (.inl (1, List.replicate 4 0)), .inr (.inl (1, List.replicate 4 0)), .inr (.inl (1, List.replicate 4 0)), .inr (.inl (1, List.replicate 64 0)), .inr (.inl (1, List.replicate 64 0)), .inr (.inl (1, List.replicate 64 0)), .inr (.inl (1, List.replicate 8 0)), .inr (.inl (1, List.replicate 6 0)), .inr (.inl (1, List.replicate 6 0)), .inr (.inl (1, List.replicate 6 0)), .inr (.inl (1, List.replicate 6 0)), .inr (.inl (1, List.replicate 6 0)), .inr (.inl (1, List.replicate 6 0)), .inr (.inl (1, List.replicate 6 0)), .inr (.inl (1, List.replicate 4 0)), .inr (.inl (1, List.replicate 56 0))])) rfl rfl rfl ?_
  refine Eval.aload_n rfl rfl ?_
  refine Eval.bipush (x := (7 : Int32)) rfl rfl ?_
  refine Eval.newarray (z := 375) (N := 7) (a := 22) (H1 := (W0 [.inl [.ref 1, .ref 2, .ref 3, .ref 4, .ref 5, .ref 6, .ref 7, .ref 8, .ref 9, .ref 10, .ref 11, .ref 12, .ref 13, .ref 14, .ref 15, .ref 16, .ref 17, .ref 18, .ref 19, .ref 20, .ref 21, .null, .null, .null, .int (0 : Int32), .int (0 : Int32), .int (0 : Int32), .int (0 : Int32), .int (0 : Int32), .int (0 : Int32), .int (0 : Int32)], .inr (.inl (1, List.replicate 8 0)), .inr (.inl (1, List.replicate 8 0)), .inr (.inl (1, List.replicate 4 0)), .inr (.inl (1, List.replicate 4 0)), .inr (.inl (1, List.replicate 4 0)), .inr (.inl (1, List.replicate 4 0)), .inr (.inl (1, List.replicate 4 0)), .inr (.inl (1, List.replicate 4 0)), .inr (.inl (1, List.replicate 64 0)), .inr (.inl (1, List.replicate 64 0)), .inr (.inl (1, List.replicate 64 0)), .inr (.inl (1, List.replicate 8 0)), .inr (.inl (1, List.replicate 6 0)), .inr (.inl (1, List.replicate 6 0)), .inr (.inl (1, List.replicate 6 0)), .inr (.inl (1, List.replicate 6 0)), .inr (.inl (1, List.replicate 6 0)), .inr (.inl (1, List.replicate 6 0)), .inr (.inl (1, List.replicate 6 0)), .inr (.inl (1, List.replicate 4 0)), .inr (.inl (1, List.replicate 56 0)), .inr (.inl (1, List.replicate 7 0))])) rfl rfl rfl rfl rfl (by decide) (by decide) (by unfold W0; simp only [hsz, csz, own_objN, List.length_replicate]) (by decide) rfl ?_
  refine Eval.putfield (H1 := (W0 [.inl [.ref 1, .ref 2, .ref 3, .ref 4, .ref 5, .ref 6, .ref 7, .ref 8, .ref 9, .ref 10, .ref 11, .ref 12, .ref 13, .ref 14, .ref 15, .ref 16, .ref 17, .ref 18, .ref 19, .ref 20, .ref 21, .ref 22, .null, .null, .int (0 : Int32), .int (0 : Int32), .int (0 : Int32), .int (0 : Int32), .int (0 : Int32), .int (0 : Int32), .int (0 : Int32)], .inr (.inl (1, List.replicate 8 0)), .inr (.inl (1, List.replicate 8 0)), .inr (.inl (1, List.replicate 4 0)), .inr (.inl (1, List.replicate 4 0)), .inr (.inl (1, List.replicate 4 0)), .inr (.inl (1, List.replicate 4 0)), .inr (.inl (1, List.replicate 4 0)), .inr (.inl (1, List.replicate 4 0)), .inr (.inl (1, List.replicate 64 0)), .inr (.inl (1, List.replicate 64 0)), .inr (.inl (1, List.replicate 64 0)), .inr (.inl (1, List.replicate 8 0)), .inr (.inl (1, List.replicate 6 0)), .inr (.inl (1, List.replicate 6 0)), .inr (.inl (1, List.replicate 6 0)), .inr (.inl (1, List.replicate 6 0)), .inr (.inl (1, List.replicate 6 0)), .inr (.inl (1, List.replicate 6 0)), .inr (.inl (1, List.replicate 6 0)), .inr (.inl (1, List.replicate 4 0)), .inr (.inl (1, List.replicate 56 0)), .inr (.inl (1, List.replicate 7 0))])) rfl rfl rfl ?_
  refine Eval.aload_n rfl rfl ?_
  refine Eval.bipush (x := (7 : Int32)) rfl rfl ?_
  refine Eval.newarray (z := 382) (N := 7) (a := 23) (H1 := (W0 [.inl [.ref 1, .ref 2, .ref 3, .ref 4, .ref 5, .ref 6, .ref 7, .ref 8, .ref 9, .ref 10, .ref 11, .ref 12, .ref 13, .ref 14, .ref 15, .ref 16, .ref 17, .ref 18, .ref 19, .ref 20, .ref 21, .ref 22, .null, .null, .int (0 : Int32), .int (0 : Int32), .int (0 : Int32), .int (0 : Int32), .int (0 : Int32), .int (0 : Int32), .int (0 : Int32)], .inr (.inl (1, List.replicate 8 0)), .inr (.inl (1, List.replicate 8 0)), .inr (.inl (1, List.replicate 4 0)), .inr (.inl (1, List.replicate 4 0)), .inr (.inl (1, List.replicate 4 0)), .inr (.inl (1, List.replicate 4 0)), .inr (.inl (1, List.replicate 4 0)), .inr (.inl (1, List.replicate 4 0)), .inr (.inl (1, List.replicate 64 0)), .inr (.inl (1, List.replicate 64 0)), .inr (.inl (1, List.replicate 64 0)), .inr (.inl (1, List.replicate 8 0)), .inr (.inl (1, List.replicate 6 0)), .inr (.inl (1, List.replicate 6 0)), .inr (.inl (1, List.replicate 6 0)), .inr (.inl (1, List.replicate 6 0)), .inr (.inl (1, List.replicate 6 0)), .inr (.inl (1, List.replicate 6 0)), .inr (.inl (1, List.replicate 6 0)), .inr (.inl (1, List.replicate 4 0)), .inr (.inl (1, List.replicate 56 0)), .inr (.inl (1, List.replicate 7 0)), .inr (.inl (1, List.replicate 7 0))])) rfl rfl rfl rfl rfl (by decide) (by decide) (by unfold W0; simp only [hsz, csz, own_objN, List.length_replicate]) (by decide) rfl ?_
  refine Eval.putfield (H1 := (W0 [.inl [.ref 1, .ref 2, .ref 3, .ref 4, .ref 5, .ref 6, .ref 7, .ref 8, .ref 9, .ref 10, .ref 11, .ref 12, .ref 13, .ref 14, .ref 15, .ref 16, .ref 17, .ref 18, .ref 19, .ref 20, .ref 21, .ref 22, .ref 23, .null, .int (0 : Int32), .int (0 : Int32), .int (0 : Int32), .int (0 : Int32), .int (0 : Int32), .int (0 : Int32), .int (0 : Int32)], .inr (.inl (1, List.replicate 8 0)), .inr (.inl (1, List.replicate 8 0)), .inr (.inl (1, List.replicate 4 0)), .inr (.inl (1, List.replicate 4 0)), .inr (.inl (1, List.replicate 4 0)), .inr (.inl (1, List.replicate 4 0)), .inr (.inl (1, List.replicate 4 0)), .inr (.inl (1, List.replicate 4 0)), .inr (.inl (1, List.replicate 64 0)), .inr (.inl (1, List.replicate 64 0)), .inr (.inl (1, List.replicate 64 0)), .inr (.inl (1, List.replicate 8 0)), .inr (.inl (1, List.replicate 6 0)), .inr (.inl (1, List.replicate 6 0)), .inr (.inl (1, List.replicate 6 0)), .inr (.inl (1, List.replicate 6 0)), .inr (.inl (1, List.replicate 6 0)), .inr (.inl (1, List.replicate 6 0)), .inr (.inl (1, List.replicate 6 0)), .inr (.inl (1, List.replicate 4 0)), .inr (.inl (1, List.replicate 56 0)), .inr (.inl (1, List.replicate 7 0)), .inr (.inl (1, List.replicate 7 0))])) rfl rfl rfl ?_
  refine Eval.aload_n rfl rfl ?_
  refine Eval.bipush (x := (7 : Int32)) rfl rfl ?_
  refine Eval.newarray (z := 389) (N := 7) (a := 24) (H1 := (W0 [.inl [.ref 1, .ref 2, .ref 3, .ref 4, .ref 5, .ref 6, .ref 7, .ref 8, .ref 9, .ref 10, .ref 11, .ref 12, .ref 13, .ref 14, .ref 15, .ref 16, .ref 17, .ref 18, .ref 19, .ref 20, .ref 21, .ref 22, .ref 23, .null, .int (0 : Int32), .int (0 : Int32), .int (0 : Int32), .int (0 : Int32), .int (0 : Int32), .int (0 : Int32), .int (0 : Int32)], .inr (.inl (1, List.replicate 8 0)), .inr (.inl (1, List.replicate 8 0)), .inr (.inl (1, List.replicate 4 0)), .inr (.inl (1, List.replicate 4 0)), .inr (.inl (1, List.replicate 4 0)), .inr (.inl (1, List.replicate 4 0)), .inr (.inl (1, List.replicate 4 0)), .inr (.inl (1, List.replicate 4 0)), .inr (.inl (1, List.replicate 64 0)), .inr (.inl (1, List.replicate 64 0)), .inr (.inl (1, List.replicate 64 0)), .inr (.inl (1, List.replicate 8 0)), .inr (.inl (1, List.replicate 6 0)), .inr (.inl (1, List.replicate 6 0)), .inr (.inl (1, List.replicate 6 0)), .inr (.inl (1, List.replicate 6 0)), .inr (.inl (1, List.replicate 6 0)), .inr (.inl (1, List.replicate 6 0)), .inr (.inl (1, List.replicate 6 0)), .inr (.inl (1, List.replicate 4 0)), .inr (.inl (1, List.replicate 56 0)), .inr (.inl (1, List.replicate 7 0)), .inr (.inl (1, List.replicate 7 0)), .inr (.inl (1, List.replicate 7 0))])) rfl rfl rfl rfl rfl (by decide) (by decide) (by unfold W0; simp only [hsz, csz, own_objN, List.length_replicate]) (by decide) rfl ?_
  refine Eval.putfield (H1 := (W0 [.inl [.ref 1, .ref 2, .ref 3, .ref 4, .ref 5, .ref 6, .ref 7, .ref 8, .ref 9, .ref 10, .ref 11, .ref 12, .ref 13, .ref 14, .ref 15, .ref 16, .ref 17, .ref 18, .ref 19, .ref 20, .ref 21, .ref 22, .ref 23, .ref 24, .int (0 : Int32), .int (0 : Int32), .int (0 : Int32), .int (0 : Int32), .int (0 : Int32), .int (0 : Int32), .int (0 : Int32)], .inr (.inl (1, List.replicate 8 0)), .inr (.inl (1, List.replicate 8 0)), .inr (.inl (1, List.replicate 4 0)), .inr (.inl (1, List.replicate 4 0)), .inr (.inl (1, List.replicate 4 0)), .inr (.inl (1, List.replicate 4 0)), .inr (.inl (1, List.replicate 4 0)), .inr (.inl (1, List.replicate 4 0)), .inr (.inl (1, List.replicate 64 0)), .inr (.inl (1, List.replicate 64 0)), .inr (.inl (1, List.replicate 64 0)), .inr (.inl (1, List.replicate 8 0)), .inr (.inl (1, List.replicate 6 0)), .inr (.inl (1, List.replicate 6 0)), .inr (.inl (1, List.replicate 6 0)), .inr (.inl (1, List.replicate 6 0)), .inr (.inl (1, List.replicate 6 0)), .inr (.inl (1, List.replicate 6 0)), .inr (.inl (1, List.replicate 6 0)), .inr (.inl (1, List.replicate 4 0)), .inr (.inl (1, List.replicate 56 0)), .inr (.inl (1, List.replicate 7 0)), .inr (.inl (1, List.replicate 7 0)), .inr (.inl (1, List.replicate 7 0))])) rfl rfl rfl ?_
  show Eval own_P 1 189 [some (.ref 0), some (.int v1), some (.int v2), some (.int v3), none, none, none, none] [] (W1 Q0 []) out
  exact ev_j_init_b189 Q0 v1 v2 v3 h hk
def j_valid (s : Q) (v1 : Int32) : Int32 := (if v1 < (0 : Int32) then ((0 : Int32)) else (if v1 < s.f_nThreads then ((1 : Int32)) else ((0 : Int32))))
set_option maxRecDepth 100000 in
theorem ev_j_valid (R : AHeap) (s : Q) (v1 : Int32) {res : Int32} {out : Option Value × AHeap} (h : j_valid s v1 = res) (hk : out = (some (.int res), (W1 s R))) : Eval own_P 4 0 [some (.ref 0), some (.int v1)] [] (W1 s R) out := by
  rw [j_valid] at h
  refine Eval.iload_n rfl rfl ?_
  by_cases hc33 : v1 < (0 : Int32)
  · rw [if_pos hc33] at h
    refine Eval.ifT (t := 16) rfl rfl (tlt hc33).1 ?_
    refine Eval.iconst (x := (0 : Int32)) rfl rfl ?_
    subst h
    subst hk
    exact Eval.ret rfl rfl
  · rw [if_neg hc33] at h
    refine Eval.ifF rfl (flt hc33).1 ?_
    refine Eval.iload_n rfl rfl ?_
    refine Eval.aload_n rfl rfl ?_
    refine Eval.getfield rfl rfl own_g1_nThreads ?_
    by_cases hc34 : v1 < s.f_nThreads
    · rw [if_pos hc34] at h
      refine Eval.icmpF rfl (tlt hc34).2.1 ?_
      refine Eval.iconst (x := (1 : Int32)) rfl rfl ?_
      refine Eval.goto (t := 17) rfl rfl ?_
      subst h
      subst hk
      exact Eval.ret rfl rfl
    · rw [if_neg hc34] at h
      refine Eval.icmpT (t := 16) rfl rfl (flt hc34).2.1 ?_
      refine Eval.iconst (x := (0 : Int32)) rfl rfl ?_
      subst h
      subst hk
      exact Eval.ret rfl rfl
abbrev j_pending_l4_K (R : AHeap) (s : Q) (res : Int32) (out : Option Value × AHeap) : Prop := Eval own_P 12 35 [none, some (.int res), none] [] (W1 s R) out

def j_pending_b29 (go_ : Q → Int32 → Int32 → Option (Int32)) (s : Q) (v1 : Int32) (v2 : Int32) : Option (Int32) := (go_ s v1 (v2 + (1 : Int32)))
set_option maxRecDepth 100000 in
theorem ev_j_pending_b29 (R : AHeap) (go_ : Q → Int32 → Int32 → Option (Int32)) (hrec : ∀ (s : Q) (v1 : Int32) (v2 : Int32) {res : Int32} {out : Option Value × AHeap}, go_ s v1 v2 = some res → j_pending_l4_K R s res out → Eval own_P 12 4 [some (.ref 0), some (.int v1), some (.int v2)] [] (W1 s R) out) (s : Q) (v1 : Int32) (v2 : Int32) {res : Int32} {out : Option Value × AHeap} (h : j_pending_b29 go_ s v1 v2 = some res) (hk : j_pending_l4_K R s res out) : Eval own_P 12 29 [some (.ref 0), some (.int v1), some (.int v2)] [] (W1 s R) out := by
  rw [j_pending_b29] at h
  refine Eval.iinc (L' := [some (.ref 0), some (.int v1), some (.int (v2 + (1 : Int32)))]) rfl rfl rfl ?_
  refine Eval.goto (t := 4) rfl rfl ?_
  exact hrec _ _ _ h hk
def j_pending_l4 : Nat → Q → Int32 → Int32 → Option (Int32)
  | 0, _, _, _ => none
  | n + 1, s, v1, v2 => (if v2 < (4 : Int32) then (if v2 < s.f_nThreads then (if inb s.f_st.length v2 = true then (j_pending_b29 (j_pending_l4 n) s (if (rd s.f_st v2) = (0 : Int32) then v1 else (v1 + (1 : Int32))) v2) else none) else (j_pending_b29 (j_pending_l4 n) s v1 v2)) else some (v1))
set_option maxRecDepth 100000 in
theorem ev_j_pending_l4 (R : AHeap) : ∀ (n : Nat) (s : Q) (v1 : Int32) (v2 : Int32) {res : Int32} {out : Option Value × AHeap}, j_pending_l4 n s v1 v2 = some res → j_pending_l4_K R s res out → Eval own_P 12 4 [some (.ref 0), some (.int v1), some (.int v2)] [] (W1 s R) out := by
  intro n
  induction n with
  | zero => intro _ _ _ res out h hk; cases h
  | succ n hrec =>
    intro s v1 v2 res out h hk
    rw [j_pending_l4] at h
    refine Eval.iload_n rfl rfl ?_
    refine Eval.iconst (x := (4 : Int32)) rfl rfl ?_
    by_cases hc39 : v2 < (4 : Int32)
    · rw [if_pos hc39] at h
      refine Eval.icmpF rfl (tlt hc39).2.1 ?_
      refine Eval.iload_n rfl rfl ?_
      refine Eval.aload_n rfl rfl ?_
      refine Eval.getfield rfl rfl own_g1_nThreads ?_
      by_cases hc41 : v2 < s.f_nThreads
      · rw [if_pos hc41] at h
        refine Eval.icmpF rfl (tlt hc41).2.1 ?_
        refine Eval.aload_n rfl rfl ?_
        refine Eval.getfield rfl rfl own_g1_st ?_
        refine Eval.iload_n rfl rfl ?_
        obtain ⟨hb42, h⟩ := ite_some h
        refine Eval.iaload rfl own_a1_st hb42 ?_
        suffices hJ44 : Eval own_P 12 29 [some (.ref 0), some (.int (if (rd s.f_st v2) = (0 : Int32) then v1 else (v1 + (1 : Int32)))), some (.int v2)] [] (W1 s R) out by
          by_cases hc43 : (rd s.f_st v2) = (0 : Int32)
          · refine Eval.ifT (t := 29) rfl rfl (teq hc43).1 ?_
            exact (Eval.conv hJ44 (by simp only [if_pos hc43]) rfl)
          · refine Eval.ifF rfl (feq hc43).1 ?_
            refine Eval.iinc (L' := [some (.ref 0), some (.int (v1 + (1 : Int32))), some (.int v2)]) rfl rfl rfl ?_
            exact (Eval.conv hJ44 (by simp only [if_neg hc43]) rfl)
        exact ev_j_pending_b29 R _ hrec s (if (rd s.f_st v2) = (0 : Int32) then v1 else (v1 + (1 : Int32))) v2 h hk
      · rw [if_neg hc41] at h
        refine Eval.icmpT (t := 29) rfl rfl (flt hc41).2.1 ?_
        exact ev_j_pending_b29 R _ hrec s v1 v2 h hk
    · rw [if_neg hc39] at h
      refine Eval.icmpT (t := 35) rfl rfl (flt hc39).2.1 ?_
      cases h
      refine Eval.weak (L' := [none, some (.int v1), none]) ⟨_, _, rfl, Or.inl rfl, _, _, rfl, Or.inr rfl, _, _, rfl, Or.inl rfl, rfl⟩ ?_
      exact hk
def j_pending (s : Q) : Option (Int32) := ((j_pending_l4 3000 s (0 : Int32) (0 : Int32)).bind fun p45 => some (p45))
set_option maxRecDepth 100000 in
theorem ev_j_pending (R : AHeap) (s : Q) {res : Int32} {out : Option Value × AHeap} (h : j_pending s = some res) (hk : out = (some (.int res), (W1 s R))) : Eval own_P 12 0 [some (.ref 0), none, none] [] (W1 s R) out := by
  rw [j_pending] at h
  refine Eval.iconst (x := (0 : Int32)) rfl rfl ?_
  refine Eval.istore_n (L' := [some (.ref 0), some (.int (0 : Int32)), none]) rfl rfl ?_
  refine Eval.iconst (x := (0 : Int32)) rfl rfl ?_
  refine Eval.istore_n (L' := [some (.ref 0), some (.int (0 : Int32)), some (.int (0 : Int32))]) rfl rfl ?_
  obtain ⟨p45, hq46, h⟩ := bind_some h
  refine ev_j_pending_l4 R _ s (0 : Int32) (0 : Int32) hq46 ?_
  show Eval own_P 12 35 [none, some (.int p45), none] [] (W1 s R) out
  refine Eval.iload_n rfl rfl ?_
  cases h
  subst hk
  exact Eval.ret rfl rfl
def j_hasRoom (s : Q) : Option (Int32) := ((j_pending s).bind fun p47 => (if (64 : Int32) < ((s.f_histLen + p47) + (2 : Int32)) then some ((0 : Int32)) else some ((1 : Int32))))
set_option maxRecDepth 100000 in
theorem ev_j_hasRoom (R : AHeap) (s : Q) {res : Int32} {out : Option Value × AHeap} (h : j_hasRoom s = some res) (hk : out = (some (.int res), (W1 s R))) : Eval own_P 11 0 [some (.ref 0), none] [] (W1 s R) out := by
  rw [j_hasRoom] at h
  refine Eval.aload_n rfl rfl ?_
  obtain ⟨p47, hq48, h⟩ := bind_some h
  refine Eval.callI (rest := []) (x := p47) (H1 := (W1 s R)) rfl rfl (ev_j_pending R s hq48 rfl) ?_
  refine Eval.istore_n (L' := [some (.ref 0), some (.int p47)]) rfl rfl ?_
  refine Eval.aload_n rfl rfl ?_
  refine Eval.getfield rfl rfl own_g1_histLen ?_
  refine Eval.iload_n rfl rfl ?_
  refine Eval.iadd rfl ?_
  refine Eval.iconst (x := (2 : Int32)) rfl rfl ?_
  refine Eval.iadd rfl ?_
  refine Eval.bipush (x := (64 : Int32)) rfl rfl ?_
  by_cases hc49 : (64 : Int32) < ((s.f_histLen + p47) + (2 : Int32))
  · rw [if_pos hc49] at h
    refine Eval.icmpT (t := 22) rfl rfl (tlt hc49).2.2.1 ?_
    refine Eval.iconst (x := (0 : Int32)) rfl rfl ?_
    cases h
    subst hk
    exact Eval.ret rfl rfl
  · rw [if_neg hc49] at h
    refine Eval.icmpF rfl (flt hc49).2.2.1 ?_
    refine Eval.iconst (x := (1 : Int32)) rfl rfl ?_
    refine Eval.goto (t := 23) rfl rfl ?_
    cases h
    subst hk
    exact Eval.ret rfl rfl
def j_append (s : Q) (v1 : Int32) (v2 : Int32) (v3 : Int32) : Option (Q) := (if s.f_histLen < (0 : Int32) then some (s) else (if s.f_histLen < (64 : Int32) then (if inb s.f_evKind.length s.f_histLen = true then (if inb s.f_evThread.length s.f_histLen = true then (if inb s.f_evVal.length s.f_histLen = true then some ((Q.mk s.f_seq s.f_val s.f_st s.f_locP s.f_locV s.f_lastSt s.f_lastVal s.f_logKind (wr s.f_evKind s.f_histLen v1) (wr s.f_evThread s.f_histLen v2) (wr s.f_evVal s.f_histLen v3) s.f_snap s.f_opKind s.f_opArg s.f_opInv s.f_opRes s.f_opStatus s.f_opRVal s.f_predMask s.f_openOp s.f_qBuf s.f_qLen s.f_nextCand s.f_chosen s.f_nThreads s.f_cap s.f_mask s.f_head s.f_tail (s.f_histLen + (1 : Int32)) s.f_snapLen)) else none) else none) else none) else some (s)))
set_option maxRecDepth 100000 in
theorem ev_j_append (R : AHeap) (s : Q) (v1 : Int32) (v2 : Int32) (v3 : Int32) {res : Q} {out : Option Value × AHeap} (h : j_append s v1 v2 v3 = some res) (hk : out = (none, (W1 res R))) : Eval own_P 13 0 [some (.ref 0), some (.int v1), some (.int v2), some (.int v3)] [] (W1 s R) out := by
  rw [j_append] at h
  refine Eval.aload_n rfl rfl ?_
  refine Eval.getfield rfl rfl own_g1_histLen ?_
  by_cases hc55 : s.f_histLen < (0 : Int32)
  · rw [if_pos hc55] at h
    refine Eval.ifT (t := 56) rfl rfl (tlt hc55).1 ?_
    cases h
    subst hk
    exact Eval.ret rfl rfl
  · rw [if_neg hc55] at h
    refine Eval.ifF rfl (flt hc55).1 ?_
    refine Eval.aload_n rfl rfl ?_
    refine Eval.getfield rfl rfl own_g1_histLen ?_
    refine Eval.bipush (x := (64 : Int32)) rfl rfl ?_
    by_cases hc56 : s.f_histLen < (64 : Int32)
    · rw [if_pos hc56] at h
      refine Eval.icmpF rfl (tlt hc56).2.1 ?_
      refine Eval.aload_n rfl rfl ?_
      refine Eval.getfield rfl rfl own_g1_evKind ?_
      refine Eval.aload_n rfl rfl ?_
      refine Eval.getfield rfl rfl own_g1_histLen ?_
      refine Eval.iload_n rfl rfl ?_
      obtain ⟨hb57, h⟩ := ite_some h
      refine Eval.iastore rfl rfl own_a1_evKind hb57 own_s1_evKind ?_
      refine Eval.aload_n rfl rfl ?_
      refine Eval.getfield rfl rfl own_g1_evThread ?_
      refine Eval.aload_n rfl rfl ?_
      refine Eval.getfield rfl rfl own_g1_histLen ?_
      refine Eval.iload_n rfl rfl ?_
      obtain ⟨hb58, h⟩ := ite_some h
      refine Eval.iastore rfl rfl own_a1_evThread hb58 own_s1_evThread ?_
      refine Eval.aload_n rfl rfl ?_
      refine Eval.getfield rfl rfl own_g1_evVal ?_
      refine Eval.aload_n rfl rfl ?_
      refine Eval.getfield rfl rfl own_g1_histLen ?_
      refine Eval.iload_n rfl rfl ?_
      obtain ⟨hb59, h⟩ := ite_some h
      refine Eval.iastore rfl rfl own_a1_evVal hb59 own_s1_evVal ?_
      refine Eval.aload_n rfl rfl ?_
      refine Eval.dupR rfl ?_
      refine Eval.getfield rfl rfl own_g1_histLen ?_
      refine Eval.iconst (x := (1 : Int32)) rfl rfl ?_
      refine Eval.iadd rfl ?_
      refine Eval.putfield rfl rfl own_p1_histLen ?_
      cases h
      subst hk
      exact Eval.ret rfl rfl
    · rw [if_neg hc56] at h
      refine Eval.icmpT (t := 56) rfl rfl (flt hc56).2.1 ?_
      cases h
      subst hk
      exact Eval.ret rfl rfl
def j_logInvoke_b60 (s : Q) (v1 : Int32) (v2 : Int32) : Option (Int32 × Q) := (if inb s.f_logKind.length v1 = true then (if inb s.f_st.length v1 = true then some ((1 : Int32), (Q.mk s.f_seq s.f_val (wr s.f_st v1 (1 : Int32)) s.f_locP s.f_locV s.f_lastSt s.f_lastVal (wr s.f_logKind v1 v2) s.f_evKind s.f_evThread s.f_evVal s.f_snap s.f_opKind s.f_opArg s.f_opInv s.f_opRes s.f_opStatus s.f_opRVal s.f_predMask s.f_openOp s.f_qBuf s.f_qLen s.f_nextCand s.f_chosen s.f_nThreads s.f_cap s.f_mask s.f_head s.f_tail s.f_histLen s.f_snapLen)) else none) else none)
set_option maxRecDepth 100000 in
theorem ev_j_logInvoke_b60 (R : AHeap) (s : Q) (v1 : Int32) (v2 : Int32) {res : Int32 × Q} {out : Option Value × AHeap} (h : j_logInvoke_b60 s v1 v2 = some res) (hk : out = (some (.int res.1), (W1 res.2 R))) : Eval own_P 3 60 [some (.ref 0), some (.int v1), some (.int v2), none] [] (W1 s R) out := by
  rw [j_logInvoke_b60] at h
  refine Eval.aload_n rfl rfl ?_
  refine Eval.getfield rfl rfl own_g1_logKind ?_
  refine Eval.iload_n rfl rfl ?_
  refine Eval.iload_n rfl rfl ?_
  obtain ⟨hb62, h⟩ := ite_some h
  refine Eval.iastore rfl rfl own_a1_logKind hb62 own_s1_logKind ?_
  refine Eval.aload_n rfl rfl ?_
  refine Eval.getfield rfl rfl own_g1_st ?_
  refine Eval.iload_n rfl rfl ?_
  refine Eval.iconst (x := (1 : Int32)) rfl rfl ?_
  obtain ⟨hb63, h⟩ := ite_some h
  refine Eval.iastore rfl rfl own_a1_st hb63 own_s1_st ?_
  refine Eval.iconst (x := (1 : Int32)) rfl rfl ?_
  cases h
  subst hk
  exact Eval.ret rfl rfl
def j_logInvoke_b20 (s : Q) (v1 : Int32) (v2 : Int32) (v3 : Int32) : Option (Int32 × Q) := (if inb s.f_st.length v1 = true then (if (rd s.f_st v1) = (0 : Int32) then ((j_hasRoom s).bind fun p50 => (if p50 = (0 : Int32) then some ((0 : Int32), s) else (if v2 = (1 : Int32) then ((j_append s (1 : Int32) v1 v3).bind fun p60 => (j_logInvoke_b60 p60 v1 v2)) else ((j_append s (2 : Int32) v1 (0 : Int32)).bind fun p64 => (j_logInvoke_b60 p64 v1 v2))))) else some ((0 : Int32), s)) else none)
set_option maxRecDepth 100000 in
theorem ev_j_logInvoke_b20 (R : AHeap) (s : Q) (v1 : Int32) (v2 : Int32) (v3 : Int32) {res : Int32 × Q} {out : Option Value × AHeap} (h : j_logInvoke_b20 s v1 v2 v3 = some res) (hk : out = (some (.int res.1), (W1 res.2 R))) : Eval own_P 3 20 [some (.ref 0), some (.int v1), some (.int v2), some (.int v3)] [] (W1 s R) out := by
  rw [j_logInvoke_b20] at h
  refine Eval.aload_n rfl rfl ?_
  refine Eval.getfield rfl rfl own_g1_st ?_
  refine Eval.iload_n rfl rfl ?_
  obtain ⟨hb37, h⟩ := ite_some h
  refine Eval.iaload rfl own_a1_st hb37 ?_
  by_cases hc38 : (rd s.f_st v1) = (0 : Int32)
  · rw [if_pos hc38] at h
    refine Eval.ifF rfl (teq hc38).2 ?_
    refine Eval.aload_n rfl rfl ?_
    obtain ⟨p50, hq51, h⟩ := bind_some h
    refine Eval.callI (rest := []) (x := p50) (H1 := (W1 s R)) rfl rfl (ev_j_hasRoom R s hq51 rfl) ?_
    by_cases hc52 : p50 = (0 : Int32)
    · rw [if_pos hc52] at h
      refine Eval.ifF rfl (teq hc52).2 ?_
      refine Eval.iconst (x := (0 : Int32)) rfl rfl ?_
      cases h
      subst hk
      exact Eval.ret rfl rfl
    · rw [if_neg hc52] at h
      refine Eval.ifT (t := 38) rfl rfl (feq hc52).2 ?_
      refine Eval.iload_n rfl rfl ?_
      refine Eval.iconst (x := (1 : Int32)) rfl rfl ?_
      by_cases hc54 : v2 = (1 : Int32)
      · rw [if_pos hc54] at h
        refine Eval.icmpF rfl (teq hc54).2 ?_
        refine Eval.aload_n rfl rfl ?_
        refine Eval.iconst (x := (1 : Int32)) rfl rfl ?_
        refine Eval.iload_n rfl rfl ?_
        refine Eval.iload_n rfl rfl ?_
        obtain ⟨p60, hq61, h⟩ := bind_some h
        refine Eval.callN (rest := []) (H1 := (W1 p60 R)) rfl rfl (ev_j_append R s (1 : Int32) v1 v3 hq61 rfl) ?_
        refine Eval.goto (t := 60) rfl rfl ?_
        refine Eval.weak (L' := [some (.ref 0), some (.int v1), some (.int v2), none]) ⟨_, _, rfl, Or.inr rfl, _, _, rfl, Or.inr rfl, _, _, rfl, Or.inr rfl, _, _, rfl, Or.inl rfl, rfl⟩ ?_
        exact ev_j_logInvoke_b60 R p60 v1 v2 h hk
      · rw [if_neg hc54] at h
        refine Eval.icmpT (t := 53) rfl rfl (feq hc54).2 ?_
        refine Eval.aload_n rfl rfl ?_
        refine Eval.iconst (x := (2 : Int32)) rfl rfl ?_
        refine Eval.iload_n rfl rfl ?_
        refine Eval.iconst (x := (0 : Int32)) rfl rfl ?_
        obtain ⟨p64, hq65, h⟩ := bind_some h
        refine Eval.callN (rest := []) (H1 := (W1 p64 R)) rfl rfl (ev_j_append R s (2 : Int32) v1 (0 : Int32) hq65 rfl) ?_
        refine Eval.weak (L' := [some (.ref 0), some (.int v1), some (.int v2), none]) ⟨_, _, rfl, Or.inr rfl, _, _, rfl, Or.inr rfl, _, _, rfl, Or.inr rfl, _, _, rfl, Or.inl rfl, rfl⟩ ?_
        exact ev_j_logInvoke_b60 R p64 v1 v2 h hk
  · rw [if_neg hc38] at h
    refine Eval.ifT (t := 36) rfl rfl (feq hc38).2 ?_
    refine Eval.iconst (x := (0 : Int32)) rfl rfl ?_
    cases h
    subst hk
    exact Eval.ret rfl rfl
def j_logInvoke (s : Q) (v1 : Int32) (v2 : Int32) (v3 : Int32) : Option (Int32 × Q) := (if (j_valid s v1) = (0 : Int32) then some ((0 : Int32), s) else (if v2 = (1 : Int32) then (j_logInvoke_b20 s v1 v2 v3) else (if v2 = (2 : Int32) then (j_logInvoke_b20 s v1 v2 v3) else some ((0 : Int32), s))))
set_option maxRecDepth 100000 in
theorem ev_j_logInvoke (R : AHeap) (s : Q) (v1 : Int32) (v2 : Int32) (v3 : Int32) {res : Int32 × Q} {out : Option Value × AHeap} (h : j_logInvoke s v1 v2 v3 = some res) (hk : out = (some (.int res.1), (W1 res.2 R))) : Eval own_P 3 0 [some (.ref 0), some (.int v1), some (.int v2), some (.int v3)] [] (W1 s R) out := by
  rw [j_logInvoke] at h
  refine Eval.aload_n rfl rfl ?_
  refine Eval.iload_n rfl rfl ?_
  refine Eval.callI (rest := []) (x := (j_valid s v1)) (H1 := (W1 s R)) rfl rfl (ev_j_valid R s v1 rfl rfl) ?_
  by_cases hc35 : (j_valid s v1) = (0 : Int32)
  · rw [if_pos hc35] at h
    refine Eval.ifT (t := 18) rfl rfl (teq hc35).1 ?_
    refine Eval.iconst (x := (0 : Int32)) rfl rfl ?_
    cases h
    subst hk
    exact Eval.ret rfl rfl
  · rw [if_neg hc35] at h
    refine Eval.ifF rfl (feq hc35).1 ?_
    refine Eval.iload_n rfl rfl ?_
    refine Eval.iconst (x := (1 : Int32)) rfl rfl ?_
    by_cases hc36 : v2 = (1 : Int32)
    · rw [if_pos hc36] at h
      refine Eval.icmpT (t := 20) rfl rfl (teq hc36).1 ?_
      exact ev_j_logInvoke_b20 R s v1 v2 v3 h hk
    · rw [if_neg hc36] at h
      refine Eval.icmpF rfl (feq hc36).1 ?_
      refine Eval.iload_n rfl rfl ?_
      refine Eval.iconst (x := (2 : Int32)) rfl rfl ?_
      by_cases hc66 : v2 = (2 : Int32)
      · rw [if_pos hc66] at h
        refine Eval.icmpT (t := 20) rfl rfl (teq hc66).1 ?_
        exact ev_j_logInvoke_b20 R s v1 v2 v3 h hk
      · rw [if_neg hc66] at h
        refine Eval.icmpF rfl (feq hc66).1 ?_
        refine Eval.iconst (x := (0 : Int32)) rfl rfl ?_
        cases h
        subst hk
        exact Eval.ret rfl rfl
def j_resKind (v1 : Int32) : Int32 := (if v1 = (2 : Int32) then ((4 : Int32)) else (if v1 = (3 : Int32) then ((5 : Int32)) else ((3 : Int32))))
set_option maxRecDepth 100000 in
theorem ev_j_resKind (H : AHeap) (a : Nat) (v1 : Int32) {res : Int32} {out : Option Value × AHeap} (h : j_resKind v1 = res) (hk : out = (some (.int res), H)) : Eval own_P 14 0 [some (.ref a), some (.int v1)] [] H out := by
  rw [j_resKind] at h
  refine Eval.iload_n rfl rfl ?_
  refine Eval.iconst (x := (2 : Int32)) rfl rfl ?_
  by_cases hc85 : v1 = (2 : Int32)
  · rw [if_pos hc85] at h
    refine Eval.icmpF rfl (teq hc85).2 ?_
    refine Eval.iconst (x := (4 : Int32)) rfl rfl ?_
    subst h
    subst hk
    exact Eval.ret rfl rfl
  · rw [if_neg hc85] at h
    refine Eval.icmpT (t := 7) rfl rfl (feq hc85).2 ?_
    refine Eval.iload_n rfl rfl ?_
    refine Eval.iconst (x := (3 : Int32)) rfl rfl ?_
    by_cases hc86 : v1 = (3 : Int32)
    · rw [if_pos hc86] at h
      refine Eval.icmpF rfl (teq hc86).2 ?_
      refine Eval.iconst (x := (5 : Int32)) rfl rfl ?_
      subst h
      subst hk
      exact Eval.ret rfl rfl
    · rw [if_neg hc86] at h
      refine Eval.icmpT (t := 14) rfl rfl (feq hc86).2 ?_
      refine Eval.iconst (x := (3 : Int32)) rfl rfl ?_
      subst h
      subst hk
      exact Eval.ret rfl rfl
def j_logResponse_b85 (s : Q) (v1 : Int32) (v2 : Int32) (w0 : Int32) : Option (Int32 × Q) := ((j_append s (j_resKind v2) v1 w0).bind fun p87 => (if inb p87.f_st.length v1 = true then some ((1 : Int32), (p87.s_st (wr p87.f_st v1 (0 : Int32)))) else none))
set_option maxRecDepth 100000 in
theorem ev_j_logResponse_b85 (R : AHeap) (s : Q) (v1 : Int32) (v2 : Int32) (w0 : Int32) {res : Int32 × Q} {out : Option Value × AHeap} (h : j_logResponse_b85 s v1 v2 w0 = some res) (hk : out = (some (.int res.1), (W1 res.2 R))) : Eval own_P 5 85 [some (.ref 0), some (.int v1), some (.int v2), none, none, none, none, none] [.int w0] (W1 s R) out := by
  rw [j_logResponse_b85] at h
  refine Eval.istore (L' := [some (.ref 0), some (.int v1), some (.int v2), none, none, none, some (.int w0), none]) rfl rfl ?_
  refine Eval.aload_n rfl rfl ?_
  refine Eval.iload_n rfl rfl ?_
  refine Eval.callI (rest := []) (x := (j_resKind v2)) (H1 := (W1 s R)) rfl rfl (ev_j_resKind (W1 s R) 0 v2 rfl rfl) ?_
  refine Eval.istore (L' := [some (.ref 0), some (.int v1), some (.int v2), none, none, none, some (.int w0), some (.int (j_resKind v2))]) rfl rfl ?_
  refine Eval.aload_n rfl rfl ?_
  refine Eval.iload rfl rfl ?_
  refine Eval.iload_n rfl rfl ?_
  refine Eval.iload rfl rfl ?_
  obtain ⟨p87, hq88, h⟩ := bind_some h
  refine Eval.callN (rest := []) (H1 := (W1 p87 R)) rfl rfl (ev_j_append R s (j_resKind v2) v1 w0 hq88 rfl) ?_
  refine Eval.aload_n rfl rfl ?_
  refine Eval.getfield rfl rfl own_g1_st ?_
  refine Eval.iload_n rfl rfl ?_
  refine Eval.iconst (x := (0 : Int32)) rfl rfl ?_
  obtain ⟨hb89, h⟩ := ite_some h
  refine Eval.iastore rfl rfl own_a1_st hb89 own_s1_st ?_
  refine Eval.iconst (x := (1 : Int32)) rfl rfl ?_
  cases h
  subst hk
  exact Eval.ret rfl rfl
def j_logResponse_b60 (s : Q) (v1 : Int32) (v2 : Int32) (v3 : Int32) (v4 : Int32) (w0 : Int32) : Option (Int32 × Q) := (if w0 = (0 : Int32) then some ((0 : Int32), s) else (j_logResponse_b85 s v1 v2 (if v4 = (2 : Int32) then (if v2 = (1 : Int32) then v3 else (0 : Int32)) else (0 : Int32))))
set_option maxRecDepth 100000 in
theorem ev_j_logResponse_b60 (R : AHeap) (s : Q) (v1 : Int32) (v2 : Int32) (v3 : Int32) (v4 : Int32) (w0 : Int32) {res : Int32 × Q} {out : Option Value × AHeap} (h : j_logResponse_b60 s v1 v2 v3 v4 w0 = some res) (hk : out = (some (.int res.1), (W1 res.2 R))) : Eval own_P 5 60 [some (.ref 0), some (.int v1), some (.int v2), some (.int v3), some (.int v4), none, none, none] [.int w0] (W1 s R) out := by
  rw [j_logResponse_b60] at h
  refine Eval.istore (L' := [some (.ref 0), some (.int v1), some (.int v2), some (.int v3), some (.int v4), some (.int w0), none, none]) rfl rfl ?_
  refine Eval.iload rfl rfl ?_
  by_cases hc81 : w0 = (0 : Int32)
  · rw [if_pos hc81] at h
    refine Eval.ifF rfl (teq hc81).2 ?_
    refine Eval.iconst (x := (0 : Int32)) rfl rfl ?_
    cases h
    subst hk
    exact Eval.ret rfl rfl
  · rw [if_neg hc81] at h
    refine Eval.ifT (t := 69) rfl rfl (feq hc81).2 ?_
    refine Eval.iload rfl rfl ?_
    refine Eval.iconst (x := (2 : Int32)) rfl rfl ?_
    suffices hJ84 : Eval own_P 5 85 [some (.ref 0), some (.int v1), some (.int v2), none, none, none, none, none] [.int (if v4 = (2 : Int32) then (if v2 = (1 : Int32) then v3 else (0 : Int32)) else (0 : Int32))] (W1 s R) out by
      by_cases hc82 : v4 = (2 : Int32)
      · refine Eval.icmpF rfl (teq hc82).2 ?_
        refine Eval.iload_n rfl rfl ?_
        refine Eval.iconst (x := (1 : Int32)) rfl rfl ?_
        by_cases hc83 : v2 = (1 : Int32)
        · refine Eval.icmpF rfl (teq hc83).2 ?_
          refine Eval.iload_n rfl rfl ?_
          refine Eval.goto (t := 85) rfl rfl ?_
          refine Eval.weak (L' := [some (.ref 0), some (.int v1), some (.int v2), none, none, none, none, none]) ⟨_, _, rfl, Or.inr rfl, _, _, rfl, Or.inr rfl, _, _, rfl, Or.inr rfl, _, _, rfl, Or.inl rfl, _, _, rfl, Or.inl rfl, _, _, rfl, Or.inl rfl, _, _, rfl, Or.inl rfl, _, _, rfl, Or.inl rfl, rfl⟩ ?_
          exact (Eval.conv hJ84 rfl (by simp only [if_pos hc82, if_pos hc83]))
        · refine Eval.icmpT (t := 84) rfl rfl (feq hc83).2 ?_
          refine Eval.iconst (x := (0 : Int32)) rfl rfl ?_
          refine Eval.weak (L' := [some (.ref 0), some (.int v1), some (.int v2), none, none, none, none, none]) ⟨_, _, rfl, Or.inr rfl, _, _, rfl, Or.inr rfl, _, _, rfl, Or.inr rfl, _, _, rfl, Or.inl rfl, _, _, rfl, Or.inl rfl, _, _, rfl, Or.inl rfl, _, _, rfl, Or.inl rfl, _, _, rfl, Or.inl rfl, rfl⟩ ?_
          exact (Eval.conv hJ84 rfl (by simp only [if_pos hc82, if_neg hc83]))
      · refine Eval.icmpT (t := 84) rfl rfl (feq hc82).2 ?_
        refine Eval.iconst (x := (0 : Int32)) rfl rfl ?_
        refine Eval.weak (L' := [some (.ref 0), some (.int v1), some (.int v2), none, none, none, none, none]) ⟨_, _, rfl, Or.inr rfl, _, _, rfl, Or.inr rfl, _, _, rfl, Or.inr rfl, _, _, rfl, Or.inl rfl, _, _, rfl, Or.inl rfl, _, _, rfl, Or.inl rfl, _, _, rfl, Or.inl rfl, _, _, rfl, Or.inl rfl, rfl⟩ ?_
        exact (Eval.conv hJ84 rfl (by simp only [if_neg hc82]))
    exact ev_j_logResponse_b85 R s v1 v2 (if v4 = (2 : Int32) then (if v2 = (1 : Int32) then v3 else (0 : Int32)) else (0 : Int32)) h hk
def j_logResponse (s : Q) (v1 : Int32) (v2 : Int32) (v3 : Int32) : Option (Int32 × Q) := (if (j_valid s v1) = (0 : Int32) then some ((0 : Int32), s) else (if inb s.f_st.length v1 = true then (if (rd s.f_st v1) = (1 : Int32) then (if inb s.f_logKind.length v1 = true then (j_logResponse_b60 s v1 v2 v3 (rd s.f_logKind v1) (if v2 = (1 : Int32) then (1 : Int32) else (if (rd s.f_logKind v1) = (1 : Int32) then (if v2 = (2 : Int32) then (1 : Int32) else (if (rd s.f_logKind v1) = (2 : Int32) then (if v2 = (3 : Int32) then (1 : Int32) else (0 : Int32)) else (0 : Int32))) else (if (rd s.f_logKind v1) = (2 : Int32) then (if v2 = (3 : Int32) then (1 : Int32) else (0 : Int32)) else (0 : Int32))))) else none) else some ((0 : Int32), s)) else none))
set_option maxRecDepth 100000 in
theorem ev_j_logResponse (R : AHeap) (s : Q) (v1 : Int32) (v2 : Int32) (v3 : Int32) {res : Int32 × Q} {out : Option Value × AHeap} (h : j_logResponse s v1 v2 v3 = some res) (hk : out = (some (.int res.1), (W1 res.2 R))) : Eval own_P 5 0 [some (.ref 0), some (.int v1), some (.int v2), some (.int v3), none, none, none, none] [] (W1 s R) out := by
  rw [j_logResponse] at h
  refine Eval.aload_n rfl rfl ?_
  refine Eval.iload_n rfl rfl ?_
  refine Eval.callI (rest := []) (x := (j_valid s v1)) (H1 := (W1 s R)) rfl rfl (ev_j_valid R s v1 rfl rfl) ?_
  by_cases hc69 : (j_valid s v1) = (0 : Int32)
  · rw [if_pos hc69] at h
    refine Eval.ifT (t := 18) rfl rfl (teq hc69).1 ?_
    refine Eval.iconst (x := (0 : Int32)) rfl rfl ?_
    cases h
    subst hk
    exact Eval.ret rfl rfl
  · rw [if_neg hc69] at h
    refine Eval.ifF rfl (feq hc69).1 ?_
    refine Eval.aload_n rfl rfl ?_
    refine Eval.getfield rfl rfl own_g1_st ?_
    refine Eval.iload_n rfl rfl ?_
    obtain ⟨hb70, h⟩ := ite_some h
    refine Eval.iaload rfl own_a1_st hb70 ?_
    refine Eval.iconst (x := (1 : Int32)) rfl rfl ?_
    by_cases hc71 : (rd s.f_st v1) = (1 : Int32)
    · rw [if_pos hc71] at h
      refine Eval.icmpT (t := 20) rfl rfl (teq hc71).1 ?_
      refine Eval.aload_n rfl rfl ?_
      refine Eval.getfield rfl rfl own_g1_logKind ?_
      refine Eval.iload_n rfl rfl ?_
      obtain ⟨hb72, h⟩ := ite_some h
      refine Eval.iaload rfl own_a1_logKind hb72 ?_
      refine Eval.istore (L' := [some (.ref 0), some (.int v1), some (.int v2), some (.int v3), some (.int (rd s.f_logKind v1)), none, none, none]) rfl rfl ?_
      refine Eval.iload_n rfl rfl ?_
      refine Eval.iconst (x := (1 : Int32)) rfl rfl ?_
      suffices hJ80 : Eval own_P 5 60 [some (.ref 0), some (.int v1), some (.int v2), some (.int v3), some (.int (rd s.f_logKind v1)), none, none, none] [.int (if v2 = (1 : Int32) then (1 : Int32) else (if (rd s.f_logKind v1) = (1 : Int32) then (if v2 = (2 : Int32) then (1 : Int32) else (if (rd s.f_logKind v1) = (2 : Int32) then (if v2 = (3 : Int32) then (1 : Int32) else (0 : Int32)) else (0 : Int32))) else (if (rd s.f_logKind v1) = (2 : Int32) then (if v2 = (3 : Int32) then (1 : Int32) else (0 : Int32)) else (0 : Int32))))] (W1 s R) out by
        by_cases hc73 : v2 = (1 : Int32)
        · refine Eval.icmpT (t := 55) rfl rfl (teq hc73).1 ?_
          refine Eval.iconst (x := (1 : Int32)) rfl rfl ?_
          refine Eval.goto (t := 60) rfl rfl ?_
          exact (Eval.conv hJ80 rfl (by simp only [if_pos hc73]))
        · refine Eval.icmpF rfl (feq hc73).1 ?_
          refine Eval.iload rfl rfl ?_
          refine Eval.iconst (x := (1 : Int32)) rfl rfl ?_
          by_cases hc74 : (rd s.f_logKind v1) = (1 : Int32)
          · refine Eval.icmpF rfl (teq hc74).2 ?_
            refine Eval.iload_n rfl rfl ?_
            refine Eval.iconst (x := (2 : Int32)) rfl rfl ?_
            by_cases hc75 : v2 = (2 : Int32)
            · refine Eval.icmpT (t := 55) rfl rfl (teq hc75).1 ?_
              refine Eval.iconst (x := (1 : Int32)) rfl rfl ?_
              refine Eval.goto (t := 60) rfl rfl ?_
              exact (Eval.conv hJ80 rfl (by simp only [if_neg hc73, if_pos hc74, if_pos hc75]))
            · refine Eval.icmpF rfl (feq hc75).1 ?_
              refine Eval.iload rfl rfl ?_
              refine Eval.iconst (x := (2 : Int32)) rfl rfl ?_
              by_cases hc76 : (rd s.f_logKind v1) = (2 : Int32)
              · refine Eval.icmpF rfl (teq hc76).2 ?_
                refine Eval.iload_n rfl rfl ?_
                refine Eval.iconst (x := (3 : Int32)) rfl rfl ?_
                by_cases hc77 : v2 = (3 : Int32)
                · refine Eval.icmpF rfl (teq hc77).2 ?_
                  refine Eval.iconst (x := (1 : Int32)) rfl rfl ?_
                  refine Eval.goto (t := 60) rfl rfl ?_
                  exact (Eval.conv hJ80 rfl (by simp only [if_neg hc73, if_pos hc74, if_neg hc75, if_pos hc76, if_pos hc77]))
                · refine Eval.icmpT (t := 59) rfl rfl (feq hc77).2 ?_
                  refine Eval.iconst (x := (0 : Int32)) rfl rfl ?_
                  exact (Eval.conv hJ80 rfl (by simp only [if_neg hc73, if_pos hc74, if_neg hc75, if_pos hc76, if_neg hc77]))
              · refine Eval.icmpT (t := 59) rfl rfl (feq hc76).2 ?_
                refine Eval.iconst (x := (0 : Int32)) rfl rfl ?_
                exact (Eval.conv hJ80 rfl (by simp only [if_neg hc73, if_pos hc74, if_neg hc75, if_neg hc76]))
          · refine Eval.icmpT (t := 44) rfl rfl (feq hc74).2 ?_
            refine Eval.iload rfl rfl ?_
            refine Eval.iconst (x := (2 : Int32)) rfl rfl ?_
            by_cases hc78 : (rd s.f_logKind v1) = (2 : Int32)
            · refine Eval.icmpF rfl (teq hc78).2 ?_
              refine Eval.iload_n rfl rfl ?_
              refine Eval.iconst (x := (3 : Int32)) rfl rfl ?_
              by_cases hc79 : v2 = (3 : Int32)
              · refine Eval.icmpF rfl (teq hc79).2 ?_
                refine Eval.iconst (x := (1 : Int32)) rfl rfl ?_
                refine Eval.goto (t := 60) rfl rfl ?_
                exact (Eval.conv hJ80 rfl (by simp only [if_neg hc73, if_neg hc74, if_pos hc78, if_pos hc79]))
              · refine Eval.icmpT (t := 59) rfl rfl (feq hc79).2 ?_
                refine Eval.iconst (x := (0 : Int32)) rfl rfl ?_
                exact (Eval.conv hJ80 rfl (by simp only [if_neg hc73, if_neg hc74, if_pos hc78, if_neg hc79]))
            · refine Eval.icmpT (t := 59) rfl rfl (feq hc78).2 ?_
              refine Eval.iconst (x := (0 : Int32)) rfl rfl ?_
              exact (Eval.conv hJ80 rfl (by simp only [if_neg hc73, if_neg hc74, if_neg hc78]))
      exact ev_j_logResponse_b60 R s v1 v2 v3 (rd s.f_logKind v1) (if v2 = (1 : Int32) then (1 : Int32) else (if (rd s.f_logKind v1) = (1 : Int32) then (if v2 = (2 : Int32) then (1 : Int32) else (if (rd s.f_logKind v1) = (2 : Int32) then (if v2 = (3 : Int32) then (1 : Int32) else (0 : Int32)) else (0 : Int32))) else (if (rd s.f_logKind v1) = (2 : Int32) then (if v2 = (3 : Int32) then (1 : Int32) else (0 : Int32)) else (0 : Int32)))) h hk
    · rw [if_neg hc71] at h
      refine Eval.icmpF rfl (feq hc71).1 ?_
      refine Eval.iconst (x := (0 : Int32)) rfl rfl ?_
      cases h
      subst hk
      exact Eval.ret rfl rfl
def j_historyLength (s : Q) : Int32 := (s.f_histLen)
set_option maxRecDepth 100000 in
theorem ev_j_historyLength (R : AHeap) (s : Q) {res : Int32} {out : Option Value × AHeap} (h : j_historyLength s = res) (hk : out = (some (.int res), (W1 s R))) : Eval own_P 6 0 [some (.ref 0)] [] (W1 s R) out := by
  rw [j_historyLength] at h
  refine Eval.aload_n rfl rfl ?_
  refine Eval.getfield rfl rfl own_g1_histLen ?_
  subst h
  subst hk
  exact Eval.ret rfl rfl
def j_historyEvent (s : Q) (v1 : Int32) : Option (Int32) := (if v1 < (0 : Int32) then some ((0 : Int32)) else (if v1 < s.f_histLen then (if v1 < (64 : Int32) then (if inb s.f_evKind.length v1 = true then (if inb s.f_evThread.length v1 = true then some ((((rd s.f_evKind v1) * (16 : Int32)) + (rd s.f_evThread v1))) else none) else none) else some ((0 : Int32))) else some ((0 : Int32))))
set_option maxRecDepth 100000 in
theorem ev_j_historyEvent (R : AHeap) (s : Q) (v1 : Int32) {res : Int32} {out : Option Value × AHeap} (h : j_historyEvent s v1 = some res) (hk : out = (some (.int res), (W1 s R))) : Eval own_P 7 0 [some (.ref 0), some (.int v1)] [] (W1 s R) out := by
  rw [j_historyEvent] at h
  refine Eval.iload_n rfl rfl ?_
  by_cases hc92 : v1 < (0 : Int32)
  · rw [if_pos hc92] at h
    refine Eval.ifT (t := 35) rfl rfl (tlt hc92).1 ?_
    refine Eval.iconst (x := (0 : Int32)) rfl rfl ?_
    cases h
    subst hk
    exact Eval.ret rfl rfl
  · rw [if_neg hc92] at h
    refine Eval.ifF rfl (flt hc92).1 ?_
    refine Eval.iload_n rfl rfl ?_
    refine Eval.aload_n rfl rfl ?_
    refine Eval.getfield rfl rfl own_g1_histLen ?_
    by_cases hc93 : v1 < s.f_histLen
    · rw [if_pos hc93] at h
      refine Eval.icmpF rfl (tlt hc93).2.1 ?_
      refine Eval.iload_n rfl rfl ?_
      refine Eval.bipush (x := (64 : Int32)) rfl rfl ?_
      by_cases hc94 : v1 < (64 : Int32)
      · rw [if_pos hc94] at h
        refine Eval.icmpF rfl (tlt hc94).2.1 ?_
        refine Eval.aload_n rfl rfl ?_
        refine Eval.getfield rfl rfl own_g1_evKind ?_
        refine Eval.iload_n rfl rfl ?_
        obtain ⟨hb95, h⟩ := ite_some h
        refine Eval.iaload rfl own_a1_evKind hb95 ?_
        refine Eval.bipush (x := (16 : Int32)) rfl rfl ?_
        refine Eval.imul rfl ?_
        refine Eval.aload_n rfl rfl ?_
        refine Eval.getfield rfl rfl own_g1_evThread ?_
        refine Eval.iload_n rfl rfl ?_
        obtain ⟨hb96, h⟩ := ite_some h
        refine Eval.iaload rfl own_a1_evThread hb96 ?_
        refine Eval.iadd rfl ?_
        cases h
        subst hk
        exact Eval.ret rfl rfl
      · rw [if_neg hc94] at h
        refine Eval.icmpT (t := 35) rfl rfl (flt hc94).2.1 ?_
        refine Eval.iconst (x := (0 : Int32)) rfl rfl ?_
        cases h
        subst hk
        exact Eval.ret rfl rfl
    · rw [if_neg hc93] at h
      refine Eval.icmpT (t := 35) rfl rfl (flt hc93).2.1 ?_
      refine Eval.iconst (x := (0 : Int32)) rfl rfl ?_
      cases h
      subst hk
      exact Eval.ret rfl rfl
def j_historyValue (s : Q) (v1 : Int32) : Option (Int32) := (if v1 < (0 : Int32) then some ((0 : Int32)) else (if v1 < s.f_histLen then (if v1 < (64 : Int32) then (if inb s.f_evVal.length v1 = true then some ((rd s.f_evVal v1)) else none) else some ((0 : Int32))) else some ((0 : Int32))))
set_option maxRecDepth 100000 in
theorem ev_j_historyValue (R : AHeap) (s : Q) (v1 : Int32) {res : Int32} {out : Option Value × AHeap} (h : j_historyValue s v1 = some res) (hk : out = (some (.int res), (W1 s R))) : Eval own_P 8 0 [some (.ref 0), some (.int v1)] [] (W1 s R) out := by
  rw [j_historyValue] at h
  refine Eval.iload_n rfl rfl ?_
  by_cases hc99 : v1 < (0 : Int32)
  · rw [if_pos hc99] at h
    refine Eval.ifT (t := 25) rfl rfl (tlt hc99).1 ?_
    refine Eval.iconst (x := (0 : Int32)) rfl rfl ?_
    cases h
    subst hk
    exact Eval.ret rfl rfl
  · rw [if_neg hc99] at h
    refine Eval.ifF rfl (flt hc99).1 ?_
    refine Eval.iload_n rfl rfl ?_
    refine Eval.aload_n rfl rfl ?_
    refine Eval.getfield rfl rfl own_g1_histLen ?_
    by_cases hc100 : v1 < s.f_histLen
    · rw [if_pos hc100] at h
      refine Eval.icmpF rfl (tlt hc100).2.1 ?_
      refine Eval.iload_n rfl rfl ?_
      refine Eval.bipush (x := (64 : Int32)) rfl rfl ?_
      by_cases hc101 : v1 < (64 : Int32)
      · rw [if_pos hc101] at h
        refine Eval.icmpF rfl (tlt hc101).2.1 ?_
        refine Eval.aload_n rfl rfl ?_
        refine Eval.getfield rfl rfl own_g1_evVal ?_
        refine Eval.iload_n rfl rfl ?_
        obtain ⟨hb102, h⟩ := ite_some h
        refine Eval.iaload rfl own_a1_evVal hb102 ?_
        cases h
        subst hk
        exact Eval.ret rfl rfl
      · rw [if_neg hc101] at h
        refine Eval.icmpT (t := 25) rfl rfl (flt hc101).2.1 ?_
        refine Eval.iconst (x := (0 : Int32)) rfl rfl ?_
        cases h
        subst hk
        exact Eval.ret rfl rfl
    · rw [if_neg hc100] at h
      refine Eval.icmpT (t := 25) rfl rfl (flt hc100).2.1 ?_
      refine Eval.iconst (x := (0 : Int32)) rfl rfl ?_
      cases h
      subst hk
      exact Eval.ret rfl rfl
def j_state (s : Q) (v1 : Int32) : Option (Int32) := (if (j_valid s v1) = (0 : Int32) then some ((-1 : Int32)) else (if inb s.f_st.length v1 = true then some ((rd s.f_st v1)) else none))
set_option maxRecDepth 100000 in
theorem ev_j_state (R : AHeap) (s : Q) (v1 : Int32) {res : Int32} {out : Option Value × AHeap} (h : j_state s v1 = some res) (hk : out = (some (.int res), (W1 s R))) : Eval own_P 9 0 [some (.ref 0), some (.int v1)] [] (W1 s R) out := by
  rw [j_state] at h
  refine Eval.aload_n rfl rfl ?_
  refine Eval.iload_n rfl rfl ?_
  refine Eval.callI (rest := []) (x := (j_valid s v1)) (H1 := (W1 s R)) rfl rfl (ev_j_valid R s v1 rfl rfl) ?_
  by_cases hc109 : (j_valid s v1) = (0 : Int32)
  · rw [if_pos hc109] at h
    refine Eval.ifT (t := 17) rfl rfl (teq hc109).1 ?_
    refine Eval.iconst (x := (-1 : Int32)) rfl rfl ?_
    cases h
    subst hk
    exact Eval.ret rfl rfl
  · rw [if_neg hc109] at h
    refine Eval.ifF rfl (feq hc109).1 ?_
    refine Eval.aload_n rfl rfl ?_
    refine Eval.getfield rfl rfl own_g1_st ?_
    refine Eval.iload_n rfl rfl ?_
    obtain ⟨hb110, h⟩ := ite_some h
    refine Eval.iaload rfl own_a1_st hb110 ?_
    refine Eval.goto (t := 18) rfl rfl ?_
    cases h
    subst hk
    exact Eval.ret rfl rfl
def j_lastStatus (s : Q) (v1 : Int32) : Option (Int32) := (if (j_valid s v1) = (0 : Int32) then some ((-1 : Int32)) else (if inb s.f_lastSt.length v1 = true then some ((rd s.f_lastSt v1)) else none))
set_option maxRecDepth 100000 in
theorem ev_j_lastStatus (R : AHeap) (s : Q) (v1 : Int32) {res : Int32} {out : Option Value × AHeap} (h : j_lastStatus s v1 = some res) (hk : out = (some (.int res), (W1 s R))) : Eval own_P 10 0 [some (.ref 0), some (.int v1)] [] (W1 s R) out := by
  rw [j_lastStatus] at h
  refine Eval.aload_n rfl rfl ?_
  refine Eval.iload_n rfl rfl ?_
  refine Eval.callI (rest := []) (x := (j_valid s v1)) (H1 := (W1 s R)) rfl rfl (ev_j_valid R s v1 rfl rfl) ?_
  by_cases hc113 : (j_valid s v1) = (0 : Int32)
  · rw [if_pos hc113] at h
    refine Eval.ifT (t := 17) rfl rfl (teq hc113).1 ?_
    refine Eval.iconst (x := (-1 : Int32)) rfl rfl ?_
    cases h
    subst hk
    exact Eval.ret rfl rfl
  · rw [if_neg hc113] at h
    refine Eval.ifF rfl (feq hc113).1 ?_
    refine Eval.aload_n rfl rfl ?_
    refine Eval.getfield rfl rfl own_g1_lastSt ?_
    refine Eval.iload_n rfl rfl ?_
    obtain ⟨hb114, h⟩ := ite_some h
    refine Eval.iaload rfl own_a1_lastSt hb114 ?_
    refine Eval.goto (t := 18) rfl rfl ?_
    cases h
    subst hk
    exact Eval.ret rfl rfl
def law_b389 (s : Q) (v10 : Int32) (v12 : Int32) (v13 : Int32) (v14 : Int32) (v15 : Int32) (v16 : Int32) (v17 : Int32) (v18 : Int32) (v19 : Int32) (v20 : Int32) (v21 : Int32) (v23 : Int32) (v24 : Int32) (v25 : Int32) (v26 : Int32) (v27 : Int32) (v28 : Int32) (w0 : Int32) : Option (Int32 × Q) := (if v13 = v10 then (if v14 = v12 then (if v15 = v23 then (if v16 = v24 then (if v17 = v25 then (if v18 = v26 then (if v19 = v27 then (if v20 = v28 then (if v21 = w0 then some ((1 : Int32), s) else some ((0 : Int32), s)) else some ((0 : Int32), s)) else some ((0 : Int32), s)) else some ((0 : Int32), s)) else some ((0 : Int32), s)) else some ((0 : Int32), s)) else some ((0 : Int32), s)) else some ((0 : Int32), s)) else some ((0 : Int32), s))
set_option maxRecDepth 100000 in
theorem ev_law_b389 (s : Q) (v10 : Int32) (v12 : Int32) (v13 : Int32) (v14 : Int32) (v15 : Int32) (v16 : Int32) (v17 : Int32) (v18 : Int32) (v19 : Int32) (v20 : Int32) (v21 : Int32) (v23 : Int32) (v24 : Int32) (v25 : Int32) (v26 : Int32) (v27 : Int32) (v28 : Int32) (w0 : Int32) {res : Int32 × Q} {out : Option Value × AHeap} (h : law_b389 s v10 v12 v13 v14 v15 v16 v17 v18 v19 v20 v21 v23 v24 v25 v26 v27 v28 w0 = some res) (hk : out = (some (.int res.1), (W1 res.2 []))) : Eval own_P 0 389 [none, none, none, none, none, none, none, none, none, none, some (.int v10), none, some (.int v12), some (.int v13), some (.int v14), some (.int v15), some (.int v16), some (.int v17), some (.int v18), some (.int v19), some (.int v20), some (.int v21), none, some (.int v23), some (.int v24), some (.int v25), some (.int v26), some (.int v27), some (.int v28), none] [.int w0] (W1 s []) out := by
  rw [law_b389] at h
  refine Eval.istore (L' := [none, none, none, none, none, none, none, none, none, none, some (.int v10), none, some (.int v12), some (.int v13), some (.int v14), some (.int v15), some (.int v16), some (.int v17), some (.int v18), some (.int v19), some (.int v20), some (.int v21), none, some (.int v23), some (.int v24), some (.int v25), some (.int v26), some (.int v27), some (.int v28), some (.int w0)]) rfl rfl ?_
  refine Eval.iload rfl rfl ?_
  refine Eval.iload rfl rfl ?_
  by_cases hc142 : v13 = v10
  · rw [if_pos hc142] at h
    refine Eval.icmpF rfl (teq hc142).2 ?_
    refine Eval.iload rfl rfl ?_
    refine Eval.iload rfl rfl ?_
    by_cases hc143 : v14 = v12
    · rw [if_pos hc143] at h
      refine Eval.icmpF rfl (teq hc143).2 ?_
      refine Eval.iload rfl rfl ?_
      refine Eval.iload rfl rfl ?_
      by_cases hc144 : v15 = v23
      · rw [if_pos hc144] at h
        refine Eval.icmpF rfl (teq hc144).2 ?_
        refine Eval.iload rfl rfl ?_
        refine Eval.iload rfl rfl ?_
        by_cases hc145 : v16 = v24
        · rw [if_pos hc145] at h
          refine Eval.icmpF rfl (teq hc145).2 ?_
          refine Eval.iload rfl rfl ?_
          refine Eval.iload rfl rfl ?_
          by_cases hc146 : v17 = v25
          · rw [if_pos hc146] at h
            refine Eval.icmpF rfl (teq hc146).2 ?_
            refine Eval.iload rfl rfl ?_
            refine Eval.iload rfl rfl ?_
            by_cases hc147 : v18 = v26
            · rw [if_pos hc147] at h
              refine Eval.icmpF rfl (teq hc147).2 ?_
              refine Eval.iload rfl rfl ?_
              refine Eval.iload rfl rfl ?_
              by_cases hc148 : v19 = v27
              · rw [if_pos hc148] at h
                refine Eval.icmpF rfl (teq hc148).2 ?_
                refine Eval.iload rfl rfl ?_
                refine Eval.iload rfl rfl ?_
                by_cases hc149 : v20 = v28
                · rw [if_pos hc149] at h
                  refine Eval.icmpF rfl (teq hc149).2 ?_
                  refine Eval.iload rfl rfl ?_
                  refine Eval.iload rfl rfl ?_
                  by_cases hc150 : v21 = w0
                  · rw [if_pos hc150] at h
                    refine Eval.icmpF rfl (teq hc150).2 ?_
                    refine Eval.iconst (x := (1 : Int32)) rfl rfl ?_
                    refine Eval.goto (t := 459) rfl rfl ?_
                    cases h
                    subst hk
                    exact Eval.ret rfl rfl
                  · rw [if_neg hc150] at h
                    refine Eval.icmpT (t := 458) rfl rfl (feq hc150).2 ?_
                    refine Eval.iconst (x := (0 : Int32)) rfl rfl ?_
                    cases h
                    subst hk
                    exact Eval.ret rfl rfl
                · rw [if_neg hc149] at h
                  refine Eval.icmpT (t := 458) rfl rfl (feq hc149).2 ?_
                  refine Eval.iconst (x := (0 : Int32)) rfl rfl ?_
                  cases h
                  subst hk
                  exact Eval.ret rfl rfl
              · rw [if_neg hc148] at h
                refine Eval.icmpT (t := 458) rfl rfl (feq hc148).2 ?_
                refine Eval.iconst (x := (0 : Int32)) rfl rfl ?_
                cases h
                subst hk
                exact Eval.ret rfl rfl
            · rw [if_neg hc147] at h
              refine Eval.icmpT (t := 458) rfl rfl (feq hc147).2 ?_
              refine Eval.iconst (x := (0 : Int32)) rfl rfl ?_
              cases h
              subst hk
              exact Eval.ret rfl rfl
          · rw [if_neg hc146] at h
            refine Eval.icmpT (t := 458) rfl rfl (feq hc146).2 ?_
            refine Eval.iconst (x := (0 : Int32)) rfl rfl ?_
            cases h
            subst hk
            exact Eval.ret rfl rfl
        · rw [if_neg hc145] at h
          refine Eval.icmpT (t := 458) rfl rfl (feq hc145).2 ?_
          refine Eval.iconst (x := (0 : Int32)) rfl rfl ?_
          cases h
          subst hk
          exact Eval.ret rfl rfl
      · rw [if_neg hc144] at h
        refine Eval.icmpT (t := 458) rfl rfl (feq hc144).2 ?_
        refine Eval.iconst (x := (0 : Int32)) rfl rfl ?_
        cases h
        subst hk
        exact Eval.ret rfl rfl
    · rw [if_neg hc143] at h
      refine Eval.icmpT (t := 458) rfl rfl (feq hc143).2 ?_
      refine Eval.iconst (x := (0 : Int32)) rfl rfl ?_
      cases h
      subst hk
      exact Eval.ret rfl rfl
  · rw [if_neg hc142] at h
    refine Eval.icmpT (t := 458) rfl rfl (feq hc142).2 ?_
    refine Eval.iconst (x := (0 : Int32)) rfl rfl ?_
    cases h
    subst hk
    exact Eval.ret rfl rfl
def law_b377 (s : Q) (v8 : Int32) (v10 : Int32) (v12 : Int32) (v13 : Int32) (v14 : Int32) (v15 : Int32) (v16 : Int32) (v17 : Int32) (v18 : Int32) (v19 : Int32) (v20 : Int32) (v21 : Int32) (v23 : Int32) (v24 : Int32) (v25 : Int32) (v26 : Int32) (v27 : Int32) (w0 : Int32) : Option (Int32 × Q) := (law_b389 s v10 v12 v13 v14 v15 v16 v17 v18 v19 v20 v21 v23 v24 v25 v26 v27 w0 (if v8 = (0 : Int32) then (-1 : Int32) else (0 : Int32)))
set_option maxRecDepth 100000 in
theorem ev_law_b377 (s : Q) (v8 : Int32) (v10 : Int32) (v12 : Int32) (v13 : Int32) (v14 : Int32) (v15 : Int32) (v16 : Int32) (v17 : Int32) (v18 : Int32) (v19 : Int32) (v20 : Int32) (v21 : Int32) (v23 : Int32) (v24 : Int32) (v25 : Int32) (v26 : Int32) (v27 : Int32) (w0 : Int32) {res : Int32 × Q} {out : Option Value × AHeap} (h : law_b377 s v8 v10 v12 v13 v14 v15 v16 v17 v18 v19 v20 v21 v23 v24 v25 v26 v27 w0 = some res) (hk : out = (some (.int res.1), (W1 res.2 []))) : Eval own_P 0 377 [none, none, none, none, none, none, none, none, some (.int v8), none, some (.int v10), none, some (.int v12), some (.int v13), some (.int v14), some (.int v15), some (.int v16), some (.int v17), some (.int v18), some (.int v19), some (.int v20), some (.int v21), none, some (.int v23), some (.int v24), some (.int v25), some (.int v26), some (.int v27), none, none] [.int w0] (W1 s []) out := by
  rw [law_b377] at h
  refine Eval.istore (L' := [none, none, none, none, none, none, none, none, some (.int v8), none, some (.int v10), none, some (.int v12), some (.int v13), some (.int v14), some (.int v15), some (.int v16), some (.int v17), some (.int v18), some (.int v19), some (.int v20), some (.int v21), none, some (.int v23), some (.int v24), some (.int v25), some (.int v26), some (.int v27), some (.int w0), none]) rfl rfl ?_
  refine Eval.iload rfl rfl ?_
  suffices hJ141 : Eval own_P 0 389 [none, none, none, none, none, none, none, none, none, none, some (.int v10), none, some (.int v12), some (.int v13), some (.int v14), some (.int v15), some (.int v16), some (.int v17), some (.int v18), some (.int v19), some (.int v20), some (.int v21), none, some (.int v23), some (.int v24), some (.int v25), some (.int v26), some (.int v27), some (.int w0), none] [.int (if v8 = (0 : Int32) then (-1 : Int32) else (0 : Int32))] (W1 s []) out by
    by_cases hc140 : v8 = (0 : Int32)
    · refine Eval.ifT (t := 388) rfl rfl (teq hc140).1 ?_
      refine Eval.iconst (x := (-1 : Int32)) rfl rfl ?_
      refine Eval.weak (L' := [none, none, none, none, none, none, none, none, none, none, some (.int v10), none, some (.int v12), some (.int v13), some (.int v14), some (.int v15), some (.int v16), some (.int v17), some (.int v18), some (.int v19), some (.int v20), some (.int v21), none, some (.int v23), some (.int v24), some (.int v25), some (.int v26), some (.int v27), some (.int w0), none]) ⟨_, _, rfl, Or.inl rfl, _, _, rfl, Or.inl rfl, _, _, rfl, Or.inl rfl, _, _, rfl, Or.inl rfl, _, _, rfl, Or.inl rfl, _, _, rfl, Or.inl rfl, _, _, rfl, Or.inl rfl, _, _, rfl, Or.inl rfl, _, _, rfl, Or.inl rfl, _, _, rfl, Or.inl rfl, _, _, rfl, Or.inr rfl, _, _, rfl, Or.inl rfl, _, _, rfl, Or.inr rfl, _, _, rfl, Or.inr rfl, _, _, rfl, Or.inr rfl, _, _, rfl, Or.inr rfl, _, _, rfl, Or.inr rfl, _, _, rfl, Or.inr rfl, _, _, rfl, Or.inr rfl, _, _, rfl, Or.inr rfl, _, _, rfl, Or.inr rfl, _, _, rfl, Or.inr rfl, _, _, rfl, Or.inl rfl, _, _, rfl, Or.inr rfl, _, _, rfl, Or.inr rfl, _, _, rfl, Or.inr rfl, _, _, rfl, Or.inr rfl, _, _, rfl, Or.inr rfl, _, _, rfl, Or.inr rfl, _, _, rfl, Or.inl rfl, rfl⟩ ?_
      exact (Eval.conv hJ141 rfl (by simp only [if_pos hc140]))
    · refine Eval.ifF rfl (feq hc140).1 ?_
      refine Eval.iconst (x := (0 : Int32)) rfl rfl ?_
      refine Eval.goto (t := 389) rfl rfl ?_
      refine Eval.weak (L' := [none, none, none, none, none, none, none, none, none, none, some (.int v10), none, some (.int v12), some (.int v13), some (.int v14), some (.int v15), some (.int v16), some (.int v17), some (.int v18), some (.int v19), some (.int v20), some (.int v21), none, some (.int v23), some (.int v24), some (.int v25), some (.int v26), some (.int v27), some (.int w0), none]) ⟨_, _, rfl, Or.inl rfl, _, _, rfl, Or.inl rfl, _, _, rfl, Or.inl rfl, _, _, rfl, Or.inl rfl, _, _, rfl, Or.inl rfl, _, _, rfl, Or.inl rfl, _, _, rfl, Or.inl rfl, _, _, rfl, Or.inl rfl, _, _, rfl, Or.inl rfl, _, _, rfl, Or.inl rfl, _, _, rfl, Or.inr rfl, _, _, rfl, Or.inl rfl, _, _, rfl, Or.inr rfl, _, _, rfl, Or.inr rfl, _, _, rfl, Or.inr rfl, _, _, rfl, Or.inr rfl, _, _, rfl, Or.inr rfl, _, _, rfl, Or.inr rfl, _, _, rfl, Or.inr rfl, _, _, rfl, Or.inr rfl, _, _, rfl, Or.inr rfl, _, _, rfl, Or.inr rfl, _, _, rfl, Or.inl rfl, _, _, rfl, Or.inr rfl, _, _, rfl, Or.inr rfl, _, _, rfl, Or.inr rfl, _, _, rfl, Or.inr rfl, _, _, rfl, Or.inr rfl, _, _, rfl, Or.inr rfl, _, _, rfl, Or.inl rfl, rfl⟩ ?_
      exact (Eval.conv hJ141 rfl (by simp only [if_neg hc140]))
  exact ev_law_b389 s v10 v12 v13 v14 v15 v16 v17 v18 v19 v20 v21 v23 v24 v25 v26 v27 w0 (if v8 = (0 : Int32) then (-1 : Int32) else (0 : Int32)) h hk
def law_b351 (s : Q) (v8 : Int32) (v10 : Int32) (v12 : Int32) (v13 : Int32) (v14 : Int32) (v15 : Int32) (v16 : Int32) (v17 : Int32) (v18 : Int32) (v19 : Int32) (v20 : Int32) (v21 : Int32) (v23 : Int32) (v24 : Int32) (v25 : Int32) (v26 : Int32) (w0 : Int32) : Option (Int32 × Q) := (law_b377 s v8 v10 v12 v13 v14 v15 v16 v17 v18 v19 v20 v21 v23 v24 v25 v26 w0 (if v8 = (0 : Int32) then (-1 : Int32) else (if v10 = (0 : Int32) then (0 : Int32) else (if v12 = (0 : Int32) then (1 : Int32) else (0 : Int32)))))
set_option maxRecDepth 100000 in
theorem ev_law_b351 (s : Q) (v8 : Int32) (v10 : Int32) (v12 : Int32) (v13 : Int32) (v14 : Int32) (v15 : Int32) (v16 : Int32) (v17 : Int32) (v18 : Int32) (v19 : Int32) (v20 : Int32) (v21 : Int32) (v23 : Int32) (v24 : Int32) (v25 : Int32) (v26 : Int32) (w0 : Int32) {res : Int32 × Q} {out : Option Value × AHeap} (h : law_b351 s v8 v10 v12 v13 v14 v15 v16 v17 v18 v19 v20 v21 v23 v24 v25 v26 w0 = some res) (hk : out = (some (.int res.1), (W1 res.2 []))) : Eval own_P 0 351 [none, none, none, none, none, none, none, none, some (.int v8), none, some (.int v10), none, some (.int v12), some (.int v13), some (.int v14), some (.int v15), some (.int v16), some (.int v17), some (.int v18), some (.int v19), some (.int v20), some (.int v21), none, some (.int v23), some (.int v24), some (.int v25), some (.int v26), none, none, none] [.int w0] (W1 s []) out := by
  rw [law_b351] at h
  refine Eval.istore (L' := [none, none, none, none, none, none, none, none, some (.int v8), none, some (.int v10), none, some (.int v12), some (.int v13), some (.int v14), some (.int v15), some (.int v16), some (.int v17), some (.int v18), some (.int v19), some (.int v20), some (.int v21), none, some (.int v23), some (.int v24), some (.int v25), some (.int v26), some (.int w0), none, none]) rfl rfl ?_
  refine Eval.iload rfl rfl ?_
  suffices hJ139 : Eval own_P 0 377 [none, none, none, none, none, none, none, none, some (.int v8), none, some (.int v10), none, some (.int v12), some (.int v13), some (.int v14), some (.int v15), some (.int v16), some (.int v17), some (.int v18), some (.int v19), some (.int v20), some (.int v21), none, some (.int v23), some (.int v24), some (.int v25), some (.int v26), some (.int w0), none, none] [.int (if v8 = (0 : Int32) then (-1 : Int32) else (if v10 = (0 : Int32) then (0 : Int32) else (if v12 = (0 : Int32) then (1 : Int32) else (0 : Int32))))] (W1 s []) out by
    by_cases hc136 : v8 = (0 : Int32)
    · refine Eval.ifF rfl (teq hc136).2 ?_
      refine Eval.iconst (x := (-1 : Int32)) rfl rfl ?_
      refine Eval.goto (t := 377) rfl rfl ?_
      exact (Eval.conv hJ139 rfl (by simp only [if_pos hc136]))
    · refine Eval.ifT (t := 362) rfl rfl (feq hc136).2 ?_
      refine Eval.iload rfl rfl ?_
      by_cases hc137 : v10 = (0 : Int32)
      · refine Eval.ifT (t := 376) rfl rfl (teq hc137).1 ?_
        refine Eval.iconst (x := (0 : Int32)) rfl rfl ?_
        exact (Eval.conv hJ139 rfl (by simp only [if_neg hc136, if_pos hc137]))
      · refine Eval.ifF rfl (feq hc137).1 ?_
        refine Eval.iload rfl rfl ?_
        by_cases hc138 : v12 = (0 : Int32)
        · refine Eval.ifF rfl (teq hc138).2 ?_
          refine Eval.iconst (x := (1 : Int32)) rfl rfl ?_
          refine Eval.goto (t := 377) rfl rfl ?_
          exact (Eval.conv hJ139 rfl (by simp only [if_neg hc136, if_neg hc137, if_pos hc138]))
        · refine Eval.ifT (t := 376) rfl rfl (feq hc138).2 ?_
          refine Eval.iconst (x := (0 : Int32)) rfl rfl ?_
          exact (Eval.conv hJ139 rfl (by simp only [if_neg hc136, if_neg hc137, if_neg hc138]))
  exact ev_law_b377 s v8 v10 v12 v13 v14 v15 v16 v17 v18 v19 v20 v21 v23 v24 v25 v26 w0 (if v8 = (0 : Int32) then (-1 : Int32) else (if v10 = (0 : Int32) then (0 : Int32) else (if v12 = (0 : Int32) then (1 : Int32) else (0 : Int32)))) h hk
def law_b327 (s : Q) (v4 : Int32) (v5 : Int32) (v8 : Int32) (v9 : Int32) (v10 : Int32) (v12 : Int32) (v13 : Int32) (v14 : Int32) (v15 : Int32) (v16 : Int32) (v17 : Int32) (v18 : Int32) (v19 : Int32) (v20 : Int32) (v21 : Int32) (v23 : Int32) (v24 : Int32) (v25 : Int32) (w0 : Int32) : Option (Int32 × Q) := (law_b351 s v8 v10 v12 v13 v14 v15 v16 v17 v18 v19 v20 v21 v23 v24 v25 w0 (if v12 = (0 : Int32) then (0 : Int32) else (if v9 = (0 : Int32) then (if v4 = (1 : Int32) then v5 else (0 : Int32)) else (0 : Int32))))
set_option maxRecDepth 100000 in
theorem ev_law_b327 (s : Q) (v4 : Int32) (v5 : Int32) (v8 : Int32) (v9 : Int32) (v10 : Int32) (v12 : Int32) (v13 : Int32) (v14 : Int32) (v15 : Int32) (v16 : Int32) (v17 : Int32) (v18 : Int32) (v19 : Int32) (v20 : Int32) (v21 : Int32) (v23 : Int32) (v24 : Int32) (v25 : Int32) (w0 : Int32) {res : Int32 × Q} {out : Option Value × AHeap} (h : law_b327 s v4 v5 v8 v9 v10 v12 v13 v14 v15 v16 v17 v18 v19 v20 v21 v23 v24 v25 w0 = some res) (hk : out = (some (.int res.1), (W1 res.2 []))) : Eval own_P 0 327 [none, none, none, none, some (.int v4), some (.int v5), none, none, some (.int v8), some (.int v9), some (.int v10), none, some (.int v12), some (.int v13), some (.int v14), some (.int v15), some (.int v16), some (.int v17), some (.int v18), some (.int v19), some (.int v20), some (.int v21), none, some (.int v23), some (.int v24), some (.int v25), none, none, none, none] [.int w0] (W1 s []) out := by
  rw [law_b327] at h
  refine Eval.istore (L' := [none, none, none, none, some (.int v4), some (.int v5), none, none, some (.int v8), some (.int v9), some (.int v10), none, some (.int v12), some (.int v13), some (.int v14), some (.int v15), some (.int v16), some (.int v17), some (.int v18), some (.int v19), some (.int v20), some (.int v21), none, some (.int v23), some (.int v24), some (.int v25), some (.int w0), none, none, none]) rfl rfl ?_
  refine Eval.iload rfl rfl ?_
  suffices hJ135 : Eval own_P 0 351 [none, none, none, none, none, none, none, none, some (.int v8), none, some (.int v10), none, some (.int v12), some (.int v13), some (.int v14), some (.int v15), some (.int v16), some (.int v17), some (.int v18), some (.int v19), some (.int v20), some (.int v21), none, some (.int v23), some (.int v24), some (.int v25), some (.int w0), none, none, none] [.int (if v12 = (0 : Int32) then (0 : Int32) else (if v9 = (0 : Int32) then (if v4 = (1 : Int32) then v5 else (0 : Int32)) else (0 : Int32)))] (W1 s []) out by
    by_cases hc132 : v12 = (0 : Int32)
    · refine Eval.ifT (t := 350) rfl rfl (teq hc132).1 ?_
      refine Eval.iconst (x := (0 : Int32)) rfl rfl ?_
      refine Eval.weak (L' := [none, none, none, none, none, none, none, none, some (.int v8), none, some (.int v10), none, some (.int v12), some (.int v13), some (.int v14), some (.int v15), some (.int v16), some (.int v17), some (.int v18), some (.int v19), some (.int v20), some (.int v21), none, some (.int v23), some (.int v24), some (.int v25), some (.int w0), none, none, none]) ⟨_, _, rfl, Or.inl rfl, _, _, rfl, Or.inl rfl, _, _, rfl, Or.inl rfl, _, _, rfl, Or.inl rfl, _, _, rfl, Or.inl rfl, _, _, rfl, Or.inl rfl, _, _, rfl, Or.inl rfl, _, _, rfl, Or.inl rfl, _, _, rfl, Or.inr rfl, _, _, rfl, Or.inl rfl, _, _, rfl, Or.inr rfl, _, _, rfl, Or.inl rfl, _, _, rfl, Or.inr rfl, _, _, rfl, Or.inr rfl, _, _, rfl, Or.inr rfl, _, _, rfl, Or.inr rfl, _, _, rfl, Or.inr rfl, _, _, rfl, Or.inr rfl, _, _, rfl, Or.inr rfl, _, _, rfl, Or.inr rfl, _, _, rfl, Or.inr rfl, _, _, rfl, Or.inr rfl, _, _, rfl, Or.inl rfl, _, _, rfl, Or.inr rfl, _, _, rfl, Or.inr rfl, _, _, rfl, Or.inr rfl, _, _, rfl, Or.inr rfl, _, _, rfl, Or.inl rfl, _, _, rfl, Or.inl rfl, _, _, rfl, Or.inl rfl, rfl⟩ ?_
      exact (Eval.conv hJ135 rfl (by simp only [if_pos hc132]))
    · refine Eval.ifF rfl (feq hc132).1 ?_
      refine Eval.iload rfl rfl ?_
      by_cases hc133 : v9 = (0 : Int32)
      · refine Eval.ifF rfl (teq hc133).2 ?_
        refine Eval.iload rfl rfl ?_
        refine Eval.iconst (x := (1 : Int32)) rfl rfl ?_
        by_cases hc134 : v4 = (1 : Int32)
        · refine Eval.icmpF rfl (teq hc134).2 ?_
          refine Eval.iload rfl rfl ?_
          refine Eval.goto (t := 351) rfl rfl ?_
          refine Eval.weak (L' := [none, none, none, none, none, none, none, none, some (.int v8), none, some (.int v10), none, some (.int v12), some (.int v13), some (.int v14), some (.int v15), some (.int v16), some (.int v17), some (.int v18), some (.int v19), some (.int v20), some (.int v21), none, some (.int v23), some (.int v24), some (.int v25), some (.int w0), none, none, none]) ⟨_, _, rfl, Or.inl rfl, _, _, rfl, Or.inl rfl, _, _, rfl, Or.inl rfl, _, _, rfl, Or.inl rfl, _, _, rfl, Or.inl rfl, _, _, rfl, Or.inl rfl, _, _, rfl, Or.inl rfl, _, _, rfl, Or.inl rfl, _, _, rfl, Or.inr rfl, _, _, rfl, Or.inl rfl, _, _, rfl, Or.inr rfl, _, _, rfl, Or.inl rfl, _, _, rfl, Or.inr rfl, _, _, rfl, Or.inr rfl, _, _, rfl, Or.inr rfl, _, _, rfl, Or.inr rfl, _, _, rfl, Or.inr rfl, _, _, rfl, Or.inr rfl, _, _, rfl, Or.inr rfl, _, _, rfl, Or.inr rfl, _, _, rfl, Or.inr rfl, _, _, rfl, Or.inr rfl, _, _, rfl, Or.inl rfl, _, _, rfl, Or.inr rfl, _, _, rfl, Or.inr rfl, _, _, rfl, Or.inr rfl, _, _, rfl, Or.inr rfl, _, _, rfl, Or.inl rfl, _, _, rfl, Or.inl rfl, _, _, rfl, Or.inl rfl, rfl⟩ ?_
          exact (Eval.conv hJ135 rfl (by simp only [if_neg hc132, if_pos hc133, if_pos hc134]))
        · refine Eval.icmpT (t := 350) rfl rfl (feq hc134).2 ?_
          refine Eval.iconst (x := (0 : Int32)) rfl rfl ?_
          refine Eval.weak (L' := [none, none, none, none, none, none, none, none, some (.int v8), none, some (.int v10), none, some (.int v12), some (.int v13), some (.int v14), some (.int v15), some (.int v16), some (.int v17), some (.int v18), some (.int v19), some (.int v20), some (.int v21), none, some (.int v23), some (.int v24), some (.int v25), some (.int w0), none, none, none]) ⟨_, _, rfl, Or.inl rfl, _, _, rfl, Or.inl rfl, _, _, rfl, Or.inl rfl, _, _, rfl, Or.inl rfl, _, _, rfl, Or.inl rfl, _, _, rfl, Or.inl rfl, _, _, rfl, Or.inl rfl, _, _, rfl, Or.inl rfl, _, _, rfl, Or.inr rfl, _, _, rfl, Or.inl rfl, _, _, rfl, Or.inr rfl, _, _, rfl, Or.inl rfl, _, _, rfl, Or.inr rfl, _, _, rfl, Or.inr rfl, _, _, rfl, Or.inr rfl, _, _, rfl, Or.inr rfl, _, _, rfl, Or.inr rfl, _, _, rfl, Or.inr rfl, _, _, rfl, Or.inr rfl, _, _, rfl, Or.inr rfl, _, _, rfl, Or.inr rfl, _, _, rfl, Or.inr rfl, _, _, rfl, Or.inl rfl, _, _, rfl, Or.inr rfl, _, _, rfl, Or.inr rfl, _, _, rfl, Or.inr rfl, _, _, rfl, Or.inr rfl, _, _, rfl, Or.inl rfl, _, _, rfl, Or.inl rfl, _, _, rfl, Or.inl rfl, rfl⟩ ?_
          exact (Eval.conv hJ135 rfl (by simp only [if_neg hc132, if_pos hc133, if_neg hc134]))
      · refine Eval.ifT (t := 350) rfl rfl (feq hc133).2 ?_
        refine Eval.iconst (x := (0 : Int32)) rfl rfl ?_
        refine Eval.weak (L' := [none, none, none, none, none, none, none, none, some (.int v8), none, some (.int v10), none, some (.int v12), some (.int v13), some (.int v14), some (.int v15), some (.int v16), some (.int v17), some (.int v18), some (.int v19), some (.int v20), some (.int v21), none, some (.int v23), some (.int v24), some (.int v25), some (.int w0), none, none, none]) ⟨_, _, rfl, Or.inl rfl, _, _, rfl, Or.inl rfl, _, _, rfl, Or.inl rfl, _, _, rfl, Or.inl rfl, _, _, rfl, Or.inl rfl, _, _, rfl, Or.inl rfl, _, _, rfl, Or.inl rfl, _, _, rfl, Or.inl rfl, _, _, rfl, Or.inr rfl, _, _, rfl, Or.inl rfl, _, _, rfl, Or.inr rfl, _, _, rfl, Or.inl rfl, _, _, rfl, Or.inr rfl, _, _, rfl, Or.inr rfl, _, _, rfl, Or.inr rfl, _, _, rfl, Or.inr rfl, _, _, rfl, Or.inr rfl, _, _, rfl, Or.inr rfl, _, _, rfl, Or.inr rfl, _, _, rfl, Or.inr rfl, _, _, rfl, Or.inr rfl, _, _, rfl, Or.inr rfl, _, _, rfl, Or.inl rfl, _, _, rfl, Or.inr rfl, _, _, rfl, Or.inr rfl, _, _, rfl, Or.inr rfl, _, _, rfl, Or.inr rfl, _, _, rfl, Or.inl rfl, _, _, rfl, Or.inl rfl, _, _, rfl, Or.inl rfl, rfl⟩ ?_
        exact (Eval.conv hJ135 rfl (by simp only [if_neg hc132, if_neg hc133]))
  exact ev_law_b351 s v8 v10 v12 v13 v14 v15 v16 v17 v18 v19 v20 v21 v23 v24 v25 w0 (if v12 = (0 : Int32) then (0 : Int32) else (if v9 = (0 : Int32) then (if v4 = (1 : Int32) then v5 else (0 : Int32)) else (0 : Int32))) h hk
def law_b309 (s : Q) (v1 : Int32) (v4 : Int32) (v5 : Int32) (v8 : Int32) (v9 : Int32) (v10 : Int32) (v12 : Int32) (v13 : Int32) (v14 : Int32) (v15 : Int32) (v16 : Int32) (v17 : Int32) (v18 : Int32) (v19 : Int32) (v20 : Int32) (v21 : Int32) (v22 : Int32) (v23 : Int32) (v24 : Int32) (w0 : Int32) : Option (Int32 × Q) := (law_b327 s v4 v5 v8 v9 v10 v12 v13 v14 v15 v16 v17 v18 v19 v20 v21 v23 v24 w0 (if v12 = (0 : Int32) then (0 : Int32) else ((v22 * (16 : Int32)) + v1)))
set_option maxRecDepth 100000 in
theorem ev_law_b309 (s : Q) (v1 : Int32) (v4 : Int32) (v5 : Int32) (v8 : Int32) (v9 : Int32) (v10 : Int32) (v12 : Int32) (v13 : Int32) (v14 : Int32) (v15 : Int32) (v16 : Int32) (v17 : Int32) (v18 : Int32) (v19 : Int32) (v20 : Int32) (v21 : Int32) (v22 : Int32) (v23 : Int32) (v24 : Int32) (w0 : Int32) {res : Int32 × Q} {out : Option Value × AHeap} (h : law_b309 s v1 v4 v5 v8 v9 v10 v12 v13 v14 v15 v16 v17 v18 v19 v20 v21 v22 v23 v24 w0 = some res) (hk : out = (some (.int res.1), (W1 res.2 []))) : Eval own_P 0 309 [none, some (.int v1), none, none, some (.int v4), some (.int v5), none, none, some (.int v8), some (.int v9), some (.int v10), none, some (.int v12), some (.int v13), some (.int v14), some (.int v15), some (.int v16), some (.int v17), some (.int v18), some (.int v19), some (.int v20), some (.int v21), some (.int v22), some (.int v23), some (.int v24), none, none, none, none, none] [.int w0] (W1 s []) out := by
  rw [law_b309] at h
  refine Eval.istore (L' := [none, some (.int v1), none, none, some (.int v4), some (.int v5), none, none, some (.int v8), some (.int v9), some (.int v10), none, some (.int v12), some (.int v13), some (.int v14), some (.int v15), some (.int v16), some (.int v17), some (.int v18), some (.int v19), some (.int v20), some (.int v21), some (.int v22), some (.int v23), some (.int v24), some (.int w0), none, none, none, none]) rfl rfl ?_
  refine Eval.iload rfl rfl ?_
  suffices hJ131 : Eval own_P 0 327 [none, none, none, none, some (.int v4), some (.int v5), none, none, some (.int v8), some (.int v9), some (.int v10), none, some (.int v12), some (.int v13), some (.int v14), some (.int v15), some (.int v16), some (.int v17), some (.int v18), some (.int v19), some (.int v20), some (.int v21), none, some (.int v23), some (.int v24), some (.int w0), none, none, none, none] [.int (if v12 = (0 : Int32) then (0 : Int32) else ((v22 * (16 : Int32)) + v1))] (W1 s []) out by
    by_cases hc130 : v12 = (0 : Int32)
    · refine Eval.ifT (t := 326) rfl rfl (teq hc130).1 ?_
      refine Eval.iconst (x := (0 : Int32)) rfl rfl ?_
      refine Eval.weak (L' := [none, none, none, none, some (.int v4), some (.int v5), none, none, some (.int v8), some (.int v9), some (.int v10), none, some (.int v12), some (.int v13), some (.int v14), some (.int v15), some (.int v16), some (.int v17), some (.int v18), some (.int v19), some (.int v20), some (.int v21), none, some (.int v23), some (.int v24), some (.int w0), none, none, none, none]) ⟨_, _, rfl, Or.inl rfl, _, _, rfl, Or.inl rfl, _, _, rfl, Or.inl rfl, _, _, rfl, Or.inl rfl, _, _, rfl, Or.inr rfl, _, _, rfl, Or.inr rfl, _, _, rfl, Or.inl rfl, _, _, rfl, Or.inl rfl, _, _, rfl, Or.inr rfl, _, _, rfl, Or.inr rfl, _, _, rfl, Or.inr rfl, _, _, rfl, Or.inl rfl, _, _, rfl, Or.inr rfl, _, _, rfl, Or.inr rfl, _, _, rfl, Or.inr rfl, _, _, rfl, Or.inr rfl, _, _, rfl, Or.inr rfl, _, _, rfl, Or.inr rfl, _, _, rfl, Or.inr rfl, _, _, rfl, Or.inr rfl, _, _, rfl, Or.inr rfl, _, _, rfl, Or.inr rfl, _, _, rfl, Or.inl rfl, _, _, rfl, Or.inr rfl, _, _, rfl, Or.inr rfl, _, _, rfl, Or.inr rfl, _, _, rfl, Or.inl rfl, _, _, rfl, Or.inl rfl, _, _, rfl, Or.inl rfl, _, _, rfl, Or.inl rfl, rfl⟩ ?_
      exact (Eval.conv hJ131 rfl (by simp only [if_pos hc130]))
    · refine Eval.ifF rfl (feq hc130).1 ?_
      refine Eval.iload rfl rfl ?_
      refine Eval.bipush (x := (16 : Int32)) rfl rfl ?_
      refine Eval.imul rfl ?_
      refine Eval.iload_n rfl rfl ?_
      refine Eval.iadd rfl ?_
      refine Eval.goto (t := 327) rfl rfl ?_
      refine Eval.weak (L' := [none, none, none, none, some (.int v4), some (.int v5), none, none, some (.int v8), some (.int v9), some (.int v10), none, some (.int v12), some (.int v13), some (.int v14), some (.int v15), some (.int v16), some (.int v17), some (.int v18), some (.int v19), some (.int v20), some (.int v21), none, some (.int v23), some (.int v24), some (.int w0), none, none, none, none]) ⟨_, _, rfl, Or.inl rfl, _, _, rfl, Or.inl rfl, _, _, rfl, Or.inl rfl, _, _, rfl, Or.inl rfl, _, _, rfl, Or.inr rfl, _, _, rfl, Or.inr rfl, _, _, rfl, Or.inl rfl, _, _, rfl, Or.inl rfl, _, _, rfl, Or.inr rfl, _, _, rfl, Or.inr rfl, _, _, rfl, Or.inr rfl, _, _, rfl, Or.inl rfl, _, _, rfl, Or.inr rfl, _, _, rfl, Or.inr rfl, _, _, rfl, Or.inr rfl, _, _, rfl, Or.inr rfl, _, _, rfl, Or.inr rfl, _, _, rfl, Or.inr rfl, _, _, rfl, Or.inr rfl, _, _, rfl, Or.inr rfl, _, _, rfl, Or.inr rfl, _, _, rfl, Or.inr rfl, _, _, rfl, Or.inl rfl, _, _, rfl, Or.inr rfl, _, _, rfl, Or.inr rfl, _, _, rfl, Or.inr rfl, _, _, rfl, Or.inl rfl, _, _, rfl, Or.inl rfl, _, _, rfl, Or.inl rfl, _, _, rfl, Or.inl rfl, rfl⟩ ?_
      exact (Eval.conv hJ131 rfl (by simp only [if_neg hc130]))
  exact ev_law_b327 s v4 v5 v8 v9 v10 v12 v13 v14 v15 v16 v17 v18 v19 v20 v21 v23 v24 w0 (if v12 = (0 : Int32) then (0 : Int32) else ((v22 * (16 : Int32)) + v1)) h hk
def law_b292 (s : Q) (v1 : Int32) (v3 : Int32) (v4 : Int32) (v5 : Int32) (v8 : Int32) (v9 : Int32) (v10 : Int32) (v12 : Int32) (v13 : Int32) (v14 : Int32) (v15 : Int32) (v16 : Int32) (v17 : Int32) (v18 : Int32) (v19 : Int32) (v20 : Int32) (v21 : Int32) (v22 : Int32) (v23 : Int32) (w0 : Int32) : Option (Int32 × Q) := (law_b309 s v1 v4 v5 v8 v9 v10 v12 v13 v14 v15 v16 v17 v18 v19 v20 v21 v22 v23 w0 (if v10 = (0 : Int32) then (0 : Int32) else (if v9 = (0 : Int32) then (0 : Int32) else v3)))
set_option maxRecDepth 100000 in
theorem ev_law_b292 (s : Q) (v1 : Int32) (v3 : Int32) (v4 : Int32) (v5 : Int32) (v8 : Int32) (v9 : Int32) (v10 : Int32) (v12 : Int32) (v13 : Int32) (v14 : Int32) (v15 : Int32) (v16 : Int32) (v17 : Int32) (v18 : Int32) (v19 : Int32) (v20 : Int32) (v21 : Int32) (v22 : Int32) (v23 : Int32) (w0 : Int32) {res : Int32 × Q} {out : Option Value × AHeap} (h : law_b292 s v1 v3 v4 v5 v8 v9 v10 v12 v13 v14 v15 v16 v17 v18 v19 v20 v21 v22 v23 w0 = some res) (hk : out = (some (.int res.1), (W1 res.2 []))) : Eval own_P 0 292 [none, some (.int v1), none, some (.int v3), some (.int v4), some (.int v5), none, none, some (.int v8), some (.int v9), some (.int v10), none, some (.int v12), some (.int v13), some (.int v14), some (.int v15), some (.int v16), some (.int v17), some (.int v18), some (.int v19), some (.int v20), some (.int v21), some (.int v22), some (.int v23), none, none, none, none, none, none] [.int w0] (W1 s []) out := by
  rw [law_b292] at h
  refine Eval.istore (L' := [none, some (.int v1), none, some (.int v3), some (.int v4), some (.int v5), none, none, some (.int v8), some (.int v9), some (.int v10), none, some (.int v12), some (.int v13), some (.int v14), some (.int v15), some (.int v16), some (.int v17), some (.int v18), some (.int v19), some (.int v20), some (.int v21), some (.int v22), some (.int v23), some (.int w0), none, none, none, none, none]) rfl rfl ?_
  refine Eval.iload rfl rfl ?_
  suffices hJ129 : Eval own_P 0 309 [none, some (.int v1), none, none, some (.int v4), some (.int v5), none, none, some (.int v8), some (.int v9), some (.int v10), none, some (.int v12), some (.int v13), some (.int v14), some (.int v15), some (.int v16), some (.int v17), some (.int v18), some (.int v19), some (.int v20), some (.int v21), some (.int v22), some (.int v23), some (.int w0), none, none, none, none, none] [.int (if v10 = (0 : Int32) then (0 : Int32) else (if v9 = (0 : Int32) then (0 : Int32) else v3))] (W1 s []) out by
    by_cases hc127 : v10 = (0 : Int32)
    · refine Eval.ifT (t := 308) rfl rfl (teq hc127).1 ?_
      refine Eval.iconst (x := (0 : Int32)) rfl rfl ?_
      refine Eval.weak (L' := [none, some (.int v1), none, none, some (.int v4), some (.int v5), none, none, some (.int v8), some (.int v9), some (.int v10), none, some (.int v12), some (.int v13), some (.int v14), some (.int v15), some (.int v16), some (.int v17), some (.int v18), some (.int v19), some (.int v20), some (.int v21), some (.int v22), some (.int v23), some (.int w0), none, none, none, none, none]) ⟨_, _, rfl, Or.inl rfl, _, _, rfl, Or.inr rfl, _, _, rfl, Or.inl rfl, _, _, rfl, Or.inl rfl, _, _, rfl, Or.inr rfl, _, _, rfl, Or.inr rfl, _, _, rfl, Or.inl rfl, _, _, rfl, Or.inl rfl, _, _, rfl, Or.inr rfl, _, _, rfl, Or.inr rfl, _, _, rfl, Or.inr rfl, _, _, rfl, Or.inl rfl, _, _, rfl, Or.inr rfl, _, _, rfl, Or.inr rfl, _, _, rfl, Or.inr rfl, _, _, rfl, Or.inr rfl, _, _, rfl, Or.inr rfl, _, _, rfl, Or.inr rfl, _, _, rfl, Or.inr rfl, _, _, rfl, Or.inr rfl, _, _, rfl, Or.inr rfl, _, _, rfl, Or.inr rfl, _, _, rfl, Or.inr rfl, _, _, rfl, Or.inr rfl, _, _, rfl, Or.inr rfl, _, _, rfl, Or.inl rfl, _, _, rfl, Or.inl rfl, _, _, rfl, Or.inl rfl, _, _, rfl, Or.inl rfl, _, _, rfl, Or.inl rfl, rfl⟩ ?_
      exact (Eval.conv hJ129 rfl (by simp only [if_pos hc127]))
    · refine Eval.ifF rfl (feq hc127).1 ?_
      refine Eval.iload rfl rfl ?_
      by_cases hc128 : v9 = (0 : Int32)
      · refine Eval.ifT (t := 308) rfl rfl (teq hc128).1 ?_
        refine Eval.iconst (x := (0 : Int32)) rfl rfl ?_
        refine Eval.weak (L' := [none, some (.int v1), none, none, some (.int v4), some (.int v5), none, none, some (.int v8), some (.int v9), some (.int v10), none, some (.int v12), some (.int v13), some (.int v14), some (.int v15), some (.int v16), some (.int v17), some (.int v18), some (.int v19), some (.int v20), some (.int v21), some (.int v22), some (.int v23), some (.int w0), none, none, none, none, none]) ⟨_, _, rfl, Or.inl rfl, _, _, rfl, Or.inr rfl, _, _, rfl, Or.inl rfl, _, _, rfl, Or.inl rfl, _, _, rfl, Or.inr rfl, _, _, rfl, Or.inr rfl, _, _, rfl, Or.inl rfl, _, _, rfl, Or.inl rfl, _, _, rfl, Or.inr rfl, _, _, rfl, Or.inr rfl, _, _, rfl, Or.inr rfl, _, _, rfl, Or.inl rfl, _, _, rfl, Or.inr rfl, _, _, rfl, Or.inr rfl, _, _, rfl, Or.inr rfl, _, _, rfl, Or.inr rfl, _, _, rfl, Or.inr rfl, _, _, rfl, Or.inr rfl, _, _, rfl, Or.inr rfl, _, _, rfl, Or.inr rfl, _, _, rfl, Or.inr rfl, _, _, rfl, Or.inr rfl, _, _, rfl, Or.inr rfl, _, _, rfl, Or.inr rfl, _, _, rfl, Or.inr rfl, _, _, rfl, Or.inl rfl, _, _, rfl, Or.inl rfl, _, _, rfl, Or.inl rfl, _, _, rfl, Or.inl rfl, _, _, rfl, Or.inl rfl, rfl⟩ ?_
        exact (Eval.conv hJ129 rfl (by simp only [if_neg hc127, if_pos hc128]))
      · refine Eval.ifF rfl (feq hc128).1 ?_
        refine Eval.iload_n rfl rfl ?_
        refine Eval.goto (t := 309) rfl rfl ?_
        refine Eval.weak (L' := [none, some (.int v1), none, none, some (.int v4), some (.int v5), none, none, some (.int v8), some (.int v9), some (.int v10), none, some (.int v12), some (.int v13), some (.int v14), some (.int v15), some (.int v16), some (.int v17), some (.int v18), some (.int v19), some (.int v20), some (.int v21), some (.int v22), some (.int v23), some (.int w0), none, none, none, none, none]) ⟨_, _, rfl, Or.inl rfl, _, _, rfl, Or.inr rfl, _, _, rfl, Or.inl rfl, _, _, rfl, Or.inl rfl, _, _, rfl, Or.inr rfl, _, _, rfl, Or.inr rfl, _, _, rfl, Or.inl rfl, _, _, rfl, Or.inl rfl, _, _, rfl, Or.inr rfl, _, _, rfl, Or.inr rfl, _, _, rfl, Or.inr rfl, _, _, rfl, Or.inl rfl, _, _, rfl, Or.inr rfl, _, _, rfl, Or.inr rfl, _, _, rfl, Or.inr rfl, _, _, rfl, Or.inr rfl, _, _, rfl, Or.inr rfl, _, _, rfl, Or.inr rfl, _, _, rfl, Or.inr rfl, _, _, rfl, Or.inr rfl, _, _, rfl, Or.inr rfl, _, _, rfl, Or.inr rfl, _, _, rfl, Or.inr rfl, _, _, rfl, Or.inr rfl, _, _, rfl, Or.inr rfl, _, _, rfl, Or.inl rfl, _, _, rfl, Or.inl rfl, _, _, rfl, Or.inl rfl, _, _, rfl, Or.inl rfl, _, _, rfl, Or.inl rfl, rfl⟩ ?_
        exact (Eval.conv hJ129 rfl (by simp only [if_neg hc127, if_neg hc128]))
  exact ev_law_b309 s v1 v4 v5 v8 v9 v10 v12 v13 v14 v15 v16 v17 v18 v19 v20 v21 v22 v23 w0 (if v10 = (0 : Int32) then (0 : Int32) else (if v9 = (0 : Int32) then (0 : Int32) else v3)) h hk
def law_b265 (s : Q) (v1 : Int32) (v3 : Int32) (v4 : Int32) (v5 : Int32) (v8 : Int32) (v9 : Int32) (v10 : Int32) (v12 : Int32) (v13 : Int32) (v14 : Int32) (v15 : Int32) (v16 : Int32) (v17 : Int32) (v18 : Int32) (v19 : Int32) (v20 : Int32) (v21 : Int32) (v22 : Int32) (w0 : Int32) (w1 : Int32) : Option (Int32 × Q) := (law_b292 s v1 v3 v4 v5 v8 v9 v10 v12 v13 v14 v15 v16 v17 v18 v19 v20 v21 v22 (w0 + w1) (if v10 = (0 : Int32) then (0 : Int32) else (if v9 = (0 : Int32) then (((2 : Int32) * (16 : Int32)) + v1) else (((1 : Int32) * (16 : Int32)) + v1))))
set_option maxRecDepth 100000 in
theorem ev_law_b265 (s : Q) (v1 : Int32) (v3 : Int32) (v4 : Int32) (v5 : Int32) (v8 : Int32) (v9 : Int32) (v10 : Int32) (v12 : Int32) (v13 : Int32) (v14 : Int32) (v15 : Int32) (v16 : Int32) (v17 : Int32) (v18 : Int32) (v19 : Int32) (v20 : Int32) (v21 : Int32) (v22 : Int32) (w0 : Int32) (w1 : Int32) {res : Int32 × Q} {out : Option Value × AHeap} (h : law_b265 s v1 v3 v4 v5 v8 v9 v10 v12 v13 v14 v15 v16 v17 v18 v19 v20 v21 v22 w0 w1 = some res) (hk : out = (some (.int res.1), (W1 res.2 []))) : Eval own_P 0 265 [none, some (.int v1), none, some (.int v3), some (.int v4), some (.int v5), none, none, some (.int v8), some (.int v9), some (.int v10), none, some (.int v12), some (.int v13), some (.int v14), some (.int v15), some (.int v16), some (.int v17), some (.int v18), some (.int v19), some (.int v20), some (.int v21), some (.int v22), none, none, none, none, none, none, none] [.int w1, .int w0] (W1 s []) out := by
  rw [law_b265] at h
  refine Eval.iadd rfl ?_
  refine Eval.istore (L' := [none, some (.int v1), none, some (.int v3), some (.int v4), some (.int v5), none, none, some (.int v8), some (.int v9), some (.int v10), none, some (.int v12), some (.int v13), some (.int v14), some (.int v15), some (.int v16), some (.int v17), some (.int v18), some (.int v19), some (.int v20), some (.int v21), some (.int v22), some (.int (w0 + w1)), none, none, none, none, none, none]) rfl rfl ?_
  refine Eval.iload rfl rfl ?_
  suffices hJ126 : Eval own_P 0 292 [none, some (.int v1), none, some (.int v3), some (.int v4), some (.int v5), none, none, some (.int v8), some (.int v9), some (.int v10), none, some (.int v12), some (.int v13), some (.int v14), some (.int v15), some (.int v16), some (.int v17), some (.int v18), some (.int v19), some (.int v20), some (.int v21), some (.int v22), some (.int (w0 + w1)), none, none, none, none, none, none] [.int (if v10 = (0 : Int32) then (0 : Int32) else (if v9 = (0 : Int32) then (((2 : Int32) * (16 : Int32)) + v1) else (((1 : Int32) * (16 : Int32)) + v1)))] (W1 s []) out by
    by_cases hc124 : v10 = (0 : Int32)
    · refine Eval.ifT (t := 291) rfl rfl (teq hc124).1 ?_
      refine Eval.iconst (x := (0 : Int32)) rfl rfl ?_
      exact (Eval.conv hJ126 rfl (by simp only [if_pos hc124]))
    · refine Eval.ifF rfl (feq hc124).1 ?_
      refine Eval.iload rfl rfl ?_
      by_cases hc125 : v9 = (0 : Int32)
      · refine Eval.ifT (t := 282) rfl rfl (teq hc125).1 ?_
        refine Eval.iconst (x := (2 : Int32)) rfl rfl ?_
        refine Eval.bipush (x := (16 : Int32)) rfl rfl ?_
        refine Eval.imul rfl ?_
        refine Eval.iload_n rfl rfl ?_
        refine Eval.iadd rfl ?_
        refine Eval.goto (t := 292) rfl rfl ?_
        exact (Eval.conv hJ126 rfl (by simp only [if_neg hc124, if_pos hc125]))
      · refine Eval.ifF rfl (feq hc125).1 ?_
        refine Eval.iconst (x := (1 : Int32)) rfl rfl ?_
        refine Eval.goto (t := 283) rfl rfl ?_
        refine Eval.bipush (x := (16 : Int32)) rfl rfl ?_
        refine Eval.imul rfl ?_
        refine Eval.iload_n rfl rfl ?_
        refine Eval.iadd rfl ?_
        refine Eval.goto (t := 292) rfl rfl ?_
        exact (Eval.conv hJ126 rfl (by simp only [if_neg hc124, if_neg hc125]))
  exact ev_law_b292 s v1 v3 v4 v5 v8 v9 v10 v12 v13 v14 v15 v16 v17 v18 v19 v20 v21 v22 (w0 + w1) (if v10 = (0 : Int32) then (0 : Int32) else (if v9 = (0 : Int32) then (((2 : Int32) * (16 : Int32)) + v1) else (((1 : Int32) * (16 : Int32)) + v1))) h hk
def law_b255 (s : Q) (v1 : Int32) (v3 : Int32) (v4 : Int32) (v5 : Int32) (v8 : Int32) (v9 : Int32) (v10 : Int32) (v12 : Int32) (v13 : Int32) (v14 : Int32) (v15 : Int32) (v16 : Int32) (v17 : Int32) (v18 : Int32) (v19 : Int32) (v20 : Int32) (v21 : Int32) (v22 : Int32) (w0 : Int32) : Option (Int32 × Q) := (law_b265 s v1 v3 v4 v5 v8 v9 v10 v12 v13 v14 v15 v16 v17 v18 v19 v20 v21 v22 w0 (if v12 = (0 : Int32) then (0 : Int32) else (1 : Int32)))
set_option maxRecDepth 100000 in
theorem ev_law_b255 (s : Q) (v1 : Int32) (v3 : Int32) (v4 : Int32) (v5 : Int32) (v8 : Int32) (v9 : Int32) (v10 : Int32) (v12 : Int32) (v13 : Int32) (v14 : Int32) (v15 : Int32) (v16 : Int32) (v17 : Int32) (v18 : Int32) (v19 : Int32) (v20 : Int32) (v21 : Int32) (v22 : Int32) (w0 : Int32) {res : Int32 × Q} {out : Option Value × AHeap} (h : law_b255 s v1 v3 v4 v5 v8 v9 v10 v12 v13 v14 v15 v16 v17 v18 v19 v20 v21 v22 w0 = some res) (hk : out = (some (.int res.1), (W1 res.2 []))) : Eval own_P 0 255 [none, some (.int v1), none, some (.int v3), some (.int v4), some (.int v5), none, none, some (.int v8), some (.int v9), some (.int v10), none, some (.int v12), some (.int v13), some (.int v14), some (.int v15), some (.int v16), some (.int v17), some (.int v18), some (.int v19), some (.int v20), some (.int v21), some (.int v22), none, none, none, none, none, none, none] [.int w0] (W1 s []) out := by
  rw [law_b255] at h
  refine Eval.iload rfl rfl ?_
  suffices hJ123 : Eval own_P 0 265 [none, some (.int v1), none, some (.int v3), some (.int v4), some (.int v5), none, none, some (.int v8), some (.int v9), some (.int v10), none, some (.int v12), some (.int v13), some (.int v14), some (.int v15), some (.int v16), some (.int v17), some (.int v18), some (.int v19), some (.int v20), some (.int v21), some (.int v22), none, none, none, none, none, none, none] [.int (if v12 = (0 : Int32) then (0 : Int32) else (1 : Int32)), .int w0] (W1 s []) out by
    by_cases hc122 : v12 = (0 : Int32)
    · refine Eval.ifT (t := 264) rfl rfl (teq hc122).1 ?_
      refine Eval.iconst (x := (0 : Int32)) rfl rfl ?_
      exact (Eval.conv hJ123 rfl (by simp only [if_pos hc122]))
    · refine Eval.ifF rfl (feq hc122).1 ?_
      refine Eval.iconst (x := (1 : Int32)) rfl rfl ?_
      refine Eval.goto (t := 265) rfl rfl ?_
      exact (Eval.conv hJ123 rfl (by simp only [if_neg hc122]))
  exact ev_law_b265 s v1 v3 v4 v5 v8 v9 v10 v12 v13 v14 v15 v16 v17 v18 v19 v20 v21 v22 w0 (if v12 = (0 : Int32) then (0 : Int32) else (1 : Int32)) h hk
def law_b243 (s : Q) (v1 : Int32) (v3 : Int32) (v4 : Int32) (v5 : Int32) (v8 : Int32) (v9 : Int32) (v10 : Int32) (v12 : Int32) (v13 : Int32) (v14 : Int32) (v15 : Int32) (v16 : Int32) (v17 : Int32) (v18 : Int32) (v19 : Int32) (v20 : Int32) (v21 : Int32) (w0 : Int32) : Option (Int32 × Q) := (law_b255 s v1 v3 v4 v5 v8 v9 v10 v12 v13 v14 v15 v16 v17 v18 v19 v20 v21 w0 (if v10 = (0 : Int32) then (0 : Int32) else (1 : Int32)))
set_option maxRecDepth 100000 in
theorem ev_law_b243 (s : Q) (v1 : Int32) (v3 : Int32) (v4 : Int32) (v5 : Int32) (v8 : Int32) (v9 : Int32) (v10 : Int32) (v12 : Int32) (v13 : Int32) (v14 : Int32) (v15 : Int32) (v16 : Int32) (v17 : Int32) (v18 : Int32) (v19 : Int32) (v20 : Int32) (v21 : Int32) (w0 : Int32) {res : Int32 × Q} {out : Option Value × AHeap} (h : law_b243 s v1 v3 v4 v5 v8 v9 v10 v12 v13 v14 v15 v16 v17 v18 v19 v20 v21 w0 = some res) (hk : out = (some (.int res.1), (W1 res.2 []))) : Eval own_P 0 243 [none, some (.int v1), none, some (.int v3), some (.int v4), some (.int v5), none, none, some (.int v8), some (.int v9), some (.int v10), none, some (.int v12), some (.int v13), some (.int v14), some (.int v15), some (.int v16), some (.int v17), some (.int v18), some (.int v19), some (.int v20), some (.int v21), none, none, none, none, none, none, none, none] [.int w0] (W1 s []) out := by
  rw [law_b243] at h
  refine Eval.istore (L' := [none, some (.int v1), none, some (.int v3), some (.int v4), some (.int v5), none, none, some (.int v8), some (.int v9), some (.int v10), none, some (.int v12), some (.int v13), some (.int v14), some (.int v15), some (.int v16), some (.int v17), some (.int v18), some (.int v19), some (.int v20), some (.int v21), some (.int w0), none, none, none, none, none, none, none]) rfl rfl ?_
  refine Eval.iload rfl rfl ?_
  suffices hJ121 : Eval own_P 0 255 [none, some (.int v1), none, some (.int v3), some (.int v4), some (.int v5), none, none, some (.int v8), some (.int v9), some (.int v10), none, some (.int v12), some (.int v13), some (.int v14), some (.int v15), some (.int v16), some (.int v17), some (.int v18), some (.int v19), some (.int v20), some (.int v21), some (.int w0), none, none, none, none, none, none, none] [.int (if v10 = (0 : Int32) then (0 : Int32) else (1 : Int32))] (W1 s []) out by
    by_cases hc120 : v10 = (0 : Int32)
    · refine Eval.ifT (t := 254) rfl rfl (teq hc120).1 ?_
      refine Eval.iconst (x := (0 : Int32)) rfl rfl ?_
      exact (Eval.conv hJ121 rfl (by simp only [if_pos hc120]))
    · refine Eval.ifF rfl (feq hc120).1 ?_
      refine Eval.iconst (x := (1 : Int32)) rfl rfl ?_
      refine Eval.goto (t := 255) rfl rfl ?_
      exact (Eval.conv hJ121 rfl (by simp only [if_neg hc120]))
  exact ev_law_b255 s v1 v3 v4 v5 v8 v9 v10 v12 v13 v14 v15 v16 v17 v18 v19 v20 v21 w0 (if v10 = (0 : Int32) then (0 : Int32) else (1 : Int32)) h hk
def law_b143 (s : Q) (v1 : Int32) (v2 : Int32) (v3 : Int32) (v4 : Int32) (v5 : Int32) (v8 : Int32) (v9 : Int32) (v10 : Int32) (w0 : Int32) : Option (Int32 × Q) := ((j_logInvoke s v1 v2 v3).bind fun p67 => ((j_logResponse p67.2 v1 v4 v5).bind fun p90 => ((j_historyEvent p90.2 (0 : Int32)).bind fun p97 => ((j_historyValue p90.2 (0 : Int32)).bind fun p103 => ((j_historyEvent p90.2 (1 : Int32)).bind fun p105 => ((j_historyValue p90.2 (1 : Int32)).bind fun p107 => ((j_state p90.2 v1).bind fun p111 => ((j_lastStatus p90.2 v1).bind fun p115 => (law_b243 p90.2 v1 v3 v4 v5 v8 v9 v10 w0 p67.1 p90.1 (j_historyLength p90.2) p97 p103 p105 p107 p111 p115 (if v4 = (1 : Int32) then (3 : Int32) else (if v4 = (2 : Int32) then (4 : Int32) else (5 : Int32))))))))))))
set_option maxRecDepth 100000 in
theorem ev_law_b143 (s : Q) (v1 : Int32) (v2 : Int32) (v3 : Int32) (v4 : Int32) (v5 : Int32) (v8 : Int32) (v9 : Int32) (v10 : Int32) (w0 : Int32) {res : Int32 × Q} {out : Option Value × AHeap} (h : law_b143 s v1 v2 v3 v4 v5 v8 v9 v10 w0 = some res) (hk : out = (some (.int res.1), (W1 res.2 []))) : Eval own_P 0 143 [none, some (.int v1), some (.int v2), some (.int v3), some (.int v4), some (.int v5), some (.ref 0), none, some (.int v8), some (.int v9), some (.int v10), none, none, none, none, none, none, none, none, none, none, none, none, none, none, none, none, none, none, none] [.int w0] (W1 s []) out := by
  rw [law_b143] at h
  refine Eval.istore (L' := [none, some (.int v1), some (.int v2), some (.int v3), some (.int v4), some (.int v5), some (.ref 0), none, some (.int v8), some (.int v9), some (.int v10), none, some (.int w0), none, none, none, none, none, none, none, none, none, none, none, none, none, none, none, none, none]) rfl rfl ?_
  refine Eval.aload rfl rfl ?_
  refine Eval.iload_n rfl rfl ?_
  refine Eval.iload_n rfl rfl ?_
  refine Eval.iload_n rfl rfl ?_
  obtain ⟨p67, hq68, h⟩ := bind_some h
  refine Eval.callI (rest := []) (x := p67.1) (H1 := (W1 p67.2 [])) rfl rfl (ev_j_logInvoke [] s v1 v2 v3 hq68 rfl) ?_
  refine Eval.istore (L' := [none, some (.int v1), some (.int v2), some (.int v3), some (.int v4), some (.int v5), some (.ref 0), none, some (.int v8), some (.int v9), some (.int v10), none, some (.int w0), some (.int p67.1), none, none, none, none, none, none, none, none, none, none, none, none, none, none, none, none]) rfl rfl ?_
  refine Eval.aload rfl rfl ?_
  refine Eval.iload_n rfl rfl ?_
  refine Eval.iload rfl rfl ?_
  refine Eval.iload rfl rfl ?_
  obtain ⟨p90, hq91, h⟩ := bind_some h
  refine Eval.callI (rest := []) (x := p90.1) (H1 := (W1 p90.2 [])) rfl rfl (ev_j_logResponse [] p67.2 v1 v4 v5 hq91 rfl) ?_
  refine Eval.istore (L' := [none, some (.int v1), some (.int v2), some (.int v3), some (.int v4), some (.int v5), some (.ref 0), none, some (.int v8), some (.int v9), some (.int v10), none, some (.int w0), some (.int p67.1), some (.int p90.1), none, none, none, none, none, none, none, none, none, none, none, none, none, none, none]) rfl rfl ?_
  refine Eval.aload rfl rfl ?_
  refine Eval.callI (rest := []) (x := (j_historyLength p90.2)) (H1 := (W1 p90.2 [])) rfl rfl (ev_j_historyLength [] p90.2 rfl rfl) ?_
  refine Eval.istore (L' := [none, some (.int v1), some (.int v2), some (.int v3), some (.int v4), some (.int v5), some (.ref 0), none, some (.int v8), some (.int v9), some (.int v10), none, some (.int w0), some (.int p67.1), some (.int p90.1), some (.int (j_historyLength p90.2)), none, none, none, none, none, none, none, none, none, none, none, none, none, none]) rfl rfl ?_
  refine Eval.aload rfl rfl ?_
  refine Eval.iconst (x := (0 : Int32)) rfl rfl ?_
  obtain ⟨p97, hq98, h⟩ := bind_some h
  refine Eval.callI (rest := []) (x := p97) (H1 := (W1 p90.2 [])) rfl rfl (ev_j_historyEvent [] p90.2 (0 : Int32) hq98 rfl) ?_
  refine Eval.istore (L' := [none, some (.int v1), some (.int v2), some (.int v3), some (.int v4), some (.int v5), some (.ref 0), none, some (.int v8), some (.int v9), some (.int v10), none, some (.int w0), some (.int p67.1), some (.int p90.1), some (.int (j_historyLength p90.2)), some (.int p97), none, none, none, none, none, none, none, none, none, none, none, none, none]) rfl rfl ?_
  refine Eval.aload rfl rfl ?_
  refine Eval.iconst (x := (0 : Int32)) rfl rfl ?_
  obtain ⟨p103, hq104, h⟩ := bind_some h
  refine Eval.callI (rest := []) (x := p103) (H1 := (W1 p90.2 [])) rfl rfl (ev_j_historyValue [] p90.2 (0 : Int32) hq104 rfl) ?_
  refine Eval.istore (L' := [none, some (.int v1), some (.int v2), some (.int v3), some (.int v4), some (.int v5), some (.ref 0), none, some (.int v8), some (.int v9), some (.int v10), none, some (.int w0), some (.int p67.1), some (.int p90.1), some (.int (j_historyLength p90.2)), some (.int p97), some (.int p103), none, none, none, none, none, none, none, none, none, none, none, none]) rfl rfl ?_
  refine Eval.aload rfl rfl ?_
  refine Eval.iconst (x := (1 : Int32)) rfl rfl ?_
  obtain ⟨p105, hq106, h⟩ := bind_some h
  refine Eval.callI (rest := []) (x := p105) (H1 := (W1 p90.2 [])) rfl rfl (ev_j_historyEvent [] p90.2 (1 : Int32) hq106 rfl) ?_
  refine Eval.istore (L' := [none, some (.int v1), some (.int v2), some (.int v3), some (.int v4), some (.int v5), some (.ref 0), none, some (.int v8), some (.int v9), some (.int v10), none, some (.int w0), some (.int p67.1), some (.int p90.1), some (.int (j_historyLength p90.2)), some (.int p97), some (.int p103), some (.int p105), none, none, none, none, none, none, none, none, none, none, none]) rfl rfl ?_
  refine Eval.aload rfl rfl ?_
  refine Eval.iconst (x := (1 : Int32)) rfl rfl ?_
  obtain ⟨p107, hq108, h⟩ := bind_some h
  refine Eval.callI (rest := []) (x := p107) (H1 := (W1 p90.2 [])) rfl rfl (ev_j_historyValue [] p90.2 (1 : Int32) hq108 rfl) ?_
  refine Eval.istore (L' := [none, some (.int v1), some (.int v2), some (.int v3), some (.int v4), some (.int v5), some (.ref 0), none, some (.int v8), some (.int v9), some (.int v10), none, some (.int w0), some (.int p67.1), some (.int p90.1), some (.int (j_historyLength p90.2)), some (.int p97), some (.int p103), some (.int p105), some (.int p107), none, none, none, none, none, none, none, none, none, none]) rfl rfl ?_
  refine Eval.aload rfl rfl ?_
  refine Eval.iload_n rfl rfl ?_
  obtain ⟨p111, hq112, h⟩ := bind_some h
  refine Eval.callI (rest := []) (x := p111) (H1 := (W1 p90.2 [])) rfl rfl (ev_j_state [] p90.2 v1 hq112 rfl) ?_
  refine Eval.istore (L' := [none, some (.int v1), some (.int v2), some (.int v3), some (.int v4), some (.int v5), some (.ref 0), none, some (.int v8), some (.int v9), some (.int v10), none, some (.int w0), some (.int p67.1), some (.int p90.1), some (.int (j_historyLength p90.2)), some (.int p97), some (.int p103), some (.int p105), some (.int p107), some (.int p111), none, none, none, none, none, none, none, none, none]) rfl rfl ?_
  refine Eval.aload rfl rfl ?_
  refine Eval.iload_n rfl rfl ?_
  obtain ⟨p115, hq116, h⟩ := bind_some h
  refine Eval.callI (rest := []) (x := p115) (H1 := (W1 p90.2 [])) rfl rfl (ev_j_lastStatus [] p90.2 v1 hq116 rfl) ?_
  refine Eval.istore (L' := [none, some (.int v1), some (.int v2), some (.int v3), some (.int v4), some (.int v5), some (.ref 0), none, some (.int v8), some (.int v9), some (.int v10), none, some (.int w0), some (.int p67.1), some (.int p90.1), some (.int (j_historyLength p90.2)), some (.int p97), some (.int p103), some (.int p105), some (.int p107), some (.int p111), some (.int p115), none, none, none, none, none, none, none, none]) rfl rfl ?_
  refine Eval.iload rfl rfl ?_
  refine Eval.iconst (x := (1 : Int32)) rfl rfl ?_
  suffices hJ119 : Eval own_P 0 243 [none, some (.int v1), none, some (.int v3), some (.int v4), some (.int v5), none, none, some (.int v8), some (.int v9), some (.int v10), none, some (.int w0), some (.int p67.1), some (.int p90.1), some (.int (j_historyLength p90.2)), some (.int p97), some (.int p103), some (.int p105), some (.int p107), some (.int p111), some (.int p115), none, none, none, none, none, none, none, none] [.int (if v4 = (1 : Int32) then (3 : Int32) else (if v4 = (2 : Int32) then (4 : Int32) else (5 : Int32)))] (W1 p90.2 []) out by
    by_cases hc117 : v4 = (1 : Int32)
    · refine Eval.icmpF rfl (teq hc117).2 ?_
      refine Eval.iconst (x := (3 : Int32)) rfl rfl ?_
      refine Eval.goto (t := 243) rfl rfl ?_
      refine Eval.weak (L' := [none, some (.int v1), none, some (.int v3), some (.int v4), some (.int v5), none, none, some (.int v8), some (.int v9), some (.int v10), none, some (.int w0), some (.int p67.1), some (.int p90.1), some (.int (j_historyLength p90.2)), some (.int p97), some (.int p103), some (.int p105), some (.int p107), some (.int p111), some (.int p115), none, none, none, none, none, none, none, none]) ⟨_, _, rfl, Or.inl rfl, _, _, rfl, Or.inr rfl, _, _, rfl, Or.inl rfl, _, _, rfl, Or.inr rfl, _, _, rfl, Or.inr rfl, _, _, rfl, Or.inr rfl, _, _, rfl, Or.inl rfl, _, _, rfl, Or.inl rfl, _, _, rfl, Or.inr rfl, _, _, rfl, Or.inr rfl, _, _, rfl, Or.inr rfl, _, _, rfl, Or.inl rfl, _, _, rfl, Or.inr rfl, _, _, rfl, Or.inr rfl, _, _, rfl, Or.inr rfl, _, _, rfl, Or.inr rfl, _, _, rfl, Or.inr rfl, _, _, rfl, Or.inr rfl, _, _, rfl, Or.inr rfl, _, _, rfl, Or.inr rfl, _, _, rfl, Or.inr rfl, _, _, rfl, Or.inr rfl, _, _, rfl, Or.inl rfl, _, _, rfl, Or.inl rfl, _, _, rfl, Or.inl rfl, _, _, rfl, Or.inl rfl, _, _, rfl, Or.inl rfl, _, _, rfl, Or.inl rfl, _, _, rfl, Or.inl rfl, _, _, rfl, Or.inl rfl, rfl⟩ ?_
      exact (Eval.conv hJ119 rfl (by simp only [if_pos hc117]))
    · refine Eval.icmpT (t := 232) rfl rfl (feq hc117).2 ?_
      refine Eval.iload rfl rfl ?_
      refine Eval.iconst (x := (2 : Int32)) rfl rfl ?_
      by_cases hc118 : v4 = (2 : Int32)
      · refine Eval.icmpF rfl (teq hc118).2 ?_
        refine Eval.iconst (x := (4 : Int32)) rfl rfl ?_
        refine Eval.goto (t := 243) rfl rfl ?_
        refine Eval.weak (L' := [none, some (.int v1), none, some (.int v3), some (.int v4), some (.int v5), none, none, some (.int v8), some (.int v9), some (.int v10), none, some (.int w0), some (.int p67.1), some (.int p90.1), some (.int (j_historyLength p90.2)), some (.int p97), some (.int p103), some (.int p105), some (.int p107), some (.int p111), some (.int p115), none, none, none, none, none, none, none, none]) ⟨_, _, rfl, Or.inl rfl, _, _, rfl, Or.inr rfl, _, _, rfl, Or.inl rfl, _, _, rfl, Or.inr rfl, _, _, rfl, Or.inr rfl, _, _, rfl, Or.inr rfl, _, _, rfl, Or.inl rfl, _, _, rfl, Or.inl rfl, _, _, rfl, Or.inr rfl, _, _, rfl, Or.inr rfl, _, _, rfl, Or.inr rfl, _, _, rfl, Or.inl rfl, _, _, rfl, Or.inr rfl, _, _, rfl, Or.inr rfl, _, _, rfl, Or.inr rfl, _, _, rfl, Or.inr rfl, _, _, rfl, Or.inr rfl, _, _, rfl, Or.inr rfl, _, _, rfl, Or.inr rfl, _, _, rfl, Or.inr rfl, _, _, rfl, Or.inr rfl, _, _, rfl, Or.inr rfl, _, _, rfl, Or.inl rfl, _, _, rfl, Or.inl rfl, _, _, rfl, Or.inl rfl, _, _, rfl, Or.inl rfl, _, _, rfl, Or.inl rfl, _, _, rfl, Or.inl rfl, _, _, rfl, Or.inl rfl, _, _, rfl, Or.inl rfl, rfl⟩ ?_
        exact (Eval.conv hJ119 rfl (by simp only [if_neg hc117, if_pos hc118]))
      · refine Eval.icmpT (t := 242) rfl rfl (feq hc118).2 ?_
        refine Eval.iconst (x := (5 : Int32)) rfl rfl ?_
        refine Eval.weak (L' := [none, some (.int v1), none, some (.int v3), some (.int v4), some (.int v5), none, none, some (.int v8), some (.int v9), some (.int v10), none, some (.int w0), some (.int p67.1), some (.int p90.1), some (.int (j_historyLength p90.2)), some (.int p97), some (.int p103), some (.int p105), some (.int p107), some (.int p111), some (.int p115), none, none, none, none, none, none, none, none]) ⟨_, _, rfl, Or.inl rfl, _, _, rfl, Or.inr rfl, _, _, rfl, Or.inl rfl, _, _, rfl, Or.inr rfl, _, _, rfl, Or.inr rfl, _, _, rfl, Or.inr rfl, _, _, rfl, Or.inl rfl, _, _, rfl, Or.inl rfl, _, _, rfl, Or.inr rfl, _, _, rfl, Or.inr rfl, _, _, rfl, Or.inr rfl, _, _, rfl, Or.inl rfl, _, _, rfl, Or.inr rfl, _, _, rfl, Or.inr rfl, _, _, rfl, Or.inr rfl, _, _, rfl, Or.inr rfl, _, _, rfl, Or.inr rfl, _, _, rfl, Or.inr rfl, _, _, rfl, Or.inr rfl, _, _, rfl, Or.inr rfl, _, _, rfl, Or.inr rfl, _, _, rfl, Or.inr rfl, _, _, rfl, Or.inl rfl, _, _, rfl, Or.inl rfl, _, _, rfl, Or.inl rfl, _, _, rfl, Or.inl rfl, _, _, rfl, Or.inl rfl, _, _, rfl, Or.inl rfl, _, _, rfl, Or.inl rfl, _, _, rfl, Or.inl rfl, rfl⟩ ?_
        exact (Eval.conv hJ119 rfl (by simp only [if_neg hc117, if_neg hc118]))
  exact ev_law_b243 p90.2 v1 v3 v4 v5 v8 v9 v10 w0 p67.1 p90.1 (j_historyLength p90.2) p97 p103 p105 p107 p111 p115 (if v4 = (1 : Int32) then (3 : Int32) else (if v4 = (2 : Int32) then (4 : Int32) else (5 : Int32))) h hk
def law_b126 (s : Q) (v1 : Int32) (v2 : Int32) (v3 : Int32) (v4 : Int32) (v5 : Int32) (v8 : Int32) (v9 : Int32) (v10 : Int32) (w0 : Int32) : Option (Int32 × Q) := (law_b143 s v1 v2 v3 v4 v5 v8 v9 v10 (if v10 = (0 : Int32) then (0 : Int32) else (if w0 = (0 : Int32) then (0 : Int32) else (1 : Int32))))
set_option maxRecDepth 100000 in
theorem ev_law_b126 (s : Q) (v1 : Int32) (v2 : Int32) (v3 : Int32) (v4 : Int32) (v5 : Int32) (v8 : Int32) (v9 : Int32) (v10 : Int32) (w0 : Int32) {res : Int32 × Q} {out : Option Value × AHeap} (h : law_b126 s v1 v2 v3 v4 v5 v8 v9 v10 w0 = some res) (hk : out = (some (.int res.1), (W1 res.2 []))) : Eval own_P 0 126 [none, some (.int v1), some (.int v2), some (.int v3), some (.int v4), some (.int v5), some (.ref 0), none, some (.int v8), some (.int v9), some (.int v10), none, none, none, none, none, none, none, none, none, none, none, none, none, none, none, none, none, none, none] [.int w0] (W1 s []) out := by
  rw [law_b126] at h
  refine Eval.istore (L' := [none, some (.int v1), some (.int v2), some (.int v3), some (.int v4), some (.int v5), some (.ref 0), none, some (.int v8), some (.int v9), some (.int v10), some (.int w0), none, none, none, none, none, none, none, none, none, none, none, none, none, none, none, none, none, none]) rfl rfl ?_
  refine Eval.iload rfl rfl ?_
  suffices hJ32 : Eval own_P 0 143 [none, some (.int v1), some (.int v2), some (.int v3), some (.int v4), some (.int v5), some (.ref 0), none, some (.int v8), some (.int v9), some (.int v10), none, none, none, none, none, none, none, none, none, none, none, none, none, none, none, none, none, none, none] [.int (if v10 = (0 : Int32) then (0 : Int32) else (if w0 = (0 : Int32) then (0 : Int32) else (1 : Int32)))] (W1 s []) out by
    by_cases hc30 : v10 = (0 : Int32)
    · refine Eval.ifT (t := 142) rfl rfl (teq hc30).1 ?_
      refine Eval.iconst (x := (0 : Int32)) rfl rfl ?_
      refine Eval.weak (L' := [none, some (.int v1), some (.int v2), some (.int v3), some (.int v4), some (.int v5), some (.ref 0), none, some (.int v8), some (.int v9), some (.int v10), none, none, none, none, none, none, none, none, none, none, none, none, none, none, none, none, none, none, none]) ⟨_, _, rfl, Or.inl rfl, _, _, rfl, Or.inr rfl, _, _, rfl, Or.inr rfl, _, _, rfl, Or.inr rfl, _, _, rfl, Or.inr rfl, _, _, rfl, Or.inr rfl, _, _, rfl, Or.inr rfl, _, _, rfl, Or.inl rfl, _, _, rfl, Or.inr rfl, _, _, rfl, Or.inr rfl, _, _, rfl, Or.inr rfl, _, _, rfl, Or.inl rfl, _, _, rfl, Or.inl rfl, _, _, rfl, Or.inl rfl, _, _, rfl, Or.inl rfl, _, _, rfl, Or.inl rfl, _, _, rfl, Or.inl rfl, _, _, rfl, Or.inl rfl, _, _, rfl, Or.inl rfl, _, _, rfl, Or.inl rfl, _, _, rfl, Or.inl rfl, _, _, rfl, Or.inl rfl, _, _, rfl, Or.inl rfl, _, _, rfl, Or.inl rfl, _, _, rfl, Or.inl rfl, _, _, rfl, Or.inl rfl, _, _, rfl, Or.inl rfl, _, _, rfl, Or.inl rfl, _, _, rfl, Or.inl rfl, _, _, rfl, Or.inl rfl, rfl⟩ ?_
      exact (Eval.conv hJ32 rfl (by simp only [if_pos hc30]))
    · refine Eval.ifF rfl (feq hc30).1 ?_
      refine Eval.iload rfl rfl ?_
      by_cases hc31 : w0 = (0 : Int32)
      · refine Eval.ifT (t := 142) rfl rfl (teq hc31).1 ?_
        refine Eval.iconst (x := (0 : Int32)) rfl rfl ?_
        refine Eval.weak (L' := [none, some (.int v1), some (.int v2), some (.int v3), some (.int v4), some (.int v5), some (.ref 0), none, some (.int v8), some (.int v9), some (.int v10), none, none, none, none, none, none, none, none, none, none, none, none, none, none, none, none, none, none, none]) ⟨_, _, rfl, Or.inl rfl, _, _, rfl, Or.inr rfl, _, _, rfl, Or.inr rfl, _, _, rfl, Or.inr rfl, _, _, rfl, Or.inr rfl, _, _, rfl, Or.inr rfl, _, _, rfl, Or.inr rfl, _, _, rfl, Or.inl rfl, _, _, rfl, Or.inr rfl, _, _, rfl, Or.inr rfl, _, _, rfl, Or.inr rfl, _, _, rfl, Or.inl rfl, _, _, rfl, Or.inl rfl, _, _, rfl, Or.inl rfl, _, _, rfl, Or.inl rfl, _, _, rfl, Or.inl rfl, _, _, rfl, Or.inl rfl, _, _, rfl, Or.inl rfl, _, _, rfl, Or.inl rfl, _, _, rfl, Or.inl rfl, _, _, rfl, Or.inl rfl, _, _, rfl, Or.inl rfl, _, _, rfl, Or.inl rfl, _, _, rfl, Or.inl rfl, _, _, rfl, Or.inl rfl, _, _, rfl, Or.inl rfl, _, _, rfl, Or.inl rfl, _, _, rfl, Or.inl rfl, _, _, rfl, Or.inl rfl, _, _, rfl, Or.inl rfl, rfl⟩ ?_
        exact (Eval.conv hJ32 rfl (by simp only [if_neg hc30, if_pos hc31]))
      · refine Eval.ifF rfl (feq hc31).1 ?_
        refine Eval.iconst (x := (1 : Int32)) rfl rfl ?_
        refine Eval.goto (t := 143) rfl rfl ?_
        refine Eval.weak (L' := [none, some (.int v1), some (.int v2), some (.int v3), some (.int v4), some (.int v5), some (.ref 0), none, some (.int v8), some (.int v9), some (.int v10), none, none, none, none, none, none, none, none, none, none, none, none, none, none, none, none, none, none, none]) ⟨_, _, rfl, Or.inl rfl, _, _, rfl, Or.inr rfl, _, _, rfl, Or.inr rfl, _, _, rfl, Or.inr rfl, _, _, rfl, Or.inr rfl, _, _, rfl, Or.inr rfl, _, _, rfl, Or.inr rfl, _, _, rfl, Or.inl rfl, _, _, rfl, Or.inr rfl, _, _, rfl, Or.inr rfl, _, _, rfl, Or.inr rfl, _, _, rfl, Or.inl rfl, _, _, rfl, Or.inl rfl, _, _, rfl, Or.inl rfl, _, _, rfl, Or.inl rfl, _, _, rfl, Or.inl rfl, _, _, rfl, Or.inl rfl, _, _, rfl, Or.inl rfl, _, _, rfl, Or.inl rfl, _, _, rfl, Or.inl rfl, _, _, rfl, Or.inl rfl, _, _, rfl, Or.inl rfl, _, _, rfl, Or.inl rfl, _, _, rfl, Or.inl rfl, _, _, rfl, Or.inl rfl, _, _, rfl, Or.inl rfl, _, _, rfl, Or.inl rfl, _, _, rfl, Or.inl rfl, _, _, rfl, Or.inl rfl, _, _, rfl, Or.inl rfl, rfl⟩ ?_
        exact (Eval.conv hJ32 rfl (by simp only [if_neg hc30, if_neg hc31]))
  exact ev_law_b143 s v1 v2 v3 v4 v5 v8 v9 v10 (if v10 = (0 : Int32) then (0 : Int32) else (if w0 = (0 : Int32) then (0 : Int32) else (1 : Int32))) h hk
def law_b82 (s : Q) (v1 : Int32) (v2 : Int32) (v3 : Int32) (v4 : Int32) (v5 : Int32) (v8 : Int32) (v9 : Int32) (w0 : Int32) : Option (Int32 × Q) := (law_b126 s v1 v2 v3 v4 v5 v8 v9 w0 (if v9 = (0 : Int32) then (if v4 = (1 : Int32) then (1 : Int32) else (if v4 = (3 : Int32) then (1 : Int32) else (0 : Int32))) else (if v4 = (1 : Int32) then (1 : Int32) else (if v4 = (2 : Int32) then (1 : Int32) else (0 : Int32)))))
set_option maxRecDepth 100000 in
theorem ev_law_b82 (s : Q) (v1 : Int32) (v2 : Int32) (v3 : Int32) (v4 : Int32) (v5 : Int32) (v8 : Int32) (v9 : Int32) (w0 : Int32) {res : Int32 × Q} {out : Option Value × AHeap} (h : law_b82 s v1 v2 v3 v4 v5 v8 v9 w0 = some res) (hk : out = (some (.int res.1), (W1 res.2 []))) : Eval own_P 0 82 [none, some (.int v1), some (.int v2), some (.int v3), some (.int v4), some (.int v5), some (.ref 0), none, some (.int v8), some (.int v9), none, none, none, none, none, none, none, none, none, none, none, none, none, none, none, none, none, none, none, none] [.int w0] (W1 s []) out := by
  rw [law_b82] at h
  refine Eval.istore (L' := [none, some (.int v1), some (.int v2), some (.int v3), some (.int v4), some (.int v5), some (.ref 0), none, some (.int v8), some (.int v9), some (.int w0), none, none, none, none, none, none, none, none, none, none, none, none, none, none, none, none, none, none, none]) rfl rfl ?_
  refine Eval.iload rfl rfl ?_
  suffices hJ29 : Eval own_P 0 126 [none, some (.int v1), some (.int v2), some (.int v3), some (.int v4), some (.int v5), some (.ref 0), none, some (.int v8), some (.int v9), some (.int w0), none, none, none, none, none, none, none, none, none, none, none, none, none, none, none, none, none, none, none] [.int (if v9 = (0 : Int32) then (if v4 = (1 : Int32) then (1 : Int32) else (if v4 = (3 : Int32) then (1 : Int32) else (0 : Int32))) else (if v4 = (1 : Int32) then (1 : Int32) else (if v4 = (2 : Int32) then (1 : Int32) else (0 : Int32))))] (W1 s []) out by
    by_cases hc24 : v9 = (0 : Int32)
    · refine Eval.ifT (t := 109) rfl rfl (teq hc24).1 ?_
      refine Eval.iload rfl rfl ?_
      refine Eval.iconst (x := (1 : Int32)) rfl rfl ?_
      by_cases hc25 : v4 = (1 : Int32)
      · refine Eval.icmpT (t := 121) rfl rfl (teq hc25).1 ?_
        refine Eval.iconst (x := (1 : Int32)) rfl rfl ?_
        refine Eval.goto (t := 126) rfl rfl ?_
        exact (Eval.conv hJ29 rfl (by simp only [if_pos hc24, if_pos hc25]))
      · refine Eval.icmpF rfl (feq hc25).1 ?_
        refine Eval.iload rfl rfl ?_
        refine Eval.iconst (x := (3 : Int32)) rfl rfl ?_
        by_cases hc26 : v4 = (3 : Int32)
        · refine Eval.icmpF rfl (teq hc26).2 ?_
          refine Eval.iconst (x := (1 : Int32)) rfl rfl ?_
          refine Eval.goto (t := 126) rfl rfl ?_
          exact (Eval.conv hJ29 rfl (by simp only [if_pos hc24, if_neg hc25, if_pos hc26]))
        · refine Eval.icmpT (t := 125) rfl rfl (feq hc26).2 ?_
          refine Eval.iconst (x := (0 : Int32)) rfl rfl ?_
          exact (Eval.conv hJ29 rfl (by simp only [if_pos hc24, if_neg hc25, if_neg hc26]))
    · refine Eval.ifF rfl (feq hc24).1 ?_
      refine Eval.iload rfl rfl ?_
      refine Eval.iconst (x := (1 : Int32)) rfl rfl ?_
      by_cases hc27 : v4 = (1 : Int32)
      · refine Eval.icmpT (t := 101) rfl rfl (teq hc27).1 ?_
        refine Eval.iconst (x := (1 : Int32)) rfl rfl ?_
        refine Eval.goto (t := 126) rfl rfl ?_
        exact (Eval.conv hJ29 rfl (by simp only [if_neg hc24, if_pos hc27]))
      · refine Eval.icmpF rfl (feq hc27).1 ?_
        refine Eval.iload rfl rfl ?_
        refine Eval.iconst (x := (2 : Int32)) rfl rfl ?_
        by_cases hc28 : v4 = (2 : Int32)
        · refine Eval.icmpF rfl (teq hc28).2 ?_
          refine Eval.iconst (x := (1 : Int32)) rfl rfl ?_
          refine Eval.goto (t := 126) rfl rfl ?_
          exact (Eval.conv hJ29 rfl (by simp only [if_neg hc24, if_neg hc27, if_pos hc28]))
        · refine Eval.icmpT (t := 105) rfl rfl (feq hc28).2 ?_
          refine Eval.iconst (x := (0 : Int32)) rfl rfl ?_
          refine Eval.goto (t := 126) rfl rfl ?_
          exact (Eval.conv hJ29 rfl (by simp only [if_neg hc24, if_neg hc27, if_neg hc28]))
  exact ev_law_b126 s v1 v2 v3 v4 v5 v8 v9 w0 (if v9 = (0 : Int32) then (if v4 = (1 : Int32) then (1 : Int32) else (if v4 = (3 : Int32) then (1 : Int32) else (0 : Int32))) else (if v4 = (1 : Int32) then (1 : Int32) else (if v4 = (2 : Int32) then (1 : Int32) else (0 : Int32)))) h hk
def law_b60 (s : Q) (v1 : Int32) (v2 : Int32) (v3 : Int32) (v4 : Int32) (v5 : Int32) (v8 : Int32) (w0 : Int32) : Option (Int32 × Q) := (law_b82 s v1 v2 v3 v4 v5 v8 w0 (if v8 = (0 : Int32) then (0 : Int32) else (if w0 = (0 : Int32) then (if v2 = (2 : Int32) then (1 : Int32) else (0 : Int32)) else (1 : Int32))))
set_option maxRecDepth 100000 in
theorem ev_law_b60 (s : Q) (v1 : Int32) (v2 : Int32) (v3 : Int32) (v4 : Int32) (v5 : Int32) (v8 : Int32) (w0 : Int32) {res : Int32 × Q} {out : Option Value × AHeap} (h : law_b60 s v1 v2 v3 v4 v5 v8 w0 = some res) (hk : out = (some (.int res.1), (W1 res.2 []))) : Eval own_P 0 60 [none, some (.int v1), some (.int v2), some (.int v3), some (.int v4), some (.int v5), some (.ref 0), none, some (.int v8), none, none, none, none, none, none, none, none, none, none, none, none, none, none, none, none, none, none, none, none, none] [.int w0] (W1 s []) out := by
  rw [law_b60] at h
  refine Eval.istore (L' := [none, some (.int v1), some (.int v2), some (.int v3), some (.int v4), some (.int v5), some (.ref 0), none, some (.int v8), some (.int w0), none, none, none, none, none, none, none, none, none, none, none, none, none, none, none, none, none, none, none, none]) rfl rfl ?_
  refine Eval.iload rfl rfl ?_
  suffices hJ23 : Eval own_P 0 82 [none, some (.int v1), some (.int v2), some (.int v3), some (.int v4), some (.int v5), some (.ref 0), none, some (.int v8), some (.int w0), none, none, none, none, none, none, none, none, none, none, none, none, none, none, none, none, none, none, none, none] [.int (if v8 = (0 : Int32) then (0 : Int32) else (if w0 = (0 : Int32) then (if v2 = (2 : Int32) then (1 : Int32) else (0 : Int32)) else (1 : Int32)))] (W1 s []) out by
    by_cases hc20 : v8 = (0 : Int32)
    · refine Eval.ifT (t := 81) rfl rfl (teq hc20).1 ?_
      refine Eval.iconst (x := (0 : Int32)) rfl rfl ?_
      exact (Eval.conv hJ23 rfl (by simp only [if_pos hc20]))
    · refine Eval.ifF rfl (feq hc20).1 ?_
      refine Eval.iload rfl rfl ?_
      by_cases hc21 : w0 = (0 : Int32)
      · refine Eval.ifF rfl (teq hc21).2 ?_
        refine Eval.iload_n rfl rfl ?_
        refine Eval.iconst (x := (2 : Int32)) rfl rfl ?_
        by_cases hc22 : v2 = (2 : Int32)
        · refine Eval.icmpF rfl (teq hc22).2 ?_
          refine Eval.iconst (x := (1 : Int32)) rfl rfl ?_
          refine Eval.goto (t := 82) rfl rfl ?_
          exact (Eval.conv hJ23 rfl (by simp only [if_neg hc20, if_pos hc21, if_pos hc22]))
        · refine Eval.icmpT (t := 81) rfl rfl (feq hc22).2 ?_
          refine Eval.iconst (x := (0 : Int32)) rfl rfl ?_
          exact (Eval.conv hJ23 rfl (by simp only [if_neg hc20, if_pos hc21, if_neg hc22]))
      · refine Eval.ifT (t := 77) rfl rfl (feq hc21).2 ?_
        refine Eval.iconst (x := (1 : Int32)) rfl rfl ?_
        refine Eval.goto (t := 82) rfl rfl ?_
        exact (Eval.conv hJ23 rfl (by simp only [if_neg hc20, if_neg hc21]))
  exact ev_law_b82 s v1 v2 v3 v4 v5 v8 w0 (if v8 = (0 : Int32) then (0 : Int32) else (if w0 = (0 : Int32) then (if v2 = (2 : Int32) then (1 : Int32) else (0 : Int32)) else (1 : Int32))) h hk
def law_b48 (s : Q) (v1 : Int32) (v2 : Int32) (v3 : Int32) (v4 : Int32) (v5 : Int32) (w0 : Int32) : Option (Int32 × Q) := (law_b60 s v1 v2 v3 v4 v5 w0 (if v2 = (1 : Int32) then (1 : Int32) else (0 : Int32)))
set_option maxRecDepth 100000 in
theorem ev_law_b48 (s : Q) (v1 : Int32) (v2 : Int32) (v3 : Int32) (v4 : Int32) (v5 : Int32) (w0 : Int32) {res : Int32 × Q} {out : Option Value × AHeap} (h : law_b48 s v1 v2 v3 v4 v5 w0 = some res) (hk : out = (some (.int res.1), (W1 res.2 []))) : Eval own_P 0 48 [none, some (.int v1), some (.int v2), some (.int v3), some (.int v4), some (.int v5), some (.ref 0), none, none, none, none, none, none, none, none, none, none, none, none, none, none, none, none, none, none, none, none, none, none, none] [.int w0] (W1 s []) out := by
  rw [law_b48] at h
  refine Eval.istore (L' := [none, some (.int v1), some (.int v2), some (.int v3), some (.int v4), some (.int v5), some (.ref 0), none, some (.int w0), none, none, none, none, none, none, none, none, none, none, none, none, none, none, none, none, none, none, none, none, none]) rfl rfl ?_
  refine Eval.iload_n rfl rfl ?_
  refine Eval.iconst (x := (1 : Int32)) rfl rfl ?_
  suffices hJ19 : Eval own_P 0 60 [none, some (.int v1), some (.int v2), some (.int v3), some (.int v4), some (.int v5), some (.ref 0), none, some (.int w0), none, none, none, none, none, none, none, none, none, none, none, none, none, none, none, none, none, none, none, none, none] [.int (if v2 = (1 : Int32) then (1 : Int32) else (0 : Int32))] (W1 s []) out by
    by_cases hc18 : v2 = (1 : Int32)
    · refine Eval.icmpF rfl (teq hc18).2 ?_
      refine Eval.iconst (x := (1 : Int32)) rfl rfl ?_
      refine Eval.goto (t := 60) rfl rfl ?_
      exact (Eval.conv hJ19 rfl (by simp only [if_pos hc18]))
    · refine Eval.icmpT (t := 59) rfl rfl (feq hc18).2 ?_
      refine Eval.iconst (x := (0 : Int32)) rfl rfl ?_
      exact (Eval.conv hJ19 rfl (by simp only [if_neg hc18]))
  exact ev_law_b60 s v1 v2 v3 v4 v5 w0 (if v2 = (1 : Int32) then (1 : Int32) else (0 : Int32)) h hk
def law_b31 (s : Q) (v1 : Int32) (v2 : Int32) (v3 : Int32) (v4 : Int32) (v5 : Int32) (w0 : Int32) : Option (Int32 × Q) := (law_b48 s v1 v2 v3 v4 v5 (if v1 < (0 : Int32) then (0 : Int32) else (if v1 < w0 then (1 : Int32) else (0 : Int32))))
set_option maxRecDepth 100000 in
theorem ev_law_b31 (s : Q) (v1 : Int32) (v2 : Int32) (v3 : Int32) (v4 : Int32) (v5 : Int32) (w0 : Int32) {res : Int32 × Q} {out : Option Value × AHeap} (h : law_b31 s v1 v2 v3 v4 v5 w0 = some res) (hk : out = (some (.int res.1), (W1 res.2 []))) : Eval own_P 0 31 [none, some (.int v1), some (.int v2), some (.int v3), some (.int v4), some (.int v5), some (.ref 0), none, none, none, none, none, none, none, none, none, none, none, none, none, none, none, none, none, none, none, none, none, none, none] [.int w0] (W1 s []) out := by
  rw [law_b31] at h
  refine Eval.istore (L' := [none, some (.int v1), some (.int v2), some (.int v3), some (.int v4), some (.int v5), some (.ref 0), some (.int w0), none, none, none, none, none, none, none, none, none, none, none, none, none, none, none, none, none, none, none, none, none, none]) rfl rfl ?_
  refine Eval.iload_n rfl rfl ?_
  suffices hJ17 : Eval own_P 0 48 [none, some (.int v1), some (.int v2), some (.int v3), some (.int v4), some (.int v5), some (.ref 0), none, none, none, none, none, none, none, none, none, none, none, none, none, none, none, none, none, none, none, none, none, none, none] [.int (if v1 < (0 : Int32) then (0 : Int32) else (if v1 < w0 then (1 : Int32) else (0 : Int32)))] (W1 s []) out by
    by_cases hc15 : v1 < (0 : Int32)
    · refine Eval.ifT (t := 47) rfl rfl (tlt hc15).1 ?_
      refine Eval.iconst (x := (0 : Int32)) rfl rfl ?_
      refine Eval.weak (L' := [none, some (.int v1), some (.int v2), some (.int v3), some (.int v4), some (.int v5), some (.ref 0), none, none, none, none, none, none, none, none, none, none, none, none, none, none, none, none, none, none, none, none, none, none, none]) ⟨_, _, rfl, Or.inl rfl, _, _, rfl, Or.inr rfl, _, _, rfl, Or.inr rfl, _, _, rfl, Or.inr rfl, _, _, rfl, Or.inr rfl, _, _, rfl, Or.inr rfl, _, _, rfl, Or.inr rfl, _, _, rfl, Or.inl rfl, _, _, rfl, Or.inl rfl, _, _, rfl, Or.inl rfl, _, _, rfl, Or.inl rfl, _, _, rfl, Or.inl rfl, _, _, rfl, Or.inl rfl, _, _, rfl, Or.inl rfl, _, _, rfl, Or.inl rfl, _, _, rfl, Or.inl rfl, _, _, rfl, Or.inl rfl, _, _, rfl, Or.inl rfl, _, _, rfl, Or.inl rfl, _, _, rfl, Or.inl rfl, _, _, rfl, Or.inl rfl, _, _, rfl, Or.inl rfl, _, _, rfl, Or.inl rfl, _, _, rfl, Or.inl rfl, _, _, rfl, Or.inl rfl, _, _, rfl, Or.inl rfl, _, _, rfl, Or.inl rfl, _, _, rfl, Or.inl rfl, _, _, rfl, Or.inl rfl, _, _, rfl, Or.inl rfl, rfl⟩ ?_
      exact (Eval.conv hJ17 rfl (by simp only [if_pos hc15]))
    · refine Eval.ifF rfl (flt hc15).1 ?_
      refine Eval.iload_n rfl rfl ?_
      refine Eval.iload rfl rfl ?_
      by_cases hc16 : v1 < w0
      · refine Eval.icmpF rfl (tlt hc16).2.1 ?_
        refine Eval.iconst (x := (1 : Int32)) rfl rfl ?_
        refine Eval.goto (t := 48) rfl rfl ?_
        refine Eval.weak (L' := [none, some (.int v1), some (.int v2), some (.int v3), some (.int v4), some (.int v5), some (.ref 0), none, none, none, none, none, none, none, none, none, none, none, none, none, none, none, none, none, none, none, none, none, none, none]) ⟨_, _, rfl, Or.inl rfl, _, _, rfl, Or.inr rfl, _, _, rfl, Or.inr rfl, _, _, rfl, Or.inr rfl, _, _, rfl, Or.inr rfl, _, _, rfl, Or.inr rfl, _, _, rfl, Or.inr rfl, _, _, rfl, Or.inl rfl, _, _, rfl, Or.inl rfl, _, _, rfl, Or.inl rfl, _, _, rfl, Or.inl rfl, _, _, rfl, Or.inl rfl, _, _, rfl, Or.inl rfl, _, _, rfl, Or.inl rfl, _, _, rfl, Or.inl rfl, _, _, rfl, Or.inl rfl, _, _, rfl, Or.inl rfl, _, _, rfl, Or.inl rfl, _, _, rfl, Or.inl rfl, _, _, rfl, Or.inl rfl, _, _, rfl, Or.inl rfl, _, _, rfl, Or.inl rfl, _, _, rfl, Or.inl rfl, _, _, rfl, Or.inl rfl, _, _, rfl, Or.inl rfl, _, _, rfl, Or.inl rfl, _, _, rfl, Or.inl rfl, _, _, rfl, Or.inl rfl, _, _, rfl, Or.inl rfl, _, _, rfl, Or.inl rfl, rfl⟩ ?_
        exact (Eval.conv hJ17 rfl (by simp only [if_neg hc15, if_pos hc16]))
      · refine Eval.icmpT (t := 47) rfl rfl (flt hc16).2.1 ?_
        refine Eval.iconst (x := (0 : Int32)) rfl rfl ?_
        refine Eval.weak (L' := [none, some (.int v1), some (.int v2), some (.int v3), some (.int v4), some (.int v5), some (.ref 0), none, none, none, none, none, none, none, none, none, none, none, none, none, none, none, none, none, none, none, none, none, none, none]) ⟨_, _, rfl, Or.inl rfl, _, _, rfl, Or.inr rfl, _, _, rfl, Or.inr rfl, _, _, rfl, Or.inr rfl, _, _, rfl, Or.inr rfl, _, _, rfl, Or.inr rfl, _, _, rfl, Or.inr rfl, _, _, rfl, Or.inl rfl, _, _, rfl, Or.inl rfl, _, _, rfl, Or.inl rfl, _, _, rfl, Or.inl rfl, _, _, rfl, Or.inl rfl, _, _, rfl, Or.inl rfl, _, _, rfl, Or.inl rfl, _, _, rfl, Or.inl rfl, _, _, rfl, Or.inl rfl, _, _, rfl, Or.inl rfl, _, _, rfl, Or.inl rfl, _, _, rfl, Or.inl rfl, _, _, rfl, Or.inl rfl, _, _, rfl, Or.inl rfl, _, _, rfl, Or.inl rfl, _, _, rfl, Or.inl rfl, _, _, rfl, Or.inl rfl, _, _, rfl, Or.inl rfl, _, _, rfl, Or.inl rfl, _, _, rfl, Or.inl rfl, _, _, rfl, Or.inl rfl, _, _, rfl, Or.inl rfl, _, _, rfl, Or.inl rfl, rfl⟩ ?_
        exact (Eval.conv hJ17 rfl (by simp only [if_neg hc15, if_neg hc16]))
  exact ev_law_b48 s v1 v2 v3 v4 v5 (if v1 < (0 : Int32) then (0 : Int32) else (if v1 < w0 then (1 : Int32) else (0 : Int32))) h hk
def law (v0 : Int32) (v1 : Int32) (v2 : Int32) (v3 : Int32) (v4 : Int32) (v5 : Int32) : Option (Int32 × Q) := ((j_init (2 : Int32) v0 (0 : Int32)).bind fun p10 => (law_b31 p10 v1 v2 v3 v4 v5 (if v0 < (1 : Int32) then (1 : Int32) else (if (4 : Int32) < v0 then (4 : Int32) else v0))))
set_option maxRecDepth 100000 in
theorem ev_law (v0 : Int32) (v1 : Int32) (v2 : Int32) (v3 : Int32) (v4 : Int32) (v5 : Int32) {res : Int32 × Q} {out : Option Value × AHeap} (h : law v0 v1 v2 v3 v4 v5 = some res) (hk : out = (some (.int res.1), (W1 res.2 []))) : Eval own_P 0 0 [some (.int v0), some (.int v1), some (.int v2), some (.int v3), some (.int v4), some (.int v5), none, none, none, none, none, none, none, none, none, none, none, none, none, none, none, none, none, none, none, none, none, none, none, none] [] (W0 []) out := by
  rw [law] at h
  refine Eval.new (z := 0) (a := 0) (H1 := (W0 [.inl (Prog.fresh own_P)])) rfl rfl rfl (by decide) rfl (by decide) rfl ?_
  refine Eval.dupR rfl ?_
  refine Eval.iconst (x := (2 : Int32)) rfl rfl ?_
  refine Eval.iload_n rfl rfl ?_
  refine Eval.iconst (x := (0 : Int32)) rfl rfl ?_
  obtain ⟨p10, hq11, h⟩ := bind_some h
  refine Eval.callN (rest := [.ref 0]) (H1 := (W1 p10 [])) rfl rfl (ev_j_init (2 : Int32) v0 (0 : Int32) hq11 rfl) ?_
  refine Eval.astore (L' := [some (.int v0), some (.int v1), some (.int v2), some (.int v3), some (.int v4), some (.int v5), some (.ref 0), none, none, none, none, none, none, none, none, none, none, none, none, none, none, none, none, none, none, none, none, none, none, none]) rfl rfl ?_
  refine Eval.iload_n rfl rfl ?_
  refine Eval.iconst (x := (1 : Int32)) rfl rfl ?_
  suffices hJ14 : Eval own_P 0 31 [none, some (.int v1), some (.int v2), some (.int v3), some (.int v4), some (.int v5), some (.ref 0), none, none, none, none, none, none, none, none, none, none, none, none, none, none, none, none, none, none, none, none, none, none, none] [.int (if v0 < (1 : Int32) then (1 : Int32) else (if (4 : Int32) < v0 then (4 : Int32) else v0))] (W1 p10 []) out by
    by_cases hc12 : v0 < (1 : Int32)
    · refine Eval.icmpF rfl (tlt hc12).2.1 ?_
      refine Eval.iconst (x := (1 : Int32)) rfl rfl ?_
      refine Eval.goto (t := 31) rfl rfl ?_
      refine Eval.weak (L' := [none, some (.int v1), some (.int v2), some (.int v3), some (.int v4), some (.int v5), some (.ref 0), none, none, none, none, none, none, none, none, none, none, none, none, none, none, none, none, none, none, none, none, none, none, none]) ⟨_, _, rfl, Or.inl rfl, _, _, rfl, Or.inr rfl, _, _, rfl, Or.inr rfl, _, _, rfl, Or.inr rfl, _, _, rfl, Or.inr rfl, _, _, rfl, Or.inr rfl, _, _, rfl, Or.inr rfl, _, _, rfl, Or.inl rfl, _, _, rfl, Or.inl rfl, _, _, rfl, Or.inl rfl, _, _, rfl, Or.inl rfl, _, _, rfl, Or.inl rfl, _, _, rfl, Or.inl rfl, _, _, rfl, Or.inl rfl, _, _, rfl, Or.inl rfl, _, _, rfl, Or.inl rfl, _, _, rfl, Or.inl rfl, _, _, rfl, Or.inl rfl, _, _, rfl, Or.inl rfl, _, _, rfl, Or.inl rfl, _, _, rfl, Or.inl rfl, _, _, rfl, Or.inl rfl, _, _, rfl, Or.inl rfl, _, _, rfl, Or.inl rfl, _, _, rfl, Or.inl rfl, _, _, rfl, Or.inl rfl, _, _, rfl, Or.inl rfl, _, _, rfl, Or.inl rfl, _, _, rfl, Or.inl rfl, _, _, rfl, Or.inl rfl, rfl⟩ ?_
      exact (Eval.conv hJ14 rfl (by simp only [if_pos hc12]))
    · refine Eval.icmpT (t := 21) rfl rfl (flt hc12).2.1 ?_
      refine Eval.iload_n rfl rfl ?_
      refine Eval.iconst (x := (4 : Int32)) rfl rfl ?_
      by_cases hc13 : (4 : Int32) < v0
      · refine Eval.icmpF rfl (tlt hc13).2.2.2 ?_
        refine Eval.iconst (x := (4 : Int32)) rfl rfl ?_
        refine Eval.goto (t := 31) rfl rfl ?_
        refine Eval.weak (L' := [none, some (.int v1), some (.int v2), some (.int v3), some (.int v4), some (.int v5), some (.ref 0), none, none, none, none, none, none, none, none, none, none, none, none, none, none, none, none, none, none, none, none, none, none, none]) ⟨_, _, rfl, Or.inl rfl, _, _, rfl, Or.inr rfl, _, _, rfl, Or.inr rfl, _, _, rfl, Or.inr rfl, _, _, rfl, Or.inr rfl, _, _, rfl, Or.inr rfl, _, _, rfl, Or.inr rfl, _, _, rfl, Or.inl rfl, _, _, rfl, Or.inl rfl, _, _, rfl, Or.inl rfl, _, _, rfl, Or.inl rfl, _, _, rfl, Or.inl rfl, _, _, rfl, Or.inl rfl, _, _, rfl, Or.inl rfl, _, _, rfl, Or.inl rfl, _, _, rfl, Or.inl rfl, _, _, rfl, Or.inl rfl, _, _, rfl, Or.inl rfl, _, _, rfl, Or.inl rfl, _, _, rfl, Or.inl rfl, _, _, rfl, Or.inl rfl, _, _, rfl, Or.inl rfl, _, _, rfl, Or.inl rfl, _, _, rfl, Or.inl rfl, _, _, rfl, Or.inl rfl, _, _, rfl, Or.inl rfl, _, _, rfl, Or.inl rfl, _, _, rfl, Or.inl rfl, _, _, rfl, Or.inl rfl, _, _, rfl, Or.inl rfl, rfl⟩ ?_
        exact (Eval.conv hJ14 rfl (by simp only [if_neg hc12, if_pos hc13]))
      · refine Eval.icmpT (t := 30) rfl rfl (flt hc13).2.2.2 ?_
        refine Eval.iload_n rfl rfl ?_
        refine Eval.weak (L' := [none, some (.int v1), some (.int v2), some (.int v3), some (.int v4), some (.int v5), some (.ref 0), none, none, none, none, none, none, none, none, none, none, none, none, none, none, none, none, none, none, none, none, none, none, none]) ⟨_, _, rfl, Or.inl rfl, _, _, rfl, Or.inr rfl, _, _, rfl, Or.inr rfl, _, _, rfl, Or.inr rfl, _, _, rfl, Or.inr rfl, _, _, rfl, Or.inr rfl, _, _, rfl, Or.inr rfl, _, _, rfl, Or.inl rfl, _, _, rfl, Or.inl rfl, _, _, rfl, Or.inl rfl, _, _, rfl, Or.inl rfl, _, _, rfl, Or.inl rfl, _, _, rfl, Or.inl rfl, _, _, rfl, Or.inl rfl, _, _, rfl, Or.inl rfl, _, _, rfl, Or.inl rfl, _, _, rfl, Or.inl rfl, _, _, rfl, Or.inl rfl, _, _, rfl, Or.inl rfl, _, _, rfl, Or.inl rfl, _, _, rfl, Or.inl rfl, _, _, rfl, Or.inl rfl, _, _, rfl, Or.inl rfl, _, _, rfl, Or.inl rfl, _, _, rfl, Or.inl rfl, _, _, rfl, Or.inl rfl, _, _, rfl, Or.inl rfl, _, _, rfl, Or.inl rfl, _, _, rfl, Or.inl rfl, _, _, rfl, Or.inl rfl, rfl⟩ ?_
        exact (Eval.conv hJ14 rfl (by simp only [if_neg hc12, if_neg hc13]))
  exact ev_law_b31 p10 v1 v2 v3 v4 v5 (if v0 < (1 : Int32) then (1 : Int32) else (if (4 : Int32) < v0 then (4 : Int32) else v0)) h hk
theorem own_cl {v a b : Int32} (h : a.toInt ≤ b.toInt) : a.toInt ≤ (j_clamp v a b).toInt ∧ (j_clamp v a b).toInt ≤ b.toInt := by
  unfold j_clamp
  split
  · omega
  · split
    · omega
    · rename_i h1 h2; simp only [lt32] at h1 h2; omega

theorem own_rdc {n : Nat} {c j : Int32} (h : inb n j = true) : rd (List.replicate n c) j = c := by
  have q := rd_at (xs := List.replicate n c) (j := j) (by simpa using h)
  rw [List.getElem?_replicate] at q
  split at q
  · exact (Option.some.inj q).symm
  · cases q
theorem own_n2i {i : Nat} (h : i < 2147483648) : (Int32.ofNat i).toInt = i := by
  rw [Int32.toInt_ofNat']
  simp only [Int32.size, Int.bmod_def]
  omega
theorem own_n2n {i : Nat} (h : i < 2147483648) : (Int32.ofNat i).toNatClampNeg = i := by
  simp only [Int32.toNatClampNeg, own_n2i h]; omega
theorem own_succ (i : Nat) : Int32.ofNat i + 1 = Int32.ofNat (i + 1) := (Int32.ofNat_add i 1).symm
theorem own_inbN {n i : Nat} (h : i < n) (hn : n < 2147483648) : inb n (Int32.ofNat i) = true := inb_iff.mpr (by rw [own_n2i (by omega)]; omega)
theorem own_ltN {i k : Nat} (hi : i < 2147483648) (hk : k < 2147483648) : Int32.ofNat i < Int32.ofNat k ↔ i < k := by
  rw [lt32, own_n2i hi, own_n2i hk]; omega
theorem own_wrA {A r : List Int32} {d x : Int32} {i : Nat} (hi : A.length = i) (h : i < 2147483648) : wr (A ++ d :: r) (Int32.ofNat i) x = A ++ x :: r := by
  unfold wr
  rw [own_n2n h, ← hi]
  simp
theorem own_repS (i : Nat) (c : Int32) (r : List Int32) : List.replicate i c ++ c :: r = List.replicate (i + 1) c ++ r := by
  rw [List.replicate_succ']; simp
theorem own_add {x y : Int32} (h1 : -2147483648 ≤ x.toInt + y.toInt) (h2 : x.toInt + y.toInt < 2147483648) : (x + y).toInt = x.toInt + y.toInt := by
  rw [Int32.toInt_add, Int.bmod_def]
  omega
theorem own_sub {x y : Int32} (h1 : -2147483648 ≤ x.toInt - y.toInt) (h2 : x.toInt - y.toInt < 2147483648) : (x - y).toInt = x.toInt - y.toInt := by
  rw [Int32.toInt_sub, Int.bmod_def]
  omega
theorem own_mul {x y : Int32} (h1 : -2147483648 ≤ x.toInt * y.toInt) (h2 : x.toInt * y.toInt < 2147483648) : (x * y).toInt = x.toInt * y.toInt := by
  rw [Int32.toInt_mul, Int.bmod_def]
  omega
theorem own_eta (s : Q) : Q.mk s.f_seq s.f_val s.f_st s.f_locP s.f_locV s.f_lastSt s.f_lastVal s.f_logKind s.f_evKind s.f_evThread s.f_evVal s.f_snap s.f_opKind s.f_opArg s.f_opInv s.f_opRes s.f_opStatus s.f_opRVal s.f_predMask s.f_openOp s.f_qBuf s.f_qLen s.f_nextCand s.f_chosen s.f_nThreads s.f_cap s.f_mask s.f_head s.f_tail s.f_histLen s.f_snapLen = s := rfl
theorem own_wrc (n : Nat) (c j : Int32) : wr (List.replicate n c) j c = List.replicate n c := by simp [wr, List.set_replicate_self]

/-- the constructor's loop changes seq alone -/
theorem own_l259 : ∀ (m n : Nat) (s : Q) (v6 v7 : Int32), (8 - v7.toInt).toNat ≤ m → m < n → 0 ≤ v7.toInt → s.f_seq.length = 8 → 0 ≤ s.f_mask.toInt → s.f_mask.toInt ≤ 7 →
    ∃ xs, xs.length = 8 ∧ (j_init_l259 n s v6 v7 = some (.inl (s.s_seq xs)) ∨ j_init_l259 n s v6 v7 = some (.inr (s.s_seq xs)))
  | m, n + 1, s, v6, v7, h1, h2, h3, h4, h5, h6 => by
    have key : s.s_seq s.f_seq = s := rfl
    by_cases c1 : v7 < 8
    · by_cases c2 : v7 < s.f_cap
      · have hb : inb 8 ((v6 + v7) &&& s.f_mask) = true := inb_iff.mpr (by have := c_and (v6 + v7) s.f_mask h5; omega)
        have c1' := c1
        simp only [lt32, Int32.reduceToInt] at c1'
        have e1 : (v7 + 1).toInt = v7.toInt + 1 := own_add (by simp only [Int32.reduceToInt]; omega) (by simp only [Int32.reduceToInt]; omega)
        obtain ⟨m', rfl⟩ : ∃ m', m = m' + 1 := ⟨m - 1, by omega⟩
        obtain ⟨xs, q1, q2⟩ := own_l259 m' n (s.s_seq (wr s.f_seq ((v6 + v7) &&& s.f_mask) (v6 + v7))) v6 (v7 + 1) (by rw [e1]; omega) (by omega) (by rw [e1]; omega) (by simp only [own_e_seq, own_f_seq, len_wr, h4]) (by simpa only [own_e_seq, own_f_mask] using h5) (by simpa only [own_e_seq, own_f_mask] using h6)
        refine ⟨xs, q1, ?_⟩
        rw [j_init_l259, if_pos c1, if_pos c2, h4, if_pos hb]
        exact q2
      · exact ⟨s.f_seq, h4, Or.inl (by rw [j_init_l259, if_pos c1, if_neg c2, key])⟩
    · exact ⟨s.f_seq, h4, Or.inr (by rw [j_init_l259, if_neg c1, key])⟩
theorem own_cap (v : Int32) : let c := ish 1 (j_clamp v 1 3); (c = 2 ∨ c = 4 ∨ c = 8) := by
  have h := own_cl (v := v) (a := 1) (b := 3) (by decide)
  simp only [Int32.reduceToInt] at h
  have : j_clamp v 1 3 = 1 ∨ j_clamp v 1 3 = 2 ∨ j_clamp v 1 3 = 3 := by
    simp only [eq32, Int32.reduceToInt]; omega
  rcases this with h | h | h <;> rw [h] <;> decide
theorem own_init (a b c : Int32) : ∃ xs, xs.length = 8 ∧ j_init a b c = some (Q.mk xs Q0.f_val Q0.f_st Q0.f_locP Q0.f_locV Q0.f_lastSt Q0.f_lastVal Q0.f_logKind Q0.f_evKind Q0.f_evThread Q0.f_evVal Q0.f_snap Q0.f_opKind Q0.f_opArg Q0.f_opInv Q0.f_opRes Q0.f_opStatus Q0.f_opRVal Q0.f_predMask Q0.f_openOp Q0.f_qBuf Q0.f_qLen Q0.f_nextCand Q0.f_chosen (j_clamp b 1 4) (ish 1 (j_clamp a 1 3)) (ish 1 (j_clamp a 1 3) - 1) (2147483584 + j_clamp c 0 63) (2147483584 + j_clamp c 0 63) 0 0) := by
  have hc := own_cap a
  simp only [j_init, j_init_b189]
  generalize ish 1 (j_clamp a 1 3) = cp at *
  obtain ⟨xs, q1, q2⟩ := own_l259 8 3000 (Q.mk Q0.f_seq Q0.f_val Q0.f_st Q0.f_locP Q0.f_locV Q0.f_lastSt Q0.f_lastVal Q0.f_logKind Q0.f_evKind Q0.f_evThread Q0.f_evVal Q0.f_snap Q0.f_opKind Q0.f_opArg Q0.f_opInv Q0.f_opRes Q0.f_opStatus Q0.f_opRVal Q0.f_predMask Q0.f_openOp Q0.f_qBuf Q0.f_qLen Q0.f_nextCand Q0.f_chosen (j_clamp b 1 4) cp (cp - 1) (2147483584 + j_clamp c 0 63) (2147483584 + j_clamp c 0 63) Q0.f_histLen Q0.f_snapLen) (2147483584 + j_clamp c 0 63) 0 (by decide) (by decide) (by decide) rfl (by rw [own_f_mask]; rcases hc with h | h | h <;> rw [h] <;> decide) (by rw [own_f_mask]; rcases hc with h | h | h <;> rw [h] <;> decide)
  refine ⟨xs, q1, ?_⟩
  rcases q2 with q2 | q2 <;> rw [q2] <;> simp only [Option.bind_some, Sum.elim, j_init_b304, own_f_seq, own_e_seq, own_z_seq, own_f_val, own_e_val, own_z_val, own_f_st, own_e_st, own_z_st, own_f_locP, own_e_locP, own_z_locP, own_f_locV, own_e_locV, own_z_locV, own_f_lastSt, own_e_lastSt, own_z_lastSt, own_f_lastVal, own_e_lastVal, own_z_lastVal, own_f_logKind, own_e_logKind, own_z_logKind, own_f_evKind, own_e_evKind, own_z_evKind, own_f_evThread, own_e_evThread, own_z_evThread, own_f_evVal, own_e_evVal, own_z_evVal, own_f_snap, own_e_snap, own_z_snap, own_f_opKind, own_e_opKind, own_z_opKind, own_f_opArg, own_e_opArg, own_z_opArg, own_f_opInv, own_e_opInv, own_z_opInv, own_f_opRes, own_e_opRes, own_z_opRes, own_f_opStatus, own_e_opStatus, own_z_opStatus, own_f_opRVal, own_e_opRVal, own_z_opRVal, own_f_predMask, own_e_predMask, own_z_predMask, own_f_openOp, own_e_openOp, own_z_openOp, own_f_qBuf, own_e_qBuf, own_z_qBuf, own_f_qLen, own_e_qLen, own_z_qLen, own_f_nextCand, own_e_nextCand, own_z_nextCand, own_f_chosen, own_e_chosen, own_z_chosen, own_f_nThreads, own_e_nThreads, own_z_nThreads, own_f_cap, own_e_cap, own_z_cap, own_f_mask, own_e_mask, own_z_mask, own_f_head, own_e_head, own_z_head, own_f_tail, own_e_tail, own_z_tail, own_f_histLen, own_e_histLen, own_z_histLen, own_f_snapLen, own_e_snapLen, own_z_snapLen]

theorem own_pl (S : Q) (b4 : S.f_st = List.replicate 4 0) : ∀ (m n : Nat) (v1 : Int32), (4 - v1.toInt).toNat ≤ m → m < n → 0 ≤ v1.toInt → j_pending_l4 n S 0 v1 = some 0
  | m, n + 1, v1, h1, h2, h3 => by
    by_cases c1 : v1 < 4
    · have c1' := c1
      simp only [lt32, Int32.reduceToInt] at c1'
      have hb : inb 4 v1 = true := inb_iff.mpr (by omega)
      have e1 : (v1 + 1).toInt = v1.toInt + 1 := own_add (by simp only [Int32.reduceToInt]; omega) (by simp only [Int32.reduceToInt]; omega)
      obtain ⟨m', rfl⟩ : ∃ m', m = m' + 1 := ⟨m - 1, by omega⟩
      have ih := own_pl S b4 m' n (v1 + 1) (by rw [e1]; omega) (by omega) (by rw [e1]; omega)
      rw [j_pending_l4, if_pos c1, b4, List.length_replicate, if_pos hb, rd_rep]
      simp only [j_pending_b29, if_true, ih]
      split <;> rfl
    · rw [j_pending_l4, if_neg c1]
set_option maxHeartbeats 10000000 in
theorem own_law (v0 v1 v2 v3 v4 v5 : Int32) : (law v0 v1 v2 v3 v4 v5).map (·.1) = some 1 := by
  have e0 : (if v0 < (1 : Int32) then (1 : Int32) else (if (4 : Int32) < v0 then (4 : Int32) else v0)) = j_clamp v0 1 4 := rfl
  obtain ⟨xs, q1, q2⟩ := own_init 2 v0 0
  simp only [law, q2, Option.bind_some, e0]
  have hn := own_cl (v := v0) (a := 1) (b := 4) (by decide)
  simp only [Int32.reduceToInt] at hn
  generalize j_clamp v0 1 4 = n at *
  generalize hS : (Q.mk xs Q0.f_val Q0.f_st Q0.f_locP Q0.f_locV Q0.f_lastSt Q0.f_lastVal Q0.f_logKind Q0.f_evKind Q0.f_evThread Q0.f_evVal Q0.f_snap Q0.f_opKind Q0.f_opArg Q0.f_opInv Q0.f_opRes Q0.f_opStatus Q0.f_opRVal Q0.f_predMask Q0.f_openOp Q0.f_qBuf Q0.f_qLen Q0.f_nextCand Q0.f_chosen n (ish 1 (j_clamp 2 1 3)) (ish 1 (j_clamp 2 1 3) - 1) (2147483584 + j_clamp 0 0 63) (2147483584 + j_clamp 0 0 63) 0 0) = S
  have b1 : S.f_nThreads = n := by rw [← hS]; simp only [own_f_seq, own_e_seq, own_z_seq, own_f_val, own_e_val, own_z_val, own_f_st, own_e_st, own_z_st, own_f_locP, own_e_locP, own_z_locP, own_f_locV, own_e_locV, own_z_locV, own_f_lastSt, own_e_lastSt, own_z_lastSt, own_f_lastVal, own_e_lastVal, own_z_lastVal, own_f_logKind, own_e_logKind, own_z_logKind, own_f_evKind, own_e_evKind, own_z_evKind, own_f_evThread, own_e_evThread, own_z_evThread, own_f_evVal, own_e_evVal, own_z_evVal, own_f_snap, own_e_snap, own_z_snap, own_f_opKind, own_e_opKind, own_z_opKind, own_f_opArg, own_e_opArg, own_z_opArg, own_f_opInv, own_e_opInv, own_z_opInv, own_f_opRes, own_e_opRes, own_z_opRes, own_f_opStatus, own_e_opStatus, own_z_opStatus, own_f_opRVal, own_e_opRVal, own_z_opRVal, own_f_predMask, own_e_predMask, own_z_predMask, own_f_openOp, own_e_openOp, own_z_openOp, own_f_qBuf, own_e_qBuf, own_z_qBuf, own_f_qLen, own_e_qLen, own_z_qLen, own_f_nextCand, own_e_nextCand, own_z_nextCand, own_f_chosen, own_e_chosen, own_z_chosen, own_f_nThreads, own_e_nThreads, own_z_nThreads, own_f_cap, own_e_cap, own_z_cap, own_f_mask, own_e_mask, own_z_mask, own_f_head, own_e_head, own_z_head, own_f_tail, own_e_tail, own_z_tail, own_f_histLen, own_e_histLen, own_z_histLen, own_f_snapLen, own_e_snapLen, own_z_snapLen]
  have b2 : S.f_lastSt = List.replicate 4 0 := by rw [← hS]; simp only [own_f_seq, own_e_seq, own_z_seq, own_f_val, own_e_val, own_z_val, own_f_st, own_e_st, own_z_st, own_f_locP, own_e_locP, own_z_locP, own_f_locV, own_e_locV, own_z_locV, own_f_lastSt, own_e_lastSt, own_z_lastSt, own_f_lastVal, own_e_lastVal, own_z_lastVal, own_f_logKind, own_e_logKind, own_z_logKind, own_f_evKind, own_e_evKind, own_z_evKind, own_f_evThread, own_e_evThread, own_z_evThread, own_f_evVal, own_e_evVal, own_z_evVal, own_f_snap, own_e_snap, own_z_snap, own_f_opKind, own_e_opKind, own_z_opKind, own_f_opArg, own_e_opArg, own_z_opArg, own_f_opInv, own_e_opInv, own_z_opInv, own_f_opRes, own_e_opRes, own_z_opRes, own_f_opStatus, own_e_opStatus, own_z_opStatus, own_f_opRVal, own_e_opRVal, own_z_opRVal, own_f_predMask, own_e_predMask, own_z_predMask, own_f_openOp, own_e_openOp, own_z_openOp, own_f_qBuf, own_e_qBuf, own_z_qBuf, own_f_qLen, own_e_qLen, own_z_qLen, own_f_nextCand, own_e_nextCand, own_z_nextCand, own_f_chosen, own_e_chosen, own_z_chosen, own_f_nThreads, own_e_nThreads, own_z_nThreads, own_f_cap, own_e_cap, own_z_cap, own_f_mask, own_e_mask, own_z_mask, own_f_head, own_e_head, own_z_head, own_f_tail, own_e_tail, own_z_tail, own_f_histLen, own_e_histLen, own_z_histLen, own_f_snapLen, own_e_snapLen, own_z_snapLen]
  have b3 : S.f_logKind = List.replicate 4 0 := by rw [← hS]; simp only [own_f_seq, own_e_seq, own_z_seq, own_f_val, own_e_val, own_z_val, own_f_st, own_e_st, own_z_st, own_f_locP, own_e_locP, own_z_locP, own_f_locV, own_e_locV, own_z_locV, own_f_lastSt, own_e_lastSt, own_z_lastSt, own_f_lastVal, own_e_lastVal, own_z_lastVal, own_f_logKind, own_e_logKind, own_z_logKind, own_f_evKind, own_e_evKind, own_z_evKind, own_f_evThread, own_e_evThread, own_z_evThread, own_f_evVal, own_e_evVal, own_z_evVal, own_f_snap, own_e_snap, own_z_snap, own_f_opKind, own_e_opKind, own_z_opKind, own_f_opArg, own_e_opArg, own_z_opArg, own_f_opInv, own_e_opInv, own_z_opInv, own_f_opRes, own_e_opRes, own_z_opRes, own_f_opStatus, own_e_opStatus, own_z_opStatus, own_f_opRVal, own_e_opRVal, own_z_opRVal, own_f_predMask, own_e_predMask, own_z_predMask, own_f_openOp, own_e_openOp, own_z_openOp, own_f_qBuf, own_e_qBuf, own_z_qBuf, own_f_qLen, own_e_qLen, own_z_qLen, own_f_nextCand, own_e_nextCand, own_z_nextCand, own_f_chosen, own_e_chosen, own_z_chosen, own_f_nThreads, own_e_nThreads, own_z_nThreads, own_f_cap, own_e_cap, own_z_cap, own_f_mask, own_e_mask, own_z_mask, own_f_head, own_e_head, own_z_head, own_f_tail, own_e_tail, own_z_tail, own_f_histLen, own_e_histLen, own_z_histLen, own_f_snapLen, own_e_snapLen, own_z_snapLen]
  have b4 : S.f_st = List.replicate 4 0 := by rw [← hS]; simp only [own_f_seq, own_e_seq, own_z_seq, own_f_val, own_e_val, own_z_val, own_f_st, own_e_st, own_z_st, own_f_locP, own_e_locP, own_z_locP, own_f_locV, own_e_locV, own_z_locV, own_f_lastSt, own_e_lastSt, own_z_lastSt, own_f_lastVal, own_e_lastVal, own_z_lastVal, own_f_logKind, own_e_logKind, own_z_logKind, own_f_evKind, own_e_evKind, own_z_evKind, own_f_evThread, own_e_evThread, own_z_evThread, own_f_evVal, own_e_evVal, own_z_evVal, own_f_snap, own_e_snap, own_z_snap, own_f_opKind, own_e_opKind, own_z_opKind, own_f_opArg, own_e_opArg, own_z_opArg, own_f_opInv, own_e_opInv, own_z_opInv, own_f_opRes, own_e_opRes, own_z_opRes, own_f_opStatus, own_e_opStatus, own_z_opStatus, own_f_opRVal, own_e_opRVal, own_z_opRVal, own_f_predMask, own_e_predMask, own_z_predMask, own_f_openOp, own_e_openOp, own_z_openOp, own_f_qBuf, own_e_qBuf, own_z_qBuf, own_f_qLen, own_e_qLen, own_z_qLen, own_f_nextCand, own_e_nextCand, own_z_nextCand, own_f_chosen, own_e_chosen, own_z_chosen, own_f_nThreads, own_e_nThreads, own_z_nThreads, own_f_cap, own_e_cap, own_z_cap, own_f_mask, own_e_mask, own_z_mask, own_f_head, own_e_head, own_z_head, own_f_tail, own_e_tail, own_z_tail, own_f_histLen, own_e_histLen, own_z_histLen, own_f_snapLen, own_e_snapLen, own_z_snapLen]
  have b5 : S.f_histLen = 0 := by rw [← hS]; simp only [own_f_seq, own_e_seq, own_z_seq, own_f_val, own_e_val, own_z_val, own_f_st, own_e_st, own_z_st, own_f_locP, own_e_locP, own_z_locP, own_f_locV, own_e_locV, own_z_locV, own_f_lastSt, own_e_lastSt, own_z_lastSt, own_f_lastVal, own_e_lastVal, own_z_lastVal, own_f_logKind, own_e_logKind, own_z_logKind, own_f_evKind, own_e_evKind, own_z_evKind, own_f_evThread, own_e_evThread, own_z_evThread, own_f_evVal, own_e_evVal, own_z_evVal, own_f_snap, own_e_snap, own_z_snap, own_f_opKind, own_e_opKind, own_z_opKind, own_f_opArg, own_e_opArg, own_z_opArg, own_f_opInv, own_e_opInv, own_z_opInv, own_f_opRes, own_e_opRes, own_z_opRes, own_f_opStatus, own_e_opStatus, own_z_opStatus, own_f_opRVal, own_e_opRVal, own_z_opRVal, own_f_predMask, own_e_predMask, own_z_predMask, own_f_openOp, own_e_openOp, own_z_openOp, own_f_qBuf, own_e_qBuf, own_z_qBuf, own_f_qLen, own_e_qLen, own_z_qLen, own_f_nextCand, own_e_nextCand, own_z_nextCand, own_f_chosen, own_e_chosen, own_z_chosen, own_f_nThreads, own_e_nThreads, own_z_nThreads, own_f_cap, own_e_cap, own_z_cap, own_f_mask, own_e_mask, own_z_mask, own_f_head, own_e_head, own_z_head, own_f_tail, own_e_tail, own_z_tail, own_f_histLen, own_e_histLen, own_z_histLen, own_f_snapLen, own_e_snapLen, own_z_snapLen]
  have b6 : S.f_evKind = List.replicate 64 0 := by rw [← hS]; simp only [own_f_seq, own_e_seq, own_z_seq, own_f_val, own_e_val, own_z_val, own_f_st, own_e_st, own_z_st, own_f_locP, own_e_locP, own_z_locP, own_f_locV, own_e_locV, own_z_locV, own_f_lastSt, own_e_lastSt, own_z_lastSt, own_f_lastVal, own_e_lastVal, own_z_lastVal, own_f_logKind, own_e_logKind, own_z_logKind, own_f_evKind, own_e_evKind, own_z_evKind, own_f_evThread, own_e_evThread, own_z_evThread, own_f_evVal, own_e_evVal, own_z_evVal, own_f_snap, own_e_snap, own_z_snap, own_f_opKind, own_e_opKind, own_z_opKind, own_f_opArg, own_e_opArg, own_z_opArg, own_f_opInv, own_e_opInv, own_z_opInv, own_f_opRes, own_e_opRes, own_z_opRes, own_f_opStatus, own_e_opStatus, own_z_opStatus, own_f_opRVal, own_e_opRVal, own_z_opRVal, own_f_predMask, own_e_predMask, own_z_predMask, own_f_openOp, own_e_openOp, own_z_openOp, own_f_qBuf, own_e_qBuf, own_z_qBuf, own_f_qLen, own_e_qLen, own_z_qLen, own_f_nextCand, own_e_nextCand, own_z_nextCand, own_f_chosen, own_e_chosen, own_z_chosen, own_f_nThreads, own_e_nThreads, own_z_nThreads, own_f_cap, own_e_cap, own_z_cap, own_f_mask, own_e_mask, own_z_mask, own_f_head, own_e_head, own_z_head, own_f_tail, own_e_tail, own_z_tail, own_f_histLen, own_e_histLen, own_z_histLen, own_f_snapLen, own_e_snapLen, own_z_snapLen]
  have b7 : S.f_evThread = List.replicate 64 0 := by rw [← hS]; simp only [own_f_seq, own_e_seq, own_z_seq, own_f_val, own_e_val, own_z_val, own_f_st, own_e_st, own_z_st, own_f_locP, own_e_locP, own_z_locP, own_f_locV, own_e_locV, own_z_locV, own_f_lastSt, own_e_lastSt, own_z_lastSt, own_f_lastVal, own_e_lastVal, own_z_lastVal, own_f_logKind, own_e_logKind, own_z_logKind, own_f_evKind, own_e_evKind, own_z_evKind, own_f_evThread, own_e_evThread, own_z_evThread, own_f_evVal, own_e_evVal, own_z_evVal, own_f_snap, own_e_snap, own_z_snap, own_f_opKind, own_e_opKind, own_z_opKind, own_f_opArg, own_e_opArg, own_z_opArg, own_f_opInv, own_e_opInv, own_z_opInv, own_f_opRes, own_e_opRes, own_z_opRes, own_f_opStatus, own_e_opStatus, own_z_opStatus, own_f_opRVal, own_e_opRVal, own_z_opRVal, own_f_predMask, own_e_predMask, own_z_predMask, own_f_openOp, own_e_openOp, own_z_openOp, own_f_qBuf, own_e_qBuf, own_z_qBuf, own_f_qLen, own_e_qLen, own_z_qLen, own_f_nextCand, own_e_nextCand, own_z_nextCand, own_f_chosen, own_e_chosen, own_z_chosen, own_f_nThreads, own_e_nThreads, own_z_nThreads, own_f_cap, own_e_cap, own_z_cap, own_f_mask, own_e_mask, own_z_mask, own_f_head, own_e_head, own_z_head, own_f_tail, own_e_tail, own_z_tail, own_f_histLen, own_e_histLen, own_z_histLen, own_f_snapLen, own_e_snapLen, own_z_snapLen]
  have b8 : S.f_evVal = List.replicate 64 0 := by rw [← hS]; simp only [own_f_seq, own_e_seq, own_z_seq, own_f_val, own_e_val, own_z_val, own_f_st, own_e_st, own_z_st, own_f_locP, own_e_locP, own_z_locP, own_f_locV, own_e_locV, own_z_locV, own_f_lastSt, own_e_lastSt, own_z_lastSt, own_f_lastVal, own_e_lastVal, own_z_lastVal, own_f_logKind, own_e_logKind, own_z_logKind, own_f_evKind, own_e_evKind, own_z_evKind, own_f_evThread, own_e_evThread, own_z_evThread, own_f_evVal, own_e_evVal, own_z_evVal, own_f_snap, own_e_snap, own_z_snap, own_f_opKind, own_e_opKind, own_z_opKind, own_f_opArg, own_e_opArg, own_z_opArg, own_f_opInv, own_e_opInv, own_z_opInv, own_f_opRes, own_e_opRes, own_z_opRes, own_f_opStatus, own_e_opStatus, own_z_opStatus, own_f_opRVal, own_e_opRVal, own_z_opRVal, own_f_predMask, own_e_predMask, own_z_predMask, own_f_openOp, own_e_openOp, own_z_openOp, own_f_qBuf, own_e_qBuf, own_z_qBuf, own_f_qLen, own_e_qLen, own_z_qLen, own_f_nextCand, own_e_nextCand, own_z_nextCand, own_f_chosen, own_e_chosen, own_z_chosen, own_f_nThreads, own_e_nThreads, own_z_nThreads, own_f_cap, own_e_cap, own_z_cap, own_f_mask, own_e_mask, own_z_mask, own_f_head, own_e_head, own_z_head, own_f_tail, own_e_tail, own_z_tail, own_f_histLen, own_e_histLen, own_z_histLen, own_f_snapLen, own_e_snapLen, own_z_snapLen]
  have hp : j_pending S = some 0 := by
    rw [j_pending, own_pl S b4 4 3000 0 (by decide) (by decide) (by decide), Option.bind_some]
  clear hS q2
  have i0 : inb 64 0 = true := by decide
  have i1 : inb 64 1 = true := by decide
  have hr : j_hasRoom S = some 1 := by rw [j_hasRoom, hp, Option.bind_some, b5, if_neg (by decide)]
  by_cases h1 : v1 < 0
  · by_cases k1 : v2 = 1 <;> by_cases k2 : v2 = 2 <;> by_cases k3 : v4 = 1 <;> by_cases k4 : v4 = 2 <;> by_cases k5 : v4 = 3 <;> simp [law_b31, law_b48, law_b60, law_b82, law_b126, law_b143, law_b243, law_b255, law_b265, law_b292, law_b309, law_b327, law_b351, law_b377, law_b389, j_logInvoke, j_logResponse, j_historyEvent, j_historyValue, j_historyLength, j_state, j_lastStatus, j_valid, h1, k1, k2, k3, k4, k5, b5]
  · by_cases h2 : v1 < n
    · have h2' : ¬ n ≤ v1 := Int32.not_le.mpr h2
      have hb : inb 4 v1 = true := inb_iff.mpr (by simp only [lt32, Int32.reduceToInt] at h1 h2; omega)
      by_cases k1 : v2 = 1 <;> by_cases k2 : v2 = 2 <;> by_cases k3 : v4 = 1 <;> by_cases k4 : v4 = 2 <;> by_cases k5 : v4 = 3 <;> simp [law_b31, law_b48, law_b60, law_b82, law_b126, law_b143, law_b243, law_b255, law_b265, law_b292, law_b309, law_b327, law_b351, law_b377, law_b389, j_logInvoke, j_logInvoke_b20, j_logInvoke_b60, j_append, j_logResponse, j_logResponse_b60, j_logResponse_b85, j_resKind, j_historyEvent, j_historyValue, j_historyLength, j_state, j_lastStatus, j_valid, h1, h2, h2', k1, k2, k3, k4, k5, b1, b2, b3, b4, b5, b6, b7, b8, hr, hb, i0, i1, own_f_seq, own_e_seq, own_z_seq, own_f_val, own_e_val, own_z_val, own_f_st, own_e_st, own_z_st, own_f_locP, own_e_locP, own_z_locP, own_f_locV, own_e_locV, own_z_locV, own_f_lastSt, own_e_lastSt, own_z_lastSt, own_f_lastVal, own_e_lastVal, own_z_lastVal, own_f_logKind, own_e_logKind, own_z_logKind, own_f_evKind, own_e_evKind, own_z_evKind, own_f_evThread, own_e_evThread, own_z_evThread, own_f_evVal, own_e_evVal, own_z_evVal, own_f_snap, own_e_snap, own_z_snap, own_f_opKind, own_e_opKind, own_z_opKind, own_f_opArg, own_e_opArg, own_z_opArg, own_f_opInv, own_e_opInv, own_z_opInv, own_f_opRes, own_e_opRes, own_z_opRes, own_f_opStatus, own_e_opStatus, own_z_opStatus, own_f_opRVal, own_e_opRVal, own_z_opRVal, own_f_predMask, own_e_predMask, own_z_predMask, own_f_openOp, own_e_openOp, own_z_openOp, own_f_qBuf, own_e_qBuf, own_z_qBuf, own_f_qLen, own_e_qLen, own_z_qLen, own_f_nextCand, own_e_nextCand, own_z_nextCand, own_f_chosen, own_e_chosen, own_z_chosen, own_f_nThreads, own_e_nThreads, own_z_nThreads, own_f_cap, own_e_cap, own_z_cap, own_f_mask, own_e_mask, own_z_mask, own_f_head, own_e_head, own_z_head, own_f_tail, own_e_tail, own_z_tail, own_f_histLen, own_e_histLen, own_z_histLen, own_f_snapLen, own_e_snapLen, own_z_snapLen, rd_rep, len_wr, rd_wr_same, rd_wr_ne, -List.reduceReplicate] <;> simp_all
    · have h2' : n ≤ v1 := Int32.not_lt.mp h2
      by_cases k1 : v2 = 1 <;> by_cases k2 : v2 = 2 <;> by_cases k3 : v4 = 1 <;> by_cases k4 : v4 = 2 <;> by_cases k5 : v4 = 3 <;> simp [law_b31, law_b48, law_b60, law_b82, law_b126, law_b143, law_b243, law_b255, law_b265, law_b292, law_b309, law_b327, law_b351, law_b377, law_b389, j_logInvoke, j_logResponse, j_historyEvent, j_historyValue, j_historyLength, j_state, j_lastStatus, j_valid, h1, h2, h2', k1, k2, k3, k4, k5, b1, b5]

set_option maxRecDepth 65536 in
set_option maxHeartbeats 4000000 in
theorem comes_1 {Post : Tables → Env → Array Value → State → Outcome → State → Prop} (hpost : ∀ tb e args s v u, (limb_1_1.after args s (.returned v) u = true ∧ limb_1_2.after args s (.returned v) u = true ∧ True) → FrameEnd s (.returned v) u (Jvm.fieldLocs frame_1_writes args s ++ Jvm.arrayLocs frame_1_arrays args s ++ Jvm.staticLocs frame_1_statics s) 64 896 → Post tb e args s (.returned v) u) :
    ArmFor flags0 classFile x code maxLocals ret World_1 tables_1 room_1 Calls_1 rest_1 Pre_1 Post := by
  intro l hfl _ _ p e ha hc hk s m args below hf hA hF happ hP
  obtain ⟨hcalls, hrest, hpre⟩ := hP
  obtain ⟨-, -, -, hnamed, -, -, -, hat⟩ := (Spec.applies_iff hf).mp happ
  obtain ⟨hg, hn⟩ := and_e (Cond.before_iff.mp (show (Jvm.Cond.and given_1 narrow_1).before args s = true from hpre))
  obtain ⟨hcnt, h0⟩ := and_e hg
  obtain ⟨w0, w1, w2, w3, w4, w5, rfl⟩ : ∃ w0 w1 w2 w3 w4 w5 : Value, args = #[w0, w1, w2, w3, w4, w5] := by
    have hs : args.size = 6 := by simpa [Cond.value, given_1] using hcnt
    obtain ⟨L⟩ := args
    match L, hs with
    | [w0, w1, w2, w3, w4, w5], _ => exact ⟨w0, w1, w2, w3, w4, w5, rfl⟩
  have hw := fun d (hd : d ∈ tables_1) => atoms_spec (ws := Jvm.Cond.code x code maxLocals ret :: tables_1) hat d (List.mem_cons_of_mem _ hd)
  obtain ⟨q0, h1⟩ := and_e h0
  obtain ⟨i0, e0⟩ := is_v q0
  obtain rfl : w0 = .int i0 := Option.some.inj e0
  obtain ⟨q1, h2⟩ := and_e h1
  obtain ⟨i1, e1⟩ := is_v q1
  obtain rfl : w1 = .int i1 := Option.some.inj e1
  obtain ⟨q2, h3⟩ := and_e h2
  obtain ⟨i2, e2⟩ := is_v q2
  obtain rfl : w2 = .int i2 := Option.some.inj e2
  obtain ⟨q3, h4⟩ := and_e h3
  obtain ⟨i3, e3⟩ := is_v q3
  obtain rfl : w3 = .int i3 := Option.some.inj e3
  obtain ⟨q4, h5⟩ := and_e h4
  obtain ⟨i4, e4⟩ := is_v q4
  obtain rfl : w4 = .int i4 := Option.some.inj e4
  obtain ⟨i5, e5⟩ := is_v h5
  obtain rfl : w5 = .int i5 := Option.some.inj e5
  have hL := own_law i0 i1 i2 i3 i4 i5
  obtain ⟨res, hres, hr1⟩ := Option.map_eq_some_iff.mp hL
  obtain ⟨n, hrun⟩ := ev_law i0 i1 i2 i3 i4 i5 hres rfl
  have hr1' : res.1 = 1 := hr1
  rw [hr1'] at hrun
  have hcap := run_cap hrun
  have hcC : own_P.capC = 64 := rfl
  have hcS : own_P.capS = 896 := rfl
  rw [hcC, hcS] at hcap
  have hc1 : (W0 []).length = 0 := rfl
  have hc2 : hsz own_P (W0 []) = 0 := rfl
  have hM := metOf (sound (own_good hw) n) (k := 0) (as := [.int i0, .int i1, .int i2, .int i3, .int i4, .int i5]) (H := (W0 [])) hrun (l := l) (wsC := tables_1) (rm := room_1) own_pn0 rfl (fun h => nomatch h) (by decide) (by decide) (by show _ ≤ 64; omega) (by show _ ≤ 896; omega) (am := []) (ws := [.int i0, .int i1, .int i2, .int i3, .int i4, .int i5]) (h := s.heap) (n0 := s.heap.size) ⟨_, _, rfl, rfl, _, _, rfl, rfl, _, _, rfl, rfl, _, _, rfl, rfl, _, _, rfl, rfl, _, _, rfl, rfl, rfl⟩ (Nat.le_of_ble_eq_true rfl) (HR.none _ _ _ _ _) (Nat.le_refl _)
  obtain ⟨n, o, h1, h2, h3, w, L, rfl, ⟨N, -, am', -, -, hv⟩, hq⟩ := hM p e ha hc hk s m _ below hf ((Spec.applies_iff_loose hf).mp happ).1 ⟨rfl, State.Warmed39.refl s, rfl⟩ trivial
  obtain ⟨y, rfl, rfl⟩ := hv
  exact ⟨n, _, h1, h2, h3, hpost _ _ _ _ _ _ ⟨Cond.after_iff.mpr rfl, Cond.after_iff.mpr (eq_i res_at (Term.int_eval (1)) rfl), trivial⟩ ⟨hq.1, hq.2.1, (hq.2.2.sift fun y hy => Or.inr (N y hy)).mono (by omega) (by omega)⟩⟩
theorem main_1_1 : Claimed_1_1 := comes_1 fun _ _ _ _ _ _ h hF => ⟨h.1, hF⟩
theorem main_1_2 : Claimed_1_2 := comes_1 fun _ _ _ _ _ _ h hF => ⟨h.2.1, hF⟩
end Jvm.Pilot.@@N@@
namespace Jvm.Pilot.@@N@@
open Jvm Jvm.ClassFile Sem Op Lib Jvm.Free Jvm.Stand Jvm.Pilot.@@N@@.Jvm.D
/-! MADE BY PROGRAM (witnessworld.py) out of the Statement's table words and the real class files: 9 classes; the members and pool entries that the words name. The judged class is class 1, her method 1. -/
namespace start1
open Jvm.ClassFile
def u (s : String) : CpInfo := .utf8 (stringToUtf16 s)
/-- a pool by its gaps: so many unusable entries, then the entry; so many at the end -/
def gap : Nat → List CpInfo → List CpInfo
  | 0, r => r
  | n + 1, r => .unusable :: gap n r
def poolList (es : List (Nat × CpInfo)) (last : Nat) : List CpInfo := es.foldr (fun e r => gap e.1 (e.2 :: r)) (gap last [])
def pool (es : List (Nat × CpInfo)) (last : Nat) : Array CpInfo := ⟨poolList es last⟩
def fileOf (pool : Array CpInfo) (this : Nat) (attrs : Array Attribute := #[]) (ms : Array MethodInfo := #[]) (fl : Nat := 33) (sup : Nat := 0) (ifs : Array Nat := #[]) (fds : Array FieldInfo := #[]) : ClassFile where
  minorVersion := 0
  majorVersion := 65
  constantPool := pool
  accessFlags := fl
  thisClass := this
  superClass := sup
  interfaces := ifs
  fields := fds
  methods := ms
  attributes := attrs
def plain (name : String) (sup : Option ClassId) : Class where
  name := name
  kind := .ordinary
  loader := none
  accessFlags := 33
  super := sup
  interfaces := #[]
  cf := none
  fields := #[]
  methods := #[]
  instanceTypes := #[]
  staticTypes := #[]
  resolved := #[]
  callSites := []
  init := .initialized
  statics := none
  mirror := none

def pool0 : Array CpInfo := pool [(5, u "<init>"), (0, u "()V"), (1, .class_ 10), (1, u "java/lang/Object")] 113

def k0c0 : Code := { maxStack := 0, maxLocals := 1, code := object_method_1_code, exceptionTable := #[], attributes := #[] }
def k0m0 : Method := { name := "<init>", desc := "()V", sig := { parameters := [], returnType := none }, accessFlags := 1, code := some k0c0 }
/-- java/lang/Object -/
def k0 : Class := { plain "java/lang/Object" none with
  accessFlags := 33
  interfaces := #[]
  cf := some (fileOf pool0 8 #[] #[{ accessFlags := 1, nameIndex := 5, descriptorIndex := 6, attributes := #[] }] 33 0 #[] #[])
  fields := #[]
  methods := #[k0m0]
  instanceTypes := #[]
  staticTypes := #[]
  resolved := Array.replicate 124 none
  statics := none }

def pool1 : Array CpInfo := pool [(2, .class_ 4), (1, u "java/lang/Object"), (0, u "<init>"), (0, u "()V"), (0, .class_ 8), (0, u "SeqRingQueue"), (0, .methodref 7 10), (0, .nameAndType 5 11), (0, u "(III)V"), (0, .methodref 7 13), (0, .nameAndType 14 15), (0, u "logInvoke"), (0, u "(III)Z"), (0, .methodref 7 17), (0, .nameAndType 18 15), (0, u "logResponse"), (0, .methodref 7 20), (0, .nameAndType 21 22), (0, u "historyLength"), (0, u "()I"), (0, .methodref 7 24), (0, .nameAndType 25 26), (0, u "historyEvent"), (0, u "(I)I"), (0, .methodref 7 28), (0, .nameAndType 29 26), (0, u "historyValue"), (0, .methodref 7 31), (0, .nameAndType 32 26), (0, u "state"), (0, .methodref 7 34), (0, .nameAndType 35 26), (0, u "lastStatus"), (0, .class_ 37), (0, u "SeqRingQueueL2"), (2, u "law"), (0, u "(IIIIII)Z")] 3

def k1m0 : Method := { name := "<init>", desc := "()V", sig := { parameters := [], returnType := none }, accessFlags := 1, code := none }
def k1c1 : Code := { maxStack := 5, maxLocals := 30, code := code, exceptionTable := #[], attributes := #[] }
def k1m1 : Method := { name := "law", desc := "(IIIIII)Z", sig := { parameters := [.int, .int, .int, .int, .int, .int], returnType := some .boolean }, accessFlags := 9, code := some k1c1 }
/-- SeqRingQueueL2 -/
def k1 : Class := { plain "SeqRingQueueL2" (some 0) with
  accessFlags := 49
  interfaces := #[]
  cf := some (fileOf pool1 36 #[] #[{ accessFlags := 1, nameIndex := 5, descriptorIndex := 6, attributes := #[] }, { accessFlags := 9, nameIndex := 40, descriptorIndex := 41, attributes := #[] }] 49 2 #[] #[])
  fields := #[]
  methods := #[k1m0, k1m1]
  instanceTypes := #[]
  staticTypes := #[]
  resolved := Array.replicate 45 none
  statics := none }

def pool2 : Array CpInfo := pool [(1, .methodref 2 3), (0, .class_ 4), (0, .nameAndType 5 6), (0, u "java/lang/Object"), (0, u "<init>"), (0, u "()V"), (0, .fieldref 8 9), (0, .class_ 10), (0, .nameAndType 11 12), (0, u "SeqRingQueue"), (0, u "seq"), (0, u "[I"), (0, .fieldref 8 14), (0, .nameAndType 15 12), (0, u "val"), (0, .fieldref 8 17), (0, .nameAndType 18 12), (0, u "st"), (0, .fieldref 8 20), (0, .nameAndType 21 12), (0, u "locP"), (0, .fieldref 8 23), (0, .nameAndType 24 12), (0, u "locV"), (0, .fieldref 8 26), (0, .nameAndType 27 12), (0, u "lastSt"), (0, .fieldref 8 29), (0, .nameAndType 30 12), (0, u "lastVal"), (0, .fieldref 8 32), (0, .nameAndType 33 12), (0, u "logKind"), (0, .fieldref 8 35), (0, .nameAndType 36 12), (0, u "evKind"), (0, .fieldref 8 38), (0, .nameAndType 39 12), (0, u "evThread"), (0, .fieldref 8 41), (0, .nameAndType 42 12), (0, u "evVal"), (0, .fieldref 8 44), (0, .nameAndType 45 12), (0, u "snap"), (0, .fieldref 8 47), (0, .nameAndType 48 12), (0, u "opKind"), (0, .fieldref 8 50), (0, .nameAndType 51 12), (0, u "opArg"), (0, .fieldref 8 53), (0, .nameAndType 54 12), (0, u "opInv"), (0, .fieldref 8 56), (0, .nameAndType 57 12), (0, u "opRes"), (0, .fieldref 8 59), (0, .nameAndType 60 12), (0, u "opStatus"), (0, .fieldref 8 62), (0, .nameAndType 63 12), (0, u "opRVal"), (0, .fieldref 8 65), (0, .nameAndType 66 12), (0, u "predMask"), (0, .fieldref 8 68), (0, .nameAndType 69 12), (0, u "openOp"), (0, .fieldref 8 71), (0, .nameAndType 72 12), (0, u "qBuf"), (0, .fieldref 8 74), (0, .nameAndType 75 12), (0, u "qLen"), (0, .fieldref 8 77), (0, .nameAndType 78 12), (0, u "nextCand"), (0, .fieldref 8 80), (0, .nameAndType 81 12), (0, u "chosen"), (0, .methodref 8 83), (0, .nameAndType 84 85), (0, u "clamp"), (0, u "(III)I"), (0, .fieldref 8 87), (0, .nameAndType 88 89), (0, u "nThreads"), (0, u "I"), (0, .fieldref 8 91), (0, .nameAndType 92 89), (0, u "cap"), (0, .fieldref 8 94), (0, .nameAndType 95 89), (0, u "mask"), (0, .integer 2147483584), (0, .fieldref 8 98), (0, .nameAndType 99 89), (0, u "head"), (0, .fieldref 8 101), (0, .nameAndType 102 89), (0, u "tail"), (0, .fieldref 8 104), (0, .nameAndType 105 89), (0, u "histLen"), (0, .fieldref 8 107), (0, .nameAndType 108 89), (0, u "snapLen"), (0, .methodref 8 110), (0, .nameAndType 111 112), (0, u "pending"), (0, u "()I"), (0, .methodref 8 114), (0, .nameAndType 115 116), (0, u "valid"), (0, u "(I)Z"), (0, .methodref 8 118), (0, .nameAndType 119 120), (0, u "hasRoom"), (0, u "()Z"), (0, .methodref 8 122), (0, .nameAndType 123 124), (0, u "append"), (0, u "(III)V"), (13, .methodref 8 139), (0, .nameAndType 140 141), (0, u "resKind"), (0, u "(I)I"), (17, u "opCount"), (9, u "completeMask"), (13, u "REFUSED"), (2, u "IDLE"), (1, u "RUNNING"), (1, u "FINISHED"), (1, u "ENQ"), (0, u "DEQ"), (0, u "NONE"), (0, u "OK"), (0, u "FULL"), (0, u "EMPTY"), (1, u "ST_IDLE"), (0, u "ST_LOGGED"), (0, u "E_LOAD_TAIL"), (1, u "E_LOAD_SEQ"), (1, u "E_CAS"), (1, u "E_LOAD_HEAD"), (1, u "E_STORE_VAL"), (1, u "E_PUBLISH"), (1, u "D_LOAD_HEAD"), (1, u "D_LOAD_SEQ"), (1, u "D_CAS"), (1, u "D_LOAD_TAIL"), (1, u "D_LOAD_VAL"), (1, u "D_RELEASE"), (1, u "EV_INV_ENQ"), (0, u "EV_INV_DEQ"), (0, u "EV_RES_OK"), (0, u "EV_RES_FULL"), (1, u "EV_RES_EMPTY"), (1, u "HISTORY_CAP"), (1, u "CHECK_LIMIT"), (1, u "YES"), (0, u "NO"), (0, u "TOO_LONG"), (9, u "state"), (0, u "lastStatus"), (2, u "logInvoke"), (0, u "(III)Z"), (0, u "logResponse"), (1, u "historyLength"), (0, u "historyEvent"), (0, u "historyValue")] 3

def k2c0 : Code := { maxStack := 5, maxLocals := 8, code := prog_1_method_1_code, exceptionTable := #[], attributes := #[] }
def k2m0 : Method := { name := "<init>", desc := "(III)V", sig := { parameters := [.int, .int, .int], returnType := none }, accessFlags := 1, code := some k2c0 }
def k2c1 : Code := { maxStack := 2, maxLocals := 4, code := prog_1_method_2_code, exceptionTable := #[], attributes := #[] }
def k2m1 : Method := { name := "clamp", desc := "(III)I", sig := { parameters := [.int, .int, .int], returnType := some .int }, accessFlags := 2, code := some k2c1 }
def k2c2 : Code := { maxStack := 2, maxLocals := 2, code := prog_1_method_3_code, exceptionTable := #[], attributes := #[] }
def k2m2 : Method := { name := "valid", desc := "(I)Z", sig := { parameters := [.int], returnType := some .boolean }, accessFlags := 2, code := some k2c2 }
def k2c3 : Code := { maxStack := 2, maxLocals := 3, code := prog_1_method_4_code, exceptionTable := #[], attributes := #[] }
def k2m3 : Method := { name := "pending", desc := "()I", sig := { parameters := [], returnType := some .int }, accessFlags := 2, code := some k2c3 }
def k2c4 : Code := { maxStack := 2, maxLocals := 2, code := prog_1_method_5_code, exceptionTable := #[], attributes := #[] }
def k2m4 : Method := { name := "hasRoom", desc := "()Z", sig := { parameters := [], returnType := some .boolean }, accessFlags := 2, code := some k2c4 }
def k2c5 : Code := { maxStack := 3, maxLocals := 4, code := prog_1_method_6_code, exceptionTable := #[], attributes := #[] }
def k2m5 : Method := { name := "append", desc := "(III)V", sig := { parameters := [.int, .int, .int], returnType := none }, accessFlags := 2, code := some k2c5 }
def k2c6 : Code := { maxStack := 2, maxLocals := 2, code := prog_1_method_7_code, exceptionTable := #[], attributes := #[] }
def k2m6 : Method := { name := "resKind", desc := "(I)I", sig := { parameters := [.int], returnType := some .int }, accessFlags := 2, code := some k2c6 }
def k2c7 : Code := { maxStack := 2, maxLocals := 2, code := prog_1_method_16_code, exceptionTable := #[], attributes := #[] }
def k2m7 : Method := { name := "state", desc := "(I)I", sig := { parameters := [.int], returnType := some .int }, accessFlags := 1, code := some k2c7 }
def k2c8 : Code := { maxStack := 2, maxLocals := 2, code := prog_1_method_17_code, exceptionTable := #[], attributes := #[] }
def k2m8 : Method := { name := "lastStatus", desc := "(I)I", sig := { parameters := [.int], returnType := some .int }, accessFlags := 1, code := some k2c8 }
def k2c9 : Code := { maxStack := 4, maxLocals := 4, code := prog_1_method_21_code, exceptionTable := #[], attributes := #[] }
def k2m9 : Method := { name := "logInvoke", desc := "(III)Z", sig := { parameters := [.int, .int, .int], returnType := some .boolean }, accessFlags := 1, code := some k2c9 }
def k2c10 : Code := { maxStack := 4, maxLocals := 8, code := prog_1_method_22_code, exceptionTable := #[], attributes := #[] }
def k2m10 : Method := { name := "logResponse", desc := "(III)Z", sig := { parameters := [.int, .int, .int], returnType := some .boolean }, accessFlags := 1, code := some k2c10 }
def k2c11 : Code := { maxStack := 1, maxLocals := 1, code := prog_1_method_24_code, exceptionTable := #[], attributes := #[] }
def k2m11 : Method := { name := "historyLength", desc := "()I", sig := { parameters := [], returnType := some .int }, accessFlags := 1, code := some k2c11 }
def k2c12 : Code := { maxStack := 3, maxLocals := 2, code := prog_1_method_25_code, exceptionTable := #[], attributes := #[] }
def k2m12 : Method := { name := "historyEvent", desc := "(I)I", sig := { parameters := [.int], returnType := some .int }, accessFlags := 1, code := some k2c12 }
def k2c13 : Code := { maxStack := 2, maxLocals := 2, code := prog_1_method_26_code, exceptionTable := #[], attributes := #[] }
def k2m13 : Method := { name := "historyValue", desc := "(I)I", sig := { parameters := [.int], returnType := some .int }, accessFlags := 1, code := some k2c13 }
/-- SeqRingQueue -/
def k2 : Class := { plain "SeqRingQueue" (some 0) with
  accessFlags := 49
  interfaces := #[]
  cf := some (fileOf pool2 8 #[] #[{ accessFlags := 1, nameIndex := 5, descriptorIndex := 124, attributes := #[] }, { accessFlags := 2, nameIndex := 84, descriptorIndex := 85, attributes := #[] }, { accessFlags := 2, nameIndex := 115, descriptorIndex := 116, attributes := #[] }, { accessFlags := 2, nameIndex := 111, descriptorIndex := 112, attributes := #[] }, { accessFlags := 2, nameIndex := 119, descriptorIndex := 120, attributes := #[] }, { accessFlags := 2, nameIndex := 123, descriptorIndex := 124, attributes := #[] }, { accessFlags := 2, nameIndex := 140, descriptorIndex := 141, attributes := #[] }, { accessFlags := 1, nameIndex := 248, descriptorIndex := 141, attributes := #[] }, { accessFlags := 1, nameIndex := 249, descriptorIndex := 141, attributes := #[] }, { accessFlags := 1, nameIndex := 252, descriptorIndex := 253, attributes := #[] }, { accessFlags := 1, nameIndex := 254, descriptorIndex := 253, attributes := #[] }, { accessFlags := 1, nameIndex := 256, descriptorIndex := 112, attributes := #[] }, { accessFlags := 1, nameIndex := 257, descriptorIndex := 141, attributes := #[] }, { accessFlags := 1, nameIndex := 258, descriptorIndex := 141, attributes := #[] }] 49 2 #[] #[{ accessFlags := 25, nameIndex := 183, descriptorIndex := 89, attributes := #[] }, { accessFlags := 25, nameIndex := 186, descriptorIndex := 89, attributes := #[] }, { accessFlags := 25, nameIndex := 188, descriptorIndex := 89, attributes := #[] }, { accessFlags := 25, nameIndex := 190, descriptorIndex := 89, attributes := #[] }, { accessFlags := 25, nameIndex := 192, descriptorIndex := 89, attributes := #[] }, { accessFlags := 25, nameIndex := 193, descriptorIndex := 89, attributes := #[] }, { accessFlags := 25, nameIndex := 194, descriptorIndex := 89, attributes := #[] }, { accessFlags := 25, nameIndex := 195, descriptorIndex := 89, attributes := #[] }, { accessFlags := 25, nameIndex := 196, descriptorIndex := 89, attributes := #[] }, { accessFlags := 25, nameIndex := 197, descriptorIndex := 89, attributes := #[] }, { accessFlags := 25, nameIndex := 199, descriptorIndex := 89, attributes := #[] }, { accessFlags := 25, nameIndex := 200, descriptorIndex := 89, attributes := #[] }, { accessFlags := 25, nameIndex := 201, descriptorIndex := 89, attributes := #[] }, { accessFlags := 25, nameIndex := 203, descriptorIndex := 89, attributes := #[] }, { accessFlags := 25, nameIndex := 205, descriptorIndex := 89, attributes := #[] }, { accessFlags := 25, nameIndex := 207, descriptorIndex := 89, attributes := #[] }, { accessFlags := 25, nameIndex := 209, descriptorIndex := 89, attributes := #[] }, { accessFlags := 25, nameIndex := 211, descriptorIndex := 89, attributes := #[] }, { accessFlags := 25, nameIndex := 213, descriptorIndex := 89, attributes := #[] }, { accessFlags := 25, nameIndex := 215, descriptorIndex := 89, attributes := #[] }, { accessFlags := 25, nameIndex := 217, descriptorIndex := 89, attributes := #[] }, { accessFlags := 25, nameIndex := 219, descriptorIndex := 89, attributes := #[] }, { accessFlags := 25, nameIndex := 221, descriptorIndex := 89, attributes := #[] }, { accessFlags := 25, nameIndex := 223, descriptorIndex := 89, attributes := #[] }, { accessFlags := 25, nameIndex := 225, descriptorIndex := 89, attributes := #[] }, { accessFlags := 25, nameIndex := 226, descriptorIndex := 89, attributes := #[] }, { accessFlags := 25, nameIndex := 227, descriptorIndex := 89, attributes := #[] }, { accessFlags := 25, nameIndex := 228, descriptorIndex := 89, attributes := #[] }, { accessFlags := 25, nameIndex := 230, descriptorIndex := 89, attributes := #[] }, { accessFlags := 25, nameIndex := 232, descriptorIndex := 89, attributes := #[] }, { accessFlags := 25, nameIndex := 234, descriptorIndex := 89, attributes := #[] }, { accessFlags := 25, nameIndex := 236, descriptorIndex := 89, attributes := #[] }, { accessFlags := 25, nameIndex := 237, descriptorIndex := 89, attributes := #[] }, { accessFlags := 25, nameIndex := 238, descriptorIndex := 89, attributes := #[] }, { accessFlags := 2, nameIndex := 92, descriptorIndex := 89, attributes := #[] }, { accessFlags := 2, nameIndex := 95, descriptorIndex := 89, attributes := #[] }, { accessFlags := 2, nameIndex := 88, descriptorIndex := 89, attributes := #[] }, { accessFlags := 2, nameIndex := 99, descriptorIndex := 89, attributes := #[] }, { accessFlags := 2, nameIndex := 102, descriptorIndex := 89, attributes := #[] }, { accessFlags := 2, nameIndex := 11, descriptorIndex := 12, attributes := #[] }, { accessFlags := 2, nameIndex := 15, descriptorIndex := 12, attributes := #[] }, { accessFlags := 2, nameIndex := 18, descriptorIndex := 12, attributes := #[] }, { accessFlags := 2, nameIndex := 21, descriptorIndex := 12, attributes := #[] }, { accessFlags := 2, nameIndex := 24, descriptorIndex := 12, attributes := #[] }, { accessFlags := 2, nameIndex := 27, descriptorIndex := 12, attributes := #[] }, { accessFlags := 2, nameIndex := 30, descriptorIndex := 12, attributes := #[] }, { accessFlags := 2, nameIndex := 33, descriptorIndex := 12, attributes := #[] }, { accessFlags := 2, nameIndex := 36, descriptorIndex := 12, attributes := #[] }, { accessFlags := 2, nameIndex := 39, descriptorIndex := 12, attributes := #[] }, { accessFlags := 2, nameIndex := 42, descriptorIndex := 12, attributes := #[] }, { accessFlags := 2, nameIndex := 105, descriptorIndex := 89, attributes := #[] }, { accessFlags := 2, nameIndex := 45, descriptorIndex := 12, attributes := #[] }, { accessFlags := 2, nameIndex := 108, descriptorIndex := 89, attributes := #[] }, { accessFlags := 2, nameIndex := 48, descriptorIndex := 12, attributes := #[] }, { accessFlags := 2, nameIndex := 51, descriptorIndex := 12, attributes := #[] }, { accessFlags := 2, nameIndex := 54, descriptorIndex := 12, attributes := #[] }, { accessFlags := 2, nameIndex := 57, descriptorIndex := 12, attributes := #[] }, { accessFlags := 2, nameIndex := 60, descriptorIndex := 12, attributes := #[] }, { accessFlags := 2, nameIndex := 63, descriptorIndex := 12, attributes := #[] }, { accessFlags := 2, nameIndex := 66, descriptorIndex := 12, attributes := #[] }, { accessFlags := 2, nameIndex := 69, descriptorIndex := 12, attributes := #[] }, { accessFlags := 2, nameIndex := 72, descriptorIndex := 12, attributes := #[] }, { accessFlags := 2, nameIndex := 75, descriptorIndex := 12, attributes := #[] }, { accessFlags := 2, nameIndex := 78, descriptorIndex := 12, attributes := #[] }, { accessFlags := 2, nameIndex := 81, descriptorIndex := 12, attributes := #[] }, { accessFlags := 2, nameIndex := 159, descriptorIndex := 89, attributes := #[] }, { accessFlags := 2, nameIndex := 169, descriptorIndex := 89, attributes := #[] }])
  fields := #[{ name := "REFUSED", type := .int, accessFlags := 25, slot := 0, constantValue := 0 }, { name := "IDLE", type := .int, accessFlags := 25, slot := 1, constantValue := 0 }, { name := "RUNNING", type := .int, accessFlags := 25, slot := 2, constantValue := 0 }, { name := "FINISHED", type := .int, accessFlags := 25, slot := 3, constantValue := 0 }, { name := "ENQ", type := .int, accessFlags := 25, slot := 4, constantValue := 0 }, { name := "DEQ", type := .int, accessFlags := 25, slot := 5, constantValue := 0 }, { name := "NONE", type := .int, accessFlags := 25, slot := 6, constantValue := 0 }, { name := "OK", type := .int, accessFlags := 25, slot := 7, constantValue := 0 }, { name := "FULL", type := .int, accessFlags := 25, slot := 8, constantValue := 0 }, { name := "EMPTY", type := .int, accessFlags := 25, slot := 9, constantValue := 0 }, { name := "ST_IDLE", type := .int, accessFlags := 25, slot := 10, constantValue := 0 }, { name := "ST_LOGGED", type := .int, accessFlags := 25, slot := 11, constantValue := 0 }, { name := "E_LOAD_TAIL", type := .int, accessFlags := 25, slot := 12, constantValue := 0 }, { name := "E_LOAD_SEQ", type := .int, accessFlags := 25, slot := 13, constantValue := 0 }, { name := "E_CAS", type := .int, accessFlags := 25, slot := 14, constantValue := 0 }, { name := "E_LOAD_HEAD", type := .int, accessFlags := 25, slot := 15, constantValue := 0 }, { name := "E_STORE_VAL", type := .int, accessFlags := 25, slot := 16, constantValue := 0 }, { name := "E_PUBLISH", type := .int, accessFlags := 25, slot := 17, constantValue := 0 }, { name := "D_LOAD_HEAD", type := .int, accessFlags := 25, slot := 18, constantValue := 0 }, { name := "D_LOAD_SEQ", type := .int, accessFlags := 25, slot := 19, constantValue := 0 }, { name := "D_CAS", type := .int, accessFlags := 25, slot := 20, constantValue := 0 }, { name := "D_LOAD_TAIL", type := .int, accessFlags := 25, slot := 21, constantValue := 0 }, { name := "D_LOAD_VAL", type := .int, accessFlags := 25, slot := 22, constantValue := 0 }, { name := "D_RELEASE", type := .int, accessFlags := 25, slot := 23, constantValue := 0 }, { name := "EV_INV_ENQ", type := .int, accessFlags := 25, slot := 24, constantValue := 0 }, { name := "EV_INV_DEQ", type := .int, accessFlags := 25, slot := 25, constantValue := 0 }, { name := "EV_RES_OK", type := .int, accessFlags := 25, slot := 26, constantValue := 0 }, { name := "EV_RES_FULL", type := .int, accessFlags := 25, slot := 27, constantValue := 0 }, { name := "EV_RES_EMPTY", type := .int, accessFlags := 25, slot := 28, constantValue := 0 }, { name := "HISTORY_CAP", type := .int, accessFlags := 25, slot := 29, constantValue := 0 }, { name := "CHECK_LIMIT", type := .int, accessFlags := 25, slot := 30, constantValue := 0 }, { name := "YES", type := .int, accessFlags := 25, slot := 31, constantValue := 0 }, { name := "NO", type := .int, accessFlags := 25, slot := 32, constantValue := 0 }, { name := "TOO_LONG", type := .int, accessFlags := 25, slot := 33, constantValue := 0 }, { name := "cap", type := .int, accessFlags := 2, slot := 0, constantValue := 0 }, { name := "mask", type := .int, accessFlags := 2, slot := 1, constantValue := 0 }, { name := "nThreads", type := .int, accessFlags := 2, slot := 2, constantValue := 0 }, { name := "head", type := .int, accessFlags := 2, slot := 3, constantValue := 0 }, { name := "tail", type := .int, accessFlags := 2, slot := 4, constantValue := 0 }, { name := "seq", type := (.array .int), accessFlags := 2, slot := 5, constantValue := 0 }, { name := "val", type := (.array .int), accessFlags := 2, slot := 6, constantValue := 0 }, { name := "st", type := (.array .int), accessFlags := 2, slot := 7, constantValue := 0 }, { name := "locP", type := (.array .int), accessFlags := 2, slot := 8, constantValue := 0 }, { name := "locV", type := (.array .int), accessFlags := 2, slot := 9, constantValue := 0 }, { name := "lastSt", type := (.array .int), accessFlags := 2, slot := 10, constantValue := 0 }, { name := "lastVal", type := (.array .int), accessFlags := 2, slot := 11, constantValue := 0 }, { name := "logKind", type := (.array .int), accessFlags := 2, slot := 12, constantValue := 0 }, { name := "evKind", type := (.array .int), accessFlags := 2, slot := 13, constantValue := 0 }, { name := "evThread", type := (.array .int), accessFlags := 2, slot := 14, constantValue := 0 }, { name := "evVal", type := (.array .int), accessFlags := 2, slot := 15, constantValue := 0 }, { name := "histLen", type := .int, accessFlags := 2, slot := 16, constantValue := 0 }, { name := "snap", type := (.array .int), accessFlags := 2, slot := 17, constantValue := 0 }, { name := "snapLen", type := .int, accessFlags := 2, slot := 18, constantValue := 0 }, { name := "opKind", type := (.array .int), accessFlags := 2, slot := 19, constantValue := 0 }, { name := "opArg", type := (.array .int), accessFlags := 2, slot := 20, constantValue := 0 }, { name := "opInv", type := (.array .int), accessFlags := 2, slot := 21, constantValue := 0 }, { name := "opRes", type := (.array .int), accessFlags := 2, slot := 22, constantValue := 0 }, { name := "opStatus", type := (.array .int), accessFlags := 2, slot := 23, constantValue := 0 }, { name := "opRVal", type := (.array .int), accessFlags := 2, slot := 24, constantValue := 0 }, { name := "predMask", type := (.array .int), accessFlags := 2, slot := 25, constantValue := 0 }, { name := "openOp", type := (.array .int), accessFlags := 2, slot := 26, constantValue := 0 }, { name := "qBuf", type := (.array .int), accessFlags := 2, slot := 27, constantValue := 0 }, { name := "qLen", type := (.array .int), accessFlags := 2, slot := 28, constantValue := 0 }, { name := "nextCand", type := (.array .int), accessFlags := 2, slot := 29, constantValue := 0 }, { name := "chosen", type := (.array .int), accessFlags := 2, slot := 30, constantValue := 0 }, { name := "opCount", type := .int, accessFlags := 2, slot := 31, constantValue := 0 }, { name := "completeMask", type := .int, accessFlags := 2, slot := 32, constantValue := 0 }]
  methods := #[k2m0, k2m1, k2m2, k2m3, k2m4, k2m5, k2m6, k2m7, k2m8, k2m9, k2m10, k2m11, k2m12, k2m13]
  instanceTypes := #[.int, .int, .int, .int, .int, (.array .int), (.array .int), (.array .int), (.array .int), (.array .int), (.array .int), (.array .int), (.array .int), (.array .int), (.array .int), (.array .int), .int, (.array .int), .int, (.array .int), (.array .int), (.array .int), (.array .int), (.array .int), (.array .int), (.array .int), (.array .int), (.array .int), (.array .int), (.array .int), (.array .int), .int, .int]
  staticTypes := #[.int, .int, .int, .int, .int, .int, .int, .int, .int, .int, .int, .int, .int, .int, .int, .int, .int, .int, .int, .int, .int, .int, .int, .int, .int, .int, .int, .int, .int, .int, .int, .int, .int, .int]
  resolved := Array.replicate 262 none
  statics := none }

def pool3 : Array CpInfo := pool [(1, u "java/lang/Cloneable"), (0, .class_ 1), (0, u "java/lang/Object"), (0, .class_ 3)] 3

/-- java/lang/Cloneable -/
def k3 : Class := { plain "java/lang/Cloneable" (some 0) with
  accessFlags := 1537
  interfaces := #[]
  cf := some (fileOf pool3 2 #[] #[] 1537 4 #[] #[])
  fields := #[]
  methods := #[]
  instanceTypes := #[]
  staticTypes := #[]
  resolved := Array.replicate 8 none
  statics := none }

def pool4 : Array CpInfo := pool [(1, u "java/io/Serializable"), (0, .class_ 1), (0, u "java/lang/Object"), (0, .class_ 3)] 3

/-- java/io/Serializable -/
def k4 : Class := { plain "java/io/Serializable" (some 0) with
  accessFlags := 1537
  interfaces := #[]
  cf := some (fileOf pool4 2 #[] #[] 1537 4 #[] #[])
  fields := #[]
  methods := #[]
  instanceTypes := #[]
  staticTypes := #[]
  resolved := Array.replicate 8 none
  statics := none }

/-- the primitive byte -/
def k5 : Class := { plain "byte" none with kind := .primitive 'B', accessFlags := 0x411 }
/-- [B -/
def k6 : Class := { plain "[B" (some 0) with kind := .array 5 .byte, interfaces := #[3, 4], accessFlags := 1041 }

/-- the primitive int -/
def k7 : Class := { plain "int" none with kind := .primitive 'I', accessFlags := 0x411 }
/-- [I -/
def k8 : Class := { plain "[I" (some 0) with kind := .array 7 .int, interfaces := #[3, 4], accessFlags := 1041 }

def heap : Heap := #[]
def classes : Array Class := #[k0, k1, k2, k3, k4, k5, k6, k7, k8]
def interned : List (Array UInt16 × Addr) := []
def slotsUsed : Nat := 0
def theMethod : MethodId := ⟨1, 1⟩
def args0 : Array Value := #[.int 1, .int 1, .int 1, .int 1, .int 1, .int 1]
def aboutOver (below : List Frame) : State where
  vm := { classes := classes, interned := interned.toArray }
  heap := heap
  slotsUsed := slotsUsed
  threads := #[{ frames := .invoking theMethod args0 :: below }]
def below0 : List Frame := [.native { method := ⟨0, 0⟩, args := #[] }]
def about1 : State := aboutOver below0
def p0 : Program := .bare "" "" ""
def e0 : Env := launch0.env 0 0 0
theorem w_frames : about1.frames = Frame.invoking theMethod args0 :: below0 := rfl
set_option maxRecDepth 65536 in
theorem w_args : argsFit about1.vm theMethod args0 = true := by decide +kernel
set_option maxRecDepth 65536 in
theorem w_heap : heapFits about1 = true := by decide +kernel
set_option maxRecDepth 65536 in
theorem w_runnable : about1.curStatus? = some .runnable := by decide +kernel
set_option maxRecDepth 65536 in
theorem w_alone : about1.alone = true := by decide +kernel
set_option maxRecDepth 65536 in
theorem w_named : about1.methodNamed? x = some theMethod := by decide +kernel
set_option maxRecDepth 65536 in
theorem w_hears : about1.hears theMethod below0 = true := by decide +kernel
set_option maxRecDepth 65536 in
theorem w_ripe : about1.ripe theMethod args0 below0 = true := by decide +kernel
theorem w_running : about1.status = .running := rfl
set_option maxRecDepth 65536 in
theorem w_room : about1.hasRoom e0.platform room_1 = true :=
  launch0.hasRoom_least _ room_1 (by decide +kernel) (by decide +kernel) (by decide +kernel) (by decide +kernel) (by decide +kernel) (by decide +kernel)
theorem allAtoms_all (ts : List Jvm.Cond) (a : Array Jvm.Value) (st : Jvm.State) : (allAtoms ts).before a st = ts.all (fun c => c.before a st) := by
  induction ts with
  | nil => rfl
  | cons c t ih =>
    show (Jvm.Cond.and c (allAtoms t)).before a st = _
    rw [Jvm.Cond.before_and, ih, List.all_cons]
def words1 : List Jvm.Cond := Jvm.Cond.code x code maxLocals ret :: tables_1
/-- a 'code' word, met by the world's own term for the bytes: nothing is compared byte by byte -/
theorem code_word {y : MethodName} {bytes : ByteArray} {mx : Nat} {rt : Option FieldType} {a : Array Value} {s : State} {m : MethodId} {meth : Method} {c : Code} (h1 : s.methodNamed? y = some m) (h2 : s.vm.method? m = some meth) (h3 : meth.code = some c) (h4 : c.code = bytes)
    (h5 : (c.maxLocals == mx && c.exceptionTable.isEmpty && decide (c.maxStack ≤ mostOperands) && decide (meth.sig.returnType = rt) && !meth.locks && decide (parseMethodDescriptor y.desc = some meth.sig)) = true) : (Jvm.Cond.code y bytes mx rt).before a s = true := by
  simp only [Bool.and_eq_true, beq_iff_eq, Bool.not_eq_true', decide_eq_true_eq] at h5
  obtain ⟨⟨⟨⟨⟨g1, g2⟩, g3⟩, g4⟩, g5⟩, g6⟩ := h5
  simp [Cond.before, Cond.holds, Cond.value, h1, h2, h3, h4, g1, g2, g3, g4, g5, g6]
def isCode : Jvm.Cond → Bool
  | .code _ _ _ _ => true
  | _ => false
theorem all_split {L : List Jvm.Cond} {P : Jvm.Cond → Bool} (h1 : L.all (fun c => isCode c || P c) = true) (h2 : ∀ c ∈ L.filter isCode, P c = true) : L.all P = true := by
  refine List.all_eq_true.mpr fun c hc => ?_
  have h := List.all_eq_true.mp h1 c hc
  rcases Bool.eq_false_or_eq_true (isCode c) with hi | hi
  · exact h2 c (List.mem_filter.mpr ⟨hc, hi⟩)
  · simpa [hi] using h
set_option maxRecDepth 65536 in
theorem w_c0 : (Jvm.Cond.code x code maxLocals ret).before args0 about1 = true := code_word (m := ⟨1, 1⟩) (meth := k1m1) (c := k1c1) (by decide +kernel) rfl rfl rfl (by decide +kernel)
set_option maxRecDepth 65536 in
theorem w_c1 : (Jvm.Cond.code ({ cls := "SeqRingQueue", name := "<init>", desc := "(III)V" } : Jvm.MethodName) prog_1_method_1_code (8 : Nat) (Option.none : Option Jvm.ClassFile.FieldType)).before args0 about1 = true := code_word (m := ⟨2, 0⟩) (meth := k2m0) (c := k2c0) (by decide +kernel) rfl rfl rfl (by decide +kernel)
set_option maxRecDepth 65536 in
theorem w_c2 : (Jvm.Cond.code ({ cls := "java/lang/Object", name := "<init>", desc := "()V" } : Jvm.MethodName) object_method_1_code (1 : Nat) (Option.none : Option Jvm.ClassFile.FieldType)).before args0 about1 = true := code_word (m := ⟨0, 0⟩) (meth := k0m0) (c := k0c0) (by decide +kernel) rfl rfl rfl (by decide +kernel)
set_option maxRecDepth 65536 in
theorem w_c3 : (Jvm.Cond.code ({ cls := "SeqRingQueue", name := "clamp", desc := "(III)I" } : Jvm.MethodName) prog_1_method_2_code (4 : Nat) (Option.some Jvm.ClassFile.FieldType.int)).before args0 about1 = true := code_word (m := ⟨2, 1⟩) (meth := k2m1) (c := k2c1) (by decide +kernel) rfl rfl rfl (by decide +kernel)
set_option maxRecDepth 65536 in
theorem w_c4 : (Jvm.Cond.code ({ cls := "SeqRingQueue", name := "logInvoke", desc := "(III)Z" } : Jvm.MethodName) prog_1_method_21_code (4 : Nat) (Option.some Jvm.ClassFile.FieldType.boolean)).before args0 about1 = true := code_word (m := ⟨2, 9⟩) (meth := k2m9) (c := k2c9) (by decide +kernel) rfl rfl rfl (by decide +kernel)
set_option maxRecDepth 65536 in
theorem w_c5 : (Jvm.Cond.code ({ cls := "SeqRingQueue", name := "valid", desc := "(I)Z" } : Jvm.MethodName) prog_1_method_3_code (2 : Nat) (Option.some Jvm.ClassFile.FieldType.boolean)).before args0 about1 = true := code_word (m := ⟨2, 2⟩) (meth := k2m2) (c := k2c2) (by decide +kernel) rfl rfl rfl (by decide +kernel)
set_option maxRecDepth 65536 in
theorem w_c6 : (Jvm.Cond.code ({ cls := "SeqRingQueue", name := "logResponse", desc := "(III)Z" } : Jvm.MethodName) prog_1_method_22_code (8 : Nat) (Option.some Jvm.ClassFile.FieldType.boolean)).before args0 about1 = true := code_word (m := ⟨2, 10⟩) (meth := k2m10) (c := k2c10) (by decide +kernel) rfl rfl rfl (by decide +kernel)
set_option maxRecDepth 65536 in
theorem w_c7 : (Jvm.Cond.code ({ cls := "SeqRingQueue", name := "historyLength", desc := "()I" } : Jvm.MethodName) prog_1_method_24_code (1 : Nat) (Option.some Jvm.ClassFile.FieldType.int)).before args0 about1 = true := code_word (m := ⟨2, 11⟩) (meth := k2m11) (c := k2c11) (by decide +kernel) rfl rfl rfl (by decide +kernel)
set_option maxRecDepth 65536 in
theorem w_c8 : (Jvm.Cond.code ({ cls := "SeqRingQueue", name := "historyEvent", desc := "(I)I" } : Jvm.MethodName) prog_1_method_25_code (2 : Nat) (Option.some Jvm.ClassFile.FieldType.int)).before args0 about1 = true := code_word (m := ⟨2, 12⟩) (meth := k2m12) (c := k2c12) (by decide +kernel) rfl rfl rfl (by decide +kernel)
set_option maxRecDepth 65536 in
theorem w_c9 : (Jvm.Cond.code ({ cls := "SeqRingQueue", name := "historyValue", desc := "(I)I" } : Jvm.MethodName) prog_1_method_26_code (2 : Nat) (Option.some Jvm.ClassFile.FieldType.int)).before args0 about1 = true := code_word (m := ⟨2, 13⟩) (meth := k2m13) (c := k2c13) (by decide +kernel) rfl rfl rfl (by decide +kernel)
set_option maxRecDepth 65536 in
theorem w_c10 : (Jvm.Cond.code ({ cls := "SeqRingQueue", name := "state", desc := "(I)I" } : Jvm.MethodName) prog_1_method_16_code (2 : Nat) (Option.some Jvm.ClassFile.FieldType.int)).before args0 about1 = true := code_word (m := ⟨2, 7⟩) (meth := k2m7) (c := k2c7) (by decide +kernel) rfl rfl rfl (by decide +kernel)
set_option maxRecDepth 65536 in
theorem w_c11 : (Jvm.Cond.code ({ cls := "SeqRingQueue", name := "lastStatus", desc := "(I)I" } : Jvm.MethodName) prog_1_method_17_code (2 : Nat) (Option.some Jvm.ClassFile.FieldType.int)).before args0 about1 = true := code_word (m := ⟨2, 8⟩) (meth := k2m8) (c := k2c8) (by decide +kernel) rfl rfl rfl (by decide +kernel)
set_option maxRecDepth 65536 in
theorem w_c12 : (Jvm.Cond.code ({ cls := "SeqRingQueue", name := "hasRoom", desc := "()Z" } : Jvm.MethodName) prog_1_method_5_code (2 : Nat) (Option.some Jvm.ClassFile.FieldType.boolean)).before args0 about1 = true := code_word (m := ⟨2, 4⟩) (meth := k2m4) (c := k2c4) (by decide +kernel) rfl rfl rfl (by decide +kernel)
set_option maxRecDepth 65536 in
theorem w_c13 : (Jvm.Cond.code ({ cls := "SeqRingQueue", name := "pending", desc := "()I" } : Jvm.MethodName) prog_1_method_4_code (3 : Nat) (Option.some Jvm.ClassFile.FieldType.int)).before args0 about1 = true := code_word (m := ⟨2, 3⟩) (meth := k2m3) (c := k2c3) (by decide +kernel) rfl rfl rfl (by decide +kernel)
set_option maxRecDepth 65536 in
theorem w_c14 : (Jvm.Cond.code ({ cls := "SeqRingQueue", name := "append", desc := "(III)V" } : Jvm.MethodName) prog_1_method_6_code (4 : Nat) (Option.none : Option Jvm.ClassFile.FieldType)).before args0 about1 = true := code_word (m := ⟨2, 5⟩) (meth := k2m5) (c := k2c5) (by decide +kernel) rfl rfl rfl (by decide +kernel)
set_option maxRecDepth 65536 in
theorem w_c15 : (Jvm.Cond.code ({ cls := "SeqRingQueue", name := "resKind", desc := "(I)I" } : Jvm.MethodName) prog_1_method_7_code (2 : Nat) (Option.some Jvm.ClassFile.FieldType.int)).before args0 about1 = true := code_word (m := ⟨2, 6⟩) (meth := k2m6) (c := k2c6) (by decide +kernel) rfl rfl rfl (by decide +kernel)
def codes1 : List Jvm.Cond := [Jvm.Cond.code x code maxLocals ret, Jvm.Cond.code ({ cls := "SeqRingQueue", name := "<init>", desc := "(III)V" } : Jvm.MethodName) prog_1_method_1_code (8 : Nat) (Option.none : Option Jvm.ClassFile.FieldType), Jvm.Cond.code ({ cls := "java/lang/Object", name := "<init>", desc := "()V" } : Jvm.MethodName) object_method_1_code (1 : Nat) (Option.none : Option Jvm.ClassFile.FieldType), Jvm.Cond.code ({ cls := "SeqRingQueue", name := "clamp", desc := "(III)I" } : Jvm.MethodName) prog_1_method_2_code (4 : Nat) (Option.some Jvm.ClassFile.FieldType.int), Jvm.Cond.code ({ cls := "SeqRingQueue", name := "logInvoke", desc := "(III)Z" } : Jvm.MethodName) prog_1_method_21_code (4 : Nat) (Option.some Jvm.ClassFile.FieldType.boolean), Jvm.Cond.code ({ cls := "SeqRingQueue", name := "valid", desc := "(I)Z" } : Jvm.MethodName) prog_1_method_3_code (2 : Nat) (Option.some Jvm.ClassFile.FieldType.boolean), Jvm.Cond.code ({ cls := "SeqRingQueue", name := "logResponse", desc := "(III)Z" } : Jvm.MethodName) prog_1_method_22_code (8 : Nat) (Option.some Jvm.ClassFile.FieldType.boolean), Jvm.Cond.code ({ cls := "SeqRingQueue", name := "historyLength", desc := "()I" } : Jvm.MethodName) prog_1_method_24_code (1 : Nat) (Option.some Jvm.ClassFile.FieldType.int), Jvm.Cond.code ({ cls := "SeqRingQueue", name := "historyEvent", desc := "(I)I" } : Jvm.MethodName) prog_1_method_25_code (2 : Nat) (Option.some Jvm.ClassFile.FieldType.int), Jvm.Cond.code ({ cls := "SeqRingQueue", name := "historyValue", desc := "(I)I" } : Jvm.MethodName) prog_1_method_26_code (2 : Nat) (Option.some Jvm.ClassFile.FieldType.int), Jvm.Cond.code ({ cls := "SeqRingQueue", name := "state", desc := "(I)I" } : Jvm.MethodName) prog_1_method_16_code (2 : Nat) (Option.some Jvm.ClassFile.FieldType.int), Jvm.Cond.code ({ cls := "SeqRingQueue", name := "lastStatus", desc := "(I)I" } : Jvm.MethodName) prog_1_method_17_code (2 : Nat) (Option.some Jvm.ClassFile.FieldType.int), Jvm.Cond.code ({ cls := "SeqRingQueue", name := "hasRoom", desc := "()Z" } : Jvm.MethodName) prog_1_method_5_code (2 : Nat) (Option.some Jvm.ClassFile.FieldType.boolean), Jvm.Cond.code ({ cls := "SeqRingQueue", name := "pending", desc := "()I" } : Jvm.MethodName) prog_1_method_4_code (3 : Nat) (Option.some Jvm.ClassFile.FieldType.int), Jvm.Cond.code ({ cls := "SeqRingQueue", name := "append", desc := "(III)V" } : Jvm.MethodName) prog_1_method_6_code (4 : Nat) (Option.none : Option Jvm.ClassFile.FieldType), Jvm.Cond.code ({ cls := "SeqRingQueue", name := "resKind", desc := "(I)I" } : Jvm.MethodName) prog_1_method_7_code (2 : Nat) (Option.some Jvm.ClassFile.FieldType.int)]
set_option maxRecDepth 65536 in
theorem codes_eq : words1.filter isCode = codes1 := rfl
theorem w_codes : ∀ c ∈ words1.filter isCode, c.before args0 about1 = true := by
  rw [codes_eq]
  intro c hc
  simp only [codes1, List.mem_cons, List.not_mem_nil, or_false] at hc
  rcases hc with rfl | rfl | rfl | rfl | rfl | rfl | rfl | rfl | rfl | rfl | rfl | rfl | rfl | rfl | rfl | rfl
  · exact w_c0
  · exact w_c1
  · exact w_c2
  · exact w_c3
  · exact w_c4
  · exact w_c5
  · exact w_c6
  · exact w_c7
  · exact w_c8
  · exact w_c9
  · exact w_c10
  · exact w_c11
  · exact w_c12
  · exact w_c13
  · exact w_c14
  · exact w_c15
set_option maxRecDepth 65536 in
theorem w_t1 : (words1.take 24).all (fun c => isCode c || c.before args0 about1) = true := by decide +kernel
set_option maxRecDepth 65536 in
theorem w_t2 : ((words1.drop 24).take 24).all (fun c => isCode c || c.before args0 about1) = true := by decide +kernel
set_option maxRecDepth 65536 in
theorem w_t3 : (((words1.drop 24).drop 24).take 24).all (fun c => isCode c || c.before args0 about1) = true := by decide +kernel
set_option maxRecDepth 65536 in
theorem w_t4 : ((((words1.drop 24).drop 24).drop 24).take 24).all (fun c => isCode c || c.before args0 about1) = true := by decide +kernel
set_option maxRecDepth 65536 in
theorem w_t5 : (((((words1.drop 24).drop 24).drop 24).drop 24).take 24).all (fun c => isCode c || c.before args0 about1) = true := by decide +kernel
set_option maxRecDepth 65536 in
theorem w_t6 : (((((words1.drop 24).drop 24).drop 24).drop 24).drop 24).all (fun c => isCode c || c.before args0 about1) = true := by decide +kernel
theorem w_tables : (allAtoms (Jvm.Cond.code x code maxLocals ret :: tables_1)).before args0 about1 = true := by
  rw [allAtoms_all]
  show words1.all (fun c => c.before args0 about1) = true
  refine all_split ?_ w_codes
  rw [← List.take_append_drop 24 words1, List.all_append, w_t1, ← List.take_append_drop 24 (words1.drop 24), List.all_append, w_t2, ← List.take_append_drop 24 ((words1.drop 24).drop 24), List.all_append, w_t3, ← List.take_append_drop 24 (((words1.drop 24).drop 24).drop 24), List.all_append, w_t4, ← List.take_append_drop 24 ((((words1.drop 24).drop 24).drop 24).drop 24), List.all_append, w_t5, w_t6]
  rfl
set_option maxRecDepth 65536 in
theorem w_case : (Jvm.Cond.and given_1 narrow_1).before args0 about1 = true := by decide +kernel
theorem w_applies : (headSpec (Jvm.Cond.code x code maxLocals ret :: tables_1) room_1).applies x e0.platform about1 = true :=
  (Spec.applies_iff w_frames).mpr ⟨w_running, w_runnable, w_alone, w_named, w_hears, w_ripe, w_room, w_tables⟩
theorem atStart : AtStart classFile x code maxLocals ret World_1 tables_1 room_1 Calls_1 rest_1 Pre_1 launch0 p0 e0 about1 theMethod args0 below0 :=
  ⟨lists_1, trivial, launch0.admits_env _ _ _, launch0.least_env, fairChoices_fair.cas, fairChoices_fair.clock, w_frames, w_args, w_heap, w_applies, trivial, trivial, w_case⟩
end start1
theorem witness_1 : WitnessClaimed_1 := ⟨start1.p0, start1.e0, start1.about1, start1.theMethod, start1.args0, start1.below0, start1.atStart⟩
end Jvm.Pilot.@@N@@
