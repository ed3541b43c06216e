import JvmDerived
import JvmDerived.Pilot.@@N@@Statement
import JvmDerived.Pilot.@@N@@Code
set_option linter.unusedVariables false
set_option linter.unusedSimpArgs false
/-! # A small executor over an abstract heap, and that it is sound for the model (Stand's family). Same text in every claim. -/
namespace Jvm.OwnX
open Sem ClassFile Op Lib Jvm.Stand Jvm.Free Jvm.LawKit Jvm.RoadKit
/-- a cell: an object's fields; an array of ints (0: handed in; 1), booleans (2), bytes (3); an array of longs -/
abbrev ACell := Sum (List Value) (Sum (Nat × List Int32) (List Int64))
abbrev AHeap := List ACell
abbrev ALoc := List (Option Value)
/-- a method: class, maxLocals, how many it pops, what it returns, is it a constructor, frames, locals -/
abbrev MI := Nat × Nat × Nat × Option FieldType × Bool × Nat × Nat
/-- code | methods | method links (kind, callee) | field links | constants | fields (name, descriptor, kind, final) | slots of an object | read-only cells | cells at most | slots at most -/
def Prog : Type := (Nat → Nat → Option (Instr × Nat)) × (Nat → MI) × (Nat → Nat → Option (Nat × Nat)) × (Nat → Nat → Option Nat) × (Nat → Nat → Option Value) × List (String × String × Nat × Bool) × Nat × Nat × Nat × Nat
def Prog.code (P : Prog) : Nat → Nat → Option (Instr × Nat) := P.1
def Prog.mi (P : Prog) : Nat → MI := P.2.1
def Prog.link (P : Prog) : Nat → Nat → Option (Nat × Nat) := P.2.2.1
def Prog.fld (P : Prog) : Nat → Nat → Option Nat := P.2.2.2.1
def Prog.kon (P : Prog) : Nat → Nat → Option Value := P.2.2.2.2.1
def Prog.fields (P : Prog) : List (String × String × Nat × Bool) := P.2.2.2.2.2.1
def Prog.objN (P : Prog) : Nat := P.2.2.2.2.2.2.1
def Prog.ro (P : Prog) : Nat := P.2.2.2.2.2.2.2.1
def Prog.capC (P : Prog) : Nat := P.2.2.2.2.2.2.2.2.1
def Prog.capS (P : Prog) : Nat := P.2.2.2.2.2.2.2.2.2
def Prog.cls (P : Prog) (k : Nat) : Nat := (P.mi k).1
def Prog.maxL (P : Prog) (k : Nat) : Nat := (P.mi k).2.1
def Prog.pops (P : Prog) (k : Nat) : Nat := (P.mi k).2.2.1
def Prog.ret (P : Prog) (k : Nat) : Option FieldType := (P.mi k).2.2.2.1
def Prog.ini (P : Prog) (k : Nat) : Bool := (P.mi k).2.2.2.2.1
def Prog.rf (P : Prog) (k : Nat) : Nat := (P.mi k).2.2.2.2.2.1
def Prog.rl (P : Prog) (k : Nat) : Nat := (P.mi k).2.2.2.2.2.2
def dflt : Nat → Value
  | 0 => .int 0
  | 1 => .int 0
  | 2 => .long 0
  | _ => .null
def Prog.fresh (P : Prog) : List Value := P.fields.map fun f => dflt f.2.2.1
/-- is j a place of an array of n -/
def inb (n : Nat) (j : Int32) : Bool := !(decide (j < 0)) && Nat.ble (j.toNatClampNeg + 1) n
def rd (xs : List Int32) (j : Int32) : Int32 := xs.getD j.toNatClampNeg 0
def wr (xs : List Int32) (j : Int32) (v : Int32) : List Int32 := xs.set j.toNatClampNeg v
def rdL (xs : List Int64) (j : Int32) : Int64 := xs.getD j.toNatClampNeg 0
def wrL (xs : List Int64) (j : Int32) (v : Int64) : List Int64 := xs.set j.toNatClampNeg v
def kill1 (L : ALoc) (i : Nat) : ALoc :=
  match i with
  | 0 => L
  | i + 1 => match L[i]? with
    | some (some (.long _)) => L.set i none
    | _ => L
def lput (L : ALoc) (i : Nat) (v : Value) : Option ALoc := bif Nat.ble (i + 1) L.length then some ((kill1 L i).set i (some v)) else none
def lputL (L : ALoc) (i : Nat) (v : Int64) : Option ALoc := bif Nat.ble (i + 2) L.length then some (((kill1 L i).set i (some (.long v))).set (i + 1) none) else none
def entL : List Value → ALoc
  | [] => []
  | .long v :: r => some (.long v) :: none :: entL r
  | v :: r => some v :: entL r
def pad (n : Nat) (L : ALoc) : ALoc := L ++ List.replicate (n - L.length) none
def entry (P : Prog) (k : Nat) (as : List Value) : ALoc := pad (P.maxL k) (entL as)
def cat (v : Value) : Nat := match v with | .long _ => 2 | _ => 1
def cats : List Value → Nat
  | [] => 0
  | v :: r => cat v + cats r
def okV : Value → Bool
  | .int _ => true | .long _ => true | .ref _ => true | .null => true | _ => false
def csz : Nat → ACell → Nat
  | n, .inl _ => n
  | _, .inr (.inl (0, _)) => 0
  | _, .inr (.inl (_, x)) => x.length
  | _, .inr (.inr x) => x.length
def hsz (P : Prog) : AHeap → Nat
  | [] => 0
  | c :: r => csz P.objN c + hsz P r
/-- how long an instruction is (0: as decode says) -/
def ilen : Instr → Nat
  | .iload _ => 2 | .lload _ => 2 | .aload _ => 2 | .istore _ => 2 | .lstore _ => 2 | .astore _ => 2 | .bipush _ => 2 | .ldc _ => 2 | .newarray _ => 2
  | .iinc _ _ => 3 | .sipush _ => 3 | .goto _ => 3 | .ifCond _ _ => 3 | .if_icmp _ _ => 3 | .getfield _ => 3 | .putfield _ => 3 | .new _ => 3 | .invokespecial _ => 3 | .invokestatic _ => 3 | .invokevirtual _ => 3 | .ldc2_w _ => 3
  | .tableswitch _ _ _ _ => 0
  | _ => 1
def tgt (pc : Nat) (o : Int) : Option Nat := match (pc : Int) + o with | .ofNat n => some n | .negSucc _ => none
def ish (x y : Int32) : Int32 := x <<< (y &&& 31)
def isr (x y : Int32) : Int32 := x >>> (y &&& 31)
def ush (x y : Int32) : Int32 := (x.toUInt32 >>> (y &&& 31).toUInt32).toInt32
def lsh (x : Int64) (y : Int32) : Int64 := x <<< (y &&& 0x3f).toInt64
def lus (x : Int64) (y : Int32) : Int64 := (x.toUInt64 >>> (y &&& 0x3f).toInt64.toUInt64).toInt64
def lcm (x y : Int64) : Int32 := if x > y then 1 else if x = y then 0 else -1
def i8 (x : Int32) : Int32 := x.toInt8.toInt32
def aop : Instr → Option (Int32 → Int32 → Int32)
  | .iadd => some fun x y => x + y
  | .isub => some fun x y => x - y
  | .imul => some fun x y => x * y
  | .iand => some fun x y => x &&& y
  | .ior => some fun x y => x ||| y
  | .ixor => some fun x y => x ^^^ y
  | .ishl => some fun x y => x <<< (y &&& 31)
  | .ishr => some fun x y => x >>> (y &&& 31)
  | .iushr => some fun x y => (x.toUInt32 >>> (y &&& 31).toUInt32).toInt32
  | _ => none
def lop : Instr → Option (Int64 → Int64 → Int64)
  | .ladd => some fun x y => x + y
  | .lsub => some fun x y => x - y
  | .lmul => some fun x y => x * y
  | .land => some fun x y => x &&& y
  | .lor => some fun x y => x ||| y
  | .lxor => some fun x y => x ^^^ y
  | _ => none
def loadI (L : ALoc) (n : Nat) : Option Int32 := match L[n]? with | some (some (.int x)) => some x | _ => none
def loadJ (L : ALoc) (n : Nat) : Option Int64 := match L[n]? with | some (some (.long x)) => some x | _ => none
def loadA (L : ALoc) (n : Nat) : Option Nat := match L[n]? with | some (some (.ref a)) => some a | _ => none
def getC (H : AHeap) (a j : Nat) : Option Value := match H[a]? with | some (.inl fs) => fs[j]? | _ => none
def conv (t : Nat) (v : Value) : Option Value :=
  match t, v with
  | 0, .int x => some (.int x)
  | 1, .int x => some (.int (x &&& 1))
  | 2, .long x => some (.long x)
  | 3, .ref a => some (.ref a)
  | _, _ => none
/-- a step within one frame -/
abbrev St := Nat × ALoc × List Value × AHeap
def atyOf : ArrayType → Option Nat
  | .int => some 1 | .boolean => some 2 | .byte => some 3 | .long => some 4 | _ => none
def newC (t n : Nat) : ACell := match t with | 4 => .inr (.inr (List.replicate n 0)) | t => .inr (.inl (t, List.replicate n 0))
def isObjInit (P : Prog) (k j : Nat) : Bool := match P.link (P.cls k) j with | some (4, _) => true | _ => false
/-- what is stored into an array of that kind -/
def narA (t : Nat) (x : Int32) : Int32 := match t with | 2 => x &&& 1 | 3 => x.toInt8.toInt32 | _ => x
def step (P : Prog) (k : Nat) (i : Instr) (np pc : Nat) (L : ALoc) (S : List Value) (H : AHeap) : Option St :=
  match i with
  | .iload_n n => match loadI L n.val with | some x => some (np, L, .int x :: S, H) | none => none
  | .iload n => match loadI L n with | some x => some (np, L, .int x :: S, H) | none => none
  | .lload_n n => match loadJ L n.val with | some x => some (np, L, .long x :: S, H) | none => none
  | .lload n => match loadJ L n with | some x => some (np, L, .long x :: S, H) | none => none
  | .aload_n n => match loadA L n.val with | some x => some (np, L, .ref x :: S, H) | none => none
  | .aload n => match loadA L n with | some x => some (np, L, .ref x :: S, H) | none => none
  | .istore_n n => match S with | .int x :: r => (match lput L n.val (.int x) with | some L' => some (np, L', r, H) | none => none) | _ => none
  | .istore n => match S with | .int x :: r => (match lput L n (.int x) with | some L' => some (np, L', r, H) | none => none) | _ => none
  | .astore_n n => match S with | .ref x :: r => (match lput L n.val (.ref x) with | some L' => some (np, L', r, H) | none => none) | _ => none
  | .astore n => match S with | .ref x :: r => (match lput L n (.ref x) with | some L' => some (np, L', r, H) | none => none) | _ => none
  | .lstore_n n => match S with | .long x :: r => (match lputL L n.val x with | some L' => some (np, L', r, H) | none => none) | _ => none
  | .lstore n => match S with | .long x :: r => (match lputL L n x with | some L' => some (np, L', r, H) | none => none) | _ => none
  | .iinc n c => match loadI L n with | some x => (match lput L n (.int (x + Int32.ofInt c)) with | some L' => some (np, L', S, H) | none => none) | none => none
  | .iconst c => some (np, L, .int (Int32.ofInt c) :: S, H)
  | .bipush c => some (np, L, .int (Int8.ofInt c).toInt32 :: S, H)
  | .sipush c => some (np, L, .int (Int16.ofInt c).toInt32 :: S, H)
  | .lconst c => some (np, L, .long (Int64.ofNat c) :: S, H)
  | .ldc j => match P.kon (P.cls k) j with | some (.int x) => some (np, L, .int x :: S, H) | _ => none
  | .ldc2_w j => match P.kon (P.cls k) j with | some (.long x) => some (np, L, .long x :: S, H) | _ => none
  | .idiv => match S with | .int y :: .int x :: r => (bif decide (y = 0) then none else some (np, L, .int (x / y) :: r, H)) | _ => none
  | .irem => match S with | .int y :: .int x :: r => (bif decide (y = 0) then none else some (np, L, .int (x % y) :: r, H)) | _ => none
  | .lshl => match S with | .int y :: .long x :: r => some (np, L, .long (x <<< (y &&& 0x3f).toInt64) :: r, H) | _ => none
  | .lushr => match S with | .int y :: .long x :: r => some (np, L, .long ((x.toUInt64 >>> (y &&& 0x3f).toInt64.toUInt64).toInt64) :: r, H) | _ => none
  | .lcmp => match S with | .long y :: .long x :: r => some (np, L, .int (if x > y then 1 else if x = y then 0 else -1) :: r, H) | _ => none
  | .lneg => match S with | .long x :: r => some (np, L, .long (-x) :: r, H) | _ => none
  | .i2l => match S with | .int x :: r => some (np, L, .long x.toInt64 :: r, H) | _ => none
  | .l2i => match S with | .long x :: r => some (np, L, .int x.toInt32 :: r, H) | _ => none
  | .i2b => match S with | .int x :: r => some (np, L, .int x.toInt8.toInt32 :: r, H) | _ => none
  | .dup => match S with | .ref x :: r => some (np, L, .ref x :: .ref x :: r, H) | .int x :: r => some (np, L, .int x :: .int x :: r, H) | _ => none
  | .dup2 => match S with | .int x :: .ref y :: r => some (np, L, .int x :: .ref y :: .int x :: .ref y :: r, H) | _ => none
  | .pop => match S with | .int _ :: r => some (np, L, r, H) | .ref _ :: r => some (np, L, r, H) | _ => none
  | .goto o => match tgt pc o with | some t => some (t, L, S, H) | none => none
  | .ifCond cd o => match S with
    | .int x :: r => (bif if_icmp.holds cd x 0 then (match tgt pc o with | some t => some (t, L, r, H) | none => none) else some (np, L, r, H))
    | _ => none
  | .if_icmp cd o => match S with
    | .int y :: .int x :: r => (bif if_icmp.holds cd x y then (match tgt pc o with | some t => some (t, L, r, H) | none => none) else some (np, L, r, H))
    | _ => none
  | .tableswitch d lo hi offs => match S with
    | .int x :: r => (bif decide (x.toInt < lo) || decide (x.toInt > hi) then (match tgt pc d with | some t => some (t, L, r, H) | none => none)
        else (match offs.toList[(x.toInt - lo).toNat]? with | some o => (match tgt pc o with | some t => some (t, L, r, H) | none => none) | none => none))
    | _ => none
  | .getfield j => match S with
    | .ref a :: r => (match P.fld (P.cls k) j with | some f => (match getC H a f with | some v => some (np, L, v :: r, H) | none => none) | none => none)
    | _ => none
  | .putfield j => match S with
    | v :: .ref a :: r => (match P.fld (P.cls k) j with
      | some f => (match P.fields[f]? with
        | some (_, _, t, fin) => (bif (!fin || P.ini k) && Nat.ble P.ro a then (match conv t v with
          | some v' => (match H[a]? with
            | some (.inl fs) => (bif Nat.ble (f + 1) fs.length then some (np, L, r, H.set a (.inl (fs.set f v'))) else none)
            | _ => none)
          | none => none) else none)
        | none => none)
      | none => none)
    | _ => none
  | .iaload => match S with
    | .int j :: .ref a :: r => (match H[a]? with
      | some (.inr (.inl (1, xs))) => (bif inb xs.length j then some (np, L, .int (rd xs j) :: r, H) else none)
      | some (.inr (.inl (0, xs))) => (bif inb xs.length j then some (np, L, .int (rd xs j) :: r, H) else none)
      | _ => none)
    | _ => none
  | .baload => match S with
    | .int j :: .ref a :: r => (match H[a]? with
      | some (.inr (.inl (2, xs))) => (bif inb xs.length j then some (np, L, .int (rd xs j) :: r, H) else none)
      | some (.inr (.inl (3, xs))) => (bif inb xs.length j then some (np, L, .int (rd xs j) :: r, H) else none)
      | _ => none)
    | _ => none
  | .laload => match S with
    | .int j :: .ref a :: r => (match H[a]? with | some (.inr (.inr xs)) => (bif inb xs.length j then some (np, L, .long (rdL xs j) :: r, H) else none) | _ => none)
    | _ => none
  | .iastore => match S with
    | .int x :: .int j :: .ref a :: r => (bif Nat.ble P.ro a then (match H[a]? with | some (.inr (.inl (1, xs))) => (bif inb xs.length j then some (np, L, r, H.set a (.inr (.inl (1, wr xs j x)))) else none) | _ => none) else none)
    | _ => none
  | .bastore => match S with
    | .int x :: .int j :: .ref a :: r => (bif Nat.ble P.ro a then (match H[a]? with
      | some (.inr (.inl (2, xs))) => (bif inb xs.length j then some (np, L, r, H.set a (.inr (.inl (2, wr xs j (x &&& 1))))) else none)
      | some (.inr (.inl (3, xs))) => (bif inb xs.length j then some (np, L, r, H.set a (.inr (.inl (3, wr xs j x.toInt8.toInt32)))) else none)
      | _ => none) else none)
    | _ => none
  | .lastore => match S with
    | .long x :: .int j :: .ref a :: r => (bif Nat.ble P.ro a then (match H[a]? with | some (.inr (.inr xs)) => (bif inb xs.length j then some (np, L, r, H.set a (.inr (.inr (wrL xs j x)))) else none) | _ => none) else none)
    | _ => none
  | .arraylength => match S with
    | .ref a :: r => (match H[a]? with
      | some (.inr (.inl (_, xs))) => some (np, L, .int xs.length.toInt32 :: r, H)
      | some (.inr (.inr xs)) => some (np, L, .int xs.length.toInt32 :: r, H)
      | _ => none)
    | _ => none
  | .newarray t => match S with
    | .int n :: r => (match atyOf t with | some q => (bif !(decide (n < 0)) && Nat.ble n.toNatClampNeg 60000 && Nat.ble (H.length + 1) P.capC && Nat.ble (hsz P H + n.toNatClampNeg) P.capS then some (np, L, .ref H.length :: r, H ++ [newC q n.toNatClampNeg]) else none) | none => none)
    | _ => none
  | .new j => match P.link (P.cls k) j with | some (5, _) => (bif Nat.ble (H.length + 1) P.capC && Nat.ble (hsz P H + P.objN) P.capS then some (np, L, .ref H.length :: S, H ++ [.inl P.fresh]) else none) | _ => none
  | .invokespecial j => match S with
    | .ref _ :: r => (bif isObjInit P k j && Nat.ble 1 (P.rf k) && Nat.ble (cats r + 12) (P.rl k) then some (np, L, r, H) else none)
    | _ => none
  | i => match S with
    | .int y :: .int x :: r => (match aop i with | some f => some (np, L, .int (f x y) :: r, H) | none => none)
    | .long y :: .long x :: r => (match lop i with | some f => some (np, L, .long (f x y) :: r, H) | none => none)
    | _ => none
/-- what a return hands back -/
def retV (P : Prog) (k : Nat) (i : Instr) (S : List Value) : Option (Option Value) :=
  match i with
  | .return_ => match S, P.ret k with | [], none => some none | _, _ => none
  | .ireturn => match S with
    | .int x :: _ => (match P.ret k with | some .int => some (some (.int x)) | some .boolean => some (some (.int (x &&& 1))) | _ => none)
    | _ => none
  | .lreturn => match S with | .long x :: _ => (match P.ret k with | some .long => some (some (.long x)) | _ => none) | _ => none
  | _ => none
def kindOk : Instr → Nat → Bool
  | .invokestatic _, 0 => true
  | .invokespecial _, 1 => true
  | .invokevirtual _, 2 => true
  | .invokevirtual _, 3 => true
  | _, _ => false
def poolOf : Instr → Option Nat
  | .invokestatic j => some j
  | .invokespecial j => some j
  | .invokevirtual j => some j
  | _ => none
/-- the receiver is there -/
def recvOk (P : Prog) (H : AHeap) (q : Nat) (as : List Value) : Bool :=
  match q with
  | 0 => true
  | _ => match as with
    | .ref a :: _ => (match H[a]? with | some (.inl _) => true | _ => false)
    | _ => false
def callV (P : Prog) (k : Nat) (i : Instr) (S : List Value) (H : AHeap) : Option (Nat × List Value × List Value) :=
  match poolOf i with
  | none => none
  | some j => match P.link (P.cls k) j with
    | none => none
    | some (q, k') =>
      bif kindOk i q && Nat.ble (P.pops k') S.length && Nat.ble (P.rf k' + 1) (P.rf k) && Nat.ble (cats (S.drop (P.pops k')) + (P.maxL k' + 11) + P.rl k') (P.rl k) && recvOk P H q (S.take (P.pops k')).reverse && Nat.ble (entL (S.take (P.pops k')).reverse).length (P.maxL k') then
        some (k', (S.take (P.pops k')).reverse, S.drop (P.pops k'))
      else none
def run (P : Prog) : Nat → Nat → Nat → ALoc → List Value → AHeap → Option (Option Value × AHeap)
  | 0, _, _, _, _, _ => none
  | n + 1, k, pc, L, S, H =>
    match P.code k pc with
    | none => none
    | some (i, np) =>
      match retV P k i S with
      | some v => some (v, H)
      | none =>
        match callV P k i S H with
        | some (k', as, rest) =>
          (match run P n k' 0 (entry P k' as) [] H with
          | some (v, H1) => run P n k np L (v.toList ++ rest) H1
          | none => none)
        | none =>
          (match step P k i np pc L S H with
          | some (pc', L', S', H') => run P n k pc' L' S' H'
          | none => none)
def Eval (P : Prog) (k pc : Nat) (L : ALoc) (S : List Value) (H : AHeap) (out : Option Value × AHeap) : Prop := ∃ n, run P n k pc L S H = some out
end Jvm.OwnX
namespace Jvm.OwnX
open Sem ClassFile Op Lib Jvm.Stand Jvm.Free Jvm.LawKit Jvm.RoadKit
/-! ## values, stacks, local variables -/
def VR (am : List Addr) (v w : Value) : Prop := match v with
  | .ref i => ∃ a, am[i]? = some a ∧ w = .ref a
  | .int x => w = .int x
  | .long x => w = .long x
  | .null => w = .null
  | _ => False
def SR (am : List Addr) : List Value → List Value → Prop
  | [], ws => ws = []
  | v :: vs, ws => ∃ w ws', ws = w :: ws' ∧ VR am v w ∧ SR am vs ws'
def Pre (am am' : List Addr) : Prop := ∀ (i : Nat) (a : Addr), am[i]? = some a → am'[i]? = some a
theorem Pre.refl (am : List Addr) : Pre am am := fun _ _ h => h
theorem Pre.trans {a b c : List Addr} (h : Pre a b) (h' : Pre b c) : Pre a c := fun i x q => h' i x (h i x q)
theorem Pre.app (am : List Addr) (x : Addr) : Pre am (am ++ [x]) := fun i a h => by
  rw [List.getElem?_append_left (List.getElem?_eq_some_iff.mp h).1]; exact h
theorem VR.mono {am am' : List Addr} (h : Pre am am') {v w : Value} (r : VR am v w) : VR am' v w := by
  cases v <;> simp only [VR] at r ⊢ <;> try exact r
  obtain ⟨a, h1, h2⟩ := r; exact ⟨a, h _ _ h1, h2⟩
theorem SR.mono {am am' : List Addr} (h : Pre am am') : ∀ {S ws : List Value}, SR am S ws → SR am' S ws
  | [], _, r => r
  | _ :: _, _, ⟨w, ws', e, r1, r2⟩ => ⟨w, ws', e, r1.mono h, SR.mono h r2⟩
theorem VR.cat {am : List Addr} {v w : Value} (r : VR am v w) : w.category = OwnX.cat v := by
  cases v <;> simp only [VR] at r
  · subst r; rfl
  · subst r; rfl
  · subst r; rfl
  · obtain ⟨a, -, rfl⟩ := r; rfl
theorem SR.cats {am : List Addr} : ∀ {S ws : List Value}, SR am S ws → (ws.map fun v => v.category).sum = OwnX.cats S
  | [], _, r => by cases r; rfl
  | v :: vs, _, ⟨w, ws', e, r1, r2⟩ => by subst e; simp [OwnX.cats, r1.cat, SR.cats r2]
theorem SR.app {am : List Addr} : ∀ {S ws : List Value} (A B : List Value), SR am S ws → S = A ++ B → ∃ x y, ws = x ++ y ∧ SR am A x ∧ SR am B y
  | S, ws, [], B, r, e => ⟨[], ws, rfl, rfl, by rw [show B = S from by simpa using e.symm]; exact r⟩
  | S, ws, v :: A, B, r, e => by
    subst e
    obtain ⟨w, ws', rfl, r1, r2⟩ := r
    obtain ⟨x, y, rfl, h1, h2⟩ := SR.app A B r2 rfl
    exact ⟨w :: x, y, rfl, ⟨w, x, rfl, r1, h1⟩, h2⟩
theorem SR.join {am : List Addr} : ∀ {A x B y : List Value}, SR am A x → SR am B y → SR am (A ++ B) (x ++ y)
  | [], _, _, _, h, h' => by cases h; exact h'
  | _ :: _, _, _, _, ⟨w, ws', e, r1, r2⟩, h' => by subst e; exact ⟨w, _, rfl, r1, SR.join r2 h'⟩
theorem SR.rev {am : List Addr} : ∀ {A x : List Value}, SR am A x → SR am A.reverse x.reverse
  | [], _, h => by cases h; rfl
  | _ :: _, _, ⟨w, ws', e, r1, r2⟩ => by
    subst e
    rw [List.reverse_cons, List.reverse_cons]
    exact SR.join (SR.rev r2) ⟨w, [], rfl, r1, rfl⟩
theorem SR.len {am : List Addr} : ∀ {A x : List Value}, SR am A x → x.length = A.length
  | [], _, h => by cases h; rfl
  | _ :: _, _, ⟨w, ws', e, r1, r2⟩ => by subst e; simp [SR.len r2]
def WFL (l : Array Slot) : Prop := (∀ (i : Nat) w, l[i]? = some (.val w) → w.category = 2 → l[i + 1]? = some .second) ∧ (∀ (i : Nat), l[i]? = some .second → ∃ (j : Nat) (w : Value), i = j + 1 ∧ l[j]? = some (.val w) ∧ w.category = 2)
/-- the places of the variables behind a store of one word -/
def After1 (l l' : Array Slot) (i : Nat) (v : Value) : Prop := ∀ j : Nat, l'[j]? = if j = i then some (.val v) else if j + 1 = i ∧ l[i]? = some .second then some .unset else if j = i + 1 ∧ l[j]? = some .second then some .unset else l[j]?
theorem sib (l : Array Slot) (i j : Nat) (x : Slot) (hi : i < l.size) : (l.setIfInBounds i x)[j]? = if j = i then some x else l[j]? := by
  by_cases h : j = i
  · subst h; simp [hi]
  · simp [Array.getElem?_setIfInBounds_ne (Ne.symm h), h]
theorem store1w {l : Array Slot} {i : Nat} {v : Value} (hw : WFL l) (hi : i < l.size) (hv : v.category = 1) : ∃ l', storeLocals l i v = some l' ∧ l'.size = l.size ∧ After1 l l' i v := by
  have hv2 : ¬ v.category = 2 := by omega
  have hg : l[i]? = some l[i] := Array.getElem?_eq_getElem hi
  cases hq : l[i] with
  | unset =>
    rw [hq] at hg
    refine ⟨l.setIfInBounds i (.val v), by simp [storeLocals, storeSelf, setAt, hg, hq, hi, hv2], by simp, fun j => ?_⟩
    rw [sib _ _ _ _ hi, hg]
    by_cases h : j = i
    · simp [h]
    · simp only [h, if_false, reduceCtorEq, and_false, Option.some.injEq]
      by_cases h2 : j = i + 1 ∧ l[j]? = some .second
      · obtain ⟨j', w, e1, e2, e3⟩ := hw.2 _ h2.2
        have : j' = i := by omega
        subst this; rw [hg] at e2; cases e2
      · simp [h2]
  | second =>
    rw [hq] at hg
    obtain ⟨j0, w, e1, e2, e3⟩ := hw.2 _ hg
    subst e1
    have hj0 : j0 < l.size := by omega
    refine ⟨(l.setIfInBounds j0 .unset).setIfInBounds (j0 + 1) (.val v), by simp [storeLocals, storeSelf, setAt, hg, hq, hi, hv2, hj0], by simp, fun j => ?_⟩
    rw [sib _ _ _ _ (by simpa using hi), sib _ _ _ _ hj0, hg]
    by_cases h : j = j0 + 1
    · simp [h]
    · by_cases h3 : j = j0
      · subst h3; simp
      · have h4 : ¬ (j + 1 = j0 + 1) := by omega
        by_cases h2 : j = j0 + 1 + 1 ∧ l[j]? = some .second
        · obtain ⟨j', w', f1, f2, f3⟩ := hw.2 _ h2.2
          have : j' = j0 + 1 := by omega
          subst this; rw [hg] at f2; cases f2
        · simp [h, h3, h2]
  | val old =>
    rw [hq] at hg
    by_cases hc : old.category = 2
    · have h1 := hw.1 _ _ hg hc
      have h1' := (Array.getElem?_eq_some_iff.mp h1).1
      refine ⟨(l.setIfInBounds (i + 1) .unset).setIfInBounds i (.val v), by simp [storeLocals, storeSelf, setAt, hg, hq, hi, hv2, hc, h1'], by simp, fun j => ?_⟩
      rw [sib _ _ _ _ (by simpa using hi), sib _ _ _ _ h1', hg]
      by_cases h : j = i
      · simp [h]
      · by_cases h3 : j = i + 1
        · subst h3; simp [h1]
        · simp [h, h3]
    · refine ⟨l.setIfInBounds i (.val v), by simp [storeLocals, storeSelf, setAt, hg, hq, hi, hv2, hc], by simp, fun j => ?_⟩
      rw [sib _ _ _ _ hi, hg]
      by_cases h : j = i
      · simp [h]
      · simp only [h, if_false, reduceCtorEq, and_false, Option.some.injEq]
        by_cases h2 : j = i + 1 ∧ l[j]? = some .second
        · obtain ⟨j', w, e1, e2, e3⟩ := hw.2 _ h2.2
          have : j' = i := by omega
          subst this; rw [hg] at e2; cases e2; exact absurd e3 hc
        · simp [h2]
theorem After1.wf {l l' : Array Slot} {i : Nat} {v : Value} (hw : WFL l) (hv : v.category = 1) (A : After1 l l' i v) : WFL l' := by
  refine ⟨fun j w h1 h2 => ?_, fun j h1 => ?_⟩
  · rw [A j] at h1
    by_cases c1 : j = i
    · simp only [c1, if_true, Option.some.injEq, Slot.val.injEq] at h1; subst h1; omega
    · rw [if_neg c1] at h1
      by_cases c2 : j + 1 = i ∧ l[i]? = some .second
      · rw [if_pos c2] at h1; cases h1
      · rw [if_neg c2] at h1
        by_cases c3 : j = i + 1 ∧ l[j]? = some .second
        · rw [if_pos c3] at h1; cases h1
        · rw [if_neg c3] at h1
          have h3 := hw.1 _ _ h1 h2
          rw [A (j + 1)]
          have n1 : ¬ (j + 1 = i) := fun q => c2 ⟨q, q ▸ h3⟩
          have n2 : ¬ (j + 1 + 1 = i ∧ l[i]? = some .second) := fun ⟨q1, q2⟩ => by
            obtain ⟨j', w', f1, f2, f3⟩ := hw.2 _ q2
            have : j' = j + 1 := by omega
            subst this; rw [h3] at f2; cases f2
          have n3 : ¬ (j + 1 = i + 1 ∧ l[j + 1]? = some .second) := fun ⟨q1, _⟩ => c1 (by omega)
          rw [if_neg n1, if_neg n2, if_neg n3]; exact h3
  · rw [A j] at h1
    by_cases c1 : j = i
    · rw [if_pos c1] at h1; cases h1
    · rw [if_neg c1] at h1
      by_cases c2 : j + 1 = i ∧ l[i]? = some .second
      · rw [if_pos c2] at h1; cases h1
      · rw [if_neg c2] at h1
        by_cases c3 : j = i + 1 ∧ l[j]? = some .second
        · rw [if_pos c3] at h1; cases h1
        · rw [if_neg c3] at h1
          obtain ⟨j', w, e1, e2, e3⟩ := hw.2 _ h1
          refine ⟨j', w, e1, ?_, e3⟩
          rw [A j']
          have n1 : ¬ (j' = i) := fun q => c3 ⟨by omega, h1⟩
          have n2 : ¬ (j' + 1 = i ∧ l[i]? = some .second) := fun ⟨q, _⟩ => c1 (by omega)
          have n3 : ¬ (j' = i + 1 ∧ l[j']? = some .second) := fun ⟨_, q⟩ => by rw [e2] at q; cases q
          rw [if_neg n1, if_neg n2, if_neg n3]; exact e2
def lng (o : Option Slot) : Bool := match o with | some (.val w) => decide (w.category = 2) | _ => false
theorem lng_iff (o : Option Slot) : lng o = true ↔ ∃ w, o = some (.val w) ∧ w.category = 2 := by
  unfold lng
  split
  · rename_i w; simp
  · rename_i h; simp; intro w hw; exact absurd hw (h w)
/-- behind a store of a long -/
def After2 (l l' : Array Slot) (i : Nat) (v : Value) : Prop := ∀ j : Nat, l'[j]? = if j = i then some (.val v) else if j = i + 1 then some .second else if j + 1 = i ∧ l[i]? = some .second then some .unset else if j = i + 2 ∧ l[j]? = some .second then some .unset else l[j]?
theorem self2 {l : Array Slot} {i : Nat} {v : Value} (hi : i + 1 < l.size) (hv : v.category = 2) (hz : ∀ w, l[i + 1]? = some (.val w) → w.category = 2 → i + 2 < l.size) :
    ∃ l', storeSelf l i v = some l' ∧ l'.size = l.size ∧ ∀ j : Nat, l'[j]? = if j = i then some (.val v) else if j = i + 1 then some .second else if j = i + 2 ∧ lng l[i + 1]? = true then some .unset else l[j]? := by
  have hi0 : i < l.size := by omega
  have hg : l[i + 1]? = some l[i + 1] := Array.getElem?_eq_getElem hi
  have hne : (l.setIfInBounds i (.val v))[i + 1]? = l[i + 1]? := Array.getElem?_setIfInBounds_ne (by omega)
  have hplain : (∀ w, l[i + 1] = .val w → ¬ w.category = 2) → storeSelf l i v = some ((l.setIfInBounds i (.val v)).setIfInBounds (i + 1) .second) := fun hn => by
    cases hq : l[i + 1] with
    | val w => simp [storeSelf, setAt, hi0, hv, hne, hg, hq, hn _ hq, hi]
    | unset => simp [storeSelf, setAt, hi0, hv, hne, hg, hq, hi]
    | second => simp [storeSelf, setAt, hi0, hv, hne, hg, hq, hi]
  by_cases hx : ∃ w, l[i + 1] = .val w ∧ w.category = 2
  · obtain ⟨w, hw1, hw2⟩ := hx
    have h2 := hz w (by rw [hg, hw1]) hw2
    refine ⟨((l.setIfInBounds i (.val v)).setIfInBounds (i + 2) .unset).setIfInBounds (i + 1) .second, by simp [storeSelf, setAt, hi0, hv, hne, hg, hw1, hw2, hi, h2], by simp, fun j => ?_⟩
    rw [sib _ _ _ _ (by simpa using hi), sib _ _ _ _ (by simpa using h2), sib _ _ _ _ hi0]
    have hE : lng l[i + 1]? = true := (lng_iff _).mpr ⟨w, by rw [hg, hw1], hw2⟩
    by_cases c1 : j = i
    · subst c1; simp
    · by_cases c2 : j = i + 1
      · subst c2; simp
      · by_cases c3 : j = i + 2
        · subst c3; simp [hE]
        · simp [c1, c2, c3]
  · refine ⟨_, hplain fun w h1 h2 => hx ⟨w, h1, h2⟩, by simp, fun j => ?_⟩
    rw [sib _ _ _ _ (by simpa using hi), sib _ _ _ _ hi0]
    have hE : ¬ lng l[i + 1]? = true := fun q => by
      obtain ⟨w, q1, q2⟩ := (lng_iff _).mp q
      exact hx ⟨w, by rw [hg] at q1; exact Option.some.inj q1, q2⟩
    by_cases c1 : j = i
    · subst c1; simp
    · by_cases c2 : j = i + 1
      · subst c2; simp
      · simp [c1, c2, hE]
theorem store2w {l : Array Slot} {i : Nat} {v : Value} (hw : WFL l) (hi : i + 1 < l.size) (hv : v.category = 2) : ∃ l', storeLocals l i v = some l' ∧ l'.size = l.size ∧ After2 l l' i v := by
  have hi0 : i < l.size := by omega
  have hg : l[i]? = some l[i] := Array.getElem?_eq_getElem hi0
  have hz : ∀ w, l[i + 1]? = some (.val w) → w.category = 2 → i + 2 < l.size := fun w q1 q2 => (Array.getElem?_eq_some_iff.mp (hw.1 _ _ q1 q2)).1
  have hsec : ∀ j : Nat, (j = i + 2 ∧ lng l[i + 1]? = true) ↔ (j = i + 2 ∧ l[j]? = some .second) := fun j => by
    constructor
    · rintro ⟨rfl, q⟩
      obtain ⟨w, q1, q2⟩ := (lng_iff _).mp q
      exact ⟨rfl, hw.1 _ _ q1 q2⟩
    · rintro ⟨rfl, q⟩
      obtain ⟨j', w, e1, e2, e3⟩ := hw.2 _ q
      have : j' = i + 1 := by omega
      subst this; exact ⟨rfl, (lng_iff _).mpr ⟨w, e2, e3⟩⟩
  cases hq : l[i] with
  | unset =>
    rw [hq] at hg
    obtain ⟨l', h1, h2, h3⟩ := self2 hi hv hz
    refine ⟨l', by simp [storeLocals, hg, hq, hi0, h1], h2, fun j => ?_⟩
    rw [h3 j, hg]; simp only [hsec, reduceCtorEq, and_false, if_false, Option.some.injEq]
  | second =>
    rw [hq] at hg
    obtain ⟨j0, w, e1, e2, e3⟩ := hw.2 _ hg
    subst e1
    have hj0 : j0 < l.size := by omega
    have hi' : j0 + 1 + 1 < (l.setIfInBounds j0 .unset).size := by simpa using hi
    have hk : ∀ j : Nat, j ≠ j0 → (l.setIfInBounds j0 .unset)[j]? = l[j]? := fun j h => Array.getElem?_setIfInBounds_ne (Ne.symm h)
    obtain ⟨l', h1, h2, h3⟩ := self2 (l := l.setIfInBounds j0 .unset) hi' hv (fun w q1 q2 => by rw [hk _ (by omega)] at q1; simpa using hz w q1 q2)
    refine ⟨l', by simp [storeLocals, setAt, hg, hq, hi0, hj0, h1], by simpa using h2, fun j => ?_⟩
    rw [h3 j, hg, hk (j0 + 1 + 1) (by omega)]; simp only [hsec]
    by_cases c1 : j = j0 + 1
    · simp [c1]
    · by_cases c2 : j = j0 + 1 + 1
      · simp [c2]
      · by_cases c3 : j = j0
        · subst c3; simp [hj0]
        · rw [hk _ c3]
          have : ¬ (j + 1 = j0 + 1) := by omega
          simp [c1, c2, c3]
  | val old =>
    rw [hq] at hg
    by_cases hc : old.category = 2
    · have g1 := hw.1 _ _ hg hc
      have hi' : i + 1 < (l.setIfInBounds (i + 1) .unset).size := by simpa using hi
      have hk : ∀ j : Nat, j ≠ i + 1 → (l.setIfInBounds (i + 1) .unset)[j]? = l[j]? := fun j h => Array.getElem?_setIfInBounds_ne (Ne.symm h)
      have hk1 : (l.setIfInBounds (i + 1) .unset)[i + 1]? = some .unset := by simp [hi]
      obtain ⟨l', h1, h2, h3⟩ := self2 (l := l.setIfInBounds (i + 1) .unset) hi' hv (fun w q1 q2 => by rw [hk1] at q1; cases q1)
      refine ⟨l', by simp [storeLocals, setAt, hg, hq, hi0, hc, hi, h1], by simpa using h2, fun j => ?_⟩
      rw [h3 j, hg, hk1]
      by_cases c1 : j = i
      · simp [c1]
      · by_cases c2 : j = i + 1
        · simp [c2]
        · rw [hk _ c2]
          have c3 : ¬ (j = i + 2 ∧ l[j]? = some .second) := fun ⟨q1, q2⟩ => by
            subst q1
            obtain ⟨j', w, e1, e2, e3⟩ := hw.2 _ q2
            have : j' = i + 1 := by omega
            subst this; rw [g1] at e2; cases e2
          simp [c1, c2, c3, lng]
    · obtain ⟨l', h1, h2, h3⟩ := self2 hi hv hz
      refine ⟨l', by simp [storeLocals, hg, hq, hi0, hc, h1], h2, fun j => ?_⟩
      rw [h3 j, hg]; simp only [hsec, reduceCtorEq, and_false, if_false, Option.some.injEq]
theorem After2.wf {l l' : Array Slot} {i : Nat} {v : Value} (hw : WFL l) (hv : v.category = 2) (A : After2 l l' i v) : WFL l' := by
  refine ⟨fun j w h1 h2 => ?_, fun j h1 => ?_⟩
  · rw [A j] at h1
    by_cases c1 : j = i
    · subst c1; rw [A (j + 1)]; simp
    · rw [if_neg c1] at h1
      by_cases c0 : j = i + 1
      · rw [if_pos c0] at h1; cases h1
      · rw [if_neg c0] at h1
        by_cases c2 : j + 1 = i ∧ l[i]? = some .second
        · rw [if_pos c2] at h1; cases h1
        · rw [if_neg c2] at h1
          by_cases c3 : j = i + 2 ∧ l[j]? = some .second
          · rw [if_pos c3] at h1; cases h1
          · rw [if_neg c3] at h1
            have h3 := hw.1 _ _ h1 h2
            rw [A (j + 1)]
            have n1 : ¬ (j + 1 = i) := fun q => c2 ⟨q, q ▸ h3⟩
            have n0 : ¬ (j + 1 = i + 1) := by omega
            have n2 : ¬ (j + 1 + 1 = i ∧ l[i]? = some .second) := fun ⟨q1, q2⟩ => by
              obtain ⟨j', w', f1, f2, f3⟩ := hw.2 _ q2
              have : j' = j + 1 := by omega
              subst this; rw [h3] at f2; cases f2
            have n3 : ¬ (j + 1 = i + 2 ∧ l[j + 1]? = some .second) := fun ⟨q1, _⟩ => c0 (by omega)
            rw [if_neg n1, if_neg n0, if_neg n2, if_neg n3]; exact h3
  · rw [A j] at h1
    by_cases c1 : j = i
    · rw [if_pos c1] at h1; cases h1
    · rw [if_neg c1] at h1
      by_cases c0 : j = i + 1
      · subst c0; exact ⟨i, v, rfl, by rw [A i]; simp, hv⟩
      · rw [if_neg c0] at h1
        by_cases c2 : j + 1 = i ∧ l[i]? = some .second
        · rw [if_pos c2] at h1; cases h1
        · rw [if_neg c2] at h1
          by_cases c3 : j = i + 2 ∧ l[j]? = some .second
          · rw [if_pos c3] at h1; cases h1
          · rw [if_neg c3] at h1
            obtain ⟨j', w, e1, e2, e3⟩ := hw.2 _ h1
            refine ⟨j', w, e1, ?_, e3⟩
            rw [A j']
            have n1 : ¬ (j' = i) := fun q => c0 (by omega)
            have n0 : ¬ (j' = i + 1) := fun q => c3 ⟨by omega, h1⟩
            have n2 : ¬ (j' + 1 = i ∧ l[i]? = some .second) := fun ⟨q, _⟩ => c1 (by omega)
            have n3 : ¬ (j' = i + 2 ∧ l[j']? = some .second) := fun ⟨_, q⟩ => by rw [e2] at q; cases q
            rw [if_neg n1, if_neg n0, if_neg n2, if_neg n3]; exact e2
def LR (am : List Addr) (L : ALoc) (l : Array Slot) : Prop := L.length = l.size ∧ WFL l ∧ ∀ (i : Nat) v, L[i]? = some (some v) → ∃ w, l[i]? = some (.val w) ∧ VR am v w
theorem LR.mono {am am' : List Addr} (h : Pre am am') {L : ALoc} {l : Array Slot} (r : LR am L l) : LR am' L l :=
  ⟨r.1, r.2.1, fun i v q => by obtain ⟨w, h1, h2⟩ := r.2.2 i v q; exact ⟨w, h1, h2.mono h⟩⟩
theorem kill1_len (L : ALoc) (i : Nat) : (kill1 L i).length = L.length := by
  unfold kill1; split
  · rfl
  · split <;> simp
theorem kill1_get {L : ALoc} {i j : Nat} {v : Value} (h : (kill1 L i)[j]? = some (some v)) : L[j]? = some (some v) ∧ (j + 1 = i → ∀ x, v ≠ .long x) := by
  unfold kill1 at h
  split at h
  · exact ⟨h, fun q => by omega⟩
  · rename_i i
    split at h
    · rename_i x hx
      by_cases e : j = i
      · subst e
        rw [List.getElem?_set] at h
        split at h
        · split at h <;> simp at h
        · omega
      · rw [List.getElem?_set_ne (Ne.symm e)] at h
        exact ⟨h, fun q => absurd (by omega) e⟩
    · rename_i hn
      refine ⟨h, fun q x e => ?_⟩
      have : j = i := by omega
      subst this; subst e; exact hn x h
theorem LR.put {am : List Addr} {L L' : ALoc} {l : Array Slot} {i : Nat} {v w : Value} (r : LR am L l) (h : lput L i v = some L') (hv : VR am v w) (hc : w.category = 1) : ∃ l', storeLocals l i w = some l' ∧ l'.size = l.size ∧ LR am L' l' := by
  unfold lput at h
  cases hb : Nat.ble (i + 1) L.length
  · rw [hb] at h; cases h
  · rw [hb] at h
    have hi : i < L.length := Nat.le_of_ble_eq_true hb
    simp only [cond_true, Option.some.injEq] at h
    obtain ⟨l', h1, h2, h3⟩ := store1w (v := w) r.2.1 (by rw [← r.1]; exact hi) hc
    refine ⟨l', h1, h2, ?_, h3.wf r.2.1 hc, fun j u hu => ?_⟩
    · rw [← h]; simp [kill1_len, r.1, h2]
    · rw [← h, List.getElem?_set] at hu
      rw [h3 j]
      by_cases c : i = j
      · subst c
        simp only [if_true] at hu
        split at hu
        · cases hu; exact ⟨w, by simp, hv⟩
        · cases hu
      · rw [if_neg c] at hu
        obtain ⟨q1, q2⟩ := kill1_get hu
        obtain ⟨w', q3, q4⟩ := r.2.2 j u q1
        have n1 : ¬ (j = i) := fun q => c q.symm
        have n2 : ¬ (j + 1 = i ∧ l[i]? = some .second) := fun ⟨a1, a2⟩ => by
          obtain ⟨j', w2, e1, e2, e3⟩ := r.2.1.2 _ a2
          have : j' = j := by omega
          subst this; rw [q3] at e2; cases e2
          have q5 := q4.cat
          rw [e3] at q5
          cases u <;> simp [OwnX.cat] at q5
          exact q2 a1 _ rfl
        have n3 : ¬ (j = i + 1 ∧ l[j]? = some .second) := fun ⟨_, q⟩ => by rw [q3] at q; cases q
        exact ⟨w', by rw [if_neg n1, if_neg n2, if_neg n3]; exact q3, q4⟩
theorem LR.putL {am : List Addr} {L L' : ALoc} {l : Array Slot} {i : Nat} {x : Int64} (r : LR am L l) (h : lputL L i x = some L') : ∃ l', storeLocals l i (.long x) = some l' ∧ l'.size = l.size ∧ LR am L' l' := by
  unfold lputL at h
  cases hb : Nat.ble (i + 2) L.length
  · rw [hb] at h; cases h
  · rw [hb] at h
    have hi : i + 1 < L.length := Nat.le_of_ble_eq_true hb
    simp only [cond_true, Option.some.injEq] at h
    obtain ⟨l', h1, h2, h3⟩ := store2w (v := .long x) r.2.1 (by rw [← r.1]; exact hi) rfl
    refine ⟨l', h1, h2, ?_, h3.wf r.2.1 rfl, fun j u hu => ?_⟩
    · rw [← h]; simp [kill1_len, r.1, h2]
    · rw [← h, List.getElem?_set] at hu
      rw [h3 j]
      by_cases c0 : i + 1 = j
      · subst c0
        simp only [if_true] at hu
        split at hu <;> cases hu
      · rw [if_neg c0, List.getElem?_set] at hu
        by_cases c : i = j
        · subst c
          simp only [if_true] at hu
          split at hu
          · cases hu; exact ⟨.long x, by simp, rfl⟩
          · cases hu
        · rw [if_neg c] at hu
          obtain ⟨q1, q2⟩ := kill1_get hu
          obtain ⟨w', q3, q4⟩ := r.2.2 j u q1
          have n1 : ¬ (j = i) := fun q => c q.symm
          have n0 : ¬ (j = i + 1) := fun q => c0 q.symm
          have n2 : ¬ (j + 1 = i ∧ l[i]? = some .second) := fun ⟨a1, a2⟩ => by
            obtain ⟨j', w2, e1, e2, e3⟩ := r.2.1.2 _ a2
            have : j' = j := by omega
            subst this; rw [q3] at e2; cases e2
            have q5 := q4.cat
            rw [e3] at q5
            cases u <;> simp [OwnX.cat] at q5
            exact q2 a1 _ rfl
          have n3 : ¬ (j = i + 2 ∧ l[j]? = some .second) := fun ⟨_, q⟩ => by rw [q3] at q; cases q
          exact ⟨w', by rw [if_neg n1, if_neg n0, if_neg n2, if_neg n3]; exact q3, q4⟩
theorem LR.int {am : List Addr} {L : ALoc} {l : Array Slot} {i : Nat} {x : Int32} (r : LR am L l) (h : loadI L i = some x) : l[i]? = some (.val (.int x)) := by
  unfold loadI at h
  split at h
  · rename_i y hy
    cases h
    obtain ⟨w, h1, h2⟩ := r.2.2 _ _ hy
    cases h2; exact h1
  · cases h
theorem LR.long {am : List Addr} {L : ALoc} {l : Array Slot} {i : Nat} {x : Int64} (r : LR am L l) (h : loadJ L i = some x) : l[i]? = some (.val (.long x)) := by
  unfold loadJ at h
  split at h
  · rename_i y hy
    cases h
    obtain ⟨w, h1, h2⟩ := r.2.2 _ _ hy
    cases h2; exact h1
  · cases h
theorem LR.ref {am : List Addr} {L : ALoc} {l : Array Slot} {i x : Nat} (r : LR am L l) (h : loadA L i = some x) : ∃ a, am[x]? = some a ∧ l[i]? = some (.val (.ref a)) := by
  unfold loadA at h
  split at h
  · rename_i y hy
    cases h
    obtain ⟨w, h1, a, h2, rfl⟩ := r.2.2 _ _ hy
    exact ⟨a, h2, h1⟩
  · cases h
end Jvm.OwnX
namespace Jvm.OwnX
open Sem ClassFile Op Lib Jvm.Stand Jvm.Free Jvm.LawKit Jvm.RoadKit
/-! ## the entry's variables -/
def slotsL : List Value → List Slot
  | [] => []
  | v :: r => if v.category = 2 then .val v :: .second :: slotsL r else .val v :: slotsL r
theorem fold_slots : ∀ (ws : List Value) (acc : Array Slot), ws.foldl (fun acc v => if v.category = 2 then (acc.push (.val v)).push .second else acc.push (.val v)) acc = acc ++ (slotsL ws).toArray
  | [], acc => by simp [slotsL]
  | v :: r, acc => by
    rw [List.foldl_cons, fold_slots r]
    by_cases h : v.category = 2
    · simp only [h, if_true, slotsL]; apply Array.ext'; simp
    · simp only [h, if_false, slotsL]; apply Array.ext'; simp
theorem argsToLocals_eq (ws : List Value) (n : Nat) : argsToLocals ws.toArray n = (slotsL ws ++ List.replicate (n - (slotsL ws).length) Slot.unset).toArray := by
  unfold argsToLocals
  have h : Array.foldl (fun acc v => if v.category = 2 then (acc.push (.val v)).push .second else acc.push (.val v)) #[] ws.toArray = (slotsL ws).toArray := by
    rw [List.foldl_toArray, fold_slots]; simp
  simp only [h]
  apply Array.ext'; simp
def WFl (s : List Slot) : Prop := (∀ (i : Nat) (w : Value), s[i]? = some (Slot.val w) → w.category = 2 → s[i + 1]? = some Slot.second) ∧ (∀ (i : Nat), s[i]? = some Slot.second → ∃ (j : Nat) (w : Value), i = j + 1 ∧ s[j]? = some (Slot.val w) ∧ w.category = 2)
theorem WFl.nil : WFl [] := ⟨fun i w h => by simp at h, fun i h => by simp at h⟩
theorem WFl.one {s : List Slot} (h : WFl s) {v : Value} (hv : ¬ v.category = 2) : WFl (.val v :: s) := by
  refine ⟨fun i w h1 h2 => ?_, fun i h1 => ?_⟩
  · cases i with
    | zero => simp at h1; subst h1; exact absurd h2 hv
    | succ i => rw [List.getElem?_cons_succ] at h1 ⊢; exact h.1 _ _ h1 h2
  · cases i with
    | zero => simp at h1
    | succ i =>
      rw [List.getElem?_cons_succ] at h1
      obtain ⟨j, w, rfl, e2, e3⟩ := h.2 _ h1
      exact ⟨j + 1, w, rfl, by rw [List.getElem?_cons_succ]; exact e2, e3⟩
theorem WFl.two {s : List Slot} (h : WFl s) {v : Value} (hv : v.category = 2) : WFl (.val v :: .second :: s) := by
  refine ⟨fun i w h1 h2 => ?_, fun i h1 => ?_⟩
  · match i with
    | 0 => simp
    | 1 => simp at h1
    | i + 2 => simp only [List.getElem?_cons_succ] at h1 ⊢; exact h.1 _ _ h1 h2
  · match i with
    | 0 => simp at h1
    | 1 => exact ⟨0, v, rfl, by simp, hv⟩
    | i + 2 =>
      simp only [List.getElem?_cons_succ] at h1
      obtain ⟨j, w, rfl, e2, e3⟩ := h.2 _ h1
      exact ⟨j + 2, w, rfl, by simp only [List.getElem?_cons_succ]; exact e2, e3⟩
theorem WFl.pad {s : List Slot} (h : WFl s) (n : Nat) : WFl (s ++ List.replicate n Slot.unset) := by
  have hk : ∀ (i : Nat) (x : Slot), (s ++ List.replicate n Slot.unset)[i]? = some x → x ≠ Slot.unset → s[i]? = some x := fun i x q hx => by
    by_cases c : i < s.length
    · rw [List.getElem?_append_left c] at q; exact q
    · rw [List.getElem?_append_right (by omega), List.getElem?_replicate] at q
      split at q
      · cases q; exact absurd rfl hx
      · cases q
  have hl : ∀ (i : Nat) (x : Slot), s[i]? = some x → (s ++ List.replicate n Slot.unset)[i]? = some x := fun i x q => by
    rw [List.getElem?_append_left (List.getElem?_eq_some_iff.mp q).1]; exact q
  refine ⟨fun i w h1 h2 => hl _ _ (h.1 _ _ (hk _ _ h1 (by simp)) h2), fun i h1 => ?_⟩
  obtain ⟨j, w, e1, e2, e3⟩ := h.2 _ (hk _ _ h1 (by simp))
  exact ⟨j, w, e1, hl _ _ e2, e3⟩
theorem slotsL_ok {am : List Addr} : ∀ {as ws : List Value}, SR am as ws → (entL as).length = (slotsL ws).length ∧ WFl (slotsL ws) ∧ ∀ (i : Nat) (v : Value), (entL as)[i]? = some (some v) → ∃ w, (slotsL ws)[i]? = some (Slot.val w) ∧ VR am v w
  | [], _, h => by cases h; exact ⟨rfl, WFl.nil, fun i v q => by simp [entL] at q⟩
  | v :: r, _, ⟨w, ws', e, r1, r2⟩ => by
    subst e
    obtain ⟨i1, i2, i3⟩ := slotsL_ok r2
    have hc := r1.cat
    by_cases h2 : ∃ x, v = .long x
    · obtain ⟨x, rfl⟩ := h2
      have hc2 : w.category = 2 := hc
      refine ⟨by simp [entL, slotsL, hc2, i1], by simp only [slotsL, hc2, if_true]; exact i2.two hc2, fun i u q => ?_⟩
      simp only [slotsL, hc2, if_true, entL] at q ⊢
      match i with
      | 0 => simp at q; subst q; exact ⟨w, by simp, r1⟩
      | 1 => simp at q
      | i + 2 => simp only [List.getElem?_cons_succ] at q ⊢; exact i3 i u q
    · have hv1 : OwnX.cat v = 1 := by cases v <;> first | rfl | (exact absurd ⟨_, rfl⟩ h2)
      have hc2 : ¬ w.category = 2 := by rw [hc, hv1]; decide
      have he : entL (v :: r) = some v :: entL r := by cases v <;> first | rfl | (exact absurd ⟨_, rfl⟩ h2)
      refine ⟨by simp [he, slotsL, hc2, i1], by simp only [slotsL, hc2, if_false]; exact i2.one hc2, fun i u q => ?_⟩
      rw [he] at q
      simp only [slotsL, hc2, if_false]
      match i with
      | 0 => simp at q; subst q; exact ⟨w, by simp, r1⟩
      | i + 1 => simp only [List.getElem?_cons_succ] at q ⊢; exact i3 i u q
theorem LR.entry {am : List Addr} {as ws : List Value} {n : Nat} (h : SR am as ws) (hn : (entL as).length ≤ n) : LR am (pad n (entL as)) (argsToLocals ws.toArray n) := by
  obtain ⟨h1, h2, h3⟩ := slotsL_ok h
  rw [argsToLocals_eq]
  have hw := h2.pad (n - (slotsL ws).length)
  refine ⟨by simp [pad, h1], ⟨fun i w q1 q2 => ?_, fun i q1 => ?_⟩, fun i v q => ?_⟩
  · rw [List.getElem?_toArray] at q1 ⊢; exact hw.1 _ _ q1 q2
  · rw [List.getElem?_toArray] at q1
    obtain ⟨j, w, e1, e2, e3⟩ := hw.2 _ q1
    exact ⟨j, w, e1, by rw [List.getElem?_toArray]; exact e2, e3⟩
  · have hi : i < (entL as).length := by
      by_cases c : i < (entL as).length
      · exact c
      · unfold pad at q
        rw [List.getElem?_append_right (by omega), List.getElem?_replicate] at q
        split at q
        · cases q
        · cases q
    unfold pad at q
    rw [List.getElem?_append_left hi] at q
    obtain ⟨w, e1, e2⟩ := h3 i v q
    exact ⟨w, by rw [List.getElem?_toArray, List.getElem?_append_left (by omega)]; exact e1, e2⟩
theorem entry_size {ws : List Value} {n : Nat} (h : (slotsL ws).length ≤ n) : (argsToLocals ws.toArray n).size = n := by
  rw [argsToLocals_eq]; simp; omega
/-! ## the heap -/
def aty : Nat → FieldType
  | 0 => .int
  | 1 => .int
  | 2 => .boolean
  | 3 => .byte
  | _ => .long
def CR (P : Prog) (C : String) (Z : State) (am : List Addr) (c : ACell) (h : Heap) (a : Addr) : Prop := match c with
  | .inl fs => Exa Z h a C ∧ fs.length = P.fields.length ∧ ∀ (j : Nat) (v : Value) (n d : String) (t : Nat) (f : Bool), fs[j]? = some v → P.fields[j]? = some (n, d, t, f) → ∃ w, VR am v w ∧ Fld Z h a C n d w
  | .inr (.inl (t, xs)) => ∃ cl, Arr Z h a cl (aty t) ∧ cl.slots.size = xs.length ∧ ∀ (j : Nat) (x : Int32), xs[j]? = some x → cl.slots[j]? = some (.int x)
  | .inr (.inr xs) => ∃ cl, Arr Z h a cl .long ∧ cl.slots.size = xs.length ∧ ∀ (j : Nat) (x : Int64), xs[j]? = some x → cl.slots[j]? = some (.long x)
def HR (P : Prog) (C : String) (Z : State) (n0 : Nat) (am : List Addr) (H : AHeap) (h : Heap) : Prop :=
  am.length = H.length ∧ (∀ (i j : Nat) (a : Addr), am[i]? = some a → am[j]? = some a → i = j) ∧ (∀ (i : Nat) (a : Addr), am[i]? = some a → a < h.size ∧ (P.ro ≤ i → n0 ≤ a)) ∧ ∀ (i : Nat) (c : ACell), H[i]? = some c → ∃ a, am[i]? = some a ∧ CR P C Z am c h a
section Heap
variable {P : Prog} {C : String} {Z : State} {n0 : Nat} {am am' : List Addr} {H : AHeap} {h h' : Heap} {a b : Addr} {c : ACell}
theorem CR.ext (E : Ext h h') (hp : Pre am am') (r : CR P C Z am c h a) : CR P C Z am' c h' a := by
  match c, r with
  | .inl fs, ⟨r1, r2, r3⟩ => exact ⟨r1.ext E, r2, fun j v n d t f q1 q2 => by obtain ⟨w, e1, e2⟩ := r3 j v n d t f q1 q2; exact ⟨w, e1.mono hp, e2.ext E⟩⟩
  | .inr (.inl (t, xs)), ⟨cl, r1, r2⟩ => exact ⟨cl, r1.ext E, r2⟩
  | .inr (.inr xs), ⟨cl, r1, r2⟩ => exact ⟨cl, r1.ext E, r2⟩
theorem CR.other {sl : Nat} {v : Value} (W : Wr h h' b sl v) (hne : a ≠ b) (r : CR P C Z am c h a) : CR P C Z am c h' a := by
  match c, r with
  | .inl fs, ⟨r1, r2, r3⟩ => exact ⟨r1.wr W, r2, fun j v n d t f q1 q2 => by obtain ⟨w, e1, e2⟩ := r3 j v n d t f q1 q2; exact ⟨w, e1, e2.other W (Or.inl hne)⟩⟩
  | .inr (.inl (t, xs)), ⟨cl, r1, r2⟩ => exact ⟨cl, r1.other W hne, r2⟩
  | .inr (.inr xs), ⟨cl, r1, r2⟩ => exact ⟨cl, r1.other W hne, r2⟩
/-- a new cell -/
theorem HR.push (E : Ext h h') (r : HR P C Z n0 am H h) (hlt : h.size < h'.size) (hn : n0 ≤ h.size) (hc : CR P C Z (am ++ [h.size]) c h' h.size) : HR P C Z n0 (am ++ [h.size]) (H ++ [c]) h' := by
  obtain ⟨r1, r2, r3, r4⟩ := r
  have hin : ∀ (i : Nat) (x : Addr), (am ++ [h.size])[i]? = some x → (am[i]? = some x ∧ i < am.length) ∨ (i = am.length ∧ x = h.size) := fun i x q => by
    by_cases ci : i < am.length
    · rw [List.getElem?_append_left ci] at q; exact Or.inl ⟨q, ci⟩
    · rw [List.getElem?_append_right (by omega)] at q
      have : i - am.length = 0 := by
        by_cases z : i - am.length = 0
        · exact z
        · rw [List.getElem?_eq_none (by simp; omega)] at q; cases q
      rw [this] at q
      simp at q
      exact Or.inr ⟨by omega, q.symm⟩
  refine ⟨by simp [r1], fun i j x q1 q2 => ?_, fun i x q => ?_, fun i d q => ?_⟩
  · rcases hin i x q1 with ⟨u1, u2⟩ | ⟨u1, u2⟩ <;> rcases hin j x q2 with ⟨v1, v2⟩ | ⟨v1, v2⟩
    · exact r2 _ _ _ u1 v1
    · subst v2; exact absurd (r3 _ _ u1).1 (Nat.lt_irrefl _)
    · subst u2; exact absurd (r3 _ _ v1).1 (Nat.lt_irrefl _)
    · omega
  · rcases hin i x q with ⟨u1, u2⟩ | ⟨u1, u2⟩
    · have := r3 _ _ u1; exact ⟨Nat.lt_of_lt_of_le this.1 E.1, this.2⟩
    · subst u2; exact ⟨hlt, fun _ => hn⟩
  · by_cases ci : i < H.length
    · rw [List.getElem?_append_left ci] at q
      obtain ⟨x, e1, e2⟩ := r4 i d q
      exact ⟨x, Pre.app am _ _ _ e1, e2.ext E (Pre.app am _)⟩
    · rw [List.getElem?_append_right (by omega)] at q
      have : i - H.length = 0 := by
        by_cases z : i - H.length = 0
        · exact z
        · rw [List.getElem?_eq_none (by simp; omega)] at q; cases q
      rw [this] at q
      simp at q; subst q
      have e : i = am.length := by omega
      exact ⟨h.size, by rw [e]; simp, hc⟩
/-- a cell changed in place -/
theorem HR.upd {i sl : Nat} {v : Value} (W : Wr h h' a sl v) (r : HR P C Z n0 am H h) (hi : am[i]? = some a) (hc : CR P C Z am c h' a) : HR P C Z n0 am (H.set i c) h' := by
  obtain ⟨r1, r2, r3, r4⟩ := r
  refine ⟨by simp [r1], r2, fun j x q => by rw [W.size]; exact r3 _ _ q, fun j d q => ?_⟩
  rw [List.getElem?_set] at q
  by_cases e : i = j
  · subst e
    simp only [if_true] at q
    split at q
    · cases q; exact ⟨a, hi, hc⟩
    · cases q
  · rw [if_neg e] at q
    obtain ⟨x, e1, e2⟩ := r4 j d q
    exact ⟨x, e1, e2.other W fun q => e (r2 _ _ _ hi (q ▸ e1))⟩
theorem inb_spec {n : Nat} {j : Int32} (h : inb n j = true) : ¬ (j < 0 ∨ n ≤ j.toNatClampNeg) := by
  simp only [inb, Bool.and_eq_true, Bool.not_eq_true', decide_eq_false_iff_not] at h
  have h2 : j.toNatClampNeg < n := Nat.le_of_ble_eq_true h.2
  rintro (q | q)
  · exact h.1 q
  · omega
theorem inb_lt {n : Nat} {j : Int32} (h : inb n j = true) : j.toNatClampNeg < n := by
  have := inb_spec h; exact Nat.lt_of_not_le fun q => this (Or.inr q)
theorem rd_at {xs : List Int32} {j : Int32} (h : inb xs.length j = true) : xs[j.toNatClampNeg]? = some (rd xs j) := by
  rw [rd, List.getD_eq_getElem?_getD, List.getElem?_eq_getElem (inb_lt h)]; rfl
theorem rdL_at {xs : List Int64} {j : Int32} (h : inb xs.length j = true) : xs[j.toNatClampNeg]? = some (rdL xs j) := by
  rw [rdL, List.getD_eq_getElem?_getD, List.getElem?_eq_getElem (inb_lt h)]; rfl
theorem CR.wrI {t : Nat} {xs : List Int32} {j x : Int32} (W : Wr h h' a j.toNatClampNeg (.int x)) (r : CR P C Z am (.inr (.inl (t, xs))) h a) : CR P C Z am (.inr (.inl (t, wr xs j x))) h' a := by
  obtain ⟨cl, r1, r2, r3⟩ := r
  refine ⟨_, r1.same W, by rw [sz_set, r2]; simp [wr], fun i y q => ?_⟩
  unfold wr at q
  rw [List.getElem?_set] at q
  by_cases e : j.toNatClampNeg = i
  · rw [if_pos e] at q
    split at q
    · cases q; subst e
      have hs : j.toNatClampNeg < cl.slots.size := by omega
      simp [Cell.setSlot, hs]
    · cases q
  · rw [if_neg e] at q
    simp only [Cell.setSlot]
    rw [Array.getElem?_setIfInBounds_ne e]; exact r3 _ _ q
theorem CR.wrJ {xs : List Int64} {j : Int32} {x : Int64} (W : Wr h h' a j.toNatClampNeg (.long x)) (r : CR P C Z am (.inr (.inr xs)) h a) : CR P C Z am (.inr (.inr (wrL xs j x))) h' a := by
  obtain ⟨cl, r1, r2, r3⟩ := r
  refine ⟨_, r1.same W, by rw [sz_set, r2]; simp [wrL], fun i y q => ?_⟩
  unfold wrL at q
  rw [List.getElem?_set] at q
  by_cases e : j.toNatClampNeg = i
  · rw [if_pos e] at q
    split at q
    · cases q; subst e
      have hs : j.toNatClampNeg < cl.slots.size := by omega
      simp [Cell.setSlot, hs]
    · cases q
  · rw [if_neg e] at q
    simp only [Cell.setSlot]
    rw [Array.getElem?_setIfInBounds_ne e]; exact r3 _ _ q
end Heap
/-! ## what the sheet's words must say -/
def tyOk : Nat → FieldType → Bool
  | 0, .int => true
  | 1, .boolean => true
  | 2, .long => true
  | 3, .array _ => true
  | _, _ => false
def rcv (q : Nat) : Nat := match q with | 0 => 0 | _ => 1
def KindOk (P : Prog) (nm : Nat → MethodName) (C : String) (Z : State) (a0 : Array Value) (q k : Nat) : Prop := match q with
  | 0 => (Cond.static (nm k)).before a0 Z = true
  | 1 => (nm k).name = "<init>" ∧ (Cond.instanceMethod (nm k)).before a0 Z = true ∧ P.ret k = none
  | 2 => (Cond.declares (nm k)).before a0 Z = true ∧ (Cond.instanceMethod (nm k)).before a0 Z = true ∧ (Cond.selects C (nm k) (nm k)).before a0 Z = true
  | _ => (nm k).cls = C ∧ (Cond.instanceMethod (nm k)).before a0 Z = true ∧ (Cond.privateMethod (nm k)).before a0 Z = true
def CallOk (P : Prog) (nm : Nat → MethodName) (bc : Nat → ByteArray) (cn : Nat → String) (C : String) (Z : State) (a0 : Array Value) (c j q k : Nat) : Prop :=
  (Cond.methodLink (cn c) j (nm k)).before a0 Z = true ∧ (Cond.code (nm k) (bc k) (P.maxL k) (P.ret k)).before a0 Z = true ∧ (Cond.initialized (nm k).cls).before a0 Z = true ∧
      (∃ ps r, parseMethodDescriptor (nm k).desc = some ⟨ps, r⟩ ∧ P.pops k = ps.length + rcv q) ∧ plainName (nm k).cls = true ∧ ((nm k).cls ≠ "java/lang/invoke/MethodHandle" ∧ (nm k).cls ≠ "java/lang/invoke/VarHandle") ∧ (nm k).cls = cn (P.cls k) ∧ (P.ini k = true → (nm k).name = "<init>" ∧ (nm k).cls = C) ∧ KindOk P nm C Z a0 q k
def LinkOk (P : Prog) (nm : Nat → MethodName) (bc : Nat → ByteArray) (cn : Nat → String) (C : String) (Z : State) (a0 : Array Value) (c j q k : Nat) : Prop := match q with
  | 4 => (Cond.methodLink (cn c) j Lib.objectInit).before a0 Z = true ∧ (Cond.instanceMethod Lib.objectInit).before a0 Z = true ∧ (Cond.code Lib.objectInit ⟨#[0xb1]⟩ 1 none).before a0 Z = true
  | 5 => (Cond.classLink (cn c) j C).before a0 Z = true
  | q => CallOk P nm bc cn C Z a0 c j q k
def KonOk (cn : Nat → String) (Z : State) (a0 : Array Value) (c j : Nat) (v : Value) : Prop := match v with
  | .int x => (Cond.constant (cn c) j x).before a0 Z = true
  | .long x => (Cond.constantLong (cn c) j x).before a0 Z = true
  | _ => False
def Good (P : Prog) (nm : Nat → MethodName) (bc : Nat → ByteArray) (cn : Nat → String) (C : String) (Z : State) (a0 : Array Value) : Prop :=
  (∀ k pc i np, P.code k pc = some (i, np) → ∃ len, decode (bc k) pc = .ok (i, len) ∧ np = pc + len ∧ (ilen i = 0 ∨ len = ilen i)) ∧
  (∀ c j f, P.fld c j = some f → ∃ n d t fin, P.fields[f]? = some (n, d, t, fin) ∧ (Cond.fieldLink (cn c) j C n d).before a0 Z = true) ∧
  (∀ (f : Nat) n d t (fin : Bool), P.fields[f]? = some (n, d, t, fin) → (bif fin then (Cond.laysFinal C C n d).before a0 Z else (Cond.lays C C n d).before a0 Z) = true ∧ ∃ ty, parseFieldDescriptor d = some ty ∧ tyOk t ty = true ∧ defaultValue ty = dflt t) ∧
  (∀ (f g : Nat) n d t (fin : Bool) n' d' t' (fin' : Bool), P.fields[f]? = some (n, d, t, fin) → P.fields[g]? = some (n', d', t', fin') → f ≠ g → n ≠ n') ∧
  (∀ c j v, P.kon c j = some v → KonOk cn Z a0 c j v) ∧
  (Cond.instantiable C P.objN).before a0 Z = true ∧ (Cond.initialized C).before a0 Z = true ∧
  (∀ k pc t np, P.code k pc = some (.newarray t, np) → (Cond.arrayClass (newarray.typeOf t)).before a0 Z = true) ∧
  (∀ c j q k, P.link c j = some (q, k) → LinkOk P nm bc cn C Z a0 c j q k)
end Jvm.OwnX
namespace Jvm.OwnX
open Sem ClassFile Op Lib Jvm.Stand Jvm.Free Jvm.LawKit Jvm.RoadKit
section Sound
variable {p : Program} {l : Launch} {e : Env} {R : Room} {s : State} {m : MethodId} {args : Array Value} {below : List Frame} {meth : Method} {c : Code} {T : State} {locs : List Loc} {cells slots : Nat}
variable {P : Prog} {nm : Nat → MethodName} {bc : Nat → ByteArray} {cn : Nat → String} {C : String} {Z : State} {a0 : Array Value} {n0 : Nat}
/-- where the walk stands behind a step -/
def Behind (p : Program) (l : Launch) (e : Env) (R : Room) (s : State) (m : MethodId) (args : Array Value) (below : List Frame) (meth : Method) (c : Code) (P : Prog) (C : String) (Z : State) (n0 : Nat) (am : List Addr) (cells slots : Nat)
    (T : State) (pc : Nat) (ls : Array Slot) (st : List Value) (pc' : Nat) (L' : ALoc) (S' : List Value) (H' : AHeap) (dc ds : Nat) : Prop :=
  ∃ T' am' ls' st' locs', Stand p l e R s m args below meth c T' locs' (cells + dc) (slots + ds) ∧ LR am' L' ls' ∧ ls'.size = ls.size ∧ SR am' S' st' ∧ HR P C Z n0 am' H' T'.heap ∧ Pre am am' ∧ Fr n0 locs' ∧ n0 ≤ T'.heap.size ∧
    ∀ target, Steps p.tables e below (T'.setTop (mkF m pc' ls' st')) target → Steps p.tables e below (T.setTop (mkF m pc ls st)) target
theorem Behind.plain {am : List Addr} {H : AHeap} {pc pc' : Nat} {L' : ALoc} {S' : List Value} {ls ls' : Array Slot} {st st' : List Value} (X : Stand p l e R s m args below meth c T locs cells slots) (hL : LR am L' ls') (hz : ls'.size = ls.size) (hS : SR am S' st') (hH : HR P C Z n0 am H T.heap) (hF : Fr n0 locs) (hn : n0 ≤ T.heap.size)
    (hs : ∀ target, Steps p.tables e below (T.setTop (mkF m pc' ls' st')) target → Steps p.tables e below (T.setTop (mkF m pc ls st)) target) : Behind p l e R s m args below meth c P C Z n0 am cells slots T pc ls st pc' L' S' H (H.length - H.length) (hsz P H - hsz P H) :=
  ⟨T, am, ls', st', locs, by simpa using X, hL, hz, hS, hH, Pre.refl _, hF, hn, hs⟩
theorem Behind.plain' {T' : State} {am : List Addr} {H : AHeap} {pc pc' : Nat} {L' : ALoc} {S' : List Value} {ls ls' : Array Slot} {st st' : List Value} (X : Stand p l e R s m args below meth c T' locs cells slots) (eT : T'.heap = T.heap) (hL : LR am L' ls') (hz : ls'.size = ls.size) (hS : SR am S' st') (hH : HR P C Z n0 am H T.heap) (hF : Fr n0 locs) (hn : n0 ≤ T.heap.size)
    (hs : ∀ target, Steps p.tables e below (T'.setTop (mkF m pc' ls' st')) target → Steps p.tables e below (T.setTop (mkF m pc ls st)) target) : Behind p l e R s m args below meth c P C Z n0 am cells slots T pc ls st pc' L' S' H (H.length - H.length) (hsz P H - hsz P H) :=
  ⟨T', am, ls', st', locs, by simpa using X, hL, hz, hS, by rw [eT]; exact hH, Pre.refl _, hF, by rw [eT]; exact hn, hs⟩
theorem tgt_spec {pc t : Nat} {o : Int} (h : tgt pc o = some t) : 0 ≤ (pc : Int) + o ∧ ((pc : Int) + o).toNat = t := by
  unfold tgt at h
  split at h
  · rename_i n hn; cases h; rw [hn]; exact ⟨Int.natCast_nonneg _, rfl⟩
  · cases h
theorem hsz_app (P : Prog) : ∀ (H : AHeap) (c : ACell), hsz P (H ++ [c]) = hsz P H + csz P.objN c
  | [], c => by simp [hsz]
  | x :: r, c => by simp only [List.cons_append, hsz, hsz_app P r c]; omega
theorem hsz_append (P : Prog) : ∀ (H T : AHeap), hsz P (H ++ T) = hsz P H + hsz P T
  | [], T => by simp [hsz]
  | x :: r, T => by simp only [List.cons_append, hsz, hsz_append P r T]; omega
theorem hsz_set (P : Prog) : ∀ (H : AHeap) (i : Nat) (c c' : ACell), H[i]? = some c' → csz P.objN c = csz P.objN c' → hsz P (H.set i c) = hsz P H
  | [], i, c, c', h, _ => by simp at h
  | x :: r, 0, c, c', h, e => by simp at h; subst h; simp [hsz, e]
  | x :: r, i + 1, c, c', h, e => by simp only [List.set_cons_succ, hsz]; rw [List.getElem?_cons_succ] at h; rw [hsz_set P r i c c' h e]
/-- a write -/
theorem Behind.write {T' : State} {am : List Addr} {H : AHeap} {i sl : Nat} {cc cc' : ACell} {a : Addr} {w : Value} {h' : Heap} {pc pc' : Nat} {L' : ALoc} {S' : List Value} {ls : Array Slot} {st st' : List Value} (X : Stand p l e R s m args below meth c T' (locs ++ [⟨a, sl⟩]) cells slots) (eT : T'.heap = h') (W : Wr T.heap h' a sl w)
    (hL : LR am L' ls) (hS : SR am S' st') (hH : HR P C Z n0 am H T.heap) (hi : am[i]? = some a) (hro : P.ro ≤ i) (hc' : H[i]? = some cc') (hcs : csz P.objN cc = csz P.objN cc') (hC : CR P C Z am cc h' a) (hF : Fr n0 locs) (hn : n0 ≤ T.heap.size)
    (hs : ∀ target, Steps p.tables e below (T'.setTop (mkF m pc' ls st')) target → Steps p.tables e below (T.setTop (mkF m pc ls st)) target) :
    Behind p l e R s m args below meth c P C Z n0 am cells slots T pc ls st pc' L' S' (H.set i cc) ((H.set i cc).length - H.length) (hsz P (H.set i cc) - hsz P H) := by
  rw [hsz_set P H i cc cc' hc' hcs]
  refine ⟨T', am, ls, st', _, by simpa using X, hL, rfl, hS, by rw [eT]; exact hH.upd W hi hC, Pre.refl _, Fr.snoc X hF ((hH.2.2.1 _ _ hi).2 hro), by rw [eT, W.size]; exact hn, hs⟩
theorem arr_new {am : List Addr} {h h' : Heap} {cA : ClassId} {q : Nat} {n : Int32} {t : ArrayType} (ht : atyOf t = some q) (hn : ¬ n < 0) (A : Arr Z h' h.size (newA cA (newarray.typeOf t) n) (newarray.typeOf t)) : CR P C Z am (newC q n.toNatClampNeg) h' h.size := by
  have key : ∀ {d : Value}, ∀ j, (Array.replicate n.toNatClampNeg d)[j]? = if j < n.toNatClampNeg then some d else none := fun j => by rw [Array.getElem?_replicate]
  cases t <;> simp only [atyOf, Option.some.injEq, reduceCtorEq] at ht <;> subst ht
  · refine ⟨_, A, by simp [newA], fun j x q => ?_⟩
    rw [List.getElem?_replicate] at q
    split at q
    · cases q; simp only [newA]; rw [key, if_pos (by assumption)]; rfl
    · cases q
  · refine ⟨_, A, by simp [newA], fun j x q => ?_⟩
    rw [List.getElem?_replicate] at q
    split at q
    · cases q; simp only [newA]; rw [key, if_pos (by assumption)]; rfl
    · cases q
  · refine ⟨_, A, by simp [newA], fun j x q => ?_⟩
    rw [List.getElem?_replicate] at q
    split at q
    · cases q; simp only [newA]; rw [key, if_pos (by assumption)]; rfl
    · cases q
  · refine ⟨_, A, by simp [newA], fun j x q => ?_⟩
    rw [List.getElem?_replicate] at q
    split at q
    · cases q; simp only [newA]; rw [key, if_pos (by assumption)]; rfl
    · cases q
theorem csz_new {t : ArrayType} {q : Nat} (N n : Nat) (ht : atyOf t = some q) : csz N (newC q n) = n := by
  cases t <;> simp only [atyOf, Option.some.injEq, reduceCtorEq] at ht <;> subst ht <;> simp [newC, csz]
set_option maxHeartbeats 4000000 in
theorem step_sound (G : Good P nm bc cn C Z a0) {k pc np pc' : Nat} {i : Instr} {L L' : ALoc} {S S' : List Value} {H H' : AHeap} (hcode : P.code k pc = some (i, np)) (h : step P k i np pc L S H = some (pc', L', S', H'))
    (X : Stand p l e R s m args below meth c T locs cells slots) (hx : p.tables.exec = Jvm.exec) (hZ : Z.Warmed39 s.vm) (hby : c.code = bc k) (hml : c.maxLocals = P.maxL k) (hown : s.vm.findClass (cn (P.cls k)) = some m.cls) (hini : P.ini k = true → meth.name = "<init>" ∧ cn (P.cls k) = C)
    (hrf : P.rf k ≤ R.frames) (hrl : P.rl k ≤ R.locals) (hcells : cells + (H'.length - H.length) ≤ R.cells) (hslots : slots + (hsz P H' - hsz P H) ≤ R.slots) {am : List Addr} {ls : Array Slot} {st : List Value} (hlz : ls.size = P.maxL k) (hL : LR am L ls) (hS : SR am S st) (hH : HR P C Z n0 am H T.heap) (hF : Fr n0 locs) (hn : n0 ≤ T.heap.size) :
    Behind p l e R s m args below meth c P C Z n0 am cells slots T pc ls st pc' L' S' H' (H'.length - H.length) (hsz P H' - hsz P H) := by
  obtain ⟨G1, G2, G3, G4, G5, G6, G7, G8, G9⟩ := G
  obtain ⟨len, hdec, rfl, hlen⟩ := G1 _ _ _ _ hcode
  have hd : decode c.code pc = .ok (i, len) := by rw [hby]; exact hdec
  cases i
  case iload_n n =>
    simp only [step] at h
    obtain rfl := hlen.resolve_left (by simp [ilen])
    cases hl : loadI L n.val with
    | none => simp [hl] at h
    | some x =>
      simp only [hl, Option.some.injEq, Prod.mk.injEq] at h; obtain ⟨rfl, rfl, rfl, rfl⟩ := h
      exact Behind.plain X hL rfl ⟨_, _, rfl, rfl, hS⟩ hH hF hn fun target hr => XS.iloadN X.here hx rfl (g := mkF m pc ls st) hd (hL.int hl) hr
  case iload n =>
    simp only [step] at h
    obtain rfl := hlen.resolve_left (by simp [ilen])
    cases hl : loadI L n with
    | none => simp [hl] at h
    | some x =>
      simp only [hl, Option.some.injEq, Prod.mk.injEq] at h; obtain ⟨rfl, rfl, rfl, rfl⟩ := h
      exact Behind.plain X hL rfl ⟨_, _, rfl, rfl, hS⟩ hH hF hn fun target hr => XS.iload X.here hx rfl (g := mkF m pc ls st) hd (hL.int hl) hr
  case lload_n n =>
    simp only [step] at h
    obtain rfl := hlen.resolve_left (by simp [ilen])
    cases hl : loadJ L n.val with
    | none => simp [hl] at h
    | some x =>
      simp only [hl, Option.some.injEq, Prod.mk.injEq] at h; obtain ⟨rfl, rfl, rfl, rfl⟩ := h
      exact Behind.plain X hL rfl ⟨_, _, rfl, rfl, hS⟩ hH hF hn fun target hr => XS.lloadN X.here hx rfl (g := mkF m pc ls st) hd (hL.long hl) hr
  case lload n =>
    simp only [step] at h
    obtain rfl := hlen.resolve_left (by simp [ilen])
    cases hl : loadJ L n with
    | none => simp [hl] at h
    | some x =>
      simp only [hl, Option.some.injEq, Prod.mk.injEq] at h; obtain ⟨rfl, rfl, rfl, rfl⟩ := h
      exact Behind.plain X hL rfl ⟨_, _, rfl, rfl, hS⟩ hH hF hn fun target hr => XS.lload X.here hx rfl (g := mkF m pc ls st) hd (hL.long hl) hr
  case aload_n n =>
    simp only [step] at h
    obtain rfl := hlen.resolve_left (by simp [ilen])
    cases hl : loadA L n.val with
    | none => simp [hl] at h
    | some x =>
      simp only [hl, Option.some.injEq, Prod.mk.injEq] at h; obtain ⟨rfl, rfl, rfl, rfl⟩ := h
      obtain ⟨a, ha, hl'⟩ := hL.ref hl
      exact Behind.plain X hL rfl ⟨_, _, rfl, ⟨a, ha, rfl⟩, hS⟩ hH hF hn fun target hr => XS.aloadN X.here hx rfl (g := mkF m pc ls st) hd hl' rfl hr
  case aload n =>
    simp only [step] at h
    obtain rfl := hlen.resolve_left (by simp [ilen])
    cases hl : loadA L n with
    | none => simp [hl] at h
    | some x =>
      simp only [hl, Option.some.injEq, Prod.mk.injEq] at h; obtain ⟨rfl, rfl, rfl, rfl⟩ := h
      obtain ⟨a, ha, hl'⟩ := hL.ref hl
      exact Behind.plain X hL rfl ⟨_, _, rfl, ⟨a, ha, rfl⟩, hS⟩ hH hF hn fun target hr => XS.aload X.here hx rfl (g := mkF m pc ls st) hd hl' rfl hr
  case istore_n n =>
    simp only [step] at h
    obtain rfl := hlen.resolve_left (by simp [ilen])
    split at h
    · rename_i x r
      cases hl : lput L n.val (.int x) with
      | none => simp [hl] at h
      | some L2 =>
        simp only [hl, Option.some.injEq, Prod.mk.injEq] at h; obtain ⟨rfl, rfl, rfl, rfl⟩ := h
        obtain ⟨_, _, rfl, rfl, hr'⟩ := hS
        obtain ⟨l', h1, h2, h3⟩ := hL.put (w := .int x) hl rfl rfl
        exact Behind.plain X h3 h2 hr' hH hF hn fun target hr => XS.istoreN X.here hx rfl (g := mkF m pc ls _) hd rfl h1 hr
    · cases h
  case istore n =>
    simp only [step] at h
    obtain rfl := hlen.resolve_left (by simp [ilen])
    split at h
    · rename_i x r
      cases hl : lput L n (.int x) with
      | none => simp [hl] at h
      | some L2 =>
        simp only [hl, Option.some.injEq, Prod.mk.injEq] at h; obtain ⟨rfl, rfl, rfl, rfl⟩ := h
        obtain ⟨_, _, rfl, rfl, hr'⟩ := hS
        obtain ⟨l', h1, h2, h3⟩ := hL.put (w := .int x) hl rfl rfl
        exact Behind.plain X h3 h2 hr' hH hF hn fun target hr => XS.istore X.here hx rfl (g := mkF m pc ls _) hd rfl h1 hr
    · cases h
  case lstore_n n =>
    simp only [step] at h
    obtain rfl := hlen.resolve_left (by simp [ilen])
    split at h
    · rename_i x r
      cases hl : lputL L n.val x with
      | none => simp [hl] at h
      | some L2 =>
        simp only [hl, Option.some.injEq, Prod.mk.injEq] at h; obtain ⟨rfl, rfl, rfl, rfl⟩ := h
        obtain ⟨_, _, rfl, rfl, hr'⟩ := hS
        obtain ⟨l', h1, h2, h3⟩ := hL.putL hl
        exact Behind.plain X h3 h2 hr' hH hF hn fun target hr => XS.lstoreN X.here hx rfl (g := mkF m pc ls _) hd rfl h1 hr
    · cases h
  case lstore n =>
    simp only [step] at h
    obtain rfl := hlen.resolve_left (by simp [ilen])
    split at h
    · rename_i x r
      cases hl : lputL L n x with
      | none => simp [hl] at h
      | some L2 =>
        simp only [hl, Option.some.injEq, Prod.mk.injEq] at h; obtain ⟨rfl, rfl, rfl, rfl⟩ := h
        obtain ⟨_, _, rfl, rfl, hr'⟩ := hS
        obtain ⟨l', h1, h2, h3⟩ := hL.putL hl
        exact Behind.plain X h3 h2 hr' hH hF hn fun target hr => XS.lstore X.here hx rfl (g := mkF m pc ls _) hd rfl h1 hr
    · cases h
  case astore_n n =>
    simp only [step] at h
    obtain rfl := hlen.resolve_left (by simp [ilen])
    split at h
    · rename_i x r
      cases hl : lput L n.val (.ref x) with
      | none => simp [hl] at h
      | some L2 =>
        simp only [hl, Option.some.injEq, Prod.mk.injEq] at h; obtain ⟨rfl, rfl, rfl, rfl⟩ := h
        obtain ⟨_, _, rfl, ⟨a, ha, rfl⟩, hr'⟩ := hS
        obtain ⟨l', h1, h2, h3⟩ := hL.put (w := .ref a) hl ⟨a, ha, rfl⟩ rfl
        exact Behind.plain X h3 h2 hr' hH hF hn fun target hr => XS.astoreN X.here hx rfl (g := mkF m pc ls _) hd rfl rfl h1 hr
    · cases h
  case astore n =>
    simp only [step] at h
    obtain rfl := hlen.resolve_left (by simp [ilen])
    split at h
    · rename_i x r
      cases hl : lput L n (.ref x) with
      | none => simp [hl] at h
      | some L2 =>
        simp only [hl, Option.some.injEq, Prod.mk.injEq] at h; obtain ⟨rfl, rfl, rfl, rfl⟩ := h
        obtain ⟨_, _, rfl, ⟨a, ha, rfl⟩, hr'⟩ := hS
        obtain ⟨l', h1, h2, h3⟩ := hL.put (w := .ref a) hl ⟨a, ha, rfl⟩ rfl
        exact Behind.plain X h3 h2 hr' hH hF hn fun target hr => XS.astore X.here hx rfl (g := mkF m pc ls _) hd rfl rfl h1 hr
    · cases h
  case iinc n cst =>
    simp only [step] at h
    obtain rfl := hlen.resolve_left (by simp [ilen])
    cases hl : loadI L n with
    | none => simp [hl] at h
    | some x =>
      cases hp : lput L n (.int (x + Int32.ofInt cst)) with
      | none => simp [hl, hp] at h
      | some L2 =>
        simp only [hl, hp, Option.some.injEq, Prod.mk.injEq] at h; obtain ⟨rfl, rfl, rfl, rfl⟩ := h
        obtain ⟨l', h1, h2, h3⟩ := hL.put (w := .int (x + Int32.ofInt cst)) hp rfl rfl
        exact Behind.plain X h3 h2 hS hH hF hn fun target hr => XS.iinc X.here hx rfl (g := mkF m pc ls st) hd (hL.int hl) h1 hr
  case iconst q =>
    simp only [step] at h
    obtain rfl := hlen.resolve_left (by simp [ilen])
    simp only [Option.some.injEq, Prod.mk.injEq] at h; obtain ⟨rfl, rfl, rfl, rfl⟩ := h
    exact Behind.plain X hL rfl ⟨_, _, rfl, rfl, hS⟩ hH hF hn fun target hr => XS.iconst X.here hx rfl (g := mkF m pc ls st) hd hr
  case bipush q =>
    simp only [step] at h
    obtain rfl := hlen.resolve_left (by simp [ilen])
    simp only [Option.some.injEq, Prod.mk.injEq] at h; obtain ⟨rfl, rfl, rfl, rfl⟩ := h
    exact Behind.plain X hL rfl ⟨_, _, rfl, rfl, hS⟩ hH hF hn fun target hr => XS.bipush X.here hx rfl (g := mkF m pc ls st) hd hr
  case sipush q =>
    simp only [step] at h
    obtain rfl := hlen.resolve_left (by simp [ilen])
    simp only [Option.some.injEq, Prod.mk.injEq] at h; obtain ⟨rfl, rfl, rfl, rfl⟩ := h
    exact Behind.plain X hL rfl ⟨_, _, rfl, rfl, hS⟩ hH hF hn fun target hr => XS.sipush X.here hx rfl (g := mkF m pc ls st) hd hr
  case lconst q =>
    simp only [step] at h
    obtain rfl := hlen.resolve_left (by simp [ilen])
    simp only [Option.some.injEq, Prod.mk.injEq] at h; obtain ⟨rfl, rfl, rfl, rfl⟩ := h
    exact Behind.plain X hL rfl ⟨_, _, rfl, rfl, hS⟩ hH hF hn fun target hr => XS.lconst X.here hx rfl (g := mkF m pc ls st) hd hr
  case ldc j =>
    simp only [step] at h
    obtain rfl := hlen.resolve_left (by simp [ilen])
    split at h
    · rename_i x hk
      simp only [Option.some.injEq, Prod.mk.injEq] at h; obtain ⟨rfl, rfl, rfl, rfl⟩ := h
      have w := G5 _ _ _ hk
      exact Behind.plain X hL rfl ⟨_, _, rfl, rfl, hS⟩ hH hF hn fun target hr => X.ldcInt hx hown (mvT hZ w) (g := mkF m pc ls st) rfl hd _ hr
    · cases h
  case ldc2_w j =>
    simp only [step] at h
    obtain rfl := hlen.resolve_left (by simp [ilen])
    split at h
    · rename_i x hk
      simp only [Option.some.injEq, Prod.mk.injEq] at h; obtain ⟨rfl, rfl, rfl, rfl⟩ := h
      have w := G5 _ _ _ hk
      exact Behind.plain X hL rfl ⟨_, _, rfl, rfl, hS⟩ hH hF hn fun target hr => X.ldc2Long hx hown (mvT hZ w) (g := mkF m pc ls st) rfl hd _ hr
    · cases h
  case idiv =>
    simp only [step] at h
    obtain rfl := hlen.resolve_left (by simp [ilen])
    split at h
    · rename_i y x r
      by_cases hy : y = 0
      · simp [hy] at h
      · simp only [hy, decide_false, cond_false, Option.some.injEq, Prod.mk.injEq] at h; obtain ⟨rfl, rfl, rfl, rfl⟩ := h
        obtain ⟨_, _, rfl, rfl, _, _, rfl, rfl, hr'⟩ := hS
        exact Behind.plain X hL rfl ⟨_, _, rfl, rfl, hr'⟩ hH hF hn fun target hr => XS.idiv X.here hx rfl (g := mkF m pc ls _) hd rfl hy hr
    · cases h
  case irem =>
    simp only [step] at h
    obtain rfl := hlen.resolve_left (by simp [ilen])
    split at h
    · rename_i y x r
      by_cases hy : y = 0
      · simp [hy] at h
      · simp only [hy, decide_false, cond_false, Option.some.injEq, Prod.mk.injEq] at h; obtain ⟨rfl, rfl, rfl, rfl⟩ := h
        obtain ⟨_, _, rfl, rfl, _, _, rfl, rfl, hr'⟩ := hS
        exact Behind.plain X hL rfl ⟨_, _, rfl, rfl, hr'⟩ hH hF hn fun target hr => iremM X hx rfl (g := mkF m pc ls _) hd rfl hy hr
    · cases h
  case lshl =>
    simp only [step] at h
    obtain rfl := hlen.resolve_left (by simp [ilen])
    split at h
    · rename_i y x r
      simp only [Option.some.injEq, Prod.mk.injEq] at h; obtain ⟨rfl, rfl, rfl, rfl⟩ := h
      obtain ⟨_, _, rfl, rfl, _, _, rfl, rfl, hr'⟩ := hS
      exact Behind.plain X hL rfl ⟨_, _, rfl, rfl, hr'⟩ hH hF hn fun target hr => XS.lshl X.here hx rfl (g := mkF m pc ls _) hd rfl hr
    · cases h
  case lushr =>
    simp only [step] at h
    obtain rfl := hlen.resolve_left (by simp [ilen])
    split at h
    · rename_i y x r
      simp only [Option.some.injEq, Prod.mk.injEq] at h; obtain ⟨rfl, rfl, rfl, rfl⟩ := h
      obtain ⟨_, _, rfl, rfl, _, _, rfl, rfl, hr'⟩ := hS
      exact Behind.plain X hL rfl ⟨_, _, rfl, rfl, hr'⟩ hH hF hn fun target hr => XS.lushr X.here hx rfl (g := mkF m pc ls _) hd rfl hr
    · cases h
  case lcmp =>
    simp only [step] at h
    obtain rfl := hlen.resolve_left (by simp [ilen])
    split at h
    · rename_i y x r
      simp only [Option.some.injEq, Prod.mk.injEq] at h; obtain ⟨rfl, rfl, rfl, rfl⟩ := h
      obtain ⟨_, _, rfl, rfl, _, _, rfl, rfl, hr'⟩ := hS
      exact Behind.plain X hL rfl ⟨_, _, rfl, rfl, hr'⟩ hH hF hn fun target hr => XS.lcmp X.here hx rfl (g := mkF m pc ls _) hd rfl hr
    · cases h
  case lneg =>
    simp only [step] at h
    obtain rfl := hlen.resolve_left (by simp [ilen])
    split at h
    · rename_i x r
      simp only [Option.some.injEq, Prod.mk.injEq] at h; obtain ⟨rfl, rfl, rfl, rfl⟩ := h
      obtain ⟨_, _, rfl, rfl, hr'⟩ := hS
      exact Behind.plain X hL rfl ⟨_, _, rfl, rfl, hr'⟩ hH hF hn fun target hr => XS.lneg X.here hx rfl (g := mkF m pc ls _) hd rfl hr
    · cases h
  case i2l =>
    simp only [step] at h
    obtain rfl := hlen.resolve_left (by simp [ilen])
    split at h
    · rename_i x r
      simp only [Option.some.injEq, Prod.mk.injEq] at h; obtain ⟨rfl, rfl, rfl, rfl⟩ := h
      obtain ⟨_, _, rfl, rfl, hr'⟩ := hS
      exact Behind.plain X hL rfl ⟨_, _, rfl, rfl, hr'⟩ hH hF hn fun target hr => XS.i2l X.here hx rfl (g := mkF m pc ls _) hd rfl hr
    · cases h
  case l2i =>
    simp only [step] at h
    obtain rfl := hlen.resolve_left (by simp [ilen])
    split at h
    · rename_i x r
      simp only [Option.some.injEq, Prod.mk.injEq] at h; obtain ⟨rfl, rfl, rfl, rfl⟩ := h
      obtain ⟨_, _, rfl, rfl, hr'⟩ := hS
      exact Behind.plain X hL rfl ⟨_, _, rfl, rfl, hr'⟩ hH hF hn fun target hr => XS.l2i X.here hx rfl (g := mkF m pc ls _) hd rfl hr
    · cases h
  case i2b =>
    simp only [step] at h
    obtain rfl := hlen.resolve_left (by simp [ilen])
    split at h
    · rename_i x r
      simp only [Option.some.injEq, Prod.mk.injEq] at h; obtain ⟨rfl, rfl, rfl, rfl⟩ := h
      obtain ⟨_, _, rfl, rfl, hr'⟩ := hS
      exact Behind.plain X hL rfl ⟨_, _, rfl, rfl, hr'⟩ hH hF hn fun target hr => XS.i2b X.here hx rfl (g := mkF m pc ls _) hd rfl hr
    · cases h
  case dup =>
    simp only [step] at h
    obtain rfl := hlen.resolve_left (by simp [ilen])
    split at h
    · rename_i x r
      simp only [Option.some.injEq, Prod.mk.injEq] at h; obtain ⟨rfl, rfl, rfl, rfl⟩ := h
      obtain ⟨_, _, rfl, ⟨a, ha, rfl⟩, hr'⟩ := hS
      exact Behind.plain X hL rfl ⟨_, _, rfl, ⟨a, ha, rfl⟩, _, _, rfl, ⟨a, ha, rfl⟩, hr'⟩ hH hF hn fun target hr => XS.dup X.here hx rfl (g := mkF m pc ls _) hd rfl rfl hr
    · rename_i x r
      simp only [Option.some.injEq, Prod.mk.injEq] at h; obtain ⟨rfl, rfl, rfl, rfl⟩ := h
      obtain ⟨_, _, rfl, rfl, hr'⟩ := hS
      exact Behind.plain X hL rfl ⟨_, _, rfl, rfl, _, _, rfl, rfl, hr'⟩ hH hF hn fun target hr => XS.dup X.here hx rfl (g := mkF m pc ls _) hd rfl rfl hr
    · cases h
  case dup2 =>
    simp only [step] at h
    obtain rfl := hlen.resolve_left (by simp [ilen])
    split at h
    · rename_i x y r
      simp only [Option.some.injEq, Prod.mk.injEq] at h; obtain ⟨rfl, rfl, rfl, rfl⟩ := h
      obtain ⟨_, _, rfl, rfl, _, _, rfl, ⟨a, ha, rfl⟩, hr'⟩ := hS
      exact Behind.plain X hL rfl ⟨_, _, rfl, rfl, _, _, rfl, ⟨a, ha, rfl⟩, _, _, rfl, rfl, _, _, rfl, ⟨a, ha, rfl⟩, hr'⟩ hH hF hn fun target hr => XT.dup2 X.here hx rfl (g := mkF m pc ls _) hd rfl rfl rfl hr
    · cases h
  case pop =>
    simp only [step] at h
    obtain rfl := hlen.resolve_left (by simp [ilen])
    split at h
    · rename_i x r
      simp only [Option.some.injEq, Prod.mk.injEq] at h; obtain ⟨rfl, rfl, rfl, rfl⟩ := h
      obtain ⟨_, _, rfl, rfl, hr'⟩ := hS
      exact Behind.plain X hL rfl hr' hH hF hn fun target hr => XS.pop X.here hx rfl (g := mkF m pc ls _) hd rfl rfl hr
    · rename_i x r
      simp only [Option.some.injEq, Prod.mk.injEq] at h; obtain ⟨rfl, rfl, rfl, rfl⟩ := h
      obtain ⟨_, _, rfl, ⟨a, ha, rfl⟩, hr'⟩ := hS
      exact Behind.plain X hL rfl hr' hH hF hn fun target hr => XS.pop X.here hx rfl (g := mkF m pc ls _) hd rfl rfl hr
    · cases h
  case goto o =>
    simp only [step] at h
    obtain rfl := hlen.resolve_left (by simp [ilen])
    cases ht : tgt pc o with
    | none => simp [ht] at h
    | some t =>
      simp only [ht, Option.some.injEq, Prod.mk.injEq] at h; obtain ⟨rfl, rfl, rfl, rfl⟩ := h
      exact Behind.plain X hL rfl hS hH hF hn fun target hr => XS.goto X.here hx rfl (g := mkF m pc ls st) (pc0 := pc) rfl hd (tgt_spec ht).1 (tgt_spec ht).2 hr
  case ifCond cd o =>
    simp only [step] at h
    obtain rfl := hlen.resolve_left (by simp [ilen])
    split at h
    · rename_i x r
      obtain ⟨_, _, rfl, rfl, hr'⟩ := hS
      cases hc : if_icmp.holds cd x 0
      · simp only [hc, cond_false, Option.some.injEq, Prod.mk.injEq] at h; obtain ⟨rfl, rfl, rfl, rfl⟩ := h
        exact Behind.plain X hL rfl hr' hH hF hn fun target hr => XS.ifNo X.here hx rfl (g := mkF m pc ls _) hd rfl ((if0 _ _).trans hc) hr
      · cases ht : tgt pc o with
        | none => simp [hc, ht] at h
        | some t =>
          simp only [hc, ht, cond_true, Option.some.injEq, Prod.mk.injEq] at h; obtain ⟨rfl, rfl, rfl, rfl⟩ := h
          exact Behind.plain X hL rfl hr' hH hF hn fun target hr => XS.ifYes X.here hx rfl (g := mkF m pc ls _) (pc0 := pc) rfl hd rfl ((if0 _ _).trans hc) (tgt_spec ht).1 (tgt_spec ht).2 hr
    · cases h
  case if_icmp cd o =>
    simp only [step] at h
    obtain rfl := hlen.resolve_left (by simp [ilen])
    split at h
    · rename_i y x r
      obtain ⟨_, _, rfl, rfl, _, _, rfl, rfl, hr'⟩ := hS
      cases hc : if_icmp.holds cd x y
      · simp only [hc, cond_false, Option.some.injEq, Prod.mk.injEq] at h; obtain ⟨rfl, rfl, rfl, rfl⟩ := h
        exact Behind.plain X hL rfl hr' hH hF hn fun target hr => XS.icmpNo X.here hx rfl (g := mkF m pc ls _) hd rfl hc hr
      · cases ht : tgt pc o with
        | none => simp [hc, ht] at h
        | some t =>
          simp only [hc, ht, cond_true, Option.some.injEq, Prod.mk.injEq] at h; obtain ⟨rfl, rfl, rfl, rfl⟩ := h
          exact Behind.plain X hL rfl hr' hH hF hn fun target hr => XS.icmpYes X.here hx rfl (g := mkF m pc ls _) (pc0 := pc) rfl hd rfl hc (tgt_spec ht).1 (tgt_spec ht).2 hr
    · cases h
  case tableswitch d lo hi offs =>
    simp only [step] at h
    split at h
    · rename_i x r
      obtain ⟨_, _, rfl, rfl, hr'⟩ := hS
      by_cases ho : x.toInt < lo ∨ x.toInt > hi
      · have ho' : (decide (x.toInt < lo) || decide (x.toInt > hi)) = true := by simpa using ho
        cases ht : tgt pc d with
        | none => simp [ho', ht] at h
        | some t =>
          simp only [ho', ht, cond_true, Option.some.injEq, Prod.mk.injEq] at h; obtain ⟨rfl, rfl, rfl, rfl⟩ := h
          exact Behind.plain X hL rfl hr' hH hF hn fun target hr => XS.tswOut X.here hx rfl (g := mkF m pc ls _) (pc0 := pc) rfl hd rfl ho (tgt_spec ht).1 (tgt_spec ht).2 hr
      · have ho' : (decide (x.toInt < lo) || decide (x.toInt > hi)) = false := by simpa using ho
        cases hq : offs.toList[(x.toInt - lo).toNat]? with
        | none => simp [ho', hq] at h
        | some o =>
          cases ht : tgt pc o with
          | none => simp [ho', hq, ht] at h
          | some t =>
            simp only [ho', hq, ht, cond_false, Option.some.injEq, Prod.mk.injEq] at h; obtain ⟨rfl, rfl, rfl, rfl⟩ := h
            exact Behind.plain X hL rfl hr' hH hF hn fun target hr => XS.tswIn X.here hx rfl (g := mkF m pc ls _) (pc0 := pc) rfl hd rfl ho (by rw [← Array.getElem?_toList]; exact hq) (tgt_spec ht).1 (tgt_spec ht).2 hr
    · cases h
  case getfield j =>
    simp only [step] at h
    obtain rfl := hlen.resolve_left (by simp [ilen])
    split at h
    · rename_i a r
      obtain ⟨_, _, rfl, ⟨b, hb, rfl⟩, hr'⟩ := hS
      cases hf : P.fld (P.cls k) j with
      | none => simp [hf] at h
      | some f =>
        cases hg : getC H a f with
        | none => simp [hf, hg] at h
        | some v =>
          simp only [hf, hg, Option.some.injEq, Prod.mk.injEq] at h; obtain ⟨rfl, rfl, rfl, rfl⟩ := h
          obtain ⟨n, d, t, fin, g1, g2⟩ := G2 _ _ _ hf
          unfold getC at hg
          split at hg
          · rename_i fs hfs
            obtain ⟨b', e1, e2, e3, e4⟩ := hH.2.2.2 _ _ hfs
            cases hb.symm.trans e1
            obtain ⟨w, e5, e6⟩ := e4 _ _ _ _ _ _ hg g1
            obtain ⟨T2, X2, e7, s2⟩ := getF X hx hZ hown (host := "") (Or.inl g2) Via.refl rfl e6 (g := mkF m pc ls _) rfl rfl hd
            exact Behind.plain' X2 e7 hL rfl ⟨w, _, rfl, e5, hr'⟩ hH hF hn s2
          · cases hg
    · cases h
  case putfield j =>
    simp only [step] at h
    obtain rfl := hlen.resolve_left (by simp [ilen])
    split at h
    · rename_i v a r
      obtain ⟨w0, _, rfl, hv0, _, _, rfl, ⟨b, hb, rfl⟩, hr'⟩ := hS
      cases hf : P.fld (P.cls k) j with
      | none => simp [hf] at h
      | some f =>
        obtain ⟨n, d, t, fin, g1, g2⟩ := G2 _ _ _ hf
        simp only [hf, g1] at h
        cases hq : (!fin || P.ini k) && Nat.ble P.ro a
        · simp [hq] at h
        · simp only [hq, cond_true] at h
          cases hv : conv t v with
          | none => simp [hv] at h
          | some v' =>
            simp only [hv] at h
            split at h
            · rename_i fs hfs
              cases hz : Nat.ble (f + 1) fs.length
              · simp [hz] at h
              · simp only [hz, cond_true, Option.some.injEq, Prod.mk.injEq] at h; obtain ⟨rfl, rfl, rfl, rfl⟩ := h
                obtain ⟨b', e1, e2, e3, e4⟩ := hH.2.2.2 _ _ hfs
                cases hb.symm.trans e1
                simp only [Bool.and_eq_true, Bool.or_eq_true, Bool.not_eq_true'] at hq
                have hro : P.ro ≤ a := Nat.le_of_ble_eq_true hq.2
                have hfl : f < fs.length := Nat.le_of_ble_eq_true hz
                obtain ⟨l1, ty, l2, l3, l4⟩ := G3 _ _ _ _ _ g1
                obtain ⟨w, hw, hnw, hfw⟩ : ∃ w, VR am v' w ∧ narrow ty w0 = w ∧ fits ty w = true := by
                  unfold conv at hv
                  split at hv
                  · cases hv; cases hv0; cases ty <;> simp only [tyOk, Bool.false_eq_true] at l3; exact ⟨_, rfl, rfl, rfl⟩
                  · cases hv; cases hv0; cases ty <;> simp only [tyOk, Bool.false_eq_true] at l3; exact ⟨_, rfl, rfl, fits_nar_bool _⟩
                  · cases hv; cases hv0; cases ty <;> simp only [tyOk, Bool.false_eq_true] at l3; exact ⟨_, rfl, rfl, rfl⟩
                  · cases hv; obtain ⟨z, hz1, rfl⟩ := hv0; cases ty <;> simp only [tyOk, Bool.false_eq_true] at l3; exact ⟨_, ⟨z, hz1, rfl⟩, rfl, rfl⟩
                  · cases hv
                obtain ⟨old, o1, o2⟩ := e4 f _ _ _ _ _ (List.getElem?_eq_getElem hfl) g1
                have hfin : (Cond.lays C C n d).before a0 Z = true ∨ ((Cond.laysFinal C C n d).before a0 Z = true ∧ cn (P.cls k) = C ∧ meth.name = "<init>") := by
                  cases fin
                  · exact Or.inl l1
                  · obtain ⟨q1, q2⟩ := hini (by simpa using hq.1); exact Or.inr ⟨l1, q2, q1⟩
                obtain ⟨T2, h2, X2, e7, W2, s2⟩ := putFN X hx hZ hown g2 Via.refl rfl o2 e2 hfin G6 l2 hnw hfw (g := mkF m pc ls _) rfl rfl hd
                refine Behind.write (T' := T2) X2 e7 W2 hL hr' hH hb hro hfs rfl ?_ hF hn s2
                refine ⟨e2.wr W2, by rw [List.length_set]; exact e3, fun j' u n' d' t' f' q1 q2 => ?_⟩
                rw [List.getElem?_set] at q1
                by_cases ej : f = j'
                · subst ej
                  rw [if_pos rfl, if_pos hfl] at q1
                  cases q1
                  rw [g1] at q2; cases q2
                  exact ⟨w, hw, o2.same W2⟩
                · rw [if_neg ej] at q1
                  obtain ⟨w', y1, y2⟩ := e4 _ _ _ _ _ _ q1 q2
                  obtain ⟨l1', ty', l2', -, -⟩ := G3 _ _ _ _ _ q2
                  have hl1 : Laid Z a0 C C n d := by cases fin; exact Or.inl l1; exact Or.inr l1
                  have hl2 : Laid Z a0 C C n' d' := by cases f'; exact Or.inl l1'; exact Or.inr l1'
                  exact ⟨w', y1, y2.other W2 (Or.inr (slot_ne hl2 hl1 (G4 _ _ _ _ _ _ _ _ _ _ q2 g1 (Ne.symm ej)) l2' l2))⟩
            · cases h
    · cases h
  case iaload =>
    simp only [step] at h
    obtain rfl := hlen.resolve_left (by simp [ilen])
    split at h
    · rename_i j a r
      obtain ⟨_, _, rfl, rfl, _, _, rfl, ⟨b, hb, rfl⟩, hr'⟩ := hS
      split at h
      · rename_i xs hxs
        cases hj : inb xs.length j
        · simp [hj] at h
        · simp only [hj, cond_true, Option.some.injEq, Prod.mk.injEq] at h; obtain ⟨rfl, rfl, rfl, rfl⟩ := h
          obtain ⟨b', e1, cl, A1, A2, A3⟩ := hH.2.2.2 _ _ hxs
          cases hb.symm.trans e1
          have hin := inb_spec hj
          rw [← A2] at hin
          exact Behind.plain X hL rfl ⟨_, _, rfl, rfl, hr'⟩ hH hF hn fun target hr => X.iaload hx A1.1 (State.isArrayOf_alike hZ.alike A1.2.1) A1.2.2 hin (A3 _ _ (rd_at hj)) (g := mkF m pc ls _) rfl rfl hd _ hr
      · rename_i xs hxs
        cases hj : inb xs.length j
        · simp [hj] at h
        · simp only [hj, cond_true, Option.some.injEq, Prod.mk.injEq] at h; obtain ⟨rfl, rfl, rfl, rfl⟩ := h
          obtain ⟨b', e1, cl, A1, A2, A3⟩ := hH.2.2.2 _ _ hxs
          cases hb.symm.trans e1
          have hin := inb_spec hj
          rw [← A2] at hin
          exact Behind.plain X hL rfl ⟨_, _, rfl, rfl, hr'⟩ hH hF hn fun target hr => X.iaload hx A1.1 (State.isArrayOf_alike hZ.alike A1.2.1) A1.2.2 hin (A3 _ _ (rd_at hj)) (g := mkF m pc ls _) rfl rfl hd _ hr
      · cases h
    · cases h
  case baload =>
    simp only [step] at h
    obtain rfl := hlen.resolve_left (by simp [ilen])
    split at h
    · rename_i j a r
      obtain ⟨_, _, rfl, rfl, _, _, rfl, ⟨b, hb, rfl⟩, hr'⟩ := hS
      split at h
      · rename_i xs hxs
        cases hj : inb xs.length j
        · simp [hj] at h
        · simp only [hj, cond_true, Option.some.injEq, Prod.mk.injEq] at h; obtain ⟨rfl, rfl, rfl, rfl⟩ := h
          obtain ⟨b', e1, cl, A1, A2, A3⟩ := hH.2.2.2 _ _ hxs
          cases hb.symm.trans e1
          have hin := inb_spec hj
          rw [← A2] at hin
          exact Behind.plain X hL rfl ⟨_, _, rfl, rfl, hr'⟩ hH hF hn fun target hr => X.baloadBooleans hx A1.1 (State.isArrayOf_alike hZ.alike A1.2.1) A1.2.2 hin (A3 _ _ (rd_at hj)) (g := mkF m pc ls _) rfl rfl hd _ hr
      · rename_i xs hxs
        cases hj : inb xs.length j
        · simp [hj] at h
        · simp only [hj, cond_true, Option.some.injEq, Prod.mk.injEq] at h; obtain ⟨rfl, rfl, rfl, rfl⟩ := h
          obtain ⟨b', e1, cl, A1, A2, A3⟩ := hH.2.2.2 _ _ hxs
          cases hb.symm.trans e1
          have hin := inb_spec hj
          rw [← A2] at hin
          exact Behind.plain X hL rfl ⟨_, _, rfl, rfl, hr'⟩ hH hF hn fun target hr => X.baloadBytes hx A1.1 (State.isArrayOf_alike hZ.alike A1.2.1) A1.2.2 hin (A3 _ _ (rd_at hj)) (g := mkF m pc ls _) rfl rfl hd _ hr
      · cases h
    · cases h
  case laload =>
    simp only [step] at h
    obtain rfl := hlen.resolve_left (by simp [ilen])
    split at h
    · rename_i j a r
      obtain ⟨_, _, rfl, rfl, _, _, rfl, ⟨b, hb, rfl⟩, hr'⟩ := hS
      split at h
      · rename_i xs hxs
        cases hj : inb xs.length j
        · simp [hj] at h
        · simp only [hj, cond_true, Option.some.injEq, Prod.mk.injEq] at h; obtain ⟨rfl, rfl, rfl, rfl⟩ := h
          obtain ⟨b', e1, cl, A1, A2, A3⟩ := hH.2.2.2 _ _ hxs
          cases hb.symm.trans e1
          have hin := inb_spec hj
          rw [← A2] at hin
          exact Behind.plain X hL rfl ⟨_, _, rfl, rfl, hr'⟩ hH hF hn fun target hr => X.laload hx A1.1 (State.isArrayOf_alike hZ.alike A1.2.1) A1.2.2 hin (A3 _ _ (rdL_at hj)) (g := mkF m pc ls _) rfl rfl hd _ hr
      · cases h
    · cases h
  case iastore =>
    simp only [step] at h
    obtain rfl := hlen.resolve_left (by simp [ilen])
    split at h
    · rename_i x j a r
      obtain ⟨_, _, rfl, rfl, _, _, rfl, rfl, _, _, rfl, ⟨b, hb, rfl⟩, hr'⟩ := hS
      cases hq : Nat.ble P.ro a
      · simp [hq] at h
      · simp only [hq, cond_true] at h
        have hro : P.ro ≤ a := Nat.le_of_ble_eq_true hq
        split at h
        · rename_i xs hxs
          cases hj : inb xs.length j
          · simp [hj] at h
          · simp only [hj, cond_true, Option.some.injEq, Prod.mk.injEq] at h; obtain ⟨rfl, rfl, rfl, rfl⟩ := h
            obtain ⟨b', e1, hcr⟩ := hH.2.2.2 _ _ hxs
            cases hb.symm.trans e1
            have hcr0 := hcr
            obtain ⟨cl, A1, A2, A3⟩ := hcr0
            have hin := inb_spec hj
            rw [← A2] at hin
            obtain ⟨T2, h2, X2, e7, W2, s2⟩ := stI X hx hZ rfl A1 hin (g := mkF m pc ls _) rfl rfl hd
            exact Behind.write (T' := T2) X2 e7 W2 hL hr' hH hb hro hxs (by simp [csz, wr, wrL]) (CR.wrI W2 hcr) hF hn s2
        · cases h
    · cases h
  case bastore =>
    simp only [step] at h
    obtain rfl := hlen.resolve_left (by simp [ilen])
    split at h
    · rename_i x j a r
      obtain ⟨_, _, rfl, rfl, _, _, rfl, rfl, _, _, rfl, ⟨b, hb, rfl⟩, hr'⟩ := hS
      cases hq : Nat.ble P.ro a
      · simp [hq] at h
      · simp only [hq, cond_true] at h
        have hro : P.ro ≤ a := Nat.le_of_ble_eq_true hq
        split at h
        · rename_i xs hxs
          cases hj : inb xs.length j
          · simp [hj] at h
          · simp only [hj, cond_true, Option.some.injEq, Prod.mk.injEq] at h; obtain ⟨rfl, rfl, rfl, rfl⟩ := h
            obtain ⟨b', e1, hcr⟩ := hH.2.2.2 _ _ hxs
            cases hb.symm.trans e1
            have hcr0 := hcr
            obtain ⟨cl, A1, A2, A3⟩ := hcr0
            have hin := inb_spec hj
            rw [← A2] at hin
            obtain ⟨T2, h2, X2, e7, W2, s2⟩ := stZ X hx hZ rfl A1 hin (g := mkF m pc ls _) rfl rfl hd
            exact Behind.write (T' := T2) X2 e7 W2 hL hr' hH hb hro hxs (by simp [csz, wr, wrL]) (CR.wrI W2 hcr) hF hn s2
        · rename_i xs hxs
          cases hj : inb xs.length j
          · simp [hj] at h
          · simp only [hj, cond_true, Option.some.injEq, Prod.mk.injEq] at h; obtain ⟨rfl, rfl, rfl, rfl⟩ := h
            obtain ⟨b', e1, hcr⟩ := hH.2.2.2 _ _ hxs
            cases hb.symm.trans e1
            have hcr0 := hcr
            obtain ⟨cl, A1, A2, A3⟩ := hcr0
            have hin := inb_spec hj
            rw [← A2] at hin
            obtain ⟨T2, h2, X2, e7, W2, s2⟩ := stB X hx hZ rfl A1 hin (g := mkF m pc ls _) rfl rfl hd
            exact Behind.write (T' := T2) X2 e7 W2 hL hr' hH hb hro hxs (by simp [csz, wr, wrL]) (CR.wrI W2 hcr) hF hn s2
        · cases h
    · cases h
  case lastore =>
    simp only [step] at h
    obtain rfl := hlen.resolve_left (by simp [ilen])
    split at h
    · rename_i x j a r
      obtain ⟨_, _, rfl, rfl, _, _, rfl, rfl, _, _, rfl, ⟨b, hb, rfl⟩, hr'⟩ := hS
      cases hq : Nat.ble P.ro a
      · simp [hq] at h
      · simp only [hq, cond_true] at h
        have hro : P.ro ≤ a := Nat.le_of_ble_eq_true hq
        split at h
        · rename_i xs hxs
          cases hj : inb xs.length j
          · simp [hj] at h
          · simp only [hj, cond_true, Option.some.injEq, Prod.mk.injEq] at h; obtain ⟨rfl, rfl, rfl, rfl⟩ := h
            obtain ⟨b', e1, hcr⟩ := hH.2.2.2 _ _ hxs
            cases hb.symm.trans e1
            have hcr0 := hcr
            obtain ⟨cl, A1, A2, A3⟩ := hcr0
            have hin := inb_spec hj
            rw [← A2] at hin
            obtain ⟨T2, h2, X2, e7, W2, s2⟩ := stJ X hx hZ rfl A1 hin (g := mkF m pc ls _) rfl rfl hd
            exact Behind.write (T' := T2) X2 e7 W2 hL hr' hH hb hro hxs (by simp [csz, wr, wrL]) (CR.wrJ W2 hcr) hF hn s2
        · cases h
    · cases h
  case arraylength =>
    simp only [step] at h
    obtain rfl := hlen.resolve_left (by simp [ilen])
    split at h
    · rename_i a r
      obtain ⟨_, _, rfl, ⟨b, hb, rfl⟩, hr'⟩ := hS
      split at h
      · rename_i t xs hxs
        simp only [Option.some.injEq, Prod.mk.injEq] at h; obtain ⟨rfl, rfl, rfl, rfl⟩ := h
        obtain ⟨b', e1, cl, A1, A2, A3⟩ := hH.2.2.2 _ _ hxs
        cases hb.symm.trans e1
        exact Behind.plain X hL rfl ⟨_, _, rfl, rfl, hr'⟩ hH hF hn fun target hr => X.arraylength hx A1.1 (State.isArrayOf_alike hZ.alike A1.2.1) (g := mkF m pc ls _) rfl rfl hd _ (by rw [A2]; exact hr)
      · rename_i xs hxs
        simp only [Option.some.injEq, Prod.mk.injEq] at h; obtain ⟨rfl, rfl, rfl, rfl⟩ := h
        obtain ⟨b', e1, cl, A1, A2, A3⟩ := hH.2.2.2 _ _ hxs
        cases hb.symm.trans e1
        exact Behind.plain X hL rfl ⟨_, _, rfl, rfl, hr'⟩ hH hF hn fun target hr => X.arraylength hx A1.1 (State.isArrayOf_alike hZ.alike A1.2.1) (g := mkF m pc ls _) rfl rfl hd _ (by rw [A2]; exact hr)
      · cases h
    · cases h
  case newarray t =>
    simp only [step] at h
    obtain rfl := hlen.resolve_left (by simp [ilen])
    split at h
    · rename_i n r
      obtain ⟨_, _, rfl, rfl, hr'⟩ := hS
      cases ht : atyOf t with
      | none => simp [ht] at h
      | some q =>
        simp only [ht] at h
        cases hq : (!(decide (n < 0)) && Nat.ble n.toNatClampNeg 60000 && Nat.ble (H.length + 1) P.capC && Nat.ble (hsz P H + n.toNatClampNeg) P.capS)
        · simp [hq] at h
        · simp only [hq, cond_true, Option.some.injEq, Prod.mk.injEq] at h; obtain ⟨rfl, rfl, rfl, rfl⟩ := h
          simp only [Bool.and_eq_true, Bool.not_eq_true', decide_eq_false_iff_not] at hq
          have hcap : n.toNatClampNeg ≤ 60000 := Nat.le_of_ble_eq_true hq.1.1.2
          have hq1 := hq.1.1.1
          have d1 : (H ++ [newC q n.toNatClampNeg]).length - H.length = 1 := by simp
          have d2 : hsz P (H ++ [newC q n.toNatClampNeg]) - hsz P H = n.toNatClampNeg := by rw [hsz_app, csz_new _ _ ht]; omega
          rw [d1] at hcells ⊢; rw [d2] at hslots ⊢
          obtain ⟨T2, h2, cA, X2, e7, E2, A2, s2⟩ := newP X hx hZ (G8 _ _ _ _ hcode) rfl (g := mkF m pc ls _) rfl hd rfl hq1 (cap := n.toNatClampNeg) (Nat.le_refl _) (by omega) hcells hslots
          have hlt : T.heap.size < h2.size := A2.lt
          have hm' := hH.1
          refine ⟨T2, am ++ [T.heap.size], ls, _, locs, X2, hL.mono (Pre.app _ _), rfl, ⟨_, _, rfl, ⟨T.heap.size, by rw [← hm']; simp, rfl⟩, hr'.mono (Pre.app _ _)⟩, by rw [e7]; exact hH.push E2 hlt hn (arr_new ht hq1 A2), Pre.app _ _, hF, by rw [e7]; omega, s2⟩
    · cases h
  case new j =>
    simp only [step] at h
    obtain rfl := hlen.resolve_left (by simp [ilen])
    split at h
    · rename_i q hk
      rw [Bool.cond_eq_ite] at h
      split at h
      case isFalse => cases h
      simp only [Option.some.injEq, Prod.mk.injEq] at h; obtain ⟨rfl, rfl, rfl, rfl⟩ := h
      have w := G9 _ _ _ _ hk
      have d1 : (H ++ [Sum.inl P.fresh]).length - H.length = 1 := by simp
      have d2 : hsz P (H ++ [Sum.inl P.fresh]) - hsz P H = P.objN := by rw [hsz_app]; simp [csz]
      rw [d1] at hcells ⊢; rw [d2] at hslots ⊢
      obtain ⟨T2, h2, X2, e7, E2, A2, D2, -, s2⟩ := newO X hx hZ hown w G6 G7 rfl (g := mkF m pc ls st) rfl hd hcells hslots
      have hlt : T.heap.size < h2.size := A2.lt
      have hm' := hH.1
      refine ⟨T2, am ++ [T.heap.size], ls, _, locs, X2, hL.mono (Pre.app _ _), rfl, ⟨_, _, rfl, ⟨T.heap.size, by rw [← hm']; simp, rfl⟩, hS.mono (Pre.app _ _)⟩, ?_, Pre.app _ _, hF, by rw [e7]; omega, s2⟩
      rw [e7]
      refine hH.push E2 hlt hn ⟨A2, by simp [Prog.fresh], fun j' v n d t f q1 q2 => ?_⟩
      obtain ⟨l1, ty, l2, l3, l4⟩ := G3 _ _ _ _ _ q2
      have hl1 : Laid Z a0 C C n d := by cases f; exact Or.inl l1; exact Or.inr l1
      have hv : v = dflt t := by rw [Prog.fresh, List.getElem?_map, q2] at q1; simpa using q1.symm
      subst hv
      refine ⟨defaultValue ty, ?_, D2 hl1 l2⟩
      rw [l4]; unfold dflt; split <;> rfl
    · cases h
  case invokespecial j =>
    simp only [step] at h
    obtain rfl := hlen.resolve_left (by simp [ilen])
    split at h
    · rename_i a r
      obtain ⟨_, _, rfl, ⟨b, hb, rfl⟩, hr'⟩ := hS
      cases hq : isObjInit P k j && Nat.ble 1 (P.rf k) && Nat.ble (cats r + 12) (P.rl k)
      · simp [hq] at h
      · simp only [hq, cond_true, Option.some.injEq, Prod.mk.injEq] at h; obtain ⟨rfl, rfl, rfl, rfl⟩ := h
        simp only [Bool.and_eq_true] at hq
        have h1 : 1 ≤ P.rf k := Nat.le_of_ble_eq_true hq.1.2
        have h2 : cats r + 12 ≤ P.rl k := Nat.le_of_ble_eq_true hq.2
        have h3 := hq.1.1
        unfold isObjInit at h3
        split at h3
        · rename_i kk hk
          obtain ⟨w1, w2, w3⟩ := G9 _ _ _ _ hk
          obtain ⟨T2, X2, e7, s2⟩ := initO X hx hZ hown w1 w2 w3 rfl (g := mkF m pc ls _) rfl (by rw [hml]; exact hlz) rfl hd (by omega) (W := cats r) (by rw [hr'.cats]; show 2 * 0 + _ ≤ _; omega) (by omega)
          exact Behind.plain' X2 e7 hL rfl hr' hH hF hn s2
        · cases h3
    · cases h
  case iadd =>
    simp only [step] at h
    obtain rfl := hlen.resolve_left (by simp [ilen])
    split at h
    · rename_i y x r
      simp only [aop, Option.some.injEq, Prod.mk.injEq] at h; obtain ⟨rfl, rfl, rfl, rfl⟩ := h
      obtain ⟨_, _, rfl, rfl, _, _, rfl, rfl, hr'⟩ := hS
      exact Behind.plain X hL rfl ⟨_, _, rfl, rfl, hr'⟩ hH hF hn fun target hr => XS.iadd X.here hx rfl (g := mkF m pc ls _) hd rfl hr
    · simp [lop] at h
    · cases h
  case isub =>
    simp only [step] at h
    obtain rfl := hlen.resolve_left (by simp [ilen])
    split at h
    · rename_i y x r
      simp only [aop, Option.some.injEq, Prod.mk.injEq] at h; obtain ⟨rfl, rfl, rfl, rfl⟩ := h
      obtain ⟨_, _, rfl, rfl, _, _, rfl, rfl, hr'⟩ := hS
      exact Behind.plain X hL rfl ⟨_, _, rfl, rfl, hr'⟩ hH hF hn fun target hr => XS.isub X.here hx rfl (g := mkF m pc ls _) hd rfl hr
    · simp [lop] at h
    · cases h
  case imul =>
    simp only [step] at h
    obtain rfl := hlen.resolve_left (by simp [ilen])
    split at h
    · rename_i y x r
      simp only [aop, Option.some.injEq, Prod.mk.injEq] at h; obtain ⟨rfl, rfl, rfl, rfl⟩ := h
      obtain ⟨_, _, rfl, rfl, _, _, rfl, rfl, hr'⟩ := hS
      exact Behind.plain X hL rfl ⟨_, _, rfl, rfl, hr'⟩ hH hF hn fun target hr => XS.imul X.here hx rfl (g := mkF m pc ls _) hd rfl hr
    · simp [lop] at h
    · cases h
  case iand =>
    simp only [step] at h
    obtain rfl := hlen.resolve_left (by simp [ilen])
    split at h
    · rename_i y x r
      simp only [aop, Option.some.injEq, Prod.mk.injEq] at h; obtain ⟨rfl, rfl, rfl, rfl⟩ := h
      obtain ⟨_, _, rfl, rfl, _, _, rfl, rfl, hr'⟩ := hS
      exact Behind.plain X hL rfl ⟨_, _, rfl, rfl, hr'⟩ hH hF hn fun target hr => XS.iand X.here hx rfl (g := mkF m pc ls _) hd rfl hr
    · simp [lop] at h
    · cases h
  case ior =>
    simp only [step] at h
    obtain rfl := hlen.resolve_left (by simp [ilen])
    split at h
    · rename_i y x r
      simp only [aop, Option.some.injEq, Prod.mk.injEq] at h; obtain ⟨rfl, rfl, rfl, rfl⟩ := h
      obtain ⟨_, _, rfl, rfl, _, _, rfl, rfl, hr'⟩ := hS
      exact Behind.plain X hL rfl ⟨_, _, rfl, rfl, hr'⟩ hH hF hn fun target hr => XS.ior X.here hx rfl (g := mkF m pc ls _) hd rfl hr
    · simp [lop] at h
    · cases h
  case ixor =>
    simp only [step] at h
    obtain rfl := hlen.resolve_left (by simp [ilen])
    split at h
    · rename_i y x r
      simp only [aop, Option.some.injEq, Prod.mk.injEq] at h; obtain ⟨rfl, rfl, rfl, rfl⟩ := h
      obtain ⟨_, _, rfl, rfl, _, _, rfl, rfl, hr'⟩ := hS
      exact Behind.plain X hL rfl ⟨_, _, rfl, rfl, hr'⟩ hH hF hn fun target hr => XS.ixor X.here hx rfl (g := mkF m pc ls _) hd rfl hr
    · simp [lop] at h
    · cases h
  case ishl =>
    simp only [step] at h
    obtain rfl := hlen.resolve_left (by simp [ilen])
    split at h
    · rename_i y x r
      simp only [aop, Option.some.injEq, Prod.mk.injEq] at h; obtain ⟨rfl, rfl, rfl, rfl⟩ := h
      obtain ⟨_, _, rfl, rfl, _, _, rfl, rfl, hr'⟩ := hS
      exact Behind.plain X hL rfl ⟨_, _, rfl, rfl, hr'⟩ hH hF hn fun target hr => XS.ishl X.here hx rfl (g := mkF m pc ls _) hd rfl hr
    · simp [lop] at h
    · cases h
  case ishr =>
    simp only [step] at h
    obtain rfl := hlen.resolve_left (by simp [ilen])
    split at h
    · rename_i y x r
      simp only [aop, Option.some.injEq, Prod.mk.injEq] at h; obtain ⟨rfl, rfl, rfl, rfl⟩ := h
      obtain ⟨_, _, rfl, rfl, _, _, rfl, rfl, hr'⟩ := hS
      exact Behind.plain X hL rfl ⟨_, _, rfl, rfl, hr'⟩ hH hF hn fun target hr => XS.ishr X.here hx rfl (g := mkF m pc ls _) hd rfl hr
    · simp [lop] at h
    · cases h
  case iushr =>
    simp only [step] at h
    obtain rfl := hlen.resolve_left (by simp [ilen])
    split at h
    · rename_i y x r
      simp only [aop, Option.some.injEq, Prod.mk.injEq] at h; obtain ⟨rfl, rfl, rfl, rfl⟩ := h
      obtain ⟨_, _, rfl, rfl, _, _, rfl, rfl, hr'⟩ := hS
      exact Behind.plain X hL rfl ⟨_, _, rfl, rfl, hr'⟩ hH hF hn fun target hr => XS.iushr X.here hx rfl (g := mkF m pc ls _) hd rfl hr
    · simp [lop] at h
    · cases h
  case ladd =>
    simp only [step] at h
    obtain rfl := hlen.resolve_left (by simp [ilen])
    split at h
    · simp [aop] at h
    · rename_i y x r
      simp only [lop, Option.some.injEq, Prod.mk.injEq] at h; obtain ⟨rfl, rfl, rfl, rfl⟩ := h
      obtain ⟨_, _, rfl, rfl, _, _, rfl, rfl, hr'⟩ := hS
      exact Behind.plain X hL rfl ⟨_, _, rfl, rfl, hr'⟩ hH hF hn fun target hr => XS.ladd X.here hx rfl (g := mkF m pc ls _) hd rfl hr
    · cases h
  case lsub =>
    simp only [step] at h
    obtain rfl := hlen.resolve_left (by simp [ilen])
    split at h
    · simp [aop] at h
    · rename_i y x r
      simp only [lop, Option.some.injEq, Prod.mk.injEq] at h; obtain ⟨rfl, rfl, rfl, rfl⟩ := h
      obtain ⟨_, _, rfl, rfl, _, _, rfl, rfl, hr'⟩ := hS
      exact Behind.plain X hL rfl ⟨_, _, rfl, rfl, hr'⟩ hH hF hn fun target hr => XS.lsub X.here hx rfl (g := mkF m pc ls _) hd rfl hr
    · cases h
  case lmul =>
    simp only [step] at h
    obtain rfl := hlen.resolve_left (by simp [ilen])
    split at h
    · simp [aop] at h
    · rename_i y x r
      simp only [lop, Option.some.injEq, Prod.mk.injEq] at h; obtain ⟨rfl, rfl, rfl, rfl⟩ := h
      obtain ⟨_, _, rfl, rfl, _, _, rfl, rfl, hr'⟩ := hS
      exact Behind.plain X hL rfl ⟨_, _, rfl, rfl, hr'⟩ hH hF hn fun target hr => XS.lmul X.here hx rfl (g := mkF m pc ls _) hd rfl hr
    · cases h
  case land =>
    simp only [step] at h
    obtain rfl := hlen.resolve_left (by simp [ilen])
    split at h
    · simp [aop] at h
    · rename_i y x r
      simp only [lop, Option.some.injEq, Prod.mk.injEq] at h; obtain ⟨rfl, rfl, rfl, rfl⟩ := h
      obtain ⟨_, _, rfl, rfl, _, _, rfl, rfl, hr'⟩ := hS
      exact Behind.plain X hL rfl ⟨_, _, rfl, rfl, hr'⟩ hH hF hn fun target hr => XS.land X.here hx rfl (g := mkF m pc ls _) hd rfl hr
    · cases h
  case lor =>
    simp only [step] at h
    obtain rfl := hlen.resolve_left (by simp [ilen])
    split at h
    · simp [aop] at h
    · rename_i y x r
      simp only [lop, Option.some.injEq, Prod.mk.injEq] at h; obtain ⟨rfl, rfl, rfl, rfl⟩ := h
      obtain ⟨_, _, rfl, rfl, _, _, rfl, rfl, hr'⟩ := hS
      exact Behind.plain X hL rfl ⟨_, _, rfl, rfl, hr'⟩ hH hF hn fun target hr => XS.lor X.here hx rfl (g := mkF m pc ls _) hd rfl hr
    · cases h
  case lxor =>
    simp only [step] at h
    obtain rfl := hlen.resolve_left (by simp [ilen])
    split at h
    · simp [aop] at h
    · rename_i y x r
      simp only [lop, Option.some.injEq, Prod.mk.injEq] at h; obtain ⟨rfl, rfl, rfl, rfl⟩ := h
      obtain ⟨_, _, rfl, rfl, _, _, rfl, rfl, hr'⟩ := hS
      exact Behind.plain X hL rfl ⟨_, _, rfl, rfl, hr'⟩ hH hF hn fun target hr => XS.lxor X.here hx rfl (g := mkF m pc ls _) hd rfl hr
    · cases h
  all_goals (exfalso; simp only [step] at h; split at h <;> simp [aop, lop] at h)
end Sound
end Jvm.OwnX
namespace Jvm.OwnX
open Sem ClassFile Op Lib Jvm.Stand Jvm.Free Jvm.LawKit Jvm.RoadKit
set_option maxHeartbeats 4000000 in
theorem step_grow {P : Prog} {k pc np pc' : Nat} {i : Instr} {L L' : ALoc} {S S' : List Value} {H H' : AHeap} (h : step P k i np pc L S H = some (pc', L', S', H')) : H.length ≤ H'.length ∧ hsz P H ≤ hsz P H' := by
  cases i <;> simp only [step, Bool.cond_eq_ite] at h
  all_goals (repeat' (split at h))
  all_goals first
    | (cases h; done)
    | (simp only [Option.some.injEq, Prod.mk.injEq] at h; obtain ⟨-, -, -, rfl⟩ := h; exact ⟨Nat.le_refl _, Nat.le_refl _⟩)
    | (simp only [Option.some.injEq, Prod.mk.injEq] at h; obtain ⟨-, -, -, rfl⟩ := h; exact ⟨by simp, by rw [hsz_app]; omega⟩)
    | (simp only [Option.some.injEq, Prod.mk.injEq] at h; obtain ⟨-, -, -, rfl⟩ := h; exact ⟨by simp, Nat.le_of_eq (hsz_set P _ _ _ _ (by assumption) (by simp [csz, wr, wrL])).symm⟩)
set_option maxHeartbeats 4000000 in
theorem step_cap {P : Prog} {k pc np pc' : Nat} {i : Instr} {L L' : ALoc} {S S' : List Value} {H H' : AHeap} (h : step P k i np pc L S H = some (pc', L', S', H')) : (H'.length ≤ H.length ∨ H'.length ≤ P.capC) ∧ (hsz P H' ≤ hsz P H ∨ hsz P H' ≤ P.capS) := by
  cases i <;> simp only [step, Bool.cond_eq_ite] at h
  case newarray t =>
    split at h
    · split at h
      · rename_i q ht
        split at h
        · rename_i hq
          simp only [Option.some.injEq, Prod.mk.injEq] at h; obtain ⟨-, -, -, rfl⟩ := h
          simp only [Bool.and_eq_true] at hq
          have h1 := Nat.le_of_ble_eq_true hq.1.2
          have h2 := Nat.le_of_ble_eq_true hq.2
          exact ⟨Or.inr (by simpa using h1), Or.inr (by rw [hsz_app, csz_new _ _ ht]; exact h2)⟩
        · cases h
      · cases h
    · cases h
  case new j =>
    split at h
    · split at h
      · rename_i hq
        simp only [Option.some.injEq, Prod.mk.injEq] at h; obtain ⟨-, -, -, rfl⟩ := h
        simp only [Bool.and_eq_true] at hq
        have h1 := Nat.le_of_ble_eq_true hq.1
        have h2 := Nat.le_of_ble_eq_true hq.2
        exact ⟨Or.inr (by simpa using h1), Or.inr (by rw [hsz_app]; exact h2)⟩
      · cases h
    · cases h
  all_goals (repeat' (split at h))
  all_goals first
    | (cases h; done)
    | (simp only [Option.some.injEq, Prod.mk.injEq] at h; obtain ⟨-, -, -, rfl⟩ := h; exact ⟨Or.inl (Nat.le_refl _), Or.inl (Nat.le_refl _)⟩)
    | (simp only [Option.some.injEq, Prod.mk.injEq] at h; obtain ⟨-, -, -, rfl⟩ := h; exact ⟨Or.inl (by simp), Or.inl (Nat.le_of_eq (hsz_set P _ _ _ _ (by assumption) (by simp [csz, wr, wrL])))⟩)
theorem run_cap {P : Prog} : ∀ {n k pc : Nat} {L : ALoc} {S : List Value} {H : AHeap} {v : Option Value} {H' : AHeap}, run P n k pc L S H = some (v, H') → (H'.length ≤ H.length ∨ H'.length ≤ P.capC) ∧ (hsz P H' ≤ hsz P H ∨ hsz P H' ≤ P.capS)
  | 0, k, pc, L, S, H, v, H', h => by simp [run] at h
  | n + 1, k, pc, L, S, H, v, H', h => by
    rw [run] at h
    split at h
    · cases h
    · split at h
      · cases h; exact ⟨Or.inl (Nat.le_refl _), Or.inl (Nat.le_refl _)⟩
      · split at h
        · split at h
          · rename_i h1
            have g1 := run_cap h1
            have g2 := run_cap h
            omega
          · cases h
        · split at h
          · rename_i h1
            have g1 := step_cap h1
            have g2 := run_cap h
            omega
          · cases h
theorem run_grow {P : Prog} : ∀ {n k pc : Nat} {L : ALoc} {S : List Value} {H : AHeap} {v : Option Value} {H' : AHeap}, run P n k pc L S H = some (v, H') → H.length ≤ H'.length ∧ hsz P H ≤ hsz P H'
  | 0, k, pc, L, S, H, v, H', h => by simp [run] at h
  | n + 1, k, pc, L, S, H, v, H', h => by
    rw [run] at h
    split at h
    · cases h
    · split at h
      · cases h; exact ⟨Nat.le_refl _, Nat.le_refl _⟩
      · split at h
        · split at h
          · rename_i h1
            have g1 := run_grow h1
            have g2 := run_grow h
            omega
          · cases h
        · split at h
          · rename_i h1
            have g1 := step_grow h1
            have g2 := run_grow h
            omega
          · cases h
def OVR (am : List Addr) (v w : Option Value) : Prop := match v with
  | none => w = none
  | some x => ∃ y, w = some y ∧ VR am x y
theorem callV_spec {P : Prog} {k k' : Nat} {i : Instr} {S as rest : List Value} {H : AHeap} (h : callV P k i S H = some (k', as, rest)) :
    ∃ j q, poolOf i = some j ∧ P.link (P.cls k) j = some (q, k') ∧ kindOk i q = true ∧ S = as.reverse ++ rest ∧ as.length = P.pops k' ∧ P.rf k' + 1 ≤ P.rf k ∧ cats rest + (P.maxL k' + 11) + P.rl k' ≤ P.rl k ∧ recvOk P H q as = true ∧ (entL as).length ≤ P.maxL k' := by
  unfold callV at h
  split at h
  · cases h
  · rename_i j hj
    split at h
    · cases h
    · rename_i q k'' hk
      rw [Bool.cond_eq_ite] at h
      split at h
      · rename_i hc
        simp only [Option.some.injEq, Prod.mk.injEq] at h
        obtain ⟨rfl, rfl, rfl⟩ := h
        simp only [Bool.and_eq_true] at hc
        obtain ⟨⟨⟨⟨⟨c1, c2⟩, c3⟩, c4⟩, c5⟩, c6⟩ := hc
        have c2' := Nat.le_of_ble_eq_true c2
        exact ⟨j, q, hj, hk, c1, by rw [List.reverse_reverse, List.take_append_drop], by simp [c2'], Nat.le_of_ble_eq_true c3, Nat.le_of_ble_eq_true c4, c5, Nat.le_of_ble_eq_true c6⟩
      · cases h
theorem linkOk_call {P : Prog} {nm : Nat → MethodName} {bc : Nat → ByteArray} {cn : Nat → String} {C : String} {Z : State} {a0 : Array Value} {c j q k : Nat} (h4 : q ≠ 4) (h5 : q ≠ 5) (h : LinkOk P nm bc cn C Z a0 c j q k) : CallOk P nm bc cn C Z a0 c j q k := by
  unfold LinkOk at h
  split at h
  · exact absurd rfl h4
  · exact absurd rfl h5
  · exact h
theorem recv_spec {P : Prog} {H : AHeap} {q : Nat} {as : List Value} (h0 : q ≠ 0) (h : recvOk P H q as = true) : ∃ a r fs, as = .ref a :: r ∧ H[a]? = some (.inl fs) := by
  unfold recvOk at h
  split at h
  · exact absurd rfl h0
  · split at h
    · split at h
      · rename_i fs hfs
        exact ⟨_, _, fs, rfl, hfs⟩
      · cases h
    · cases h
theorem retV_spec {P : Prog} {k : Nat} {i : Instr} {S : List Value} {v : Option Value} (h : retV P k i S = some v) :
    (i = .return_ ∧ S = [] ∧ P.ret k = none ∧ v = none) ∨ (∃ x r, i = .ireturn ∧ S = .int x :: r ∧ P.ret k = some .int ∧ v = some (.int x)) ∨ (∃ x r, i = .ireturn ∧ S = .int x :: r ∧ P.ret k = some .boolean ∧ v = some (.int (x &&& 1))) ∨ (∃ x r, i = .lreturn ∧ S = .long x :: r ∧ P.ret k = some .long ∧ v = some (.long x)) := by
  unfold retV at h
  split at h
  · split at h
    · rename_i hr; cases h; exact Or.inl ⟨rfl, rfl, hr, rfl⟩
    · cases h
  · split at h
    · split at h
      · rename_i hr; cases h; exact Or.inr (Or.inl ⟨_, _, rfl, rfl, hr, rfl⟩)
      · rename_i hr; cases h; exact Or.inr (Or.inr (Or.inl ⟨_, _, rfl, rfl, hr, rfl⟩))
      · cases h
    · cases h
  · split at h
    · split at h
      · rename_i hr; cases h; exact Or.inr (Or.inr (Or.inr ⟨_, _, rfl, rfl, hr, rfl⟩))
      · cases h
    · cases h
  · cases h
/-- what a callee's contract says behind it -/
def QC (P : Prog) (C : String) (Z : State) (n0 : Nat) (am : List Addr) (v : Option Value) (H1 : AHeap) (w : Option Value) (h' : Heap) (Lc : List Loc) : Prop := Fr n0 Lc ∧ n0 ≤ h'.size ∧ ∃ am', Pre am am' ∧ HR P C Z n0 am' H1 h' ∧ OVR am' v w
/-- the frame's theorem, for one amount of fuel -/
def SoundAt (P : Prog) (nm : Nat → MethodName) (bc : Nat → ByteArray) (cn : Nat → String) (C : String) (Z : State) (n : Nat) : Prop :=
  ∀ (k pc : Nat) (L : ALoc) (S : List Value) (H : AHeap) (v : Option Value) (H' : AHeap), run P n k pc L S H = some (v, H') →
  ∀ {p : Program} {l : Launch} {e : Env} {R : Room} {s : State} {m : MethodId} {args : Array Value} {below : List Frame} {meth : Method} {c : Code} {T : State} {locs : List Loc} {cells slots n0 : Nat} {am : List Addr} {ls : Array Slot} {st : List Value},
    Stand p l e R s m args below meth c T locs cells slots → p.tables.exec = Jvm.exec → Z.Warmed39 s.vm → c.code = bc k → c.maxLocals = P.maxL k → meth.sig.returnType = P.ret k → s.vm.findClass (cn (P.cls k)) = some m.cls → (P.ini k = true → meth.name = "<init>" ∧ cn (P.cls k) = C) →
    P.rf k ≤ R.frames → P.rl k ≤ R.locals → cells + (H'.length - H.length) ≤ R.cells → slots + (hsz P H' - hsz P H) ≤ R.slots → ls.size = P.maxL k → LR am L ls → SR am S st → HR P C Z n0 am H T.heap → Fr n0 locs → n0 ≤ T.heap.size →
    ∃ T' am' locs' w, Stand p l e R s m args below meth c T' locs' (cells + (H'.length - H.length)) (slots + (hsz P H' - hsz P H)) ∧ HR P C Z n0 am' H' T'.heap ∧ Pre am am' ∧ Fr n0 locs' ∧ OVR am' v w ∧ n0 ≤ T'.heap.size ∧ (P.ret k = none → w = none) ∧
      ∀ fs, (∀ (f : JFrame) (acts : List Action), f.method = m → f.locked = none → f.entered = [] → (doReturn e (T'.setTop f) acts w).1 = T'.setFrames fs) → Steps p.tables e below (T.setTop (mkF m pc ls st)) (T'.setFrames fs)
section Met
variable {P : Prog} {nm : Nat → MethodName} {bc : Nat → ByteArray} {cn : Nat → String} {C : String} {Z : State} {a0 : Array Value}
theorem metOf {n k : Nat} {as : List Value} {H H1 : AHeap} {v : Option Value} (IH : SoundAt P nm bc cn C Z n) (hrun : run P n k 0 (entry P k as) [] H = some (v, H1)) {l : Launch} {wsC : List Cond} {rm : Room} (hpl : plainName (nm k).cls = true) (hcls : (nm k).cls = cn (P.cls k)) (hini : P.ini k = true → (nm k).name = "<init>" ∧ (nm k).cls = C)
    (hrf : P.rf k ≤ rm.frames) (hrl : P.rl k ≤ rm.locals) (hrc : H1.length - H.length ≤ rm.cells) (hrs : hsz P H1 - hsz P H ≤ rm.slots) {am : List Addr} {ws : List Value} {h : Heap} {n0 : Nat} (hS : SR am as ws) (hE : (entL as).length ≤ P.maxL k) (hH : HR P C Z n0 am H h) (hn : n0 ≤ h.size) :
    MetFree l (nm k) (head1 (Cond.code (nm k) (bc k) (P.maxL k) (P.ret k) :: wsC) rm) (fun a U => a = ws.toArray ∧ Z.Warmed39 U.vm ∧ U.heap = h) (fun _ _ _ _ _ => True)
      (fun _ U o U' => ∃ w Lc, o = .returned w ∧ QC P C Z n0 am v H1 w U'.heap Lc ∧ FrameEnd U o U' Lc (H1.length - H.length) (hsz P H1 - hsz P H)) := by
  refine MetFree.of_bodySF (plainFor_of_name hpl) hisR ?_
  intro p e s m args below meth c s₁ Bd hml0 hP hK
  obtain ⟨rfl, hZ, hh⟩ := hP
  have hown : s.vm.findClass (nm k).cls = some m.cls := findClass_of_methodNamed Bd.named
  have hnm := (name_of_methodNamed Bd.named Bd.method).1
  have X0 : Stand p l e rm s m ws.toArray below meth c s₁ [] 0 0 := Stand.of_body Bd
  have e0 : s₁.heap = h := by rw [← hh, Bd.state]; rfl
  have hsl := (slotsL_ok hS).1
  obtain ⟨T', am', locs', w, X', h1, h2, h3, h4, h5, h6, h7⟩ := IH k 0 _ _ _ _ _ hrun X0 Bd.exec hZ Bd.bytes hml0 Bd.returns (by rw [← hcls]; exact hown) (fun q => ⟨by rw [hnm]; exact (hini q).1, by rw [← hcls]; exact (hini q).2⟩) hrf hrl (by omega) (by omega) (entry_size (ws := ws) (n := P.maxL k) (by omega)) (LR.entry hS hE) (st := []) rfl (by rw [e0]; exact hH) (Fr.nil n0) (by rw [e0]; exact hn)
  obtain ⟨fs, hr, hrun', hended, hW, hsame⟩ := X'.leave (v := w) (fun q => h6 (by rw [← Bd.returns]; exact q))
  exact ⟨_, _, h7 fs hr, hrun', hended, w, locs', rfl, ⟨h3, h5, am', h2, h1, h4⟩, ⟨_, rfl⟩, hW, hsame.mono (by omega) (by omega)⟩
variable {p : Program} {l : Launch} {e : Env} {R : Room} {s : State} {m : MethodId} {args : Array Value} {below : List Frame} {meth : Method} {c : Code} {T : State} {locs : List Loc} {cells slots : Nat} {n0 : Nat}
theorem call_sound (G : Good P nm bc cn C Z a0) {n k k' pc np : Nat} {i : Instr} {S as rest : List Value} {H H1 : AHeap} {v : Option Value} (IH : SoundAt P nm bc cn C Z n) (hcode : P.code k pc = some (i, np)) (hcall : callV P k i S H = some (k', as, rest)) (hrun : run P n k' 0 (entry P k' as) [] H = some (v, H1))
    (X : Stand p l e R s m args below meth c T locs cells slots) (hx : p.tables.exec = Jvm.exec) (hZ : Z.Warmed39 s.vm) (hby : c.code = bc k) (hml : c.maxLocals = P.maxL k) (hown : s.vm.findClass (cn (P.cls k)) = some m.cls)
    (hrf : P.rf k ≤ R.frames) (hrl : P.rl k ≤ R.locals) (hcells : cells + (H1.length - H.length) ≤ R.cells) (hslots : slots + (hsz P H1 - hsz P H) ≤ R.slots) {am : List Addr} {ls : Array Slot} {st : List Value} (hlz : ls.size = P.maxL k) (hS : SR am S st) (hH : HR P C Z n0 am H T.heap) (hn : n0 ≤ T.heap.size) :
    ∃ T2 w Lc z, np = pc + 3 ∧ Stand p l e R s m args below meth c T2 (locs ++ Lc) (cells + (H1.length - H.length)) (slots + (hsz P H1 - hsz P H)) ∧ QC P C Z n0 am v H1 w T2.heap Lc ∧ SR am rest z ∧
      ∀ target, Steps p.tables e below (T2.setTop (mkF m (pc + 3) ls (w.toList ++ z))) target → Steps p.tables e below (T.setTop (mkF m pc ls st)) target := by
  obtain ⟨j, q, hj, hk, hkind, rfl, hlen, c3, c4, c5, c6⟩ := callV_spec hcall
  obtain ⟨G1, -, -, -, -, G6, -, -, G9⟩ := G
  obtain ⟨len, hdec, rfl, hlen'⟩ := G1 _ _ _ _ hcode
  have hd : decode c.code pc = .ok (i, len) := by rw [hby]; exact hdec
  obtain ⟨y, z, rfl, hy, hz⟩ := SR.app _ _ hS rfl
  have hws : SR am as y.reverse := by have := hy.rev; rwa [List.reverse_reverse] at this
  have hcz := hz.cats
  have lk := G9 _ _ _ _ hk
  have hq4 : q ≠ 4 := fun q4 => by subst q4; cases i <;> simp [kindOk] at hkind
  have hq5 : q ≠ 5 := fun q5 => by subst q5; cases i <;> simp [kindOk] at hkind
  have lk' : CallOk P nm bc cn C Z a0 (P.cls k) j q k' := linkOk_call hq4 hq5 lk
  obtain ⟨w1, w2, w3, ⟨ps, r, w4, w5⟩, w6, w7, w8, w9, w10⟩ := lk'
  have hM := metOf IH hrun (l := l) (wsC := []) (rm := ({ frames := P.rf k', cells := H1.length - H.length, slots := hsz P H1 - hsz P H, locals := P.rl k' } : Room)) w6 w8 w9 (Nat.le_refl _) (Nat.le_refl _) (Nat.le_refl _) (Nat.le_refl _) hws c6 hH hn
  have hB := backOf (R := R) (p := p) (e := e) (below := below) (args := args) (s := s) (len := 3) (W := cats rest) hM hZ w2 w3 (by show P.rf k' + 1 ≤ _; omega) (by show cats rest + (P.maxL k' + 11) + P.rl k' ≤ _; omega)
  have hyl : y.reverse.length = as.length := hws.len
  have recv : q ≠ 0 → ∃ a r' b ws', as = .ref a :: r' ∧ y.reverse = .ref b :: ws' ∧ Exa Z T.heap b C := fun h0 => by
    obtain ⟨a, r', fs, rfl, hfs⟩ := recv_spec h0 c5
    obtain ⟨_, ws', e1, ⟨b, hb, rfl⟩, -⟩ := hws
    obtain ⟨b', f1, f2, -⟩ := hH.2.2.2 _ _ hfs
    cases hb.symm.trans f1
    exact ⟨a, r', b, ws', rfl, e1, f2⟩
  cases i <;> simp only [poolOf, Option.some.injEq, reduceCtorEq] at hj
  case invokestatic j' =>
    subst hj
    obtain rfl : len = 3 := hlen'.resolve_left (by simp [ilen])
    obtain rfl : q = 0 := by
      match q, hkind with
      | 0, _ => rfl
    obtain ⟨w, _, ⟨T2, L2, k2, n2⟩, -, X2, ⟨Lc, hQ, l1, l2, l3⟩, st2⟩ := Jvm.LawKit.callS X hx (y := nm k') hown (mvT hZ w1) (mvT hZ w10) (mvT hZ w3) (mvT hZ w2) w7 hB (g := mkF m pc ls (y ++ z)) rfl (by rw [hml]; exact hlz) (argsL := y.reverse) (rest := z) (lenOf w4 (by rw [hyl, hlen, w5]; rfl)) (by simp) (by rw [hcz]; show 2 * 0 + _ ≤ _; omega) hd (fun _ _ => ⟨rfl, rfl, hcells, hslots⟩)
    dsimp only [Pt.U, Pt.locs, Pt.cells, Pt.slots] at X2 l1 l2 l3 st2 hQ
    subst l1 l2 l3
    exact ⟨T2, w, Lc, z, rfl, X2, hQ, hz, st2⟩
  case invokespecial j' =>
    subst hj
    obtain rfl : len = 3 := hlen'.resolve_left (by simp [ilen])
    obtain rfl : q = 1 := by
      match q, hkind with
      | 1, _ => rfl
    obtain ⟨a, r', b, ws', ea, ey, hEx⟩ := recv (by decide)
    obtain ⟨w11, w12, w13⟩ := w10
    have ey' : y = ws'.reverse ++ [.ref b] := by rw [← List.reverse_reverse y, ey]; simp
    rw [ey] at hB
    have hl : ws'.length = ps.length := by rw [ey, hlen, w5] at hyl; simpa [rcv] using hyl
    obtain ⟨w, _, ⟨T2, L2, k2, n2⟩, -, X2, ⟨Lc, hQ, l1, l2, l3⟩, st2⟩ := X.specialBack hx (y := nm k') w11 hown (mvT hZ w1) (mvT hZ w12) (bytes := bc k') (maxL := P.maxL k') (mvT hZ (by rw [w13] at w2; exact w2)) w7 hB (g := mkF m pc ls (y ++ z)) rfl (by rw [hml]; exact hlz) (Steps.refl _) (a := b) (argsL := ws') (rest := z) (lenOf w4 hl) (by rw [ey']; simp) (by rw [hcz]; show 2 * 0 + _ ≤ _; omega) hd (fun _ _ => ⟨rfl, rfl, hcells, hslots⟩)
    dsimp only [Pt.U, Pt.locs, Pt.cells, Pt.slots] at X2 l1 l2 l3 st2 hQ
    subst l1 l2 l3
    exact ⟨T2, w, Lc, z, rfl, X2, hQ, hz, fun target hr => st2.trans hr⟩
  case invokevirtual j' =>
    subst hj
    obtain rfl : len = 3 := hlen'.resolve_left (by simp [ilen])
    have hq : q = 2 ∨ q = 3 := by
      match q, hkind with
      | 2, _ => exact Or.inl rfl
      | 3, _ => exact Or.inr rfl
    obtain ⟨a, r', b, ws', ea, ey, hEx⟩ := recv (by omega)
    have ey' : y = ws'.reverse ++ [.ref b] := by rw [← List.reverse_reverse y, ey]; simp
    rw [ey] at hB
    rcases hq with rfl | rfl
    · obtain ⟨w11, w12, w13⟩ := w10
      have hl : ws'.length = ps.length := by rw [ey, hlen, w5] at hyl; simpa [rcv] using hyl
      obtain ⟨cq, kq, qa, qb, qc⟩ := isOf hZ rfl hEx
      obtain ⟨w, _, ⟨T2, L2, k2, n2⟩, -, X2, ⟨Lc, hQ, l1, l2, l3⟩, st2⟩ := X.virtualBack hx (y := nm k') (z := nm k') hown (mvT hZ w1) (mvT hZ w11) (notFace_of_selects (args := #[]) (mvT hZ w13)) (mvT hZ w13) (mvT hZ w12) w7 hB qa qc (g := mkF m pc ls (y ++ z)) rfl (by rw [hml]; exact hlz) (Steps.refl _) (argsL := ws') (rest := z) (lenOf w4 hl) (by rw [ey']; simp) (by rw [hcz]; show 2 * 0 + _ ≤ _; omega) hd (fun _ _ => ⟨rfl, rfl, hcells, hslots⟩)
      dsimp only [Pt.U, Pt.locs, Pt.cells, Pt.slots] at X2 l1 l2 l3 st2 hQ
      subst l1 l2 l3
      exact ⟨T2, w, Lc, z, rfl, X2, hQ, hz, fun target hr => st2.trans hr⟩
    · obtain ⟨w11, w12, w13⟩ := w10
      have hl : ws'.length = ps.length := by rw [ey, hlen, w5] at hyl; simpa [rcv] using hyl
      obtain ⟨cq, q1, q2⟩ := hEx.cell
      obtain ⟨cC, kC, i1, i2, i3, i4, -⟩ := Cond.instantiable_spec (mvT hZ G6 : (Cond.instantiable C P.objN).before #[] s = true)
      have hpriv : s.PrivateAt (nm k') := Cond.privateMethod_at (mvP hZ w13 (args := #[]))
      have hsel : (Cond.selects (nm k').cls (nm k') (nm k')).before args s = true := selects_self_of_private (by rw [w11]; exact i1) i2 (by simpa using (Bool.or_eq_false_iff.mp i4).1) hpriv (mvT hZ w12) w7
      obtain ⟨w, _, ⟨T2, L2, k2, n2⟩, -, X2, ⟨Lc, hQ, l1, l2, l3⟩, st2⟩ := X.privateBack hx (y := nm k') hown (mvT hZ w1) (mvT hZ w12) hsel hpriv (mvT hZ w2) w7 hB (g := mkF m pc ls (y ++ z)) rfl (by rw [hml]; exact hlz) (Steps.refl _) (a := b) q1 q2 (argsL := ws') (rest := z) (lenOf w4 hl) (by rw [ey']; simp) (by rw [hcz]; show 2 * 0 + _ ≤ _; omega) hd (fun _ _ => ⟨rfl, rfl, hcells, hslots⟩)
      dsimp only [Pt.U, Pt.locs, Pt.cells, Pt.slots] at X2 l1 l2 l3 st2 hQ
      subst l1 l2 l3
      exact ⟨T2, w, Lc, z, rfl, X2, hQ, hz, fun target hr => st2.trans hr⟩
theorem ret_sound (G : Good P nm bc cn C Z a0) {k pc np : Nat} {i : Instr} {S : List Value} {v : Option Value} (hcode : P.code k pc = some (i, np)) (h : retV P k i S = some v)
    (X : Stand p l e R s m args below meth c T locs cells slots) (hx : p.tables.exec = Jvm.exec) (hby : c.code = bc k) (hret : meth.sig.returnType = P.ret k) {am : List Addr} {ls : Array Slot} {st : List Value} (hS : SR am S st) :
    ∃ w, OVR am v w ∧ (P.ret k = none → w = none) ∧ ∀ fs, (∀ (f : JFrame) (acts : List Action), f.method = m → f.locked = none → f.entered = [] → (doReturn e (T.setTop f) acts w).1 = T.setFrames fs) → Steps p.tables e below (T.setTop (mkF m pc ls st)) (T.setFrames fs) := by
  obtain ⟨G1, -⟩ := G
  obtain ⟨len, hdec, rfl, hlen⟩ := G1 _ _ _ _ hcode
  have hd : decode c.code pc = .ok (i, len) := by rw [hby]; exact hdec
  rcases retV_spec h with ⟨rfl, rfl, hr, rfl⟩ | ⟨x, r, rfl, rfl, hr, rfl⟩ | ⟨x, r, rfl, rfl, hr, rfl⟩ | ⟨x, r, rfl, rfl, hr, rfl⟩
  · obtain rfl : len = 1 := hlen.resolve_left (by simp [ilen])
    cases hS
    exact ⟨none, rfl, fun _ => rfl, fun fs hl => X.returnOut hx (hret.trans hr) hd hl⟩
  · obtain rfl : len = 1 := hlen.resolve_left (by simp [ilen])
    obtain ⟨_, _, rfl, rfl, hr'⟩ := hS
    exact ⟨some (.int x), ⟨_, rfl, rfl⟩, (fun q => by rw [hr] at q; cases q), fun fs hl => retOut X hx (hret.trans hr) rfl (Or.inl ⟨rfl, Or.inl rfl, x, rfl⟩) hd hl⟩
  · obtain rfl : len = 1 := hlen.resolve_left (by simp [ilen])
    obtain ⟨_, _, rfl, rfl, hr'⟩ := hS
    exact ⟨some (.int (x &&& 1)), ⟨_, rfl, rfl⟩, (fun q => by rw [hr] at q; cases q), fun fs hl => retN X hx (hret.trans hr) (Or.inl rfl) hd hl⟩
  · obtain rfl : len = 1 := hlen.resolve_left (by simp [ilen])
    obtain ⟨_, _, rfl, rfl, hr'⟩ := hS
    exact ⟨some (.long x), ⟨_, rfl, rfl⟩, (fun q => by rw [hr] at q; cases q), fun fs hl => retOut X hx (hret.trans hr) rfl (Or.inr (Or.inl ⟨rfl, rfl, x, rfl⟩)) hd hl⟩
theorem SR.opt {am : List Addr} {v w : Option Value} {S st : List Value} (h : OVR am v w) (hS : SR am S st) : SR am (v.toList ++ S) (w.toList ++ st) := by
  cases v with
  | none => cases h; exact hS
  | some x => obtain ⟨y, rfl, h1⟩ := h; exact ⟨y, st, rfl, h1, hS⟩
theorem sound (G : Good P nm bc cn C Z a0) : ∀ n, SoundAt P nm bc cn C Z n
  | 0 => fun k pc L S H v H' h => by simp [run] at h
  | n + 1 => fun k pc L S H v H' h => by
    have IH := sound G n
    intro p l e R s m args below meth c T locs cells slots n0 am ls st X hx hZ hby hml hret hown hini hrf hrl hcells hslots hlz hL hS hH hF hn
    rw [run] at h
    split at h
    · cases h
    · rename_i i np hcode
      split at h
      · rename_i v' hv
        cases h
        obtain ⟨w, h1, h2, h3⟩ := ret_sound G hcode hv X hx hby hret (ls := ls) hS
        exact ⟨T, am, locs, w, by simpa using X, hH, Pre.refl _, hF, h1, hn, h2, h3⟩
      · split at h
        · rename_i k' as rest hcall
          split at h
          · rename_i v1 H1 hr1
            have g1 := run_grow hr1
            have g2 := run_grow h
            obtain ⟨T2, w, Lc, z, rfl, X2, ⟨q1, q2, am2, q3, q4, q5⟩, hz, st2⟩ := call_sound G IH hcode hcall hr1 X hx hZ hby hml hown hrf hrl (by omega) (by omega) (ls := ls) hlz hS hH hn
            obtain ⟨T', am', locs', w', X', f1, f2, f3, f4, f5, f6, f7⟩ := IH k _ _ _ _ _ _ h X2 hx hZ hby hml hret hown hini hrf hrl (by omega) (by omega) hlz (hL.mono q3) (SR.opt q5 (hz.mono q3)) q4 (Fr.app hF q1) q2
            refine ⟨T', am', locs', w', ?_, f1, q3.trans f2, f3, f4, f5, f6, fun fs hl => st2 _ (f7 fs hl)⟩
            have a1 : cells + (H1.length - H.length) + (H'.length - H1.length) = cells + (H'.length - H.length) := by omega
            have a2 : slots + (hsz P H1 - hsz P H) + (hsz P H' - hsz P H1) = slots + (hsz P H' - hsz P H) := by omega
            rw [a1, a2] at X'; exact X'
          · cases h
        · split at h
          · rename_i pc1 L1 S1 H1 hs1
            have g1 := step_grow hs1
            have g2 := run_grow h
            obtain ⟨T2, am2, ls2, st2, locs2, X2, b1, b2, b3, b4, b5, b6, b7, b8⟩ := step_sound G hcode hs1 X hx hZ hby hml hown hini hrf hrl (by omega) (by omega) hlz hL hS hH hF hn
            obtain ⟨T', am', locs', w', X', f1, f2, f3, f4, f5, f6, f7⟩ := IH k _ _ _ _ _ _ h X2 hx hZ hby hml hret hown hini hrf hrl (by omega) (by omega) (b2.trans hlz) b1 b3 b4 b6 b7
            refine ⟨T', am', locs', w', ?_, f1, b5.trans f2, f3, f4, f5, f6, fun fs hl => b8 _ (f7 fs hl)⟩
            have a1 : cells + (H1.length - H.length) + (H'.length - H1.length) = cells + (H'.length - H.length) := by omega
            have a2 : slots + (hsz P H1 - hsz P H) + (hsz P H' - hsz P H1) = slots + (hsz P H' - hsz P H) := by omega
            rw [a1, a2] at X'; exact X'
          · cases h
end Met
end Jvm.OwnX
namespace Jvm.OwnX
open Sem ClassFile Op Lib Jvm.Stand Jvm.Free Jvm.LawKit Jvm.RoadKit
theorem run_succ {P : Prog} : ∀ (n : Nat) {k pc : Nat} {L : ALoc} {S : List Value} {H : AHeap} {out : Option Value × AHeap}, run P n k pc L S H = some out → run P (n + 1) k pc L S H = some out
  | 0, k, pc, L, S, H, out, h => by simp [run] at h
  | n + 1, k, pc, L, S, H, out, h => by
    rw [run] at h
    rw [run]
    split at h
    · cases h
    · rename_i i np hc
      try simp only [hc]
      split at h
      · rename_i v hv
        try simp only [hv]
        exact h
      · rename_i hv
        try simp only [hv]
        split at h
        · rename_i k' as rest hcall
          try simp only [hcall]
          split at h
          · rename_i v1 H1 h1
            rw [run_succ n h1]; exact run_succ n h
          · cases h
        · rename_i hcall
          try simp only [hcall]
          split at h
          · rename_i pc1 L1 S1 H1 h1
            try simp only [h1]
            exact run_succ n h
          · cases h
theorem run_le {P : Prog} {n m k pc : Nat} {L : ALoc} {S : List Value} {H : AHeap} {out : Option Value × AHeap} (hm : n ≤ m) (h : run P n k pc L S H = some out) : run P m k pc L S H = some out := by
  induction hm with
  | refl => exact h
  | step _ ih => exact run_succ _ ih
section Rules
variable {P : Prog} {k pc np : Nat} {L L' : ALoc} {S r : List Value} {H : AHeap} {out : Option Value × AHeap}
theorem Eval.of_step {i : Instr} {pc' : Nat} {S' : List Value} {H' : AHeap} (hc : P.code k pc = some (i, np)) (h1 : retV P k i S = none) (h2 : callV P k i S H = none) (h3 : step P k i np pc L S H = some (pc', L', S', H')) (h : Eval P k pc' L' S' H' out) : Eval P k pc L S H out := by
  obtain ⟨n, h⟩ := h
  exact ⟨n + 1, by rw [run]; simp only [hc, h1, h2, h3]; exact h⟩
theorem Eval.call {i : Instr} {k' : Nat} {as rest : List Value} {v : Option Value} {H1 : AHeap} (hc : P.code k pc = some (i, np)) (h2 : callV P k i S H = some (k', as, rest)) (he : Eval P k' 0 (entry P k' as) [] H (v, H1)) (h : Eval P k np L (v.toList ++ rest) H1 out) : Eval P k pc L S H out := by
  obtain ⟨n, he⟩ := he
  obtain ⟨m, h⟩ := h
  have h1 : retV P k i S = none := by
    unfold callV at h2
    cases i <;> simp only [poolOf, reduceCtorEq] at h2 <;> rfl
  exact ⟨n + m + 1, by rw [run]; simp only [hc, h1, h2]; rw [run_le (Nat.le_add_right n m) he]; exact run_le (Nat.le_add_left m n) h⟩
theorem Eval.ret {i : Instr} {v : Option Value} (hc : P.code k pc = some (i, np)) (h1 : retV P k i S = some v) : Eval P k pc L S H (v, H) := ⟨1, by rw [run]; simp only [hc, h1]⟩
theorem Eval.eq {out' : Option Value × AHeap} (h : Eval P k pc L S H out') (e : out' = out) : Eval P k pc L S H out := e ▸ h
theorem Eval.iload_n {n : Fin 4} {x : Int32} (hc : P.code k pc = some (.iload_n n, np)) (hl : loadI L n.val = some x) (h : Eval P k np L (.int x :: S) H out) : Eval P k pc L S H out := Eval.of_step hc rfl rfl (by simp only [step, hl]) h
theorem Eval.iload {n : Nat} {x : Int32} (hc : P.code k pc = some (.iload n, np)) (hl : loadI L n = some x) (h : Eval P k np L (.int x :: S) H out) : Eval P k pc L S H out := Eval.of_step hc rfl rfl (by simp only [step, hl]) h
theorem Eval.lload_n {n : Fin 4} {x : Int64} (hc : P.code k pc = some (.lload_n n, np)) (hl : loadJ L n.val = some x) (h : Eval P k np L (.long x :: S) H out) : Eval P k pc L S H out := Eval.of_step hc rfl rfl (by simp only [step, hl]) h
theorem Eval.lload {n : Nat} {x : Int64} (hc : P.code k pc = some (.lload n, np)) (hl : loadJ L n = some x) (h : Eval P k np L (.long x :: S) H out) : Eval P k pc L S H out := Eval.of_step hc rfl rfl (by simp only [step, hl]) h
theorem Eval.aload_n {n : Fin 4} {x : Nat} (hc : P.code k pc = some (.aload_n n, np)) (hl : loadA L n.val = some x) (h : Eval P k np L (.ref x :: S) H out) : Eval P k pc L S H out := Eval.of_step hc rfl rfl (by simp only [step, hl]) h
theorem Eval.aload {n : Nat} {x : Nat} (hc : P.code k pc = some (.aload n, np)) (hl : loadA L n = some x) (h : Eval P k np L (.ref x :: S) H out) : Eval P k pc L S H out := Eval.of_step hc rfl rfl (by simp only [step, hl]) h
theorem Eval.istore_n {n : Fin 4} {x : Int32} (hc : P.code k pc = some (.istore_n n, np)) (hl : lput L n.val (.int x) = some L') (h : Eval P k np L' r H out) : Eval P k pc L (.int x :: r) H out := Eval.of_step hc rfl rfl (by simp only [step, hl]) h
theorem Eval.istore {n : Nat} {x : Int32} (hc : P.code k pc = some (.istore n, np)) (hl : lput L n (.int x) = some L') (h : Eval P k np L' r H out) : Eval P k pc L (.int x :: r) H out := Eval.of_step hc rfl rfl (by simp only [step, hl]) h
theorem Eval.astore_n {n : Fin 4} {x : Nat} (hc : P.code k pc = some (.astore_n n, np)) (hl : lput L n.val (.ref x) = some L') (h : Eval P k np L' r H out) : Eval P k pc L (.ref x :: r) H out := Eval.of_step hc rfl rfl (by simp only [step, hl]) h
theorem Eval.astore {n : Nat} {x : Nat} (hc : P.code k pc = some (.astore n, np)) (hl : lput L n (.ref x) = some L') (h : Eval P k np L' r H out) : Eval P k pc L (.ref x :: r) H out := Eval.of_step hc rfl rfl (by simp only [step, hl]) h
theorem Eval.lstore_n {n : Fin 4} {x : Int64} (hc : P.code k pc = some (.lstore_n n, np)) (hl : lputL L n.val x = some L') (h : Eval P k np L' r H out) : Eval P k pc L (.long x :: r) H out := Eval.of_step hc rfl rfl (by simp only [step, hl]) h
theorem Eval.lstore {n : Nat} {x : Int64} (hc : P.code k pc = some (.lstore n, np)) (hl : lputL L n x = some L') (h : Eval P k np L' r H out) : Eval P k pc L (.long x :: r) H out := Eval.of_step hc rfl rfl (by simp only [step, hl]) h
theorem Eval.iinc {n : Nat} {c : Int} {x : Int32} (hc : P.code k pc = some (.iinc n c, np)) (hl : loadI L n = some x) (hp : lput L n (.int (x + Int32.ofInt c)) = some L') (h : Eval P k np L' S H out) : Eval P k pc L S H out := Eval.of_step hc rfl rfl (by simp only [step, hl, hp]) h
theorem Eval.iconst {c : Int} {x : Int32} (hc : P.code k pc = some (.iconst c, np)) (hx : Int32.ofInt c = x) (h : Eval P k np L (.int x :: S) H out) : Eval P k pc L S H out := Eval.of_step hc rfl rfl (by subst hx; rfl) h
theorem Eval.bipush {c : Int} {x : Int32} (hc : P.code k pc = some (.bipush c, np)) (hx : (Int8.ofInt c).toInt32 = x) (h : Eval P k np L (.int x :: S) H out) : Eval P k pc L S H out := Eval.of_step hc rfl rfl (by subst hx; rfl) h
theorem Eval.sipush {c : Int} {x : Int32} (hc : P.code k pc = some (.sipush c, np)) (hx : (Int16.ofInt c).toInt32 = x) (h : Eval P k np L (.int x :: S) H out) : Eval P k pc L S H out := Eval.of_step hc rfl rfl (by subst hx; rfl) h
theorem Eval.lconst {c : Fin 2} {x : Int64} (hc : P.code k pc = some (.lconst c, np)) (hx : Int64.ofNat c = x) (h : Eval P k np L (.long x :: S) H out) : Eval P k pc L S H out := Eval.of_step hc rfl rfl (by subst hx; rfl) h
theorem Eval.ldc {j : Nat} {x : Int32} (hc : P.code k pc = some (.ldc j, np)) (hx : P.kon (P.cls k) j = some (.int x)) (h : Eval P k np L (.int x :: S) H out) : Eval P k pc L S H out := Eval.of_step hc rfl rfl (by simp only [step, hx]) h
theorem Eval.ldc2_w {j : Nat} {x : Int64} (hc : P.code k pc = some (.ldc2_w j, np)) (hx : P.kon (P.cls k) j = some (.long x)) (h : Eval P k np L (.long x :: S) H out) : Eval P k pc L S H out := Eval.of_step hc rfl rfl (by simp only [step, hx]) h
theorem Eval.idiv {x y : Int32} (hc : P.code k pc = some (.idiv, np)) (hy : ¬ y = 0) (h : Eval P k np L (.int (x / y) :: r) H out) : Eval P k pc L (.int y :: .int x :: r) H out := Eval.of_step hc rfl rfl (by simp [step, hy]) h
theorem Eval.irem {x y : Int32} (hc : P.code k pc = some (.irem, np)) (hy : ¬ y = 0) (h : Eval P k np L (.int (x % y) :: r) H out) : Eval P k pc L (.int y :: .int x :: r) H out := Eval.of_step hc rfl rfl (by simp [step, hy]) h
theorem Eval.iadd {x y : Int32} (hc : P.code k pc = some (.iadd, np))  (h : Eval P k np L (.int (x + y) :: r) H out) : Eval P k pc L (.int y :: .int x :: r) H out := Eval.of_step hc rfl rfl (by rfl) h
theorem Eval.isub {x y : Int32} (hc : P.code k pc = some (.isub, np))  (h : Eval P k np L (.int (x - y) :: r) H out) : Eval P k pc L (.int y :: .int x :: r) H out := Eval.of_step hc rfl rfl (by rfl) h
theorem Eval.imul {x y : Int32} (hc : P.code k pc = some (.imul, np))  (h : Eval P k np L (.int (x * y) :: r) H out) : Eval P k pc L (.int y :: .int x :: r) H out := Eval.of_step hc rfl rfl (by rfl) h
theorem Eval.iand {x y : Int32} (hc : P.code k pc = some (.iand, np))  (h : Eval P k np L (.int (x &&& y) :: r) H out) : Eval P k pc L (.int y :: .int x :: r) H out := Eval.of_step hc rfl rfl (by rfl) h
theorem Eval.ior {x y : Int32} (hc : P.code k pc = some (.ior, np))  (h : Eval P k np L (.int (x ||| y) :: r) H out) : Eval P k pc L (.int y :: .int x :: r) H out := Eval.of_step hc rfl rfl (by rfl) h
theorem Eval.ixor {x y : Int32} (hc : P.code k pc = some (.ixor, np))  (h : Eval P k np L (.int (x ^^^ y) :: r) H out) : Eval P k pc L (.int y :: .int x :: r) H out := Eval.of_step hc rfl rfl (by rfl) h
theorem Eval.ishl {x y : Int32} (hc : P.code k pc = some (.ishl, np))  (h : Eval P k np L (.int (ish x y) :: r) H out) : Eval P k pc L (.int y :: .int x :: r) H out := Eval.of_step hc rfl rfl (by rfl) h
theorem Eval.ishr {x y : Int32} (hc : P.code k pc = some (.ishr, np))  (h : Eval P k np L (.int (isr x y) :: r) H out) : Eval P k pc L (.int y :: .int x :: r) H out := Eval.of_step hc rfl rfl (by rfl) h
theorem Eval.iushr {x y : Int32} (hc : P.code k pc = some (.iushr, np))  (h : Eval P k np L (.int (ush x y) :: r) H out) : Eval P k pc L (.int y :: .int x :: r) H out := Eval.of_step hc rfl rfl (by rfl) h
theorem Eval.ladd {x y : Int64} (hc : P.code k pc = some (.ladd, np))  (h : Eval P k np L (.long (x + y) :: r) H out) : Eval P k pc L (.long y :: .long x :: r) H out := Eval.of_step hc rfl rfl (by rfl) h
theorem Eval.lsub {x y : Int64} (hc : P.code k pc = some (.lsub, np))  (h : Eval P k np L (.long (x - y) :: r) H out) : Eval P k pc L (.long y :: .long x :: r) H out := Eval.of_step hc rfl rfl (by rfl) h
theorem Eval.lmul {x y : Int64} (hc : P.code k pc = some (.lmul, np))  (h : Eval P k np L (.long (x * y) :: r) H out) : Eval P k pc L (.long y :: .long x :: r) H out := Eval.of_step hc rfl rfl (by rfl) h
theorem Eval.land {x y : Int64} (hc : P.code k pc = some (.land, np))  (h : Eval P k np L (.long (x &&& y) :: r) H out) : Eval P k pc L (.long y :: .long x :: r) H out := Eval.of_step hc rfl rfl (by rfl) h
theorem Eval.lor {x y : Int64} (hc : P.code k pc = some (.lor, np))  (h : Eval P k np L (.long (x ||| y) :: r) H out) : Eval P k pc L (.long y :: .long x :: r) H out := Eval.of_step hc rfl rfl (by rfl) h
theorem Eval.lxor {x y : Int64} (hc : P.code k pc = some (.lxor, np))  (h : Eval P k np L (.long (x ^^^ y) :: r) H out) : Eval P k pc L (.long y :: .long x :: r) H out := Eval.of_step hc rfl rfl (by rfl) h
theorem Eval.lshl {x : Int64} {y : Int32} (hc : P.code k pc = some (.lshl, np))  (h : Eval P k np L (.long (lsh x y) :: r) H out) : Eval P k pc L (.int y :: .long x :: r) H out := Eval.of_step hc rfl rfl (by rfl) h
theorem Eval.lushr {x : Int64} {y : Int32} (hc : P.code k pc = some (.lushr, np))  (h : Eval P k np L (.long (lus x y) :: r) H out) : Eval P k pc L (.int y :: .long x :: r) H out := Eval.of_step hc rfl rfl (by rfl) h
theorem Eval.lcmp {x y : Int64} (hc : P.code k pc = some (.lcmp, np))  (h : Eval P k np L (.int (lcm x y) :: r) H out) : Eval P k pc L (.long y :: .long x :: r) H out := Eval.of_step hc rfl rfl (by rfl) h
theorem Eval.lneg {x : Int64} (hc : P.code k pc = some (.lneg, np))  (h : Eval P k np L (.long (-x) :: r) H out) : Eval P k pc L (.long x :: r) H out := Eval.of_step hc rfl rfl (by rfl) h
theorem Eval.i2l {x : Int32} (hc : P.code k pc = some (.i2l, np))  (h : Eval P k np L (.long x.toInt64 :: r) H out) : Eval P k pc L (.int x :: r) H out := Eval.of_step hc rfl rfl (by rfl) h
theorem Eval.l2i {x : Int64} (hc : P.code k pc = some (.l2i, np))  (h : Eval P k np L (.int x.toInt32 :: r) H out) : Eval P k pc L (.long x :: r) H out := Eval.of_step hc rfl rfl (by rfl) h
theorem Eval.i2b {x : Int32} (hc : P.code k pc = some (.i2b, np))  (h : Eval P k np L (.int (i8 x) :: r) H out) : Eval P k pc L (.int x :: r) H out := Eval.of_step hc rfl rfl (by rfl) h
theorem Eval.dupR {x : Nat} (hc : P.code k pc = some (.dup, np))  (h : Eval P k np L (.ref x :: .ref x :: r) H out) : Eval P k pc L (.ref x :: r) H out := Eval.of_step hc rfl rfl (by rfl) h
theorem Eval.dupI {x : Int32} (hc : P.code k pc = some (.dup, np))  (h : Eval P k np L (.int x :: .int x :: r) H out) : Eval P k pc L (.int x :: r) H out := Eval.of_step hc rfl rfl (by rfl) h
theorem Eval.dup2 {x : Int32} {y : Nat} (hc : P.code k pc = some (.dup2, np))  (h : Eval P k np L (.int x :: .ref y :: .int x :: .ref y :: r) H out) : Eval P k pc L (.int x :: .ref y :: r) H out := Eval.of_step hc rfl rfl (by rfl) h
theorem Eval.popI {x : Int32} (hc : P.code k pc = some (.pop, np))  (h : Eval P k np L r H out) : Eval P k pc L (.int x :: r) H out := Eval.of_step hc rfl rfl (by rfl) h
theorem Eval.popR {x : Nat} (hc : P.code k pc = some (.pop, np))  (h : Eval P k np L r H out) : Eval P k pc L (.ref x :: r) H out := Eval.of_step hc rfl rfl (by rfl) h
theorem Eval.goto {o : Int} {t : Nat} (hc : P.code k pc = some (.goto o, np)) (ht : tgt pc o = some t) (h : Eval P k t L S H out) : Eval P k pc L S H out := Eval.of_step hc rfl rfl (by simp only [step, ht]) h
theorem Eval.ifT {cd : ClassFile.Cond} {o : Int} {t : Nat} {x : Int32} (hc : P.code k pc = some (.ifCond cd o, np)) (ht : tgt pc o = some t) (hb : if_icmp.holds cd x 0 = true) (h : Eval P k t L r H out) : Eval P k pc L (.int x :: r) H out := Eval.of_step hc rfl rfl (by simp only [step, ht, hb, cond_true]) h
theorem Eval.ifF {cd : ClassFile.Cond} {o : Int} {x : Int32} (hc : P.code k pc = some (.ifCond cd o, np)) (hb : if_icmp.holds cd x 0 = false) (h : Eval P k np L r H out) : Eval P k pc L (.int x :: r) H out := Eval.of_step hc rfl rfl (by simp only [step, hb, cond_false]) h
theorem Eval.icmpT {cd : ClassFile.Cond} {o : Int} {t : Nat} {x y : Int32} (hc : P.code k pc = some (.if_icmp cd o, np)) (ht : tgt pc o = some t) (hb : if_icmp.holds cd x y = true) (h : Eval P k t L r H out) : Eval P k pc L (.int y :: .int x :: r) H out := Eval.of_step hc rfl rfl (by simp only [step, ht, hb, cond_true]) h
theorem Eval.icmpF {cd : ClassFile.Cond} {o : Int} {x y : Int32} (hc : P.code k pc = some (.if_icmp cd o, np)) (hb : if_icmp.holds cd x y = false) (h : Eval P k np L r H out) : Eval P k pc L (.int y :: .int x :: r) H out := Eval.of_step hc rfl rfl (by simp only [step, hb, cond_false]) h
theorem Eval.tswIn {d lo hi o : Int} {offs : Array Int} {t : Nat} {x : Int32} (hc : P.code k pc = some (.tableswitch d lo hi offs, np)) (h1 : (decide (x.toInt < lo) || decide (x.toInt > hi)) = false) (h2 : offs.toList[(x.toInt - lo).toNat]? = some o) (ht : tgt pc o = some t) (h : Eval P k t L r H out) : Eval P k pc L (.int x :: r) H out := Eval.of_step hc rfl rfl (by simp only [step, h1, h2, ht, cond_false]) h
theorem Eval.tswOut {d lo hi : Int} {offs : Array Int} {t : Nat} {x : Int32} (hc : P.code k pc = some (.tableswitch d lo hi offs, np)) (h1 : (decide (x.toInt < lo) || decide (x.toInt > hi)) = true) (ht : tgt pc d = some t) (h : Eval P k t L r H out) : Eval P k pc L (.int x :: r) H out := Eval.of_step hc rfl rfl (by simp only [step, h1, ht, cond_true]) h
theorem Eval.getfield {j f a : Nat} {v : Value} (hc : P.code k pc = some (.getfield j, np)) (hf : P.fld (P.cls k) j = some f) (hg : getC H a f = some v) (h : Eval P k np L (v :: r) H out) : Eval P k pc L (.ref a :: r) H out := Eval.of_step hc rfl rfl (by simp only [step, hf, hg]) h
/-- the heap with a field written -/
def putC (P : Prog) (k : Nat) (H : AHeap) (a f : Nat) (v : Value) : Option AHeap := match P.fields[f]? with
  | some (_, _, t, fin) => (bif (!fin || P.ini k) && Nat.ble P.ro a then (match conv t v with
    | some v' => (match H[a]? with
      | some (.inl fs) => (bif Nat.ble (f + 1) fs.length then some (H.set a (.inl (fs.set f v'))) else none)
      | _ => none)
    | none => none) else none)
  | none => none
theorem putC_spec {P : Prog} {k a f : Nat} {v : Value} {H H1 : AHeap} (hp : putC P k H a f v = some H1) : ∃ n d t fin v' fs, P.fields[f]? = some (n, d, t, fin) ∧ ((!fin || P.ini k) && Nat.ble P.ro a) = true ∧ conv t v = some v' ∧ H[a]? = some (.inl fs) ∧ Nat.ble (f + 1) fs.length = true ∧ H1 = H.set a (.inl (fs.set f v')) := by
  unfold putC at hp
  simp only [Bool.cond_eq_ite] at hp
  split at hp
  · rename_i n d t fin hq
    split at hp
    · rename_i hc
      split at hp
      · rename_i v' hv
        split at hp
        · rename_i fs hfs
          split at hp
          · rename_i hz
            cases hp; exact ⟨n, d, t, fin, v', fs, hq, hc, hv, hfs, hz, rfl⟩
          · cases hp
        · cases hp
      · cases hp
    · cases hp
  · cases hp
theorem step_put {j f a : Nat} {v : Value} {H1 : AHeap} (hf : P.fld (P.cls k) j = some f) (hp : putC P k H a f v = some H1) : step P k (.putfield j) np pc L (v :: .ref a :: r) H = some (np, L, r, H1) := by
  obtain ⟨n, d, t, fin, v', fs, h1, h2, h3, h4, h5, rfl⟩ := putC_spec hp
  simp only [step, hf, h1, h2, h3, h4, h5, cond_true]
theorem Eval.putfield {j f a : Nat} {v : Value} {H1 : AHeap} (hc : P.code k pc = some (.putfield j, np)) (hf : P.fld (P.cls k) j = some f) (hp : putC P k H a f v = some H1) (h : Eval P k np L r H1 out) : Eval P k pc L (v :: .ref a :: r) H out := Eval.of_step hc rfl rfl (step_put hf hp) h
theorem Eval.iaload0 {a : Nat} {j : Int32} {xs : List Int32} (hc : P.code k pc = some (.iaload, np)) (ha : H[a]? = some (.inr (.inl (0, xs)))) (hj : inb xs.length j = true) (h : Eval P k np L (.int (rd xs j) :: r) H out) : Eval P k pc L (.int j :: .ref a :: r) H out := Eval.of_step hc rfl rfl (by simp only [step, ha, hj, cond_true]) h
theorem Eval.iaload {a : Nat} {j : Int32} {xs : List Int32} (hc : P.code k pc = some (.iaload, np)) (ha : H[a]? = some (.inr (.inl (1, xs)))) (hj : inb xs.length j = true) (h : Eval P k np L (.int (rd xs j) :: r) H out) : Eval P k pc L (.int j :: .ref a :: r) H out := Eval.of_step hc rfl rfl (by simp only [step, ha, hj, cond_true]) h
theorem Eval.baloadZ {a : Nat} {j : Int32} {xs : List Int32} (hc : P.code k pc = some (.baload, np)) (ha : H[a]? = some (.inr (.inl (2, xs)))) (hj : inb xs.length j = true) (h : Eval P k np L (.int (rd xs j) :: r) H out) : Eval P k pc L (.int j :: .ref a :: r) H out := Eval.of_step hc rfl rfl (by simp only [step, ha, hj, cond_true]) h
theorem Eval.baloadB {a : Nat} {j : Int32} {xs : List Int32} (hc : P.code k pc = some (.baload, np)) (ha : H[a]? = some (.inr (.inl (3, xs)))) (hj : inb xs.length j = true) (h : Eval P k np L (.int (rd xs j) :: r) H out) : Eval P k pc L (.int j :: .ref a :: r) H out := Eval.of_step hc rfl rfl (by simp only [step, ha, hj, cond_true]) h
theorem Eval.laload {a : Nat} {j : Int32} {xs : List Int64} (hc : P.code k pc = some (.laload, np)) (ha : H[a]? = some (.inr (.inr xs))) (hj : inb xs.length j = true) (h : Eval P k np L (.long (rdL xs j) :: r) H out) : Eval P k pc L (.int j :: .ref a :: r) H out := Eval.of_step hc rfl rfl (by simp only [step, ha, hj, cond_true]) h
theorem Eval.iastore {a : Nat} {j : Int32} {x : Int32} {xs : List Int32} {H1 : AHeap} (hc : P.code k pc = some (.iastore, np)) (hro : Nat.ble P.ro a = true) (ha : H[a]? = some (.inr (.inl (1, xs)))) (hj : inb xs.length j = true) (hH : H.set a (.inr (.inl (1, wr xs j x))) = H1) (h : Eval P k np L r H1 out) : Eval P k pc L (.int x :: .int j :: .ref a :: r) H out := Eval.of_step hc rfl rfl (by subst hH; simp only [step, hro, ha, hj, cond_true]; try rfl) h
theorem Eval.bastoreZ {a : Nat} {j : Int32} {x : Int32} {xs : List Int32} {H1 : AHeap} (hc : P.code k pc = some (.bastore, np)) (hro : Nat.ble P.ro a = true) (ha : H[a]? = some (.inr (.inl (2, xs)))) (hj : inb xs.length j = true) (hH : H.set a (.inr (.inl (2, wr xs j (x &&& 1)))) = H1) (h : Eval P k np L r H1 out) : Eval P k pc L (.int x :: .int j :: .ref a :: r) H out := Eval.of_step hc rfl rfl (by subst hH; simp only [step, hro, ha, hj, cond_true]; try rfl) h
theorem Eval.bastoreB {a : Nat} {j : Int32} {x : Int32} {xs : List Int32} {H1 : AHeap} (hc : P.code k pc = some (.bastore, np)) (hro : Nat.ble P.ro a = true) (ha : H[a]? = some (.inr (.inl (3, xs)))) (hj : inb xs.length j = true) (hH : H.set a (.inr (.inl (3, wr xs j (i8 x)))) = H1) (h : Eval P k np L r H1 out) : Eval P k pc L (.int x :: .int j :: .ref a :: r) H out := Eval.of_step hc rfl rfl (by subst hH; simp only [step, hro, ha, hj, cond_true]; try rfl) h
theorem Eval.lastore {a : Nat} {j : Int32} {x : Int64} {xs : List Int64} {H1 : AHeap} (hc : P.code k pc = some (.lastore, np)) (hro : Nat.ble P.ro a = true) (ha : H[a]? = some (.inr (.inr xs))) (hj : inb xs.length j = true) (hH : H.set a (.inr (.inr (wrL xs j x))) = H1) (h : Eval P k np L r H1 out) : Eval P k pc L (.long x :: .int j :: .ref a :: r) H out := Eval.of_step hc rfl rfl (by subst hH; simp only [step, hro, ha, hj, cond_true]; try rfl) h
theorem Eval.alenI {a t : Nat} {xs : List Int32} (hc : P.code k pc = some (.arraylength, np)) (ha : H[a]? = some (.inr (.inl (t, xs)))) (h : Eval P k np L (.int xs.length.toInt32 :: r) H out) : Eval P k pc L (.ref a :: r) H out := Eval.of_step hc rfl rfl (by simp only [step, ha]) h
theorem Eval.newarray {t : ArrayType} {n : Int32} {q a z N : Nat} {H1 : AHeap} (hc : P.code k pc = some (.newarray t, np)) (hla : H.length = a) (ht : atyOf t = some q) (hn : decide (n < 0) = false) (hN : n.toNatClampNeg = N) (hb : N ≤ 60000) (hC : a + 1 ≤ P.capC) (hz : hsz P H = z) (hS : z + N ≤ P.capS) (hH : H ++ [newC q N] = H1) (h : Eval P k np L (.ref a :: r) H1 out) : Eval P k pc L (.int n :: r) H out := by
  subst hla hN hz
  have hq : (!(decide (n < 0)) && Nat.ble n.toNatClampNeg 60000 && Nat.ble (H.length + 1) P.capC && Nat.ble (hsz P H + n.toNatClampNeg) P.capS) = true := by
    simp only [hn, Bool.not_false, Bool.true_and, Bool.and_eq_true]
    exact ⟨⟨Nat.ble_eq_true_of_le hb, Nat.ble_eq_true_of_le hC⟩, Nat.ble_eq_true_of_le hS⟩
  exact Eval.of_step hc rfl rfl (by simp only [step, ht, hq, cond_true, hH]) h
theorem Eval.new {j q a z : Nat} {H1 : AHeap} (hc : P.code k pc = some (.new j, np)) (hla : H.length = a) (ht : P.link (P.cls k) j = some (5, q)) (hC : a + 1 ≤ P.capC) (hz : hsz P H = z) (hS : z + P.objN ≤ P.capS) (hH : H ++ [.inl P.fresh] = H1) (h : Eval P k np L (.ref a :: S) H1 out) : Eval P k pc L S H out := by
  subst hla hz
  have hq : (Nat.ble (H.length + 1) P.capC && Nat.ble (hsz P H + P.objN) P.capS) = true := by
    simp only [Bool.and_eq_true]
    exact ⟨Nat.ble_eq_true_of_le hC, Nat.ble_eq_true_of_le hS⟩
  exact Eval.of_step hc rfl rfl (by simp only [step, ht, hq, cond_true, hH]) h
theorem Eval.objInit {j a : Nat} (hc : P.code k pc = some (.invokespecial j, np)) (hq : (isObjInit P k j && Nat.ble 1 (P.rf k) && Nat.ble (cats r + 12) (P.rl k)) = true) (h : Eval P k np L r H out) : Eval P k pc L (.ref a :: r) H out := by
  refine Eval.of_step hc rfl ?_ (by simp only [step, hq, cond_true]) h
  simp only [Bool.and_eq_true] at hq
  have h3 := hq.1.1
  unfold isObjInit at h3
  split at h3
  · rename_i kk hk
    simp [callV, poolOf, hk, kindOk]
  · cases h3
/-- the left knows at least what the right knows -/
def lw : ALoc → ALoc → Prop
  | [], b => b = []
  | a :: r, b => ∃ x r', b = x :: r' ∧ (x = none ∨ x = a) ∧ lw r r'
theorem lw.refl : ∀ L : ALoc, lw L L
  | [] => rfl
  | a :: r => ⟨a, r, rfl, Or.inr rfl, lw.refl r⟩
theorem lw.spec : ∀ {L L' : ALoc}, lw L L' → L.length = L'.length ∧ ∀ (i : Nat) v, L'[i]? = some (some v) → L[i]? = some (some v)
  | [], _, h => by cases h; exact ⟨rfl, fun i v q => by simp at q⟩
  | a :: r, _, ⟨x, r', e, h1, h2⟩ => by
    subst e
    obtain ⟨i1, i2⟩ := lw.spec h2
    refine ⟨by simp [i1], fun i v q => ?_⟩
    cases i with
    | zero =>
      simp only [List.getElem?_cons_zero, Option.some.injEq] at q ⊢
      rcases h1 with rfl | rfl
      · cases q
      · exact q
    | succ i => rw [List.getElem?_cons_succ] at q ⊢; exact i2 i v q
theorem lw.of : ∀ {L L' : ALoc}, L.length = L'.length → (∀ (i : Nat) v, L'[i]? = some (some v) → L[i]? = some (some v)) → lw L L'
  | [], L', h, _ => by cases L' with
    | nil => rfl
    | cons _ _ => simp at h
  | a :: r, L', h, q => by
    cases L' with
    | nil => simp at h
    | cons x r' =>
      refine ⟨x, r', rfl, ?_, lw.of (by simpa using h) fun i v e => ?_⟩
      · cases x with
        | none => exact Or.inl rfl
        | some v => have := q 0 v rfl; simp at this; exact Or.inr this.symm
      · have := q (i + 1) v (by rw [List.getElem?_cons_succ]; exact e); rwa [List.getElem?_cons_succ] at this
theorem lw.kill {L L' : ALoc} (h : lw L L') (i : Nat) : lw (kill1 L i) (kill1 L' i) := by
  obtain ⟨h1, h2⟩ := h.spec
  refine lw.of (by rw [kill1_len, kill1_len, h1]) fun j v q => ?_
  obtain ⟨q1, q2⟩ := kill1_get q
  have q3 := h2 _ _ q1
  unfold kill1
  split
  · exact q3
  · rename_i i
    split
    · rename_i x hx
      by_cases e : i = j
      · subst e; rw [hx] at q3; cases q3; exact absurd rfl (q2 rfl x)
      · rw [List.getElem?_set_ne e]; exact q3
    · exact q3
theorem lw.set {L L' : ALoc} (h : lw L L') (i : Nat) (x : Option Value) : lw (L.set i x) (L'.set i x) := by
  obtain ⟨h1, h2⟩ := h.spec
  refine lw.of (by simp [h1]) fun j v q => ?_
  rw [List.getElem?_set] at q ⊢
  split at q
  · rename_i e
    rw [if_pos e, h1]; exact q
  · rename_i e
    rw [if_neg e]; exact h2 _ _ q
theorem lw.put {L L' L1 : ALoc} (h : lw L L') {i : Nat} {v : Value} (hp : lput L' i v = some L1) : ∃ L2, lput L i v = some L2 ∧ lw L2 L1 := by
  unfold lput at hp ⊢
  rw [h.spec.1]
  rw [Bool.cond_eq_ite] at hp ⊢
  split at hp
  · rename_i hc
    cases hp; exact ⟨_, if_pos hc, (h.kill i).set i _⟩
  · cases hp
theorem lw.putL {L L' L1 : ALoc} (h : lw L L') {i : Nat} {v : Int64} (hp : lputL L' i v = some L1) : ∃ L2, lputL L i v = some L2 ∧ lw L2 L1 := by
  unfold lputL at hp ⊢
  rw [h.spec.1]
  rw [Bool.cond_eq_ite] at hp ⊢
  split at hp
  · rename_i hc
    cases hp; exact ⟨_, if_pos hc, ((h.kill i).set i _).set (i + 1) _⟩
  · cases hp
theorem lw.loadI {L L' : ALoc} (h : lw L L') {i : Nat} {x : Int32} (q : OwnX.loadI L' i = some x) : OwnX.loadI L i = some x := by
  unfold OwnX.loadI at q ⊢
  split at q
  · rename_i y hy
    rw [h.spec.2 _ _ hy]; exact q
  · cases q
theorem lw.loadJ {L L' : ALoc} (h : lw L L') {i : Nat} {x : Int64} (q : OwnX.loadJ L' i = some x) : OwnX.loadJ L i = some x := by
  unfold OwnX.loadJ at q ⊢
  split at q
  · rename_i y hy
    rw [h.spec.2 _ _ hy]; exact q
  · cases q
theorem lw.loadA {L L' : ALoc} (h : lw L L') {i x : Nat} (q : OwnX.loadA L' i = some x) : OwnX.loadA L i = some x := by
  unfold OwnX.loadA at q ⊢
  split at q
  · rename_i y hy
    rw [h.spec.2 _ _ hy]; exact q
  · cases q
set_option maxHeartbeats 4000000 in
theorem step_weak {i : Instr} {pc' : Nat} {S' : List Value} {H' : AHeap} {L1 : ALoc} (hw : lw L L') (h : step P k i np pc L' S H = some (pc', L1, S', H')) : ∃ L2, step P k i np pc L S H = some (pc', L2, S', H') ∧ lw L2 L1 := by
  cases i
  case iload_n n =>
    simp only [step] at h ⊢
    split at h
    · rename_i x hx
      rw [hw.loadI hx]; cases h; exact ⟨L, rfl, hw⟩
    · cases h
  case iload n =>
    simp only [step] at h ⊢
    split at h
    · rename_i x hx
      rw [hw.loadI hx]; cases h; exact ⟨L, rfl, hw⟩
    · cases h
  case lload_n n =>
    simp only [step] at h ⊢
    split at h
    · rename_i x hx
      rw [hw.loadJ hx]; cases h; exact ⟨L, rfl, hw⟩
    · cases h
  case lload n =>
    simp only [step] at h ⊢
    split at h
    · rename_i x hx
      rw [hw.loadJ hx]; cases h; exact ⟨L, rfl, hw⟩
    · cases h
  case aload_n n =>
    simp only [step] at h ⊢
    split at h
    · rename_i x hx
      rw [hw.loadA hx]; cases h; exact ⟨L, rfl, hw⟩
    · cases h
  case aload n =>
    simp only [step] at h ⊢
    split at h
    · rename_i x hx
      rw [hw.loadA hx]; cases h; exact ⟨L, rfl, hw⟩
    · cases h
  case istore_n n =>
    simp only [step] at h ⊢
    split at h
    · split at h
      · rename_i L3 hx
        obtain ⟨L2, e1, e2⟩ := hw.put hx
        cases h; exact ⟨L2, by simp only [e1], e2⟩
      · cases h
    · cases h
  case istore n =>
    simp only [step] at h ⊢
    split at h
    · split at h
      · rename_i L3 hx
        obtain ⟨L2, e1, e2⟩ := hw.put hx
        cases h; exact ⟨L2, by simp only [e1], e2⟩
      · cases h
    · cases h
  case astore_n n =>
    simp only [step] at h ⊢
    split at h
    · split at h
      · rename_i L3 hx
        obtain ⟨L2, e1, e2⟩ := hw.put hx
        cases h; exact ⟨L2, by simp only [e1], e2⟩
      · cases h
    · cases h
  case astore n =>
    simp only [step] at h ⊢
    split at h
    · split at h
      · rename_i L3 hx
        obtain ⟨L2, e1, e2⟩ := hw.put hx
        cases h; exact ⟨L2, by simp only [e1], e2⟩
      · cases h
    · cases h
  case lstore_n n =>
    simp only [step] at h ⊢
    split at h
    · split at h
      · rename_i L3 hx
        obtain ⟨L2, e1, e2⟩ := hw.putL hx
        cases h; exact ⟨L2, by simp only [e1], e2⟩
      · cases h
    · cases h
  case lstore n =>
    simp only [step] at h ⊢
    split at h
    · split at h
      · rename_i L3 hx
        obtain ⟨L2, e1, e2⟩ := hw.putL hx
        cases h; exact ⟨L2, by simp only [e1], e2⟩
      · cases h
    · cases h
  case iinc n c =>
    simp only [step] at h ⊢
    split at h
    · rename_i x hx
      rw [hw.loadI hx]
      split at h
      · rename_i L3 hp
        obtain ⟨L2, e1, e2⟩ := hw.put hp
        cases h; exact ⟨L2, by simp only [e1], e2⟩
      · cases h
    · cases h
  all_goals
    simp only [step, Bool.cond_eq_ite] at h ⊢
    repeat' (split at h)
  all_goals first
    | (cases h; done)
    | (simp only [Option.some.injEq, Prod.mk.injEq] at h; obtain ⟨rfl, rfl, rfl, rfl⟩ := h; refine ⟨L, ?_, hw⟩; first | rfl | (simp only [*, if_true, if_false]; done) | (simp [*]; done))
theorem run_weak : ∀ (n : Nat) {pc : Nat} {L L' : ALoc} {S : List Value} {H : AHeap} {out : Option Value × AHeap}, lw L L' → run P n k pc L' S H = some out → run P n k pc L S H = some out
  | 0, _, _, _, _, _, _, _, h => by simp [run] at h
  | n + 1, pc, L, L', S, H, out, hw, h => by
    rw [run] at h
    rw [run]
    split at h
    · cases h
    · rename_i i np hc
      try simp only [hc]
      split at h
      · rename_i v hv
        try simp only [hv]
        exact h
      · rename_i hv
        try simp only [hv]
        split at h
        · rename_i k' as rest hcall
          try simp only [hcall]
          split at h
          · rename_i v1 H1 h1
            try simp only [h1]
            exact run_weak n hw h
          · cases h
        · rename_i hcall
          try simp only [hcall]
          split at h
          · rename_i pc1 L1 S1 H1 h1
            obtain ⟨L2, e1, e2⟩ := step_weak hw h1
            simp only [e1]; exact run_weak n e2 h
          · cases h
theorem Eval.weak (hw : lw L L') (h : Eval P k pc L' S H out) : Eval P k pc L S H out := by
  obtain ⟨n, h⟩ := h
  exact ⟨n, run_weak n hw h⟩
end Rules
end Jvm.OwnX
namespace Jvm.OwnX
open Sem ClassFile Op Lib Jvm.Stand Jvm.Free Jvm.LawKit Jvm.RoadKit
/-! ## tables as lists -/
def findC : List (Nat × Instr × Nat) → Nat → Option (Instr × Nat)
  | [], _ => none
  | (q, x) :: r, pc => bif Nat.beq q pc then some x else findC r pc
abbrev CodeL := List (ByteArray × List (List (Nat × Instr × Nat)))
def codeAt (cs : CodeL) (k pc : Nat) : Option (Instr × Nat) := match cs[k]? with
  | some (_, ch) => (match ch[pc / 32]? with | some c => findC c pc | none => none)
  | none => none
def bcOf (cs : CodeL) (k : Nat) : ByteArray := match cs[k]? with | some (b, _) => b | none => ⟨#[]⟩
def okI (b : ByteArray) (e : Nat × Instr × Nat) : Bool := match decode b e.1 with
  | .ok (i, len) => decide (i = e.2.1) && Nat.beq (e.1 + len) e.2.2 && (Nat.beq (ilen i) 0 || Nat.beq len (ilen i))
  | _ => false
def okCs (cs : CodeL) : Bool := cs.all fun m => m.2.all fun c => c.all (okI m.1)
def tyCs (ty : ArrayType → Bool) (cs : CodeL) : Bool := cs.all fun m => m.2.all fun c => c.all fun e => match e.2.1 with | .newarray t => ty t | _ => true
theorem findC_mem : ∀ {l : List (Nat × Instr × Nat)} {pc : Nat} {x : Instr × Nat}, findC l pc = some x → (pc, x) ∈ l
  | [], pc, x, h => by cases h
  | (q, y) :: r, pc, x, h => by
    unfold findC at h
    cases hb : Nat.beq q pc
    · rw [hb] at h; exact List.mem_cons_of_mem _ (findC_mem h)
    · rw [hb] at h; cases h
      have : q = pc := Nat.eq_of_beq_eq_true hb
      subst this; exact List.mem_cons_self ..
theorem codeAt_mem {cs : CodeL} {k pc : Nat} {x : Instr × Nat} (h : codeAt cs k pc = some x) : ∃ m ∈ cs, bcOf cs k = m.1 ∧ ∃ c ∈ m.2, (pc, x) ∈ c := by
  unfold codeAt at h
  split at h
  · rename_i b ch hk
    split at h
    · rename_i c hc
      exact ⟨(b, ch), List.mem_of_getElem? hk, by simp [bcOf, hk], c, List.mem_of_getElem? hc, findC_mem h⟩
    · cases h
  · cases h
theorem code_ok {cs : CodeL} (h : okCs cs = true) {k pc : Nat} {i : Instr} {np : Nat} (hc : codeAt cs k pc = some (i, np)) : ∃ len, decode (bcOf cs k) pc = .ok (i, len) ∧ np = pc + len ∧ (ilen i = 0 ∨ len = ilen i) := by
  obtain ⟨m, h1, h2, c, h3, h4⟩ := codeAt_mem hc
  have q := List.all_eq_true.mp (List.all_eq_true.mp (List.all_eq_true.mp h m h1) c h3) _ h4
  unfold okI at q
  rw [h2]
  split at q
  · rename_i i' len hd
    simp only [Bool.and_eq_true, Bool.or_eq_true, decide_eq_true_eq] at q
    obtain ⟨⟨rfl, q2⟩, q3⟩ := q
    refine ⟨len, hd, (Nat.eq_of_beq_eq_true q2).symm, q3.elim (fun z => Or.inl (Nat.eq_of_beq_eq_true z)) fun z => Or.inr (Nat.eq_of_beq_eq_true z)⟩
  · cases q
theorem code_ty {ty : ArrayType → Bool} {cs : CodeL} (h : tyCs ty cs = true) {k pc : Nat} {t : ArrayType} {np : Nat} (hc : codeAt cs k pc = some (.newarray t, np)) : ty t = true := by
  obtain ⟨m, h1, h2, c, h3, h4⟩ := codeAt_mem hc
  exact List.all_eq_true.mp (List.all_eq_true.mp (List.all_eq_true.mp h m h1) c h3) _ h4
def lookT {α : Type} : List (Nat × Nat × α) → Nat → Nat → Option α
  | [], _, _ => none
  | (c', j', x) :: r, c, j => bif Nat.beq j' j && Nat.beq c' c then some x else lookT r c j
theorem lookT_mem {α : Type} : ∀ {l : List (Nat × Nat × α)} {c j : Nat} {x : α}, lookT l c j = some x → (c, j, x) ∈ l
  | [], c, j, x, h => by cases h
  | (c', j', y) :: r, c, j, x, h => by
    unfold lookT at h
    cases hb : (Nat.beq j' j && Nat.beq c' c)
    · rw [hb] at h; exact List.mem_cons_of_mem _ (lookT_mem h)
    · rw [hb] at h; cases h
      simp only [Bool.and_eq_true] at hb
      have h1 : j' = j := Nat.eq_of_beq_eq_true hb.1
      have h2 : c' = c := Nat.eq_of_beq_eq_true hb.2
      subst h1 h2; exact List.mem_cons_self ..
def AllP {α : Type} (p : α → Prop) : List α → Prop
  | [] => True
  | a :: r => p a ∧ AllP p r
theorem AllP.mem {α : Type} {p : α → Prop} : ∀ {l : List α}, AllP p l → ∀ a ∈ l, p a
  | [], _, a, h => nomatch h
  | _ :: _, ⟨h1, h2⟩, a, h => (List.mem_cons.mp h).elim (fun e => e ▸ h1) (AllP.mem h2 a)
def FldOk (P : Prog) (cn : Nat → String) (C : String) (Z : State) (a0 : Array Value) (e : Nat × Nat × Nat) : Prop := ∃ n d t fin, P.fields[e.2.2]? = some (n, d, t, fin) ∧ (Cond.fieldLink (cn e.1) e.2.1 C n d).before a0 Z = true
def FieldOk (C : String) (Z : State) (a0 : Array Value) (e : String × String × Nat × Bool) : Prop := (bif e.2.2.2 then (Cond.laysFinal C C e.1 e.2.1).before a0 Z else (Cond.lays C C e.1 e.2.1).before a0 Z) = true ∧ ∃ ty, parseFieldDescriptor e.2.1 = some ty ∧ tyOk e.2.2.1 ty = true ∧ defaultValue ty = dflt e.2.2.1
theorem good_of {cs : CodeL} {mi : Nat → MI} {links : List (Nat × Nat × Nat × Nat)} {flds : List (Nat × Nat × Nat)} {kons : List (Nat × Nat × Value)} {fields : List (String × String × Nat × Bool)} {objN ro cc cS : Nat} {nm : Nat → MethodName} {cn : Nat → String} {C : String} {Z : State} {a0 : Array Value} {ty : ArrayType → Bool} {P : Prog}
    (hP : P = (codeAt cs, mi, lookT links, lookT flds, lookT kons, fields, objN, ro, cc, cS)) (h1 : okCs cs = true) (h2 : AllP (FldOk P cn C Z a0) flds) (h3 : AllP (FieldOk C Z a0) fields) (h4 : (fields.map (·.1)).Nodup) (h5 : AllP (fun e => KonOk cn Z a0 e.1 e.2.1 e.2.2) kons)
    (h6 : (Cond.instantiable C objN).before a0 Z = true) (h7 : (Cond.initialized C).before a0 Z = true) (h8 : tyCs ty cs = true) (h8' : ∀ t, ty t = true → (Cond.arrayClass (newarray.typeOf t)).before a0 Z = true) (h9 : AllP (fun e => LinkOk P nm (bcOf cs) cn C Z a0 e.1 e.2.1 e.2.2.1 e.2.2.2) links) : Good P nm (bcOf cs) cn C Z a0 := by
  subst hP
  refine ⟨fun k pc i np h => code_ok h1 h, fun c j f h => h2.mem _ (lookT_mem h), fun f n d t fin h => h3.mem _ (List.mem_of_getElem? h), fun f g n d t fin n' d' t' fin' q1 q2 ne e => ?_, fun c j v h => h5.mem _ (lookT_mem h), h6, h7, fun k pc t np h => h8' _ (code_ty h8 h), fun c j q k h => h9.mem _ (lookT_mem h)⟩
  subst e
  have e1 : (fields.map (·.1))[f]? = some n := by rw [List.getElem?_map]; exact congrArg (Option.map (·.1)) q1
  have e2 : (fields.map (·.1))[g]? = some n := by rw [List.getElem?_map]; exact congrArg (Option.map (·.1)) q2
  exact ne ((List.getElem?_inj (List.getElem?_eq_some_iff.mp e1).1 h4).mp (e1.trans e2.symm))
/-! ## what the walks of functions use -/
theorem ite_some {α : Type} {c : Prop} [Decidable c] {a : Option α} {r : α} (h : (if c then a else none) = some r) : c ∧ a = some r := by
  by_cases hc : c
  · rw [if_pos hc] at h; exact ⟨hc, h⟩
  · rw [if_neg hc] at h; cases h
theorem ite_none {α : Type} {c : Prop} [Decidable c] {a : Option α} {r : α} (h : (if c then none else a) = some r) : ¬ c ∧ a = some r := by
  by_cases hc : c
  · rw [if_pos hc] at h; cases h
  · rw [if_neg hc] at h; exact ⟨hc, h⟩
theorem bind_some {α β : Type} {o : Option α} {f : α → Option β} {r : β} (h : o.bind f = some r) : ∃ a, o = some a ∧ f a = some r := Option.bind_eq_some_iff.mp h
section Calls
variable {P : Prog} {k pc np : Nat} {L L' : ALoc} {S S' : List Value} {H H1 : AHeap} {out : Option Value × AHeap} {i : Instr} {k' : Nat} {as rest : List Value}
theorem Eval.callI {x : Int32} (hc : P.code k pc = some (i, np)) (h2 : callV P k i S H = some (k', as, rest)) (he : Eval P k' 0 (entry P k' as) [] H (some (.int x), H1)) (h : Eval P k np L (.int x :: rest) H1 out) : Eval P k pc L S H out := Eval.call hc h2 he h
theorem Eval.callJ {x : Int64} (hc : P.code k pc = some (i, np)) (h2 : callV P k i S H = some (k', as, rest)) (he : Eval P k' 0 (entry P k' as) [] H (some (.long x), H1)) (h : Eval P k np L (.long x :: rest) H1 out) : Eval P k pc L S H out := Eval.call hc h2 he h
theorem Eval.callN (hc : P.code k pc = some (i, np)) (h2 : callV P k i S H = some (k', as, rest)) (he : Eval P k' 0 (entry P k' as) [] H (none, H1)) (h : Eval P k np L rest H1 out) : Eval P k pc L S H out := Eval.call hc h2 he h
theorem Eval.conv (h : Eval P k pc L S H out) (e1 : L = L') (e2 : S = S') : Eval P k pc L' S' H out := e1 ▸ e2 ▸ h
theorem Eval.heap {H' : AHeap} (e : H' = H) (h : Eval P k pc L S H' out) : Eval P k pc L S H out := e ▸ h
theorem Eval.retH {H' : AHeap} {v : Option Value} (e : H' = H) (hc : P.code k pc = some (i, np)) (h1 : retV P k i S = some v) : Eval P k pc L S H (v, H') := e ▸ Eval.ret hc h1
end Calls
end Jvm.OwnX
namespace Jvm.OwnX
open Sem ClassFile Op Lib Jvm.Stand Jvm.Free Jvm.LawKit Jvm.RoadKit
theorem HR.none (P : Prog) (C : String) (Z : State) (n0 : Nat) (h : Heap) : HR P C Z n0 [] [] h := ⟨rfl, fun i j a q => by simp at q, fun i a q => by simp at q, fun i c q => by simp at q⟩
def intOf : Value → Int32
  | .int x => x
  | _ => 0
theorem script_start {P : Prog} {C : String} {s : State} {a : Addr} {c : Cell} (hro : P.ro = 1) (hf : Fit s) (A : Arr s s.heap a c .int) : HR P C s s.heap.size [a] [.inr (.inl (0, c.slots.toList.map intOf))] s.heap := by
  have hlt := (Array.getElem?_eq_some_iff.mp A.1).1
  have hint : ∀ i (hi : i < c.slots.size), ∃ x, c.slots[i] = .int x := fun i hi => by
    have q := hf A.1 hi
    obtain ⟨hs, k, hk, comp, hkind⟩ := A.2.1
    have e : s.slotType? c.cls c.vm i = some .int := by
      cases hq : c.vm <;> first | exact absurd hq (hs _) | simp [State.slotType?, hk, hkind]
    have q2 : fits .int c.slots[i] = true := by simpa [State.fitsSlot, e] using q
    exact fit_I q2 (Or.inl rfl)
  refine ⟨rfl, fun i j x q1 q2 => ?_, fun i x q => ?_, fun i d q => ?_⟩
  · cases i with
    | zero => cases j with
      | zero => rfl
      | succ j => simp at q2
    | succ i => simp at q1
  · cases i with
    | zero => simp at q; subst q; exact ⟨hlt, fun h => by rw [hro] at h; omega⟩
    | succ i => simp at q
  · cases i with
    | zero =>
      simp at q; subst q
      refine ⟨a, rfl, c, A, by simp, fun j x hx => ?_⟩
      rw [List.getElem?_map] at hx
      obtain ⟨v, hv, rfl⟩ := Option.map_eq_some_iff.mp hx
      rw [Array.getElem?_toList] at hv
      obtain ⟨hj, rfl⟩ := Array.getElem?_eq_some_iff.mp hv
      obtain ⟨x, e⟩ := hint j hj
      rw [Array.getElem?_eq_getElem hj, e]; rfl
    | succ i => simp at q
end Jvm.OwnX
namespace Jvm.OwnX
/-! ## plain facts on the functions' words -/
theorem len_wr (xs : List Int32) (j v : Int32) : (wr xs j v).length = xs.length := by simp [wr]
theorem len_wrL (xs : List Int64) (j : Int32) (v : Int64) : (wrL xs j v).length = xs.length := by simp [wrL]
theorem rd_wr_same {xs : List Int32} {j : Int32} (h : inb xs.length j = true) (v : Int32) : rd (wr xs j v) j = v := by
  have := inb_lt h
  simp [rd, wr, List.getD_eq_getElem?_getD, this]
theorem rdL_wrL_same {xs : List Int64} {j : Int32} (h : inb xs.length j = true) (v : Int64) : rdL (wrL xs j v) j = v := by
  have := inb_lt h
  simp [rdL, wrL, List.getD_eq_getElem?_getD, this]
theorem nat_inj {i j : Int32} (hi : ¬ i < 0) (hj : ¬ j < 0) (h : i.toNatClampNeg = j.toNatClampNeg) : i = j := by
  apply Int32.toInt_inj.mp
  simp only [Int32.lt_iff_toInt_lt, Int32.toNatClampNeg, Int32.reduceToInt] at hi hj h; omega
theorem inb_nn {n : Nat} {j : Int32} (h : inb n j = true) : ¬ j < 0 := fun q => inb_spec h (Or.inl q)
theorem rd_wr_ne {xs : List Int32} {i j : Int32} (hi : ¬ i < 0) (hj : ¬ j < 0) (h : i ≠ j) (v : Int32) : rd (wr xs i v) j = rd xs j := by
  have : i.toNatClampNeg ≠ j.toNatClampNeg := fun q => h (nat_inj hi hj q)
  simp [rd, wr, List.getD_eq_getElem?_getD, List.getElem?_set_ne this]
theorem rdL_wrL_ne {xs : List Int64} {i j : Int32} (hi : ¬ i < 0) (hj : ¬ j < 0) (h : i ≠ j) (v : Int64) : rdL (wrL xs i v) j = rdL xs j := by
  have : i.toNatClampNeg ≠ j.toNatClampNeg := fun q => h (nat_inj hi hj q)
  simp [rdL, wrL, List.getD_eq_getElem?_getD, List.getElem?_set_ne this]
theorem rd_rep (n : Nat) (j : Int32) : rd (List.replicate n 0) j = 0 := by
  simp only [rd, List.getD_eq_getElem?_getD, List.getElem?_replicate]; split <;> rfl
theorem rdL_rep (n : Nat) (j : Int32) : rdL (List.replicate n 0) j = 0 := by
  simp only [rdL, List.getD_eq_getElem?_getD, List.getElem?_replicate]; split <;> rfl
theorem inb_iff {n : Nat} {j : Int32} : inb n j = true ↔ 0 ≤ j.toInt ∧ j.toInt < n := by
  simp only [inb, Bool.and_eq_true, Bool.not_eq_true', decide_eq_false_iff_not, Int32.lt_iff_toInt_lt, Int32.reduceToInt]
  constructor
  · rintro ⟨h1, h2⟩
    have h3 := Nat.le_of_ble_eq_true h2
    simp only [Int32.toNatClampNeg] at h3
    omega
  · rintro ⟨h1, h2⟩
    refine ⟨by omega, Nat.ble_eq_true_of_le ?_⟩
    simp only [Int32.toNatClampNeg]; omega
theorem lt32 {x y : Int32} : x < y ↔ x.toInt < y.toInt := Int32.lt_iff_toInt_lt
theorem eq32 {x y : Int32} : x = y ↔ x.toInt = y.toInt := Int32.toInt_inj.symm
end Jvm.OwnX
namespace Jvm.Pilot.@@N@@
open Jvm Jvm.ClassFile Sem Op Lib Jvm.Free Jvm.Stand Jvm.LawKit Jvm.RoadKit Bundle Jvm.Pilot.@@N@@.Jvm.D Jvm.OwnX
/-! # tables (printed by gen.py out of the claim's listing and sheet) -/
set_option maxHeartbeats 4000000 in
set_option maxRecDepth 100000 in
def own_cs : CodeL := [
  (code, [
    [(0, .new 7, 3), (3, .dup, 4), (4, .iconst 1, 5), (5, .iconst 1, 6), (6, .iconst 4, 7), (7, .invokespecial 9, 10), (10, .astore_n 2, 11), (11, .iload_n 0, 12), (12, .iconst 1, 13), (13, .iand, 14), (14, .ifCond .eq 7, 17), (17, .iconst 1, 18), (18, .goto 4, 21), (21, .iconst 0, 22), (22, .istore_n 3, 23), (23, .iload_n 3, 24), (24, .ifCond .eq 7, 27), (27, .iconst 2, 28), (28, .goto 4, 31), (31, .iconst 1, 32)],
    [(32, .istore 4, 34), (34, .iload_n 1, 35), (35, .ifCond .lt 14, 38), (38, .iload_n 1, 39), (39, .sipush 256, 42), (42, .if_icmp .ge 7, 45), (45, .iconst 1, 46), (46, .goto 4, 49), (49, .iconst 0, 50), (50, .istore 5, 52), (52, .aload_n 2, 53), (53, .iload 4, 55), (55, .iload_n 1, 56), (56, .iconst 0, 57), (57, .iconst 0, 58), (58, .invokevirtual 12, 61), (61, .iload 5, 63), (63, .ifCond .eq 7, 66)],
    [(66, .iconst 0, 67), (67, .goto 4, 70), (70, .iconst (-1), 71), (71, .if_icmp .eq 5, 74), (74, .iconst 0, 75), (75, .ireturn, 76), (76, .aload_n 2, 77), (77, .iconst 1, 78), (78, .invokevirtual 16, 81), (81, .ifCond .ne 5, 84), (84, .iconst 0, 85), (85, .ireturn, 86), (86, .aload_n 2, 87), (87, .invokevirtual 20, 90), (90, .iload 5, 92), (92, .ifCond .eq 7, 95), (95, .iconst 1, 96)],
    [(96, .goto 4, 99), (99, .iconst 0, 100), (100, .if_icmp .eq 5, 103), (103, .iconst 0, 104), (104, .ireturn, 105), (105, .iload 5, 107), (107, .ifCond .eq 11, 110), (110, .iconst 1, 111), (111, .iload_n 1, 112), (112, .iconst 4, 113), (113, .ishr, 114), (114, .ishl, 115), (115, .goto 4, 118), (118, .iconst 0, 119), (119, .istore 6, 121), (121, .aload_n 2, 122), (122, .invokevirtual 24, 125), (125, .iload 6, 127), (127, .if_icmp .eq 5, 130)],
    [(130, .iconst 0, 131), (131, .ireturn, 132), (132, .iload 5, 134), (134, .ifCond .ne 7, 137), (137, .iconst (-1), 138), (138, .goto 20, 141), (141, .iload_n 3, 142), (142, .ifCond .eq 11, 145), (145, .sipush 4096, 148), (148, .iload_n 1, 149), (149, .iadd, 150), (150, .goto 8, 153), (153, .sipush 8192, 156), (156, .iload_n 1, 157), (157, .iadd, 158), (158, .istore 7, 160)],
    [(160, .aload_n 2, 161), (161, .iconst 0, 162), (162, .invokevirtual 27, 165), (165, .iload 7, 167), (167, .if_icmp .eq 5, 170), (170, .iconst 0, 171), (171, .ireturn, 172), (172, .aload_n 2, 173), (173, .iconst 1, 174), (174, .invokevirtual 27, 177), (177, .iconst (-1), 178), (178, .if_icmp .eq 5, 181), (181, .iconst 0, 182), (182, .ireturn, 183), (183, .aload_n 2, 184), (184, .invokevirtual 31, 187), (187, .iload 5, 189), (189, .ifCond .eq 7, 192)],
    [(192, .iconst 1, 193), (193, .goto 4, 196), (196, .iconst 0, 197), (197, .if_icmp .eq 5, 200), (200, .iconst 0, 201), (201, .ireturn, 202), (202, .iload_n 1, 203), (203, .iconst 4, 204), (204, .ishr, 205), (205, .istore 8, 207), (207, .aload_n 2, 208), (208, .iload 8, 210), (210, .invokevirtual 34, 213), (213, .iload 5, 215), (215, .ifCond .eq 7, 218), (218, .iconst 0, 219), (219, .goto 4, 222), (222, .iconst (-1), 223), (223, .if_icmp .eq 5, 226)],
    [(226, .iconst 0, 227), (227, .ireturn, 228), (228, .aload_n 2, 229), (229, .invokevirtual 20, 232), (232, .ifCond .eq 5, 235), (235, .iconst 0, 236), (236, .ireturn, 237), (237, .aload_n 2, 238), (238, .invokevirtual 24, 241), (241, .ifCond .eq 5, 244), (244, .iconst 0, 245), (245, .ireturn, 246), (246, .aload_n 2, 247), (247, .invokevirtual 37, 250), (250, .iconst 1, 251), (251, .if_icmp .ne 7, 254), (254, .iconst 1, 255), (255, .goto 4, 258)],
    [(258, .iconst 0, 259), (259, .ireturn, 260)]]),
  (prog_1_method_1_code, [
    [(0, .aload_n 0, 1), (1, .invokespecial 1, 4), (4, .aload_n 0, 5), (5, .sipush 320, 8), (8, .newarray .byte, 10), (10, .putfield 7, 13), (13, .aload_n 0, 14), (14, .bipush 16, 16), (16, .newarray .int, 18), (18, .putfield 13, 21), (21, .aload_n 0, 22), (22, .bipush 16, 24), (24, .newarray .int, 26), (26, .putfield 17, 29), (29, .aload_n 0, 30), (30, .bipush 16, 32)],
    [(32, .newarray .int, 34), (34, .putfield 20, 37), (37, .aload_n 0, 38), (38, .bipush 16, 40), (40, .newarray .int, 42), (42, .putfield 23, 45), (45, .aload_n 0, 46), (46, .sipush 256, 49), (49, .newarray .int, 51), (51, .putfield 26, 54), (54, .aload_n 0, 55), (55, .sipush 256, 58), (58, .newarray .int, 60), (60, .putfield 29, 63), (63, .aload_n 0, 64)],
    [(64, .bipush 8, 66), (66, .newarray .int, 68), (68, .putfield 32, 71), (71, .aload_n 0, 72), (72, .bipush 8, 74), (74, .newarray .int, 76), (76, .putfield 35, 79), (79, .aload_n 0, 80), (80, .bipush 8, 82), (82, .newarray .int, 84), (84, .putfield 38, 87), (87, .aload_n 0, 88), (88, .bipush 32, 90), (90, .newarray .int, 92), (92, .putfield 41, 95), (95, .aload_n 0, 96)],
    [(96, .bipush 16, 98), (98, .newarray .int, 100), (100, .putfield 44, 103), (103, .aload_n 0, 104), (104, .iconst 4, 105), (105, .newarray .boolean, 107), (107, .putfield 47, 110), (110, .aload_n 0, 111), (111, .aload_n 0, 112), (112, .iload_n 1, 113), (113, .iconst 0, 114), (114, .iconst 4, 115), (115, .invokevirtual 51, 118), (118, .putfield 55, 121), (121, .aload_n 0, 122), (122, .aload_n 0, 123), (123, .iload_n 2, 124), (124, .iconst 1, 125), (125, .bipush 16, 127), (127, .invokevirtual 51, 130)],
    [(130, .putfield 59, 133), (133, .aload_n 0, 134), (134, .aload_n 0, 135), (135, .iload_n 3, 136), (136, .iconst 1, 137), (137, .bipush 32, 139), (139, .invokevirtual 51, 142), (142, .putfield 62, 145), (145, .iconst 0, 146), (146, .istore 4, 148), (148, .iload 4, 150), (150, .bipush 16, 152), (152, .if_icmp .ge 17, 155), (155, .aload_n 0, 156), (156, .getfield 44, 159), (159, .iload 4, 161)],
    [(161, .iconst (-1), 162), (162, .iastore, 163), (163, .iinc 4 1, 166), (166, .goto (-18), 169), (169, .aload_n 0, 170), (170, .iconst 0, 171), (171, .putfield 65, 174), (174, .aload_n 0, 175), (175, .iconst 0, 176), (176, .putfield 68, 179), (179, .aload_n 0, 180), (180, .iconst 0, 181), (181, .putfield 71, 184), (184, .aload_n 0, 185), (185, .iconst 0, 186), (186, .putfield 74, 189), (189, .aload_n 0, 190), (190, .iconst 0, 191), (191, .putfield 77, 194)],
    [(194, .return_, 195)]]),
  (prog_1_method_58_code, [
    [(0, .iload_n 1, 1), (1, .iload_n 2, 2), (2, .if_icmp .ge 5, 5), (5, .iload_n 2, 6), (6, .ireturn, 7), (7, .iload_n 1, 8), (8, .iload_n 3, 9), (9, .if_icmp .le 5, 12), (12, .iload_n 3, 13), (13, .ireturn, 14), (14, .iload_n 1, 15), (15, .ireturn, 16)]]),
  (prog_1_method_2_code, [
    [(0, .aload_n 0, 1), (1, .iload_n 1, 2), (2, .iload_n 2, 3), (3, .iload_n 3, 4), (4, .iload 4, 6), (6, .invokevirtual 80, 9), (9, .istore 5, 11), (11, .iload 5, 13), (13, .ifCond .eq 6, 16), (16, .iload 5, 18), (18, .ireturn, 19), (19, .aload_n 0, 20), (20, .iload_n 1, 21), (21, .iload_n 2, 22), (22, .iload_n 3, 23), (23, .invokevirtual 84, 26), (26, .istore 5, 28), (28, .iload 5, 30), (30, .ifCond .eq 6, 33)],
    [(33, .iload 5, 35), (35, .ireturn, 36), (36, .aload_n 0, 37), (37, .iload_n 1, 38), (38, .iload_n 2, 39), (39, .iload_n 3, 40), (40, .iload 4, 42), (42, .invokevirtual 87, 45), (45, .ireturn, 46)]]),
  (prog_1_method_5_code, [
    [(0, .aload_n 0, 1), (1, .iload_n 1, 2), (2, .invokevirtual 94, 5), (5, .ifCond .ne 6, 8), (8, .bipush (-3), 10), (10, .ireturn, 11), (11, .aload_n 0, 12), (12, .iload_n 2, 13), (13, .invokevirtual 97, 16), (16, .ifCond .ne 5, 19), (19, .iconst (-1), 20), (20, .ireturn, 21), (21, .iload_n 1, 22), (22, .bipush 6, 24), (24, .if_icmp .eq 5, 27), (27, .iconst 0, 28), (28, .ireturn, 29), (29, .aload_n 0, 30), (30, .iload_n 3, 31), (31, .invokevirtual 97, 34)],
    [(34, .ifCond .ne 5, 37), (37, .iconst (-1), 38), (38, .ireturn, 39), (39, .iload_n 3, 40), (40, .iload_n 2, 41), (41, .if_icmp .ne 6, 44), (44, .bipush (-4), 46), (46, .ireturn, 47), (47, .aload_n 0, 48), (48, .iload 4, 50), (50, .invokevirtual 100, 53), (53, .ifCond .ne 6, 56), (56, .bipush (-5), 58), (58, .ireturn, 59), (59, .iconst 0, 60), (60, .ireturn, 61)]]),
  (prog_1_method_8_code, [
    [(0, .iload_n 1, 1), (1, .iconst 1, 2), (2, .if_icmp .lt 13, 5), (5, .iload_n 1, 6), (6, .bipush 6, 8), (8, .if_icmp .gt 7, 11), (11, .iconst 1, 12), (12, .goto 4, 15), (15, .iconst 0, 16), (16, .ireturn, 17)]]),
  (prog_1_method_47_code, [
    [(0, .iload_n 1, 1), (1, .ifCond .lt 14, 4), (4, .iload_n 1, 5), (5, .sipush 256, 8), (8, .if_icmp .ge 7, 11), (11, .iconst 1, 12), (12, .goto 4, 15), (15, .iconst 0, 16), (16, .ireturn, 17)]]),
  (prog_1_method_6_code, [
    [(0, .aload_n 0, 1), (1, .getfield 68, 4), (4, .aload_n 0, 5), (5, .getfield 59, 8), (8, .if_icmp .lt 6, 11), (11, .bipush (-6), 13), (13, .ireturn, 14), (14, .aload_n 0, 15), (15, .iload_n 2, 16), (16, .invokevirtual 103, 19), (19, .ifCond .eq 6, 22), (22, .bipush (-7), 24), (24, .ireturn, 25), (25, .aload_n 0, 26), (26, .iload_n 2, 27), (27, .invokevirtual 106, 30), (30, .ifCond .eq 6, 33)],
    [(33, .bipush (-7), 35), (35, .ireturn, 36), (36, .iload_n 1, 37), (37, .bipush 6, 39), (39, .if_icmp .ne 14, 42), (42, .aload_n 0, 43), (43, .iload_n 3, 44), (44, .invokevirtual 103, 47), (47, .ifCond .eq 6, 50), (50, .bipush (-7), 52), (52, .ireturn, 53), (53, .iconst 0, 54), (54, .ireturn, 55)]]),
  (prog_1_method_11_code, [
    [(0, .aload_n 0, 1), (1, .iload_n 1, 2), (2, .invokevirtual 97, 5), (5, .ifCond .eq 16, 8), (8, .aload_n 0, 9), (9, .getfield 26, 12), (12, .iload_n 1, 13), (13, .iaload, 14), (14, .ifCond .eq 7, 17), (17, .iconst 1, 18), (18, .goto 4, 21), (21, .iconst 0, 22), (22, .ireturn, 23)]]),
  (prog_1_method_12_code, [
    [(0, .aload_n 0, 1), (1, .iload_n 1, 2), (2, .invokevirtual 97, 5), (5, .ifCond .eq 16, 8), (8, .aload_n 0, 9), (9, .getfield 29, 12), (12, .iload_n 1, 13), (13, .iaload, 14), (14, .ifCond .le 7, 17), (17, .iconst 1, 18), (18, .goto 4, 21), (21, .iconst 0, 22), (22, .ireturn, 23)]]),
  (prog_1_method_7_code, [
    [(0, .aload_n 0, 1), (1, .getfield 68, 4), (4, .istore 5, 6), (6, .iload 5, 8), (8, .ifCond .lt 18, 11), (11, .iload 5, 13), (13, .bipush 16, 15), (15, .if_icmp .ge 11, 18), (18, .aload_n 0, 19), (19, .iload_n 2, 20), (20, .invokevirtual 97, 23), (23, .ifCond .ne 6, 26), (26, .bipush (-6), 28), (28, .ireturn, 29), (29, .aload_n 0, 30), (30, .getfield 13, 33)],
    [(33, .iload 5, 35), (35, .iload_n 1, 36), (36, .iastore, 37), (37, .aload_n 0, 38), (38, .getfield 17, 41), (41, .iload 5, 43), (43, .iload_n 2, 44), (44, .iastore, 45), (45, .aload_n 0, 46), (46, .getfield 26, 49), (49, .iload_n 2, 50), (50, .iload 5, 52), (52, .iconst 1, 53), (53, .iadd, 54), (54, .iastore, 55), (55, .iload_n 1, 56), (56, .bipush 6, 58), (58, .if_icmp .ne 47, 61), (61, .aload_n 0, 62), (62, .iload_n 3, 63), (63, .invokevirtual 97, 66)],
    [(66, .ifCond .eq 39, 69), (69, .aload_n 0, 70), (70, .getfield 20, 73), (73, .iload 5, 75), (75, .iload_n 3, 76), (76, .iastore, 77), (77, .aload_n 0, 78), (78, .getfield 23, 81), (81, .iload 5, 83), (83, .iload 4, 85), (85, .iconst 3, 86), (86, .iand, 87), (87, .iastore, 88), (88, .aload_n 0, 89), (89, .getfield 29, 92), (92, .iload_n 3, 93), (93, .aload_n 0, 94), (94, .getfield 29, 97)],
    [(97, .iload_n 3, 98), (98, .iaload, 99), (99, .iconst 1, 100), (100, .iadd, 101), (101, .iastore, 102), (102, .goto 19, 105), (105, .aload_n 0, 106), (106, .getfield 20, 109), (109, .iload 5, 111), (111, .iconst 0, 112), (112, .iastore, 113), (113, .aload_n 0, 114), (114, .getfield 23, 117), (117, .iload 5, 119), (119, .iconst 0, 120), (120, .iastore, 121), (121, .aload_n 0, 122), (122, .iload 5, 124), (124, .iconst 1, 125), (125, .iadd, 126), (126, .putfield 68, 129)],
    [(129, .iload 5, 131), (131, .ireturn, 132)]]),
  (prog_1_method_15_code, [
    [(0, .iload_n 1, 1), (1, .ifCond .lt 8, 4), (4, .iload_n 1, 5), (5, .iconst 3, 6), (6, .if_icmp .le 5, 9), (9, .iconst 0, 10), (10, .ireturn, 11), (11, .aload_n 0, 12), (12, .invokevirtual 115, 15), (15, .iload_n 1, 16), (16, .iconst 1, 17), (17, .if_icmp .ne 10, 20), (20, .aload_n 0, 21), (21, .invokevirtual 118, 24), (24, .goto 24, 27), (27, .iload_n 1, 28), (28, .iconst 2, 29), (29, .if_icmp .ne 10, 32)],
    [(32, .aload_n 0, 33), (33, .invokevirtual 121, 36), (36, .goto 12, 39), (39, .iload_n 1, 40), (40, .iconst 3, 41), (41, .if_icmp .ne 7, 44), (44, .aload_n 0, 45), (45, .invokevirtual 124, 48), (48, .iconst 1, 49), (49, .ireturn, 50)]]),
  (prog_1_method_18_code, [
    [(0, .iconst 0, 1), (1, .istore_n 1, 2), (2, .iload_n 1, 3), (3, .bipush 8, 5), (5, .if_icmp .ge 30, 8), (8, .aload_n 0, 9), (9, .getfield 32, 12), (12, .iload_n 1, 13), (13, .iconst 0, 14), (14, .iastore, 15), (15, .aload_n 0, 16), (16, .getfield 35, 19), (19, .iload_n 1, 20), (20, .iconst 0, 21), (21, .iastore, 22), (22, .aload_n 0, 23), (23, .getfield 38, 26), (26, .iload_n 1, 27), (27, .iconst 0, 28), (28, .iastore, 29), (29, .iinc 1 1, 32)],
    [(32, .goto (-30), 35), (35, .aload_n 0, 36), (36, .iconst 0, 37), (37, .putfield 71, 40), (40, .return_, 41)]]),
  (prog_1_method_20_code, [
    [(0, .aload_n 0, 1), (1, .iconst 0, 2), (2, .iconst 1, 3), (3, .iconst 2, 4), (4, .iconst 0, 5), (5, .iconst 0, 6), (6, .invokevirtual 134, 9), (9, .aload_n 0, 10), (10, .iconst 0, 11), (11, .iconst 2, 12), (12, .iconst 0, 13), (13, .iconst 3, 14), (14, .iconst 0, 15), (15, .invokevirtual 134, 18), (18, .aload_n 0, 19), (19, .iconst 1, 20), (20, .iconst 2, 21), (21, .iconst 1, 22), (22, .iconst 2, 23), (23, .iconst 0, 24), (24, .invokevirtual 134, 27), (27, .return_, 28)]]),
  (prog_1_method_19_code, [
    [(0, .iload_n 3, 1), (1, .iconst 3, 2), (2, .iand, 3), (3, .istore 6, 5), (5, .iload 6, 7), (7, .iload 4, 9), (9, .iconst 3, 10), (10, .iand, 11), (11, .iconst 2, 12), (12, .ishl, 13), (13, .ior, 14), (14, .istore 6, 16), (16, .iload 6, 18), (18, .iload 5, 20), (20, .iconst 3, 21), (21, .iand, 22), (22, .iconst 4, 23), (23, .ishl, 24), (24, .ior, 25), (25, .istore 6, 27), (27, .aload_n 0, 28), (28, .iload_n 1, 29), (29, .iload_n 2, 30), (30, .iload 6, 32)],
    [(32, .invokevirtual 112, 35), (35, .pop, 36), (36, .return_, 37)]]),
  (prog_1_method_17_code, [
    [(0, .aload_n 0, 1), (1, .getfield 71, 4), (4, .istore 4, 6), (6, .iload 4, 8), (8, .ifCond .lt 10, 11), (11, .iload 4, 13), (13, .bipush 8, 15), (15, .if_icmp .lt 6, 18), (18, .bipush (-6), 20), (20, .ireturn, 21), (21, .aload_n 0, 22), (22, .getfield 32, 25), (25, .iload 4, 27), (27, .iload_n 1, 28), (28, .iastore, 29), (29, .aload_n 0, 30), (30, .getfield 35, 33)],
    [(33, .iload 4, 35), (35, .iload_n 2, 36), (36, .iastore, 37), (37, .aload_n 0, 38), (38, .getfield 38, 41), (41, .iload 4, 43), (43, .iload_n 3, 44), (44, .aload_n 0, 45), (45, .iload_n 2, 46), (46, .invokevirtual 130, 49), (49, .iand, 50), (50, .iastore, 51), (51, .aload_n 0, 52), (52, .iload 4, 54), (54, .iconst 1, 55), (55, .iadd, 56), (56, .putfield 71, 59), (59, .iload 4, 61), (61, .ireturn, 62)]]),
  (prog_1_method_25_code, [
    [(0, .iload_n 1, 1), (1, .iconst 1, 2), (2, .if_icmp .ge 5, 5), (5, .iconst 0, 6), (6, .ireturn, 7), (7, .iload_n 1, 8), (8, .iconst 4, 9), (9, .if_icmp .le 7, 12), (12, .sipush 255, 15), (15, .ireturn, 16), (16, .iconst 1, 17), (17, .iconst 2, 18), (18, .iload_n 1, 19), (19, .imul, 20), (20, .ishl, 21), (21, .iconst 1, 22), (22, .isub, 23), (23, .ireturn, 24)]]),
  (prog_1_method_28_code, [
    [(0, .aload_n 0, 1), (1, .getfield 71, 4), (4, .ifCond .gt 6, 7), (7, .bipush (-10), 9), (9, .ireturn, 10), (10, .aload_n 0, 11), (11, .invokevirtual 138, 14), (14, .iconst 0, 15), (15, .istore_n 1, 16), (16, .iconst 0, 17), (17, .istore_n 2, 18), (18, .iload_n 2, 19), (19, .aload_n 0, 20), (20, .getfield 71, 23), (23, .if_icmp .ge 23, 26), (26, .iload_n 2, 27), (27, .bipush 8, 29), (29, .if_icmp .ge 17, 32)],
    [(32, .iload_n 1, 33), (33, .aload_n 0, 34), (34, .iload_n 2, 35), (35, .invokevirtual 141, 38), (38, .iadd, 39), (39, .istore_n 1, 40), (40, .iinc 2 1, 43), (43, .goto (-25), 46), (46, .iload_n 1, 47), (47, .ireturn, 48)]]),
  (prog_1_method_31_code, [
    [(0, .iconst 0, 1), (1, .istore_n 1, 2), (2, .iload_n 1, 3), (3, .bipush 32, 5), (5, .if_icmp .ge 16, 8), (8, .aload_n 0, 9), (9, .getfield 41, 12), (12, .iload_n 1, 13), (13, .iconst 0, 14), (14, .iastore, 15), (15, .iinc 1 1, 18), (18, .goto (-16), 21), (21, .aload_n 0, 22), (22, .iconst 0, 23), (23, .putfield 74, 26), (26, .aload_n 0, 27), (27, .iconst 0, 28), (28, .putfield 77, 31), (31, .return_, 32)]]),
  (prog_1_method_32_code, [
    [(0, .aload_n 0, 1), (1, .iload_n 1, 2), (2, .invokevirtual 127, 5), (5, .ifCond .ne 5, 8), (8, .iconst 0, 9), (9, .ireturn, 10), (10, .aload_n 0, 11), (11, .getfield 32, 14), (14, .iload_n 1, 15), (15, .iaload, 16), (16, .istore_n 2, 17), (17, .iconst 0, 18), (18, .istore_n 3, 19), (19, .iconst 0, 20), (20, .istore 4, 22), (22, .iload 4, 24), (24, .sipush 256, 27), (27, .if_icmp .ge 28, 30), (30, .aload_n 0, 31), (31, .iload_n 2, 32)],
    [(32, .iload 4, 34), (34, .invokevirtual 144, 37), (37, .istore 5, 39), (39, .iload_n 3, 40), (40, .aload_n 0, 41), (41, .iload_n 1, 42), (42, .iload 5, 44), (44, .invokevirtual 148, 47), (47, .iadd, 48), (48, .istore_n 3, 49), (49, .iinc 4 1, 52), (52, .goto (-30), 55), (55, .iload_n 3, 56), (56, .ireturn, 57)]]),
  (prog_1_method_24_code, [
    [(0, .iload_n 1, 1), (1, .ifCond .lt 21, 4), (4, .iload_n 1, 5), (5, .aload_n 0, 6), (6, .getfield 71, 9), (9, .if_icmp .ge 13, 12), (12, .iload_n 1, 13), (13, .bipush 8, 15), (15, .if_icmp .ge 7, 18), (18, .iconst 1, 19), (19, .goto 4, 22), (22, .iconst 0, 23), (23, .ireturn, 24)]]),
  (prog_1_method_27_code, [
    [(0, .iload_n 1, 1), (1, .iconst 1, 2), (2, .if_icmp .ne 9, 5), (5, .sipush 255, 8), (8, .iload_n 2, 9), (9, .isub, 10), (10, .ireturn, 11), (11, .iload_n 2, 12), (12, .ireturn, 13)]]),
  (prog_1_method_33_code, [
    [(0, .aload_n 0, 1), (1, .getfield 35, 4), (4, .iload_n 1, 5), (5, .iaload, 6), (6, .istore_n 3, 7), (7, .iconst 0, 8), (8, .istore 4, 10), (10, .iconst 0, 11), (11, .istore 5, 13), (13, .iload 5, 15), (15, .iload_n 3, 16), (16, .if_icmp .ge 45, 19), (19, .iload 5, 21), (21, .iconst 4, 22), (22, .if_icmp .ge 39, 25), (25, .aload_n 0, 26), (26, .iload_n 1, 27), (27, .iload 5, 29), (29, .invokevirtual 151, 32)],
    [(32, .istore 6, 34), (34, .aload_n 0, 35), (35, .iload 6, 37), (37, .iload_n 2, 38), (38, .invokevirtual 154, 41), (41, .ifCond .eq 14, 44), (44, .aload_n 0, 45), (45, .iload_n 1, 46), (46, .iload 5, 48), (48, .iload_n 2, 49), (49, .invokevirtual 158, 52), (52, .iinc 4 1, 55), (55, .iinc 5 1, 58), (58, .goto (-45), 61), (61, .iload 4, 63), (63, .ireturn, 64)]]),
  (prog_1_method_26_code, [
    [(0, .aload_n 0, 1), (1, .iload_n 1, 2), (2, .invokevirtual 127, 5), (5, .ifCond .eq 12, 8), (8, .iload_n 2, 9), (9, .ifCond .lt 8, 12), (12, .iload_n 2, 13), (13, .iconst 3, 14), (14, .if_icmp .le 5, 17), (17, .iconst 0, 18), (18, .ireturn, 19), (19, .aload_n 0, 20), (20, .getfield 38, 23), (23, .iload_n 1, 24), (24, .iaload, 25), (25, .iconst 2, 26), (26, .iload_n 2, 27), (27, .imul, 28), (28, .ishr, 29), (29, .iconst 3, 30), (30, .iand, 31), (31, .ireturn, 32)]]),
  (prog_1_method_34_code, [
    [(0, .iload_n 1, 1), (1, .iconst 2, 2), (2, .if_icmp .ne 11, 5), (5, .aload_n 0, 6), (6, .iload_n 2, 7), (7, .iconst 0, 8), (8, .invokevirtual 162, 11), (11, .iconst 0, 12), (12, .ireturn, 13), (13, .iload_n 1, 14), (14, .iconst 3, 15), (15, .if_icmp .ne 11, 18), (18, .aload_n 0, 19), (19, .iload_n 2, 20), (20, .iconst 1, 21), (21, .invokevirtual 162, 24), (24, .iconst 0, 25), (25, .ireturn, 26), (26, .iconst 0, 27), (27, .istore_n 3, 28), (28, .iload_n 1, 29), (29, .iconst 1, 30), (30, .if_icmp .ne 5, 33)],
    [(33, .iconst 1, 34), (34, .istore_n 3, 35), (35, .aload_n 0, 36), (36, .iload_n 2, 37), (37, .invokevirtual 166, 40), (40, .istore 4, 42), (42, .iload 4, 44), (44, .iload_n 3, 45), (45, .if_icmp .eq 7, 48), (48, .iconst 1, 49), (49, .goto 4, 52), (52, .iconst 0, 53), (53, .ireturn, 54)]]),
  (prog_1_method_51_code, [
    [(0, .aload_n 0, 1), (1, .iload_n 1, 2), (2, .invokevirtual 185, 5), (5, .istore_n 3, 6), (6, .iload_n 3, 7), (7, .sipush 256, 10), (10, .if_icmp .lt 14, 13), (13, .aload_n 0, 14), (14, .getfield 7, 17), (17, .iload_n 3, 18), (18, .iload_n 2, 19), (19, .iconst 1, 20), (20, .iand, 21), (21, .i2b, 22), (22, .bastore, 23), (23, .return_, 24), (24, .aload_n 0, 25), (25, .iload_n 3, 26), (26, .iload_n 2, 27), (27, .iconst 1, 28), (28, .iand, 29), (29, .invokevirtual 194, 32)],
    [(32, .return_, 33)]]),
  (prog_1_method_48_code, [
    [(0, .iload_n 1, 1), (1, .iconst 4, 2), (2, .ishr, 3), (3, .bipush 15, 5), (5, .iand, 6), (6, .istore_n 2, 7), (7, .aload_n 0, 8), (8, .getfield 44, 11), (11, .iload_n 2, 12), (12, .iaload, 13), (13, .istore_n 3, 14), (14, .iload_n 3, 15), (15, .ifCond .lt 22, 18), (18, .iload_n 3, 19), (19, .iconst 4, 20), (20, .if_icmp .ge 17, 23), (23, .sipush 256, 26), (26, .bipush 16, 28), (28, .iload_n 3, 29), (29, .imul, 30), (30, .iadd, 31), (31, .iload_n 1, 32)],
    [(32, .bipush 15, 34), (34, .iand, 35), (35, .iadd, 36), (36, .ireturn, 37), (37, .iload_n 1, 38), (38, .sipush 255, 41), (41, .iand, 42), (42, .ireturn, 43)]]),
  (prog_1_method_52_code, [
    [(0, .aload_n 0, 1), (1, .getfield 7, 4), (4, .iload_n 1, 5), (5, .baload, 6), (6, .istore_n 3, 7), (7, .aload_n 0, 8), (8, .iload_n 1, 9), (9, .iload_n 3, 10), (10, .iload_n 2, 11), (11, .invokevirtual 197, 14), (14, .istore 4, 16), (16, .aload_n 0, 17), (17, .getfield 7, 20), (20, .iload_n 1, 21), (21, .iload 4, 23), (23, .i2b, 24), (24, .bastore, 25), (25, .iload 4, 27), (27, .iload_n 3, 28), (28, .if_icmp .eq 27, 31), (31, .aload_n 0, 32)],
    [(32, .iload_n 1, 33), (33, .invokevirtual 106, 36), (36, .ifCond .eq 19, 39), (39, .aload_n 0, 40), (40, .iload_n 1, 41), (41, .iload 4, 43), (43, .iconst 1, 44), (44, .if_icmp .ne 7, 47), (47, .iconst 1, 48), (48, .goto 4, 51), (51, .iconst 0, 52), (52, .invokevirtual 200, 55), (55, .return_, 56)]]),
  (prog_1_method_53_code, [
    [(0, .aload_n 0, 1), (1, .iload_n 1, 2), (2, .invokevirtual 191, 5), (5, .istore 4, 7), (7, .iload 4, 9), (9, .iconst 1, 10), (10, .if_icmp .eq 15, 13), (13, .iload 4, 15), (15, .iconst 2, 16), (16, .if_icmp .eq 9, 19), (19, .iload 4, 21), (21, .iconst 5, 22), (22, .if_icmp .ne 5, 25), (25, .iload_n 2, 26), (26, .ireturn, 27), (27, .iload 4, 29), (29, .iconst 3, 30), (30, .if_icmp .ne 14, 33)],
    [(33, .iload_n 2, 34), (34, .ifCond .ne 10, 37), (37, .iload_n 3, 38), (38, .iconst 1, 39), (39, .if_icmp .ne 5, 42), (42, .iload_n 2, 43), (43, .ireturn, 44), (44, .iload 4, 46), (46, .iconst 4, 47), (47, .if_icmp .ne 14, 50), (50, .iload_n 2, 51), (51, .iconst 1, 52), (52, .if_icmp .ne 9, 55), (55, .iload_n 3, 56), (56, .ifCond .ne 5, 59), (59, .iload_n 2, 60), (60, .ireturn, 61), (61, .iload_n 3, 62), (62, .ireturn, 63)]]),
  (prog_1_method_13_code, [
    [(0, .aload_n 0, 1), (1, .iload_n 1, 2), (2, .invokevirtual 97, 5), (5, .ifCond .ne 5, 8), (8, .iconst 0, 9), (9, .ireturn, 10), (10, .aload_n 0, 11), (11, .getfield 26, 14), (14, .iload_n 1, 15), (15, .iaload, 16), (16, .istore_n 2, 17), (17, .iload_n 2, 18), (18, .iconst 1, 19), (19, .if_icmp .lt 9, 22), (22, .iload_n 2, 23), (23, .bipush 16, 25), (25, .if_icmp .le 5, 28), (28, .iconst 0, 29), (29, .ireturn, 30), (30, .aload_n 0, 31), (31, .getfield 13, 34)],
    [(34, .iload_n 2, 35), (35, .iconst 1, 36), (36, .isub, 37), (37, .iaload, 38), (38, .ireturn, 39)]]),
  (prog_1_method_49_code, [
    [(0, .aload_n 0, 1), (1, .iload_n 1, 2), (2, .invokevirtual 185, 5), (5, .istore_n 2, 6), (6, .iload_n 2, 7), (7, .sipush 256, 10), (10, .if_icmp .lt 13, 13), (13, .aload_n 0, 14), (14, .getfield 7, 17), (17, .iload_n 2, 18), (18, .baload, 19), (19, .istore_n 3, 20), (20, .goto 9, 23), (23, .aload_n 0, 24), (24, .iload_n 2, 25), (25, .invokevirtual 188, 28), (28, .istore_n 3, 29), (29, .aload_n 0, 30), (30, .iload_n 3, 31), (31, .iconst 1, 32)],
    [(32, .iand, 33), (33, .putfield 65, 36), (36, .aload_n 0, 37), (37, .getfield 65, 40), (40, .ireturn, 41)]]),
  (prog_1_method_50_code, [
    [(0, .aload_n 0, 1), (1, .iload_n 1, 2), (2, .invokevirtual 191, 5), (5, .istore_n 2, 6), (6, .iload_n 2, 7), (7, .iconst 1, 8), (8, .if_icmp .ne 5, 11), (11, .iconst 0, 12), (12, .ireturn, 13), (13, .iload_n 2, 14), (14, .iconst 2, 15), (15, .if_icmp .ne 5, 18), (18, .iconst 1, 19), (19, .ireturn, 20), (20, .iload_n 2, 21), (21, .iconst 5, 22), (22, .if_icmp .ne 8, 25), (25, .aload_n 0, 26), (26, .getfield 65, 29), (29, .ireturn, 30), (30, .aload_n 0, 31), (31, .getfield 7, 34)],
    [(34, .iload_n 1, 35), (35, .baload, 36), (36, .ireturn, 37)]]),
  (prog_1_method_35_code, [
    [(0, .iload_n 3, 1), (1, .iconst 4, 2), (2, .ishr, 3), (3, .bipush 15, 5), (5, .iand, 6), (6, .istore 4, 8), (8, .aload_n 0, 9), (9, .dup, 10), (10, .getfield 77, 13), (13, .iconst 1, 14), (14, .iload 4, 16), (16, .ishl, 17), (17, .ior, 18), (18, .putfield 77, 21), (21, .aload_n 0, 22), (22, .getfield 74, 25), (25, .aload_n 0, 26), (26, .getfield 62, 29), (29, .if_icmp .ge 49, 32)],
    [(32, .aload_n 0, 33), (33, .getfield 74, 36), (36, .bipush 32, 38), (38, .if_icmp .ge 40, 41), (41, .aload_n 0, 42), (42, .getfield 74, 45), (45, .ifCond .lt 33, 48), (48, .aload_n 0, 49), (49, .getfield 41, 52), (52, .aload_n 0, 53), (53, .getfield 74, 56), (56, .iload_n 1, 57), (57, .bipush 12, 59), (59, .ishl, 60), (60, .iload_n 2, 61), (61, .bipush 8, 63), (63, .ishl, 64)],
    [(64, .ior, 65), (65, .iload_n 3, 66), (66, .ior, 67), (67, .iastore, 68), (68, .aload_n 0, 69), (69, .aload_n 0, 70), (70, .getfield 74, 73), (73, .iconst 1, 74), (74, .iadd, 75), (75, .putfield 74, 78), (78, .return_, 79)]]),
  (prog_1_method_29_code, [
    [(0, .aload_n 0, 1), (1, .getfield 77, 4), (4, .ireturn, 5)]]),
  (prog_1_method_30_code, [
    [(0, .iload_n 1, 1), (1, .ifCond .lt 17, 4), (4, .iload_n 1, 5), (5, .aload_n 0, 6), (6, .getfield 74, 9), (9, .if_icmp .ge 9, 12), (12, .iload_n 1, 13), (13, .bipush 32, 15), (15, .if_icmp .lt 5, 18), (18, .iconst (-1), 19), (19, .ireturn, 20), (20, .aload_n 0, 21), (21, .getfield 41, 24), (24, .iload_n 1, 25), (25, .iaload, 26), (26, .ireturn, 27)]]),
  (prog_1_method_36_code, [
    [(0, .aload_n 0, 1), (1, .invokevirtual 169, 4), (4, .istore_n 1, 5), (5, .aload_n 0, 6), (6, .invokevirtual 173, 9), (9, .istore_n 2, 10), (10, .iload_n 1, 11), (11, .iload_n 2, 12), (12, .if_icmp .le 6, 15), (15, .bipush (-11), 17), (17, .ireturn, 18), (18, .iconst 0, 19), (19, .istore_n 3, 20), (20, .iload_n 3, 21), (21, .bipush 16, 23), (23, .if_icmp .ge 37, 26), (26, .aload_n 0, 27), (27, .iload_n 3, 28), (28, .invokevirtual 176, 31), (31, .ifCond .eq 23, 34)],
    [(34, .aload_n 0, 35), (35, .invokevirtual 179, 38), (38, .istore 4, 40), (40, .iload 4, 42), (42, .ifCond .ge 5, 45), (45, .iload_n 1, 46), (46, .ireturn, 47), (47, .aload_n 0, 48), (48, .iload_n 3, 49), (49, .iload 4, 51), (51, .invokevirtual 182, 54), (54, .iinc 3 1, 57), (57, .goto (-37), 60), (60, .iload_n 1, 61), (61, .ireturn, 62)]]),
  (prog_1_method_39_code, [
    [(0, .iconst 0, 1), (1, .istore_n 1, 2), (2, .iconst 0, 3), (3, .istore_n 2, 4), (4, .iload_n 2, 5), (5, .bipush 16, 7), (7, .if_icmp .ge 20, 10), (10, .aload_n 0, 11), (11, .iload_n 2, 12), (12, .invokevirtual 176, 15), (15, .ifCond .eq 6, 18), (18, .iinc 1 1, 21), (21, .iinc 2 1, 24), (24, .goto (-20), 27), (27, .iload_n 1, 28), (28, .ireturn, 29)]]),
  (prog_1_method_38_code, [
    [(0, .iload_n 1, 1), (1, .ifCond .lt 9, 4), (4, .iload_n 1, 5), (5, .bipush 15, 7), (7, .if_icmp .le 5, 10), (10, .iconst 0, 11), (11, .ireturn, 12), (12, .aload_n 0, 13), (13, .getfield 77, 16), (16, .iload_n 1, 17), (17, .ishr, 18), (18, .iconst 1, 19), (19, .iand, 20), (20, .ifCond .eq 16, 23), (23, .aload_n 0, 24), (24, .getfield 44, 27), (27, .iload_n 1, 28), (28, .iaload, 29), (29, .ifCond .ge 7, 32)],
    [(32, .iconst 1, 33), (33, .goto 4, 36), (36, .iconst 0, 37), (37, .ireturn, 38)]]),
  (prog_1_method_40_code, [
    [(0, .iconst 0, 1), (1, .istore_n 1, 2), (2, .iconst 0, 3), (3, .istore_n 2, 4), (4, .iload_n 2, 5), (5, .aload_n 0, 6), (6, .getfield 55, 9), (9, .if_icmp .ge 26, 12), (12, .iload_n 2, 13), (13, .iconst 4, 14), (14, .if_icmp .ge 21, 17), (17, .aload_n 0, 18), (18, .getfield 47, 21), (21, .iload_n 2, 22), (22, .baload, 23), (23, .ifCond .ne 6, 26), (26, .iinc 1 1, 29), (29, .iinc 2 1, 32)],
    [(32, .goto (-28), 35), (35, .iload_n 1, 36), (36, .ireturn, 37)]]),
  (prog_1_method_41_code, [
    [(0, .iconst 0, 1), (1, .istore_n 1, 2), (2, .iload_n 1, 3), (3, .aload_n 0, 4), (4, .getfield 55, 7), (7, .if_icmp .ge 25, 10), (10, .iload_n 1, 11), (11, .iconst 4, 12), (12, .if_icmp .ge 20, 15), (15, .aload_n 0, 16), (16, .getfield 47, 19), (19, .iload_n 1, 20), (20, .baload, 21), (21, .ifCond .ne 5, 24), (24, .iload_n 1, 25), (25, .ireturn, 26), (26, .iinc 1 1, 29), (29, .goto (-27), 32)],
    [(32, .iconst (-1), 33), (33, .ireturn, 34)]]),
  (prog_1_method_42_code, [
    [(0, .iload_n 1, 1), (1, .ifCond .lt 18, 4), (4, .iload_n 1, 5), (5, .bipush 15, 7), (7, .if_icmp .gt 12, 10), (10, .iload_n 2, 11), (11, .ifCond .lt 8, 14), (14, .iload_n 2, 15), (15, .iconst 3, 16), (16, .if_icmp .le 4, 19), (19, .return_, 20), (20, .aload_n 0, 21), (21, .getfield 44, 24), (24, .iload_n 1, 25), (25, .iload_n 2, 26), (26, .iastore, 27), (27, .aload_n 0, 28), (28, .getfield 47, 31), (31, .iload_n 2, 32)],
    [(32, .iconst 1, 33), (33, .bastore, 34), (34, .sipush 256, 37), (37, .bipush 16, 39), (39, .iload_n 2, 40), (40, .imul, 41), (41, .iadd, 42), (42, .istore_n 3, 43), (43, .iconst 0, 44), (44, .istore 4, 46), (46, .iload 4, 48), (48, .bipush 16, 50), (50, .if_icmp .ge 19, 53), (53, .aload_n 0, 54), (54, .getfield 7, 57), (57, .iload_n 3, 58), (58, .iload 4, 60), (60, .iadd, 61), (61, .iconst 0, 62), (62, .bastore, 63), (63, .iinc 4 1, 66)],
    [(66, .goto (-20), 69), (69, .return_, 70)]]),
  (prog_1_method_37_code, [
    [(0, .iload_n 1, 1), (1, .ifCond .lt 9, 4), (4, .iload_n 1, 5), (5, .bipush 15, 7), (7, .if_icmp .le 5, 10), (10, .iconst (-1), 11), (11, .ireturn, 12), (12, .aload_n 0, 13), (13, .getfield 44, 16), (16, .iload_n 1, 17), (17, .iaload, 18), (18, .ireturn, 19)]]),
  (prog_1_method_46_code, [
    [(0, .aload_n 0, 1), (1, .getfield 65, 4), (4, .ireturn, 5)]])]
def own_mis : List MI := [(0, 9, 2, some .boolean, false, 12, 256), (1, 5, 4, none, true, 1, 16), (1, 4, 4, some .int, false, 0, 0), (1, 6, 5, some .int, false, 3, 41), (1, 5, 5, some .int, false, 1, 13), (1, 2, 2, some .boolean, false, 0, 0), (1, 2, 2, some .boolean, false, 0, 0), (1, 4, 4, some .int, false, 2, 26), (1, 2, 2, some .boolean, false, 1, 13), (1, 2, 2, some .boolean, false, 1, 13), (1, 6, 5, some .int, false, 1, 13), (1, 2, 2, some .boolean, false, 4, 62), (1, 2, 1, none, false, 0, 0), (1, 1, 1, none, false, 3, 50), (1, 7, 6, none, false, 2, 32), (1, 5, 4, some .int, false, 1, 16), (1, 2, 2, some .int, false, 0, 0), (1, 3, 1, some .int, false, 8, 127), (1, 2, 1, none, false, 0, 0), (1, 6, 2, some .int, false, 7, 109), (1, 2, 2, some .boolean, false, 0, 0), (1, 3, 3, some .int, false, 0, 0), (1, 7, 3, some .int, false, 6, 90), (1, 3, 3, some .int, false, 1, 13), (1, 5, 3, some .boolean, false, 5, 74), (1, 4, 3, none, false, 4, 59), (1, 4, 2, some .int, false, 0, 0), (1, 5, 3, none, false, 3, 43), (1, 5, 4, some .int, false, 2, 27), (1, 3, 2, some .int, false, 1, 13), (1, 4, 2, some .int, false, 3, 41), (1, 3, 2, some .int, false, 2, 27), (1, 5, 4, none, false, 0, 0), (1, 1, 1, some .int, false, 0, 0), (1, 2, 2, some .int, false, 0, 0), (1, 5, 1, some .int, false, 2, 27), (1, 3, 1, some .int, false, 1, 13), (1, 2, 2, some .boolean, false, 0, 0), (1, 3, 1, some .int, false, 0, 0), (1, 2, 1, some .int, false, 0, 0), (1, 5, 3, none, false, 0, 0), (1, 2, 2, some .int, false, 0, 0), (1, 1, 1, some .int, false, 0, 0)]
def own_links : List (Nat × Nat × Nat × Nat) := [(0, 9, 1, 1), (1, 1, 4, 0), (1, 51, 3, 2), (0, 12, 2, 3), (1, 80, 3, 4), (1, 94, 3, 5), (1, 97, 3, 6), (1, 84, 3, 7), (1, 103, 3, 8), (1, 106, 3, 9), (1, 87, 3, 10), (0, 16, 2, 11), (1, 115, 3, 12), (1, 118, 3, 13), (1, 134, 3, 14), (1, 112, 3, 15), (1, 130, 3, 16), (0, 20, 2, 17), (1, 138, 3, 18), (1, 141, 3, 19), (1, 127, 3, 20), (1, 144, 3, 21), (1, 148, 3, 22), (1, 151, 3, 23), (1, 154, 3, 24), (1, 162, 3, 25), (1, 185, 3, 26), (1, 194, 3, 27), (1, 197, 3, 28), (1, 191, 3, 29), (1, 166, 3, 30), (1, 188, 3, 31), (1, 158, 3, 32), (0, 24, 2, 33), (0, 27, 2, 34), (0, 31, 2, 35), (1, 169, 3, 36), (1, 176, 3, 37), (1, 173, 3, 38), (1, 179, 3, 39), (1, 182, 3, 40), (0, 34, 2, 41), (0, 37, 2, 42), (0, 7, 5, 0)]
def own_flds : List (Nat × Nat × Nat) := [(1, 7, 0), (1, 13, 1), (1, 17, 2), (1, 20, 3), (1, 23, 4), (1, 26, 5), (1, 29, 6), (1, 32, 7), (1, 35, 8), (1, 38, 9), (1, 41, 10), (1, 44, 11), (1, 47, 12), (1, 55, 13), (1, 59, 14), (1, 62, 15), (1, 65, 16), (1, 68, 17), (1, 71, 18), (1, 74, 19), (1, 77, 20)]
def own_kons : List (Nat × Nat × Value) := []
def own_fields : List (String × String × Nat × Bool) := [("cells", "[B", 3, false), ("faultKind", "[I", 3, false), ("faultVictim", "[I", 3, false), ("faultAggressor", "[I", 3, false), ("faultTrigger", "[I", 3, false), ("victimSlot", "[I", 3, false), ("aggressorUses", "[I", 3, false), ("elementOrder", "[I", 3, false), ("elementCount", "[I", 3, false), ("elementOps", "[I", 3, false), ("logBuffer", "[I", 3, false), ("remap", "[I", 3, false), ("spareTaken", "[Z", 3, false), ("spareRows", "I", 0, false), ("faultLimit", "I", 0, false), ("logLimit", "I", 0, false), ("latchBit", "I", 0, false), ("faultCount", "I", 0, false), ("programLength", "I", 0, false), ("logLength", "I", 0, false), ("failMask", "I", 0, false)]
def own_P : Prog := (codeAt own_cs, fun k => own_mis.getD k (0, 0, 0, none, false, 0, 0), lookT own_links, lookT own_flds, lookT own_kons, own_fields, 21, 0, 40, 2112)
def own_nms : List MethodName := [⟨"MarchBistL3", "law", "(II)Z"⟩, ⟨"MarchBist", "<init>", "(III)V"⟩, ⟨"MarchBist", "clamp", "(III)I"⟩, ⟨"MarchBist", "inject", "(IIII)I"⟩, ⟨"MarchBist", "validateFaultArguments", "(IIII)I"⟩, ⟨"MarchBist", "isFaultKind", "(I)Z"⟩, ⟨"MarchBist", "isAddress", "(I)Z"⟩, ⟨"MarchBist", "validateFaultRoom", "(III)I"⟩, ⟨"MarchBist", "isVictim", "(I)Z"⟩, ⟨"MarchBist", "isAggressor", "(I)Z"⟩, ⟨"MarchBist", "appendFault", "(IIII)I"⟩, ⟨"MarchBist", "loadPreset", "(I)Z"⟩, ⟨"MarchBist", "clearProgram", "()V"⟩, ⟨"MarchBist", "loadMatsPlus", "()V"⟩, ⟨"MarchBist", "presetElement", "(IIIII)V"⟩, ⟨"MarchBist", "appendElement", "(III)I"⟩, ⟨"MarchBist", "opsMask", "(I)I"⟩, ⟨"MarchBist", "run", "()I"⟩, ⟨"MarchBist", "resetResults", "()V"⟩, ⟨"MarchBist", "runElement", "(I)I"⟩, ⟨"MarchBist", "isElementIndex", "(I)Z"⟩, ⟨"MarchBist", "addressAt", "(II)I"⟩, ⟨"MarchBist", "runOpsAt", "(II)I"⟩, ⟨"MarchBist", "opAt", "(II)I"⟩, ⟨"MarchBist", "applyOp", "(II)Z"⟩, ⟨"MarchBist", "writeRouted", "(II)V"⟩, ⟨"MarchBist", "routedCell", "(I)I"⟩, ⟨"MarchBist", "writeMain", "(II)V"⟩, ⟨"MarchBist", "faultyNewBit", "(III)I"⟩, ⟨"MarchBist", "victimKind", "(I)I"⟩, ⟨"MarchBist", "readRouted", "(I)I"⟩, ⟨"MarchBist", "readMain", "(I)I"⟩, ⟨"MarchBist", "recordFailure", "(III)V"⟩, ⟨"MarchBist", "failRows", "()I"⟩, ⟨"MarchBist", "logEntry", "(I)I"⟩, ⟨"MarchBist", "repair", "()I"⟩, ⟨"MarchBist", "countFailingUnmapped", "()I"⟩, ⟨"MarchBist", "isFailingUnmapped", "(I)Z"⟩, ⟨"MarchBist", "countFreeSpares", "()I"⟩, ⟨"MarchBist", "leastFreeSpare", "()I"⟩, ⟨"MarchBist", "assignSpare", "(II)V"⟩, ⟨"MarchBist", "rowMap", "(I)I"⟩, ⟨"MarchBist", "latch", "()I"⟩]
def own_nm (k : Nat) : MethodName := own_nms.getD k ⟨"", "", ""⟩
def own_cn (c : Nat) : String := match c with | 0 => "MarchBistL3" | _ => "MarchBist"
theorem own_pn0 : plainName "MarchBistL3" = true := by first | (simp [plainName, overriddenIn]; done) | decide +kernel
theorem own_pn1 : plainName "MarchBist" = true := by first | (simp [plainName, overriddenIn]; done) | decide +kernel
theorem own_ne0 : "MarchBistL3" ≠ "java/lang/invoke/MethodHandle" ∧ "MarchBistL3" ≠ "java/lang/invoke/VarHandle" := by decide
theorem own_ne1 : "MarchBist" ≠ "java/lang/invoke/MethodHandle" ∧ "MarchBist" ≠ "java/lang/invoke/VarHandle" := by decide
theorem own_pd0 : parseMethodDescriptor "(III)V" = some ⟨[.int, .int, .int], none⟩ := by decide +kernel
theorem own_pd1 : parseMethodDescriptor "(III)I" = some ⟨[.int, .int, .int], some .int⟩ := by decide +kernel
theorem own_pd2 : parseMethodDescriptor "(IIII)I" = some ⟨[.int, .int, .int, .int], some .int⟩ := by decide +kernel
theorem own_pd3 : parseMethodDescriptor "(I)Z" = some ⟨[.int], some .boolean⟩ := by decide +kernel
theorem own_pd4 : parseMethodDescriptor "()V" = some ⟨[], none⟩ := by decide +kernel
theorem own_pd5 : parseMethodDescriptor "(IIIII)V" = some ⟨[.int, .int, .int, .int, .int], none⟩ := by decide +kernel
theorem own_pd6 : parseMethodDescriptor "(I)I" = some ⟨[.int], some .int⟩ := by decide +kernel
theorem own_pd7 : parseMethodDescriptor "()I" = some ⟨[], some .int⟩ := by decide +kernel
theorem own_pd8 : parseMethodDescriptor "(II)I" = some ⟨[.int, .int], some .int⟩ := by decide +kernel
theorem own_pd9 : parseMethodDescriptor "(II)Z" = some ⟨[.int, .int], some .boolean⟩ := by decide +kernel
theorem own_pd10 : parseMethodDescriptor "(II)V" = some ⟨[.int, .int], none⟩ := by decide +kernel
set_option maxRecDepth 100000 in
theorem own_okcs : okCs own_cs = true := by decide +kernel
def own_ty (t : ArrayType) : Bool := decide (t = .byte) || decide (t = .int) || decide (t = .boolean)
theorem own_tyok : tyCs own_ty own_cs = true := by decide +kernel
theorem own_nodup : (own_fields.map (·.1)).Nodup := by decide +kernel
set_option maxRecDepth 100000 in
set_option maxHeartbeats 4000000 in
theorem own_good {Z : State} {a0 : Array Value} (hw : ∀ d ∈ tables_1, d.before a0 Z = true) : Good own_P own_nm (bcOf own_cs) own_cn "MarchBist" Z a0 := by
  refine good_of (ty := own_ty) rfl own_okcs ?_ ?_ own_nodup ?_ (hw _ (List.mem_of_getElem? (i := 1) rfl)) (hw _ (List.mem_of_getElem? (i := 2) rfl)) own_tyok ?_ ?_
  · exact ⟨⟨_, _, _, _, rfl, (hw _ (List.mem_of_getElem? (i := 10) rfl))⟩,
      ⟨_, _, _, _, rfl, (hw _ (List.mem_of_getElem? (i := 13) rfl))⟩,
      ⟨_, _, _, _, rfl, (hw _ (List.mem_of_getElem? (i := 15) rfl))⟩,
      ⟨_, _, _, _, rfl, (hw _ (List.mem_of_getElem? (i := 17) rfl))⟩,
      ⟨_, _, _, _, rfl, (hw _ (List.mem_of_getElem? (i := 19) rfl))⟩,
      ⟨_, _, _, _, rfl, (hw _ (List.mem_of_getElem? (i := 21) rfl))⟩,
      ⟨_, _, _, _, rfl, (hw _ (List.mem_of_getElem? (i := 23) rfl))⟩,
      ⟨_, _, _, _, rfl, (hw _ (List.mem_of_getElem? (i := 25) rfl))⟩,
      ⟨_, _, _, _, rfl, (hw _ (List.mem_of_getElem? (i := 27) rfl))⟩,
      ⟨_, _, _, _, rfl, (hw _ (List.mem_of_getElem? (i := 29) rfl))⟩,
      ⟨_, _, _, _, rfl, (hw _ (List.mem_of_getElem? (i := 31) rfl))⟩,
      ⟨_, _, _, _, rfl, (hw _ (List.mem_of_getElem? (i := 33) rfl))⟩,
      ⟨_, _, _, _, rfl, (hw _ (List.mem_of_getElem? (i := 36) rfl))⟩,
      ⟨_, _, _, _, rfl, (hw _ (List.mem_of_getElem? (i := 42) rfl))⟩,
      ⟨_, _, _, _, rfl, (hw _ (List.mem_of_getElem? (i := 44) rfl))⟩,
      ⟨_, _, _, _, rfl, (hw _ (List.mem_of_getElem? (i := 46) rfl))⟩,
      ⟨_, _, _, _, rfl, (hw _ (List.mem_of_getElem? (i := 48) rfl))⟩,
      ⟨_, _, _, _, rfl, (hw _ (List.mem_of_getElem? (i := 50) rfl))⟩,
      ⟨_, _, _, _, rfl, (hw _ (List.mem_of_getElem? (i := 52) rfl))⟩,
      ⟨_, _, _, _, rfl, (hw _ (List.mem_of_getElem? (i := 54) rfl))⟩,
      ⟨_, _, _, _, rfl, (hw _ (List.mem_of_getElem? (i := 56) rfl))⟩,
      trivial⟩
  · exact ⟨⟨(hw _ (List.mem_of_getElem? (i := 11) rfl)), .array .byte, by decide, rfl, rfl⟩,
      ⟨(hw _ (List.mem_of_getElem? (i := 14) rfl)), .array .int, by decide, rfl, rfl⟩,
      ⟨(hw _ (List.mem_of_getElem? (i := 16) rfl)), .array .int, by decide, rfl, rfl⟩,
      ⟨(hw _ (List.mem_of_getElem? (i := 18) rfl)), .array .int, by decide, rfl, rfl⟩,
      ⟨(hw _ (List.mem_of_getElem? (i := 20) rfl)), .array .int, by decide, rfl, rfl⟩,
      ⟨(hw _ (List.mem_of_getElem? (i := 22) rfl)), .array .int, by decide, rfl, rfl⟩,
      ⟨(hw _ (List.mem_of_getElem? (i := 24) rfl)), .array .int, by decide, rfl, rfl⟩,
      ⟨(hw _ (List.mem_of_getElem? (i := 26) rfl)), .array .int, by decide, rfl, rfl⟩,
      ⟨(hw _ (List.mem_of_getElem? (i := 28) rfl)), .array .int, by decide, rfl, rfl⟩,
      ⟨(hw _ (List.mem_of_getElem? (i := 30) rfl)), .array .int, by decide, rfl, rfl⟩,
      ⟨(hw _ (List.mem_of_getElem? (i := 32) rfl)), .array .int, by decide, rfl, rfl⟩,
      ⟨(hw _ (List.mem_of_getElem? (i := 34) rfl)), .array .int, by decide, rfl, rfl⟩,
      ⟨(hw _ (List.mem_of_getElem? (i := 37) rfl)), .array .boolean, by decide, rfl, rfl⟩,
      ⟨(hw _ (List.mem_of_getElem? (i := 43) rfl)), .int, by decide, rfl, rfl⟩,
      ⟨(hw _ (List.mem_of_getElem? (i := 45) rfl)), .int, by decide, rfl, rfl⟩,
      ⟨(hw _ (List.mem_of_getElem? (i := 47) rfl)), .int, by decide, rfl, rfl⟩,
      ⟨(hw _ (List.mem_of_getElem? (i := 49) rfl)), .int, by decide, rfl, rfl⟩,
      ⟨(hw _ (List.mem_of_getElem? (i := 51) rfl)), .int, by decide, rfl, rfl⟩,
      ⟨(hw _ (List.mem_of_getElem? (i := 53) rfl)), .int, by decide, rfl, rfl⟩,
      ⟨(hw _ (List.mem_of_getElem? (i := 55) rfl)), .int, by decide, rfl, rfl⟩,
      ⟨(hw _ (List.mem_of_getElem? (i := 57) rfl)), .int, by decide, rfl, rfl⟩,
      trivial⟩
  · exact trivial
  · intro t ht
    simp only [own_ty, Bool.or_eq_true, decide_eq_true_eq] at ht
    rcases ht with (rfl | rfl) | rfl
    · exact (hw _ (List.mem_of_getElem? (i := 9) rfl))
    · exact (hw _ (List.mem_of_getElem? (i := 12) rfl))
    · exact (hw _ (List.mem_of_getElem? (i := 35) rfl))
  · exact ⟨⟨(hw _ (List.mem_of_getElem? (i := 3) rfl)), (hw _ (List.mem_of_getElem? (i := 5) rfl)), (hw _ (List.mem_of_getElem? (i := 2) rfl)), ⟨_, _, own_pd0, rfl⟩, own_pn1, own_ne1, rfl, (fun _ => ⟨rfl, rfl⟩), ⟨rfl, (hw _ (List.mem_of_getElem? (i := 4) rfl)), rfl⟩⟩,
      ⟨(hw _ (List.mem_of_getElem? (i := 6) rfl)), (hw _ (List.mem_of_getElem? (i := 7) rfl)), (hw _ (List.mem_of_getElem? (i := 8) rfl))⟩,
      ⟨(hw _ (List.mem_of_getElem? (i := 38) rfl)), (hw _ (List.mem_of_getElem? (i := 41) rfl)), (hw _ (List.mem_of_getElem? (i := 2) rfl)), ⟨_, _, own_pd1, rfl⟩, own_pn1, own_ne1, rfl, (fun h => nomatch h), ⟨rfl, (hw _ (List.mem_of_getElem? (i := 39) rfl)), (hw _ (List.mem_of_getElem? (i := 40) rfl))⟩⟩,
      ⟨(hw _ (List.mem_of_getElem? (i := 58) rfl)), (hw _ (List.mem_of_getElem? (i := 62) rfl)), (hw _ (List.mem_of_getElem? (i := 2) rfl)), ⟨_, _, own_pd2, rfl⟩, own_pn1, own_ne1, rfl, (fun h => nomatch h), ⟨(hw _ (List.mem_of_getElem? (i := 59) rfl)), (hw _ (List.mem_of_getElem? (i := 60) rfl)), (hw _ (List.mem_of_getElem? (i := 61) rfl))⟩⟩,
      ⟨(hw _ (List.mem_of_getElem? (i := 63) rfl)), (hw _ (List.mem_of_getElem? (i := 66) rfl)), (hw _ (List.mem_of_getElem? (i := 2) rfl)), ⟨_, _, own_pd2, rfl⟩, own_pn1, own_ne1, rfl, (fun h => nomatch h), ⟨rfl, (hw _ (List.mem_of_getElem? (i := 64) rfl)), (hw _ (List.mem_of_getElem? (i := 65) rfl))⟩⟩,
      ⟨(hw _ (List.mem_of_getElem? (i := 67) rfl)), (hw _ (List.mem_of_getElem? (i := 70) rfl)), (hw _ (List.mem_of_getElem? (i := 2) rfl)), ⟨_, _, own_pd3, rfl⟩, own_pn1, own_ne1, rfl, (fun h => nomatch h), ⟨rfl, (hw _ (List.mem_of_getElem? (i := 68) rfl)), (hw _ (List.mem_of_getElem? (i := 69) rfl))⟩⟩,
      ⟨(hw _ (List.mem_of_getElem? (i := 71) rfl)), (hw _ (List.mem_of_getElem? (i := 74) rfl)), (hw _ (List.mem_of_getElem? (i := 2) rfl)), ⟨_, _, own_pd3, rfl⟩, own_pn1, own_ne1, rfl, (fun h => nomatch h), ⟨rfl, (hw _ (List.mem_of_getElem? (i := 72) rfl)), (hw _ (List.mem_of_getElem? (i := 73) rfl))⟩⟩,
      ⟨(hw _ (List.mem_of_getElem? (i := 75) rfl)), (hw _ (List.mem_of_getElem? (i := 78) rfl)), (hw _ (List.mem_of_getElem? (i := 2) rfl)), ⟨_, _, own_pd1, rfl⟩, own_pn1, own_ne1, rfl, (fun h => nomatch h), ⟨rfl, (hw _ (List.mem_of_getElem? (i := 76) rfl)), (hw _ (List.mem_of_getElem? (i := 77) rfl))⟩⟩,
      ⟨(hw _ (List.mem_of_getElem? (i := 79) rfl)), (hw _ (List.mem_of_getElem? (i := 82) rfl)), (hw _ (List.mem_of_getElem? (i := 2) rfl)), ⟨_, _, own_pd3, rfl⟩, own_pn1, own_ne1, rfl, (fun h => nomatch h), ⟨rfl, (hw _ (List.mem_of_getElem? (i := 80) rfl)), (hw _ (List.mem_of_getElem? (i := 81) rfl))⟩⟩,
      ⟨(hw _ (List.mem_of_getElem? (i := 83) rfl)), (hw _ (List.mem_of_getElem? (i := 86) rfl)), (hw _ (List.mem_of_getElem? (i := 2) rfl)), ⟨_, _, own_pd3, rfl⟩, own_pn1, own_ne1, rfl, (fun h => nomatch h), ⟨rfl, (hw _ (List.mem_of_getElem? (i := 84) rfl)), (hw _ (List.mem_of_getElem? (i := 85) rfl))⟩⟩,
      ⟨(hw _ (List.mem_of_getElem? (i := 87) rfl)), (hw _ (List.mem_of_getElem? (i := 90) rfl)), (hw _ (List.mem_of_getElem? (i := 2) rfl)), ⟨_, _, own_pd2, rfl⟩, own_pn1, own_ne1, rfl, (fun h => nomatch h), ⟨rfl, (hw _ (List.mem_of_getElem? (i := 88) rfl)), (hw _ (List.mem_of_getElem? (i := 89) rfl))⟩⟩,
      ⟨(hw _ (List.mem_of_getElem? (i := 91) rfl)), (hw _ (List.mem_of_getElem? (i := 95) rfl)), (hw _ (List.mem_of_getElem? (i := 2) rfl)), ⟨_, _, own_pd3, rfl⟩, own_pn1, own_ne1, rfl, (fun h => nomatch h), ⟨(hw _ (List.mem_of_getElem? (i := 92) rfl)), (hw _ (List.mem_of_getElem? (i := 93) rfl)), (hw _ (List.mem_of_getElem? (i := 94) rfl))⟩⟩,
      ⟨(hw _ (List.mem_of_getElem? (i := 96) rfl)), (hw _ (List.mem_of_getElem? (i := 99) rfl)), (hw _ (List.mem_of_getElem? (i := 2) rfl)), ⟨_, _, own_pd4, rfl⟩, own_pn1, own_ne1, rfl, (fun h => nomatch h), ⟨rfl, (hw _ (List.mem_of_getElem? (i := 97) rfl)), (hw _ (List.mem_of_getElem? (i := 98) rfl))⟩⟩,
      ⟨(hw _ (List.mem_of_getElem? (i := 100) rfl)), (hw _ (List.mem_of_getElem? (i := 103) rfl)), (hw _ (List.mem_of_getElem? (i := 2) rfl)), ⟨_, _, own_pd4, rfl⟩, own_pn1, own_ne1, rfl, (fun h => nomatch h), ⟨rfl, (hw _ (List.mem_of_getElem? (i := 101) rfl)), (hw _ (List.mem_of_getElem? (i := 102) rfl))⟩⟩,
      ⟨(hw _ (List.mem_of_getElem? (i := 104) rfl)), (hw _ (List.mem_of_getElem? (i := 107) rfl)), (hw _ (List.mem_of_getElem? (i := 2) rfl)), ⟨_, _, own_pd5, rfl⟩, own_pn1, own_ne1, rfl, (fun h => nomatch h), ⟨rfl, (hw _ (List.mem_of_getElem? (i := 105) rfl)), (hw _ (List.mem_of_getElem? (i := 106) rfl))⟩⟩,
      ⟨(hw _ (List.mem_of_getElem? (i := 108) rfl)), (hw _ (List.mem_of_getElem? (i := 111) rfl)), (hw _ (List.mem_of_getElem? (i := 2) rfl)), ⟨_, _, own_pd1, rfl⟩, own_pn1, own_ne1, rfl, (fun h => nomatch h), ⟨rfl, (hw _ (List.mem_of_getElem? (i := 109) rfl)), (hw _ (List.mem_of_getElem? (i := 110) rfl))⟩⟩,
      ⟨(hw _ (List.mem_of_getElem? (i := 112) rfl)), (hw _ (List.mem_of_getElem? (i := 115) rfl)), (hw _ (List.mem_of_getElem? (i := 2) rfl)), ⟨_, _, own_pd6, rfl⟩, own_pn1, own_ne1, rfl, (fun h => nomatch h), ⟨rfl, (hw _ (List.mem_of_getElem? (i := 113) rfl)), (hw _ (List.mem_of_getElem? (i := 114) rfl))⟩⟩,
      ⟨(hw _ (List.mem_of_getElem? (i := 116) rfl)), (hw _ (List.mem_of_getElem? (i := 120) rfl)), (hw _ (List.mem_of_getElem? (i := 2) rfl)), ⟨_, _, own_pd7, rfl⟩, own_pn1, own_ne1, rfl, (fun h => nomatch h), ⟨(hw _ (List.mem_of_getElem? (i := 117) rfl)), (hw _ (List.mem_of_getElem? (i := 118) rfl)), (hw _ (List.mem_of_getElem? (i := 119) rfl))⟩⟩,
      ⟨(hw _ (List.mem_of_getElem? (i := 121) rfl)), (hw _ (List.mem_of_getElem? (i := 124) rfl)), (hw _ (List.mem_of_getElem? (i := 2) rfl)), ⟨_, _, own_pd4, rfl⟩, own_pn1, own_ne1, rfl, (fun h => nomatch h), ⟨rfl, (hw _ (List.mem_of_getElem? (i := 122) rfl)), (hw _ (List.mem_of_getElem? (i := 123) rfl))⟩⟩,
      ⟨(hw _ (List.mem_of_getElem? (i := 125) rfl)), (hw _ (List.mem_of_getElem? (i := 128) rfl)), (hw _ (List.mem_of_getElem? (i := 2) rfl)), ⟨_, _, own_pd6, rfl⟩, own_pn1, own_ne1, rfl, (fun h => nomatch h), ⟨rfl, (hw _ (List.mem_of_getElem? (i := 126) rfl)), (hw _ (List.mem_of_getElem? (i := 127) rfl))⟩⟩,
      ⟨(hw _ (List.mem_of_getElem? (i := 129) rfl)), (hw _ (List.mem_of_getElem? (i := 132) rfl)), (hw _ (List.mem_of_getElem? (i := 2) rfl)), ⟨_, _, own_pd3, rfl⟩, own_pn1, own_ne1, rfl, (fun h => nomatch h), ⟨rfl, (hw _ (List.mem_of_getElem? (i := 130) rfl)), (hw _ (List.mem_of_getElem? (i := 131) rfl))⟩⟩,
      ⟨(hw _ (List.mem_of_getElem? (i := 133) rfl)), (hw _ (List.mem_of_getElem? (i := 136) rfl)), (hw _ (List.mem_of_getElem? (i := 2) rfl)), ⟨_, _, own_pd8, rfl⟩, own_pn1, own_ne1, rfl, (fun h => nomatch h), ⟨rfl, (hw _ (List.mem_of_getElem? (i := 134) rfl)), (hw _ (List.mem_of_getElem? (i := 135) rfl))⟩⟩,
      ⟨(hw _ (List.mem_of_getElem? (i := 137) rfl)), (hw _ (List.mem_of_getElem? (i := 140) rfl)), (hw _ (List.mem_of_getElem? (i := 2) rfl)), ⟨_, _, own_pd8, rfl⟩, own_pn1, own_ne1, rfl, (fun h => nomatch h), ⟨rfl, (hw _ (List.mem_of_getElem? (i := 138) rfl)), (hw _ (List.mem_of_getElem? (i := 139) rfl))⟩⟩,
      ⟨(hw _ (List.mem_of_getElem? (i := 141) rfl)), (hw _ (List.mem_of_getElem? (i := 144) rfl)), (hw _ (List.mem_of_getElem? (i := 2) rfl)), ⟨_, _, own_pd8, rfl⟩, own_pn1, own_ne1, rfl, (fun h => nomatch h), ⟨rfl, (hw _ (List.mem_of_getElem? (i := 142) rfl)), (hw _ (List.mem_of_getElem? (i := 143) rfl))⟩⟩,
      ⟨(hw _ (List.mem_of_getElem? (i := 145) rfl)), (hw _ (List.mem_of_getElem? (i := 148) rfl)), (hw _ (List.mem_of_getElem? (i := 2) rfl)), ⟨_, _, own_pd9, rfl⟩, own_pn1, own_ne1, rfl, (fun h => nomatch h), ⟨rfl, (hw _ (List.mem_of_getElem? (i := 146) rfl)), (hw _ (List.mem_of_getElem? (i := 147) rfl))⟩⟩,
      ⟨(hw _ (List.mem_of_getElem? (i := 149) rfl)), (hw _ (List.mem_of_getElem? (i := 152) rfl)), (hw _ (List.mem_of_getElem? (i := 2) rfl)), ⟨_, _, own_pd10, rfl⟩, own_pn1, own_ne1, rfl, (fun h => nomatch h), ⟨rfl, (hw _ (List.mem_of_getElem? (i := 150) rfl)), (hw _ (List.mem_of_getElem? (i := 151) rfl))⟩⟩,
      ⟨(hw _ (List.mem_of_getElem? (i := 153) rfl)), (hw _ (List.mem_of_getElem? (i := 156) rfl)), (hw _ (List.mem_of_getElem? (i := 2) rfl)), ⟨_, _, own_pd6, rfl⟩, own_pn1, own_ne1, rfl, (fun h => nomatch h), ⟨rfl, (hw _ (List.mem_of_getElem? (i := 154) rfl)), (hw _ (List.mem_of_getElem? (i := 155) rfl))⟩⟩,
      ⟨(hw _ (List.mem_of_getElem? (i := 157) rfl)), (hw _ (List.mem_of_getElem? (i := 160) rfl)), (hw _ (List.mem_of_getElem? (i := 2) rfl)), ⟨_, _, own_pd10, rfl⟩, own_pn1, own_ne1, rfl, (fun h => nomatch h), ⟨rfl, (hw _ (List.mem_of_getElem? (i := 158) rfl)), (hw _ (List.mem_of_getElem? (i := 159) rfl))⟩⟩,
      ⟨(hw _ (List.mem_of_getElem? (i := 161) rfl)), (hw _ (List.mem_of_getElem? (i := 164) rfl)), (hw _ (List.mem_of_getElem? (i := 2) rfl)), ⟨_, _, own_pd1, rfl⟩, own_pn1, own_ne1, rfl, (fun h => nomatch h), ⟨rfl, (hw _ (List.mem_of_getElem? (i := 162) rfl)), (hw _ (List.mem_of_getElem? (i := 163) rfl))⟩⟩,
      ⟨(hw _ (List.mem_of_getElem? (i := 165) rfl)), (hw _ (List.mem_of_getElem? (i := 168) rfl)), (hw _ (List.mem_of_getElem? (i := 2) rfl)), ⟨_, _, own_pd6, rfl⟩, own_pn1, own_ne1, rfl, (fun h => nomatch h), ⟨rfl, (hw _ (List.mem_of_getElem? (i := 166) rfl)), (hw _ (List.mem_of_getElem? (i := 167) rfl))⟩⟩,
      ⟨(hw _ (List.mem_of_getElem? (i := 169) rfl)), (hw _ (List.mem_of_getElem? (i := 172) rfl)), (hw _ (List.mem_of_getElem? (i := 2) rfl)), ⟨_, _, own_pd6, rfl⟩, own_pn1, own_ne1, rfl, (fun h => nomatch h), ⟨rfl, (hw _ (List.mem_of_getElem? (i := 170) rfl)), (hw _ (List.mem_of_getElem? (i := 171) rfl))⟩⟩,
      ⟨(hw _ (List.mem_of_getElem? (i := 173) rfl)), (hw _ (List.mem_of_getElem? (i := 176) rfl)), (hw _ (List.mem_of_getElem? (i := 2) rfl)), ⟨_, _, own_pd6, rfl⟩, own_pn1, own_ne1, rfl, (fun h => nomatch h), ⟨rfl, (hw _ (List.mem_of_getElem? (i := 174) rfl)), (hw _ (List.mem_of_getElem? (i := 175) rfl))⟩⟩,
      ⟨(hw _ (List.mem_of_getElem? (i := 177) rfl)), (hw _ (List.mem_of_getElem? (i := 180) rfl)), (hw _ (List.mem_of_getElem? (i := 2) rfl)), ⟨_, _, own_pd0, rfl⟩, own_pn1, own_ne1, rfl, (fun h => nomatch h), ⟨rfl, (hw _ (List.mem_of_getElem? (i := 178) rfl)), (hw _ (List.mem_of_getElem? (i := 179) rfl))⟩⟩,
      ⟨(hw _ (List.mem_of_getElem? (i := 181) rfl)), (hw _ (List.mem_of_getElem? (i := 185) rfl)), (hw _ (List.mem_of_getElem? (i := 2) rfl)), ⟨_, _, own_pd7, rfl⟩, own_pn1, own_ne1, rfl, (fun h => nomatch h), ⟨(hw _ (List.mem_of_getElem? (i := 182) rfl)), (hw _ (List.mem_of_getElem? (i := 183) rfl)), (hw _ (List.mem_of_getElem? (i := 184) rfl))⟩⟩,
      ⟨(hw _ (List.mem_of_getElem? (i := 186) rfl)), (hw _ (List.mem_of_getElem? (i := 190) rfl)), (hw _ (List.mem_of_getElem? (i := 2) rfl)), ⟨_, _, own_pd6, rfl⟩, own_pn1, own_ne1, rfl, (fun h => nomatch h), ⟨(hw _ (List.mem_of_getElem? (i := 187) rfl)), (hw _ (List.mem_of_getElem? (i := 188) rfl)), (hw _ (List.mem_of_getElem? (i := 189) rfl))⟩⟩,
      ⟨(hw _ (List.mem_of_getElem? (i := 191) rfl)), (hw _ (List.mem_of_getElem? (i := 195) rfl)), (hw _ (List.mem_of_getElem? (i := 2) rfl)), ⟨_, _, own_pd7, rfl⟩, own_pn1, own_ne1, rfl, (fun h => nomatch h), ⟨(hw _ (List.mem_of_getElem? (i := 192) rfl)), (hw _ (List.mem_of_getElem? (i := 193) rfl)), (hw _ (List.mem_of_getElem? (i := 194) rfl))⟩⟩,
      ⟨(hw _ (List.mem_of_getElem? (i := 196) rfl)), (hw _ (List.mem_of_getElem? (i := 199) rfl)), (hw _ (List.mem_of_getElem? (i := 2) rfl)), ⟨_, _, own_pd7, rfl⟩, own_pn1, own_ne1, rfl, (fun h => nomatch h), ⟨rfl, (hw _ (List.mem_of_getElem? (i := 197) rfl)), (hw _ (List.mem_of_getElem? (i := 198) rfl))⟩⟩,
      ⟨(hw _ (List.mem_of_getElem? (i := 200) rfl)), (hw _ (List.mem_of_getElem? (i := 203) rfl)), (hw _ (List.mem_of_getElem? (i := 2) rfl)), ⟨_, _, own_pd3, rfl⟩, own_pn1, own_ne1, rfl, (fun h => nomatch h), ⟨rfl, (hw _ (List.mem_of_getElem? (i := 201) rfl)), (hw _ (List.mem_of_getElem? (i := 202) rfl))⟩⟩,
      ⟨(hw _ (List.mem_of_getElem? (i := 204) rfl)), (hw _ (List.mem_of_getElem? (i := 207) rfl)), (hw _ (List.mem_of_getElem? (i := 2) rfl)), ⟨_, _, own_pd7, rfl⟩, own_pn1, own_ne1, rfl, (fun h => nomatch h), ⟨rfl, (hw _ (List.mem_of_getElem? (i := 205) rfl)), (hw _ (List.mem_of_getElem? (i := 206) rfl))⟩⟩,
      ⟨(hw _ (List.mem_of_getElem? (i := 208) rfl)), (hw _ (List.mem_of_getElem? (i := 211) rfl)), (hw _ (List.mem_of_getElem? (i := 2) rfl)), ⟨_, _, own_pd7, rfl⟩, own_pn1, own_ne1, rfl, (fun h => nomatch h), ⟨rfl, (hw _ (List.mem_of_getElem? (i := 209) rfl)), (hw _ (List.mem_of_getElem? (i := 210) rfl))⟩⟩,
      ⟨(hw _ (List.mem_of_getElem? (i := 212) rfl)), (hw _ (List.mem_of_getElem? (i := 215) rfl)), (hw _ (List.mem_of_getElem? (i := 2) rfl)), ⟨_, _, own_pd10, rfl⟩, own_pn1, own_ne1, rfl, (fun h => nomatch h), ⟨rfl, (hw _ (List.mem_of_getElem? (i := 213) rfl)), (hw _ (List.mem_of_getElem? (i := 214) rfl))⟩⟩,
      ⟨(hw _ (List.mem_of_getElem? (i := 216) rfl)), (hw _ (List.mem_of_getElem? (i := 220) rfl)), (hw _ (List.mem_of_getElem? (i := 2) rfl)), ⟨_, _, own_pd6, rfl⟩, own_pn1, own_ne1, rfl, (fun h => nomatch h), ⟨(hw _ (List.mem_of_getElem? (i := 217) rfl)), (hw _ (List.mem_of_getElem? (i := 218) rfl)), (hw _ (List.mem_of_getElem? (i := 219) rfl))⟩⟩,
      ⟨(hw _ (List.mem_of_getElem? (i := 221) rfl)), (hw _ (List.mem_of_getElem? (i := 225) rfl)), (hw _ (List.mem_of_getElem? (i := 2) rfl)), ⟨_, _, own_pd7, rfl⟩, own_pn1, own_ne1, rfl, (fun h => nomatch h), ⟨(hw _ (List.mem_of_getElem? (i := 222) rfl)), (hw _ (List.mem_of_getElem? (i := 223) rfl)), (hw _ (List.mem_of_getElem? (i := 224) rfl))⟩⟩,
      (hw _ (List.mem_of_getElem? (i := 0) rfl)),
      trivial⟩
/-! # the object's state -/
def Q : Type := List Int32 × List Int32 × List Int32 × List Int32 × List Int32 × List Int32 × List Int32 × List Int32 × List Int32 × List Int32 × List Int32 × List Int32 × List Int32 × Int32 × Int32 × Int32 × Int32 × Int32 × Int32 × Int32 × Int32
def Q.f_cells (s : Q) : List Int32 := s.1
def Q.f_faultKind (s : Q) : List Int32 := s.2.1
def Q.f_faultVictim (s : Q) : List Int32 := s.2.2.1
def Q.f_faultAggressor (s : Q) : List Int32 := s.2.2.2.1
def Q.f_faultTrigger (s : Q) : List Int32 := s.2.2.2.2.1
def Q.f_victimSlot (s : Q) : List Int32 := s.2.2.2.2.2.1
def Q.f_aggressorUses (s : Q) : List Int32 := s.2.2.2.2.2.2.1
def Q.f_elementOrder (s : Q) : List Int32 := s.2.2.2.2.2.2.2.1
def Q.f_elementCount (s : Q) : List Int32 := s.2.2.2.2.2.2.2.2.1
def Q.f_elementOps (s : Q) : List Int32 := s.2.2.2.2.2.2.2.2.2.1
def Q.f_logBuffer (s : Q) : List Int32 := s.2.2.2.2.2.2.2.2.2.2.1
def Q.f_remap (s : Q) : List Int32 := s.2.2.2.2.2.2.2.2.2.2.2.1
def Q.f_spareTaken (s : Q) : List Int32 := s.2.2.2.2.2.2.2.2.2.2.2.2.1
def Q.f_spareRows (s : Q) : Int32 := s.2.2.2.2.2.2.2.2.2.2.2.2.2.1
def Q.f_faultLimit (s : Q) : Int32 := s.2.2.2.2.2.2.2.2.2.2.2.2.2.2.1
def Q.f_logLimit (s : Q) : Int32 := s.2.2.2.2.2.2.2.2.2.2.2.2.2.2.2.1
def Q.f_latchBit (s : Q) : Int32 := s.2.2.2.2.2.2.2.2.2.2.2.2.2.2.2.2.1
def Q.f_faultCount (s : Q) : Int32 := s.2.2.2.2.2.2.2.2.2.2.2.2.2.2.2.2.2.1
def Q.f_programLength (s : Q) : Int32 := s.2.2.2.2.2.2.2.2.2.2.2.2.2.2.2.2.2.2.1
def Q.f_logLength (s : Q) : Int32 := s.2.2.2.2.2.2.2.2.2.2.2.2.2.2.2.2.2.2.2.1
def Q.f_failMask (s : Q) : Int32 := s.2.2.2.2.2.2.2.2.2.2.2.2.2.2.2.2.2.2.2.2
def Q.s_cells (s : Q) (x : List Int32) : Q := (x, s.2.1, s.2.2.1, s.2.2.2.1, s.2.2.2.2.1, s.2.2.2.2.2.1, s.2.2.2.2.2.2.1, s.2.2.2.2.2.2.2.1, s.2.2.2.2.2.2.2.2.1, s.2.2.2.2.2.2.2.2.2.1, s.2.2.2.2.2.2.2.2.2.2.1, s.2.2.2.2.2.2.2.2.2.2.2.1, s.2.2.2.2.2.2.2.2.2.2.2.2.1, s.2.2.2.2.2.2.2.2.2.2.2.2.2.1, s.2.2.2.2.2.2.2.2.2.2.2.2.2.2.1, s.2.2.2.2.2.2.2.2.2.2.2.2.2.2.2.1, s.2.2.2.2.2.2.2.2.2.2.2.2.2.2.2.2.1, s.2.2.2.2.2.2.2.2.2.2.2.2.2.2.2.2.2.1, s.2.2.2.2.2.2.2.2.2.2.2.2.2.2.2.2.2.2.1, s.2.2.2.2.2.2.2.2.2.2.2.2.2.2.2.2.2.2.2.1, s.2.2.2.2.2.2.2.2.2.2.2.2.2.2.2.2.2.2.2.2)
def Q.s_faultKind (s : Q) (x : List Int32) : Q := (s.1, x, s.2.2.1, s.2.2.2.1, s.2.2.2.2.1, s.2.2.2.2.2.1, s.2.2.2.2.2.2.1, s.2.2.2.2.2.2.2.1, s.2.2.2.2.2.2.2.2.1, s.2.2.2.2.2.2.2.2.2.1, s.2.2.2.2.2.2.2.2.2.2.1, s.2.2.2.2.2.2.2.2.2.2.2.1, s.2.2.2.2.2.2.2.2.2.2.2.2.1, s.2.2.2.2.2.2.2.2.2.2.2.2.2.1, s.2.2.2.2.2.2.2.2.2.2.2.2.2.2.1, s.2.2.2.2.2.2.2.2.2.2.2.2.2.2.2.1, s.2.2.2.2.2.2.2.2.2.2.2.2.2.2.2.2.1, s.2.2.2.2.2.2.2.2.2.2.2.2.2.2.2.2.2.1, s.2.2.2.2.2.2.2.2.2.2.2.2.2.2.2.2.2.2.1, s.2.2.2.2.2.2.2.2.2.2.2.2.2.2.2.2.2.2.2.1, s.2.2.2.2.2.2.2.2.2.2.2.2.2.2.2.2.2.2.2.2)
def Q.s_faultVictim (s : Q) (x : List Int32) : Q := (s.1, s.2.1, x, s.2.2.2.1, s.2.2.2.2.1, s.2.2.2.2.2.1, s.2.2.2.2.2.2.1, s.2.2.2.2.2.2.2.1, s.2.2.2.2.2.2.2.2.1, s.2.2.2.2.2.2.2.2.2.1, s.2.2.2.2.2.2.2.2.2.2.1, s.2.2.2.2.2.2.2.2.2.2.2.1, s.2.2.2.2.2.2.2.2.2.2.2.2.1, s.2.2.2.2.2.2.2.2.2.2.2.2.2.1, s.2.2.2.2.2.2.2.2.2.2.2.2.2.2.1, s.2.2.2.2.2.2.2.2.2.2.2.2.2.2.2.1, s.2.2.2.2.2.2.2.2.2.2.2.2.2.2.2.2.1, s.2.2.2.2.2.2.2.2.2.2.2.2.2.2.2.2.2.1, s.2.2.2.2.2.2.2.2.2.2.2.2.2.2.2.2.2.2.1, s.2.2.2.2.2.2.2.2.2.2.2.2.2.2.2.2.2.2.2.1, s.2.2.2.2.2.2.2.2.2.2.2.2.2.2.2.2.2.2.2.2)
def Q.s_faultAggressor (s : Q) (x : List Int32) : Q := (s.1, s.2.1, s.2.2.1, x, s.2.2.2.2.1, s.2.2.2.2.2.1, s.2.2.2.2.2.2.1, s.2.2.2.2.2.2.2.1, s.2.2.2.2.2.2.2.2.1, s.2.2.2.2.2.2.2.2.2.1, s.2.2.2.2.2.2.2.2.2.2.1, s.2.2.2.2.2.2.2.2.2.2.2.1, s.2.2.2.2.2.2.2.2.2.2.2.2.1, s.2.2.2.2.2.2.2.2.2.2.2.2.2.1, s.2.2.2.2.2.2.2.2.2.2.2.2.2.2.1, s.2.2.2.2.2.2.2.2.2.2.2.2.2.2.2.1, s.2.2.2.2.2.2.2.2.2.2.2.2.2.2.2.2.1, s.2.2.2.2.2.2.2.2.2.2.2.2.2.2.2.2.2.1, s.2.2.2.2.2.2.2.2.2.2.2.2.2.2.2.2.2.2.1, s.2.2.2.2.2.2.2.2.2.2.2.2.2.2.2.2.2.2.2.1, s.2.2.2.2.2.2.2.2.2.2.2.2.2.2.2.2.2.2.2.2)
def Q.s_faultTrigger (s : Q) (x : List Int32) : Q := (s.1, s.2.1, s.2.2.1, s.2.2.2.1, x, s.2.2.2.2.2.1, s.2.2.2.2.2.2.1, s.2.2.2.2.2.2.2.1, s.2.2.2.2.2.2.2.2.1, s.2.2.2.2.2.2.2.2.2.1, s.2.2.2.2.2.2.2.2.2.2.1, s.2.2.2.2.2.2.2.2.2.2.2.1, s.2.2.2.2.2.2.2.2.2.2.2.2.1, s.2.2.2.2.2.2.2.2.2.2.2.2.2.1, s.2.2.2.2.2.2.2.2.2.2.2.2.2.2.1, s.2.2.2.2.2.2.2.2.2.2.2.2.2.2.2.1, s.2.2.2.2.2.2.2.2.2.2.2.2.2.2.2.2.1, s.2.2.2.2.2.2.2.2.2.2.2.2.2.2.2.2.2.1, s.2.2.2.2.2.2.2.2.2.2.2.2.2.2.2.2.2.2.1, s.2.2.2.2.2.2.2.2.2.2.2.2.2.2.2.2.2.2.2.1, s.2.2.2.2.2.2.2.2.2.2.2.2.2.2.2.2.2.2.2.2)
def Q.s_victimSlot (s : Q) (x : List Int32) : Q := (s.1, s.2.1, s.2.2.1, s.2.2.2.1, s.2.2.2.2.1, x, s.2.2.2.2.2.2.1, s.2.2.2.2.2.2.2.1, s.2.2.2.2.2.2.2.2.1, s.2.2.2.2.2.2.2.2.2.1, s.2.2.2.2.2.2.2.2.2.2.1, s.2.2.2.2.2.2.2.2.2.2.2.1, s.2.2.2.2.2.2.2.2.2.2.2.2.1, s.2.2.2.2.2.2.2.2.2.2.2.2.2.1, s.2.2.2.2.2.2.2.2.2.2.2.2.2.2.1, s.2.2.2.2.2.2.2.2.2.2.2.2.2.2.2.1, s.2.2.2.2.2.2.2.2.2.2.2.2.2.2.2.2.1, s.2.2.2.2.2.2.2.2.2.2.2.2.2.2.2.2.2.1, s.2.2.2.2.2.2.2.2.2.2.2.2.2.2.2.2.2.2.1, s.2.2.2.2.2.2.2.2.2.2.2.2.2.2.2.2.2.2.2.1, s.2.2.2.2.2.2.2.2.2.2.2.2.2.2.2.2.2.2.2.2)
def Q.s_aggressorUses (s : Q) (x : List Int32) : Q := (s.1, s.2.1, s.2.2.1, s.2.2.2.1, s.2.2.2.2.1, s.2.2.2.2.2.1, x, s.2.2.2.2.2.2.2.1, s.2.2.2.2.2.2.2.2.1, s.2.2.2.2.2.2.2.2.2.1, s.2.2.2.2.2.2.2.2.2.2.1, s.2.2.2.2.2.2.2.2.2.2.2.1, s.2.2.2.2.2.2.2.2.2.2.2.2.1, s.2.2.2.2.2.2.2.2.2.2.2.2.2.1, s.2.2.2.2.2.2.2.2.2.2.2.2.2.2.1, s.2.2.2.2.2.2.2.2.2.2.2.2.2.2.2.1, s.2.2.2.2.2.2.2.2.2.2.2.2.2.2.2.2.1, s.2.2.2.2.2.2.2.2.2.2.2.2.2.2.2.2.2.1, s.2.2.2.2.2.2.2.2.2.2.2.2.2.2.2.2.2.2.1, s.2.2.2.2.2.2.2.2.2.2.2.2.2.2.2.2.2.2.2.1, s.2.2.2.2.2.2.2.2.2.2.2.2.2.2.2.2.2.2.2.2)
def Q.s_elementOrder (s : Q) (x : List Int32) : Q := (s.1, s.2.1, s.2.2.1, s.2.2.2.1, s.2.2.2.2.1, s.2.2.2.2.2.1, s.2.2.2.2.2.2.1, x, s.2.2.2.2.2.2.2.2.1, s.2.2.2.2.2.2.2.2.2.1, s.2.2.2.2.2.2.2.2.2.2.1, s.2.2.2.2.2.2.2.2.2.2.2.1, s.2.2.2.2.2.2.2.2.2.2.2.2.1, s.2.2.2.2.2.2.2.2.2.2.2.2.2.1, s.2.2.2.2.2.2.2.2.2.2.2.2.2.2.1, s.2.2.2.2.2.2.2.2.2.2.2.2.2.2.2.1, s.2.2.2.2.2.2.2.2.2.2.2.2.2.2.2.2.1, s.2.2.2.2.2.2.2.2.2.2.2.2.2.2.2.2.2.1, s.2.2.2.2.2.2.2.2.2.2.2.2.2.2.2.2.2.2.1, s.2.2.2.2.2.2.2.2.2.2.2.2.2.2.2.2.2.2.2.1, s.2.2.2.2.2.2.2.2.2.2.2.2.2.2.2.2.2.2.2.2)
def Q.s_elementCount (s : Q) (x : List Int32) : Q := (s.1, s.2.1, s.2.2.1, s.2.2.2.1, s.2.2.2.2.1, s.2.2.2.2.2.1, s.2.2.2.2.2.2.1, s.2.2.2.2.2.2.2.1, x, s.2.2.2.2.2.2.2.2.2.1, s.2.2.2.2.2.2.2.2.2.2.1, s.2.2.2.2.2.2.2.2.2.2.2.1, s.2.2.2.2.2.2.2.2.2.2.2.2.1, s.2.2.2.2.2.2.2.2.2.2.2.2.2.1, s.2.2.2.2.2.2.2.2.2.2.2.2.2.2.1, s.2.2.2.2.2.2.2.2.2.2.2.2.2.2.2.1, s.2.2.2.2.2.2.2.2.2.2.2.2.2.2.2.2.1, s.2.2.2.2.2.2.2.2.2.2.2.2.2.2.2.2.2.1, s.2.2.2.2.2.2.2.2.2.2.2.2.2.2.2.2.2.2.1, s.2.2.2.2.2.2.2.2.2.2.2.2.2.2.2.2.2.2.2.1, s.2.2.2.2.2.2.2.2.2.2.2.2.2.2.2.2.2.2.2.2)
def Q.s_elementOps (s : Q) (x : List Int32) : Q := (s.1, s.2.1, s.2.2.1, s.2.2.2.1, s.2.2.2.2.1, s.2.2.2.2.2.1, s.2.2.2.2.2.2.1, s.2.2.2.2.2.2.2.1, s.2.2.2.2.2.2.2.2.1, x, s.2.2.2.2.2.2.2.2.2.2.1, s.2.2.2.2.2.2.2.2.2.2.2.1, s.2.2.2.2.2.2.2.2.2.2.2.2.1, s.2.2.2.2.2.2.2.2.2.2.2.2.2.1, s.2.2.2.2.2.2.2.2.2.2.2.2.2.2.1, s.2.2.2.2.2.2.2.2.2.2.2.2.2.2.2.1, s.2.2.2.2.2.2.2.2.2.2.2.2.2.2.2.2.1, s.2.2.2.2.2.2.2.2.2.2.2.2.2.2.2.2.2.1, s.2.2.2.2.2.2.2.2.2.2.2.2.2.2.2.2.2.2.1, s.2.2.2.2.2.2.2.2.2.2.2.2.2.2.2.2.2.2.2.1, s.2.2.2.2.2.2.2.2.2.2.2.2.2.2.2.2.2.2.2.2)
def Q.s_logBuffer (s : Q) (x : List Int32) : Q := (s.1, s.2.1, s.2.2.1, s.2.2.2.1, s.2.2.2.2.1, s.2.2.2.2.2.1, s.2.2.2.2.2.2.1, s.2.2.2.2.2.2.2.1, s.2.2.2.2.2.2.2.2.1, s.2.2.2.2.2.2.2.2.2.1, x, s.2.2.2.2.2.2.2.2.2.2.2.1, s.2.2.2.2.2.2.2.2.2.2.2.2.1, s.2.2.2.2.2.2.2.2.2.2.2.2.2.1, s.2.2.2.2.2.2.2.2.2.2.2.2.2.2.1, s.2.2.2.2.2.2.2.2.2.2.2.2.2.2.2.1, s.2.2.2.2.2.2.2.2.2.2.2.2.2.2.2.2.1, s.2.2.2.2.2.2.2.2.2.2.2.2.2.2.2.2.2.1, s.2.2.2.2.2.2.2.2.2.2.2.2.2.2.2.2.2.2.1, s.2.2.2.2.2.2.2.2.2.2.2.2.2.2.2.2.2.2.2.1, s.2.2.2.2.2.2.2.2.2.2.2.2.2.2.2.2.2.2.2.2)
def Q.s_remap (s : Q) (x : List Int32) : Q := (s.1, s.2.1, s.2.2.1, s.2.2.2.1, s.2.2.2.2.1, s.2.2.2.2.2.1, s.2.2.2.2.2.2.1, s.2.2.2.2.2.2.2.1, s.2.2.2.2.2.2.2.2.1, s.2.2.2.2.2.2.2.2.2.1, s.2.2.2.2.2.2.2.2.2.2.1, x, s.2.2.2.2.2.2.2.2.2.2.2.2.1, s.2.2.2.2.2.2.2.2.2.2.2.2.2.1, s.2.2.2.2.2.2.2.2.2.2.2.2.2.2.1, s.2.2.2.2.2.2.2.2.2.2.2.2.2.2.2.1, s.2.2.2.2.2.2.2.2.2.2.2.2.2.2.2.2.1, s.2.2.2.2.2.2.2.2.2.2.2.2.2.2.2.2.2.1, s.2.2.2.2.2.2.2.2.2.2.2.2.2.2.2.2.2.2.1, s.2.2.2.2.2.2.2.2.2.2.2.2.2.2.2.2.2.2.2.1, s.2.2.2.2.2.2.2.2.2.2.2.2.2.2.2.2.2.2.2.2)
def Q.s_spareTaken (s : Q) (x : List Int32) : Q := (s.1, s.2.1, s.2.2.1, s.2.2.2.1, s.2.2.2.2.1, s.2.2.2.2.2.1, s.2.2.2.2.2.2.1, s.2.2.2.2.2.2.2.1, s.2.2.2.2.2.2.2.2.1, s.2.2.2.2.2.2.2.2.2.1, s.2.2.2.2.2.2.2.2.2.2.1, s.2.2.2.2.2.2.2.2.2.2.2.1, x, s.2.2.2.2.2.2.2.2.2.2.2.2.2.1, s.2.2.2.2.2.2.2.2.2.2.2.2.2.2.1, s.2.2.2.2.2.2.2.2.2.2.2.2.2.2.2.1, s.2.2.2.2.2.2.2.2.2.2.2.2.2.2.2.2.1, s.2.2.2.2.2.2.2.2.2.2.2.2.2.2.2.2.2.1, s.2.2.2.2.2.2.2.2.2.2.2.2.2.2.2.2.2.2.1, s.2.2.2.2.2.2.2.2.2.2.2.2.2.2.2.2.2.2.2.1, s.2.2.2.2.2.2.2.2.2.2.2.2.2.2.2.2.2.2.2.2)
def Q.s_spareRows (s : Q) (x : Int32) : Q := (s.1, s.2.1, s.2.2.1, s.2.2.2.1, s.2.2.2.2.1, s.2.2.2.2.2.1, s.2.2.2.2.2.2.1, s.2.2.2.2.2.2.2.1, s.2.2.2.2.2.2.2.2.1, s.2.2.2.2.2.2.2.2.2.1, s.2.2.2.2.2.2.2.2.2.2.1, s.2.2.2.2.2.2.2.2.2.2.2.1, s.2.2.2.2.2.2.2.2.2.2.2.2.1, x, s.2.2.2.2.2.2.2.2.2.2.2.2.2.2.1, s.2.2.2.2.2.2.2.2.2.2.2.2.2.2.2.1, s.2.2.2.2.2.2.2.2.2.2.2.2.2.2.2.2.1, s.2.2.2.2.2.2.2.2.2.2.2.2.2.2.2.2.2.1, s.2.2.2.2.2.2.2.2.2.2.2.2.2.2.2.2.2.2.1, s.2.2.2.2.2.2.2.2.2.2.2.2.2.2.2.2.2.2.2.1, s.2.2.2.2.2.2.2.2.2.2.2.2.2.2.2.2.2.2.2.2)
def Q.s_faultLimit (s : Q) (x : Int32) : Q := (s.1, s.2.1, s.2.2.1, s.2.2.2.1, s.2.2.2.2.1, s.2.2.2.2.2.1, s.2.2.2.2.2.2.1, s.2.2.2.2.2.2.2.1, s.2.2.2.2.2.2.2.2.1, s.2.2.2.2.2.2.2.2.2.1, s.2.2.2.2.2.2.2.2.2.2.1, s.2.2.2.2.2.2.2.2.2.2.2.1, s.2.2.2.2.2.2.2.2.2.2.2.2.1, s.2.2.2.2.2.2.2.2.2.2.2.2.2.1, x, s.2.2.2.2.2.2.2.2.2.2.2.2.2.2.2.1, s.2.2.2.2.2.2.2.2.2.2.2.2.2.2.2.2.1, s.2.2.2.2.2.2.2.2.2.2.2.2.2.2.2.2.2.1, s.2.2.2.2.2.2.2.2.2.2.2.2.2.2.2.2.2.2.1, s.2.2.2.2.2.2.2.2.2.2.2.2.2.2.2.2.2.2.2.1, s.2.2.2.2.2.2.2.2.2.2.2.2.2.2.2.2.2.2.2.2)
def Q.s_logLimit (s : Q) (x : Int32) : Q := (s.1, s.2.1, s.2.2.1, s.2.2.2.1, s.2.2.2.2.1, s.2.2.2.2.2.1, s.2.2.2.2.2.2.1, s.2.2.2.2.2.2.2.1, s.2.2.2.2.2.2.2.2.1, s.2.2.2.2.2.2.2.2.2.1, s.2.2.2.2.2.2.2.2.2.2.1, s.2.2.2.2.2.2.2.2.2.2.2.1, s.2.2.2.2.2.2.2.2.2.2.2.2.1, s.2.2.2.2.2.2.2.2.2.2.2.2.2.1, s.2.2.2.2.2.2.2.2.2.2.2.2.2.2.1, x, s.2.2.2.2.2.2.2.2.2.2.2.2.2.2.2.2.1, s.2.2.2.2.2.2.2.2.2.2.2.2.2.2.2.2.2.1, s.2.2.2.2.2.2.2.2.2.2.2.2.2.2.2.2.2.2.1, s.2.2.2.2.2.2.2.2.2.2.2.2.2.2.2.2.2.2.2.1, s.2.2.2.2.2.2.2.2.2.2.2.2.2.2.2.2.2.2.2.2)
def Q.s_latchBit (s : Q) (x : Int32) : Q := (s.1, s.2.1, s.2.2.1, s.2.2.2.1, s.2.2.2.2.1, s.2.2.2.2.2.1, s.2.2.2.2.2.2.1, s.2.2.2.2.2.2.2.1, s.2.2.2.2.2.2.2.2.1, s.2.2.2.2.2.2.2.2.2.1, s.2.2.2.2.2.2.2.2.2.2.1, s.2.2.2.2.2.2.2.2.2.2.2.1, s.2.2.2.2.2.2.2.2.2.2.2.2.1, s.2.2.2.2.2.2.2.2.2.2.2.2.2.1, s.2.2.2.2.2.2.2.2.2.2.2.2.2.2.1, s.2.2.2.2.2.2.2.2.2.2.2.2.2.2.2.1, x, s.2.2.2.2.2.2.2.2.2.2.2.2.2.2.2.2.2.1, s.2.2.2.2.2.2.2.2.2.2.2.2.2.2.2.2.2.2.1, s.2.2.2.2.2.2.2.2.2.2.2.2.2.2.2.2.2.2.2.1, s.2.2.2.2.2.2.2.2.2.2.2.2.2.2.2.2.2.2.2.2)
def Q.s_faultCount (s : Q) (x : Int32) : Q := (s.1, s.2.1, s.2.2.1, s.2.2.2.1, s.2.2.2.2.1, s.2.2.2.2.2.1, s.2.2.2.2.2.2.1, s.2.2.2.2.2.2.2.1, s.2.2.2.2.2.2.2.2.1, s.2.2.2.2.2.2.2.2.2.1, s.2.2.2.2.2.2.2.2.2.2.1, s.2.2.2.2.2.2.2.2.2.2.2.1, s.2.2.2.2.2.2.2.2.2.2.2.2.1, s.2.2.2.2.2.2.2.2.2.2.2.2.2.1, s.2.2.2.2.2.2.2.2.2.2.2.2.2.2.1, s.2.2.2.2.2.2.2.2.2.2.2.2.2.2.2.1, s.2.2.2.2.2.2.2.2.2.2.2.2.2.2.2.2.1, x, s.2.2.2.2.2.2.2.2.2.2.2.2.2.2.2.2.2.2.1, s.2.2.2.2.2.2.2.2.2.2.2.2.2.2.2.2.2.2.2.1, s.2.2.2.2.2.2.2.2.2.2.2.2.2.2.2.2.2.2.2.2)
def Q.s_programLength (s : Q) (x : Int32) : Q := (s.1, s.2.1, s.2.2.1, s.2.2.2.1, s.2.2.2.2.1, s.2.2.2.2.2.1, s.2.2.2.2.2.2.1, s.2.2.2.2.2.2.2.1, s.2.2.2.2.2.2.2.2.1, s.2.2.2.2.2.2.2.2.2.1, s.2.2.2.2.2.2.2.2.2.2.1, s.2.2.2.2.2.2.2.2.2.2.2.1, s.2.2.2.2.2.2.2.2.2.2.2.2.1, s.2.2.2.2.2.2.2.2.2.2.2.2.2.1, s.2.2.2.2.2.2.2.2.2.2.2.2.2.2.1, s.2.2.2.2.2.2.2.2.2.2.2.2.2.2.2.1, s.2.2.2.2.2.2.2.2.2.2.2.2.2.2.2.2.1, s.2.2.2.2.2.2.2.2.2.2.2.2.2.2.2.2.2.1, x, s.2.2.2.2.2.2.2.2.2.2.2.2.2.2.2.2.2.2.2.1, s.2.2.2.2.2.2.2.2.2.2.2.2.2.2.2.2.2.2.2.2)
def Q.s_logLength (s : Q) (x : Int32) : Q := (s.1, s.2.1, s.2.2.1, s.2.2.2.1, s.2.2.2.2.1, s.2.2.2.2.2.1, s.2.2.2.2.2.2.1, s.2.2.2.2.2.2.2.1, s.2.2.2.2.2.2.2.2.1, s.2.2.2.2.2.2.2.2.2.1, s.2.2.2.2.2.2.2.2.2.2.1, s.2.2.2.2.2.2.2.2.2.2.2.1, s.2.2.2.2.2.2.2.2.2.2.2.2.1, s.2.2.2.2.2.2.2.2.2.2.2.2.2.1, s.2.2.2.2.2.2.2.2.2.2.2.2.2.2.1, s.2.2.2.2.2.2.2.2.2.2.2.2.2.2.2.1, s.2.2.2.2.2.2.2.2.2.2.2.2.2.2.2.2.1, s.2.2.2.2.2.2.2.2.2.2.2.2.2.2.2.2.2.1, s.2.2.2.2.2.2.2.2.2.2.2.2.2.2.2.2.2.2.1, x, s.2.2.2.2.2.2.2.2.2.2.2.2.2.2.2.2.2.2.2.2)
def Q.s_failMask (s : Q) (x : Int32) : Q := (s.1, s.2.1, s.2.2.1, s.2.2.2.1, s.2.2.2.2.1, s.2.2.2.2.2.1, s.2.2.2.2.2.2.1, s.2.2.2.2.2.2.2.1, s.2.2.2.2.2.2.2.2.1, s.2.2.2.2.2.2.2.2.2.1, s.2.2.2.2.2.2.2.2.2.2.1, s.2.2.2.2.2.2.2.2.2.2.2.1, s.2.2.2.2.2.2.2.2.2.2.2.2.1, s.2.2.2.2.2.2.2.2.2.2.2.2.2.1, s.2.2.2.2.2.2.2.2.2.2.2.2.2.2.1, s.2.2.2.2.2.2.2.2.2.2.2.2.2.2.2.1, s.2.2.2.2.2.2.2.2.2.2.2.2.2.2.2.2.1, s.2.2.2.2.2.2.2.2.2.2.2.2.2.2.2.2.2.1, s.2.2.2.2.2.2.2.2.2.2.2.2.2.2.2.2.2.2.1, s.2.2.2.2.2.2.2.2.2.2.2.2.2.2.2.2.2.2.2.1, x)
def Q0 : Q := (List.replicate 320 0, List.replicate 16 0, List.replicate 16 0, List.replicate 16 0, List.replicate 16 0, List.replicate 256 0, List.replicate 256 0, List.replicate 8 0, List.replicate 8 0, List.replicate 8 0, List.replicate 32 0, List.replicate 16 0, List.replicate 4 0, (0 : Int32), (0 : Int32), (0 : Int32), (0 : Int32), (0 : Int32), (0 : Int32), (0 : Int32), (0 : Int32))
def Q.mk (q0 : List Int32) (q1 : List Int32) (q2 : List Int32) (q3 : List Int32) (q4 : List Int32) (q5 : List Int32) (q6 : List Int32) (q7 : List Int32) (q8 : List Int32) (q9 : List Int32) (q10 : List Int32) (q11 : List Int32) (q12 : List Int32) (q13 : Int32) (q14 : Int32) (q15 : Int32) (q16 : Int32) (q17 : Int32) (q18 : Int32) (q19 : Int32) (q20 : Int32) : Q := (q0, q1, q2, q3, q4, q5, q6, q7, q8, q9, q10, q11, q12, q13, q14, q15, q16, q17, q18, q19, q20)
theorem own_f_cells {q0 : List Int32} {q1 : List Int32} {q2 : List Int32} {q3 : List Int32} {q4 : List Int32} {q5 : List Int32} {q6 : List Int32} {q7 : List Int32} {q8 : List Int32} {q9 : List Int32} {q10 : List Int32} {q11 : List Int32} {q12 : List Int32} {q13 : Int32} {q14 : Int32} {q15 : Int32} {q16 : Int32} {q17 : Int32} {q18 : Int32} {q19 : Int32} {q20 : Int32} : (Q.mk q0 q1 q2 q3 q4 q5 q6 q7 q8 q9 q10 q11 q12 q13 q14 q15 q16 q17 q18 q19 q20).f_cells = q0 := by have _h := trivial; exact rfl
theorem own_f_faultKind {q0 : List Int32} {q1 : List Int32} {q2 : List Int32} {q3 : List Int32} {q4 : List Int32} {q5 : List Int32} {q6 : List Int32} {q7 : List Int32} {q8 : List Int32} {q9 : List Int32} {q10 : List Int32} {q11 : List Int32} {q12 : List Int32} {q13 : Int32} {q14 : Int32} {q15 : Int32} {q16 : Int32} {q17 : Int32} {q18 : Int32} {q19 : Int32} {q20 : Int32} : (Q.mk q0 q1 q2 q3 q4 q5 q6 q7 q8 q9 q10 q11 q12 q13 q14 q15 q16 q17 q18 q19 q20).f_faultKind = q1 := by have _h := trivial; exact rfl
theorem own_f_faultVictim {q0 : List Int32} {q1 : List Int32} {q2 : List Int32} {q3 : List Int32} {q4 : List Int32} {q5 : List Int32} {q6 : List Int32} {q7 : List Int32} {q8 : List Int32} {q9 : List Int32} {q10 : List Int32} {q11 : List Int32} {q12 : List Int32} {q13 : Int32} {q14 : Int32} {q15 : Int32} {q16 : Int32} {q17 : Int32} {q18 : Int32} {q19 : Int32} {q20 : Int32} : (Q.mk q0 q1 q2 q3 q4 q5 q6 q7 q8 q9 q10 q11 q12 q13 q14 q15 q16 q17 q18 q19 q20).f_faultVictim = q2 := by have _h := trivial; exact rfl
theorem own_f_faultAggressor {q0 : List Int32} {q1 : List Int32} {q2 : List Int32} {q3 : List Int32} {q4 : List Int32} {q5 : List Int32} {q6 : List Int32} {q7 : List Int32} {q8 : List Int32} {q9 : List Int32} {q10 : List Int32} {q11 : List Int32} {q12 : List Int32} {q13 : Int32} {q14 : Int32} {q15 : Int32} {q16 : Int32} {q17 : Int32} {q18 : Int32} {q19 : Int32} {q20 : Int32} : (Q.mk q0 q1 q2 q3 q4 q5 q6 q7 q8 q9 q10 q11 q12 q13 q14 q15 q16 q17 q18 q19 q20).f_faultAggressor = q3 := by have _h := trivial; exact rfl
theorem own_f_faultTrigger {q0 : List Int32} {q1 : List Int32} {q2 : List Int32} {q3 : List Int32} {q4 : List Int32} {q5 : List Int32} {q6 : List Int32} {q7 : List Int32} {q8 : List Int32} {q9 : List Int32} {q10 : List Int32} {q11 : List Int32} {q12 : List Int32} {q13 : Int32} {q14 : Int32} {q15 : Int32} {q16 : Int32} {q17 : Int32} {q18 : Int32} {q19 : Int32} {q20 : Int32} : (Q.mk q0 q1 q2 q3 q4 q5 q6 q7 q8 q9 q10 q11 q12 q13 q14 q15 q16 q17 q18 q19 q20).f_faultTrigger = q4 := by have _h := trivial; exact rfl
theorem own_f_victimSlot {q0 : List Int32} {q1 : List Int32} {q2 : List Int32} {q3 : List Int32} {q4 : List Int32} {q5 : List Int32} {q6 : List Int32} {q7 : List Int32} {q8 : List Int32} {q9 : List Int32} {q10 : List Int32} {q11 : List Int32} {q12 : List Int32} {q13 : Int32} {q14 : Int32} {q15 : Int32} {q16 : Int32} {q17 : Int32} {q18 : Int32} {q19 : Int32} {q20 : Int32} : (Q.mk q0 q1 q2 q3 q4 q5 q6 q7 q8 q9 q10 q11 q12 q13 q14 q15 q16 q17 q18 q19 q20).f_victimSlot = q5 := by have _h := trivial; exact rfl
theorem own_f_aggressorUses {q0 : List Int32} {q1 : List Int32} {q2 : List Int32} {q3 : List Int32} {q4 : List Int32} {q5 : List Int32} {q6 : List Int32} {q7 : List Int32} {q8 : List Int32} {q9 : List Int32} {q10 : List Int32} {q11 : List Int32} {q12 : List Int32} {q13 : Int32} {q14 : Int32} {q15 : Int32} {q16 : Int32} {q17 : Int32} {q18 : Int32} {q19 : Int32} {q20 : Int32} : (Q.mk q0 q1 q2 q3 q4 q5 q6 q7 q8 q9 q10 q11 q12 q13 q14 q15 q16 q17 q18 q19 q20).f_aggressorUses = q6 := by have _h := trivial; exact rfl
theorem own_f_elementOrder {q0 : List Int32} {q1 : List Int32} {q2 : List Int32} {q3 : List Int32} {q4 : List Int32} {q5 : List Int32} {q6 : List Int32} {q7 : List Int32} {q8 : List Int32} {q9 : List Int32} {q10 : List Int32} {q11 : List Int32} {q12 : List Int32} {q13 : Int32} {q14 : Int32} {q15 : Int32} {q16 : Int32} {q17 : Int32} {q18 : Int32} {q19 : Int32} {q20 : Int32} : (Q.mk q0 q1 q2 q3 q4 q5 q6 q7 q8 q9 q10 q11 q12 q13 q14 q15 q16 q17 q18 q19 q20).f_elementOrder = q7 := by have _h := trivial; exact rfl
theorem own_f_elementCount {q0 : List Int32} {q1 : List Int32} {q2 : List Int32} {q3 : List Int32} {q4 : List Int32} {q5 : List Int32} {q6 : List Int32} {q7 : List Int32} {q8 : List Int32} {q9 : List Int32} {q10 : List Int32} {q11 : List Int32} {q12 : List Int32} {q13 : Int32} {q14 : Int32} {q15 : Int32} {q16 : Int32} {q17 : Int32} {q18 : Int32} {q19 : Int32} {q20 : Int32} : (Q.mk q0 q1 q2 q3 q4 q5 q6 q7 q8 q9 q10 q11 q12 q13 q14 q15 q16 q17 q18 q19 q20).f_elementCount = q8 := by have _h := trivial; exact rfl
theorem own_f_elementOps {q0 : List Int32} {q1 : List Int32} {q2 : List Int32} {q3 : List Int32} {q4 : List Int32} {q5 : List Int32} {q6 : List Int32} {q7 : List Int32} {q8 : List Int32} {q9 : List Int32} {q10 : List Int32} {q11 : List Int32} {q12 : List Int32} {q13 : Int32} {q14 : Int32} {q15 : Int32} {q16 : Int32} {q17 : Int32} {q18 : Int32} {q19 : Int32} {q20 : Int32} : (Q.mk q0 q1 q2 q3 q4 q5 q6 q7 q8 q9 q10 q11 q12 q13 q14 q15 q16 q17 q18 q19 q20).f_elementOps = q9 := by have _h := trivial; exact rfl
theorem own_f_logBuffer {q0 : List Int32} {q1 : List Int32} {q2 : List Int32} {q3 : List Int32} {q4 : List Int32} {q5 : List Int32} {q6 : List Int32} {q7 : List Int32} {q8 : List Int32} {q9 : List Int32} {q10 : List Int32} {q11 : List Int32} {q12 : List Int32} {q13 : Int32} {q14 : Int32} {q15 : Int32} {q16 : Int32} {q17 : Int32} {q18 : Int32} {q19 : Int32} {q20 : Int32} : (Q.mk q0 q1 q2 q3 q4 q5 q6 q7 q8 q9 q10 q11 q12 q13 q14 q15 q16 q17 q18 q19 q20).f_logBuffer = q10 := by have _h := trivial; exact rfl
theorem own_f_remap {q0 : List Int32} {q1 : List Int32} {q2 : List Int32} {q3 : List Int32} {q4 : List Int32} {q5 : List Int32} {q6 : List Int32} {q7 : List Int32} {q8 : List Int32} {q9 : List Int32} {q10 : List Int32} {q11 : List Int32} {q12 : List Int32} {q13 : Int32} {q14 : Int32} {q15 : Int32} {q16 : Int32} {q17 : Int32} {q18 : Int32} {q19 : Int32} {q20 : Int32} : (Q.mk q0 q1 q2 q3 q4 q5 q6 q7 q8 q9 q10 q11 q12 q13 q14 q15 q16 q17 q18 q19 q20).f_remap = q11 := by have _h := trivial; exact rfl
theorem own_f_spareTaken {q0 : List Int32} {q1 : List Int32} {q2 : List Int32} {q3 : List Int32} {q4 : List Int32} {q5 : List Int32} {q6 : List Int32} {q7 : List Int32} {q8 : List Int32} {q9 : List Int32} {q10 : List Int32} {q11 : List Int32} {q12 : List Int32} {q13 : Int32} {q14 : Int32} {q15 : Int32} {q16 : Int32} {q17 : Int32} {q18 : Int32} {q19 : Int32} {q20 : Int32} : (Q.mk q0 q1 q2 q3 q4 q5 q6 q7 q8 q9 q10 q11 q12 q13 q14 q15 q16 q17 q18 q19 q20).f_spareTaken = q12 := by have _h := trivial; exact rfl
theorem own_f_spareRows {q0 : List Int32} {q1 : List Int32} {q2 : List Int32} {q3 : List Int32} {q4 : List Int32} {q5 : List Int32} {q6 : List Int32} {q7 : List Int32} {q8 : List Int32} {q9 : List Int32} {q10 : List Int32} {q11 : List Int32} {q12 : List Int32} {q13 : Int32} {q14 : Int32} {q15 : Int32} {q16 : Int32} {q17 : Int32} {q18 : Int32} {q19 : Int32} {q20 : Int32} : (Q.mk q0 q1 q2 q3 q4 q5 q6 q7 q8 q9 q10 q11 q12 q13 q14 q15 q16 q17 q18 q19 q20).f_spareRows = q13 := by have _h := trivial; exact rfl
theorem own_f_faultLimit {q0 : List Int32} {q1 : List Int32} {q2 : List Int32} {q3 : List Int32} {q4 : List Int32} {q5 : List Int32} {q6 : List Int32} {q7 : List Int32} {q8 : List Int32} {q9 : List Int32} {q10 : List Int32} {q11 : List Int32} {q12 : List Int32} {q13 : Int32} {q14 : Int32} {q15 : Int32} {q16 : Int32} {q17 : Int32} {q18 : Int32} {q19 : Int32} {q20 : Int32} : (Q.mk q0 q1 q2 q3 q4 q5 q6 q7 q8 q9 q10 q11 q12 q13 q14 q15 q16 q17 q18 q19 q20).f_faultLimit = q14 := by have _h := trivial; exact rfl
theorem own_f_logLimit {q0 : List Int32} {q1 : List Int32} {q2 : List Int32} {q3 : List Int32} {q4 : List Int32} {q5 : List Int32} {q6 : List Int32} {q7 : List Int32} {q8 : List Int32} {q9 : List Int32} {q10 : List Int32} {q11 : List Int32} {q12 : List Int32} {q13 : Int32} {q14 : Int32} {q15 : Int32} {q16 : Int32} {q17 : Int32} {q18 : Int32} {q19 : Int32} {q20 : Int32} : (Q.mk q0 q1 q2 q3 q4 q5 q6 q7 q8 q9 q10 q11 q12 q13 q14 q15 q16 q17 q18 q19 q20).f_logLimit = q15 := by have _h := trivial; exact rfl
theorem own_f_latchBit {q0 : List Int32} {q1 : List Int32} {q2 : List Int32} {q3 : List Int32} {q4 : List Int32} {q5 : List Int32} {q6 : List Int32} {q7 : List Int32} {q8 : List Int32} {q9 : List Int32} {q10 : List Int32} {q11 : List Int32} {q12 : List Int32} {q13 : Int32} {q14 : Int32} {q15 : Int32} {q16 : Int32} {q17 : Int32} {q18 : Int32} {q19 : Int32} {q20 : Int32} : (Q.mk q0 q1 q2 q3 q4 q5 q6 q7 q8 q9 q10 q11 q12 q13 q14 q15 q16 q17 q18 q19 q20).f_latchBit = q16 := by have _h := trivial; exact rfl
theorem own_f_faultCount {q0 : List Int32} {q1 : List Int32} {q2 : List Int32} {q3 : List Int32} {q4 : List Int32} {q5 : List Int32} {q6 : List Int32} {q7 : List Int32} {q8 : List Int32} {q9 : List Int32} {q10 : List Int32} {q11 : List Int32} {q12 : List Int32} {q13 : Int32} {q14 : Int32} {q15 : Int32} {q16 : Int32} {q17 : Int32} {q18 : Int32} {q19 : Int32} {q20 : Int32} : (Q.mk q0 q1 q2 q3 q4 q5 q6 q7 q8 q9 q10 q11 q12 q13 q14 q15 q16 q17 q18 q19 q20).f_faultCount = q17 := by have _h := trivial; exact rfl
theorem own_f_programLength {q0 : List Int32} {q1 : List Int32} {q2 : List Int32} {q3 : List Int32} {q4 : List Int32} {q5 : List Int32} {q6 : List Int32} {q7 : List Int32} {q8 : List Int32} {q9 : List Int32} {q10 : List Int32} {q11 : List Int32} {q12 : List Int32} {q13 : Int32} {q14 : Int32} {q15 : Int32} {q16 : Int32} {q17 : Int32} {q18 : Int32} {q19 : Int32} {q20 : Int32} : (Q.mk q0 q1 q2 q3 q4 q5 q6 q7 q8 q9 q10 q11 q12 q13 q14 q15 q16 q17 q18 q19 q20).f_programLength = q18 := by have _h := trivial; exact rfl
theorem own_f_logLength {q0 : List Int32} {q1 : List Int32} {q2 : List Int32} {q3 : List Int32} {q4 : List Int32} {q5 : List Int32} {q6 : List Int32} {q7 : List Int32} {q8 : List Int32} {q9 : List Int32} {q10 : List Int32} {q11 : List Int32} {q12 : List Int32} {q13 : Int32} {q14 : Int32} {q15 : Int32} {q16 : Int32} {q17 : Int32} {q18 : Int32} {q19 : Int32} {q20 : Int32} : (Q.mk q0 q1 q2 q3 q4 q5 q6 q7 q8 q9 q10 q11 q12 q13 q14 q15 q16 q17 q18 q19 q20).f_logLength = q19 := by have _h := trivial; exact rfl
theorem own_f_failMask {q0 : List Int32} {q1 : List Int32} {q2 : List Int32} {q3 : List Int32} {q4 : List Int32} {q5 : List Int32} {q6 : List Int32} {q7 : List Int32} {q8 : List Int32} {q9 : List Int32} {q10 : List Int32} {q11 : List Int32} {q12 : List Int32} {q13 : Int32} {q14 : Int32} {q15 : Int32} {q16 : Int32} {q17 : Int32} {q18 : Int32} {q19 : Int32} {q20 : Int32} : (Q.mk q0 q1 q2 q3 q4 q5 q6 q7 q8 q9 q10 q11 q12 q13 q14 q15 q16 q17 q18 q19 q20).f_failMask = q20 := by have _h := trivial; exact rfl
theorem own_e_cells (s : Q) (x : List Int32) : s.s_cells x = Q.mk x s.f_faultKind s.f_faultVictim s.f_faultAggressor s.f_faultTrigger s.f_victimSlot s.f_aggressorUses s.f_elementOrder s.f_elementCount s.f_elementOps s.f_logBuffer s.f_remap s.f_spareTaken s.f_spareRows s.f_faultLimit s.f_logLimit s.f_latchBit s.f_faultCount s.f_programLength s.f_logLength s.f_failMask := by have _h := trivial; exact rfl
theorem own_e_faultKind (s : Q) (x : List Int32) : s.s_faultKind x = Q.mk s.f_cells x s.f_faultVictim s.f_faultAggressor s.f_faultTrigger s.f_victimSlot s.f_aggressorUses s.f_elementOrder s.f_elementCount s.f_elementOps s.f_logBuffer s.f_remap s.f_spareTaken s.f_spareRows s.f_faultLimit s.f_logLimit s.f_latchBit s.f_faultCount s.f_programLength s.f_logLength s.f_failMask := by have _h := trivial; exact rfl
theorem own_e_faultVictim (s : Q) (x : List Int32) : s.s_faultVictim x = Q.mk s.f_cells s.f_faultKind x s.f_faultAggressor s.f_faultTrigger s.f_victimSlot s.f_aggressorUses s.f_elementOrder s.f_elementCount s.f_elementOps s.f_logBuffer s.f_remap s.f_spareTaken s.f_spareRows s.f_faultLimit s.f_logLimit s.f_latchBit s.f_faultCount s.f_programLength s.f_logLength s.f_failMask := by have _h := trivial; exact rfl
theorem own_e_faultAggressor (s : Q) (x : List Int32) : s.s_faultAggressor x = Q.mk s.f_cells s.f_faultKind s.f_faultVictim x s.f_faultTrigger s.f_victimSlot s.f_aggressorUses s.f_elementOrder s.f_elementCount s.f_elementOps s.f_logBuffer s.f_remap s.f_spareTaken s.f_spareRows s.f_faultLimit s.f_logLimit s.f_latchBit s.f_faultCount s.f_programLength s.f_logLength s.f_failMask := by have _h := trivial; exact rfl
theorem own_e_faultTrigger (s : Q) (x : List Int32) : s.s_faultTrigger x = Q.mk s.f_cells s.f_faultKind s.f_faultVictim s.f_faultAggressor x s.f_victimSlot s.f_aggressorUses s.f_elementOrder s.f_elementCount s.f_elementOps s.f_logBuffer s.f_remap s.f_spareTaken s.f_spareRows s.f_faultLimit s.f_logLimit s.f_latchBit s.f_faultCount s.f_programLength s.f_logLength s.f_failMask := by have _h := trivial; exact rfl
theorem own_e_victimSlot (s : Q) (x : List Int32) : s.s_victimSlot x = Q.mk s.f_cells s.f_faultKind s.f_faultVictim s.f_faultAggressor s.f_faultTrigger x s.f_aggressorUses s.f_elementOrder s.f_elementCount s.f_elementOps s.f_logBuffer s.f_remap s.f_spareTaken s.f_spareRows s.f_faultLimit s.f_logLimit s.f_latchBit s.f_faultCount s.f_programLength s.f_logLength s.f_failMask := by have _h := trivial; exact rfl
theorem own_e_aggressorUses (s : Q) (x : List Int32) : s.s_aggressorUses x = Q.mk s.f_cells s.f_faultKind s.f_faultVictim s.f_faultAggressor s.f_faultTrigger s.f_victimSlot x s.f_elementOrder s.f_elementCount s.f_elementOps s.f_logBuffer s.f_remap s.f_spareTaken s.f_spareRows s.f_faultLimit s.f_logLimit s.f_latchBit s.f_faultCount s.f_programLength s.f_logLength s.f_failMask := by have _h := trivial; exact rfl
theorem own_e_elementOrder (s : Q) (x : List Int32) : s.s_elementOrder x = Q.mk s.f_cells s.f_faultKind s.f_faultVictim s.f_faultAggressor s.f_faultTrigger s.f_victimSlot s.f_aggressorUses x s.f_elementCount s.f_elementOps s.f_logBuffer s.f_remap s.f_spareTaken s.f_spareRows s.f_faultLimit s.f_logLimit s.f_latchBit s.f_faultCount s.f_programLength s.f_logLength s.f_failMask := by have _h := trivial; exact rfl
theorem own_e_elementCount (s : Q) (x : List Int32) : s.s_elementCount x = Q.mk s.f_cells s.f_faultKind s.f_faultVictim s.f_faultAggressor s.f_faultTrigger s.f_victimSlot s.f_aggressorUses s.f_elementOrder x s.f_elementOps s.f_logBuffer s.f_remap s.f_spareTaken s.f_spareRows s.f_faultLimit s.f_logLimit s.f_latchBit s.f_faultCount s.f_programLength s.f_logLength s.f_failMask := by have _h := trivial; exact rfl
theorem own_e_elementOps (s : Q) (x : List Int32) : s.s_elementOps x = Q.mk s.f_cells s.f_faultKind s.f_faultVictim s.f_faultAggressor s.f_faultTrigger s.f_victimSlot s.f_aggressorUses s.f_elementOrder s.f_elementCount x s.f_logBuffer s.f_remap s.f_spareTaken s.f_spareRows s.f_faultLimit s.f_logLimit s.f_latchBit s.f_faultCount s.f_programLength s.f_logLength s.f_failMask := by have _h := trivial; exact rfl
theorem own_e_logBuffer (s : Q) (x : List Int32) : s.s_logBuffer x = Q.mk s.f_cells s.f_faultKind s.f_faultVictim s.f_faultAggressor s.f_faultTrigger s.f_victimSlot s.f_aggressorUses s.f_elementOrder s.f_elementCount s.f_elementOps x s.f_remap s.f_spareTaken s.f_spareRows s.f_faultLimit s.f_logLimit s.f_latchBit s.f_faultCount s.f_programLength s.f_logLength s.f_failMask := by have _h := trivial; exact rfl
theorem own_e_remap (s : Q) (x : List Int32) : s.s_remap x = Q.mk s.f_cells s.f_faultKind s.f_faultVictim s.f_faultAggressor s.f_faultTrigger s.f_victimSlot s.f_aggressorUses s.f_elementOrder s.f_elementCount s.f_elementOps s.f_logBuffer x s.f_spareTaken s.f_spareRows s.f_faultLimit s.f_logLimit s.f_latchBit s.f_faultCount s.f_programLength s.f_logLength s.f_failMask := by have _h := trivial; exact rfl
theorem own_e_spareTaken (s : Q) (x : List Int32) : s.s_spareTaken x = Q.mk s.f_cells s.f_faultKind s.f_faultVictim s.f_faultAggressor s.f_faultTrigger s.f_victimSlot s.f_aggressorUses s.f_elementOrder s.f_elementCount s.f_elementOps s.f_logBuffer s.f_remap x s.f_spareRows s.f_faultLimit s.f_logLimit s.f_latchBit s.f_faultCount s.f_programLength s.f_logLength s.f_failMask := by have _h := trivial; exact rfl
theorem own_e_spareRows (s : Q) (x : Int32) : s.s_spareRows x = Q.mk s.f_cells s.f_faultKind s.f_faultVictim s.f_faultAggressor s.f_faultTrigger s.f_victimSlot s.f_aggressorUses s.f_elementOrder s.f_elementCount s.f_elementOps s.f_logBuffer s.f_remap s.f_spareTaken x s.f_faultLimit s.f_logLimit s.f_latchBit s.f_faultCount s.f_programLength s.f_logLength s.f_failMask := by have _h := trivial; exact rfl
theorem own_e_faultLimit (s : Q) (x : Int32) : s.s_faultLimit x = Q.mk s.f_cells s.f_faultKind s.f_faultVictim s.f_faultAggressor s.f_faultTrigger s.f_victimSlot s.f_aggressorUses s.f_elementOrder s.f_elementCount s.f_elementOps s.f_logBuffer s.f_remap s.f_spareTaken s.f_spareRows x s.f_logLimit s.f_latchBit s.f_faultCount s.f_programLength s.f_logLength s.f_failMask := by have _h := trivial; exact rfl
theorem own_e_logLimit (s : Q) (x : Int32) : s.s_logLimit x = Q.mk s.f_cells s.f_faultKind s.f_faultVictim s.f_faultAggressor s.f_faultTrigger s.f_victimSlot s.f_aggressorUses s.f_elementOrder s.f_elementCount s.f_elementOps s.f_logBuffer s.f_remap s.f_spareTaken s.f_spareRows s.f_faultLimit x s.f_latchBit s.f_faultCount s.f_programLength s.f_logLength s.f_failMask := by have _h := trivial; exact rfl
theorem own_e_latchBit (s : Q) (x : Int32) : s.s_latchBit x = Q.mk s.f_cells s.f_faultKind s.f_faultVictim s.f_faultAggressor s.f_faultTrigger s.f_victimSlot s.f_aggressorUses s.f_elementOrder s.f_elementCount s.f_elementOps s.f_logBuffer s.f_remap s.f_spareTaken s.f_spareRows s.f_faultLimit s.f_logLimit x s.f_faultCount s.f_programLength s.f_logLength s.f_failMask := by have _h := trivial; exact rfl
theorem own_e_faultCount (s : Q) (x : Int32) : s.s_faultCount x = Q.mk s.f_cells s.f_faultKind s.f_faultVictim s.f_faultAggressor s.f_faultTrigger s.f_victimSlot s.f_aggressorUses s.f_elementOrder s.f_elementCount s.f_elementOps s.f_logBuffer s.f_remap s.f_spareTaken s.f_spareRows s.f_faultLimit s.f_logLimit s.f_latchBit x s.f_programLength s.f_logLength s.f_failMask := by have _h := trivial; exact rfl
theorem own_e_programLength (s : Q) (x : Int32) : s.s_programLength x = Q.mk s.f_cells s.f_faultKind s.f_faultVictim s.f_faultAggressor s.f_faultTrigger s.f_victimSlot s.f_aggressorUses s.f_elementOrder s.f_elementCount s.f_elementOps s.f_logBuffer s.f_remap s.f_spareTaken s.f_spareRows s.f_faultLimit s.f_logLimit s.f_latchBit s.f_faultCount x s.f_logLength s.f_failMask := by have _h := trivial; exact rfl
theorem own_e_logLength (s : Q) (x : Int32) : s.s_logLength x = Q.mk s.f_cells s.f_faultKind s.f_faultVictim s.f_faultAggressor s.f_faultTrigger s.f_victimSlot s.f_aggressorUses s.f_elementOrder s.f_elementCount s.f_elementOps s.f_logBuffer s.f_remap s.f_spareTaken s.f_spareRows s.f_faultLimit s.f_logLimit s.f_latchBit s.f_faultCount s.f_programLength x s.f_failMask := by have _h := trivial; exact rfl
theorem own_e_failMask (s : Q) (x : Int32) : s.s_failMask x = Q.mk s.f_cells s.f_faultKind s.f_faultVictim s.f_faultAggressor s.f_faultTrigger s.f_victimSlot s.f_aggressorUses s.f_elementOrder s.f_elementCount s.f_elementOps s.f_logBuffer s.f_remap s.f_spareTaken s.f_spareRows s.f_faultLimit s.f_logLimit s.f_latchBit s.f_faultCount s.f_programLength s.f_logLength x := by have _h := trivial; exact rfl
theorem own_z_cells : Q0.f_cells = List.replicate 320 0 := by have _h := trivial; exact rfl
theorem own_z_faultKind : Q0.f_faultKind = List.replicate 16 0 := by have _h := trivial; exact rfl
theorem own_z_faultVictim : Q0.f_faultVictim = List.replicate 16 0 := by have _h := trivial; exact rfl
theorem own_z_faultAggressor : Q0.f_faultAggressor = List.replicate 16 0 := by have _h := trivial; exact rfl
theorem own_z_faultTrigger : Q0.f_faultTrigger = List.replicate 16 0 := by have _h := trivial; exact rfl
theorem own_z_victimSlot : Q0.f_victimSlot = List.replicate 256 0 := by have _h := trivial; exact rfl
theorem own_z_aggressorUses : Q0.f_aggressorUses = List.replicate 256 0 := by have _h := trivial; exact rfl
theorem own_z_elementOrder : Q0.f_elementOrder = List.replicate 8 0 := by have _h := trivial; exact rfl
theorem own_z_elementCount : Q0.f_elementCount = List.replicate 8 0 := by have _h := trivial; exact rfl
theorem own_z_elementOps : Q0.f_elementOps = List.replicate 8 0 := by have _h := trivial; exact rfl
theorem own_z_logBuffer : Q0.f_logBuffer = List.replicate 32 0 := by have _h := trivial; exact rfl
theorem own_z_remap : Q0.f_remap = List.replicate 16 0 := by have _h := trivial; exact rfl
theorem own_z_spareTaken : Q0.f_spareTaken = List.replicate 4 0 := by have _h := trivial; exact rfl
theorem own_z_spareRows : Q0.f_spareRows = (0 : Int32) := by have _h := trivial; exact rfl
theorem own_z_faultLimit : Q0.f_faultLimit = (0 : Int32) := by have _h := trivial; exact rfl
theorem own_z_logLimit : Q0.f_logLimit = (0 : Int32) := by have _h := trivial; exact rfl
theorem own_z_latchBit : Q0.f_latchBit = (0 : Int32) := by have _h := trivial; exact rfl
theorem own_z_faultCount : Q0.f_faultCount = (0 : Int32) := by have _h := trivial; exact rfl
theorem own_z_programLength : Q0.f_programLength = (0 : Int32) := by have _h := trivial; exact rfl
theorem own_z_logLength : Q0.f_logLength = (0 : Int32) := by have _h := trivial; exact rfl
theorem own_z_failMask : Q0.f_failMask = (0 : Int32) := by have _h := trivial; exact rfl
abbrev W0 (R : AHeap) : AHeap := R
def own_cells1 (q0 : List Int32) (q1 : List Int32) (q2 : List Int32) (q3 : List Int32) (q4 : List Int32) (q5 : List Int32) (q6 : List Int32) (q7 : List Int32) (q8 : List Int32) (q9 : List Int32) (q10 : List Int32) (q11 : List Int32) (q12 : List Int32) (q13 : Int32) (q14 : Int32) (q15 : Int32) (q16 : Int32) (q17 : Int32) (q18 : Int32) (q19 : Int32) (q20 : Int32) (R : AHeap) : AHeap := .inl [.ref 1, .ref 2, .ref 3, .ref 4, .ref 5, .ref 6, .ref 7, .ref 8, .ref 9, .ref 10, .ref 11, .ref 12, .ref 13, .int q13, .int q14, .int q15, .int q16, .int q17, .int q18, .int q19, .int q20] ::
  .inr (.inl (3, q0)) ::
  .inr (.inl (1, q1)) ::
  .inr (.inl (1, q2)) ::
  .inr (.inl (1, q3)) ::
  .inr (.inl (1, q4)) ::
  .inr (.inl (1, q5)) ::
  .inr (.inl (1, q6)) ::
  .inr (.inl (1, q7)) ::
  .inr (.inl (1, q8)) ::
  .inr (.inl (1, q9)) ::
  .inr (.inl (1, q10)) ::
  .inr (.inl (1, q11)) ::
  .inr (.inl (2, q12)) ::
  R
def C1 (q0 : List Int32) (q1 : List Int32) (q2 : List Int32) (q3 : List Int32) (q4 : List Int32) (q5 : List Int32) (q6 : List Int32) (q7 : List Int32) (q8 : List Int32) (q9 : List Int32) (q10 : List Int32) (q11 : List Int32) (q12 : List Int32) (q13 : Int32) (q14 : Int32) (q15 : Int32) (q16 : Int32) (q17 : Int32) (q18 : Int32) (q19 : Int32) (q20 : Int32) (R : AHeap) : AHeap := own_cells1 q0 q1 q2 q3 q4 q5 q6 q7 q8 q9 q10 q11 q12 q13 q14 q15 q16 q17 q18 q19 q20 R
abbrev W1 (s : Q) (R : AHeap) : AHeap := C1 s.f_cells s.f_faultKind s.f_faultVictim s.f_faultAggressor s.f_faultTrigger s.f_victimSlot s.f_aggressorUses s.f_elementOrder s.f_elementCount s.f_elementOps s.f_logBuffer s.f_remap s.f_spareTaken s.f_spareRows s.f_faultLimit s.f_logLimit s.f_latchBit s.f_faultCount s.f_programLength s.f_logLength s.f_failMask R
theorem own_g1_cells {q0 : List Int32} {q1 : List Int32} {q2 : List Int32} {q3 : List Int32} {q4 : List Int32} {q5 : List Int32} {q6 : List Int32} {q7 : List Int32} {q8 : List Int32} {q9 : List Int32} {q10 : List Int32} {q11 : List Int32} {q12 : List Int32} {q13 : Int32} {q14 : Int32} {q15 : Int32} {q16 : Int32} {q17 : Int32} {q18 : Int32} {q19 : Int32} {q20 : Int32} {R : AHeap} : getC (C1 q0 q1 q2 q3 q4 q5 q6 q7 q8 q9 q10 q11 q12 q13 q14 q15 q16 q17 q18 q19 q20 R) 0 0 = some (.ref 1) := rfl
theorem own_a1_cells {q0 : List Int32} {q1 : List Int32} {q2 : List Int32} {q3 : List Int32} {q4 : List Int32} {q5 : List Int32} {q6 : List Int32} {q7 : List Int32} {q8 : List Int32} {q9 : List Int32} {q10 : List Int32} {q11 : List Int32} {q12 : List Int32} {q13 : Int32} {q14 : Int32} {q15 : Int32} {q16 : Int32} {q17 : Int32} {q18 : Int32} {q19 : Int32} {q20 : Int32} {R : AHeap} : (C1 q0 q1 q2 q3 q4 q5 q6 q7 q8 q9 q10 q11 q12 q13 q14 q15 q16 q17 q18 q19 q20 R)[1]? = some (.inr (.inl (3, q0))) := rfl
theorem own_s1_cells {q0 : List Int32} {q1 : List Int32} {q2 : List Int32} {q3 : List Int32} {q4 : List Int32} {q5 : List Int32} {q6 : List Int32} {q7 : List Int32} {q8 : List Int32} {q9 : List Int32} {q10 : List Int32} {q11 : List Int32} {q12 : List Int32} {q13 : Int32} {q14 : Int32} {q15 : Int32} {q16 : Int32} {q17 : Int32} {q18 : Int32} {q19 : Int32} {q20 : Int32} {R : AHeap} {x : List Int32} : (C1 q0 q1 q2 q3 q4 q5 q6 q7 q8 q9 q10 q11 q12 q13 q14 q15 q16 q17 q18 q19 q20 R).set 1 (.inr (.inl (3, x))) = (C1 x q1 q2 q3 q4 q5 q6 q7 q8 q9 q10 q11 q12 q13 q14 q15 q16 q17 q18 q19 q20 R) := rfl
theorem own_g1_faultKind {q0 : List Int32} {q1 : List Int32} {q2 : List Int32} {q3 : List Int32} {q4 : List Int32} {q5 : List Int32} {q6 : List Int32} {q7 : List Int32} {q8 : List Int32} {q9 : List Int32} {q10 : List Int32} {q11 : List Int32} {q12 : List Int32} {q13 : Int32} {q14 : Int32} {q15 : Int32} {q16 : Int32} {q17 : Int32} {q18 : Int32} {q19 : Int32} {q20 : Int32} {R : AHeap} : getC (C1 q0 q1 q2 q3 q4 q5 q6 q7 q8 q9 q10 q11 q12 q13 q14 q15 q16 q17 q18 q19 q20 R) 0 1 = some (.ref 2) := rfl
theorem own_a1_faultKind {q0 : List Int32} {q1 : List Int32} {q2 : List Int32} {q3 : List Int32} {q4 : List Int32} {q5 : List Int32} {q6 : List Int32} {q7 : List Int32} {q8 : List Int32} {q9 : List Int32} {q10 : List Int32} {q11 : List Int32} {q12 : List Int32} {q13 : Int32} {q14 : Int32} {q15 : Int32} {q16 : Int32} {q17 : Int32} {q18 : Int32} {q19 : Int32} {q20 : Int32} {R : AHeap} : (C1 q0 q1 q2 q3 q4 q5 q6 q7 q8 q9 q10 q11 q12 q13 q14 q15 q16 q17 q18 q19 q20 R)[2]? = some (.inr (.inl (1, q1))) := rfl
theorem own_s1_faultKind {q0 : List Int32} {q1 : List Int32} {q2 : List Int32} {q3 : List Int32} {q4 : List Int32} {q5 : List Int32} {q6 : List Int32} {q7 : List Int32} {q8 : List Int32} {q9 : List Int32} {q10 : List Int32} {q11 : List Int32} {q12 : List Int32} {q13 : Int32} {q14 : Int32} {q15 : Int32} {q16 : Int32} {q17 : Int32} {q18 : Int32} {q19 : Int32} {q20 : Int32} {R : AHeap} {x : List Int32} : (C1 q0 q1 q2 q3 q4 q5 q6 q7 q8 q9 q10 q11 q12 q13 q14 q15 q16 q17 q18 q19 q20 R).set 2 (.inr (.inl (1, x))) = (C1 q0 x q2 q3 q4 q5 q6 q7 q8 q9 q10 q11 q12 q13 q14 q15 q16 q17 q18 q19 q20 R) := rfl
theorem own_g1_faultVictim {q0 : List Int32} {q1 : List Int32} {q2 : List Int32} {q3 : List Int32} {q4 : List Int32} {q5 : List Int32} {q6 : List Int32} {q7 : List Int32} {q8 : List Int32} {q9 : List Int32} {q10 : List Int32} {q11 : List Int32} {q12 : List Int32} {q13 : Int32} {q14 : Int32} {q15 : Int32} {q16 : Int32} {q17 : Int32} {q18 : Int32} {q19 : Int32} {q20 : Int32} {R : AHeap} : getC (C1 q0 q1 q2 q3 q4 q5 q6 q7 q8 q9 q10 q11 q12 q13 q14 q15 q16 q17 q18 q19 q20 R) 0 2 = some (.ref 3) := rfl
theorem own_a1_faultVictim {q0 : List Int32} {q1 : List Int32} {q2 : List Int32} {q3 : List Int32} {q4 : List Int32} {q5 : List Int32} {q6 : List Int32} {q7 : List Int32} {q8 : List Int32} {q9 : List Int32} {q10 : List Int32} {q11 : List Int32} {q12 : List Int32} {q13 : Int32} {q14 : Int32} {q15 : Int32} {q16 : Int32} {q17 : Int32} {q18 : Int32} {q19 : Int32} {q20 : Int32} {R : AHeap} : (C1 q0 q1 q2 q3 q4 q5 q6 q7 q8 q9 q10 q11 q12 q13 q14 q15 q16 q17 q18 q19 q20 R)[3]? = some (.inr (.inl (1, q2))) := rfl
theorem own_s1_faultVictim {q0 : List Int32} {q1 : List Int32} {q2 : List Int32} {q3 : List Int32} {q4 : List Int32} {q5 : List Int32} {q6 : List Int32} {q7 : List Int32} {q8 : List Int32} {q9 : List Int32} {q10 : List Int32} {q11 : List Int32} {q12 : List Int32} {q13 : Int32} {q14 : Int32} {q15 : Int32} {q16 : Int32} {q17 : Int32} {q18 : Int32} {q19 : Int32} {q20 : Int32} {R : AHeap} {x : List Int32} : (C1 q0 q1 q2 q3 q4 q5 q6 q7 q8 q9 q10 q11 q12 q13 q14 q15 q16 q17 q18 q19 q20 R).set 3 (.inr (.inl (1, x))) = (C1 q0 q1 x q3 q4 q5 q6 q7 q8 q9 q10 q11 q12 q13 q14 q15 q16 q17 q18 q19 q20 R) := rfl
theorem own_g1_faultAggressor {q0 : List Int32} {q1 : List Int32} {q2 : List Int32} {q3 : List Int32} {q4 : List Int32} {q5 : List Int32} {q6 : List Int32} {q7 : List Int32} {q8 : List Int32} {q9 : List Int32} {q10 : List Int32} {q11 : List Int32} {q12 : List Int32} {q13 : Int32} {q14 : Int32} {q15 : Int32} {q16 : Int32} {q17 : Int32} {q18 : Int32} {q19 : Int32} {q20 : Int32} {R : AHeap} : getC (C1 q0 q1 q2 q3 q4 q5 q6 q7 q8 q9 q10 q11 q12 q13 q14 q15 q16 q17 q18 q19 q20 R) 0 3 = some (.ref 4) := rfl
theorem own_a1_faultAggressor {q0 : List Int32} {q1 : List Int32} {q2 : List Int32} {q3 : List Int32} {q4 : List Int32} {q5 : List Int32} {q6 : List Int32} {q7 : List Int32} {q8 : List Int32} {q9 : List Int32} {q10 : List Int32} {q11 : List Int32} {q12 : List Int32} {q13 : Int32} {q14 : Int32} {q15 : Int32} {q16 : Int32} {q17 : Int32} {q18 : Int32} {q19 : Int32} {q20 : Int32} {R : AHeap} : (C1 q0 q1 q2 q3 q4 q5 q6 q7 q8 q9 q10 q11 q12 q13 q14 q15 q16 q17 q18 q19 q20 R)[4]? = some (.inr (.inl (1, q3))) := rfl
theorem own_s1_faultAggressor {q0 : List Int32} {q1 : List Int32} {q2 : List Int32} {q3 : List Int32} {q4 : List Int32} {q5 : List Int32} {q6 : List Int32} {q7 : List Int32} {q8 : List Int32} {q9 : List Int32} {q10 : List Int32} {q11 : List Int32} {q12 : List Int32} {q13 : Int32} {q14 : Int32} {q15 : Int32} {q16 : Int32} {q17 : Int32} {q18 : Int32} {q19 : Int32} {q20 : Int32} {R : AHeap} {x : List Int32} : (C1 q0 q1 q2 q3 q4 q5 q6 q7 q8 q9 q10 q11 q12 q13 q14 q15 q16 q17 q18 q19 q20 R).set 4 (.inr (.inl (1, x))) = (C1 q0 q1 q2 x q4 q5 q6 q7 q8 q9 q10 q11 q12 q13 q14 q15 q16 q17 q18 q19 q20 R) := rfl
theorem own_g1_faultTrigger {q0 : List Int32} {q1 : List Int32} {q2 : List Int32} {q3 : List Int32} {q4 : List Int32} {q5 : List Int32} {q6 : List Int32} {q7 : List Int32} {q8 : List Int32} {q9 : List Int32} {q10 : List Int32} {q11 : List Int32} {q12 : List Int32} {q13 : Int32} {q14 : Int32} {q15 : Int32} {q16 : Int32} {q17 : Int32} {q18 : Int32} {q19 : Int32} {q20 : Int32} {R : AHeap} : getC (C1 q0 q1 q2 q3 q4 q5 q6 q7 q8 q9 q10 q11 q12 q13 q14 q15 q16 q17 q18 q19 q20 R) 0 4 = some (.ref 5) := rfl
theorem own_a1_faultTrigger {q0 : List Int32} {q1 : List Int32} {q2 : List Int32} {q3 : List Int32} {q4 : List Int32} {q5 : List Int32} {q6 : List Int32} {q7 : List Int32} {q8 : List Int32} {q9 : List Int32} {q10 : List Int32} {q11 : List Int32} {q12 : List Int32} {q13 : Int32} {q14 : Int32} {q15 : Int32} {q16 : Int32} {q17 : Int32} {q18 : Int32} {q19 : Int32} {q20 : Int32} {R : AHeap} : (C1 q0 q1 q2 q3 q4 q5 q6 q7 q8 q9 q10 q11 q12 q13 q14 q15 q16 q17 q18 q19 q20 R)[5]? = some (.inr (.inl (1, q4))) := rfl
theorem own_s1_faultTrigger {q0 : List Int32} {q1 : List Int32} {q2 : List Int32} {q3 : List Int32} {q4 : List Int32} {q5 : List Int32} {q6 : List Int32} {q7 : List Int32} {q8 : List Int32} {q9 : List Int32} {q10 : List Int32} {q11 : List Int32} {q12 : List Int32} {q13 : Int32} {q14 : Int32} {q15 : Int32} {q16 : Int32} {q17 : Int32} {q18 : Int32} {q19 : Int32} {q20 : Int32} {R : AHeap} {x : List Int32} : (C1 q0 q1 q2 q3 q4 q5 q6 q7 q8 q9 q10 q11 q12 q13 q14 q15 q16 q17 q18 q19 q20 R).set 5 (.inr (.inl (1, x))) = (C1 q0 q1 q2 q3 x q5 q6 q7 q8 q9 q10 q11 q12 q13 q14 q15 q16 q17 q18 q19 q20 R) := rfl
theorem own_g1_victimSlot {q0 : List Int32} {q1 : List Int32} {q2 : List Int32} {q3 : List Int32} {q4 : List Int32} {q5 : List Int32} {q6 : List Int32} {q7 : List Int32} {q8 : List Int32} {q9 : List Int32} {q10 : List Int32} {q11 : List Int32} {q12 : List Int32} {q13 : Int32} {q14 : Int32} {q15 : Int32} {q16 : Int32} {q17 : Int32} {q18 : Int32} {q19 : Int32} {q20 : Int32} {R : AHeap} : getC (C1 q0 q1 q2 q3 q4 q5 q6 q7 q8 q9 q10 q11 q12 q13 q14 q15 q16 q17 q18 q19 q20 R) 0 5 = some (.ref 6) := rfl
theorem own_a1_victimSlot {q0 : List Int32} {q1 : List Int32} {q2 : List Int32} {q3 : List Int32} {q4 : List Int32} {q5 : List Int32} {q6 : List Int32} {q7 : List Int32} {q8 : List Int32} {q9 : List Int32} {q10 : List Int32} {q11 : List Int32} {q12 : List Int32} {q13 : Int32} {q14 : Int32} {q15 : Int32} {q16 : Int32} {q17 : Int32} {q18 : Int32} {q19 : Int32} {q20 : Int32} {R : AHeap} : (C1 q0 q1 q2 q3 q4 q5 q6 q7 q8 q9 q10 q11 q12 q13 q14 q15 q16 q17 q18 q19 q20 R)[6]? = some (.inr (.inl (1, q5))) := rfl
theorem own_s1_victimSlot {q0 : List Int32} {q1 : List Int32} {q2 : List Int32} {q3 : List Int32} {q4 : List Int32} {q5 : List Int32} {q6 : List Int32} {q7 : List Int32} {q8 : List Int32} {q9 : List Int32} {q10 : List Int32} {q11 : List Int32} {q12 : List Int32} {q13 : Int32} {q14 : Int32} {q15 : Int32} {q16 : Int32} {q17 : Int32} {q18 : Int32} {q19 : Int32} {q20 : Int32} {R : AHeap} {x : List Int32} : (C1 q0 q1 q2 q3 q4 q5 q6 q7 q8 q9 q10 q11 q12 q13 q14 q15 q16 q17 q18 q19 q20 R).set 6 (.inr (.inl (1, x))) = (C1 q0 q1 q2 q3 q4 x q6 q7 q8 q9 q10 q11 q12 q13 q14 q15 q16 q17 q18 q19 q20 R) := rfl
theorem own_g1_aggressorUses {q0 : List Int32} {q1 : List Int32} {q2 : List Int32} {q3 : List Int32} {q4 : List Int32} {q5 : List Int32} {q6 : List Int32} {q7 : List Int32} {q8 : List Int32} {q9 : List Int32} {q10 : List Int32} {q11 : List Int32} {q12 : List Int32} {q13 : Int32} {q14 : Int32} {q15 : Int32} {q16 : Int32} {q17 : Int32} {q18 : Int32} {q19 : Int32} {q20 : Int32} {R : AHeap} : getC (C1 q0 q1 q2 q3 q4 q5 q6 q7 q8 q9 q10 q11 q12 q13 q14 q15 q16 q17 q18 q19 q20 R) 0 6 = some (.ref 7) := rfl
theorem own_a1_aggressorUses {q0 : List Int32} {q1 : List Int32} {q2 : List Int32} {q3 : List Int32} {q4 : List Int32} {q5 : List Int32} {q6 : List Int32} {q7 : List Int32} {q8 : List Int32} {q9 : List Int32} {q10 : List Int32} {q11 : List Int32} {q12 : List Int32} {q13 : Int32} {q14 : Int32} {q15 : Int32} {q16 : Int32} {q17 : Int32} {q18 : Int32} {q19 : Int32} {q20 : Int32} {R : AHeap} : (C1 q0 q1 q2 q3 q4 q5 q6 q7 q8 q9 q10 q11 q12 q13 q14 q15 q16 q17 q18 q19 q20 R)[7]? = some (.inr (.inl (1, q6))) := rfl
theorem own_s1_aggressorUses {q0 : List Int32} {q1 : List Int32} {q2 : List Int32} {q3 : List Int32} {q4 : List Int32} {q5 : List Int32} {q6 : List Int32} {q7 : List Int32} {q8 : List Int32} {q9 : List Int32} {q10 : List Int32} {q11 : List Int32} {q12 : List Int32} {q13 : Int32} {q14 : Int32} {q15 : Int32} {q16 : Int32} {q17 : Int32} {q18 : Int32} {q19 : Int32} {q20 : Int32} {R : AHeap} {x : List Int32} : (C1 q0 q1 q2 q3 q4 q5 q6 q7 q8 q9 q10 q11 q12 q13 q14 q15 q16 q17 q18 q19 q20 R).set 7 (.inr (.inl (1, x))) = (C1 q0 q1 q2 q3 q4 q5 x q7 q8 q9 q10 q11 q12 q13 q14 q15 q16 q17 q18 q19 q20 R) := rfl
theorem own_g1_elementOrder {q0 : List Int32} {q1 : List Int32} {q2 : List Int32} {q3 : List Int32} {q4 : List Int32} {q5 : List Int32} {q6 : List Int32} {q7 : List Int32} {q8 : List Int32} {q9 : List Int32} {q10 : List Int32} {q11 : List Int32} {q12 : List Int32} {q13 : Int32} {q14 : Int32} {q15 : Int32} {q16 : Int32} {q17 : Int32} {q18 : Int32} {q19 : Int32} {q20 : Int32} {R : AHeap} : getC (C1 q0 q1 q2 q3 q4 q5 q6 q7 q8 q9 q10 q11 q12 q13 q14 q15 q16 q17 q18 q19 q20 R) 0 7 = some (.ref 8) := rfl
theorem own_a1_elementOrder {q0 : List Int32} {q1 : List Int32} {q2 : List Int32} {q3 : List Int32} {q4 : List Int32} {q5 : List Int32} {q6 : List Int32} {q7 : List Int32} {q8 : List Int32} {q9 : List Int32} {q10 : List Int32} {q11 : List Int32} {q12 : List Int32} {q13 : Int32} {q14 : Int32} {q15 : Int32} {q16 : Int32} {q17 : Int32} {q18 : Int32} {q19 : Int32} {q20 : Int32} {R : AHeap} : (C1 q0 q1 q2 q3 q4 q5 q6 q7 q8 q9 q10 q11 q12 q13 q14 q15 q16 q17 q18 q19 q20 R)[8]? = some (.inr (.inl (1, q7))) := rfl
theorem own_s1_elementOrder {q0 : List Int32} {q1 : List Int32} {q2 : List Int32} {q3 : List Int32} {q4 : List Int32} {q5 : List Int32} {q6 : List Int32} {q7 : List Int32} {q8 : List Int32} {q9 : List Int32} {q10 : List Int32} {q11 : List Int32} {q12 : List Int32} {q13 : Int32} {q14 : Int32} {q15 : Int32} {q16 : Int32} {q17 : Int32} {q18 : Int32} {q19 : Int32} {q20 : Int32} {R : AHeap} {x : List Int32} : (C1 q0 q1 q2 q3 q4 q5 q6 q7 q8 q9 q10 q11 q12 q13 q14 q15 q16 q17 q18 q19 q20 R).set 8 (.inr (.inl (1, x))) = (C1 q0 q1 q2 q3 q4 q5 q6 x q8 q9 q10 q11 q12 q13 q14 q15 q16 q17 q18 q19 q20 R) := rfl
theorem own_g1_elementCount {q0 : List Int32} {q1 : List Int32} {q2 : List Int32} {q3 : List Int32} {q4 : List Int32} {q5 : List Int32} {q6 : List Int32} {q7 : List Int32} {q8 : List Int32} {q9 : List Int32} {q10 : List Int32} {q11 : List Int32} {q12 : List Int32} {q13 : Int32} {q14 : Int32} {q15 : Int32} {q16 : Int32} {q17 : Int32} {q18 : Int32} {q19 : Int32} {q20 : Int32} {R : AHeap} : getC (C1 q0 q1 q2 q3 q4 q5 q6 q7 q8 q9 q10 q11 q12 q13 q14 q15 q16 q17 q18 q19 q20 R) 0 8 = some (.ref 9) := rfl
theorem own_a1_elementCount {q0 : List Int32} {q1 : List Int32} {q2 : List Int32} {q3 : List Int32} {q4 : List Int32} {q5 : List Int32} {q6 : List Int32} {q7 : List Int32} {q8 : List Int32} {q9 : List Int32} {q10 : List Int32} {q11 : List Int32} {q12 : List Int32} {q13 : Int32} {q14 : Int32} {q15 : Int32} {q16 : Int32} {q17 : Int32} {q18 : Int32} {q19 : Int32} {q20 : Int32} {R : AHeap} : (C1 q0 q1 q2 q3 q4 q5 q6 q7 q8 q9 q10 q11 q12 q13 q14 q15 q16 q17 q18 q19 q20 R)[9]? = some (.inr (.inl (1, q8))) := rfl
theorem own_s1_elementCount {q0 : List Int32} {q1 : List Int32} {q2 : List Int32} {q3 : List Int32} {q4 : List Int32} {q5 : List Int32} {q6 : List Int32} {q7 : List Int32} {q8 : List Int32} {q9 : List Int32} {q10 : List Int32} {q11 : List Int32} {q12 : List Int32} {q13 : Int32} {q14 : Int32} {q15 : Int32} {q16 : Int32} {q17 : Int32} {q18 : Int32} {q19 : Int32} {q20 : Int32} {R : AHeap} {x : List Int32} : (C1 q0 q1 q2 q3 q4 q5 q6 q7 q8 q9 q10 q11 q12 q13 q14 q15 q16 q17 q18 q19 q20 R).set 9 (.inr (.inl (1, x))) = (C1 q0 q1 q2 q3 q4 q5 q6 q7 x q9 q10 q11 q12 q13 q14 q15 q16 q17 q18 q19 q20 R) := rfl
theorem own_g1_elementOps {q0 : List Int32} {q1 : List Int32} {q2 : List Int32} {q3 : List Int32} {q4 : List Int32} {q5 : List Int32} {q6 : List Int32} {q7 : List Int32} {q8 : List Int32} {q9 : List Int32} {q10 : List Int32} {q11 : List Int32} {q12 : List Int32} {q13 : Int32} {q14 : Int32} {q15 : Int32} {q16 : Int32} {q17 : Int32} {q18 : Int32} {q19 : Int32} {q20 : Int32} {R : AHeap} : getC (C1 q0 q1 q2 q3 q4 q5 q6 q7 q8 q9 q10 q11 q12 q13 q14 q15 q16 q17 q18 q19 q20 R) 0 9 = some (.ref 10) := rfl
theorem own_a1_elementOps {q0 : List Int32} {q1 : List Int32} {q2 : List Int32} {q3 : List Int32} {q4 : List Int32} {q5 : List Int32} {q6 : List Int32} {q7 : List Int32} {q8 : List Int32} {q9 : List Int32} {q10 : List Int32} {q11 : List Int32} {q12 : List Int32} {q13 : Int32} {q14 : Int32} {q15 : Int32} {q16 : Int32} {q17 : Int32} {q18 : Int32} {q19 : Int32} {q20 : Int32} {R : AHeap} : (C1 q0 q1 q2 q3 q4 q5 q6 q7 q8 q9 q10 q11 q12 q13 q14 q15 q16 q17 q18 q19 q20 R)[10]? = some (.inr (.inl (1, q9))) := rfl
theorem own_s1_elementOps {q0 : List Int32} {q1 : List Int32} {q2 : List Int32} {q3 : List Int32} {q4 : List Int32} {q5 : List Int32} {q6 : List Int32} {q7 : List Int32} {q8 : List Int32} {q9 : List Int32} {q10 : List Int32} {q11 : List Int32} {q12 : List Int32} {q13 : Int32} {q14 : Int32} {q15 : Int32} {q16 : Int32} {q17 : Int32} {q18 : Int32} {q19 : Int32} {q20 : Int32} {R : AHeap} {x : List Int32} : (C1 q0 q1 q2 q3 q4 q5 q6 q7 q8 q9 q10 q11 q12 q13 q14 q15 q16 q17 q18 q19 q20 R).set 10 (.inr (.inl (1, x))) = (C1 q0 q1 q2 q3 q4 q5 q6 q7 q8 x q10 q11 q12 q13 q14 q15 q16 q17 q18 q19 q20 R) := rfl
theorem own_g1_logBuffer {q0 : List Int32} {q1 : List Int32} {q2 : List Int32} {q3 : List Int32} {q4 : List Int32} {q5 : List Int32} {q6 : List Int32} {q7 : List Int32} {q8 : List Int32} {q9 : List Int32} {q10 : List Int32} {q11 : List Int32} {q12 : List Int32} {q13 : Int32} {q14 : Int32} {q15 : Int32} {q16 : Int32} {q17 : Int32} {q18 : Int32} {q19 : Int32} {q20 : Int32} {R : AHeap} : getC (C1 q0 q1 q2 q3 q4 q5 q6 q7 q8 q9 q10 q11 q12 q13 q14 q15 q16 q17 q18 q19 q20 R) 0 10 = some (.ref 11) := rfl
theorem own_a1_logBuffer {q0 : List Int32} {q1 : List Int32} {q2 : List Int32} {q3 : List Int32} {q4 : List Int32} {q5 : List Int32} {q6 : List Int32} {q7 : List Int32} {q8 : List Int32} {q9 : List Int32} {q10 : List Int32} {q11 : List Int32} {q12 : List Int32} {q13 : Int32} {q14 : Int32} {q15 : Int32} {q16 : Int32} {q17 : Int32} {q18 : Int32} {q19 : Int32} {q20 : Int32} {R : AHeap} : (C1 q0 q1 q2 q3 q4 q5 q6 q7 q8 q9 q10 q11 q12 q13 q14 q15 q16 q17 q18 q19 q20 R)[11]? = some (.inr (.inl (1, q10))) := rfl
theorem own_s1_logBuffer {q0 : List Int32} {q1 : List Int32} {q2 : List Int32} {q3 : List Int32} {q4 : List Int32} {q5 : List Int32} {q6 : List Int32} {q7 : List Int32} {q8 : List Int32} {q9 : List Int32} {q10 : List Int32} {q11 : List Int32} {q12 : List Int32} {q13 : Int32} {q14 : Int32} {q15 : Int32} {q16 : Int32} {q17 : Int32} {q18 : Int32} {q19 : Int32} {q20 : Int32} {R : AHeap} {x : List Int32} : (C1 q0 q1 q2 q3 q4 q5 q6 q7 q8 q9 q10 q11 q12 q13 q14 q15 q16 q17 q18 q19 q20 R).set 11 (.inr (.inl (1, x))) = (C1 q0 q1 q2 q3 q4 q5 q6 q7 q8 q9 x q11 q12 q13 q14 q15 q16 q17 q18 q19 q20 R) := rfl
theorem own_g1_remap {q0 : List Int32} {q1 : List Int32} {q2 : List Int32} {q3 : List Int32} {q4 : List Int32} {q5 : List Int32} {q6 : List Int32} {q7 : List Int32} {q8 : List Int32} {q9 : List Int32} {q10 : List Int32} {q11 : List Int32} {q12 : List Int32} {q13 : Int32} {q14 : Int32} {q15 : Int32} {q16 : Int32} {q17 : Int32} {q18 : Int32} {q19 : Int32} {q20 : Int32} {R : AHeap} : getC (C1 q0 q1 q2 q3 q4 q5 q6 q7 q8 q9 q10 q11 q12 q13 q14 q15 q16 q17 q18 q19 q20 R) 0 11 = some (.ref 12) := rfl
theorem own_a1_remap {q0 : List Int32} {q1 : List Int32} {q2 : List Int32} {q3 : List Int32} {q4 : List Int32} {q5 : List Int32} {q6 : List Int32} {q7 : List Int32} {q8 : List Int32} {q9 : List Int32} {q10 : List Int32} {q11 : List Int32} {q12 : List Int32} {q13 : Int32} {q14 : Int32} {q15 : Int32} {q16 : Int32} {q17 : Int32} {q18 : Int32} {q19 : Int32} {q20 : Int32} {R : AHeap} : (C1 q0 q1 q2 q3 q4 q5 q6 q7 q8 q9 q10 q11 q12 q13 q14 q15 q16 q17 q18 q19 q20 R)[12]? = some (.inr (.inl (1, q11))) := rfl
theorem own_s1_remap {q0 : List Int32} {q1 : List Int32} {q2 : List Int32} {q3 : List Int32} {q4 : List Int32} {q5 : List Int32} {q6 : List Int32} {q7 : List Int32} {q8 : List Int32} {q9 : List Int32} {q10 : List Int32} {q11 : List Int32} {q12 : List Int32} {q13 : Int32} {q14 : Int32} {q15 : Int32} {q16 : Int32} {q17 : Int32} {q18 : Int32} {q19 : Int32} {q20 : Int32} {R : AHeap} {x : List Int32} : (C1 q0 q1 q2 q3 q4 q5 q6 q7 q8 q9 q10 q11 q12 q13 q14 q15 q16 q17 q18 q19 q20 R).set 12 (.inr (.inl (1, x))) = (C1 q0 q1 q2 q3 q4 q5 q6 q7 q8 q9 q10 x q12 q13 q14 q15 q16 q17 q18 q19 q20 R) := rfl
theorem own_g1_spareTaken {q0 : List Int32} {q1 : List Int32} {q2 : List Int32} {q3 : List Int32} {q4 : List Int32} {q5 : List Int32} {q6 : List Int32} {q7 : List Int32} {q8 : List Int32} {q9 : List Int32} {q10 : List Int32} {q11 : List Int32} {q12 : List Int32} {q13 : Int32} {q14 : Int32} {q15 : Int32} {q16 : Int32} {q17 : Int32} {q18 : Int32} {q19 : Int32} {q20 : Int32} {R : AHeap} : getC (C1 q0 q1 q2 q3 q4 q5 q6 q7 q8 q9 q10 q11 q12 q13 q14 q15 q16 q17 q18 q19 q20 R) 0 12 = some (.ref 13) := rfl
theorem own_a1_spareTaken {q0 : List Int32} {q1 : List Int32} {q2 : List Int32} {q3 : List Int32} {q4 : List Int32} {q5 : List Int32} {q6 : List Int32} {q7 : List Int32} {q8 : List Int32} {q9 : List Int32} {q10 : List Int32} {q11 : List Int32} {q12 : List Int32} {q13 : Int32} {q14 : Int32} {q15 : Int32} {q16 : Int32} {q17 : Int32} {q18 : Int32} {q19 : Int32} {q20 : Int32} {R : AHeap} : (C1 q0 q1 q2 q3 q4 q5 q6 q7 q8 q9 q10 q11 q12 q13 q14 q15 q16 q17 q18 q19 q20 R)[13]? = some (.inr (.inl (2, q12))) := rfl
theorem own_s1_spareTaken {q0 : List Int32} {q1 : List Int32} {q2 : List Int32} {q3 : List Int32} {q4 : List Int32} {q5 : List Int32} {q6 : List Int32} {q7 : List Int32} {q8 : List Int32} {q9 : List Int32} {q10 : List Int32} {q11 : List Int32} {q12 : List Int32} {q13 : Int32} {q14 : Int32} {q15 : Int32} {q16 : Int32} {q17 : Int32} {q18 : Int32} {q19 : Int32} {q20 : Int32} {R : AHeap} {x : List Int32} : (C1 q0 q1 q2 q3 q4 q5 q6 q7 q8 q9 q10 q11 q12 q13 q14 q15 q16 q17 q18 q19 q20 R).set 13 (.inr (.inl (2, x))) = (C1 q0 q1 q2 q3 q4 q5 q6 q7 q8 q9 q10 q11 x q13 q14 q15 q16 q17 q18 q19 q20 R) := rfl
theorem own_g1_spareRows {q0 : List Int32} {q1 : List Int32} {q2 : List Int32} {q3 : List Int32} {q4 : List Int32} {q5 : List Int32} {q6 : List Int32} {q7 : List Int32} {q8 : List Int32} {q9 : List Int32} {q10 : List Int32} {q11 : List Int32} {q12 : List Int32} {q13 : Int32} {q14 : Int32} {q15 : Int32} {q16 : Int32} {q17 : Int32} {q18 : Int32} {q19 : Int32} {q20 : Int32} {R : AHeap} : getC (C1 q0 q1 q2 q3 q4 q5 q6 q7 q8 q9 q10 q11 q12 q13 q14 q15 q16 q17 q18 q19 q20 R) 0 13 = some (.int q13) := rfl
theorem own_p1_spareRows {q0 : List Int32} {q1 : List Int32} {q2 : List Int32} {q3 : List Int32} {q4 : List Int32} {q5 : List Int32} {q6 : List Int32} {q7 : List Int32} {q8 : List Int32} {q9 : List Int32} {q10 : List Int32} {q11 : List Int32} {q12 : List Int32} {q13 : Int32} {q14 : Int32} {q15 : Int32} {q16 : Int32} {q17 : Int32} {q18 : Int32} {q19 : Int32} {q20 : Int32} {R : AHeap} {k : Nat} {x : Int32} : putC own_P k (C1 q0 q1 q2 q3 q4 q5 q6 q7 q8 q9 q10 q11 q12 q13 q14 q15 q16 q17 q18 q19 q20 R) 0 13 (.int x) = some (C1 q0 q1 q2 q3 q4 q5 q6 q7 q8 q9 q10 q11 q12 x q14 q15 q16 q17 q18 q19 q20 R) := rfl
theorem own_g1_faultLimit {q0 : List Int32} {q1 : List Int32} {q2 : List Int32} {q3 : List Int32} {q4 : List Int32} {q5 : List Int32} {q6 : List Int32} {q7 : List Int32} {q8 : List Int32} {q9 : List Int32} {q10 : List Int32} {q11 : List Int32} {q12 : List Int32} {q13 : Int32} {q14 : Int32} {q15 : Int32} {q16 : Int32} {q17 : Int32} {q18 : Int32} {q19 : Int32} {q20 : Int32} {R : AHeap} : getC (C1 q0 q1 q2 q3 q4 q5 q6 q7 q8 q9 q10 q11 q12 q13 q14 q15 q16 q17 q18 q19 q20 R) 0 14 = some (.int q14) := rfl
theorem own_p1_faultLimit {q0 : List Int32} {q1 : List Int32} {q2 : List Int32} {q3 : List Int32} {q4 : List Int32} {q5 : List Int32} {q6 : List Int32} {q7 : List Int32} {q8 : List Int32} {q9 : List Int32} {q10 : List Int32} {q11 : List Int32} {q12 : List Int32} {q13 : Int32} {q14 : Int32} {q15 : Int32} {q16 : Int32} {q17 : Int32} {q18 : Int32} {q19 : Int32} {q20 : Int32} {R : AHeap} {k : Nat} {x : Int32} : putC own_P k (C1 q0 q1 q2 q3 q4 q5 q6 q7 q8 q9 q10 q11 q12 q13 q14 q15 q16 q17 q18 q19 q20 R) 0 14 (.int x) = some (C1 q0 q1 q2 q3 q4 q5 q6 q7 q8 q9 q10 q11 q12 q13 x q15 q16 q17 q18 q19 q20 R) := rfl
theorem own_g1_logLimit {q0 : List Int32} {q1 : List Int32} {q2 : List Int32} {q3 : List Int32} {q4 : List Int32} {q5 : List Int32} {q6 : List Int32} {q7 : List Int32} {q8 : List Int32} {q9 : List Int32} {q10 : List Int32} {q11 : List Int32} {q12 : List Int32} {q13 : Int32} {q14 : Int32} {q15 : Int32} {q16 : Int32} {q17 : Int32} {q18 : Int32} {q19 : Int32} {q20 : Int32} {R : AHeap} : getC (C1 q0 q1 q2 q3 q4 q5 q6 q7 q8 q9 q10 q11 q12 q13 q14 q15 q16 q17 q18 q19 q20 R) 0 15 = some (.int q15) := rfl
theorem own_p1_logLimit {q0 : List Int32} {q1 : List Int32} {q2 : List Int32} {q3 : List Int32} {q4 : List Int32} {q5 : List Int32} {q6 : List Int32} {q7 : List Int32} {q8 : List Int32} {q9 : List Int32} {q10 : List Int32} {q11 : List Int32} {q12 : List Int32} {q13 : Int32} {q14 : Int32} {q15 : Int32} {q16 : Int32} {q17 : Int32} {q18 : Int32} {q19 : Int32} {q20 : Int32} {R : AHeap} {k : Nat} {x : Int32} : putC own_P k (C1 q0 q1 q2 q3 q4 q5 q6 q7 q8 q9 q10 q11 q12 q13 q14 q15 q16 q17 q18 q19 q20 R) 0 15 (.int x) = some (C1 q0 q1 q2 q3 q4 q5 q6 q7 q8 q9 q10 q11 q12 q13 q14 x q16 q17 q18 q19 q20 R) := rfl
theorem own_g1_latchBit {q0 : List Int32} {q1 : List Int32} {q2 : List Int32} {q3 : List Int32} {q4 : List Int32} {q5 : List Int32} {q6 : List Int32} {q7 : List Int32} {q8 : List Int32} {q9 : List Int32} {q10 : List Int32} {q11 : List Int32} {q12 : List Int32} {q13 : Int32} {q14 : Int32} {q15 : Int32} {q16 : Int32} {q17 : Int32} {q18 : Int32} {q19 : Int32} {q20 : Int32} {R : AHeap} : getC (C1 q0 q1 q2 q3 q4 q5 q6 q7 q8 q9 q10 q11 q12 q13 q14 q15 q16 q17 q18 q19 q20 R) 0 16 = some (.int q16) := rfl
theorem own_p1_latchBit {q0 : List Int32} {q1 : List Int32} {q2 : List Int32} {q3 : List Int32} {q4 : List Int32} {q5 : List Int32} {q6 : List Int32} {q7 : List Int32} {q8 : List Int32} {q9 : List Int32} {q10 : List Int32} {q11 : List Int32} {q12 : List Int32} {q13 : Int32} {q14 : Int32} {q15 : Int32} {q16 : Int32} {q17 : Int32} {q18 : Int32} {q19 : Int32} {q20 : Int32} {R : AHeap} {k : Nat} {x : Int32} : putC own_P k (C1 q0 q1 q2 q3 q4 q5 q6 q7 q8 q9 q10 q11 q12 q13 q14 q15 q16 q17 q18 q19 q20 R) 0 16 (.int x) = some (C1 q0 q1 q2 q3 q4 q5 q6 q7 q8 q9 q10 q11 q12 q13 q14 q15 x q17 q18 q19 q20 R) := rfl
theorem own_g1_faultCount {q0 : List Int32} {q1 : List Int32} {q2 : List Int32} {q3 : List Int32} {q4 : List Int32} {q5 : List Int32} {q6 : List Int32} {q7 : List Int32} {q8 : List Int32} {q9 : List Int32} {q10 : List Int32} {q11 : List Int32} {q12 : List Int32} {q13 : Int32} {q14 : Int32} {q15 : Int32} {q16 : Int32} {q17 : Int32} {q18 : Int32} {q19 : Int32} {q20 : Int32} {R : AHeap} : getC (C1 q0 q1 q2 q3 q4 q5 q6 q7 q8 q9 q10 q11 q12 q13 q14 q15 q16 q17 q18 q19 q20 R) 0 17 = some (.int q17) := rfl
theorem own_p1_faultCount {q0 : List Int32} {q1 : List Int32} {q2 : List Int32} {q3 : List Int32} {q4 : List Int32} {q5 : List Int32} {q6 : List Int32} {q7 : List Int32} {q8 : List Int32} {q9 : List Int32} {q10 : List Int32} {q11 : List Int32} {q12 : List Int32} {q13 : Int32} {q14 : Int32} {q15 : Int32} {q16 : Int32} {q17 : Int32} {q18 : Int32} {q19 : Int32} {q20 : Int32} {R : AHeap} {k : Nat} {x : Int32} : putC own_P k (C1 q0 q1 q2 q3 q4 q5 q6 q7 q8 q9 q10 q11 q12 q13 q14 q15 q16 q17 q18 q19 q20 R) 0 17 (.int x) = some (C1 q0 q1 q2 q3 q4 q5 q6 q7 q8 q9 q10 q11 q12 q13 q14 q15 q16 x q18 q19 q20 R) := rfl
theorem own_g1_programLength {q0 : List Int32} {q1 : List Int32} {q2 : List Int32} {q3 : List Int32} {q4 : List Int32} {q5 : List Int32} {q6 : List Int32} {q7 : List Int32} {q8 : List Int32} {q9 : List Int32} {q10 : List Int32} {q11 : List Int32} {q12 : List Int32} {q13 : Int32} {q14 : Int32} {q15 : Int32} {q16 : Int32} {q17 : Int32} {q18 : Int32} {q19 : Int32} {q20 : Int32} {R : AHeap} : getC (C1 q0 q1 q2 q3 q4 q5 q6 q7 q8 q9 q10 q11 q12 q13 q14 q15 q16 q17 q18 q19 q20 R) 0 18 = some (.int q18) := rfl
theorem own_p1_programLength {q0 : List Int32} {q1 : List Int32} {q2 : List Int32} {q3 : List Int32} {q4 : List Int32} {q5 : List Int32} {q6 : List Int32} {q7 : List Int32} {q8 : List Int32} {q9 : List Int32} {q10 : List Int32} {q11 : List Int32} {q12 : List Int32} {q13 : Int32} {q14 : Int32} {q15 : Int32} {q16 : Int32} {q17 : Int32} {q18 : Int32} {q19 : Int32} {q20 : Int32} {R : AHeap} {k : Nat} {x : Int32} : putC own_P k (C1 q0 q1 q2 q3 q4 q5 q6 q7 q8 q9 q10 q11 q12 q13 q14 q15 q16 q17 q18 q19 q20 R) 0 18 (.int x) = some (C1 q0 q1 q2 q3 q4 q5 q6 q7 q8 q9 q10 q11 q12 q13 q14 q15 q16 q17 x q19 q20 R) := rfl
theorem own_g1_logLength {q0 : List Int32} {q1 : List Int32} {q2 : List Int32} {q3 : List Int32} {q4 : List Int32} {q5 : List Int32} {q6 : List Int32} {q7 : List Int32} {q8 : List Int32} {q9 : List Int32} {q10 : List Int32} {q11 : List Int32} {q12 : List Int32} {q13 : Int32} {q14 : Int32} {q15 : Int32} {q16 : Int32} {q17 : Int32} {q18 : Int32} {q19 : Int32} {q20 : Int32} {R : AHeap} : getC (C1 q0 q1 q2 q3 q4 q5 q6 q7 q8 q9 q10 q11 q12 q13 q14 q15 q16 q17 q18 q19 q20 R) 0 19 = some (.int q19) := rfl
theorem own_p1_logLength {q0 : List Int32} {q1 : List Int32} {q2 : List Int32} {q3 : List Int32} {q4 : List Int32} {q5 : List Int32} {q6 : List Int32} {q7 : List Int32} {q8 : List Int32} {q9 : List Int32} {q10 : List Int32} {q11 : List Int32} {q12 : List Int32} {q13 : Int32} {q14 : Int32} {q15 : Int32} {q16 : Int32} {q17 : Int32} {q18 : Int32} {q19 : Int32} {q20 : Int32} {R : AHeap} {k : Nat} {x : Int32} : putC own_P k (C1 q0 q1 q2 q3 q4 q5 q6 q7 q8 q9 q10 q11 q12 q13 q14 q15 q16 q17 q18 q19 q20 R) 0 19 (.int x) = some (C1 q0 q1 q2 q3 q4 q5 q6 q7 q8 q9 q10 q11 q12 q13 q14 q15 q16 q17 q18 x q20 R) := rfl
theorem own_g1_failMask {q0 : List Int32} {q1 : List Int32} {q2 : List Int32} {q3 : List Int32} {q4 : List Int32} {q5 : List Int32} {q6 : List Int32} {q7 : List Int32} {q8 : List Int32} {q9 : List Int32} {q10 : List Int32} {q11 : List Int32} {q12 : List Int32} {q13 : Int32} {q14 : Int32} {q15 : Int32} {q16 : Int32} {q17 : Int32} {q18 : Int32} {q19 : Int32} {q20 : Int32} {R : AHeap} : getC (C1 q0 q1 q2 q3 q4 q5 q6 q7 q8 q9 q10 q11 q12 q13 q14 q15 q16 q17 q18 q19 q20 R) 0 20 = some (.int q20) := rfl
theorem own_p1_failMask {q0 : List Int32} {q1 : List Int32} {q2 : List Int32} {q3 : List Int32} {q4 : List Int32} {q5 : List Int32} {q6 : List Int32} {q7 : List Int32} {q8 : List Int32} {q9 : List Int32} {q10 : List Int32} {q11 : List Int32} {q12 : List Int32} {q13 : Int32} {q14 : Int32} {q15 : Int32} {q16 : Int32} {q17 : Int32} {q18 : Int32} {q19 : Int32} {q20 : Int32} {R : AHeap} {k : Nat} {x : Int32} : putC own_P k (C1 q0 q1 q2 q3 q4 q5 q6 q7 q8 q9 q10 q11 q12 q13 q14 q15 q16 q17 q18 q19 q20 R) 0 20 (.int x) = some (C1 q0 q1 q2 q3 q4 q5 q6 q7 q8 q9 q10 q11 q12 q13 q14 q15 q16 q17 q18 q19 x R) := rfl
def Q.len (s : Q) : List Nat := [s.f_cells.length, s.f_faultKind.length, s.f_faultVictim.length, s.f_faultAggressor.length, s.f_faultTrigger.length, s.f_victimSlot.length, s.f_aggressorUses.length, s.f_elementOrder.length, s.f_elementCount.length, s.f_elementOps.length, s.f_logBuffer.length, s.f_remap.length, s.f_spareTaken.length]
theorem own_lenmk {q0 : List Int32} {q1 : List Int32} {q2 : List Int32} {q3 : List Int32} {q4 : List Int32} {q5 : List Int32} {q6 : List Int32} {q7 : List Int32} {q8 : List Int32} {q9 : List Int32} {q10 : List Int32} {q11 : List Int32} {q12 : List Int32} {q13 : Int32} {q14 : Int32} {q15 : Int32} {q16 : Int32} {q17 : Int32} {q18 : Int32} {q19 : Int32} {q20 : Int32} : (Q.mk q0 q1 q2 q3 q4 q5 q6 q7 q8 q9 q10 q11 q12 q13 q14 q15 q16 q17 q18 q19 q20).len = [q0.length, q1.length, q2.length, q3.length, q4.length, q5.length, q6.length, q7.length, q8.length, q9.length, q10.length, q11.length, q12.length] := by have _h := trivial; exact rfl
theorem own_objN : own_P.objN = 21 := rfl
theorem own_mk1 {q0 : List Int32} {q1 : List Int32} {q2 : List Int32} {q3 : List Int32} {q4 : List Int32} {q5 : List Int32} {q6 : List Int32} {q7 : List Int32} {q8 : List Int32} {q9 : List Int32} {q10 : List Int32} {q11 : List Int32} {q12 : List Int32} {q13 : Int32} {q14 : Int32} {q15 : Int32} {q16 : Int32} {q17 : Int32} {q18 : Int32} {q19 : Int32} {q20 : Int32} {R : AHeap} : W1 (Q.mk q0 q1 q2 q3 q4 q5 q6 q7 q8 q9 q10 q11 q12 q13 q14 q15 q16 q17 q18 q19 q20) R = C1 q0 q1 q2 q3 q4 q5 q6 q7 q8 q9 q10 q11 q12 q13 q14 q15 q16 q17 q18 q19 q20 R := rfl
def j_clamp (v1 : Int32) (v2 : Int32) (v3 : Int32) : Int32 := (if v1 < v2 then (v2) else (if v3 < v1 then (v3) else (v1)))
set_option maxRecDepth 100000 in
theorem ev_j_clamp (H : AHeap) (a : Nat) (v1 : Int32) (v2 : Int32) (v3 : Int32) {res : Int32} {out : Option Value × AHeap} (h : j_clamp v1 v2 v3 = res) (hk : out = (some (.int res), H)) : Eval own_P 2 0 [some (.ref a), some (.int v1), some (.int v2), some (.int v3)] [] H out := by
  rw [j_clamp] at h
  refine Eval.iload_n rfl rfl ?_
  refine Eval.iload_n rfl rfl ?_
  by_cases hc1 : v1 < v2
  · rw [if_pos hc1] at h
    refine Eval.icmpF rfl (tlt hc1).2.1 ?_
    refine Eval.iload_n rfl rfl ?_
    subst h
    subst hk
    exact Eval.ret rfl rfl
  · rw [if_neg hc1] at h
    refine Eval.icmpT (t := 7) rfl rfl (flt hc1).2.1 ?_
    refine Eval.iload_n rfl rfl ?_
    refine Eval.iload_n rfl rfl ?_
    by_cases hc2 : v3 < v1
    · rw [if_pos hc2] at h
      refine Eval.icmpF rfl (tlt hc2).2.2.2 ?_
      refine Eval.iload_n rfl rfl ?_
      subst h
      subst hk
      exact Eval.ret rfl rfl
    · rw [if_neg hc2] at h
      refine Eval.icmpT (t := 14) rfl rfl (flt hc2).2.2.2 ?_
      refine Eval.iload_n rfl rfl ?_
      subst h
      subst hk
      exact Eval.ret rfl rfl
abbrev j_init_l148_K (res : Q) (out : Option Value × AHeap) : Prop := Eval own_P 1 169 [some (.ref 0), none, none, none, none] [] (W1 res []) out

abbrev j_init_l148_N (s : Q) (res : Q) : Prop := Q.len res = Q.len s
def j_init_l148 : Nat → Q → Int32 → Option (Q)
  | 0, _, _ => none
  | n + 1, s, v4 => (if v4 < (16 : Int32) then (if inb s.f_remap.length v4 = true then (j_init_l148 n (Q.mk s.f_cells s.f_faultKind s.f_faultVictim s.f_faultAggressor s.f_faultTrigger s.f_victimSlot s.f_aggressorUses s.f_elementOrder s.f_elementCount s.f_elementOps s.f_logBuffer (wr s.f_remap v4 (-1 : Int32)) s.f_spareTaken s.f_spareRows s.f_faultLimit s.f_logLimit s.f_latchBit s.f_faultCount s.f_programLength s.f_logLength s.f_failMask) (v4 + (1 : Int32))) else none) else some (s))
theorem ln_j_init_l148 : ∀ {n : Nat} {s : Q} {v4 : Int32} {res : Q}, j_init_l148 n s v4 = some res → j_init_l148_N s res := by
  intro n
  induction n with
  | zero => intro _ _ res h; cases h
  | succ n hrec0 =>
    have hrec : ∀ (s : Q) (v4 : Int32) {res : Q}, j_init_l148 n s v4 = some res → j_init_l148_N s res := by intros; apply hrec0; assumption
    intro s v4 res h
    rw [j_init_l148] at h
    by_cases hc3 : v4 < (16 : Int32)
    · rw [if_pos hc3] at h
      obtain ⟨hb4, h⟩ := ite_some h
      exact (hrec _ _ h).trans (Eq.trans (show Q.len (Q.mk s.f_cells s.f_faultKind s.f_faultVictim s.f_faultAggressor s.f_faultTrigger s.f_victimSlot s.f_aggressorUses s.f_elementOrder s.f_elementCount s.f_elementOps s.f_logBuffer (wr s.f_remap v4 (-1 : Int32)) s.f_spareTaken s.f_spareRows s.f_faultLimit s.f_logLimit s.f_latchBit s.f_faultCount s.f_programLength s.f_logLength s.f_failMask) = Q.len s from own_lenmk.trans (by first | (simp only [len_wr, len_wrL] <;> rfl) | rfl)) rfl)
    · rw [if_neg hc3] at h
      have hr0 := Option.some.inj h
      subst hr0
      show Q.len s = _
      exact rfl
set_option maxRecDepth 100000 in
theorem ev_j_init_l148 : ∀ (n : Nat) (s : Q) (v4 : Int32) {res : Q} {out : Option Value × AHeap}, j_init_l148 n s v4 = some res → j_init_l148_K res out → Eval own_P 1 148 [some (.ref 0), none, none, none, some (.int v4)] [] (W1 s []) out := by
  intro n
  induction n with
  | zero => intro _ _ res out h hk; cases h
  | succ n hrec =>
    intro s v4 res out h hk
    rw [j_init_l148] at h
    refine Eval.iload rfl rfl ?_
    refine Eval.bipush (x := (16 : Int32)) rfl rfl ?_
    by_cases hc3 : v4 < (16 : Int32)
    · rw [if_pos hc3] at h
      refine Eval.icmpF rfl (tlt hc3).2.1 ?_
      refine Eval.aload_n rfl rfl ?_
      refine Eval.getfield rfl rfl own_g1_remap ?_
      refine Eval.iload rfl rfl ?_
      refine Eval.iconst (x := (-1 : Int32)) rfl rfl ?_
      obtain ⟨hb4, h⟩ := ite_some h
      refine Eval.iastore rfl rfl own_a1_remap hb4 own_s1_remap ?_
      refine Eval.iinc (L' := [some (.ref 0), none, none, none, some (.int (v4 + (1 : Int32)))]) rfl rfl rfl ?_
      refine Eval.goto (t := 148) rfl rfl ?_
      refine Eval.heap own_mk1 ?_
      exact hrec _ _ h hk
    · rw [if_neg hc3] at h
      refine Eval.icmpT (t := 169) rfl rfl (flt hc3).2.1 ?_
      cases h
      refine Eval.weak (L' := [some (.ref 0), none, none, none, none]) ⟨_, _, rfl, Or.inr rfl, _, _, rfl, Or.inl rfl, _, _, rfl, Or.inl rfl, _, _, rfl, Or.inl rfl, _, _, rfl, Or.inl rfl, rfl⟩ ?_
      exact hk
def j_init_b110 (s : Q) (v1 : Int32) (v2 : Int32) (v3 : Int32) : Option (Q) := ((j_init_l148 3000 (Q.mk s.f_cells s.f_faultKind s.f_faultVictim s.f_faultAggressor s.f_faultTrigger s.f_victimSlot s.f_aggressorUses s.f_elementOrder s.f_elementCount s.f_elementOps s.f_logBuffer s.f_remap s.f_spareTaken (j_clamp v1 (0 : Int32) (4 : Int32)) (j_clamp v2 (1 : Int32) (16 : Int32)) (j_clamp v3 (1 : Int32) (32 : Int32)) s.f_latchBit s.f_faultCount s.f_programLength s.f_logLength s.f_failMask) (0 : Int32)).bind fun p5 => some ((Q.mk p5.f_cells p5.f_faultKind p5.f_faultVictim p5.f_faultAggressor p5.f_faultTrigger p5.f_victimSlot p5.f_aggressorUses p5.f_elementOrder p5.f_elementCount p5.f_elementOps p5.f_logBuffer p5.f_remap p5.f_spareTaken p5.f_spareRows p5.f_faultLimit p5.f_logLimit (0 : Int32) (0 : Int32) (0 : Int32) (0 : Int32) (0 : Int32))))
theorem ln_j_init_b110 {s : Q} {v1 : Int32} {v2 : Int32} {v3 : Int32} {res : Q} (h : j_init_b110 s v1 v2 v3 = some res) : Q.len res = Q.len s := by
  rw [j_init_b110] at h
  obtain ⟨p5, hq6, h⟩ := bind_some h
  have hl7 : Q.len p5 = _ := Eq.trans (ln_j_init_l148 hq6) (Eq.trans (show Q.len (Q.mk s.f_cells s.f_faultKind s.f_faultVictim s.f_faultAggressor s.f_faultTrigger s.f_victimSlot s.f_aggressorUses s.f_elementOrder s.f_elementCount s.f_elementOps s.f_logBuffer s.f_remap s.f_spareTaken (j_clamp v1 (0 : Int32) (4 : Int32)) (j_clamp v2 (1 : Int32) (16 : Int32)) (j_clamp v3 (1 : Int32) (32 : Int32)) s.f_latchBit s.f_faultCount s.f_programLength s.f_logLength s.f_failMask) = Q.len s from own_lenmk.trans (by first | (simp only [len_wr, len_wrL] <;> rfl) | rfl)) rfl)
  have hr0 := Option.some.inj h
  subst hr0
  show Q.len (Q.mk p5.f_cells p5.f_faultKind p5.f_faultVictim p5.f_faultAggressor p5.f_faultTrigger p5.f_victimSlot p5.f_aggressorUses p5.f_elementOrder p5.f_elementCount p5.f_elementOps p5.f_logBuffer p5.f_remap p5.f_spareTaken p5.f_spareRows p5.f_faultLimit p5.f_logLimit (0 : Int32) (0 : Int32) (0 : Int32) (0 : Int32) (0 : Int32)) = _
  exact (Eq.trans (show Q.len (Q.mk p5.f_cells p5.f_faultKind p5.f_faultVictim p5.f_faultAggressor p5.f_faultTrigger p5.f_victimSlot p5.f_aggressorUses p5.f_elementOrder p5.f_elementCount p5.f_elementOps p5.f_logBuffer p5.f_remap p5.f_spareTaken p5.f_spareRows p5.f_faultLimit p5.f_logLimit (0 : Int32) (0 : Int32) (0 : Int32) (0 : Int32) (0 : Int32)) = Q.len p5 from own_lenmk.trans (by first | (simp only [len_wr, len_wrL] <;> rfl) | rfl)) hl7)
set_option maxRecDepth 100000 in
theorem ev_j_init_b110 (s : Q) (v1 : Int32) (v2 : Int32) (v3 : Int32) {res : Q} {out : Option Value × AHeap} (h : j_init_b110 s v1 v2 v3 = some res) (hk : out = (none, (W1 res []))) : Eval own_P 1 110 [some (.ref 0), some (.int v1), some (.int v2), some (.int v3), none] [] (W1 s []) out := by
  rw [j_init_b110] at h
  refine Eval.aload_n rfl rfl ?_
  refine Eval.aload_n rfl rfl ?_
  refine Eval.iload_n rfl rfl ?_
  refine Eval.iconst (x := (0 : Int32)) rfl rfl ?_
  refine Eval.iconst (x := (4 : Int32)) rfl rfl ?_
  refine Eval.callI (rest := [.ref 0]) (x := (j_clamp v1 (0 : Int32) (4 : Int32))) (H1 := (W1 s [])) rfl rfl (ev_j_clamp (W1 s []) 0 v1 (0 : Int32) (4 : Int32) rfl rfl) ?_
  refine Eval.putfield rfl rfl own_p1_spareRows ?_
  refine Eval.aload_n rfl rfl ?_
  refine Eval.aload_n rfl rfl ?_
  refine Eval.iload_n rfl rfl ?_
  refine Eval.iconst (x := (1 : Int32)) rfl rfl ?_
  refine Eval.bipush (x := (16 : Int32)) rfl rfl ?_
  refine Eval.callI (rest := [.ref 0]) (x := (j_clamp v2 (1 : Int32) (16 : Int32))) (H1 := (C1 s.f_cells s.f_faultKind s.f_faultVictim s.f_faultAggressor s.f_faultTrigger s.f_victimSlot s.f_aggressorUses s.f_elementOrder s.f_elementCount s.f_elementOps s.f_logBuffer s.f_remap s.f_spareTaken (j_clamp v1 (0 : Int32) (4 : Int32)) s.f_faultLimit s.f_logLimit s.f_latchBit s.f_faultCount s.f_programLength s.f_logLength s.f_failMask [])) rfl rfl (ev_j_clamp (C1 s.f_cells s.f_faultKind s.f_faultVictim s.f_faultAggressor s.f_faultTrigger s.f_victimSlot s.f_aggressorUses s.f_elementOrder s.f_elementCount s.f_elementOps s.f_logBuffer s.f_remap s.f_spareTaken (j_clamp v1 (0 : Int32) (4 : Int32)) s.f_faultLimit s.f_logLimit s.f_latchBit s.f_faultCount s.f_programLength s.f_logLength s.f_failMask []) 0 v2 (1 : Int32) (16 : Int32) rfl rfl) ?_
  refine Eval.putfield rfl rfl own_p1_faultLimit ?_
  refine Eval.aload_n rfl rfl ?_
  refine Eval.aload_n rfl rfl ?_
  refine Eval.iload_n rfl rfl ?_
  refine Eval.iconst (x := (1 : Int32)) rfl rfl ?_
  refine Eval.bipush (x := (32 : Int32)) rfl rfl ?_
  refine Eval.callI (rest := [.ref 0]) (x := (j_clamp v3 (1 : Int32) (32 : Int32))) (H1 := (C1 s.f_cells s.f_faultKind s.f_faultVictim s.f_faultAggressor s.f_faultTrigger s.f_victimSlot s.f_aggressorUses s.f_elementOrder s.f_elementCount s.f_elementOps s.f_logBuffer s.f_remap s.f_spareTaken (j_clamp v1 (0 : Int32) (4 : Int32)) (j_clamp v2 (1 : Int32) (16 : Int32)) s.f_logLimit s.f_latchBit s.f_faultCount s.f_programLength s.f_logLength s.f_failMask [])) rfl rfl (ev_j_clamp (C1 s.f_cells s.f_faultKind s.f_faultVictim s.f_faultAggressor s.f_faultTrigger s.f_victimSlot s.f_aggressorUses s.f_elementOrder s.f_elementCount s.f_elementOps s.f_logBuffer s.f_remap s.f_spareTaken (j_clamp v1 (0 : Int32) (4 : Int32)) (j_clamp v2 (1 : Int32) (16 : Int32)) s.f_logLimit s.f_latchBit s.f_faultCount s.f_programLength s.f_logLength s.f_failMask []) 0 v3 (1 : Int32) (32 : Int32) rfl rfl) ?_
  refine Eval.putfield rfl rfl own_p1_logLimit ?_
  refine Eval.iconst (x := (0 : Int32)) rfl rfl ?_
  refine Eval.istore (L' := [some (.ref 0), some (.int v1), some (.int v2), some (.int v3), some (.int (0 : Int32))]) rfl rfl ?_
  refine Eval.heap own_mk1 ?_
  refine Eval.weak (L' := [some (.ref 0), none, none, none, some (.int (0 : Int32))]) ⟨_, _, rfl, Or.inr rfl, _, _, rfl, Or.inl rfl, _, _, rfl, Or.inl rfl, _, _, rfl, Or.inl rfl, _, _, rfl, Or.inr rfl, rfl⟩ ?_
  obtain ⟨p5, hq6, h⟩ := bind_some h
  refine ev_j_init_l148 _ (Q.mk s.f_cells s.f_faultKind s.f_faultVictim s.f_faultAggressor s.f_faultTrigger s.f_victimSlot s.f_aggressorUses s.f_elementOrder s.f_elementCount s.f_elementOps s.f_logBuffer s.f_remap s.f_spareTaken (j_clamp v1 (0 : Int32) (4 : Int32)) (j_clamp v2 (1 : Int32) (16 : Int32)) (j_clamp v3 (1 : Int32) (32 : Int32)) s.f_latchBit s.f_faultCount s.f_programLength s.f_logLength s.f_failMask) (0 : Int32) hq6 ?_
  show Eval own_P 1 169 [some (.ref 0), none, none, none, none] [] (W1 p5 []) out
  refine Eval.aload_n rfl rfl ?_
  refine Eval.iconst (x := (0 : Int32)) rfl rfl ?_
  refine Eval.putfield rfl rfl own_p1_latchBit ?_
  refine Eval.aload_n rfl rfl ?_
  refine Eval.iconst (x := (0 : Int32)) rfl rfl ?_
  refine Eval.putfield rfl rfl own_p1_faultCount ?_
  refine Eval.aload_n rfl rfl ?_
  refine Eval.iconst (x := (0 : Int32)) rfl rfl ?_
  refine Eval.putfield rfl rfl own_p1_programLength ?_
  refine Eval.aload_n rfl rfl ?_
  refine Eval.iconst (x := (0 : Int32)) rfl rfl ?_
  refine Eval.putfield rfl rfl own_p1_logLength ?_
  refine Eval.aload_n rfl rfl ?_
  refine Eval.iconst (x := (0 : Int32)) rfl rfl ?_
  refine Eval.putfield rfl rfl own_p1_failMask ?_
  cases h
  subst hk
  exact Eval.retH own_mk1 rfl rfl
def j_init (v1 : Int32) (v2 : Int32) (v3 : Int32) : Option (Q) := (j_init_b110 Q0 v1 v2 v3)
theorem ln_j_init {v1 : Int32} {v2 : Int32} {v3 : Int32} {res : Q} (h : j_init v1 v2 v3 = some res) : Q.len res = Q.len Q0 := by
  rw [j_init] at h
  exact Eq.trans (ln_j_init_b110 h) rfl
set_option maxRecDepth 100000 in
theorem ev_j_init (v1 : Int32) (v2 : Int32) (v3 : Int32) {res : Q} {out : Option Value × AHeap} (h : j_init v1 v2 v3 = some res) (hk : out = (none, (W1 res []))) : Eval own_P 1 0 [some (.ref 0), some (.int v1), some (.int v2), some (.int v3), none] [] (W0 [.inl [.null, .null, .null, .null, .null, .null, .null, .null, .null, .null, .null, .null, .null, .int (0 : Int32), .int (0 : Int32), .int (0 : Int32), .int (0 : Int32), .int (0 : Int32), .int (0 : Int32), .int (0 : Int32), .int (0 : Int32)]]) out := by
  rw [j_init] at h
  refine Eval.aload_n rfl rfl ?_
  refine Eval.objInit rfl rfl ?_
  refine Eval.aload_n rfl rfl ?_
  refine Eval.sipush (x := (320 : Int32)) rfl rfl ?_
  refine Eval.newarray (z := 21) (N := 320) (a := 1) (H1 := (W0 [.inl [.null, .null, .null, .null, .null, .null, .null, .null, .null, .null, .null, .null, .null, .int (0 : Int32), .int (0 : Int32), .int (0 : Int32), .int (0 : Int32), .int (0 : Int32), .int (0 : Int32), .int (0 : Int32), .int (0 : Int32)], .inr (.inl (3, List.replicate 320 0))])) rfl rfl rfl rfl rfl (by decide) (by decide) (by unfold W0; simp only [hsz, csz, own_objN, List.length_replicate]) (by decide) rfl ?_
  refine Eval.putfield (H1 := (W0 [.inl [.ref 1, .null, .null, .null, .null, .null, .null, .null, .null, .null, .null, .null, .null, .int (0 : Int32), .int (0 : Int32), .int (0 : Int32), .int (0 : Int32), .int (0 : Int32), .int (0 : Int32), .int (0 : Int32), .int (0 : Int32)], .inr (.inl (3, List.replicate 320 0))])) rfl rfl rfl ?_
  refine Eval.aload_n rfl rfl ?_
  refine Eval.bipush (x := (16 : Int32)) rfl rfl ?_
  refine Eval.newarray (z := 341) (N := 16) (a := 2) (H1 := (W0 [.inl [.ref 1, .null, .null, .null, .null, .null, .null, .null, .null, .null, .null, .null, .null, .int (0 : Int32), .int (0 : Int32), .int (0 : Int32), .int (0 : Int32), .int (0 : Int32), .int (0 : Int32), .int (0 : Int32), .int (0 : Int32)], .inr (.inl (3, List.replicate 320 0)), .inr (.inl (1, List.replicate 16 0))])) rfl rfl rfl rfl rfl (by decide) (by decide) (by unfold W0; simp only [hsz, csz, own_objN, List.length_replicate]) (by decide) rfl ?_
  refine Eval.putfield (H1 := (W0 [.inl [.ref 1, .ref 2, .null, .null, .null, .null, .null, .null, .null, .null, .null, .null, .null, .int (0 : Int32), .int (0 : Int32), .int (0 : Int32), .int (0 : Int32), .int (0 : Int32), .int (0 : Int32), .int (0 : Int32), .int (0 : Int32)], .inr (.inl (3, List.replicate 320 0)), .inr (.inl (1, List.replicate 16 0))])) rfl rfl rfl ?_
  refine Eval.aload_n rfl rfl ?_
  refine Eval.bipush (x := (16 : Int32)) rfl rfl ?_
  refine Eval.newarray (z := 357) (N := 16) (a := 3) (H1 := (W0 [.inl [.ref 1, .ref 2, .null, .null, .null, .null, .null, .null, .null, .null, .null, .null, .null, .int (0 : Int32), .int (0 : Int32), .int (0 : Int32), .int (0 : Int32), .int (0 : Int32), .int (0 : Int32), .int (0 : Int32), .int (0 : Int32)], .inr (.inl (3, List.replicate 320 0)), .inr (.inl (1, List.replicate 16 0)), .inr (.inl (1, List.replicate 16 0))])) rfl rfl rfl rfl rfl (by decide) (by decide) (by unfold W0; simp only [hsz, csz, own_objN, List.length_replicate]) (by decide) rfl ?_
  refine Eval.putfield (H1 := (W0 [.inl [.ref 1, .ref 2, .ref 3, .null, .null, .null, .null, .null, .null, .null, .null, .null, .null, .int (0 : Int32), .int (0 : Int32), .int (0 : Int32), .int (0 : Int32), .int (0 : Int32), .int (0 : Int32), .int (0 : Int32), .int (0 : Int32)], .inr (.inl (3, List.replicate 320 0)), .inr (.inl (1, List.replicate 16 0)), .inr (.inl (1, List.replicate 16 0))])) rfl rfl rfl ?_
  refine Eval.aload_n rfl rfl ?_
  refine Eval.bipush (x := (16 : Int32)) rfl rfl ?_
  refine Eval.newarray (z := 373) (N := 16) (a := 4) (H1 := (W0 [.inl [.ref 1, .ref 2, .ref 3, .null, .null, .null, .null, .null, .null, .null, .null, .null, .null, .int (0 : Int32), .int (0 : Int32), .int (0 : Int32), .int (0 : Int32), .int (0 : Int32), .int (0 : Int32), .int (0 : Int32), .int (0 : Int32)], .inr (.inl (3, List.replicate 320 0)), .inr (.inl (1, List.replicate 16 0)), .inr (.inl (1, List.replicate 16 0)), .inr (.inl (1, List.replicate 16 0))])) rfl rfl rfl rfl rfl (by decide) (by decide) (by unfold W0; simp only [hsz, csz, own_objN, List.length_replicate]) (by decide) rfl ?_
  refine Eval.putfield (H1 := (W0 [.inl [.ref 1, .ref 2, .ref 3, .ref 4, .null, .null, .null, .null, .null, .null, .null, .null, .null, .int (0 : Int32), .int (0 : Int32), .int (0 : Int32), .int (0 : Int32), .int (0 : Int32), .int (0 : Int32), .int (0 : Int32), .int (0 : Int32)], .inr (.inl (3, List.replicate 320 0)), .inr (.inl (1, List.replicate 16 0)), .inr (.inl (1, List.replicate 16 0)), .inr (.inl (1, List.replicate 16 0))])) rfl rfl rfl ?_
  refine Eval.aload_n rfl rfl ?_
  refine Eval.bipush (x := (16 : Int32)) rfl rfl ?_
  refine Eval.newarray (z := 389) (N := 16) (a := 5) (H1 := (W0 [.inl [.ref 1, .ref 2, .ref 3, .ref 4, .null, .null, .null, .null, .null, .null, .null, .null, .null, .int (0 : Int32), .int (0 : Int32), .int (0 : Int32), .int (0 : Int32), .int (0 : Int32), .int (0 : Int32), .int (0 : Int32), .int (0 : Int32)], .inr (.inl (3, List.replicate 320 0)), .inr (.inl (1, List.replicate 16 0)), .inr (.inl (1, List.replicate 16 0)), .inr (.inl (1, List.replicate 16 0)), .inr (.inl (1, List.replicate 16 0))])) rfl rfl rfl rfl rfl (by decide) (by decide) (by unfold W0; simp only [hsz, csz, own_objN, List.length_replicate]) (by decide) rfl ?_
  refine Eval.putfield (H1 := (W0 [.inl [.ref 1, .ref 2, .ref 3, .ref 4, .ref 5, .null, .null, .null, .null, .null, .null, .null, .null, .int (0 : Int32), .int (0 : Int32), .int (0 : Int32), .int (0 : Int32), .int (0 : Int32), .int (0 : Int32), .int (0 : Int32), .int (0 : Int32)], .inr (.inl (3, List.replicate 320 0)), .inr (.inl (1, List.replicate 16 0)), .inr (.inl (1, List.replicate 16 0)), .inr (.inl (1, List.replicate 16 0)), .inr (.inl (1, List.replicate 16 0))])) rfl rfl rfl ?_
  refine Eval.aload_n rfl rfl ?_
  refine Eval.sipush (x := (256 : Int32)) rfl rfl ?_
  refine Eval.newarray (z := 405) (N := 256) (a := 6) (H1 := (W0 [.inl [.ref 1, .ref 2, .ref 3, .ref 4, .ref 5, .null, .null, .null, .null, .null, .null, .null, .null, .int (0 : Int32), .int (0 : Int32), .int (0 : Int32), .int (0 : Int32), .int (0 : Int32), .int (0 : Int32), .int (0 : Int32), .int (0 : Int32)], .inr (.inl (3, List.replicate 320 0)), .inr (.inl (1, List.replicate 16 0)), .inr (.inl (1, List.replicate 16 0)), .inr (.inl (1, List.replicate 16 0)), .inr (.inl (1, List.replicate 16 0)), .inr (.inl (1, List.replicate 256 0))])) rfl rfl rfl rfl rfl (by decide) (by decide) (by unfold W0; simp only [hsz, csz, own_objN, List.length_replicate]) (by decide) rfl ?_
  refine Eval.putfield (H1 := (W0 [.inl [.ref 1, .ref 2, .ref 3, .ref 4, .ref 5, .ref 6, .null, .null, .null, .null, .null, .null, .null, .int (0 : Int32), .int (0 : Int32), .int (0 : Int32), .int (0 : Int32), .int (0 : Int32), .int (0 : Int32), .int (0 : Int32), .int (0 : Int32)], .inr (.inl (3, List.replicate 320 0)), .inr (.inl (1, List.replicate 16 0)), .inr (.inl (1, List.replicate 16 0)), .inr (.inl (1, List.replicate 16 0)), .inr (.inl (1, List.replicate 16 0)), .inr (.inl (1, List.replicate 256 0))])) rfl rfl rfl ?_
  refine Eval.aload_n rfl rfl ?_
  refine Eval.sipush (x := (256 : Int32)) rfl rfl ?_
  refine Eval.newarray (z := 661) (N := 256) (a := 7) (H1 := (W0 [.inl [.ref 1, .ref 2, .ref 3, .ref 4, .ref 5, .ref 6, .null, .null, .null, .null, .null, .null, .null, .int (0 : Int32), .int (0 : Int32), .int (0 : Int32), .int (0 : Int32), .int (0 : Int32), .int (0 : Int32), .int (0 : Int32), .int (0 : Int32)], .inr (.inl (3, List.replicate 320 0)), .inr (.inl (1, List.replicate 16 0)), .inr (.inl (1, List.replicate 16 0)), .inr (.inl (1, List.replicate 16 0)), .inr (.inl (1, List.replicate 16 0)), .inr (.inl (1, List.replicate 256 0)), .inr (.inl (1, List.replicate 256 0))])) rfl rfl rfl rfl rfl (by decide) (by decide) (by unfold W0; simp only [hsz, csz, own_objN, List.length_replicate]) (by decide) rfl ?_
  refine Eval.putfield (H1 := (W0 [.inl [.ref 1, .ref 2, .ref 3, .ref 4, .ref 5, .ref 6, .ref 7, .null, .null, .null, .null, .null, .null, .int (0 : Int32), .int (0 : Int32), .int (0 : Int32), .int (0 : Int32), .int (0 : Int32), .int (0 : Int32), .int (0 : Int32), .int (0 : Int32)], .inr (.inl (3, List.replicate 320 0)), .inr (.inl (1, List.replicate 16 0)), .inr (.inl (1, List.replicate 16 0)), .inr (.inl (1, List.replicate 16 0)), .inr (.inl (1, List.replicate 16 0)), .inr (.inl (1, List.replicate 256 0)), .inr (.inl (1, List.replicate 256 0))])) rfl rfl rfl ?_
  refine Eval.aload_n rfl rfl ?_
  refine Eval.bipush (x := (8 : Int32)) rfl rfl ?_
  refine Eval.newarray (z := 917) (N := 8) (a := 8) (H1 := (W0 [.inl [.ref 1, .ref 2, .ref 3, .ref 4, .ref 5, .ref 6, .ref 7, .null, .null, .null, .null, .null, .null, .int (0 : Int32), .int (0 : Int32), .int (0 : Int32), .int (0 : Int32), .int (0 : Int32), .int (0 : Int32), .int (0 : Int32), .int (0 : Int32)], .inr (.inl (3, List.replicate 320 0)), .inr (.inl (1, List.replicate 16 0)), .inr (.inl (1, List.replicate 16 0)), .inr (.inl (1, List.replicate 16 0)), .inr (.inl (1, List.replicate 16 0)), .inr (.inl (1, List.replicate 256 0)), .inr (.inl (1, List.replicate 256 0)), .inr (.inl (1, List.replicate 8 0))])) rfl rfl rfl rfl rfl (by decide) (by decide) (by unfold W0; simp only [hsz, csz, own_objN, List.length_replicate]) (by decide) rfl ?_
  refine Eval.putfield (H1 := (W0 [.inl [.ref 1, .ref 2, .ref 3, .ref 4, .ref 5, .ref 6, .ref 7, .ref 8, .null, .null, .null, .null, .null, .int (0 : Int32), .int (0 : Int32), .int (0 : Int32), .int (0 : Int32), .int (0 : Int32), .int (0 : Int32), .int (0 : Int32), .int (0 : Int32)], .inr (.inl (3, List.replicate 320 0)), .inr (.inl (1, List.replicate 16 0)), .inr (.inl (1, List.replicate 16 0)), .inr (.inl (1, List.replicate 16 0)), .inr (.inl (1, List.replicate 16 0)), .inr (.inl (1, List.replicate 256 0)), .inr (.inl (1, List.replicate 256 0)), .inr (.inl (1, List.replicate 8 0))])) rfl rfl rfl ?_
  refine Eval.aload_n rfl rfl ?_
  refine Eval.bipush (x := (8 : Int32)) rfl rfl ?_
  refine Eval.newarray (z := 925) (N := 8) (a := 9) (H1 := (W0 [.inl [.ref 1, .ref 2, .ref 3, .ref 4, .ref 5, .ref 6, .ref 7, .ref 8, .null, .null, .null, .null, .null, .int (0 : Int32), .int (0 : Int32), .int (0 : Int32), .int (0 : Int32), .int (0 : Int32), .int (0 : Int32), .int (0 : Int32), .int (0 : Int32)], .inr (.inl (3, List.replicate 320 0)), .inr (.inl (1, List.replicate 16 0)), .inr (.inl (1, List.replicate 16 0)), .inr (.inl (1, List.replicate 16 0)), .inr (.inl (1, List.replicate 16 0)), .inr (.inl (1, List.replicate 256 0)), .inr (.inl (1, List.replicate 256 0)), .inr (.inl (1, List.replicate 8 0)), .inr (.inl (1, List.replicate 8 0))])) rfl rfl rfl rfl rfl (by decide) (by decide) (by unfold W0; simp only [hsz, csz, own_objN, List.length_replicate]) (by decide) rfl ?_
  refine Eval.putfield (H1 := (W0 [.inl [.ref 1, .ref 2, .ref 3, .ref 4, .ref 5, .ref 6, .ref 7, .ref 8, .ref 9, .null, .null, .null, .null, .int (0 : Int32), .int (0 : Int32), .int (0 : Int32), .int (0 : Int32), .int (0 : Int32), .int (0 : Int32), .int (0 : Int32), .int (0 : Int32)], .inr (.inl (3, List.replicate 320 0)), .inr (.inl (1, List.replicate 16 0)), .inr (.inl (1, List.replicate 16 0)), .inr (.inl (1, List.replicate 16 0)), .inr (.inl (1, List.replicate 16 0)), .inr (.inl (1, List.replicate 256 0)), .inr (.inl (1, List.replicate 256 0)), .inr (.inl (1, List.replicate 8 0)), .inr (.inl (1, List.replicate 8 0))])) rfl rfl rfl ?_
  refine Eval.aload_n rfl rfl ?_
  refine Eval.bipush (x := (8 : Int32)) rfl rfl ?_
  refine Eval.newarray (z := 933) (N := 8) (a := 10) (H1 := (W0 [.inl [.ref 1, .ref 2, .ref 3, .ref 4, .ref 5, .ref 6, .ref 7, .ref 8, .ref 9, .null, .null, .null, .null, .int (0 : Int32), .int (0 : Int32), .int (0 : Int32), .int (0 : Int32), .int (0 : Int32), .int (0 : Int32), .int (0 : Int32), .int (0 : Int32)], .inr (.inl (3, List.replicate 320 0)), .inr (.inl (1, List.replicate 16 0)), .inr (.inl (1, List.replicate 16 0)), .inr (.inl (1, List.replicate 16 0)), .inr (.inl (1, List.replicate 16 0)), .inr (.inl (1, List.replicate 256 0)), .inr (.inl (1, List.replicate 256 0)), .inr (.inl (1, List.replicate 8 0)), .inr (.inl (1, List.replicate 8 0)), .inr (.inl (1, List.replicate 8 0))])) rfl rfl rfl rfl rfl (by decide) (by decide) (by unfold W0; simp only [hsz, csz, own_objN, List.length_replicate]) (by decide) rfl ?_
  refine Eval.putfield (H1 := (W0 [.inl [.ref 1, .ref 2, .ref 3, .ref 4, .ref 5, .ref 6, .ref 7, .ref 8, .ref 9, .ref 10, .null, .null, .null, .int (0 : Int32), .int (0 : Int32), .int (0 : Int32), .int (0 : Int32), .int (0 : Int32), .int (0 : Int32), .int (0 : Int32), .int (0 : Int32)], .inr (.inl (3, List.replicate 320 0)), .inr (.inl (1, List.replicate 16 0)), .inr (.inl (1, List.replicate 16 0)), .inr (.inl (1, List.replicate 16 0)), .inr (.inl (1, List.replicate 16 0)), .inr (.inl (1, List.replicate 256 0)), .inr (.inl (1, List.replicate 256 0)), .inr (.inl (1, List.replicate 8 0)), .inr (.inl (1, List.replicate 8 0)), .inr (.inl (1, List.replicate 8 0))])) rfl rfl rfl ?_
  refine Eval.aload_n rfl rfl ?_
  refine Eval.bipush (x := (32 : Int32)) rfl rfl ?_
  refine Eval.newarray (z := 941) (N := 32) (a := 11) (H1 := (W0 [.inl [.ref 1, .ref 2, .ref 3, .ref 4, .ref 5, .ref 6, .ref 7, .ref 8, .ref 9, .ref 10, .null, .null, .null, .int (0 : Int32), .int (0 : Int32), .int (0 : Int32), .int (0 : Int32), .int (0 : Int32), .int (0 : Int32), .int (0 : Int32), .int (0 : Int32)], .inr (.inl (3, List.replicate 320 0)), .inr (.inl (1, List.replicate 16 0)), .inr (.inl (1, List.replicate 16 0)), .inr (.inl (1, List.replicate 16 0)), .inr (.inl (1, List.replicate 16 0)), .inr (.inl (1, List.replicate 256 0)), .inr (.inl (1, List.replicate 256 0)), .inr (.inl (1, List.replicate 8 0)), .inr (.inl (1, List.replicate 8 0)), .inr (.inl (1, List.replicate 8 0)), .inr (.inl (1, List.replicate 32 0))])) rfl rfl rfl rfl rfl (by decide) (by decide) (by unfold W0; simp only [hsz, csz, own_objN, List.length_replicate]) (by decide) rfl ?_
  refine Eval.putfield (H1 := (W0 [.inl [.ref 1, .ref 2, .ref 3, .ref 4, .ref 5, .ref 6, .ref 7, .ref 8, .ref 9, .ref 10, .ref 11, .null, .null, .int (0 : Int32), .int (0 : Int32), .int (0 : Int32), .int (0 : Int32), .int (0 : Int32), .int (0 : Int32), .int (0 : Int32), .int (0 : Int32)], .inr (.inl (3, List.replicate 320 0)), .inr (.inl (1, List.replicate 16 0)), .inr (.inl (1, List.replicate 16 0)), .inr (.inl (1, List.replicate 16 0)), .inr (.inl (1, List.replicate 16 0)), .inr (.inl (1, List.replicate 256 0)), .inr (.inl (1, List.replicate 256 0)), .inr (.inl (1, List.replicate 8 0)), .inr (.inl (1, List.replicate 8 0)), .inr (.inl (1, List.replicate 8 0)), .inr (.inl (1, List.replicate 32 0))])) rfl rfl rfl ?_
  refine Eval.aload_n rfl rfl ?_
  refine Eval.bipush (x := (16 : Int32)) rfl rfl ?_
  refine Eval.newarray (z := 973) (N := 16) (a := 12) (H1 := (W0 [.inl [.ref 1, .ref 2, .ref 3, .ref 4, .ref 5, .ref 6, .ref 7, .ref 8, .ref 9, .ref 10, .ref 11, .null, .null, .int (0 : Int32), .int (0 : Int32), .int (0 : Int32), .int (0 : Int32), .int (0 : Int32), .int (0 : Int32), .int (0 : Int32), .int (0 : Int32)], .inr (.inl (3, List.replicate 320 0)), .inr (.inl (1, List.replicate 16 0)), .inr (.inl (1, List.replicate 16 0)), .inr (.inl (1, List.replicate 16 0)), .inr (.inl (1, List.replicate 16 0)), .inr (.inl (1, List.replicate 256 0)), .inr (.inl (1, List.replicate 256 0)), .inr (.inl (1, List.replicate 8 0)), .inr (.inl (1, List.replicate 8 0)), .inr (.inl (1, List.replicate 8 0)), .inr (.inl (1, List.replicate 32 0)), .inr (.inl (1, List.replicate 16 0))])) rfl rfl rfl rfl rfl (by decide) (by decide) (by unfold W0; simp only [hsz, csz, own_objN, List.length_replicate]) (by decide) rfl ?_
  refine Eval.putfield (H1 := (W0 [.inl [.ref 1, .ref 2, .ref 3, .ref 4, .ref 5, .ref 6, .ref 7, .ref 8, .ref 9, .ref 10, .ref 11, .ref 12, .null, .int (0 : Int32), .int (0 : Int32), .int (0 : Int32), .int (0 : Int32), .int (0 : Int32), .int (0 : Int32), .int (0 : Int32), .int (0 : Int32)], .inr (.inl (3, List.replicate 320 0)), .inr (.inl (1, List.replicate 16 0)), .inr (.inl (1, List.replicate 16 0)), .inr (.inl (1, List.replicate 16 0)), .inr (.inl (1, List.replicate 16 0)), .inr (.inl (1, List.replicate 256 0)), .inr (.inl (1, List.replicate 256 0)), .inr (.inl (1, List.replicate 8 0)), .inr (.inl (1, List.replicate 8 0)), .inr (.inl (1, List.replicate 8 0)), .inr (.inl (1, List.replicate 32 0)), .inr (.inl (1, List.replicate 16 0))])) rfl rfl rfl ?_
  refine Eval.aload_n rfl rfl ?_
  refine Eval.iconst (x := (4 : Int32)) rfl rfl ?_
  refine Eval.newarray (z := 989) (N := 4) (a := 13) (H1 := (W0 [.inl [.ref 1, .ref 2, .ref 3, .ref 4, .ref 5, .ref 6, .ref 7, .ref 8, .ref 9, .ref 10, .ref 11, .ref 12, .null, .int (0 : Int32), .int (0 : Int32), .int (0 : Int32), .int (0 : Int32), .int (0 : Int32), .int (0 : Int32), .int (0 : Int32), .int (0 : Int32)], .inr (.inl (3, List.replicate 320 0)), .inr (.inl (1, List.replicate 16 0)), .inr (.inl (1, List.replicate 16 0)), .inr (.inl (1, List.replicate 16 0)), .inr (.inl (1, List.replicate 16 0)), .inr (.inl (1, List.replicate 256 0)), .inr (.inl (1, List.replicate 256 0)), .inr (.inl (1, List.replicate 8 0)), .inr (.inl (1, List.replicate 8 0)), .inr (.inl (1, List.replicate 8 0)), .inr (.inl (1, List.replicate 32 0)), .inr (.inl (1, List.replicate 16 0)), .inr (.inl (2, List.replicate 4 0))])) rfl rfl rfl rfl rfl (by decide) (by decide) (by unfold W0; simp only [hsz, csz, own_objN, List.length_replicate]) (by decide) rfl ?_
  refine Eval.putfield (H1 := (W0 [.inl [.ref 1, .ref 2, .ref 3, .ref 4, .ref 5, .ref 6, .ref 7, .ref 8, .ref 9, .ref 10, .ref 11, .ref 12, .ref 13, .int (0 : Int32), .int (0 : Int32), .int (0 : Int32), .int (0 : Int32), .int (0 : Int32), .int (0 : Int32), .int (0 : Int32), .int (0 : Int32)], .inr (.inl (3, List.replicate 320 0)), .inr (.inl (1, List.replicate 16 0)), .inr (.inl (1, List.replicate 16 0)), .inr (.inl (1, List.replicate 16 0)), .inr (.inl (1, List.replicate 16 0)), .inr (.inl (1, List.replicate 256 0)), .inr (.inl (1, List.replicate 256 0)), .inr (.inl (1, List.replicate 8 0)), .inr (.inl (1, List.replicate 8 0)), .inr (.inl (1, List.replicate 8 0)), .inr (.inl (1, List.replicate 32 0)), .inr (.inl (1, List.replicate 16 0)), .inr (.inl (2, List.replicate 4 0))])) rfl rfl rfl ?_
  show Eval own_P 1 110 [some (.ref 0), some (.int v1), some (.int v2), some (.int v3), none] [] (W1 Q0 []) out
  exact ev_j_init_b110 Q0 v1 v2 v3 h hk
def j_isFaultKind (v1 : Int32) : Int32 := (if v1 < (1 : Int32) then ((0 : Int32)) else (if (6 : Int32) < v1 then ((0 : Int32)) else ((1 : Int32))))
set_option maxRecDepth 100000 in
theorem ev_j_isFaultKind (H : AHeap) (a : Nat) (v1 : Int32) {res : Int32} {out : Option Value × AHeap} (h : j_isFaultKind v1 = res) (hk : out = (some (.int res), H)) : Eval own_P 5 0 [some (.ref a), some (.int v1)] [] H out := by
  rw [j_isFaultKind] at h
  refine Eval.iload_n rfl rfl ?_
  refine Eval.iconst (x := (1 : Int32)) rfl rfl ?_
  by_cases hc17 : v1 < (1 : Int32)
  · rw [if_pos hc17] at h
    refine Eval.icmpT (t := 15) rfl rfl (tlt hc17).1 ?_
    refine Eval.iconst (x := (0 : Int32)) rfl rfl ?_
    subst h
    subst hk
    exact Eval.ret rfl rfl
  · rw [if_neg hc17] at h
    refine Eval.icmpF rfl (flt hc17).1 ?_
    refine Eval.iload_n rfl rfl ?_
    refine Eval.bipush (x := (6 : Int32)) rfl rfl ?_
    by_cases hc18 : (6 : Int32) < v1
    · rw [if_pos hc18] at h
      refine Eval.icmpT (t := 15) rfl rfl (tlt hc18).2.2.1 ?_
      refine Eval.iconst (x := (0 : Int32)) rfl rfl ?_
      subst h
      subst hk
      exact Eval.ret rfl rfl
    · rw [if_neg hc18] at h
      refine Eval.icmpF rfl (flt hc18).2.2.1 ?_
      refine Eval.iconst (x := (1 : Int32)) rfl rfl ?_
      refine Eval.goto (t := 16) rfl rfl ?_
      subst h
      subst hk
      exact Eval.ret rfl rfl
def j_isAddress (v1 : Int32) : Int32 := (if v1 < (0 : Int32) then ((0 : Int32)) else (if v1 < (256 : Int32) then ((1 : Int32)) else ((0 : Int32))))
set_option maxRecDepth 100000 in
theorem ev_j_isAddress (H : AHeap) (a : Nat) (v1 : Int32) {res : Int32} {out : Option Value × AHeap} (h : j_isAddress v1 = res) (hk : out = (some (.int res), H)) : Eval own_P 6 0 [some (.ref a), some (.int v1)] [] H out := by
  rw [j_isAddress] at h
  refine Eval.iload_n rfl rfl ?_
  by_cases hc20 : v1 < (0 : Int32)
  · rw [if_pos hc20] at h
    refine Eval.ifT (t := 15) rfl rfl (tlt hc20).1 ?_
    refine Eval.iconst (x := (0 : Int32)) rfl rfl ?_
    subst h
    subst hk
    exact Eval.ret rfl rfl
  · rw [if_neg hc20] at h
    refine Eval.ifF rfl (flt hc20).1 ?_
    refine Eval.iload_n rfl rfl ?_
    refine Eval.sipush (x := (256 : Int32)) rfl rfl ?_
    by_cases hc21 : v1 < (256 : Int32)
    · rw [if_pos hc21] at h
      refine Eval.icmpF rfl (tlt hc21).2.1 ?_
      refine Eval.iconst (x := (1 : Int32)) rfl rfl ?_
      refine Eval.goto (t := 16) rfl rfl ?_
      subst h
      subst hk
      exact Eval.ret rfl rfl
    · rw [if_neg hc21] at h
      refine Eval.icmpT (t := 15) rfl rfl (flt hc21).2.1 ?_
      refine Eval.iconst (x := (0 : Int32)) rfl rfl ?_
      subst h
      subst hk
      exact Eval.ret rfl rfl
def j_validateFaultArguments (s : Q) (v1 : Int32) (v2 : Int32) (v3 : Int32) (v4 : Int32) : Option (Int32) := (if (j_isFaultKind v1) = (0 : Int32) then some ((-3 : Int32)) else (if (j_isAddress v2) = (0 : Int32) then some ((-1 : Int32)) else (if v1 = (6 : Int32) then (if (j_isAddress v3) = (0 : Int32) then some ((-1 : Int32)) else (if v3 = v2 then some ((-4 : Int32)) else none)) else some ((0 : Int32)))))
set_option maxRecDepth 100000 in
theorem ev_j_validateFaultArguments (R : AHeap) (s : Q) (v1 : Int32) (v2 : Int32) (v3 : Int32) (v4 : Int32) {res : Int32} {out : Option Value × AHeap} (h : j_validateFaultArguments s v1 v2 v3 v4 = some res) (hk : out = (some (.int res), (W1 s R))) : Eval own_P 4 0 [some (.ref 0), some (.int v1), some (.int v2), some (.int v3), some (.int v4)] [] (W1 s R) out := by
  rw [j_validateFaultArguments] at h
  refine Eval.aload_n rfl rfl ?_
  refine Eval.iload_n rfl rfl ?_
  refine Eval.callI (rest := []) (x := (j_isFaultKind v1)) (H1 := (W1 s R)) rfl rfl (ev_j_isFaultKind (W1 s R) 0 v1 rfl rfl) ?_
  by_cases hc19 : (j_isFaultKind v1) = (0 : Int32)
  · rw [if_pos hc19] at h
    refine Eval.ifF rfl (teq hc19).2 ?_
    refine Eval.bipush (x := (-3 : Int32)) rfl rfl ?_
    cases h
    subst hk
    exact Eval.ret rfl rfl
  · rw [if_neg hc19] at h
    refine Eval.ifT (t := 11) rfl rfl (feq hc19).2 ?_
    refine Eval.aload_n rfl rfl ?_
    refine Eval.iload_n rfl rfl ?_
    refine Eval.callI (rest := []) (x := (j_isAddress v2)) (H1 := (W1 s R)) rfl rfl (ev_j_isAddress (W1 s R) 0 v2 rfl rfl) ?_
    by_cases hc22 : (j_isAddress v2) = (0 : Int32)
    · rw [if_pos hc22] at h
      refine Eval.ifF rfl (teq hc22).2 ?_
      refine Eval.iconst (x := (-1 : Int32)) rfl rfl ?_
      cases h
      subst hk
      exact Eval.ret rfl rfl
    · rw [if_neg hc22] at h
      refine Eval.ifT (t := 21) rfl rfl (feq hc22).2 ?_
      refine Eval.iload_n rfl rfl ?_
      refine Eval.bipush (x := (6 : Int32)) rfl rfl ?_
      by_cases hc23 : v1 = (6 : Int32)
      · rw [if_pos hc23] at h
        refine Eval.icmpT (t := 29) rfl rfl (teq hc23).1 ?_
        refine Eval.aload_n rfl rfl ?_
        refine Eval.iload_n rfl rfl ?_
        refine Eval.callI (rest := []) (x := (j_isAddress v3)) (H1 := (W1 s R)) rfl rfl (ev_j_isAddress (W1 s R) 0 v3 rfl rfl) ?_
        by_cases hc24 : (j_isAddress v3) = (0 : Int32)
        · rw [if_pos hc24] at h
          refine Eval.ifF rfl (teq hc24).2 ?_
          refine Eval.iconst (x := (-1 : Int32)) rfl rfl ?_
          cases h
          subst hk
          exact Eval.ret rfl rfl
        · rw [if_neg hc24] at h
          refine Eval.ifT (t := 39) rfl rfl (feq hc24).2 ?_
          refine Eval.iload_n rfl rfl ?_
          refine Eval.iload_n rfl rfl ?_
          by_cases hc25 : v3 = v2
          · rw [if_pos hc25] at h
            refine Eval.icmpF rfl (teq hc25).2 ?_
            refine Eval.bipush (x := (-4 : Int32)) rfl rfl ?_
            cases h
            subst hk
            exact Eval.ret rfl rfl
          · rw [if_neg hc25] at h
            refine Eval.icmpT (t := 47) rfl rfl (feq hc25).2 ?_
            refine Eval.aload_n rfl rfl ?_
            refine Eval.iload rfl rfl ?_
            cases h
      · rw [if_neg hc23] at h
        refine Eval.icmpF rfl (feq hc23).1 ?_
        refine Eval.iconst (x := (0 : Int32)) rfl rfl ?_
        cases h
        subst hk
        exact Eval.ret rfl rfl
def j_isVictim (s : Q) (v1 : Int32) : Option (Int32) := (if (j_isAddress v1) = (0 : Int32) then some ((0 : Int32)) else (if inb s.f_victimSlot.length v1 = true then (if (rd s.f_victimSlot v1) = (0 : Int32) then some ((0 : Int32)) else some ((1 : Int32))) else none))
set_option maxRecDepth 100000 in
theorem ev_j_isVictim (R : AHeap) (s : Q) (v1 : Int32) {res : Int32} {out : Option Value × AHeap} (h : j_isVictim s v1 = some res) (hk : out = (some (.int res), (W1 s R))) : Eval own_P 8 0 [some (.ref 0), some (.int v1)] [] (W1 s R) out := by
  rw [j_isVictim] at h
  refine Eval.aload_n rfl rfl ?_
  refine Eval.iload_n rfl rfl ?_
  refine Eval.callI (rest := []) (x := (j_isAddress v1)) (H1 := (W1 s R)) rfl rfl (ev_j_isAddress (W1 s R) 0 v1 rfl rfl) ?_
  by_cases hc30 : (j_isAddress v1) = (0 : Int32)
  · rw [if_pos hc30] at h
    refine Eval.ifT (t := 21) rfl rfl (teq hc30).1 ?_
    refine Eval.iconst (x := (0 : Int32)) rfl rfl ?_
    cases h
    subst hk
    exact Eval.ret rfl rfl
  · rw [if_neg hc30] at h
    refine Eval.ifF rfl (feq hc30).1 ?_
    refine Eval.aload_n rfl rfl ?_
    refine Eval.getfield rfl rfl own_g1_victimSlot ?_
    refine Eval.iload_n rfl rfl ?_
    obtain ⟨hb31, h⟩ := ite_some h
    refine Eval.iaload rfl own_a1_victimSlot hb31 ?_
    by_cases hc32 : (rd s.f_victimSlot v1) = (0 : Int32)
    · rw [if_pos hc32] at h
      refine Eval.ifT (t := 21) rfl rfl (teq hc32).1 ?_
      refine Eval.iconst (x := (0 : Int32)) rfl rfl ?_
      cases h
      subst hk
      exact Eval.ret rfl rfl
    · rw [if_neg hc32] at h
      refine Eval.ifF rfl (feq hc32).1 ?_
      refine Eval.iconst (x := (1 : Int32)) rfl rfl ?_
      refine Eval.goto (t := 22) rfl rfl ?_
      cases h
      subst hk
      exact Eval.ret rfl rfl
def j_isAggressor (s : Q) (v1 : Int32) : Option (Int32) := (if (j_isAddress v1) = (0 : Int32) then some ((0 : Int32)) else (if inb s.f_aggressorUses.length v1 = true then (if (0 : Int32) < (rd s.f_aggressorUses v1) then some ((1 : Int32)) else some ((0 : Int32))) else none))
set_option maxRecDepth 100000 in
theorem ev_j_isAggressor (R : AHeap) (s : Q) (v1 : Int32) {res : Int32} {out : Option Value × AHeap} (h : j_isAggressor s v1 = some res) (hk : out = (some (.int res), (W1 s R))) : Eval own_P 9 0 [some (.ref 0), some (.int v1)] [] (W1 s R) out := by
  rw [j_isAggressor] at h
  refine Eval.aload_n rfl rfl ?_
  refine Eval.iload_n rfl rfl ?_
  refine Eval.callI (rest := []) (x := (j_isAddress v1)) (H1 := (W1 s R)) rfl rfl (ev_j_isAddress (W1 s R) 0 v1 rfl rfl) ?_
  by_cases hc36 : (j_isAddress v1) = (0 : Int32)
  · rw [if_pos hc36] at h
    refine Eval.ifT (t := 21) rfl rfl (teq hc36).1 ?_
    refine Eval.iconst (x := (0 : Int32)) rfl rfl ?_
    cases h
    subst hk
    exact Eval.ret rfl rfl
  · rw [if_neg hc36] at h
    refine Eval.ifF rfl (feq hc36).1 ?_
    refine Eval.aload_n rfl rfl ?_
    refine Eval.getfield rfl rfl own_g1_aggressorUses ?_
    refine Eval.iload_n rfl rfl ?_
    obtain ⟨hb37, h⟩ := ite_some h
    refine Eval.iaload rfl own_a1_aggressorUses hb37 ?_
    by_cases hc38 : (0 : Int32) < (rd s.f_aggressorUses v1)
    · rw [if_pos hc38] at h
      refine Eval.ifF rfl (tlt hc38).2.2.2 ?_
      refine Eval.iconst (x := (1 : Int32)) rfl rfl ?_
      refine Eval.goto (t := 22) rfl rfl ?_
      cases h
      subst hk
      exact Eval.ret rfl rfl
    · rw [if_neg hc38] at h
      refine Eval.ifT (t := 21) rfl rfl (flt hc38).2.2.2 ?_
      refine Eval.iconst (x := (0 : Int32)) rfl rfl ?_
      cases h
      subst hk
      exact Eval.ret rfl rfl
def j_validateFaultRoom (s : Q) (v1 : Int32) (v2 : Int32) (v3 : Int32) : Option (Int32) := (if s.f_faultCount < s.f_faultLimit then ((j_isVictim s v2).bind fun p33 => (if p33 = (0 : Int32) then ((j_isAggressor s v2).bind fun p39 => (if p39 = (0 : Int32) then (if v1 = (6 : Int32) then ((j_isVictim s v3).bind fun p43 => (if p43 = (0 : Int32) then some ((0 : Int32)) else some ((-7 : Int32)))) else some ((0 : Int32))) else some ((-7 : Int32)))) else some ((-7 : Int32)))) else some ((-6 : Int32)))
set_option maxRecDepth 100000 in
theorem ev_j_validateFaultRoom (R : AHeap) (s : Q) (v1 : Int32) (v2 : Int32) (v3 : Int32) {res : Int32} {out : Option Value × AHeap} (h : j_validateFaultRoom s v1 v2 v3 = some res) (hk : out = (some (.int res), (W1 s R))) : Eval own_P 7 0 [some (.ref 0), some (.int v1), some (.int v2), some (.int v3)] [] (W1 s R) out := by
  rw [j_validateFaultRoom] at h
  refine Eval.aload_n rfl rfl ?_
  refine Eval.getfield rfl rfl own_g1_faultCount ?_
  refine Eval.aload_n rfl rfl ?_
  refine Eval.getfield rfl rfl own_g1_faultLimit ?_
  by_cases hc29 : s.f_faultCount < s.f_faultLimit
  · rw [if_pos hc29] at h
    refine Eval.icmpT (t := 14) rfl rfl (tlt hc29).1 ?_
    refine Eval.aload_n rfl rfl ?_
    refine Eval.iload_n rfl rfl ?_
    obtain ⟨p33, hq34, h⟩ := bind_some h
    refine Eval.callI (rest := []) (x := p33) (H1 := (W1 s R)) rfl rfl (ev_j_isVictim R s v2 hq34 rfl) ?_
    by_cases hc35 : p33 = (0 : Int32)
    · rw [if_pos hc35] at h
      refine Eval.ifT (t := 25) rfl rfl (teq hc35).1 ?_
      refine Eval.aload_n rfl rfl ?_
      refine Eval.iload_n rfl rfl ?_
      obtain ⟨p39, hq40, h⟩ := bind_some h
      refine Eval.callI (rest := []) (x := p39) (H1 := (W1 s R)) rfl rfl (ev_j_isAggressor R s v2 hq40 rfl) ?_
      by_cases hc41 : p39 = (0 : Int32)
      · rw [if_pos hc41] at h
        refine Eval.ifT (t := 36) rfl rfl (teq hc41).1 ?_
        refine Eval.iload_n rfl rfl ?_
        refine Eval.bipush (x := (6 : Int32)) rfl rfl ?_
        by_cases hc42 : v1 = (6 : Int32)
        · rw [if_pos hc42] at h
          refine Eval.icmpF rfl (teq hc42).2 ?_
          refine Eval.aload_n rfl rfl ?_
          refine Eval.iload_n rfl rfl ?_
          obtain ⟨p43, hq44, h⟩ := bind_some h
          refine Eval.callI (rest := []) (x := p43) (H1 := (W1 s R)) rfl rfl (ev_j_isVictim R s v3 hq44 rfl) ?_
          by_cases hc45 : p43 = (0 : Int32)
          · rw [if_pos hc45] at h
            refine Eval.ifT (t := 53) rfl rfl (teq hc45).1 ?_
            refine Eval.iconst (x := (0 : Int32)) rfl rfl ?_
            cases h
            subst hk
            exact Eval.ret rfl rfl
          · rw [if_neg hc45] at h
            refine Eval.ifF rfl (feq hc45).1 ?_
            refine Eval.bipush (x := (-7 : Int32)) rfl rfl ?_
            cases h
            subst hk
            exact Eval.ret rfl rfl
        · rw [if_neg hc42] at h
          refine Eval.icmpT (t := 53) rfl rfl (feq hc42).2 ?_
          refine Eval.iconst (x := (0 : Int32)) rfl rfl ?_
          cases h
          subst hk
          exact Eval.ret rfl rfl
      · rw [if_neg hc41] at h
        refine Eval.ifF rfl (feq hc41).1 ?_
        refine Eval.bipush (x := (-7 : Int32)) rfl rfl ?_
        cases h
        subst hk
        exact Eval.ret rfl rfl
    · rw [if_neg hc35] at h
      refine Eval.ifF rfl (feq hc35).1 ?_
      refine Eval.bipush (x := (-7 : Int32)) rfl rfl ?_
      cases h
      subst hk
      exact Eval.ret rfl rfl
  · rw [if_neg hc29] at h
    refine Eval.icmpF rfl (flt hc29).1 ?_
    refine Eval.bipush (x := (-6 : Int32)) rfl rfl ?_
    cases h
    subst hk
    exact Eval.ret rfl rfl
def j_appendFault_b121 (s : Q) (v5 : Int32) : Option (Int32 × Q) := some (v5, (Q.mk s.f_cells s.f_faultKind s.f_faultVictim s.f_faultAggressor s.f_faultTrigger s.f_victimSlot s.f_aggressorUses s.f_elementOrder s.f_elementCount s.f_elementOps s.f_logBuffer s.f_remap s.f_spareTaken s.f_spareRows s.f_faultLimit s.f_logLimit s.f_latchBit (v5 + (1 : Int32)) s.f_programLength s.f_logLength s.f_failMask))
theorem ln_j_appendFault_b121 {s : Q} {v5 : Int32} {res : Int32 × Q} (h : j_appendFault_b121 s v5 = some res) : Q.len res.2 = Q.len s := by
  rw [j_appendFault_b121] at h
  have hr0 := Option.some.inj h
  subst hr0
  show Q.len (Q.mk s.f_cells s.f_faultKind s.f_faultVictim s.f_faultAggressor s.f_faultTrigger s.f_victimSlot s.f_aggressorUses s.f_elementOrder s.f_elementCount s.f_elementOps s.f_logBuffer s.f_remap s.f_spareTaken s.f_spareRows s.f_faultLimit s.f_logLimit s.f_latchBit (v5 + (1 : Int32)) s.f_programLength s.f_logLength s.f_failMask) = _
  exact (Eq.trans (show Q.len (Q.mk s.f_cells s.f_faultKind s.f_faultVictim s.f_faultAggressor s.f_faultTrigger s.f_victimSlot s.f_aggressorUses s.f_elementOrder s.f_elementCount s.f_elementOps s.f_logBuffer s.f_remap s.f_spareTaken s.f_spareRows s.f_faultLimit s.f_logLimit s.f_latchBit (v5 + (1 : Int32)) s.f_programLength s.f_logLength s.f_failMask) = Q.len s from own_lenmk.trans (by first | (simp only [len_wr, len_wrL] <;> rfl) | rfl)) rfl)
set_option maxRecDepth 100000 in
theorem ev_j_appendFault_b121 (R : AHeap) (s : Q) (v5 : Int32) {res : Int32 × Q} {out : Option Value × AHeap} (h : j_appendFault_b121 s v5 = some res) (hk : out = (some (.int res.1), (W1 res.2 R))) : Eval own_P 10 121 [some (.ref 0), none, none, none, none, some (.int v5)] [] (W1 s R) out := by
  rw [j_appendFault_b121] at h
  refine Eval.aload_n rfl rfl ?_
  refine Eval.iload rfl rfl ?_
  refine Eval.iconst (x := (1 : Int32)) rfl rfl ?_
  refine Eval.iadd rfl ?_
  refine Eval.putfield rfl rfl own_p1_faultCount ?_
  refine Eval.iload rfl rfl ?_
  cases h
  subst hk
  exact Eval.retH own_mk1 rfl rfl
def j_appendFault_b105 (s : Q) (v5 : Int32) : Option (Int32 × Q) := (if inb s.f_faultAggressor.length v5 = true then (if inb s.f_faultTrigger.length v5 = true then (j_appendFault_b121 (Q.mk s.f_cells s.f_faultKind s.f_faultVictim (wr s.f_faultAggressor v5 (0 : Int32)) (wr s.f_faultTrigger v5 (0 : Int32)) s.f_victimSlot s.f_aggressorUses s.f_elementOrder s.f_elementCount s.f_elementOps s.f_logBuffer s.f_remap s.f_spareTaken s.f_spareRows s.f_faultLimit s.f_logLimit s.f_latchBit s.f_faultCount s.f_programLength s.f_logLength s.f_failMask) v5) else none) else none)
theorem ln_j_appendFault_b105 {s : Q} {v5 : Int32} {res : Int32 × Q} (h : j_appendFault_b105 s v5 = some res) : Q.len res.2 = Q.len s := by
  rw [j_appendFault_b105] at h
  obtain ⟨hb60, h⟩ := ite_some h
  obtain ⟨hb61, h⟩ := ite_some h
  exact Eq.trans (ln_j_appendFault_b121 h) (Eq.trans (show Q.len (Q.mk s.f_cells s.f_faultKind s.f_faultVictim (wr s.f_faultAggressor v5 (0 : Int32)) (wr s.f_faultTrigger v5 (0 : Int32)) s.f_victimSlot s.f_aggressorUses s.f_elementOrder s.f_elementCount s.f_elementOps s.f_logBuffer s.f_remap s.f_spareTaken s.f_spareRows s.f_faultLimit s.f_logLimit s.f_latchBit s.f_faultCount s.f_programLength s.f_logLength s.f_failMask) = Q.len s from own_lenmk.trans (by first | (simp only [len_wr, len_wrL] <;> rfl) | rfl)) rfl)
set_option maxRecDepth 100000 in
theorem ev_j_appendFault_b105 (R : AHeap) (s : Q) (v5 : Int32) {res : Int32 × Q} {out : Option Value × AHeap} (h : j_appendFault_b105 s v5 = some res) (hk : out = (some (.int res.1), (W1 res.2 R))) : Eval own_P 10 105 [some (.ref 0), none, none, none, none, some (.int v5)] [] (W1 s R) out := by
  rw [j_appendFault_b105] at h
  refine Eval.aload_n rfl rfl ?_
  refine Eval.getfield rfl rfl own_g1_faultAggressor ?_
  refine Eval.iload rfl rfl ?_
  refine Eval.iconst (x := (0 : Int32)) rfl rfl ?_
  obtain ⟨hb60, h⟩ := ite_some h
  refine Eval.iastore rfl rfl own_a1_faultAggressor hb60 own_s1_faultAggressor ?_
  refine Eval.aload_n rfl rfl ?_
  refine Eval.getfield rfl rfl own_g1_faultTrigger ?_
  refine Eval.iload rfl rfl ?_
  refine Eval.iconst (x := (0 : Int32)) rfl rfl ?_
  obtain ⟨hb61, h⟩ := ite_some h
  refine Eval.iastore rfl rfl own_a1_faultTrigger hb61 own_s1_faultTrigger ?_
  refine Eval.heap own_mk1 ?_
  exact ev_j_appendFault_b121 R (Q.mk s.f_cells s.f_faultKind s.f_faultVictim (wr s.f_faultAggressor v5 (0 : Int32)) (wr s.f_faultTrigger v5 (0 : Int32)) s.f_victimSlot s.f_aggressorUses s.f_elementOrder s.f_elementCount s.f_elementOps s.f_logBuffer s.f_remap s.f_spareTaken s.f_spareRows s.f_faultLimit s.f_logLimit s.f_latchBit s.f_faultCount s.f_programLength s.f_logLength s.f_failMask) v5 h hk
def j_appendFault (s : Q) (v1 : Int32) (v2 : Int32) (v3 : Int32) (v4 : Int32) : Option (Int32 × Q) := (if s.f_faultCount < (0 : Int32) then some ((-6 : Int32), s) else (if s.f_faultCount < (16 : Int32) then (if (j_isAddress v2) = (0 : Int32) then some ((-6 : Int32), s) else (if inb s.f_faultKind.length s.f_faultCount = true then (if inb s.f_faultVictim.length s.f_faultCount = true then (if inb s.f_victimSlot.length v2 = true then (if v1 = (6 : Int32) then (if (j_isAddress v3) = (0 : Int32) then (j_appendFault_b105 (Q.mk s.f_cells (wr s.f_faultKind s.f_faultCount v1) (wr s.f_faultVictim s.f_faultCount v2) s.f_faultAggressor s.f_faultTrigger (wr s.f_victimSlot v2 (s.f_faultCount + (1 : Int32))) s.f_aggressorUses s.f_elementOrder s.f_elementCount s.f_elementOps s.f_logBuffer s.f_remap s.f_spareTaken s.f_spareRows s.f_faultLimit s.f_logLimit s.f_latchBit s.f_faultCount s.f_programLength s.f_logLength s.f_failMask) s.f_faultCount) else (if inb s.f_faultAggressor.length s.f_faultCount = true then (if inb s.f_faultTrigger.length s.f_faultCount = true then (if inb s.f_aggressorUses.length v3 = true then (if inb s.f_aggressorUses.length v3 = true then (j_appendFault_b121 (Q.mk s.f_cells (wr s.f_faultKind s.f_faultCount v1) (wr s.f_faultVictim s.f_faultCount v2) (wr s.f_faultAggressor s.f_faultCount v3) (wr s.f_faultTrigger s.f_faultCount (v4 &&& (3 : Int32))) (wr s.f_victimSlot v2 (s.f_faultCount + (1 : Int32))) (wr s.f_aggressorUses v3 ((rd s.f_aggressorUses v3) + (1 : Int32))) s.f_elementOrder s.f_elementCount s.f_elementOps s.f_logBuffer s.f_remap s.f_spareTaken s.f_spareRows s.f_faultLimit s.f_logLimit s.f_latchBit s.f_faultCount s.f_programLength s.f_logLength s.f_failMask) s.f_faultCount) else none) else none) else none) else none)) else (j_appendFault_b105 (Q.mk s.f_cells (wr s.f_faultKind s.f_faultCount v1) (wr s.f_faultVictim s.f_faultCount v2) s.f_faultAggressor s.f_faultTrigger (wr s.f_victimSlot v2 (s.f_faultCount + (1 : Int32))) s.f_aggressorUses s.f_elementOrder s.f_elementCount s.f_elementOps s.f_logBuffer s.f_remap s.f_spareTaken s.f_spareRows s.f_faultLimit s.f_logLimit s.f_latchBit s.f_faultCount s.f_programLength s.f_logLength s.f_failMask) s.f_faultCount)) else none) else none) else none)) else some ((-6 : Int32), s)))
theorem ln_j_appendFault {s : Q} {v1 : Int32} {v2 : Int32} {v3 : Int32} {v4 : Int32} {res : Int32 × Q} (h : j_appendFault s v1 v2 v3 v4 = some res) : Q.len res.2 = Q.len s := by
  rw [j_appendFault] at h
  by_cases hc49 : s.f_faultCount < (0 : Int32)
  · rw [if_pos hc49] at h
    have hr0 := Option.some.inj h
    subst hr0
    show Q.len s = _
    exact rfl
  · rw [if_neg hc49] at h
    by_cases hc50 : s.f_faultCount < (16 : Int32)
    · rw [if_pos hc50] at h
      by_cases hc51 : (j_isAddress v2) = (0 : Int32)
      · rw [if_pos hc51] at h
        have hr0 := Option.some.inj h
        subst hr0
        show Q.len s = _
        exact rfl
      · rw [if_neg hc51] at h
        obtain ⟨hb52, h⟩ := ite_some h
        obtain ⟨hb53, h⟩ := ite_some h
        obtain ⟨hb54, h⟩ := ite_some h
        by_cases hc57 : v1 = (6 : Int32)
        · rw [if_pos hc57] at h
          by_cases hc59 : (j_isAddress v3) = (0 : Int32)
          · rw [if_pos hc59] at h
            exact Eq.trans (ln_j_appendFault_b105 h) (Eq.trans (show Q.len (Q.mk s.f_cells (wr s.f_faultKind s.f_faultCount v1) (wr s.f_faultVictim s.f_faultCount v2) s.f_faultAggressor s.f_faultTrigger (wr s.f_victimSlot v2 (s.f_faultCount + (1 : Int32))) s.f_aggressorUses s.f_elementOrder s.f_elementCount s.f_elementOps s.f_logBuffer s.f_remap s.f_spareTaken s.f_spareRows s.f_faultLimit s.f_logLimit s.f_latchBit s.f_faultCount s.f_programLength s.f_logLength s.f_failMask) = Q.len s from own_lenmk.trans (by first | (simp only [len_wr, len_wrL] <;> rfl) | rfl)) rfl)
          · rw [if_neg hc59] at h
            obtain ⟨hb62, h⟩ := ite_some h
            obtain ⟨hb63, h⟩ := ite_some h
            obtain ⟨hb64, h⟩ := ite_some h
            obtain ⟨hb65, h⟩ := ite_some h
            exact Eq.trans (ln_j_appendFault_b121 h) (Eq.trans (show Q.len (Q.mk s.f_cells (wr s.f_faultKind s.f_faultCount v1) (wr s.f_faultVictim s.f_faultCount v2) (wr s.f_faultAggressor s.f_faultCount v3) (wr s.f_faultTrigger s.f_faultCount (v4 &&& (3 : Int32))) (wr s.f_victimSlot v2 (s.f_faultCount + (1 : Int32))) (wr s.f_aggressorUses v3 ((rd s.f_aggressorUses v3) + (1 : Int32))) s.f_elementOrder s.f_elementCount s.f_elementOps s.f_logBuffer s.f_remap s.f_spareTaken s.f_spareRows s.f_faultLimit s.f_logLimit s.f_latchBit s.f_faultCount s.f_programLength s.f_logLength s.f_failMask) = Q.len s from own_lenmk.trans (by first | (simp only [len_wr, len_wrL] <;> rfl) | rfl)) rfl)
        · rw [if_neg hc57] at h
          exact Eq.trans (ln_j_appendFault_b105 h) (Eq.trans (show Q.len (Q.mk s.f_cells (wr s.f_faultKind s.f_faultCount v1) (wr s.f_faultVictim s.f_faultCount v2) s.f_faultAggressor s.f_faultTrigger (wr s.f_victimSlot v2 (s.f_faultCount + (1 : Int32))) s.f_aggressorUses s.f_elementOrder s.f_elementCount s.f_elementOps s.f_logBuffer s.f_remap s.f_spareTaken s.f_spareRows s.f_faultLimit s.f_logLimit s.f_latchBit s.f_faultCount s.f_programLength s.f_logLength s.f_failMask) = Q.len s from own_lenmk.trans (by first | (simp only [len_wr, len_wrL] <;> rfl) | rfl)) rfl)
    · rw [if_neg hc50] at h
      have hr0 := Option.some.inj h
      subst hr0
      show Q.len s = _
      exact rfl
set_option maxRecDepth 100000 in
theorem ev_j_appendFault (R : AHeap) (s : Q) (v1 : Int32) (v2 : Int32) (v3 : Int32) (v4 : Int32) {res : Int32 × Q} {out : Option Value × AHeap} (h : j_appendFault s v1 v2 v3 v4 = some res) (hk : out = (some (.int res.1), (W1 res.2 R))) : Eval own_P 10 0 [some (.ref 0), some (.int v1), some (.int v2), some (.int v3), some (.int v4), none] [] (W1 s R) out := by
  rw [j_appendFault] at h
  refine Eval.aload_n rfl rfl ?_
  refine Eval.getfield rfl rfl own_g1_faultCount ?_
  refine Eval.istore (L' := [some (.ref 0), some (.int v1), some (.int v2), some (.int v3), some (.int v4), some (.int s.f_faultCount)]) rfl rfl ?_
  refine Eval.iload rfl rfl ?_
  by_cases hc49 : s.f_faultCount < (0 : Int32)
  · rw [if_pos hc49] at h
    refine Eval.ifT (t := 26) rfl rfl (tlt hc49).1 ?_
    refine Eval.bipush (x := (-6 : Int32)) rfl rfl ?_
    cases h
    subst hk
    exact Eval.ret rfl rfl
  · rw [if_neg hc49] at h
    refine Eval.ifF rfl (flt hc49).1 ?_
    refine Eval.iload rfl rfl ?_
    refine Eval.bipush (x := (16 : Int32)) rfl rfl ?_
    by_cases hc50 : s.f_faultCount < (16 : Int32)
    · rw [if_pos hc50] at h
      refine Eval.icmpF rfl (tlt hc50).2.1 ?_
      refine Eval.aload_n rfl rfl ?_
      refine Eval.iload_n rfl rfl ?_
      refine Eval.callI (rest := []) (x := (j_isAddress v2)) (H1 := (W1 s R)) rfl rfl (ev_j_isAddress (W1 s R) 0 v2 rfl rfl) ?_
      by_cases hc51 : (j_isAddress v2) = (0 : Int32)
      · rw [if_pos hc51] at h
        refine Eval.ifF rfl (teq hc51).2 ?_
        refine Eval.bipush (x := (-6 : Int32)) rfl rfl ?_
        cases h
        subst hk
        exact Eval.ret rfl rfl
      · rw [if_neg hc51] at h
        refine Eval.ifT (t := 29) rfl rfl (feq hc51).2 ?_
        refine Eval.aload_n rfl rfl ?_
        refine Eval.getfield rfl rfl own_g1_faultKind ?_
        refine Eval.iload rfl rfl ?_
        refine Eval.iload_n rfl rfl ?_
        obtain ⟨hb52, h⟩ := ite_some h
        refine Eval.iastore rfl rfl own_a1_faultKind hb52 own_s1_faultKind ?_
        refine Eval.aload_n rfl rfl ?_
        refine Eval.getfield rfl rfl own_g1_faultVictim ?_
        refine Eval.iload rfl rfl ?_
        refine Eval.iload_n rfl rfl ?_
        obtain ⟨hb53, h⟩ := ite_some h
        refine Eval.iastore rfl rfl own_a1_faultVictim hb53 own_s1_faultVictim ?_
        refine Eval.aload_n rfl rfl ?_
        refine Eval.getfield rfl rfl own_g1_victimSlot ?_
        refine Eval.iload_n rfl rfl ?_
        refine Eval.iload rfl rfl ?_
        refine Eval.iconst (x := (1 : Int32)) rfl rfl ?_
        refine Eval.iadd rfl ?_
        obtain ⟨hb54, h⟩ := ite_some h
        refine Eval.iastore rfl rfl own_a1_victimSlot hb54 own_s1_victimSlot ?_
        refine Eval.iload_n rfl rfl ?_
        refine Eval.bipush (x := (6 : Int32)) rfl rfl ?_
        by_cases hc57 : v1 = (6 : Int32)
        · rw [if_pos hc57] at h
          refine Eval.icmpF rfl (teq hc57).2 ?_
          refine Eval.aload_n rfl rfl ?_
          refine Eval.iload_n rfl rfl ?_
          refine Eval.callI (rest := []) (x := (j_isAddress v3)) (H1 := (C1 s.f_cells (wr s.f_faultKind s.f_faultCount v1) (wr s.f_faultVictim s.f_faultCount v2) s.f_faultAggressor s.f_faultTrigger (wr s.f_victimSlot v2 (s.f_faultCount + (1 : Int32))) s.f_aggressorUses s.f_elementOrder s.f_elementCount s.f_elementOps s.f_logBuffer s.f_remap s.f_spareTaken s.f_spareRows s.f_faultLimit s.f_logLimit s.f_latchBit s.f_faultCount s.f_programLength s.f_logLength s.f_failMask R)) rfl rfl (ev_j_isAddress (C1 s.f_cells (wr s.f_faultKind s.f_faultCount v1) (wr s.f_faultVictim s.f_faultCount v2) s.f_faultAggressor s.f_faultTrigger (wr s.f_victimSlot v2 (s.f_faultCount + (1 : Int32))) s.f_aggressorUses s.f_elementOrder s.f_elementCount s.f_elementOps s.f_logBuffer s.f_remap s.f_spareTaken s.f_spareRows s.f_faultLimit s.f_logLimit s.f_latchBit s.f_faultCount s.f_programLength s.f_logLength s.f_failMask R) 0 v3 rfl rfl) ?_
          by_cases hc59 : (j_isAddress v3) = (0 : Int32)
          · rw [if_pos hc59] at h
            refine Eval.ifT (t := 105) rfl rfl (teq hc59).1 ?_
            refine Eval.heap own_mk1 ?_
            refine Eval.weak (L' := [some (.ref 0), none, none, none, none, some (.int s.f_faultCount)]) ⟨_, _, rfl, Or.inr rfl, _, _, rfl, Or.inl rfl, _, _, rfl, Or.inl rfl, _, _, rfl, Or.inl rfl, _, _, rfl, Or.inl rfl, _, _, rfl, Or.inr rfl, rfl⟩ ?_
            exact ev_j_appendFault_b105 R (Q.mk s.f_cells (wr s.f_faultKind s.f_faultCount v1) (wr s.f_faultVictim s.f_faultCount v2) s.f_faultAggressor s.f_faultTrigger (wr s.f_victimSlot v2 (s.f_faultCount + (1 : Int32))) s.f_aggressorUses s.f_elementOrder s.f_elementCount s.f_elementOps s.f_logBuffer s.f_remap s.f_spareTaken s.f_spareRows s.f_faultLimit s.f_logLimit s.f_latchBit s.f_faultCount s.f_programLength s.f_logLength s.f_failMask) s.f_faultCount h hk
          · rw [if_neg hc59] at h
            refine Eval.ifF rfl (feq hc59).1 ?_
            refine Eval.aload_n rfl rfl ?_
            refine Eval.getfield rfl rfl own_g1_faultAggressor ?_
            refine Eval.iload rfl rfl ?_
            refine Eval.iload_n rfl rfl ?_
            obtain ⟨hb62, h⟩ := ite_some h
            refine Eval.iastore rfl rfl own_a1_faultAggressor hb62 own_s1_faultAggressor ?_
            refine Eval.aload_n rfl rfl ?_
            refine Eval.getfield rfl rfl own_g1_faultTrigger ?_
            refine Eval.iload rfl rfl ?_
            refine Eval.iload rfl rfl ?_
            refine Eval.iconst (x := (3 : Int32)) rfl rfl ?_
            refine Eval.iand rfl ?_
            obtain ⟨hb63, h⟩ := ite_some h
            refine Eval.iastore rfl rfl own_a1_faultTrigger hb63 own_s1_faultTrigger ?_
            refine Eval.aload_n rfl rfl ?_
            refine Eval.getfield rfl rfl own_g1_aggressorUses ?_
            refine Eval.iload_n rfl rfl ?_
            refine Eval.aload_n rfl rfl ?_
            refine Eval.getfield rfl rfl own_g1_aggressorUses ?_
            refine Eval.iload_n rfl rfl ?_
            obtain ⟨hb64, h⟩ := ite_some h
            refine Eval.iaload rfl own_a1_aggressorUses hb64 ?_
            refine Eval.iconst (x := (1 : Int32)) rfl rfl ?_
            refine Eval.iadd rfl ?_
            obtain ⟨hb65, h⟩ := ite_some h
            refine Eval.iastore rfl rfl own_a1_aggressorUses hb65 own_s1_aggressorUses ?_
            refine Eval.goto (t := 121) rfl rfl ?_
            refine Eval.heap own_mk1 ?_
            refine Eval.weak (L' := [some (.ref 0), none, none, none, none, some (.int s.f_faultCount)]) ⟨_, _, rfl, Or.inr rfl, _, _, rfl, Or.inl rfl, _, _, rfl, Or.inl rfl, _, _, rfl, Or.inl rfl, _, _, rfl, Or.inl rfl, _, _, rfl, Or.inr rfl, rfl⟩ ?_
            exact ev_j_appendFault_b121 R (Q.mk s.f_cells (wr s.f_faultKind s.f_faultCount v1) (wr s.f_faultVictim s.f_faultCount v2) (wr s.f_faultAggressor s.f_faultCount v3) (wr s.f_faultTrigger s.f_faultCount (v4 &&& (3 : Int32))) (wr s.f_victimSlot v2 (s.f_faultCount + (1 : Int32))) (wr s.f_aggressorUses v3 ((rd s.f_aggressorUses v3) + (1 : Int32))) s.f_elementOrder s.f_elementCount s.f_elementOps s.f_logBuffer s.f_remap s.f_spareTaken s.f_spareRows s.f_faultLimit s.f_logLimit s.f_latchBit s.f_faultCount s.f_programLength s.f_logLength s.f_failMask) s.f_faultCount h hk
        · rw [if_neg hc57] at h
          refine Eval.icmpT (t := 105) rfl rfl (feq hc57).2 ?_
          refine Eval.heap own_mk1 ?_
          refine Eval.weak (L' := [some (.ref 0), none, none, none, none, some (.int s.f_faultCount)]) ⟨_, _, rfl, Or.inr rfl, _, _, rfl, Or.inl rfl, _, _, rfl, Or.inl rfl, _, _, rfl, Or.inl rfl, _, _, rfl, Or.inl rfl, _, _, rfl, Or.inr rfl, rfl⟩ ?_
          exact ev_j_appendFault_b105 R (Q.mk s.f_cells (wr s.f_faultKind s.f_faultCount v1) (wr s.f_faultVictim s.f_faultCount v2) s.f_faultAggressor s.f_faultTrigger (wr s.f_victimSlot v2 (s.f_faultCount + (1 : Int32))) s.f_aggressorUses s.f_elementOrder s.f_elementCount s.f_elementOps s.f_logBuffer s.f_remap s.f_spareTaken s.f_spareRows s.f_faultLimit s.f_logLimit s.f_latchBit s.f_faultCount s.f_programLength s.f_logLength s.f_failMask) s.f_faultCount h hk
    · rw [if_neg hc50] at h
      refine Eval.icmpT (t := 26) rfl rfl (flt hc50).2.1 ?_
      refine Eval.bipush (x := (-6 : Int32)) rfl rfl ?_
      cases h
      subst hk
      exact Eval.ret rfl rfl
def j_inject (s : Q) (v1 : Int32) (v2 : Int32) (v3 : Int32) (v4 : Int32) : Option (Int32 × Q) := ((j_validateFaultArguments s v1 v2 v3 v4).bind fun p26 => (if p26 = (0 : Int32) then ((j_validateFaultRoom s v1 v2 v3).bind fun p46 => (if p46 = (0 : Int32) then ((j_appendFault s v1 v2 v3 v4).bind fun p66 => some (p66.1, p66.2)) else some (p46, s))) else some (p26, s)))
theorem ln_j_inject {s : Q} {v1 : Int32} {v2 : Int32} {v3 : Int32} {v4 : Int32} {res : Int32 × Q} (h : j_inject s v1 v2 v3 v4 = some res) : Q.len res.2 = Q.len s := by
  rw [j_inject] at h
  obtain ⟨p26, hq27, h⟩ := bind_some h
  by_cases hc28 : p26 = (0 : Int32)
  · rw [if_pos hc28] at h
    obtain ⟨p46, hq47, h⟩ := bind_some h
    by_cases hc48 : p46 = (0 : Int32)
    · rw [if_pos hc48] at h
      obtain ⟨p66, hq67, h⟩ := bind_some h
      have hl68 := (ln_j_appendFault hq67).trans rfl
      have hr0 := Option.some.inj h
      subst hr0
      show Q.len p66.2 = _
      exact hl68
    · rw [if_neg hc48] at h
      have hr0 := Option.some.inj h
      subst hr0
      show Q.len s = _
      exact rfl
  · rw [if_neg hc28] at h
    have hr0 := Option.some.inj h
    subst hr0
    show Q.len s = _
    exact rfl
set_option maxRecDepth 100000 in
theorem ev_j_inject (R : AHeap) (s : Q) (v1 : Int32) (v2 : Int32) (v3 : Int32) (v4 : Int32) {res : Int32 × Q} {out : Option Value × AHeap} (h : j_inject s v1 v2 v3 v4 = some res) (hk : out = (some (.int res.1), (W1 res.2 R))) : Eval own_P 3 0 [some (.ref 0), some (.int v1), some (.int v2), some (.int v3), some (.int v4), none] [] (W1 s R) out := by
  rw [j_inject] at h
  refine Eval.aload_n rfl rfl ?_
  refine Eval.iload_n rfl rfl ?_
  refine Eval.iload_n rfl rfl ?_
  refine Eval.iload_n rfl rfl ?_
  refine Eval.iload rfl rfl ?_
  obtain ⟨p26, hq27, h⟩ := bind_some h
  refine Eval.callI (rest := []) (x := p26) (H1 := (W1 s R)) rfl rfl (ev_j_validateFaultArguments R s v1 v2 v3 v4 hq27 rfl) ?_
  refine Eval.istore (L' := [some (.ref 0), some (.int v1), some (.int v2), some (.int v3), some (.int v4), some (.int p26)]) rfl rfl ?_
  refine Eval.iload rfl rfl ?_
  by_cases hc28 : p26 = (0 : Int32)
  · rw [if_pos hc28] at h
    refine Eval.ifT (t := 19) rfl rfl (teq hc28).1 ?_
    refine Eval.aload_n rfl rfl ?_
    refine Eval.iload_n rfl rfl ?_
    refine Eval.iload_n rfl rfl ?_
    refine Eval.iload_n rfl rfl ?_
    obtain ⟨p46, hq47, h⟩ := bind_some h
    refine Eval.callI (rest := []) (x := p46) (H1 := (W1 s R)) rfl rfl (ev_j_validateFaultRoom R s v1 v2 v3 hq47 rfl) ?_
    refine Eval.istore (L' := [some (.ref 0), some (.int v1), some (.int v2), some (.int v3), some (.int v4), some (.int p46)]) rfl rfl ?_
    refine Eval.iload rfl rfl ?_
    by_cases hc48 : p46 = (0 : Int32)
    · rw [if_pos hc48] at h
      refine Eval.ifT (t := 36) rfl rfl (teq hc48).1 ?_
      refine Eval.aload_n rfl rfl ?_
      refine Eval.iload_n rfl rfl ?_
      refine Eval.iload_n rfl rfl ?_
      refine Eval.iload_n rfl rfl ?_
      refine Eval.iload rfl rfl ?_
      obtain ⟨p66, hq67, h⟩ := bind_some h
      refine Eval.callI (rest := []) (x := p66.1) (H1 := (W1 p66.2 R)) rfl rfl (ev_j_appendFault R s v1 v2 v3 v4 hq67 rfl) ?_
      cases h
      subst hk
      exact Eval.ret rfl rfl
    · rw [if_neg hc48] at h
      refine Eval.ifF rfl (feq hc48).1 ?_
      refine Eval.iload rfl rfl ?_
      cases h
      subst hk
      exact Eval.ret rfl rfl
  · rw [if_neg hc28] at h
    refine Eval.ifF rfl (feq hc28).1 ?_
    refine Eval.iload rfl rfl ?_
    cases h
    subst hk
    exact Eval.ret rfl rfl
abbrev j_clearProgram_l2_K (R : AHeap) (res : Q) (out : Option Value × AHeap) : Prop := Eval own_P 12 35 [some (.ref 0), none] [] (W1 res R) out

abbrev j_clearProgram_l2_N (s : Q) (res : Q) : Prop := Q.len res = Q.len s
def j_clearProgram_l2 : Nat → Q → Int32 → Option (Q)
  | 0, _, _ => none
  | n + 1, s, v1 => (if v1 < (8 : Int32) then (if inb s.f_elementOrder.length v1 = true then (if inb s.f_elementCount.length v1 = true then (if inb s.f_elementOps.length v1 = true then (j_clearProgram_l2 n (Q.mk s.f_cells s.f_faultKind s.f_faultVictim s.f_faultAggressor s.f_faultTrigger s.f_victimSlot s.f_aggressorUses (wr s.f_elementOrder v1 (0 : Int32)) (wr s.f_elementCount v1 (0 : Int32)) (wr s.f_elementOps v1 (0 : Int32)) s.f_logBuffer s.f_remap s.f_spareTaken s.f_spareRows s.f_faultLimit s.f_logLimit s.f_latchBit s.f_faultCount s.f_programLength s.f_logLength s.f_failMask) (v1 + (1 : Int32))) else none) else none) else none) else some (s))
theorem ln_j_clearProgram_l2 : ∀ {n : Nat} {s : Q} {v1 : Int32} {res : Q}, j_clearProgram_l2 n s v1 = some res → j_clearProgram_l2_N s res := by
  intro n
  induction n with
  | zero => intro _ _ res h; cases h
  | succ n hrec0 =>
    have hrec : ∀ (s : Q) (v1 : Int32) {res : Q}, j_clearProgram_l2 n s v1 = some res → j_clearProgram_l2_N s res := by intros; apply hrec0; assumption
    intro s v1 res h
    rw [j_clearProgram_l2] at h
    by_cases hc76 : v1 < (8 : Int32)
    · rw [if_pos hc76] at h
      obtain ⟨hb77, h⟩ := ite_some h
      obtain ⟨hb78, h⟩ := ite_some h
      obtain ⟨hb79, h⟩ := ite_some h
      exact (hrec _ _ h).trans (Eq.trans (show Q.len (Q.mk s.f_cells s.f_faultKind s.f_faultVictim s.f_faultAggressor s.f_faultTrigger s.f_victimSlot s.f_aggressorUses (wr s.f_elementOrder v1 (0 : Int32)) (wr s.f_elementCount v1 (0 : Int32)) (wr s.f_elementOps v1 (0 : Int32)) s.f_logBuffer s.f_remap s.f_spareTaken s.f_spareRows s.f_faultLimit s.f_logLimit s.f_latchBit s.f_faultCount s.f_programLength s.f_logLength s.f_failMask) = Q.len s from own_lenmk.trans (by first | (simp only [len_wr, len_wrL] <;> rfl) | rfl)) rfl)
    · rw [if_neg hc76] at h
      have hr0 := Option.some.inj h
      subst hr0
      show Q.len s = _
      exact rfl
set_option maxRecDepth 100000 in
theorem ev_j_clearProgram_l2 (R : AHeap) : ∀ (n : Nat) (s : Q) (v1 : Int32) {res : Q} {out : Option Value × AHeap}, j_clearProgram_l2 n s v1 = some res → j_clearProgram_l2_K R res out → Eval own_P 12 2 [some (.ref 0), some (.int v1)] [] (W1 s R) out := by
  intro n
  induction n with
  | zero => intro _ _ res out h hk; cases h
  | succ n hrec =>
    intro s v1 res out h hk
    rw [j_clearProgram_l2] at h
    refine Eval.iload_n rfl rfl ?_
    refine Eval.bipush (x := (8 : Int32)) rfl rfl ?_
    by_cases hc76 : v1 < (8 : Int32)
    · rw [if_pos hc76] at h
      refine Eval.icmpF rfl (tlt hc76).2.1 ?_
      refine Eval.aload_n rfl rfl ?_
      refine Eval.getfield rfl rfl own_g1_elementOrder ?_
      refine Eval.iload_n rfl rfl ?_
      refine Eval.iconst (x := (0 : Int32)) rfl rfl ?_
      obtain ⟨hb77, h⟩ := ite_some h
      refine Eval.iastore rfl rfl own_a1_elementOrder hb77 own_s1_elementOrder ?_
      refine Eval.aload_n rfl rfl ?_
      refine Eval.getfield rfl rfl own_g1_elementCount ?_
      refine Eval.iload_n rfl rfl ?_
      refine Eval.iconst (x := (0 : Int32)) rfl rfl ?_
      obtain ⟨hb78, h⟩ := ite_some h
      refine Eval.iastore rfl rfl own_a1_elementCount hb78 own_s1_elementCount ?_
      refine Eval.aload_n rfl rfl ?_
      refine Eval.getfield rfl rfl own_g1_elementOps ?_
      refine Eval.iload_n rfl rfl ?_
      refine Eval.iconst (x := (0 : Int32)) rfl rfl ?_
      obtain ⟨hb79, h⟩ := ite_some h
      refine Eval.iastore rfl rfl own_a1_elementOps hb79 own_s1_elementOps ?_
      refine Eval.iinc (L' := [some (.ref 0), some (.int (v1 + (1 : Int32)))]) rfl rfl rfl ?_
      refine Eval.goto (t := 2) rfl rfl ?_
      refine Eval.heap own_mk1 ?_
      exact hrec _ _ h hk
    · rw [if_neg hc76] at h
      refine Eval.icmpT (t := 35) rfl rfl (flt hc76).2.1 ?_
      cases h
      refine Eval.weak (L' := [some (.ref 0), none]) ⟨_, _, rfl, Or.inr rfl, _, _, rfl, Or.inl rfl, rfl⟩ ?_
      exact hk
def j_clearProgram (s : Q) : Option (Q) := ((j_clearProgram_l2 3000 s (0 : Int32)).bind fun p80 => some ((Q.mk p80.f_cells p80.f_faultKind p80.f_faultVictim p80.f_faultAggressor p80.f_faultTrigger p80.f_victimSlot p80.f_aggressorUses p80.f_elementOrder p80.f_elementCount p80.f_elementOps p80.f_logBuffer p80.f_remap p80.f_spareTaken p80.f_spareRows p80.f_faultLimit p80.f_logLimit p80.f_latchBit p80.f_faultCount (0 : Int32) p80.f_logLength p80.f_failMask)))
theorem ln_j_clearProgram {s : Q} {res : Q} (h : j_clearProgram s = some res) : Q.len res = Q.len s := by
  rw [j_clearProgram] at h
  obtain ⟨p80, hq81, h⟩ := bind_some h
  have hl82 : Q.len p80 = _ := Eq.trans (ln_j_clearProgram_l2 hq81) rfl
  have hr0 := Option.some.inj h
  subst hr0
  show Q.len (Q.mk p80.f_cells p80.f_faultKind p80.f_faultVictim p80.f_faultAggressor p80.f_faultTrigger p80.f_victimSlot p80.f_aggressorUses p80.f_elementOrder p80.f_elementCount p80.f_elementOps p80.f_logBuffer p80.f_remap p80.f_spareTaken p80.f_spareRows p80.f_faultLimit p80.f_logLimit p80.f_latchBit p80.f_faultCount (0 : Int32) p80.f_logLength p80.f_failMask) = _
  exact (Eq.trans (show Q.len (Q.mk p80.f_cells p80.f_faultKind p80.f_faultVictim p80.f_faultAggressor p80.f_faultTrigger p80.f_victimSlot p80.f_aggressorUses p80.f_elementOrder p80.f_elementCount p80.f_elementOps p80.f_logBuffer p80.f_remap p80.f_spareTaken p80.f_spareRows p80.f_faultLimit p80.f_logLimit p80.f_latchBit p80.f_faultCount (0 : Int32) p80.f_logLength p80.f_failMask) = Q.len p80 from own_lenmk.trans (by first | (simp only [len_wr, len_wrL] <;> rfl) | rfl)) hl82)
set_option maxRecDepth 100000 in
theorem ev_j_clearProgram (R : AHeap) (s : Q) {res : Q} {out : Option Value × AHeap} (h : j_clearProgram s = some res) (hk : out = (none, (W1 res R))) : Eval own_P 12 0 [some (.ref 0), none] [] (W1 s R) out := by
  rw [j_clearProgram] at h
  refine Eval.iconst (x := (0 : Int32)) rfl rfl ?_
  refine Eval.istore_n (L' := [some (.ref 0), some (.int (0 : Int32))]) rfl rfl ?_
  obtain ⟨p80, hq81, h⟩ := bind_some h
  refine ev_j_clearProgram_l2 R _ s (0 : Int32) hq81 ?_
  show Eval own_P 12 35 [some (.ref 0), none] [] (W1 p80 R) out
  refine Eval.aload_n rfl rfl ?_
  refine Eval.iconst (x := (0 : Int32)) rfl rfl ?_
  refine Eval.putfield rfl rfl own_p1_programLength ?_
  cases h
  subst hk
  exact Eval.retH own_mk1 rfl rfl
def j_opsMask (v1 : Int32) : Int32 := (if v1 < (1 : Int32) then ((0 : Int32)) else (if (4 : Int32) < v1 then ((255 : Int32)) else (((ish (1 : Int32) ((2 : Int32) * v1)) - (1 : Int32)))))
set_option maxRecDepth 100000 in
theorem ev_j_opsMask (H : AHeap) (a : Nat) (v1 : Int32) {res : Int32} {out : Option Value × AHeap} (h : j_opsMask v1 = res) (hk : out = (some (.int res), H)) : Eval own_P 16 0 [some (.ref a), some (.int v1)] [] H out := by
  rw [j_opsMask] at h
  refine Eval.iload_n rfl rfl ?_
  refine Eval.iconst (x := (1 : Int32)) rfl rfl ?_
  by_cases hc91 : v1 < (1 : Int32)
  · rw [if_pos hc91] at h
    refine Eval.icmpF rfl (tlt hc91).2.1 ?_
    refine Eval.iconst (x := (0 : Int32)) rfl rfl ?_
    subst h
    subst hk
    exact Eval.ret rfl rfl
  · rw [if_neg hc91] at h
    refine Eval.icmpT (t := 7) rfl rfl (flt hc91).2.1 ?_
    refine Eval.iload_n rfl rfl ?_
    refine Eval.iconst (x := (4 : Int32)) rfl rfl ?_
    by_cases hc92 : (4 : Int32) < v1
    · rw [if_pos hc92] at h
      refine Eval.icmpF rfl (tlt hc92).2.2.2 ?_
      refine Eval.sipush (x := (255 : Int32)) rfl rfl ?_
      subst h
      subst hk
      exact Eval.ret rfl rfl
    · rw [if_neg hc92] at h
      refine Eval.icmpT (t := 16) rfl rfl (flt hc92).2.2.2 ?_
      refine Eval.iconst (x := (1 : Int32)) rfl rfl ?_
      refine Eval.iconst (x := (2 : Int32)) rfl rfl ?_
      refine Eval.iload_n rfl rfl ?_
      refine Eval.imul rfl ?_
      refine Eval.ishl rfl ?_
      refine Eval.iconst (x := (1 : Int32)) rfl rfl ?_
      refine Eval.isub rfl ?_
      subst h
      subst hk
      exact Eval.ret rfl rfl
def j_appendElement (s : Q) (v1 : Int32) (v2 : Int32) (v3 : Int32) : Option (Int32 × Q) := (if s.f_programLength < (0 : Int32) then some ((-6 : Int32), s) else (if s.f_programLength < (8 : Int32) then (if inb s.f_elementOrder.length s.f_programLength = true then (if inb s.f_elementCount.length s.f_programLength = true then (if inb s.f_elementOps.length s.f_programLength = true then some (s.f_programLength, (Q.mk s.f_cells s.f_faultKind s.f_faultVictim s.f_faultAggressor s.f_faultTrigger s.f_victimSlot s.f_aggressorUses (wr s.f_elementOrder s.f_programLength v1) (wr s.f_elementCount s.f_programLength v2) (wr s.f_elementOps s.f_programLength (v3 &&& (j_opsMask v2))) s.f_logBuffer s.f_remap s.f_spareTaken s.f_spareRows s.f_faultLimit s.f_logLimit s.f_latchBit s.f_faultCount (s.f_programLength + (1 : Int32)) s.f_logLength s.f_failMask)) else none) else none) else none) else some ((-6 : Int32), s)))
theorem ln_j_appendElement {s : Q} {v1 : Int32} {v2 : Int32} {v3 : Int32} {res : Int32 × Q} (h : j_appendElement s v1 v2 v3 = some res) : Q.len res.2 = Q.len s := by
  rw [j_appendElement] at h
  by_cases hc87 : s.f_programLength < (0 : Int32)
  · rw [if_pos hc87] at h
    have hr0 := Option.some.inj h
    subst hr0
    show Q.len s = _
    exact rfl
  · rw [if_neg hc87] at h
    by_cases hc88 : s.f_programLength < (8 : Int32)
    · rw [if_pos hc88] at h
      obtain ⟨hb89, h⟩ := ite_some h
      obtain ⟨hb90, h⟩ := ite_some h
      obtain ⟨hb93, h⟩ := ite_some h
      have hr0 := Option.some.inj h
      subst hr0
      show Q.len (Q.mk s.f_cells s.f_faultKind s.f_faultVictim s.f_faultAggressor s.f_faultTrigger s.f_victimSlot s.f_aggressorUses (wr s.f_elementOrder s.f_programLength v1) (wr s.f_elementCount s.f_programLength v2) (wr s.f_elementOps s.f_programLength (v3 &&& (j_opsMask v2))) s.f_logBuffer s.f_remap s.f_spareTaken s.f_spareRows s.f_faultLimit s.f_logLimit s.f_latchBit s.f_faultCount (s.f_programLength + (1 : Int32)) s.f_logLength s.f_failMask) = _
      exact (Eq.trans (show Q.len (Q.mk s.f_cells s.f_faultKind s.f_faultVictim s.f_faultAggressor s.f_faultTrigger s.f_victimSlot s.f_aggressorUses (wr s.f_elementOrder s.f_programLength v1) (wr s.f_elementCount s.f_programLength v2) (wr s.f_elementOps s.f_programLength (v3 &&& (j_opsMask v2))) s.f_logBuffer s.f_remap s.f_spareTaken s.f_spareRows s.f_faultLimit s.f_logLimit s.f_latchBit s.f_faultCount (s.f_programLength + (1 : Int32)) s.f_logLength s.f_failMask) = Q.len s from own_lenmk.trans (by first | (simp only [len_wr, len_wrL] <;> rfl) | rfl)) rfl)
    · rw [if_neg hc88] at h
      have hr0 := Option.some.inj h
      subst hr0
      show Q.len s = _
      exact rfl
set_option maxRecDepth 100000 in
theorem ev_j_appendElement (R : AHeap) (s : Q) (v1 : Int32) (v2 : Int32) (v3 : Int32) {res : Int32 × Q} {out : Option Value × AHeap} (h : j_appendElement s v1 v2 v3 = some res) (hk : out = (some (.int res.1), (W1 res.2 R))) : Eval own_P 15 0 [some (.ref 0), some (.int v1), some (.int v2), some (.int v3), none] [] (W1 s R) out := by
  rw [j_appendElement] at h
  refine Eval.aload_n rfl rfl ?_
  refine Eval.getfield rfl rfl own_g1_programLength ?_
  refine Eval.istore (L' := [some (.ref 0), some (.int v1), some (.int v2), some (.int v3), some (.int s.f_programLength)]) rfl rfl ?_
  refine Eval.iload rfl rfl ?_
  by_cases hc87 : s.f_programLength < (0 : Int32)
  · rw [if_pos hc87] at h
    refine Eval.ifT (t := 18) rfl rfl (tlt hc87).1 ?_
    refine Eval.bipush (x := (-6 : Int32)) rfl rfl ?_
    cases h
    subst hk
    exact Eval.ret rfl rfl
  · rw [if_neg hc87] at h
    refine Eval.ifF rfl (flt hc87).1 ?_
    refine Eval.iload rfl rfl ?_
    refine Eval.bipush (x := (8 : Int32)) rfl rfl ?_
    by_cases hc88 : s.f_programLength < (8 : Int32)
    · rw [if_pos hc88] at h
      refine Eval.icmpT (t := 21) rfl rfl (tlt hc88).1 ?_
      refine Eval.aload_n rfl rfl ?_
      refine Eval.getfield rfl rfl own_g1_elementOrder ?_
      refine Eval.iload rfl rfl ?_
      refine Eval.iload_n rfl rfl ?_
      obtain ⟨hb89, h⟩ := ite_some h
      refine Eval.iastore rfl rfl own_a1_elementOrder hb89 own_s1_elementOrder ?_
      refine Eval.aload_n rfl rfl ?_
      refine Eval.getfield rfl rfl own_g1_elementCount ?_
      refine Eval.iload rfl rfl ?_
      refine Eval.iload_n rfl rfl ?_
      obtain ⟨hb90, h⟩ := ite_some h
      refine Eval.iastore rfl rfl own_a1_elementCount hb90 own_s1_elementCount ?_
      refine Eval.aload_n rfl rfl ?_
      refine Eval.getfield rfl rfl own_g1_elementOps ?_
      refine Eval.iload rfl rfl ?_
      refine Eval.iload_n rfl rfl ?_
      refine Eval.aload_n rfl rfl ?_
      refine Eval.iload_n rfl rfl ?_
      refine Eval.callI (rest := [.int v3, .int s.f_programLength, .ref 10]) (x := (j_opsMask v2)) (H1 := (C1 s.f_cells s.f_faultKind s.f_faultVictim s.f_faultAggressor s.f_faultTrigger s.f_victimSlot s.f_aggressorUses (wr s.f_elementOrder s.f_programLength v1) (wr s.f_elementCount s.f_programLength v2) s.f_elementOps s.f_logBuffer s.f_remap s.f_spareTaken s.f_spareRows s.f_faultLimit s.f_logLimit s.f_latchBit s.f_faultCount s.f_programLength s.f_logLength s.f_failMask R)) rfl rfl (ev_j_opsMask (C1 s.f_cells s.f_faultKind s.f_faultVictim s.f_faultAggressor s.f_faultTrigger s.f_victimSlot s.f_aggressorUses (wr s.f_elementOrder s.f_programLength v1) (wr s.f_elementCount s.f_programLength v2) s.f_elementOps s.f_logBuffer s.f_remap s.f_spareTaken s.f_spareRows s.f_faultLimit s.f_logLimit s.f_latchBit s.f_faultCount s.f_programLength s.f_logLength s.f_failMask R) 0 v2 rfl rfl) ?_
      refine Eval.iand rfl ?_
      obtain ⟨hb93, h⟩ := ite_some h
      refine Eval.iastore rfl rfl own_a1_elementOps hb93 own_s1_elementOps ?_
      refine Eval.aload_n rfl rfl ?_
      refine Eval.iload rfl rfl ?_
      refine Eval.iconst (x := (1 : Int32)) rfl rfl ?_
      refine Eval.iadd rfl ?_
      refine Eval.putfield rfl rfl own_p1_programLength ?_
      refine Eval.iload rfl rfl ?_
      cases h
      subst hk
      exact Eval.retH own_mk1 rfl rfl
    · rw [if_neg hc88] at h
      refine Eval.icmpF rfl (flt hc88).1 ?_
      refine Eval.bipush (x := (-6 : Int32)) rfl rfl ?_
      cases h
      subst hk
      exact Eval.ret rfl rfl
def j_presetElement (s : Q) (v1 : Int32) (v2 : Int32) (v3 : Int32) (v4 : Int32) (v5 : Int32) : Option (Q) := ((j_appendElement s v1 v2 (((v3 &&& (3 : Int32)) ||| (ish (v4 &&& (3 : Int32)) (2 : Int32))) ||| (ish (v5 &&& (3 : Int32)) (4 : Int32)))).bind fun p94 => some (p94.2))
theorem ln_j_presetElement {s : Q} {v1 : Int32} {v2 : Int32} {v3 : Int32} {v4 : Int32} {v5 : Int32} {res : Q} (h : j_presetElement s v1 v2 v3 v4 v5 = some res) : Q.len res = Q.len s := by
  rw [j_presetElement] at h
  obtain ⟨p94, hq95, h⟩ := bind_some h
  have hl96 := (ln_j_appendElement hq95).trans rfl
  have hr0 := Option.some.inj h
  subst hr0
  show Q.len p94.2 = _
  exact hl96
set_option maxRecDepth 100000 in
theorem ev_j_presetElement (R : AHeap) (s : Q) (v1 : Int32) (v2 : Int32) (v3 : Int32) (v4 : Int32) (v5 : Int32) {res : Q} {out : Option Value × AHeap} (h : j_presetElement s v1 v2 v3 v4 v5 = some res) (hk : out = (none, (W1 res R))) : Eval own_P 14 0 [some (.ref 0), some (.int v1), some (.int v2), some (.int v3), some (.int v4), some (.int v5), none] [] (W1 s R) out := by
  rw [j_presetElement] at h
  refine Eval.iload_n rfl rfl ?_
  refine Eval.iconst (x := (3 : Int32)) rfl rfl ?_
  refine Eval.iand rfl ?_
  refine Eval.istore (L' := [some (.ref 0), some (.int v1), some (.int v2), some (.int v3), some (.int v4), some (.int v5), some (.int (v3 &&& (3 : Int32)))]) rfl rfl ?_
  refine Eval.iload rfl rfl ?_
  refine Eval.iload rfl rfl ?_
  refine Eval.iconst (x := (3 : Int32)) rfl rfl ?_
  refine Eval.iand rfl ?_
  refine Eval.iconst (x := (2 : Int32)) rfl rfl ?_
  refine Eval.ishl rfl ?_
  refine Eval.ior rfl ?_
  refine Eval.istore (L' := [some (.ref 0), some (.int v1), some (.int v2), some (.int v3), some (.int v4), some (.int v5), some (.int ((v3 &&& (3 : Int32)) ||| (ish (v4 &&& (3 : Int32)) (2 : Int32))))]) rfl rfl ?_
  refine Eval.iload rfl rfl ?_
  refine Eval.iload rfl rfl ?_
  refine Eval.iconst (x := (3 : Int32)) rfl rfl ?_
  refine Eval.iand rfl ?_
  refine Eval.iconst (x := (4 : Int32)) rfl rfl ?_
  refine Eval.ishl rfl ?_
  refine Eval.ior rfl ?_
  refine Eval.istore (L' := [some (.ref 0), some (.int v1), some (.int v2), some (.int v3), some (.int v4), some (.int v5), some (.int (((v3 &&& (3 : Int32)) ||| (ish (v4 &&& (3 : Int32)) (2 : Int32))) ||| (ish (v5 &&& (3 : Int32)) (4 : Int32))))]) rfl rfl ?_
  refine Eval.aload_n rfl rfl ?_
  refine Eval.iload_n rfl rfl ?_
  refine Eval.iload_n rfl rfl ?_
  refine Eval.iload rfl rfl ?_
  obtain ⟨p94, hq95, h⟩ := bind_some h
  refine Eval.callI (rest := []) (x := p94.1) (H1 := (W1 p94.2 R)) rfl rfl (ev_j_appendElement R s v1 v2 (((v3 &&& (3 : Int32)) ||| (ish (v4 &&& (3 : Int32)) (2 : Int32))) ||| (ish (v5 &&& (3 : Int32)) (4 : Int32))) hq95 rfl) ?_
  refine Eval.popI rfl ?_
  cases h
  subst hk
  exact Eval.ret rfl rfl
def j_loadMatsPlus (s : Q) : Option (Q) := ((j_presetElement s (0 : Int32) (1 : Int32) (2 : Int32) (0 : Int32) (0 : Int32)).bind fun p97 => ((j_presetElement p97 (0 : Int32) (2 : Int32) (0 : Int32) (3 : Int32) (0 : Int32)).bind fun p100 => ((j_presetElement p100 (1 : Int32) (2 : Int32) (1 : Int32) (2 : Int32) (0 : Int32)).bind fun p103 => some (p103))))
theorem ln_j_loadMatsPlus {s : Q} {res : Q} (h : j_loadMatsPlus s = some res) : Q.len res = Q.len s := by
  rw [j_loadMatsPlus] at h
  obtain ⟨p97, hq98, h⟩ := bind_some h
  have hl99 := (ln_j_presetElement hq98).trans rfl
  obtain ⟨p100, hq101, h⟩ := bind_some h
  have hl102 := (ln_j_presetElement hq101).trans hl99
  obtain ⟨p103, hq104, h⟩ := bind_some h
  have hl105 := (ln_j_presetElement hq104).trans hl102
  have hr0 := Option.some.inj h
  subst hr0
  show Q.len p103 = _
  exact hl105
set_option maxRecDepth 100000 in
theorem ev_j_loadMatsPlus (R : AHeap) (s : Q) {res : Q} {out : Option Value × AHeap} (h : j_loadMatsPlus s = some res) (hk : out = (none, (W1 res R))) : Eval own_P 13 0 [some (.ref 0)] [] (W1 s R) out := by
  rw [j_loadMatsPlus] at h
  refine Eval.aload_n rfl rfl ?_
  refine Eval.iconst (x := (0 : Int32)) rfl rfl ?_
  refine Eval.iconst (x := (1 : Int32)) rfl rfl ?_
  refine Eval.iconst (x := (2 : Int32)) rfl rfl ?_
  refine Eval.iconst (x := (0 : Int32)) rfl rfl ?_
  refine Eval.iconst (x := (0 : Int32)) rfl rfl ?_
  obtain ⟨p97, hq98, h⟩ := bind_some h
  refine Eval.callN (rest := []) (H1 := (W1 p97 R)) rfl rfl (ev_j_presetElement R s (0 : Int32) (1 : Int32) (2 : Int32) (0 : Int32) (0 : Int32) hq98 rfl) ?_
  refine Eval.aload_n rfl rfl ?_
  refine Eval.iconst (x := (0 : Int32)) rfl rfl ?_
  refine Eval.iconst (x := (2 : Int32)) rfl rfl ?_
  refine Eval.iconst (x := (0 : Int32)) rfl rfl ?_
  refine Eval.iconst (x := (3 : Int32)) rfl rfl ?_
  refine Eval.iconst (x := (0 : Int32)) rfl rfl ?_
  obtain ⟨p100, hq101, h⟩ := bind_some h
  refine Eval.callN (rest := []) (H1 := (W1 p100 R)) rfl rfl (ev_j_presetElement R p97 (0 : Int32) (2 : Int32) (0 : Int32) (3 : Int32) (0 : Int32) hq101 rfl) ?_
  refine Eval.aload_n rfl rfl ?_
  refine Eval.iconst (x := (1 : Int32)) rfl rfl ?_
  refine Eval.iconst (x := (2 : Int32)) rfl rfl ?_
  refine Eval.iconst (x := (1 : Int32)) rfl rfl ?_
  refine Eval.iconst (x := (2 : Int32)) rfl rfl ?_
  refine Eval.iconst (x := (0 : Int32)) rfl rfl ?_
  obtain ⟨p103, hq104, h⟩ := bind_some h
  refine Eval.callN (rest := []) (H1 := (W1 p103 R)) rfl rfl (ev_j_presetElement R p100 (1 : Int32) (2 : Int32) (1 : Int32) (2 : Int32) (0 : Int32) hq104 rfl) ?_
  cases h
  subst hk
  exact Eval.ret rfl rfl
def j_loadPreset (s : Q) (v1 : Int32) : Option (Int32 × Q) := (if v1 < (0 : Int32) then some ((0 : Int32), s) else (if (3 : Int32) < v1 then some ((0 : Int32), s) else ((j_clearProgram s).bind fun p83 => (if v1 = (1 : Int32) then ((j_loadMatsPlus p83).bind fun p106 => some ((1 : Int32), p106)) else (if v1 = (2 : Int32) then none else (if v1 = (3 : Int32) then none else some ((1 : Int32), p83)))))))
theorem ln_j_loadPreset {s : Q} {v1 : Int32} {res : Int32 × Q} (h : j_loadPreset s v1 = some res) : Q.len res.2 = Q.len s := by
  rw [j_loadPreset] at h
  by_cases hc74 : v1 < (0 : Int32)
  · rw [if_pos hc74] at h
    have hr0 := Option.some.inj h
    subst hr0
    show Q.len s = _
    exact rfl
  · rw [if_neg hc74] at h
    by_cases hc75 : (3 : Int32) < v1
    · rw [if_pos hc75] at h
      have hr0 := Option.some.inj h
      subst hr0
      show Q.len s = _
      exact rfl
    · rw [if_neg hc75] at h
      obtain ⟨p83, hq84, h⟩ := bind_some h
      have hl85 := (ln_j_clearProgram hq84).trans rfl
      by_cases hc86 : v1 = (1 : Int32)
      · rw [if_pos hc86] at h
        obtain ⟨p106, hq107, h⟩ := bind_some h
        have hl108 := (ln_j_loadMatsPlus hq107).trans hl85
        have hr0 := Option.some.inj h
        subst hr0
        show Q.len p106 = _
        exact hl108
      · rw [if_neg hc86] at h
        by_cases hc109 : v1 = (2 : Int32)
        · rw [if_pos hc109] at h
          cases h
        · rw [if_neg hc109] at h
          by_cases hc110 : v1 = (3 : Int32)
          · rw [if_pos hc110] at h
            cases h
          · rw [if_neg hc110] at h
            have hr0 := Option.some.inj h
            subst hr0
            show Q.len p83 = _
            exact hl85
set_option maxRecDepth 100000 in
theorem ev_j_loadPreset (R : AHeap) (s : Q) (v1 : Int32) {res : Int32 × Q} {out : Option Value × AHeap} (h : j_loadPreset s v1 = some res) (hk : out = (some (.int res.1), (W1 res.2 R))) : Eval own_P 11 0 [some (.ref 0), some (.int v1)] [] (W1 s R) out := by
  rw [j_loadPreset] at h
  refine Eval.iload_n rfl rfl ?_
  by_cases hc74 : v1 < (0 : Int32)
  · rw [if_pos hc74] at h
    refine Eval.ifT (t := 9) rfl rfl (tlt hc74).1 ?_
    refine Eval.iconst (x := (0 : Int32)) rfl rfl ?_
    cases h
    subst hk
    exact Eval.ret rfl rfl
  · rw [if_neg hc74] at h
    refine Eval.ifF rfl (flt hc74).1 ?_
    refine Eval.iload_n rfl rfl ?_
    refine Eval.iconst (x := (3 : Int32)) rfl rfl ?_
    by_cases hc75 : (3 : Int32) < v1
    · rw [if_pos hc75] at h
      refine Eval.icmpF rfl (tlt hc75).2.2.2 ?_
      refine Eval.iconst (x := (0 : Int32)) rfl rfl ?_
      cases h
      subst hk
      exact Eval.ret rfl rfl
    · rw [if_neg hc75] at h
      refine Eval.icmpT (t := 11) rfl rfl (flt hc75).2.2.2 ?_
      refine Eval.aload_n rfl rfl ?_
      obtain ⟨p83, hq84, h⟩ := bind_some h
      refine Eval.callN (rest := []) (H1 := (W1 p83 R)) rfl rfl (ev_j_clearProgram R s hq84 rfl) ?_
      refine Eval.iload_n rfl rfl ?_
      refine Eval.iconst (x := (1 : Int32)) rfl rfl ?_
      by_cases hc86 : v1 = (1 : Int32)
      · rw [if_pos hc86] at h
        refine Eval.icmpF rfl (teq hc86).2 ?_
        refine Eval.aload_n rfl rfl ?_
        obtain ⟨p106, hq107, h⟩ := bind_some h
        refine Eval.callN (rest := []) (H1 := (W1 p106 R)) rfl rfl (ev_j_loadMatsPlus R p83 hq107 rfl) ?_
        refine Eval.goto (t := 48) rfl rfl ?_
        refine Eval.iconst (x := (1 : Int32)) rfl rfl ?_
        cases h
        subst hk
        exact Eval.ret rfl rfl
      · rw [if_neg hc86] at h
        refine Eval.icmpT (t := 27) rfl rfl (feq hc86).2 ?_
        refine Eval.iload_n rfl rfl ?_
        refine Eval.iconst (x := (2 : Int32)) rfl rfl ?_
        by_cases hc109 : v1 = (2 : Int32)
        · rw [if_pos hc109] at h
          refine Eval.icmpF rfl (teq hc109).2 ?_
          refine Eval.aload_n rfl rfl ?_
          cases h
        · rw [if_neg hc109] at h
          refine Eval.icmpT (t := 39) rfl rfl (feq hc109).2 ?_
          refine Eval.iload_n rfl rfl ?_
          refine Eval.iconst (x := (3 : Int32)) rfl rfl ?_
          by_cases hc110 : v1 = (3 : Int32)
          · rw [if_pos hc110] at h
            refine Eval.icmpF rfl (teq hc110).2 ?_
            refine Eval.aload_n rfl rfl ?_
            cases h
          · rw [if_neg hc110] at h
            refine Eval.icmpT (t := 48) rfl rfl (feq hc110).2 ?_
            refine Eval.iconst (x := (1 : Int32)) rfl rfl ?_
            cases h
            subst hk
            exact Eval.ret rfl rfl
abbrev j_resetResults_l2_K (R : AHeap) (res : Q) (out : Option Value × AHeap) : Prop := Eval own_P 18 21 [some (.ref 0), none] [] (W1 res R) out

abbrev j_resetResults_l2_N (s : Q) (res : Q) : Prop := Q.len res = Q.len s
def j_resetResults_l2 : Nat → Q → Int32 → Option (Q)
  | 0, _, _ => none
  | n + 1, s, v1 => (if v1 < (32 : Int32) then (if inb s.f_logBuffer.length v1 = true then (j_resetResults_l2 n (Q.mk s.f_cells s.f_faultKind s.f_faultVictim s.f_faultAggressor s.f_faultTrigger s.f_victimSlot s.f_aggressorUses s.f_elementOrder s.f_elementCount s.f_elementOps (wr s.f_logBuffer v1 (0 : Int32)) s.f_remap s.f_spareTaken s.f_spareRows s.f_faultLimit s.f_logLimit s.f_latchBit s.f_faultCount s.f_programLength s.f_logLength s.f_failMask) (v1 + (1 : Int32))) else none) else some (s))
theorem ln_j_resetResults_l2 : ∀ {n : Nat} {s : Q} {v1 : Int32} {res : Q}, j_resetResults_l2 n s v1 = some res → j_resetResults_l2_N s res := by
  intro n
  induction n with
  | zero => intro _ _ res h; cases h
  | succ n hrec0 =>
    have hrec : ∀ (s : Q) (v1 : Int32) {res : Q}, j_resetResults_l2 n s v1 = some res → j_resetResults_l2_N s res := by intros; apply hrec0; assumption
    intro s v1 res h
    rw [j_resetResults_l2] at h
    by_cases hc115 : v1 < (32 : Int32)
    · rw [if_pos hc115] at h
      obtain ⟨hb116, h⟩ := ite_some h
      exact (hrec _ _ h).trans (Eq.trans (show Q.len (Q.mk s.f_cells s.f_faultKind s.f_faultVictim s.f_faultAggressor s.f_faultTrigger s.f_victimSlot s.f_aggressorUses s.f_elementOrder s.f_elementCount s.f_elementOps (wr s.f_logBuffer v1 (0 : Int32)) s.f_remap s.f_spareTaken s.f_spareRows s.f_faultLimit s.f_logLimit s.f_latchBit s.f_faultCount s.f_programLength s.f_logLength s.f_failMask) = Q.len s from own_lenmk.trans (by first | (simp only [len_wr, len_wrL] <;> rfl) | rfl)) rfl)
    · rw [if_neg hc115] at h
      have hr0 := Option.some.inj h
      subst hr0
      show Q.len s = _
      exact rfl
set_option maxRecDepth 100000 in
theorem ev_j_resetResults_l2 (R : AHeap) : ∀ (n : Nat) (s : Q) (v1 : Int32) {res : Q} {out : Option Value × AHeap}, j_resetResults_l2 n s v1 = some res → j_resetResults_l2_K R res out → Eval own_P 18 2 [some (.ref 0), some (.int v1)] [] (W1 s R) out := by
  intro n
  induction n with
  | zero => intro _ _ res out h hk; cases h
  | succ n hrec =>
    intro s v1 res out h hk
    rw [j_resetResults_l2] at h
    refine Eval.iload_n rfl rfl ?_
    refine Eval.bipush (x := (32 : Int32)) rfl rfl ?_
    by_cases hc115 : v1 < (32 : Int32)
    · rw [if_pos hc115] at h
      refine Eval.icmpF rfl (tlt hc115).2.1 ?_
      refine Eval.aload_n rfl rfl ?_
      refine Eval.getfield rfl rfl own_g1_logBuffer ?_
      refine Eval.iload_n rfl rfl ?_
      refine Eval.iconst (x := (0 : Int32)) rfl rfl ?_
      obtain ⟨hb116, h⟩ := ite_some h
      refine Eval.iastore rfl rfl own_a1_logBuffer hb116 own_s1_logBuffer ?_
      refine Eval.iinc (L' := [some (.ref 0), some (.int (v1 + (1 : Int32)))]) rfl rfl rfl ?_
      refine Eval.goto (t := 2) rfl rfl ?_
      refine Eval.heap own_mk1 ?_
      exact hrec _ _ h hk
    · rw [if_neg hc115] at h
      refine Eval.icmpT (t := 21) rfl rfl (flt hc115).2.1 ?_
      cases h
      refine Eval.weak (L' := [some (.ref 0), none]) ⟨_, _, rfl, Or.inr rfl, _, _, rfl, Or.inl rfl, rfl⟩ ?_
      exact hk
def j_resetResults (s : Q) : Option (Q) := ((j_resetResults_l2 3000 s (0 : Int32)).bind fun p117 => some ((Q.mk p117.f_cells p117.f_faultKind p117.f_faultVictim p117.f_faultAggressor p117.f_faultTrigger p117.f_victimSlot p117.f_aggressorUses p117.f_elementOrder p117.f_elementCount p117.f_elementOps p117.f_logBuffer p117.f_remap p117.f_spareTaken p117.f_spareRows p117.f_faultLimit p117.f_logLimit p117.f_latchBit p117.f_faultCount p117.f_programLength (0 : Int32) (0 : Int32))))
theorem ln_j_resetResults {s : Q} {res : Q} (h : j_resetResults s = some res) : Q.len res = Q.len s := by
  rw [j_resetResults] at h
  obtain ⟨p117, hq118, h⟩ := bind_some h
  have hl119 : Q.len p117 = _ := Eq.trans (ln_j_resetResults_l2 hq118) rfl
  have hr0 := Option.some.inj h
  subst hr0
  show Q.len (Q.mk p117.f_cells p117.f_faultKind p117.f_faultVictim p117.f_faultAggressor p117.f_faultTrigger p117.f_victimSlot p117.f_aggressorUses p117.f_elementOrder p117.f_elementCount p117.f_elementOps p117.f_logBuffer p117.f_remap p117.f_spareTaken p117.f_spareRows p117.f_faultLimit p117.f_logLimit p117.f_latchBit p117.f_faultCount p117.f_programLength (0 : Int32) (0 : Int32)) = _
  exact (Eq.trans (show Q.len (Q.mk p117.f_cells p117.f_faultKind p117.f_faultVictim p117.f_faultAggressor p117.f_faultTrigger p117.f_victimSlot p117.f_aggressorUses p117.f_elementOrder p117.f_elementCount p117.f_elementOps p117.f_logBuffer p117.f_remap p117.f_spareTaken p117.f_spareRows p117.f_faultLimit p117.f_logLimit p117.f_latchBit p117.f_faultCount p117.f_programLength (0 : Int32) (0 : Int32)) = Q.len p117 from own_lenmk.trans (by first | (simp only [len_wr, len_wrL] <;> rfl) | rfl)) hl119)
set_option maxRecDepth 100000 in
theorem ev_j_resetResults (R : AHeap) (s : Q) {res : Q} {out : Option Value × AHeap} (h : j_resetResults s = some res) (hk : out = (none, (W1 res R))) : Eval own_P 18 0 [some (.ref 0), none] [] (W1 s R) out := by
  rw [j_resetResults] at h
  refine Eval.iconst (x := (0 : Int32)) rfl rfl ?_
  refine Eval.istore_n (L' := [some (.ref 0), some (.int (0 : Int32))]) rfl rfl ?_
  obtain ⟨p117, hq118, h⟩ := bind_some h
  refine ev_j_resetResults_l2 R _ s (0 : Int32) hq118 ?_
  show Eval own_P 18 21 [some (.ref 0), none] [] (W1 p117 R) out
  refine Eval.aload_n rfl rfl ?_
  refine Eval.iconst (x := (0 : Int32)) rfl rfl ?_
  refine Eval.putfield rfl rfl own_p1_logLength ?_
  refine Eval.aload_n rfl rfl ?_
  refine Eval.iconst (x := (0 : Int32)) rfl rfl ?_
  refine Eval.putfield rfl rfl own_p1_failMask ?_
  cases h
  subst hk
  exact Eval.retH own_mk1 rfl rfl
abbrev j_run_l18_K (R : AHeap) (res : Int32 × Q) (out : Option Value × AHeap) : Prop := Eval own_P 17 46 [none, some (.int res.1), none] [] (W1 res.2 R) out

abbrev j_run_l18_N (s : Q) (res : Int32 × Q) : Prop := Q.len res.2 = Q.len s
def j_isElementIndex (s : Q) (v1 : Int32) : Int32 := (if v1 < (0 : Int32) then ((0 : Int32)) else (if v1 < s.f_programLength then (if v1 < (8 : Int32) then ((1 : Int32)) else ((0 : Int32))) else ((0 : Int32))))
set_option maxRecDepth 100000 in
theorem ev_j_isElementIndex (R : AHeap) (s : Q) (v1 : Int32) {res : Int32} {out : Option Value × AHeap} (h : j_isElementIndex s v1 = res) (hk : out = (some (.int res), (W1 s R))) : Eval own_P 20 0 [some (.ref 0), some (.int v1)] [] (W1 s R) out := by
  rw [j_isElementIndex] at h
  refine Eval.iload_n rfl rfl ?_
  by_cases hc125 : v1 < (0 : Int32)
  · rw [if_pos hc125] at h
    refine Eval.ifT (t := 22) rfl rfl (tlt hc125).1 ?_
    refine Eval.iconst (x := (0 : Int32)) rfl rfl ?_
    subst h
    subst hk
    exact Eval.ret rfl rfl
  · rw [if_neg hc125] at h
    refine Eval.ifF rfl (flt hc125).1 ?_
    refine Eval.iload_n rfl rfl ?_
    refine Eval.aload_n rfl rfl ?_
    refine Eval.getfield rfl rfl own_g1_programLength ?_
    by_cases hc126 : v1 < s.f_programLength
    · rw [if_pos hc126] at h
      refine Eval.icmpF rfl (tlt hc126).2.1 ?_
      refine Eval.iload_n rfl rfl ?_
      refine Eval.bipush (x := (8 : Int32)) rfl rfl ?_
      by_cases hc127 : v1 < (8 : Int32)
      · rw [if_pos hc127] at h
        refine Eval.icmpF rfl (tlt hc127).2.1 ?_
        refine Eval.iconst (x := (1 : Int32)) rfl rfl ?_
        refine Eval.goto (t := 23) rfl rfl ?_
        subst h
        subst hk
        exact Eval.ret rfl rfl
      · rw [if_neg hc127] at h
        refine Eval.icmpT (t := 22) rfl rfl (flt hc127).2.1 ?_
        refine Eval.iconst (x := (0 : Int32)) rfl rfl ?_
        subst h
        subst hk
        exact Eval.ret rfl rfl
    · rw [if_neg hc126] at h
      refine Eval.icmpT (t := 22) rfl rfl (flt hc126).2.1 ?_
      refine Eval.iconst (x := (0 : Int32)) rfl rfl ?_
      subst h
      subst hk
      exact Eval.ret rfl rfl
abbrev j_runElement_l22_K (R : AHeap) (res : Int32 × Q) (out : Option Value × AHeap) : Prop := Eval own_P 19 55 [none, none, none, some (.int res.1), none, none] [] (W1 res.2 R) out

abbrev j_runElement_l22_N (s : Q) (res : Int32 × Q) : Prop := Q.len res.2 = Q.len s
def j_addressAt (v1 : Int32) (v2 : Int32) : Int32 := (if v1 = (1 : Int32) then (((255 : Int32) - v2)) else (v2))
set_option maxRecDepth 100000 in
theorem ev_j_addressAt (H : AHeap) (a : Nat) (v1 : Int32) (v2 : Int32) {res : Int32} {out : Option Value × AHeap} (h : j_addressAt v1 v2 = res) (hk : out = (some (.int res), H)) : Eval own_P 21 0 [some (.ref a), some (.int v1), some (.int v2)] [] H out := by
  rw [j_addressAt] at h
  refine Eval.iload_n rfl rfl ?_
  refine Eval.iconst (x := (1 : Int32)) rfl rfl ?_
  by_cases hc131 : v1 = (1 : Int32)
  · rw [if_pos hc131] at h
    refine Eval.icmpF rfl (teq hc131).2 ?_
    refine Eval.sipush (x := (255 : Int32)) rfl rfl ?_
    refine Eval.iload_n rfl rfl ?_
    refine Eval.isub rfl ?_
    subst h
    subst hk
    exact Eval.ret rfl rfl
  · rw [if_neg hc131] at h
    refine Eval.icmpT (t := 11) rfl rfl (feq hc131).2 ?_
    refine Eval.iload_n rfl rfl ?_
    subst h
    subst hk
    exact Eval.ret rfl rfl
abbrev j_runOpsAt_l13_K (R : AHeap) (res : Int32 × Q) (out : Option Value × AHeap) : Prop := Eval own_P 22 61 [none, none, none, none, some (.int res.1), none, none] [] (W1 res.2 R) out

abbrev j_runOpsAt_l13_N (s : Q) (res : Int32 × Q) : Prop := Q.len res.2 = Q.len s
def j_opAt (s : Q) (v1 : Int32) (v2 : Int32) : Option (Int32) := (if (j_isElementIndex s v1) = (0 : Int32) then some ((0 : Int32)) else (if v2 < (0 : Int32) then some ((0 : Int32)) else (if (3 : Int32) < v2 then some ((0 : Int32)) else (if inb s.f_elementOps.length v1 = true then some (((isr (rd s.f_elementOps v1) ((2 : Int32) * v2)) &&& (3 : Int32))) else none))))
set_option maxRecDepth 100000 in
theorem ev_j_opAt (R : AHeap) (s : Q) (v1 : Int32) (v2 : Int32) {res : Int32} {out : Option Value × AHeap} (h : j_opAt s v1 v2 = some res) (hk : out = (some (.int res), (W1 s R))) : Eval own_P 23 0 [some (.ref 0), some (.int v1), some (.int v2)] [] (W1 s R) out := by
  rw [j_opAt] at h
  refine Eval.aload_n rfl rfl ?_
  refine Eval.iload_n rfl rfl ?_
  refine Eval.callI (rest := []) (x := (j_isElementIndex s v1)) (H1 := (W1 s R)) rfl rfl (ev_j_isElementIndex R s v1 rfl rfl) ?_
  by_cases hc135 : (j_isElementIndex s v1) = (0 : Int32)
  · rw [if_pos hc135] at h
    refine Eval.ifT (t := 17) rfl rfl (teq hc135).1 ?_
    refine Eval.iconst (x := (0 : Int32)) rfl rfl ?_
    cases h
    subst hk
    exact Eval.ret rfl rfl
  · rw [if_neg hc135] at h
    refine Eval.ifF rfl (feq hc135).1 ?_
    refine Eval.iload_n rfl rfl ?_
    by_cases hc136 : v2 < (0 : Int32)
    · rw [if_pos hc136] at h
      refine Eval.ifT (t := 17) rfl rfl (tlt hc136).1 ?_
      refine Eval.iconst (x := (0 : Int32)) rfl rfl ?_
      cases h
      subst hk
      exact Eval.ret rfl rfl
    · rw [if_neg hc136] at h
      refine Eval.ifF rfl (flt hc136).1 ?_
      refine Eval.iload_n rfl rfl ?_
      refine Eval.iconst (x := (3 : Int32)) rfl rfl ?_
      by_cases hc137 : (3 : Int32) < v2
      · rw [if_pos hc137] at h
        refine Eval.icmpF rfl (tlt hc137).2.2.2 ?_
        refine Eval.iconst (x := (0 : Int32)) rfl rfl ?_
        cases h
        subst hk
        exact Eval.ret rfl rfl
      · rw [if_neg hc137] at h
        refine Eval.icmpT (t := 19) rfl rfl (flt hc137).2.2.2 ?_
        refine Eval.aload_n rfl rfl ?_
        refine Eval.getfield rfl rfl own_g1_elementOps ?_
        refine Eval.iload_n rfl rfl ?_
        obtain ⟨hb138, h⟩ := ite_some h
        refine Eval.iaload rfl own_a1_elementOps hb138 ?_
        refine Eval.iconst (x := (2 : Int32)) rfl rfl ?_
        refine Eval.iload_n rfl rfl ?_
        refine Eval.imul rfl ?_
        refine Eval.ishr rfl ?_
        refine Eval.iconst (x := (3 : Int32)) rfl rfl ?_
        refine Eval.iand rfl ?_
        cases h
        subst hk
        exact Eval.ret rfl rfl
def j_routedCell_b37 (s : Q) (v1 : Int32) : Option (Int32) := some ((v1 &&& (255 : Int32)))
set_option maxRecDepth 100000 in
theorem ev_j_routedCell_b37 (R : AHeap) (s : Q) (v1 : Int32) {res : Int32} {out : Option Value × AHeap} (h : j_routedCell_b37 s v1 = some res) (hk : out = (some (.int res), (W1 s R))) : Eval own_P 26 37 [none, some (.int v1), none, none] [] (W1 s R) out := by
  rw [j_routedCell_b37] at h
  refine Eval.iload_n rfl rfl ?_
  refine Eval.sipush (x := (255 : Int32)) rfl rfl ?_
  refine Eval.iand rfl ?_
  cases h
  subst hk
  exact Eval.ret rfl rfl
def j_routedCell (s : Q) (v1 : Int32) : Option (Int32) := (if inb s.f_remap.length ((isr v1 (4 : Int32)) &&& (15 : Int32)) = true then (if (rd s.f_remap ((isr v1 (4 : Int32)) &&& (15 : Int32))) < (0 : Int32) then (j_routedCell_b37 s v1) else (if (rd s.f_remap ((isr v1 (4 : Int32)) &&& (15 : Int32))) < (4 : Int32) then some ((((256 : Int32) + ((16 : Int32) * (rd s.f_remap ((isr v1 (4 : Int32)) &&& (15 : Int32))))) + (v1 &&& (15 : Int32)))) else (j_routedCell_b37 s v1))) else none)
set_option maxRecDepth 100000 in
theorem ev_j_routedCell (R : AHeap) (s : Q) (v1 : Int32) {res : Int32} {out : Option Value × AHeap} (h : j_routedCell s v1 = some res) (hk : out = (some (.int res), (W1 s R))) : Eval own_P 26 0 [some (.ref 0), some (.int v1), none, none] [] (W1 s R) out := by
  rw [j_routedCell] at h
  refine Eval.iload_n rfl rfl ?_
  refine Eval.iconst (x := (4 : Int32)) rfl rfl ?_
  refine Eval.ishr rfl ?_
  refine Eval.bipush (x := (15 : Int32)) rfl rfl ?_
  refine Eval.iand rfl ?_
  refine Eval.istore_n (L' := [some (.ref 0), some (.int v1), some (.int ((isr v1 (4 : Int32)) &&& (15 : Int32))), none]) rfl rfl ?_
  refine Eval.aload_n rfl rfl ?_
  refine Eval.getfield rfl rfl own_g1_remap ?_
  refine Eval.iload_n rfl rfl ?_
  obtain ⟨hb142, h⟩ := ite_some h
  refine Eval.iaload rfl own_a1_remap hb142 ?_
  refine Eval.istore_n (L' := [some (.ref 0), some (.int v1), some (.int ((isr v1 (4 : Int32)) &&& (15 : Int32))), some (.int (rd s.f_remap ((isr v1 (4 : Int32)) &&& (15 : Int32))))]) rfl rfl ?_
  refine Eval.iload_n rfl rfl ?_
  by_cases hc143 : (rd s.f_remap ((isr v1 (4 : Int32)) &&& (15 : Int32))) < (0 : Int32)
  · rw [if_pos hc143] at h
    refine Eval.ifT (t := 37) rfl rfl (tlt hc143).1 ?_
    refine Eval.weak (L' := [none, some (.int v1), none, none]) ⟨_, _, rfl, Or.inl rfl, _, _, rfl, Or.inr rfl, _, _, rfl, Or.inl rfl, _, _, rfl, Or.inl rfl, rfl⟩ ?_
    exact ev_j_routedCell_b37 R s v1 h hk
  · rw [if_neg hc143] at h
    refine Eval.ifF rfl (flt hc143).1 ?_
    refine Eval.iload_n rfl rfl ?_
    refine Eval.iconst (x := (4 : Int32)) rfl rfl ?_
    by_cases hc144 : (rd s.f_remap ((isr v1 (4 : Int32)) &&& (15 : Int32))) < (4 : Int32)
    · rw [if_pos hc144] at h
      refine Eval.icmpF rfl (tlt hc144).2.1 ?_
      refine Eval.sipush (x := (256 : Int32)) rfl rfl ?_
      refine Eval.bipush (x := (16 : Int32)) rfl rfl ?_
      refine Eval.iload_n rfl rfl ?_
      refine Eval.imul rfl ?_
      refine Eval.iadd rfl ?_
      refine Eval.iload_n rfl rfl ?_
      refine Eval.bipush (x := (15 : Int32)) rfl rfl ?_
      refine Eval.iand rfl ?_
      refine Eval.iadd rfl ?_
      cases h
      subst hk
      exact Eval.ret rfl rfl
    · rw [if_neg hc144] at h
      refine Eval.icmpT (t := 37) rfl rfl (flt hc144).2.1 ?_
      refine Eval.weak (L' := [none, some (.int v1), none, none]) ⟨_, _, rfl, Or.inl rfl, _, _, rfl, Or.inr rfl, _, _, rfl, Or.inl rfl, _, _, rfl, Or.inl rfl, rfl⟩ ?_
      exact ev_j_routedCell_b37 R s v1 h hk
def j_victimKind (s : Q) (v1 : Int32) : Option (Int32) := (if (j_isAddress v1) = (0 : Int32) then some ((0 : Int32)) else (if inb s.f_victimSlot.length v1 = true then (if (rd s.f_victimSlot v1) < (1 : Int32) then some ((0 : Int32)) else (if (16 : Int32) < (rd s.f_victimSlot v1) then some ((0 : Int32)) else (if inb s.f_faultKind.length ((rd s.f_victimSlot v1) - (1 : Int32)) = true then some ((rd s.f_faultKind ((rd s.f_victimSlot v1) - (1 : Int32)))) else none))) else none))
set_option maxRecDepth 100000 in
theorem ev_j_victimKind (R : AHeap) (s : Q) (v1 : Int32) {res : Int32} {out : Option Value × AHeap} (h : j_victimKind s v1 = some res) (hk : out = (some (.int res), (W1 s R))) : Eval own_P 29 0 [some (.ref 0), some (.int v1), none] [] (W1 s R) out := by
  rw [j_victimKind] at h
  refine Eval.aload_n rfl rfl ?_
  refine Eval.iload_n rfl rfl ?_
  refine Eval.callI (rest := []) (x := (j_isAddress v1)) (H1 := (W1 s R)) rfl rfl (ev_j_isAddress (W1 s R) 0 v1 rfl rfl) ?_
  by_cases hc149 : (j_isAddress v1) = (0 : Int32)
  · rw [if_pos hc149] at h
    refine Eval.ifF rfl (teq hc149).2 ?_
    refine Eval.iconst (x := (0 : Int32)) rfl rfl ?_
    cases h
    subst hk
    exact Eval.ret rfl rfl
  · rw [if_neg hc149] at h
    refine Eval.ifT (t := 10) rfl rfl (feq hc149).2 ?_
    refine Eval.aload_n rfl rfl ?_
    refine Eval.getfield rfl rfl own_g1_victimSlot ?_
    refine Eval.iload_n rfl rfl ?_
    obtain ⟨hb150, h⟩ := ite_some h
    refine Eval.iaload rfl own_a1_victimSlot hb150 ?_
    refine Eval.istore_n (L' := [some (.ref 0), some (.int v1), some (.int (rd s.f_victimSlot v1))]) rfl rfl ?_
    refine Eval.iload_n rfl rfl ?_
    refine Eval.iconst (x := (1 : Int32)) rfl rfl ?_
    by_cases hc151 : (rd s.f_victimSlot v1) < (1 : Int32)
    · rw [if_pos hc151] at h
      refine Eval.icmpT (t := 28) rfl rfl (tlt hc151).1 ?_
      refine Eval.iconst (x := (0 : Int32)) rfl rfl ?_
      cases h
      subst hk
      exact Eval.ret rfl rfl
    · rw [if_neg hc151] at h
      refine Eval.icmpF rfl (flt hc151).1 ?_
      refine Eval.iload_n rfl rfl ?_
      refine Eval.bipush (x := (16 : Int32)) rfl rfl ?_
      by_cases hc152 : (16 : Int32) < (rd s.f_victimSlot v1)
      · rw [if_pos hc152] at h
        refine Eval.icmpF rfl (tlt hc152).2.2.2 ?_
        refine Eval.iconst (x := (0 : Int32)) rfl rfl ?_
        cases h
        subst hk
        exact Eval.ret rfl rfl
      · rw [if_neg hc152] at h
        refine Eval.icmpT (t := 30) rfl rfl (flt hc152).2.2.2 ?_
        refine Eval.aload_n rfl rfl ?_
        refine Eval.getfield rfl rfl own_g1_faultKind ?_
        refine Eval.iload_n rfl rfl ?_
        refine Eval.iconst (x := (1 : Int32)) rfl rfl ?_
        refine Eval.isub rfl ?_
        obtain ⟨hb153, h⟩ := ite_some h
        refine Eval.iaload rfl own_a1_faultKind hb153 ?_
        cases h
        subst hk
        exact Eval.ret rfl rfl
def j_faultyNewBit_b44 (s : Q) (v2 : Int32) (v3 : Int32) (v4 : Int32) : Option (Int32) := (if v4 = (4 : Int32) then (if v2 = (1 : Int32) then (if v3 = (0 : Int32) then some (v2) else some (v3)) else some (v3)) else some (v3))
set_option maxRecDepth 100000 in
theorem ev_j_faultyNewBit_b44 (R : AHeap) (s : Q) (v2 : Int32) (v3 : Int32) (v4 : Int32) {res : Int32} {out : Option Value × AHeap} (h : j_faultyNewBit_b44 s v2 v3 v4 = some res) (hk : out = (some (.int res), (W1 s R))) : Eval own_P 28 44 [none, none, some (.int v2), some (.int v3), some (.int v4)] [] (W1 s R) out := by
  rw [j_faultyNewBit_b44] at h
  refine Eval.iload rfl rfl ?_
  refine Eval.iconst (x := (4 : Int32)) rfl rfl ?_
  by_cases hc162 : v4 = (4 : Int32)
  · rw [if_pos hc162] at h
    refine Eval.icmpF rfl (teq hc162).2 ?_
    refine Eval.iload_n rfl rfl ?_
    refine Eval.iconst (x := (1 : Int32)) rfl rfl ?_
    by_cases hc163 : v2 = (1 : Int32)
    · rw [if_pos hc163] at h
      refine Eval.icmpF rfl (teq hc163).2 ?_
      refine Eval.iload_n rfl rfl ?_
      by_cases hc164 : v3 = (0 : Int32)
      · rw [if_pos hc164] at h
        refine Eval.ifF rfl (teq hc164).2 ?_
        refine Eval.iload_n rfl rfl ?_
        cases h
        subst hk
        exact Eval.ret rfl rfl
      · rw [if_neg hc164] at h
        refine Eval.ifT (t := 61) rfl rfl (feq hc164).2 ?_
        refine Eval.iload_n rfl rfl ?_
        cases h
        subst hk
        exact Eval.ret rfl rfl
    · rw [if_neg hc163] at h
      refine Eval.icmpT (t := 61) rfl rfl (feq hc163).2 ?_
      refine Eval.iload_n rfl rfl ?_
      cases h
      subst hk
      exact Eval.ret rfl rfl
  · rw [if_neg hc162] at h
    refine Eval.icmpT (t := 61) rfl rfl (feq hc162).2 ?_
    refine Eval.iload_n rfl rfl ?_
    cases h
    subst hk
    exact Eval.ret rfl rfl
def j_faultyNewBit (s : Q) (v1 : Int32) (v2 : Int32) (v3 : Int32) : Option (Int32) := ((j_victimKind s v1).bind fun p154 => (if p154 = (1 : Int32) then some (v2) else (if p154 = (2 : Int32) then some (v2) else (if p154 = (5 : Int32) then some (v2) else (if p154 = (3 : Int32) then (if v2 = (0 : Int32) then (if v3 = (1 : Int32) then some (v2) else (j_faultyNewBit_b44 s v2 v3 p154)) else (j_faultyNewBit_b44 s v2 v3 p154)) else (j_faultyNewBit_b44 s v2 v3 p154))))))
set_option maxRecDepth 100000 in
theorem ev_j_faultyNewBit (R : AHeap) (s : Q) (v1 : Int32) (v2 : Int32) (v3 : Int32) {res : Int32} {out : Option Value × AHeap} (h : j_faultyNewBit s v1 v2 v3 = some res) (hk : out = (some (.int res), (W1 s R))) : Eval own_P 28 0 [some (.ref 0), some (.int v1), some (.int v2), some (.int v3), none] [] (W1 s R) out := by
  rw [j_faultyNewBit] at h
  refine Eval.aload_n rfl rfl ?_
  refine Eval.iload_n rfl rfl ?_
  obtain ⟨p154, hq155, h⟩ := bind_some h
  refine Eval.callI (rest := []) (x := p154) (H1 := (W1 s R)) rfl rfl (ev_j_victimKind R s v1 hq155 rfl) ?_
  refine Eval.istore (L' := [some (.ref 0), some (.int v1), some (.int v2), some (.int v3), some (.int p154)]) rfl rfl ?_
  refine Eval.iload rfl rfl ?_
  refine Eval.iconst (x := (1 : Int32)) rfl rfl ?_
  by_cases hc156 : p154 = (1 : Int32)
  · rw [if_pos hc156] at h
    refine Eval.icmpT (t := 25) rfl rfl (teq hc156).1 ?_
    refine Eval.iload_n rfl rfl ?_
    cases h
    subst hk
    exact Eval.ret rfl rfl
  · rw [if_neg hc156] at h
    refine Eval.icmpF rfl (feq hc156).1 ?_
    refine Eval.iload rfl rfl ?_
    refine Eval.iconst (x := (2 : Int32)) rfl rfl ?_
    by_cases hc157 : p154 = (2 : Int32)
    · rw [if_pos hc157] at h
      refine Eval.icmpT (t := 25) rfl rfl (teq hc157).1 ?_
      refine Eval.iload_n rfl rfl ?_
      cases h
      subst hk
      exact Eval.ret rfl rfl
    · rw [if_neg hc157] at h
      refine Eval.icmpF rfl (feq hc157).1 ?_
      refine Eval.iload rfl rfl ?_
      refine Eval.iconst (x := (5 : Int32)) rfl rfl ?_
      by_cases hc158 : p154 = (5 : Int32)
      · rw [if_pos hc158] at h
        refine Eval.icmpF rfl (teq hc158).2 ?_
        refine Eval.iload_n rfl rfl ?_
        cases h
        subst hk
        exact Eval.ret rfl rfl
      · rw [if_neg hc158] at h
        refine Eval.icmpT (t := 27) rfl rfl (feq hc158).2 ?_
        refine Eval.iload rfl rfl ?_
        refine Eval.iconst (x := (3 : Int32)) rfl rfl ?_
        by_cases hc159 : p154 = (3 : Int32)
        · rw [if_pos hc159] at h
          refine Eval.icmpF rfl (teq hc159).2 ?_
          refine Eval.iload_n rfl rfl ?_
          by_cases hc160 : v2 = (0 : Int32)
          · rw [if_pos hc160] at h
            refine Eval.ifF rfl (teq hc160).2 ?_
            refine Eval.iload_n rfl rfl ?_
            refine Eval.iconst (x := (1 : Int32)) rfl rfl ?_
            by_cases hc161 : v3 = (1 : Int32)
            · rw [if_pos hc161] at h
              refine Eval.icmpF rfl (teq hc161).2 ?_
              refine Eval.iload_n rfl rfl ?_
              cases h
              subst hk
              exact Eval.ret rfl rfl
            · rw [if_neg hc161] at h
              refine Eval.icmpT (t := 44) rfl rfl (feq hc161).2 ?_
              refine Eval.weak (L' := [none, none, some (.int v2), some (.int v3), some (.int p154)]) ⟨_, _, rfl, Or.inl rfl, _, _, rfl, Or.inl rfl, _, _, rfl, Or.inr rfl, _, _, rfl, Or.inr rfl, _, _, rfl, Or.inr rfl, rfl⟩ ?_
              exact ev_j_faultyNewBit_b44 R s v2 v3 p154 h hk
          · rw [if_neg hc160] at h
            refine Eval.ifT (t := 44) rfl rfl (feq hc160).2 ?_
            refine Eval.weak (L' := [none, none, some (.int v2), some (.int v3), some (.int p154)]) ⟨_, _, rfl, Or.inl rfl, _, _, rfl, Or.inl rfl, _, _, rfl, Or.inr rfl, _, _, rfl, Or.inr rfl, _, _, rfl, Or.inr rfl, rfl⟩ ?_
            exact ev_j_faultyNewBit_b44 R s v2 v3 p154 h hk
        · rw [if_neg hc159] at h
          refine Eval.icmpT (t := 44) rfl rfl (feq hc159).2 ?_
          refine Eval.weak (L' := [none, none, some (.int v2), some (.int v3), some (.int p154)]) ⟨_, _, rfl, Or.inl rfl, _, _, rfl, Or.inl rfl, _, _, rfl, Or.inr rfl, _, _, rfl, Or.inr rfl, _, _, rfl, Or.inr rfl, rfl⟩ ?_
          exact ev_j_faultyNewBit_b44 R s v2 v3 p154 h hk
def j_writeMain_b52 (s : Q) (w1 : Int32) (w2 : Int32) : Option (Q) := none
theorem ln_j_writeMain_b52 {s : Q} {w1 : Int32} {w2 : Int32} {res : Q} (h : j_writeMain_b52 s w1 w2 = some res) : Q.len res = Q.len s := by
  rw [j_writeMain_b52] at h
  cases h
set_option maxRecDepth 100000 in
theorem ev_j_writeMain_b52 (R : AHeap) (s : Q) (w1 : Int32) (w2 : Int32) {res : Q} {out : Option Value × AHeap} (h : j_writeMain_b52 s w1 w2 = some res) (hk : out = (none, (W1 res R))) : Eval own_P 27 52 [none, none, none, none, none] [.int w2, .int w1, .ref 0] (W1 s R) out := by
  rw [j_writeMain_b52] at h
  cases h
def j_writeMain (s : Q) (v1 : Int32) (v2 : Int32) : Option (Q) := (if inb s.f_cells.length v1 = true then ((j_faultyNewBit s v1 (rd s.f_cells v1) v2).bind fun p165 => (if inb s.f_cells.length v1 = true then (if p165 = (rd s.f_cells v1) then some ((Q.mk (wr s.f_cells v1 (i8 (i8 p165))) s.f_faultKind s.f_faultVictim s.f_faultAggressor s.f_faultTrigger s.f_victimSlot s.f_aggressorUses s.f_elementOrder s.f_elementCount s.f_elementOps s.f_logBuffer s.f_remap s.f_spareTaken s.f_spareRows s.f_faultLimit s.f_logLimit s.f_latchBit s.f_faultCount s.f_programLength s.f_logLength s.f_failMask)) else ((j_isAggressor (Q.mk (wr s.f_cells v1 (i8 (i8 p165))) s.f_faultKind s.f_faultVictim s.f_faultAggressor s.f_faultTrigger s.f_victimSlot s.f_aggressorUses s.f_elementOrder s.f_elementCount s.f_elementOps s.f_logBuffer s.f_remap s.f_spareTaken s.f_spareRows s.f_faultLimit s.f_logLimit s.f_latchBit s.f_faultCount s.f_programLength s.f_logLength s.f_failMask) v1).bind fun p169 => (if p169 = (0 : Int32) then some ((Q.mk (wr s.f_cells v1 (i8 (i8 p165))) s.f_faultKind s.f_faultVictim s.f_faultAggressor s.f_faultTrigger s.f_victimSlot s.f_aggressorUses s.f_elementOrder s.f_elementCount s.f_elementOps s.f_logBuffer s.f_remap s.f_spareTaken s.f_spareRows s.f_faultLimit s.f_logLimit s.f_latchBit s.f_faultCount s.f_programLength s.f_logLength s.f_failMask)) else (j_writeMain_b52 (Q.mk (wr s.f_cells v1 (i8 (i8 p165))) s.f_faultKind s.f_faultVictim s.f_faultAggressor s.f_faultTrigger s.f_victimSlot s.f_aggressorUses s.f_elementOrder s.f_elementCount s.f_elementOps s.f_logBuffer s.f_remap s.f_spareTaken s.f_spareRows s.f_faultLimit s.f_logLimit s.f_latchBit s.f_faultCount s.f_programLength s.f_logLength s.f_failMask) v1 (if p165 = (1 : Int32) then (1 : Int32) else (0 : Int32)))))) else none)) else none)
theorem ln_j_writeMain {s : Q} {v1 : Int32} {v2 : Int32} {res : Q} (h : j_writeMain s v1 v2 = some res) : Q.len res = Q.len s := by
  rw [j_writeMain] at h
  obtain ⟨hb148, h⟩ := ite_some h
  obtain ⟨p165, hq166, h⟩ := bind_some h
  obtain ⟨hb167, h⟩ := ite_some h
  by_cases hc168 : p165 = (rd s.f_cells v1)
  · rw [if_pos hc168] at h
    have hr0 := Option.some.inj h
    subst hr0
    show Q.len (Q.mk (wr s.f_cells v1 (i8 (i8 p165))) s.f_faultKind s.f_faultVictim s.f_faultAggressor s.f_faultTrigger s.f_victimSlot s.f_aggressorUses s.f_elementOrder s.f_elementCount s.f_elementOps s.f_logBuffer s.f_remap s.f_spareTaken s.f_spareRows s.f_faultLimit s.f_logLimit s.f_latchBit s.f_faultCount s.f_programLength s.f_logLength s.f_failMask) = _
    exact (Eq.trans (show Q.len (Q.mk (wr s.f_cells v1 (i8 (i8 p165))) s.f_faultKind s.f_faultVictim s.f_faultAggressor s.f_faultTrigger s.f_victimSlot s.f_aggressorUses s.f_elementOrder s.f_elementCount s.f_elementOps s.f_logBuffer s.f_remap s.f_spareTaken s.f_spareRows s.f_faultLimit s.f_logLimit s.f_latchBit s.f_faultCount s.f_programLength s.f_logLength s.f_failMask) = Q.len s from own_lenmk.trans (by first | (simp only [len_wr, len_wrL] <;> rfl) | rfl)) rfl)
  · rw [if_neg hc168] at h
    obtain ⟨p169, hq170, h⟩ := bind_some h
    by_cases hc171 : p169 = (0 : Int32)
    · rw [if_pos hc171] at h
      have hr0 := Option.some.inj h
      subst hr0
      show Q.len (Q.mk (wr s.f_cells v1 (i8 (i8 p165))) s.f_faultKind s.f_faultVictim s.f_faultAggressor s.f_faultTrigger s.f_victimSlot s.f_aggressorUses s.f_elementOrder s.f_elementCount s.f_elementOps s.f_logBuffer s.f_remap s.f_spareTaken s.f_spareRows s.f_faultLimit s.f_logLimit s.f_latchBit s.f_faultCount s.f_programLength s.f_logLength s.f_failMask) = _
      exact (Eq.trans (show Q.len (Q.mk (wr s.f_cells v1 (i8 (i8 p165))) s.f_faultKind s.f_faultVictim s.f_faultAggressor s.f_faultTrigger s.f_victimSlot s.f_aggressorUses s.f_elementOrder s.f_elementCount s.f_elementOps s.f_logBuffer s.f_remap s.f_spareTaken s.f_spareRows s.f_faultLimit s.f_logLimit s.f_latchBit s.f_faultCount s.f_programLength s.f_logLength s.f_failMask) = Q.len s from own_lenmk.trans (by first | (simp only [len_wr, len_wrL] <;> rfl) | rfl)) rfl)
    · rw [if_neg hc171] at h
      exact Eq.trans (ln_j_writeMain_b52 h) (Eq.trans (show Q.len (Q.mk (wr s.f_cells v1 (i8 (i8 p165))) s.f_faultKind s.f_faultVictim s.f_faultAggressor s.f_faultTrigger s.f_victimSlot s.f_aggressorUses s.f_elementOrder s.f_elementCount s.f_elementOps s.f_logBuffer s.f_remap s.f_spareTaken s.f_spareRows s.f_faultLimit s.f_logLimit s.f_latchBit s.f_faultCount s.f_programLength s.f_logLength s.f_failMask) = Q.len s from own_lenmk.trans (by first | (simp only [len_wr, len_wrL] <;> rfl) | rfl)) rfl)
set_option maxRecDepth 100000 in
theorem ev_j_writeMain (R : AHeap) (s : Q) (v1 : Int32) (v2 : Int32) {res : Q} {out : Option Value × AHeap} (h : j_writeMain s v1 v2 = some res) (hk : out = (none, (W1 res R))) : Eval own_P 27 0 [some (.ref 0), some (.int v1), some (.int v2), none, none] [] (W1 s R) out := by
  rw [j_writeMain] at h
  refine Eval.aload_n rfl rfl ?_
  refine Eval.getfield rfl rfl own_g1_cells ?_
  refine Eval.iload_n rfl rfl ?_
  obtain ⟨hb148, h⟩ := ite_some h
  refine Eval.baloadB rfl own_a1_cells hb148 ?_
  refine Eval.istore_n (L' := [some (.ref 0), some (.int v1), some (.int v2), some (.int (rd s.f_cells v1)), none]) rfl rfl ?_
  refine Eval.aload_n rfl rfl ?_
  refine Eval.iload_n rfl rfl ?_
  refine Eval.iload_n rfl rfl ?_
  refine Eval.iload_n rfl rfl ?_
  obtain ⟨p165, hq166, h⟩ := bind_some h
  refine Eval.callI (rest := []) (x := p165) (H1 := (W1 s R)) rfl rfl (ev_j_faultyNewBit R s v1 (rd s.f_cells v1) v2 hq166 rfl) ?_
  refine Eval.istore (L' := [some (.ref 0), some (.int v1), some (.int v2), some (.int (rd s.f_cells v1)), some (.int p165)]) rfl rfl ?_
  refine Eval.aload_n rfl rfl ?_
  refine Eval.getfield rfl rfl own_g1_cells ?_
  refine Eval.iload_n rfl rfl ?_
  refine Eval.iload rfl rfl ?_
  refine Eval.i2b rfl ?_
  obtain ⟨hb167, h⟩ := ite_some h
  refine Eval.bastoreB rfl rfl own_a1_cells hb167 own_s1_cells ?_
  refine Eval.iload rfl rfl ?_
  refine Eval.iload_n rfl rfl ?_
  by_cases hc168 : p165 = (rd s.f_cells v1)
  · rw [if_pos hc168] at h
    refine Eval.icmpT (t := 55) rfl rfl (teq hc168).1 ?_
    cases h
    subst hk
    exact Eval.retH own_mk1 rfl rfl
  · rw [if_neg hc168] at h
    refine Eval.icmpF rfl (feq hc168).1 ?_
    refine Eval.aload_n rfl rfl ?_
    refine Eval.iload_n rfl rfl ?_
    obtain ⟨p169, hq170, h⟩ := bind_some h
    refine Eval.callI (rest := []) (x := p169) (H1 := (C1 (wr s.f_cells v1 (i8 (i8 p165))) s.f_faultKind s.f_faultVictim s.f_faultAggressor s.f_faultTrigger s.f_victimSlot s.f_aggressorUses s.f_elementOrder s.f_elementCount s.f_elementOps s.f_logBuffer s.f_remap s.f_spareTaken s.f_spareRows s.f_faultLimit s.f_logLimit s.f_latchBit s.f_faultCount s.f_programLength s.f_logLength s.f_failMask R)) rfl rfl (Eval.heap own_mk1 (ev_j_isAggressor R (Q.mk (wr s.f_cells v1 (i8 (i8 p165))) s.f_faultKind s.f_faultVictim s.f_faultAggressor s.f_faultTrigger s.f_victimSlot s.f_aggressorUses s.f_elementOrder s.f_elementCount s.f_elementOps s.f_logBuffer s.f_remap s.f_spareTaken s.f_spareRows s.f_faultLimit s.f_logLimit s.f_latchBit s.f_faultCount s.f_programLength s.f_logLength s.f_failMask) v1 hq170 (congrArg (Prod.mk _) own_mk1.symm))) ?_
    by_cases hc171 : p169 = (0 : Int32)
    · rw [if_pos hc171] at h
      refine Eval.ifT (t := 55) rfl rfl (teq hc171).1 ?_
      cases h
      subst hk
      exact Eval.retH own_mk1 rfl rfl
    · rw [if_neg hc171] at h
      refine Eval.ifF rfl (feq hc171).1 ?_
      refine Eval.aload_n rfl rfl ?_
      refine Eval.iload_n rfl rfl ?_
      refine Eval.iload rfl rfl ?_
      refine Eval.iconst (x := (1 : Int32)) rfl rfl ?_
      suffices hJ173 : Eval own_P 27 52 [none, none, none, none, none] [.int (if p165 = (1 : Int32) then (1 : Int32) else (0 : Int32)), .int v1, .ref 0] (C1 (wr s.f_cells v1 (i8 (i8 p165))) s.f_faultKind s.f_faultVictim s.f_faultAggressor s.f_faultTrigger s.f_victimSlot s.f_aggressorUses s.f_elementOrder s.f_elementCount s.f_elementOps s.f_logBuffer s.f_remap s.f_spareTaken s.f_spareRows s.f_faultLimit s.f_logLimit s.f_latchBit s.f_faultCount s.f_programLength s.f_logLength s.f_failMask R) out by
        by_cases hc172 : p165 = (1 : Int32)
        · refine Eval.icmpF rfl (teq hc172).2 ?_
          refine Eval.iconst (x := (1 : Int32)) rfl rfl ?_
          refine Eval.goto (t := 52) rfl rfl ?_
          refine Eval.weak (L' := [none, none, none, none, none]) ⟨_, _, rfl, Or.inl rfl, _, _, rfl, Or.inl rfl, _, _, rfl, Or.inl rfl, _, _, rfl, Or.inl rfl, _, _, rfl, Or.inl rfl, rfl⟩ ?_
          exact (Eval.conv hJ173 rfl (by simp only [if_pos hc172]))
        · refine Eval.icmpT (t := 51) rfl rfl (feq hc172).2 ?_
          refine Eval.iconst (x := (0 : Int32)) rfl rfl ?_
          refine Eval.weak (L' := [none, none, none, none, none]) ⟨_, _, rfl, Or.inl rfl, _, _, rfl, Or.inl rfl, _, _, rfl, Or.inl rfl, _, _, rfl, Or.inl rfl, _, _, rfl, Or.inl rfl, rfl⟩ ?_
          exact (Eval.conv hJ173 rfl (by simp only [if_neg hc172]))
      refine Eval.heap own_mk1 ?_
      exact ev_j_writeMain_b52 R (Q.mk (wr s.f_cells v1 (i8 (i8 p165))) s.f_faultKind s.f_faultVictim s.f_faultAggressor s.f_faultTrigger s.f_victimSlot s.f_aggressorUses s.f_elementOrder s.f_elementCount s.f_elementOps s.f_logBuffer s.f_remap s.f_spareTaken s.f_spareRows s.f_faultLimit s.f_logLimit s.f_latchBit s.f_faultCount s.f_programLength s.f_logLength s.f_failMask) v1 (if p165 = (1 : Int32) then (1 : Int32) else (0 : Int32)) h hk
def j_writeRouted (s : Q) (v1 : Int32) (v2 : Int32) : Option (Q) := ((j_routedCell s v1).bind fun p145 => (if p145 < (256 : Int32) then ((j_writeMain s p145 (v2 &&& (1 : Int32))).bind fun p174 => some (p174)) else (if inb s.f_cells.length p145 = true then some ((Q.mk (wr s.f_cells p145 (i8 (i8 (v2 &&& (1 : Int32))))) s.f_faultKind s.f_faultVictim s.f_faultAggressor s.f_faultTrigger s.f_victimSlot s.f_aggressorUses s.f_elementOrder s.f_elementCount s.f_elementOps s.f_logBuffer s.f_remap s.f_spareTaken s.f_spareRows s.f_faultLimit s.f_logLimit s.f_latchBit s.f_faultCount s.f_programLength s.f_logLength s.f_failMask)) else none)))
theorem ln_j_writeRouted {s : Q} {v1 : Int32} {v2 : Int32} {res : Q} (h : j_writeRouted s v1 v2 = some res) : Q.len res = Q.len s := by
  rw [j_writeRouted] at h
  obtain ⟨p145, hq146, h⟩ := bind_some h
  by_cases hc147 : p145 < (256 : Int32)
  · rw [if_pos hc147] at h
    obtain ⟨p174, hq175, h⟩ := bind_some h
    have hl176 := (ln_j_writeMain hq175).trans rfl
    have hr0 := Option.some.inj h
    subst hr0
    show Q.len p174 = _
    exact hl176
  · rw [if_neg hc147] at h
    obtain ⟨hb177, h⟩ := ite_some h
    have hr0 := Option.some.inj h
    subst hr0
    show Q.len (Q.mk (wr s.f_cells p145 (i8 (i8 (v2 &&& (1 : Int32))))) s.f_faultKind s.f_faultVictim s.f_faultAggressor s.f_faultTrigger s.f_victimSlot s.f_aggressorUses s.f_elementOrder s.f_elementCount s.f_elementOps s.f_logBuffer s.f_remap s.f_spareTaken s.f_spareRows s.f_faultLimit s.f_logLimit s.f_latchBit s.f_faultCount s.f_programLength s.f_logLength s.f_failMask) = _
    exact (Eq.trans (show Q.len (Q.mk (wr s.f_cells p145 (i8 (i8 (v2 &&& (1 : Int32))))) s.f_faultKind s.f_faultVictim s.f_faultAggressor s.f_faultTrigger s.f_victimSlot s.f_aggressorUses s.f_elementOrder s.f_elementCount s.f_elementOps s.f_logBuffer s.f_remap s.f_spareTaken s.f_spareRows s.f_faultLimit s.f_logLimit s.f_latchBit s.f_faultCount s.f_programLength s.f_logLength s.f_failMask) = Q.len s from own_lenmk.trans (by first | (simp only [len_wr, len_wrL] <;> rfl) | rfl)) rfl)
set_option maxRecDepth 100000 in
theorem ev_j_writeRouted (R : AHeap) (s : Q) (v1 : Int32) (v2 : Int32) {res : Q} {out : Option Value × AHeap} (h : j_writeRouted s v1 v2 = some res) (hk : out = (none, (W1 res R))) : Eval own_P 25 0 [some (.ref 0), some (.int v1), some (.int v2), none] [] (W1 s R) out := by
  rw [j_writeRouted] at h
  refine Eval.aload_n rfl rfl ?_
  refine Eval.iload_n rfl rfl ?_
  obtain ⟨p145, hq146, h⟩ := bind_some h
  refine Eval.callI (rest := []) (x := p145) (H1 := (W1 s R)) rfl rfl (ev_j_routedCell R s v1 hq146 rfl) ?_
  refine Eval.istore_n (L' := [some (.ref 0), some (.int v1), some (.int v2), some (.int p145)]) rfl rfl ?_
  refine Eval.iload_n rfl rfl ?_
  refine Eval.sipush (x := (256 : Int32)) rfl rfl ?_
  by_cases hc147 : p145 < (256 : Int32)
  · rw [if_pos hc147] at h
    refine Eval.icmpT (t := 24) rfl rfl (tlt hc147).1 ?_
    refine Eval.aload_n rfl rfl ?_
    refine Eval.iload_n rfl rfl ?_
    refine Eval.iload_n rfl rfl ?_
    refine Eval.iconst (x := (1 : Int32)) rfl rfl ?_
    refine Eval.iand rfl ?_
    obtain ⟨p174, hq175, h⟩ := bind_some h
    refine Eval.callN (rest := []) (H1 := (W1 p174 R)) rfl rfl (ev_j_writeMain R s p145 (v2 &&& (1 : Int32)) hq175 rfl) ?_
    cases h
    subst hk
    exact Eval.ret rfl rfl
  · rw [if_neg hc147] at h
    refine Eval.icmpF rfl (flt hc147).1 ?_
    refine Eval.aload_n rfl rfl ?_
    refine Eval.getfield rfl rfl own_g1_cells ?_
    refine Eval.iload_n rfl rfl ?_
    refine Eval.iload_n rfl rfl ?_
    refine Eval.iconst (x := (1 : Int32)) rfl rfl ?_
    refine Eval.iand rfl ?_
    refine Eval.i2b rfl ?_
    obtain ⟨hb177, h⟩ := ite_some h
    refine Eval.bastoreB rfl rfl own_a1_cells hb177 own_s1_cells ?_
    cases h
    subst hk
    exact Eval.retH own_mk1 rfl rfl
def j_readMain (s : Q) (v1 : Int32) : Option (Int32) := ((j_victimKind s v1).bind fun p191 => (if p191 = (1 : Int32) then some ((0 : Int32)) else (if p191 = (2 : Int32) then some ((1 : Int32)) else (if p191 = (5 : Int32) then some (s.f_latchBit) else (if inb s.f_cells.length v1 = true then some ((rd s.f_cells v1)) else none)))))
set_option maxRecDepth 100000 in
theorem ev_j_readMain (R : AHeap) (s : Q) (v1 : Int32) {res : Int32} {out : Option Value × AHeap} (h : j_readMain s v1 = some res) (hk : out = (some (.int res), (W1 s R))) : Eval own_P 31 0 [some (.ref 0), some (.int v1), none] [] (W1 s R) out := by
  rw [j_readMain] at h
  refine Eval.aload_n rfl rfl ?_
  refine Eval.iload_n rfl rfl ?_
  obtain ⟨p191, hq192, h⟩ := bind_some h
  refine Eval.callI (rest := []) (x := p191) (H1 := (W1 s R)) rfl rfl (ev_j_victimKind R s v1 hq192 rfl) ?_
  refine Eval.istore_n (L' := [some (.ref 0), some (.int v1), some (.int p191)]) rfl rfl ?_
  refine Eval.iload_n rfl rfl ?_
  refine Eval.iconst (x := (1 : Int32)) rfl rfl ?_
  by_cases hc193 : p191 = (1 : Int32)
  · rw [if_pos hc193] at h
    refine Eval.icmpF rfl (teq hc193).2 ?_
    refine Eval.iconst (x := (0 : Int32)) rfl rfl ?_
    cases h
    subst hk
    exact Eval.ret rfl rfl
  · rw [if_neg hc193] at h
    refine Eval.icmpT (t := 13) rfl rfl (feq hc193).2 ?_
    refine Eval.iload_n rfl rfl ?_
    refine Eval.iconst (x := (2 : Int32)) rfl rfl ?_
    by_cases hc194 : p191 = (2 : Int32)
    · rw [if_pos hc194] at h
      refine Eval.icmpF rfl (teq hc194).2 ?_
      refine Eval.iconst (x := (1 : Int32)) rfl rfl ?_
      cases h
      subst hk
      exact Eval.ret rfl rfl
    · rw [if_neg hc194] at h
      refine Eval.icmpT (t := 20) rfl rfl (feq hc194).2 ?_
      refine Eval.iload_n rfl rfl ?_
      refine Eval.iconst (x := (5 : Int32)) rfl rfl ?_
      by_cases hc195 : p191 = (5 : Int32)
      · rw [if_pos hc195] at h
        refine Eval.icmpF rfl (teq hc195).2 ?_
        refine Eval.aload_n rfl rfl ?_
        refine Eval.getfield rfl rfl own_g1_latchBit ?_
        cases h
        subst hk
        exact Eval.ret rfl rfl
      · rw [if_neg hc195] at h
        refine Eval.icmpT (t := 30) rfl rfl (feq hc195).2 ?_
        refine Eval.aload_n rfl rfl ?_
        refine Eval.getfield rfl rfl own_g1_cells ?_
        refine Eval.iload_n rfl rfl ?_
        obtain ⟨hb196, h⟩ := ite_some h
        refine Eval.baloadB rfl own_a1_cells hb196 ?_
        cases h
        subst hk
        exact Eval.ret rfl rfl
def j_readRouted_b29 (s : Q) (v3 : Int32) : Option (Int32 × Q) := some ((v3 &&& (1 : Int32)), (Q.mk s.f_cells s.f_faultKind s.f_faultVictim s.f_faultAggressor s.f_faultTrigger s.f_victimSlot s.f_aggressorUses s.f_elementOrder s.f_elementCount s.f_elementOps s.f_logBuffer s.f_remap s.f_spareTaken s.f_spareRows s.f_faultLimit s.f_logLimit (v3 &&& (1 : Int32)) s.f_faultCount s.f_programLength s.f_logLength s.f_failMask))
theorem ln_j_readRouted_b29 {s : Q} {v3 : Int32} {res : Int32 × Q} (h : j_readRouted_b29 s v3 = some res) : Q.len res.2 = Q.len s := by
  rw [j_readRouted_b29] at h
  have hr0 := Option.some.inj h
  subst hr0
  show Q.len (Q.mk s.f_cells s.f_faultKind s.f_faultVictim s.f_faultAggressor s.f_faultTrigger s.f_victimSlot s.f_aggressorUses s.f_elementOrder s.f_elementCount s.f_elementOps s.f_logBuffer s.f_remap s.f_spareTaken s.f_spareRows s.f_faultLimit s.f_logLimit (v3 &&& (1 : Int32)) s.f_faultCount s.f_programLength s.f_logLength s.f_failMask) = _
  exact (Eq.trans (show Q.len (Q.mk s.f_cells s.f_faultKind s.f_faultVictim s.f_faultAggressor s.f_faultTrigger s.f_victimSlot s.f_aggressorUses s.f_elementOrder s.f_elementCount s.f_elementOps s.f_logBuffer s.f_remap s.f_spareTaken s.f_spareRows s.f_faultLimit s.f_logLimit (v3 &&& (1 : Int32)) s.f_faultCount s.f_programLength s.f_logLength s.f_failMask) = Q.len s from own_lenmk.trans (by first | (simp only [len_wr, len_wrL] <;> rfl) | rfl)) rfl)
set_option maxRecDepth 100000 in
theorem ev_j_readRouted_b29 (R : AHeap) (s : Q) (v3 : Int32) {res : Int32 × Q} {out : Option Value × AHeap} (h : j_readRouted_b29 s v3 = some res) (hk : out = (some (.int res.1), (W1 res.2 R))) : Eval own_P 30 29 [some (.ref 0), none, none, some (.int v3)] [] (W1 s R) out := by
  rw [j_readRouted_b29] at h
  refine Eval.aload_n rfl rfl ?_
  refine Eval.iload_n rfl rfl ?_
  refine Eval.iconst (x := (1 : Int32)) rfl rfl ?_
  refine Eval.iand rfl ?_
  refine Eval.putfield rfl rfl own_p1_latchBit ?_
  refine Eval.aload_n rfl rfl ?_
  refine Eval.getfield rfl rfl own_g1_latchBit ?_
  cases h
  subst hk
  exact Eval.retH own_mk1 rfl rfl
def j_readRouted (s : Q) (v1 : Int32) : Option (Int32 × Q) := ((j_routedCell s v1).bind fun p187 => (if p187 < (256 : Int32) then ((j_readMain s p187).bind fun p197 => (j_readRouted_b29 s p197)) else (if inb s.f_cells.length p187 = true then (j_readRouted_b29 s (rd s.f_cells p187)) else none)))
theorem ln_j_readRouted {s : Q} {v1 : Int32} {res : Int32 × Q} (h : j_readRouted s v1 = some res) : Q.len res.2 = Q.len s := by
  rw [j_readRouted] at h
  obtain ⟨p187, hq188, h⟩ := bind_some h
  by_cases hc190 : p187 < (256 : Int32)
  · rw [if_pos hc190] at h
    obtain ⟨p197, hq198, h⟩ := bind_some h
    exact Eq.trans (ln_j_readRouted_b29 h) rfl
  · rw [if_neg hc190] at h
    obtain ⟨hb199, h⟩ := ite_some h
    exact Eq.trans (ln_j_readRouted_b29 h) rfl
set_option maxRecDepth 100000 in
theorem ev_j_readRouted (R : AHeap) (s : Q) (v1 : Int32) {res : Int32 × Q} {out : Option Value × AHeap} (h : j_readRouted s v1 = some res) (hk : out = (some (.int res.1), (W1 res.2 R))) : Eval own_P 30 0 [some (.ref 0), some (.int v1), none, none] [] (W1 s R) out := by
  rw [j_readRouted] at h
  refine Eval.aload_n rfl rfl ?_
  refine Eval.iload_n rfl rfl ?_
  obtain ⟨p187, hq188, h⟩ := bind_some h
  refine Eval.callI (rest := []) (x := p187) (H1 := (W1 s R)) rfl rfl (ev_j_routedCell R s v1 hq188 rfl) ?_
  refine Eval.istore_n (L' := [some (.ref 0), some (.int v1), some (.int p187), none]) rfl rfl ?_
  refine Eval.iload_n rfl rfl ?_
  refine Eval.sipush (x := (256 : Int32)) rfl rfl ?_
  by_cases hc190 : p187 < (256 : Int32)
  · rw [if_pos hc190] at h
    refine Eval.icmpT (t := 23) rfl rfl (tlt hc190).1 ?_
    refine Eval.aload_n rfl rfl ?_
    refine Eval.iload_n rfl rfl ?_
    obtain ⟨p197, hq198, h⟩ := bind_some h
    refine Eval.callI (rest := []) (x := p197) (H1 := (W1 s R)) rfl rfl (ev_j_readMain R s p187 hq198 rfl) ?_
    refine Eval.istore_n (L' := [some (.ref 0), some (.int v1), some (.int p187), some (.int p197)]) rfl rfl ?_
    refine Eval.weak (L' := [some (.ref 0), none, none, some (.int p197)]) ⟨_, _, rfl, Or.inr rfl, _, _, rfl, Or.inl rfl, _, _, rfl, Or.inl rfl, _, _, rfl, Or.inr rfl, rfl⟩ ?_
    exact ev_j_readRouted_b29 R s p197 h hk
  · rw [if_neg hc190] at h
    refine Eval.icmpF rfl (flt hc190).1 ?_
    refine Eval.aload_n rfl rfl ?_
    refine Eval.getfield rfl rfl own_g1_cells ?_
    refine Eval.iload_n rfl rfl ?_
    obtain ⟨hb199, h⟩ := ite_some h
    refine Eval.baloadB rfl own_a1_cells hb199 ?_
    refine Eval.istore_n (L' := [some (.ref 0), some (.int v1), some (.int p187), some (.int (rd s.f_cells p187))]) rfl rfl ?_
    refine Eval.goto (t := 29) rfl rfl ?_
    refine Eval.weak (L' := [some (.ref 0), none, none, some (.int (rd s.f_cells p187))]) ⟨_, _, rfl, Or.inr rfl, _, _, rfl, Or.inl rfl, _, _, rfl, Or.inl rfl, _, _, rfl, Or.inr rfl, rfl⟩ ?_
    exact ev_j_readRouted_b29 R s (rd s.f_cells p187) h hk
def j_applyOp_b35 (s : Q) (v2 : Int32) (v3 : Int32) : Option (Int32 × Q) := ((j_readRouted s v2).bind fun p200 => (if p200.1 = v3 then some ((0 : Int32), p200.2) else some ((1 : Int32), p200.2)))
theorem ln_j_applyOp_b35 {s : Q} {v2 : Int32} {v3 : Int32} {res : Int32 × Q} (h : j_applyOp_b35 s v2 v3 = some res) : Q.len res.2 = Q.len s := by
  rw [j_applyOp_b35] at h
  obtain ⟨p200, hq201, h⟩ := bind_some h
  have hl202 := (ln_j_readRouted hq201).trans rfl
  by_cases hc203 : p200.1 = v3
  · rw [if_pos hc203] at h
    have hr0 := Option.some.inj h
    subst hr0
    show Q.len p200.2 = _
    exact hl202
  · rw [if_neg hc203] at h
    have hr0 := Option.some.inj h
    subst hr0
    show Q.len p200.2 = _
    exact hl202
set_option maxRecDepth 100000 in
theorem ev_j_applyOp_b35 (R : AHeap) (s : Q) (v2 : Int32) (v3 : Int32) {res : Int32 × Q} {out : Option Value × AHeap} (h : j_applyOp_b35 s v2 v3 = some res) (hk : out = (some (.int res.1), (W1 res.2 R))) : Eval own_P 24 35 [some (.ref 0), none, some (.int v2), some (.int v3), none] [] (W1 s R) out := by
  rw [j_applyOp_b35] at h
  refine Eval.aload_n rfl rfl ?_
  refine Eval.iload_n rfl rfl ?_
  obtain ⟨p200, hq201, h⟩ := bind_some h
  refine Eval.callI (rest := []) (x := p200.1) (H1 := (W1 p200.2 R)) rfl rfl (ev_j_readRouted R s v2 hq201 rfl) ?_
  refine Eval.istore (L' := [some (.ref 0), none, some (.int v2), some (.int v3), some (.int p200.1)]) rfl rfl ?_
  refine Eval.iload rfl rfl ?_
  refine Eval.iload_n rfl rfl ?_
  by_cases hc203 : p200.1 = v3
  · rw [if_pos hc203] at h
    refine Eval.icmpT (t := 52) rfl rfl (teq hc203).1 ?_
    refine Eval.iconst (x := (0 : Int32)) rfl rfl ?_
    cases h
    subst hk
    exact Eval.ret rfl rfl
  · rw [if_neg hc203] at h
    refine Eval.icmpF rfl (feq hc203).1 ?_
    refine Eval.iconst (x := (1 : Int32)) rfl rfl ?_
    refine Eval.goto (t := 53) rfl rfl ?_
    cases h
    subst hk
    exact Eval.ret rfl rfl
def j_applyOp (s : Q) (v1 : Int32) (v2 : Int32) : Option (Int32 × Q) := (if v1 = (2 : Int32) then ((j_writeRouted s v2 (0 : Int32)).bind fun p178 => some ((0 : Int32), p178)) else (if v1 = (3 : Int32) then ((j_writeRouted s v2 (1 : Int32)).bind fun p182 => some ((0 : Int32), p182)) else (j_applyOp_b35 s v2 (if v1 = (1 : Int32) then (1 : Int32) else (0 : Int32)))))
theorem ln_j_applyOp {s : Q} {v1 : Int32} {v2 : Int32} {res : Int32 × Q} (h : j_applyOp s v1 v2 = some res) : Q.len res.2 = Q.len s := by
  rw [j_applyOp] at h
  by_cases hc141 : v1 = (2 : Int32)
  · rw [if_pos hc141] at h
    obtain ⟨p178, hq179, h⟩ := bind_some h
    have hl180 := (ln_j_writeRouted hq179).trans rfl
    have hr0 := Option.some.inj h
    subst hr0
    show Q.len p178 = _
    exact hl180
  · rw [if_neg hc141] at h
    by_cases hc181 : v1 = (3 : Int32)
    · rw [if_pos hc181] at h
      obtain ⟨p182, hq183, h⟩ := bind_some h
      have hl184 := (ln_j_writeRouted hq183).trans rfl
      have hr0 := Option.some.inj h
      subst hr0
      show Q.len p182 = _
      exact hl184
    · rw [if_neg hc181] at h
      exact Eq.trans (ln_j_applyOp_b35 h) rfl
set_option maxRecDepth 100000 in
theorem ev_j_applyOp (R : AHeap) (s : Q) (v1 : Int32) (v2 : Int32) {res : Int32 × Q} {out : Option Value × AHeap} (h : j_applyOp s v1 v2 = some res) (hk : out = (some (.int res.1), (W1 res.2 R))) : Eval own_P 24 0 [some (.ref 0), some (.int v1), some (.int v2), none, none] [] (W1 s R) out := by
  rw [j_applyOp] at h
  refine Eval.iload_n rfl rfl ?_
  refine Eval.iconst (x := (2 : Int32)) rfl rfl ?_
  by_cases hc141 : v1 = (2 : Int32)
  · rw [if_pos hc141] at h
    refine Eval.icmpF rfl (teq hc141).2 ?_
    refine Eval.aload_n rfl rfl ?_
    refine Eval.iload_n rfl rfl ?_
    refine Eval.iconst (x := (0 : Int32)) rfl rfl ?_
    obtain ⟨p178, hq179, h⟩ := bind_some h
    refine Eval.callN (rest := []) (H1 := (W1 p178 R)) rfl rfl (ev_j_writeRouted R s v2 (0 : Int32) hq179 rfl) ?_
    refine Eval.iconst (x := (0 : Int32)) rfl rfl ?_
    cases h
    subst hk
    exact Eval.ret rfl rfl
  · rw [if_neg hc141] at h
    refine Eval.icmpT (t := 13) rfl rfl (feq hc141).2 ?_
    refine Eval.iload_n rfl rfl ?_
    refine Eval.iconst (x := (3 : Int32)) rfl rfl ?_
    by_cases hc181 : v1 = (3 : Int32)
    · rw [if_pos hc181] at h
      refine Eval.icmpF rfl (teq hc181).2 ?_
      refine Eval.aload_n rfl rfl ?_
      refine Eval.iload_n rfl rfl ?_
      refine Eval.iconst (x := (1 : Int32)) rfl rfl ?_
      obtain ⟨p182, hq183, h⟩ := bind_some h
      refine Eval.callN (rest := []) (H1 := (W1 p182 R)) rfl rfl (ev_j_writeRouted R s v2 (1 : Int32) hq183 rfl) ?_
      refine Eval.iconst (x := (0 : Int32)) rfl rfl ?_
      cases h
      subst hk
      exact Eval.ret rfl rfl
    · rw [if_neg hc181] at h
      refine Eval.icmpT (t := 26) rfl rfl (feq hc181).2 ?_
      refine Eval.iconst (x := (0 : Int32)) rfl rfl ?_
      refine Eval.istore_n (L' := [some (.ref 0), some (.int v1), some (.int v2), some (.int (0 : Int32)), none]) rfl rfl ?_
      refine Eval.iload_n rfl rfl ?_
      refine Eval.iconst (x := (1 : Int32)) rfl rfl ?_
      suffices hJ186 : Eval own_P 24 35 [some (.ref 0), none, some (.int v2), some (.int (if v1 = (1 : Int32) then (1 : Int32) else (0 : Int32))), none] [] (W1 s R) out by
        by_cases hc185 : v1 = (1 : Int32)
        · refine Eval.icmpF rfl (teq hc185).2 ?_
          refine Eval.iconst (x := (1 : Int32)) rfl rfl ?_
          refine Eval.istore_n (L' := [some (.ref 0), some (.int v1), some (.int v2), some (.int (1 : Int32)), none]) rfl rfl ?_
          refine Eval.weak (L' := [some (.ref 0), none, some (.int v2), some (.int (1 : Int32)), none]) ⟨_, _, rfl, Or.inr rfl, _, _, rfl, Or.inl rfl, _, _, rfl, Or.inr rfl, _, _, rfl, Or.inr rfl, _, _, rfl, Or.inl rfl, rfl⟩ ?_
          exact (Eval.conv hJ186 (by simp only [if_pos hc185]) rfl)
        · refine Eval.icmpT (t := 35) rfl rfl (feq hc185).2 ?_
          refine Eval.weak (L' := [some (.ref 0), none, some (.int v2), some (.int (0 : Int32)), none]) ⟨_, _, rfl, Or.inr rfl, _, _, rfl, Or.inl rfl, _, _, rfl, Or.inr rfl, _, _, rfl, Or.inr rfl, _, _, rfl, Or.inl rfl, rfl⟩ ?_
          exact (Eval.conv hJ186 (by simp only [if_neg hc185]) rfl)
      exact ev_j_applyOp_b35 R s v2 (if v1 = (1 : Int32) then (1 : Int32) else (0 : Int32)) h hk
def j_runOpsAt_b55 (go_ : Q → Int32 → Int32 → Int32 → Int32 → Int32 → Option (Int32 × Q)) (s : Q) (v1 : Int32) (v2 : Int32) (v3 : Int32) (v4 : Int32) (v5 : Int32) : Option (Int32 × Q) := (go_ s v1 v2 v3 v4 (v5 + (1 : Int32)))
theorem ln_j_runOpsAt_b55 {go_ : Q → Int32 → Int32 → Int32 → Int32 → Int32 → Option (Int32 × Q)} (hrec : ∀ (s : Q) (v1 : Int32) (v2 : Int32) (v3 : Int32) (v4 : Int32) (v5 : Int32) {res : Int32 × Q}, go_ s v1 v2 v3 v4 v5 = some res → j_runOpsAt_l13_N s res) {s : Q} {v1 : Int32} {v2 : Int32} {v3 : Int32} {v4 : Int32} {v5 : Int32} {res : Int32 × Q} (h : j_runOpsAt_b55 go_ s v1 v2 v3 v4 v5 = some res) : j_runOpsAt_l13_N s res := by
  rw [j_runOpsAt_b55] at h
  exact (hrec _ _ _ _ _ _ h).trans rfl
set_option maxRecDepth 100000 in
theorem ev_j_runOpsAt_b55 (R : AHeap) (go_ : Q → Int32 → Int32 → Int32 → Int32 → Int32 → Option (Int32 × Q)) (hrec : ∀ (s : Q) (v1 : Int32) (v2 : Int32) (v3 : Int32) (v4 : Int32) (v5 : Int32) {res : Int32 × Q} {out : Option Value × AHeap}, go_ s v1 v2 v3 v4 v5 = some res → j_runOpsAt_l13_K R res out → Eval own_P 22 13 [some (.ref 0), some (.int v1), some (.int v2), some (.int v3), some (.int v4), some (.int v5), none] [] (W1 s R) out) (s : Q) (v1 : Int32) (v2 : Int32) (v3 : Int32) (v4 : Int32) (v5 : Int32) {res : Int32 × Q} {out : Option Value × AHeap} (h : j_runOpsAt_b55 go_ s v1 v2 v3 v4 v5 = some res) (hk : j_runOpsAt_l13_K R res out) : Eval own_P 22 55 [some (.ref 0), some (.int v1), some (.int v2), some (.int v3), some (.int v4), some (.int v5), none] [] (W1 s R) out := by
  rw [j_runOpsAt_b55] at h
  refine Eval.iinc (L' := [some (.ref 0), some (.int v1), some (.int v2), some (.int v3), some (.int v4), some (.int (v5 + (1 : Int32))), none]) rfl rfl rfl ?_
  refine Eval.goto (t := 13) rfl rfl ?_
  exact hrec _ _ _ _ _ _ h hk
def j_recordFailure (s : Q) (v1 : Int32) (v2 : Int32) (v3 : Int32) : Option (Q) := (if s.f_logLength < s.f_logLimit then (if s.f_logLength < (32 : Int32) then (if s.f_logLength < (0 : Int32) then some ((Q.mk s.f_cells s.f_faultKind s.f_faultVictim s.f_faultAggressor s.f_faultTrigger s.f_victimSlot s.f_aggressorUses s.f_elementOrder s.f_elementCount s.f_elementOps s.f_logBuffer s.f_remap s.f_spareTaken s.f_spareRows s.f_faultLimit s.f_logLimit s.f_latchBit s.f_faultCount s.f_programLength s.f_logLength (s.f_failMask ||| (ish (1 : Int32) ((isr v3 (4 : Int32)) &&& (15 : Int32)))))) else (if inb s.f_logBuffer.length s.f_logLength = true then some ((Q.mk s.f_cells s.f_faultKind s.f_faultVictim s.f_faultAggressor s.f_faultTrigger s.f_victimSlot s.f_aggressorUses s.f_elementOrder s.f_elementCount s.f_elementOps (wr s.f_logBuffer s.f_logLength (((ish v1 (12 : Int32)) ||| (ish v2 (8 : Int32))) ||| v3)) s.f_remap s.f_spareTaken s.f_spareRows s.f_faultLimit s.f_logLimit s.f_latchBit s.f_faultCount s.f_programLength (s.f_logLength + (1 : Int32)) (s.f_failMask ||| (ish (1 : Int32) ((isr v3 (4 : Int32)) &&& (15 : Int32)))))) else none)) else some ((Q.mk s.f_cells s.f_faultKind s.f_faultVictim s.f_faultAggressor s.f_faultTrigger s.f_victimSlot s.f_aggressorUses s.f_elementOrder s.f_elementCount s.f_elementOps s.f_logBuffer s.f_remap s.f_spareTaken s.f_spareRows s.f_faultLimit s.f_logLimit s.f_latchBit s.f_faultCount s.f_programLength s.f_logLength (s.f_failMask ||| (ish (1 : Int32) ((isr v3 (4 : Int32)) &&& (15 : Int32))))))) else some ((Q.mk s.f_cells s.f_faultKind s.f_faultVictim s.f_faultAggressor s.f_faultTrigger s.f_victimSlot s.f_aggressorUses s.f_elementOrder s.f_elementCount s.f_elementOps s.f_logBuffer s.f_remap s.f_spareTaken s.f_spareRows s.f_faultLimit s.f_logLimit s.f_latchBit s.f_faultCount s.f_programLength s.f_logLength (s.f_failMask ||| (ish (1 : Int32) ((isr v3 (4 : Int32)) &&& (15 : Int32)))))))
theorem ln_j_recordFailure {s : Q} {v1 : Int32} {v2 : Int32} {v3 : Int32} {res : Q} (h : j_recordFailure s v1 v2 v3 = some res) : Q.len res = Q.len s := by
  rw [j_recordFailure] at h
  by_cases hc209 : s.f_logLength < s.f_logLimit
  · rw [if_pos hc209] at h
    by_cases hc210 : s.f_logLength < (32 : Int32)
    · rw [if_pos hc210] at h
      by_cases hc211 : s.f_logLength < (0 : Int32)
      · rw [if_pos hc211] at h
        have hr0 := Option.some.inj h
        subst hr0
        show Q.len (Q.mk s.f_cells s.f_faultKind s.f_faultVictim s.f_faultAggressor s.f_faultTrigger s.f_victimSlot s.f_aggressorUses s.f_elementOrder s.f_elementCount s.f_elementOps s.f_logBuffer s.f_remap s.f_spareTaken s.f_spareRows s.f_faultLimit s.f_logLimit s.f_latchBit s.f_faultCount s.f_programLength s.f_logLength (s.f_failMask ||| (ish (1 : Int32) ((isr v3 (4 : Int32)) &&& (15 : Int32))))) = _
        exact (Eq.trans (show Q.len (Q.mk s.f_cells s.f_faultKind s.f_faultVictim s.f_faultAggressor s.f_faultTrigger s.f_victimSlot s.f_aggressorUses s.f_elementOrder s.f_elementCount s.f_elementOps s.f_logBuffer s.f_remap s.f_spareTaken s.f_spareRows s.f_faultLimit s.f_logLimit s.f_latchBit s.f_faultCount s.f_programLength s.f_logLength (s.f_failMask ||| (ish (1 : Int32) ((isr v3 (4 : Int32)) &&& (15 : Int32))))) = Q.len s from own_lenmk.trans (by first | (simp only [len_wr, len_wrL] <;> rfl) | rfl)) rfl)
      · rw [if_neg hc211] at h
        obtain ⟨hb212, h⟩ := ite_some h
        have hr0 := Option.some.inj h
        subst hr0
        show Q.len (Q.mk s.f_cells s.f_faultKind s.f_faultVictim s.f_faultAggressor s.f_faultTrigger s.f_victimSlot s.f_aggressorUses s.f_elementOrder s.f_elementCount s.f_elementOps (wr s.f_logBuffer s.f_logLength (((ish v1 (12 : Int32)) ||| (ish v2 (8 : Int32))) ||| v3)) s.f_remap s.f_spareTaken s.f_spareRows s.f_faultLimit s.f_logLimit s.f_latchBit s.f_faultCount s.f_programLength (s.f_logLength + (1 : Int32)) (s.f_failMask ||| (ish (1 : Int32) ((isr v3 (4 : Int32)) &&& (15 : Int32))))) = _
        exact (Eq.trans (show Q.len (Q.mk s.f_cells s.f_faultKind s.f_faultVictim s.f_faultAggressor s.f_faultTrigger s.f_victimSlot s.f_aggressorUses s.f_elementOrder s.f_elementCount s.f_elementOps (wr s.f_logBuffer s.f_logLength (((ish v1 (12 : Int32)) ||| (ish v2 (8 : Int32))) ||| v3)) s.f_remap s.f_spareTaken s.f_spareRows s.f_faultLimit s.f_logLimit s.f_latchBit s.f_faultCount s.f_programLength (s.f_logLength + (1 : Int32)) (s.f_failMask ||| (ish (1 : Int32) ((isr v3 (4 : Int32)) &&& (15 : Int32))))) = Q.len s from own_lenmk.trans (by first | (simp only [len_wr, len_wrL] <;> rfl) | rfl)) rfl)
    · rw [if_neg hc210] at h
      have hr0 := Option.some.inj h
      subst hr0
      show Q.len (Q.mk s.f_cells s.f_faultKind s.f_faultVictim s.f_faultAggressor s.f_faultTrigger s.f_victimSlot s.f_aggressorUses s.f_elementOrder s.f_elementCount s.f_elementOps s.f_logBuffer s.f_remap s.f_spareTaken s.f_spareRows s.f_faultLimit s.f_logLimit s.f_latchBit s.f_faultCount s.f_programLength s.f_logLength (s.f_failMask ||| (ish (1 : Int32) ((isr v3 (4 : Int32)) &&& (15 : Int32))))) = _
      exact (Eq.trans (show Q.len (Q.mk s.f_cells s.f_faultKind s.f_faultVictim s.f_faultAggressor s.f_faultTrigger s.f_victimSlot s.f_aggressorUses s.f_elementOrder s.f_elementCount s.f_elementOps s.f_logBuffer s.f_remap s.f_spareTaken s.f_spareRows s.f_faultLimit s.f_logLimit s.f_latchBit s.f_faultCount s.f_programLength s.f_logLength (s.f_failMask ||| (ish (1 : Int32) ((isr v3 (4 : Int32)) &&& (15 : Int32))))) = Q.len s from own_lenmk.trans (by first | (simp only [len_wr, len_wrL] <;> rfl) | rfl)) rfl)
  · rw [if_neg hc209] at h
    have hr0 := Option.some.inj h
    subst hr0
    show Q.len (Q.mk s.f_cells s.f_faultKind s.f_faultVictim s.f_faultAggressor s.f_faultTrigger s.f_victimSlot s.f_aggressorUses s.f_elementOrder s.f_elementCount s.f_elementOps s.f_logBuffer s.f_remap s.f_spareTaken s.f_spareRows s.f_faultLimit s.f_logLimit s.f_latchBit s.f_faultCount s.f_programLength s.f_logLength (s.f_failMask ||| (ish (1 : Int32) ((isr v3 (4 : Int32)) &&& (15 : Int32))))) = _
    exact (Eq.trans (show Q.len (Q.mk s.f_cells s.f_faultKind s.f_faultVictim s.f_faultAggressor s.f_faultTrigger s.f_victimSlot s.f_aggressorUses s.f_elementOrder s.f_elementCount s.f_elementOps s.f_logBuffer s.f_remap s.f_spareTaken s.f_spareRows s.f_faultLimit s.f_logLimit s.f_latchBit s.f_faultCount s.f_programLength s.f_logLength (s.f_failMask ||| (ish (1 : Int32) ((isr v3 (4 : Int32)) &&& (15 : Int32))))) = Q.len s from own_lenmk.trans (by first | (simp only [len_wr, len_wrL] <;> rfl) | rfl)) rfl)
set_option maxRecDepth 100000 in
theorem ev_j_recordFailure (R : AHeap) (s : Q) (v1 : Int32) (v2 : Int32) (v3 : Int32) {res : Q} {out : Option Value × AHeap} (h : j_recordFailure s v1 v2 v3 = some res) (hk : out = (none, (W1 res R))) : Eval own_P 32 0 [some (.ref 0), some (.int v1), some (.int v2), some (.int v3), none] [] (W1 s R) out := by
  rw [j_recordFailure] at h
  refine Eval.iload_n rfl rfl ?_
  refine Eval.iconst (x := (4 : Int32)) rfl rfl ?_
  refine Eval.ishr rfl ?_
  refine Eval.bipush (x := (15 : Int32)) rfl rfl ?_
  refine Eval.iand rfl ?_
  refine Eval.istore (L' := [some (.ref 0), some (.int v1), some (.int v2), some (.int v3), some (.int ((isr v3 (4 : Int32)) &&& (15 : Int32)))]) rfl rfl ?_
  refine Eval.aload_n rfl rfl ?_
  refine Eval.dupR rfl ?_
  refine Eval.getfield rfl rfl own_g1_failMask ?_
  refine Eval.iconst (x := (1 : Int32)) rfl rfl ?_
  refine Eval.iload rfl rfl ?_
  refine Eval.ishl rfl ?_
  refine Eval.ior rfl ?_
  refine Eval.putfield rfl rfl own_p1_failMask ?_
  refine Eval.aload_n rfl rfl ?_
  refine Eval.getfield rfl rfl own_g1_logLength ?_
  refine Eval.aload_n rfl rfl ?_
  refine Eval.getfield rfl rfl own_g1_logLimit ?_
  by_cases hc209 : s.f_logLength < s.f_logLimit
  · rw [if_pos hc209] at h
    refine Eval.icmpF rfl (tlt hc209).2.1 ?_
    refine Eval.aload_n rfl rfl ?_
    refine Eval.getfield rfl rfl own_g1_logLength ?_
    refine Eval.bipush (x := (32 : Int32)) rfl rfl ?_
    by_cases hc210 : s.f_logLength < (32 : Int32)
    · rw [if_pos hc210] at h
      refine Eval.icmpF rfl (tlt hc210).2.1 ?_
      refine Eval.aload_n rfl rfl ?_
      refine Eval.getfield rfl rfl own_g1_logLength ?_
      by_cases hc211 : s.f_logLength < (0 : Int32)
      · rw [if_pos hc211] at h
        refine Eval.ifT (t := 78) rfl rfl (tlt hc211).1 ?_
        cases h
        subst hk
        exact Eval.retH own_mk1 rfl rfl
      · rw [if_neg hc211] at h
        refine Eval.ifF rfl (flt hc211).1 ?_
        refine Eval.aload_n rfl rfl ?_
        refine Eval.getfield rfl rfl own_g1_logBuffer ?_
        refine Eval.aload_n rfl rfl ?_
        refine Eval.getfield rfl rfl own_g1_logLength ?_
        refine Eval.iload_n rfl rfl ?_
        refine Eval.bipush (x := (12 : Int32)) rfl rfl ?_
        refine Eval.ishl rfl ?_
        refine Eval.iload_n rfl rfl ?_
        refine Eval.bipush (x := (8 : Int32)) rfl rfl ?_
        refine Eval.ishl rfl ?_
        refine Eval.ior rfl ?_
        refine Eval.iload_n rfl rfl ?_
        refine Eval.ior rfl ?_
        obtain ⟨hb212, h⟩ := ite_some h
        refine Eval.iastore rfl rfl own_a1_logBuffer hb212 own_s1_logBuffer ?_
        refine Eval.aload_n rfl rfl ?_
        refine Eval.aload_n rfl rfl ?_
        refine Eval.getfield rfl rfl own_g1_logLength ?_
        refine Eval.iconst (x := (1 : Int32)) rfl rfl ?_
        refine Eval.iadd rfl ?_
        refine Eval.putfield rfl rfl own_p1_logLength ?_
        cases h
        subst hk
        exact Eval.retH own_mk1 rfl rfl
    · rw [if_neg hc210] at h
      refine Eval.icmpT (t := 78) rfl rfl (flt hc210).2.1 ?_
      cases h
      subst hk
      exact Eval.retH own_mk1 rfl rfl
  · rw [if_neg hc209] at h
    refine Eval.icmpT (t := 78) rfl rfl (flt hc209).2.1 ?_
    cases h
    subst hk
    exact Eval.retH own_mk1 rfl rfl
def j_runOpsAt_l13 : Nat → Q → Int32 → Int32 → Int32 → Int32 → Int32 → Option (Int32 × Q)
  | 0, _, _, _, _, _, _ => none
  | n + 1, s, v1, v2, v3, v4, v5 => (if v5 < v3 then (if v5 < (4 : Int32) then ((j_opAt s v1 v5).bind fun p139 => ((j_applyOp s p139 v2).bind fun p204 => (if p204.1 = (0 : Int32) then (j_runOpsAt_b55 (j_runOpsAt_l13 n) p204.2 v1 v2 v3 v4 v5) else ((j_recordFailure p204.2 v1 v5 v2).bind fun p213 => (j_runOpsAt_b55 (j_runOpsAt_l13 n) p213 v1 v2 v3 (v4 + (1 : Int32)) v5))))) else some (v4, s)) else some (v4, s))
theorem ln_j_runOpsAt_l13 : ∀ {n : Nat} {s : Q} {v1 : Int32} {v2 : Int32} {v3 : Int32} {v4 : Int32} {v5 : Int32} {res : Int32 × Q}, j_runOpsAt_l13 n s v1 v2 v3 v4 v5 = some res → j_runOpsAt_l13_N s res := by
  intro n
  induction n with
  | zero => intro _ _ _ _ _ _ res h; cases h
  | succ n hrec0 =>
    have hrec : ∀ (s : Q) (v1 : Int32) (v2 : Int32) (v3 : Int32) (v4 : Int32) (v5 : Int32) {res : Int32 × Q}, j_runOpsAt_l13 n s v1 v2 v3 v4 v5 = some res → j_runOpsAt_l13_N s res := by intros; apply hrec0; assumption
    intro s v1 v2 v3 v4 v5 res h
    rw [j_runOpsAt_l13] at h
    by_cases hc133 : v5 < v3
    · rw [if_pos hc133] at h
      by_cases hc134 : v5 < (4 : Int32)
      · rw [if_pos hc134] at h
        obtain ⟨p139, hq140, h⟩ := bind_some h
        obtain ⟨p204, hq205, h⟩ := bind_some h
        have hl206 := (ln_j_applyOp hq205).trans rfl
        by_cases hc208 : p204.1 = (0 : Int32)
        · rw [if_pos hc208] at h
          exact Eq.trans (ln_j_runOpsAt_b55 hrec h) hl206
        · rw [if_neg hc208] at h
          obtain ⟨p213, hq214, h⟩ := bind_some h
          have hl215 := (ln_j_recordFailure hq214).trans hl206
          exact Eq.trans (ln_j_runOpsAt_b55 hrec h) hl215
      · rw [if_neg hc134] at h
        have hr0 := Option.some.inj h
        subst hr0
        show Q.len s = _
        exact rfl
    · rw [if_neg hc133] at h
      have hr0 := Option.some.inj h
      subst hr0
      show Q.len s = _
      exact rfl
set_option maxRecDepth 100000 in
theorem ev_j_runOpsAt_l13 (R : AHeap) : ∀ (n : Nat) (s : Q) (v1 : Int32) (v2 : Int32) (v3 : Int32) (v4 : Int32) (v5 : Int32) {res : Int32 × Q} {out : Option Value × AHeap}, j_runOpsAt_l13 n s v1 v2 v3 v4 v5 = some res → j_runOpsAt_l13_K R res out → Eval own_P 22 13 [some (.ref 0), some (.int v1), some (.int v2), some (.int v3), some (.int v4), some (.int v5), none] [] (W1 s R) out := by
  intro n
  induction n with
  | zero => intro _ _ _ _ _ _ res out h hk; cases h
  | succ n hrec =>
    intro s v1 v2 v3 v4 v5 res out h hk
    rw [j_runOpsAt_l13] at h
    refine Eval.iload rfl rfl ?_
    refine Eval.iload_n rfl rfl ?_
    by_cases hc133 : v5 < v3
    · rw [if_pos hc133] at h
      refine Eval.icmpF rfl (tlt hc133).2.1 ?_
      refine Eval.iload rfl rfl ?_
      refine Eval.iconst (x := (4 : Int32)) rfl rfl ?_
      by_cases hc134 : v5 < (4 : Int32)
      · rw [if_pos hc134] at h
        refine Eval.icmpF rfl (tlt hc134).2.1 ?_
        refine Eval.aload_n rfl rfl ?_
        refine Eval.iload_n rfl rfl ?_
        refine Eval.iload rfl rfl ?_
        obtain ⟨p139, hq140, h⟩ := bind_some h
        refine Eval.callI (rest := []) (x := p139) (H1 := (W1 s R)) rfl rfl (ev_j_opAt R s v1 v5 hq140 rfl) ?_
        refine Eval.istore (L' := [some (.ref 0), some (.int v1), some (.int v2), some (.int v3), some (.int v4), some (.int v5), some (.int p139)]) rfl rfl ?_
        refine Eval.aload_n rfl rfl ?_
        refine Eval.iload rfl rfl ?_
        refine Eval.iload_n rfl rfl ?_
        obtain ⟨p204, hq205, h⟩ := bind_some h
        refine Eval.callI (rest := []) (x := p204.1) (H1 := (W1 p204.2 R)) rfl rfl (ev_j_applyOp R s p139 v2 hq205 rfl) ?_
        by_cases hc208 : p204.1 = (0 : Int32)
        · rw [if_pos hc208] at h
          refine Eval.ifT (t := 55) rfl rfl (teq hc208).1 ?_
          refine Eval.weak (L' := [some (.ref 0), some (.int v1), some (.int v2), some (.int v3), some (.int v4), some (.int v5), none]) ⟨_, _, rfl, Or.inr rfl, _, _, rfl, Or.inr rfl, _, _, rfl, Or.inr rfl, _, _, rfl, Or.inr rfl, _, _, rfl, Or.inr rfl, _, _, rfl, Or.inr rfl, _, _, rfl, Or.inl rfl, rfl⟩ ?_
          exact ev_j_runOpsAt_b55 R _ hrec p204.2 v1 v2 v3 v4 v5 h hk
        · rw [if_neg hc208] at h
          refine Eval.ifF rfl (feq hc208).1 ?_
          refine Eval.aload_n rfl rfl ?_
          refine Eval.iload_n rfl rfl ?_
          refine Eval.iload rfl rfl ?_
          refine Eval.iload_n rfl rfl ?_
          obtain ⟨p213, hq214, h⟩ := bind_some h
          refine Eval.callN (rest := []) (H1 := (W1 p213 R)) rfl rfl (ev_j_recordFailure R p204.2 v1 v5 v2 hq214 rfl) ?_
          refine Eval.iinc (L' := [some (.ref 0), some (.int v1), some (.int v2), some (.int v3), some (.int (v4 + (1 : Int32))), some (.int v5), some (.int p139)]) rfl rfl rfl ?_
          refine Eval.weak (L' := [some (.ref 0), some (.int v1), some (.int v2), some (.int v3), some (.int (v4 + (1 : Int32))), some (.int v5), none]) ⟨_, _, rfl, Or.inr rfl, _, _, rfl, Or.inr rfl, _, _, rfl, Or.inr rfl, _, _, rfl, Or.inr rfl, _, _, rfl, Or.inr rfl, _, _, rfl, Or.inr rfl, _, _, rfl, Or.inl rfl, rfl⟩ ?_
          exact ev_j_runOpsAt_b55 R _ hrec p213 v1 v2 v3 (v4 + (1 : Int32)) v5 h hk
      · rw [if_neg hc134] at h
        refine Eval.icmpT (t := 61) rfl rfl (flt hc134).2.1 ?_
        cases h
        refine Eval.weak (L' := [none, none, none, none, some (.int v4), none, none]) ⟨_, _, rfl, Or.inl rfl, _, _, rfl, Or.inl rfl, _, _, rfl, Or.inl rfl, _, _, rfl, Or.inl rfl, _, _, rfl, Or.inr rfl, _, _, rfl, Or.inl rfl, _, _, rfl, Or.inl rfl, rfl⟩ ?_
        exact hk
    · rw [if_neg hc133] at h
      refine Eval.icmpT (t := 61) rfl rfl (flt hc133).2.1 ?_
      cases h
      refine Eval.weak (L' := [none, none, none, none, some (.int v4), none, none]) ⟨_, _, rfl, Or.inl rfl, _, _, rfl, Or.inl rfl, _, _, rfl, Or.inl rfl, _, _, rfl, Or.inl rfl, _, _, rfl, Or.inr rfl, _, _, rfl, Or.inl rfl, _, _, rfl, Or.inl rfl, rfl⟩ ?_
      exact hk
def j_runOpsAt (s : Q) (v1 : Int32) (v2 : Int32) : Option (Int32 × Q) := (if inb s.f_elementCount.length v1 = true then ((j_runOpsAt_l13 3000 s v1 v2 (rd s.f_elementCount v1) (0 : Int32) (0 : Int32)).bind fun p216 => some (p216.1, p216.2)) else none)
theorem ln_j_runOpsAt {s : Q} {v1 : Int32} {v2 : Int32} {res : Int32 × Q} (h : j_runOpsAt s v1 v2 = some res) : Q.len res.2 = Q.len s := by
  rw [j_runOpsAt] at h
  obtain ⟨hb132, h⟩ := ite_some h
  obtain ⟨p216, hq217, h⟩ := bind_some h
  have hl218 : Q.len p216.2 = _ := Eq.trans (ln_j_runOpsAt_l13 hq217) rfl
  have hr0 := Option.some.inj h
  subst hr0
  show Q.len p216.2 = _
  exact hl218
set_option maxRecDepth 100000 in
theorem ev_j_runOpsAt (R : AHeap) (s : Q) (v1 : Int32) (v2 : Int32) {res : Int32 × Q} {out : Option Value × AHeap} (h : j_runOpsAt s v1 v2 = some res) (hk : out = (some (.int res.1), (W1 res.2 R))) : Eval own_P 22 0 [some (.ref 0), some (.int v1), some (.int v2), none, none, none, none] [] (W1 s R) out := by
  rw [j_runOpsAt] at h
  refine Eval.aload_n rfl rfl ?_
  refine Eval.getfield rfl rfl own_g1_elementCount ?_
  refine Eval.iload_n rfl rfl ?_
  obtain ⟨hb132, h⟩ := ite_some h
  refine Eval.iaload rfl own_a1_elementCount hb132 ?_
  refine Eval.istore_n (L' := [some (.ref 0), some (.int v1), some (.int v2), some (.int (rd s.f_elementCount v1)), none, none, none]) rfl rfl ?_
  refine Eval.iconst (x := (0 : Int32)) rfl rfl ?_
  refine Eval.istore (L' := [some (.ref 0), some (.int v1), some (.int v2), some (.int (rd s.f_elementCount v1)), some (.int (0 : Int32)), none, none]) rfl rfl ?_
  refine Eval.iconst (x := (0 : Int32)) rfl rfl ?_
  refine Eval.istore (L' := [some (.ref 0), some (.int v1), some (.int v2), some (.int (rd s.f_elementCount v1)), some (.int (0 : Int32)), some (.int (0 : Int32)), none]) rfl rfl ?_
  obtain ⟨p216, hq217, h⟩ := bind_some h
  refine ev_j_runOpsAt_l13 R _ s v1 v2 (rd s.f_elementCount v1) (0 : Int32) (0 : Int32) hq217 ?_
  show Eval own_P 22 61 [none, none, none, none, some (.int p216.1), none, none] [] (W1 p216.2 R) out
  refine Eval.iload rfl rfl ?_
  cases h
  subst hk
  exact Eval.ret rfl rfl
def j_runElement_l22 : Nat → Q → Int32 → Int32 → Int32 → Int32 → Option (Int32 × Q)
  | 0, _, _, _, _, _ => none
  | n + 1, s, v1, v2, v3, v4 => (if v4 < (256 : Int32) then ((j_runOpsAt s v1 (j_addressAt v2 v4)).bind fun p219 => (j_runElement_l22 n p219.2 v1 v2 (v3 + p219.1) (v4 + (1 : Int32)))) else some (v3, s))
theorem ln_j_runElement_l22 : ∀ {n : Nat} {s : Q} {v1 : Int32} {v2 : Int32} {v3 : Int32} {v4 : Int32} {res : Int32 × Q}, j_runElement_l22 n s v1 v2 v3 v4 = some res → j_runElement_l22_N s res := by
  intro n
  induction n with
  | zero => intro _ _ _ _ _ res h; cases h
  | succ n hrec0 =>
    have hrec : ∀ (s : Q) (v1 : Int32) (v2 : Int32) (v3 : Int32) (v4 : Int32) {res : Int32 × Q}, j_runElement_l22 n s v1 v2 v3 v4 = some res → j_runElement_l22_N s res := by intros; apply hrec0; assumption
    intro s v1 v2 v3 v4 res h
    rw [j_runElement_l22] at h
    by_cases hc130 : v4 < (256 : Int32)
    · rw [if_pos hc130] at h
      obtain ⟨p219, hq220, h⟩ := bind_some h
      have hl221 := (ln_j_runOpsAt hq220).trans rfl
      exact (hrec _ _ _ _ _ h).trans hl221
    · rw [if_neg hc130] at h
      have hr0 := Option.some.inj h
      subst hr0
      show Q.len s = _
      exact rfl
set_option maxRecDepth 100000 in
theorem ev_j_runElement_l22 (R : AHeap) : ∀ (n : Nat) (s : Q) (v1 : Int32) (v2 : Int32) (v3 : Int32) (v4 : Int32) {res : Int32 × Q} {out : Option Value × AHeap}, j_runElement_l22 n s v1 v2 v3 v4 = some res → j_runElement_l22_K R res out → Eval own_P 19 22 [some (.ref 0), some (.int v1), some (.int v2), some (.int v3), some (.int v4), none] [] (W1 s R) out := by
  intro n
  induction n with
  | zero => intro _ _ _ _ _ res out h hk; cases h
  | succ n hrec =>
    intro s v1 v2 v3 v4 res out h hk
    rw [j_runElement_l22] at h
    refine Eval.iload rfl rfl ?_
    refine Eval.sipush (x := (256 : Int32)) rfl rfl ?_
    by_cases hc130 : v4 < (256 : Int32)
    · rw [if_pos hc130] at h
      refine Eval.icmpF rfl (tlt hc130).2.1 ?_
      refine Eval.aload_n rfl rfl ?_
      refine Eval.iload_n rfl rfl ?_
      refine Eval.iload rfl rfl ?_
      refine Eval.callI (rest := []) (x := (j_addressAt v2 v4)) (H1 := (W1 s R)) rfl rfl (ev_j_addressAt (W1 s R) 0 v2 v4 rfl rfl) ?_
      refine Eval.istore (L' := [some (.ref 0), some (.int v1), some (.int v2), some (.int v3), some (.int v4), some (.int (j_addressAt v2 v4))]) rfl rfl ?_
      refine Eval.iload_n rfl rfl ?_
      refine Eval.aload_n rfl rfl ?_
      refine Eval.iload_n rfl rfl ?_
      refine Eval.iload rfl rfl ?_
      obtain ⟨p219, hq220, h⟩ := bind_some h
      refine Eval.callI (rest := [.int v3]) (x := p219.1) (H1 := (W1 p219.2 R)) rfl rfl (ev_j_runOpsAt R s v1 (j_addressAt v2 v4) hq220 rfl) ?_
      refine Eval.iadd rfl ?_
      refine Eval.istore_n (L' := [some (.ref 0), some (.int v1), some (.int v2), some (.int (v3 + p219.1)), some (.int v4), some (.int (j_addressAt v2 v4))]) rfl rfl ?_
      refine Eval.iinc (L' := [some (.ref 0), some (.int v1), some (.int v2), some (.int (v3 + p219.1)), some (.int (v4 + (1 : Int32))), some (.int (j_addressAt v2 v4))]) rfl rfl rfl ?_
      refine Eval.goto (t := 22) rfl rfl ?_
      refine Eval.weak (L' := [some (.ref 0), some (.int v1), some (.int v2), some (.int (v3 + p219.1)), some (.int (v4 + (1 : Int32))), none]) ⟨_, _, rfl, Or.inr rfl, _, _, rfl, Or.inr rfl, _, _, rfl, Or.inr rfl, _, _, rfl, Or.inr rfl, _, _, rfl, Or.inr rfl, _, _, rfl, Or.inl rfl, rfl⟩ ?_
      exact hrec _ _ _ _ _ h hk
    · rw [if_neg hc130] at h
      refine Eval.icmpT (t := 55) rfl rfl (flt hc130).2.1 ?_
      cases h
      refine Eval.weak (L' := [none, none, none, some (.int v3), none, none]) ⟨_, _, rfl, Or.inl rfl, _, _, rfl, Or.inl rfl, _, _, rfl, Or.inl rfl, _, _, rfl, Or.inr rfl, _, _, rfl, Or.inl rfl, _, _, rfl, Or.inl rfl, rfl⟩ ?_
      exact hk
def j_runElement (s : Q) (v1 : Int32) : Option (Int32 × Q) := (if (j_isElementIndex s v1) = (0 : Int32) then some ((0 : Int32), s) else (if inb s.f_elementOrder.length v1 = true then ((j_runElement_l22 3000 s v1 (rd s.f_elementOrder v1) (0 : Int32) (0 : Int32)).bind fun p222 => some (p222.1, p222.2)) else none))
theorem ln_j_runElement {s : Q} {v1 : Int32} {res : Int32 × Q} (h : j_runElement s v1 = some res) : Q.len res.2 = Q.len s := by
  rw [j_runElement] at h
  by_cases hc128 : (j_isElementIndex s v1) = (0 : Int32)
  · rw [if_pos hc128] at h
    have hr0 := Option.some.inj h
    subst hr0
    show Q.len s = _
    exact rfl
  · rw [if_neg hc128] at h
    obtain ⟨hb129, h⟩ := ite_some h
    obtain ⟨p222, hq223, h⟩ := bind_some h
    have hl224 : Q.len p222.2 = _ := Eq.trans (ln_j_runElement_l22 hq223) rfl
    have hr0 := Option.some.inj h
    subst hr0
    show Q.len p222.2 = _
    exact hl224
set_option maxRecDepth 100000 in
theorem ev_j_runElement (R : AHeap) (s : Q) (v1 : Int32) {res : Int32 × Q} {out : Option Value × AHeap} (h : j_runElement s v1 = some res) (hk : out = (some (.int res.1), (W1 res.2 R))) : Eval own_P 19 0 [some (.ref 0), some (.int v1), none, none, none, none] [] (W1 s R) out := by
  rw [j_runElement] at h
  refine Eval.aload_n rfl rfl ?_
  refine Eval.iload_n rfl rfl ?_
  refine Eval.callI (rest := []) (x := (j_isElementIndex s v1)) (H1 := (W1 s R)) rfl rfl (ev_j_isElementIndex R s v1 rfl rfl) ?_
  by_cases hc128 : (j_isElementIndex s v1) = (0 : Int32)
  · rw [if_pos hc128] at h
    refine Eval.ifF rfl (teq hc128).2 ?_
    refine Eval.iconst (x := (0 : Int32)) rfl rfl ?_
    cases h
    subst hk
    exact Eval.ret rfl rfl
  · rw [if_neg hc128] at h
    refine Eval.ifT (t := 10) rfl rfl (feq hc128).2 ?_
    refine Eval.aload_n rfl rfl ?_
    refine Eval.getfield rfl rfl own_g1_elementOrder ?_
    refine Eval.iload_n rfl rfl ?_
    obtain ⟨hb129, h⟩ := ite_some h
    refine Eval.iaload rfl own_a1_elementOrder hb129 ?_
    refine Eval.istore_n (L' := [some (.ref 0), some (.int v1), some (.int (rd s.f_elementOrder v1)), none, none, none]) rfl rfl ?_
    refine Eval.iconst (x := (0 : Int32)) rfl rfl ?_
    refine Eval.istore_n (L' := [some (.ref 0), some (.int v1), some (.int (rd s.f_elementOrder v1)), some (.int (0 : Int32)), none, none]) rfl rfl ?_
    refine Eval.iconst (x := (0 : Int32)) rfl rfl ?_
    refine Eval.istore (L' := [some (.ref 0), some (.int v1), some (.int (rd s.f_elementOrder v1)), some (.int (0 : Int32)), some (.int (0 : Int32)), none]) rfl rfl ?_
    obtain ⟨p222, hq223, h⟩ := bind_some h
    refine ev_j_runElement_l22 R _ s v1 (rd s.f_elementOrder v1) (0 : Int32) (0 : Int32) hq223 ?_
    show Eval own_P 19 55 [none, none, none, some (.int p222.1), none, none] [] (W1 p222.2 R) out
    refine Eval.iload_n rfl rfl ?_
    cases h
    subst hk
    exact Eval.ret rfl rfl
def j_run_l18 : Nat → Q → Int32 → Int32 → Option (Int32 × Q)
  | 0, _, _, _ => none
  | n + 1, s, v1, v2 => (if v2 < s.f_programLength then (if v2 < (8 : Int32) then ((j_runElement s v2).bind fun p225 => (j_run_l18 n p225.2 (v1 + p225.1) (v2 + (1 : Int32)))) else some (v1, s)) else some (v1, s))
theorem ln_j_run_l18 : ∀ {n : Nat} {s : Q} {v1 : Int32} {v2 : Int32} {res : Int32 × Q}, j_run_l18 n s v1 v2 = some res → j_run_l18_N s res := by
  intro n
  induction n with
  | zero => intro _ _ _ res h; cases h
  | succ n hrec0 =>
    have hrec : ∀ (s : Q) (v1 : Int32) (v2 : Int32) {res : Int32 × Q}, j_run_l18 n s v1 v2 = some res → j_run_l18_N s res := by intros; apply hrec0; assumption
    intro s v1 v2 res h
    rw [j_run_l18] at h
    by_cases hc123 : v2 < s.f_programLength
    · rw [if_pos hc123] at h
      by_cases hc124 : v2 < (8 : Int32)
      · rw [if_pos hc124] at h
        obtain ⟨p225, hq226, h⟩ := bind_some h
        have hl227 := (ln_j_runElement hq226).trans rfl
        exact (hrec _ _ _ h).trans hl227
      · rw [if_neg hc124] at h
        have hr0 := Option.some.inj h
        subst hr0
        show Q.len s = _
        exact rfl
    · rw [if_neg hc123] at h
      have hr0 := Option.some.inj h
      subst hr0
      show Q.len s = _
      exact rfl
set_option maxRecDepth 100000 in
theorem ev_j_run_l18 (R : AHeap) : ∀ (n : Nat) (s : Q) (v1 : Int32) (v2 : Int32) {res : Int32 × Q} {out : Option Value × AHeap}, j_run_l18 n s v1 v2 = some res → j_run_l18_K R res out → Eval own_P 17 18 [some (.ref 0), some (.int v1), some (.int v2)] [] (W1 s R) out := by
  intro n
  induction n with
  | zero => intro _ _ _ res out h hk; cases h
  | succ n hrec =>
    intro s v1 v2 res out h hk
    rw [j_run_l18] at h
    refine Eval.iload_n rfl rfl ?_
    refine Eval.aload_n rfl rfl ?_
    refine Eval.getfield rfl rfl own_g1_programLength ?_
    by_cases hc123 : v2 < s.f_programLength
    · rw [if_pos hc123] at h
      refine Eval.icmpF rfl (tlt hc123).2.1 ?_
      refine Eval.iload_n rfl rfl ?_
      refine Eval.bipush (x := (8 : Int32)) rfl rfl ?_
      by_cases hc124 : v2 < (8 : Int32)
      · rw [if_pos hc124] at h
        refine Eval.icmpF rfl (tlt hc124).2.1 ?_
        refine Eval.iload_n rfl rfl ?_
        refine Eval.aload_n rfl rfl ?_
        refine Eval.iload_n rfl rfl ?_
        obtain ⟨p225, hq226, h⟩ := bind_some h
        refine Eval.callI (rest := [.int v1]) (x := p225.1) (H1 := (W1 p225.2 R)) rfl rfl (ev_j_runElement R s v2 hq226 rfl) ?_
        refine Eval.iadd rfl ?_
        refine Eval.istore_n (L' := [some (.ref 0), some (.int (v1 + p225.1)), some (.int v2)]) rfl rfl ?_
        refine Eval.iinc (L' := [some (.ref 0), some (.int (v1 + p225.1)), some (.int (v2 + (1 : Int32)))]) rfl rfl rfl ?_
        refine Eval.goto (t := 18) rfl rfl ?_
        exact hrec _ _ _ h hk
      · rw [if_neg hc124] at h
        refine Eval.icmpT (t := 46) rfl rfl (flt hc124).2.1 ?_
        cases h
        refine Eval.weak (L' := [none, some (.int v1), none]) ⟨_, _, rfl, Or.inl rfl, _, _, rfl, Or.inr rfl, _, _, rfl, Or.inl rfl, rfl⟩ ?_
        exact hk
    · rw [if_neg hc123] at h
      refine Eval.icmpT (t := 46) rfl rfl (flt hc123).2.1 ?_
      cases h
      refine Eval.weak (L' := [none, some (.int v1), none]) ⟨_, _, rfl, Or.inl rfl, _, _, rfl, Or.inr rfl, _, _, rfl, Or.inl rfl, rfl⟩ ?_
      exact hk
def j_run (s : Q) : Option (Int32 × Q) := (if (0 : Int32) < s.f_programLength then ((j_resetResults s).bind fun p120 => ((j_run_l18 3000 p120 (0 : Int32) (0 : Int32)).bind fun p228 => some (p228.1, p228.2))) else some ((-10 : Int32), s))
theorem ln_j_run {s : Q} {res : Int32 × Q} (h : j_run s = some res) : Q.len res.2 = Q.len s := by
  rw [j_run] at h
  by_cases hc114 : (0 : Int32) < s.f_programLength
  · rw [if_pos hc114] at h
    obtain ⟨p120, hq121, h⟩ := bind_some h
    have hl122 := (ln_j_resetResults hq121).trans rfl
    obtain ⟨p228, hq229, h⟩ := bind_some h
    have hl230 : Q.len p228.2 = _ := Eq.trans (ln_j_run_l18 hq229) hl122
    have hr0 := Option.some.inj h
    subst hr0
    show Q.len p228.2 = _
    exact hl230
  · rw [if_neg hc114] at h
    have hr0 := Option.some.inj h
    subst hr0
    show Q.len s = _
    exact rfl
set_option maxRecDepth 100000 in
theorem ev_j_run (R : AHeap) (s : Q) {res : Int32 × Q} {out : Option Value × AHeap} (h : j_run s = some res) (hk : out = (some (.int res.1), (W1 res.2 R))) : Eval own_P 17 0 [some (.ref 0), none, none] [] (W1 s R) out := by
  rw [j_run] at h
  refine Eval.aload_n rfl rfl ?_
  refine Eval.getfield rfl rfl own_g1_programLength ?_
  by_cases hc114 : (0 : Int32) < s.f_programLength
  · rw [if_pos hc114] at h
    refine Eval.ifT (t := 10) rfl rfl (tlt hc114).2.2.1 ?_
    refine Eval.aload_n rfl rfl ?_
    obtain ⟨p120, hq121, h⟩ := bind_some h
    refine Eval.callN (rest := []) (H1 := (W1 p120 R)) rfl rfl (ev_j_resetResults R s hq121 rfl) ?_
    refine Eval.iconst (x := (0 : Int32)) rfl rfl ?_
    refine Eval.istore_n (L' := [some (.ref 0), some (.int (0 : Int32)), none]) rfl rfl ?_
    refine Eval.iconst (x := (0 : Int32)) rfl rfl ?_
    refine Eval.istore_n (L' := [some (.ref 0), some (.int (0 : Int32)), some (.int (0 : Int32))]) rfl rfl ?_
    obtain ⟨p228, hq229, h⟩ := bind_some h
    refine ev_j_run_l18 R _ p120 (0 : Int32) (0 : Int32) hq229 ?_
    show Eval own_P 17 46 [none, some (.int p228.1), none] [] (W1 p228.2 R) out
    refine Eval.iload_n rfl rfl ?_
    cases h
    subst hk
    exact Eval.ret rfl rfl
  · rw [if_neg hc114] at h
    refine Eval.ifF rfl (flt hc114).2.2.1 ?_
    refine Eval.bipush (x := (-10 : Int32)) rfl rfl ?_
    cases h
    subst hk
    exact Eval.ret rfl rfl
def j_failRows (s : Q) : Int32 := (s.f_failMask)
set_option maxRecDepth 100000 in
theorem ev_j_failRows (R : AHeap) (s : Q) {res : Int32} {out : Option Value × AHeap} (h : j_failRows s = res) (hk : out = (some (.int res), (W1 s R))) : Eval own_P 33 0 [some (.ref 0)] [] (W1 s R) out := by
  rw [j_failRows] at h
  refine Eval.aload_n rfl rfl ?_
  refine Eval.getfield rfl rfl own_g1_failMask ?_
  subst h
  subst hk
  exact Eval.ret rfl rfl
def j_logEntry (s : Q) (v1 : Int32) : Option (Int32) := (if v1 < (0 : Int32) then some ((-1 : Int32)) else (if v1 < s.f_logLength then (if v1 < (32 : Int32) then (if inb s.f_logBuffer.length v1 = true then some ((rd s.f_logBuffer v1)) else none) else some ((-1 : Int32))) else some ((-1 : Int32))))
set_option maxRecDepth 100000 in
theorem ev_j_logEntry (R : AHeap) (s : Q) (v1 : Int32) {res : Int32} {out : Option Value × AHeap} (h : j_logEntry s v1 = some res) (hk : out = (some (.int res), (W1 s R))) : Eval own_P 34 0 [some (.ref 0), some (.int v1)] [] (W1 s R) out := by
  rw [j_logEntry] at h
  refine Eval.iload_n rfl rfl ?_
  by_cases hc242 : v1 < (0 : Int32)
  · rw [if_pos hc242] at h
    refine Eval.ifT (t := 18) rfl rfl (tlt hc242).1 ?_
    refine Eval.iconst (x := (-1 : Int32)) rfl rfl ?_
    cases h
    subst hk
    exact Eval.ret rfl rfl
  · rw [if_neg hc242] at h
    refine Eval.ifF rfl (flt hc242).1 ?_
    refine Eval.iload_n rfl rfl ?_
    refine Eval.aload_n rfl rfl ?_
    refine Eval.getfield rfl rfl own_g1_logLength ?_
    by_cases hc243 : v1 < s.f_logLength
    · rw [if_pos hc243] at h
      refine Eval.icmpF rfl (tlt hc243).2.1 ?_
      refine Eval.iload_n rfl rfl ?_
      refine Eval.bipush (x := (32 : Int32)) rfl rfl ?_
      by_cases hc244 : v1 < (32 : Int32)
      · rw [if_pos hc244] at h
        refine Eval.icmpT (t := 20) rfl rfl (tlt hc244).1 ?_
        refine Eval.aload_n rfl rfl ?_
        refine Eval.getfield rfl rfl own_g1_logBuffer ?_
        refine Eval.iload_n rfl rfl ?_
        obtain ⟨hb245, h⟩ := ite_some h
        refine Eval.iaload rfl own_a1_logBuffer hb245 ?_
        cases h
        subst hk
        exact Eval.ret rfl rfl
      · rw [if_neg hc244] at h
        refine Eval.icmpF rfl (flt hc244).1 ?_
        refine Eval.iconst (x := (-1 : Int32)) rfl rfl ?_
        cases h
        subst hk
        exact Eval.ret rfl rfl
    · rw [if_neg hc243] at h
      refine Eval.icmpT (t := 18) rfl rfl (flt hc243).2.1 ?_
      refine Eval.iconst (x := (-1 : Int32)) rfl rfl ?_
      cases h
      subst hk
      exact Eval.ret rfl rfl
abbrev j_countFailingUnmapped_l4_K (R : AHeap) (s : Q) (res : Int32) (out : Option Value × AHeap) : Prop := Eval own_P 36 27 [none, some (.int res), none] [] (W1 s R) out

def j_isFailingUnmapped (s : Q) (v1 : Int32) : Option (Int32) := (if v1 < (0 : Int32) then some ((0 : Int32)) else (if (15 : Int32) < v1 then some ((0 : Int32)) else (if ((isr s.f_failMask v1) &&& (1 : Int32)) = (0 : Int32) then some ((0 : Int32)) else (if inb s.f_remap.length v1 = true then (if (rd s.f_remap v1) < (0 : Int32) then some ((1 : Int32)) else some ((0 : Int32))) else none))))
set_option maxRecDepth 100000 in
theorem ev_j_isFailingUnmapped (R : AHeap) (s : Q) (v1 : Int32) {res : Int32} {out : Option Value × AHeap} (h : j_isFailingUnmapped s v1 = some res) (hk : out = (some (.int res), (W1 s R))) : Eval own_P 37 0 [some (.ref 0), some (.int v1)] [] (W1 s R) out := by
  rw [j_isFailingUnmapped] at h
  refine Eval.iload_n rfl rfl ?_
  by_cases hc253 : v1 < (0 : Int32)
  · rw [if_pos hc253] at h
    refine Eval.ifT (t := 10) rfl rfl (tlt hc253).1 ?_
    refine Eval.iconst (x := (0 : Int32)) rfl rfl ?_
    cases h
    subst hk
    exact Eval.ret rfl rfl
  · rw [if_neg hc253] at h
    refine Eval.ifF rfl (flt hc253).1 ?_
    refine Eval.iload_n rfl rfl ?_
    refine Eval.bipush (x := (15 : Int32)) rfl rfl ?_
    by_cases hc254 : (15 : Int32) < v1
    · rw [if_pos hc254] at h
      refine Eval.icmpF rfl (tlt hc254).2.2.2 ?_
      refine Eval.iconst (x := (0 : Int32)) rfl rfl ?_
      cases h
      subst hk
      exact Eval.ret rfl rfl
    · rw [if_neg hc254] at h
      refine Eval.icmpT (t := 12) rfl rfl (flt hc254).2.2.2 ?_
      refine Eval.aload_n rfl rfl ?_
      refine Eval.getfield rfl rfl own_g1_failMask ?_
      refine Eval.iload_n rfl rfl ?_
      refine Eval.ishr rfl ?_
      refine Eval.iconst (x := (1 : Int32)) rfl rfl ?_
      refine Eval.iand rfl ?_
      by_cases hc255 : ((isr s.f_failMask v1) &&& (1 : Int32)) = (0 : Int32)
      · rw [if_pos hc255] at h
        refine Eval.ifT (t := 36) rfl rfl (teq hc255).1 ?_
        refine Eval.iconst (x := (0 : Int32)) rfl rfl ?_
        cases h
        subst hk
        exact Eval.ret rfl rfl
      · rw [if_neg hc255] at h
        refine Eval.ifF rfl (feq hc255).1 ?_
        refine Eval.aload_n rfl rfl ?_
        refine Eval.getfield rfl rfl own_g1_remap ?_
        refine Eval.iload_n rfl rfl ?_
        obtain ⟨hb256, h⟩ := ite_some h
        refine Eval.iaload rfl own_a1_remap hb256 ?_
        by_cases hc257 : (rd s.f_remap v1) < (0 : Int32)
        · rw [if_pos hc257] at h
          refine Eval.ifF rfl (tlt hc257).2.1 ?_
          refine Eval.iconst (x := (1 : Int32)) rfl rfl ?_
          refine Eval.goto (t := 37) rfl rfl ?_
          cases h
          subst hk
          exact Eval.ret rfl rfl
        · rw [if_neg hc257] at h
          refine Eval.ifT (t := 36) rfl rfl (flt hc257).2.1 ?_
          refine Eval.iconst (x := (0 : Int32)) rfl rfl ?_
          cases h
          subst hk
          exact Eval.ret rfl rfl
def j_countFailingUnmapped_b21 (go_ : Q → Int32 → Int32 → Option (Int32)) (s : Q) (v1 : Int32) (v2 : Int32) : Option (Int32) := (go_ s v1 (v2 + (1 : Int32)))
set_option maxRecDepth 100000 in
theorem ev_j_countFailingUnmapped_b21 (R : AHeap) (go_ : Q → Int32 → Int32 → Option (Int32)) (hrec : ∀ (s : Q) (v1 : Int32) (v2 : Int32) {res : Int32} {out : Option Value × AHeap}, go_ s v1 v2 = some res → j_countFailingUnmapped_l4_K R s res out → Eval own_P 36 4 [some (.ref 0), some (.int v1), some (.int v2)] [] (W1 s R) out) (s : Q) (v1 : Int32) (v2 : Int32) {res : Int32} {out : Option Value × AHeap} (h : j_countFailingUnmapped_b21 go_ s v1 v2 = some res) (hk : j_countFailingUnmapped_l4_K R s res out) : Eval own_P 36 21 [some (.ref 0), some (.int v1), some (.int v2)] [] (W1 s R) out := by
  rw [j_countFailingUnmapped_b21] at h
  refine Eval.iinc (L' := [some (.ref 0), some (.int v1), some (.int (v2 + (1 : Int32)))]) rfl rfl rfl ?_
  refine Eval.goto (t := 4) rfl rfl ?_
  exact hrec _ _ _ h hk
def j_countFailingUnmapped_l4 : Nat → Q → Int32 → Int32 → Option (Int32)
  | 0, _, _, _ => none
  | n + 1, s, v1, v2 => (if v2 < (16 : Int32) then ((j_isFailingUnmapped s v2).bind fun p258 => (j_countFailingUnmapped_b21 (j_countFailingUnmapped_l4 n) s (if p258 = (0 : Int32) then v1 else (v1 + (1 : Int32))) v2)) else some (v1))
set_option maxRecDepth 100000 in
theorem ev_j_countFailingUnmapped_l4 (R : AHeap) : ∀ (n : Nat) (s : Q) (v1 : Int32) (v2 : Int32) {res : Int32} {out : Option Value × AHeap}, j_countFailingUnmapped_l4 n s v1 v2 = some res → j_countFailingUnmapped_l4_K R s res out → Eval own_P 36 4 [some (.ref 0), some (.int v1), some (.int v2)] [] (W1 s R) out := by
  intro n
  induction n with
  | zero => intro _ _ _ res out h hk; cases h
  | succ n hrec =>
    intro s v1 v2 res out h hk
    rw [j_countFailingUnmapped_l4] at h
    refine Eval.iload_n rfl rfl ?_
    refine Eval.bipush (x := (16 : Int32)) rfl rfl ?_
    by_cases hc252 : v2 < (16 : Int32)
    · rw [if_pos hc252] at h
      refine Eval.icmpF rfl (tlt hc252).2.1 ?_
      refine Eval.aload_n rfl rfl ?_
      refine Eval.iload_n rfl rfl ?_
      obtain ⟨p258, hq259, h⟩ := bind_some h
      refine Eval.callI (rest := []) (x := p258) (H1 := (W1 s R)) rfl rfl (ev_j_isFailingUnmapped R s v2 hq259 rfl) ?_
      suffices hJ261 : Eval own_P 36 21 [some (.ref 0), some (.int (if p258 = (0 : Int32) then v1 else (v1 + (1 : Int32)))), some (.int v2)] [] (W1 s R) out by
        by_cases hc260 : p258 = (0 : Int32)
        · refine Eval.ifT (t := 21) rfl rfl (teq hc260).1 ?_
          exact (Eval.conv hJ261 (by simp only [if_pos hc260]) rfl)
        · refine Eval.ifF rfl (feq hc260).1 ?_
          refine Eval.iinc (L' := [some (.ref 0), some (.int (v1 + (1 : Int32))), some (.int v2)]) rfl rfl rfl ?_
          exact (Eval.conv hJ261 (by simp only [if_neg hc260]) rfl)
      exact ev_j_countFailingUnmapped_b21 R _ hrec s (if p258 = (0 : Int32) then v1 else (v1 + (1 : Int32))) v2 h hk
    · rw [if_neg hc252] at h
      refine Eval.icmpT (t := 27) rfl rfl (flt hc252).2.1 ?_
      cases h
      refine Eval.weak (L' := [none, some (.int v1), none]) ⟨_, _, rfl, Or.inl rfl, _, _, rfl, Or.inr rfl, _, _, rfl, Or.inl rfl, rfl⟩ ?_
      exact hk
def j_countFailingUnmapped (s : Q) : Option (Int32) := ((j_countFailingUnmapped_l4 3000 s (0 : Int32) (0 : Int32)).bind fun p262 => some (p262))
set_option maxRecDepth 100000 in
theorem ev_j_countFailingUnmapped (R : AHeap) (s : Q) {res : Int32} {out : Option Value × AHeap} (h : j_countFailingUnmapped s = some res) (hk : out = (some (.int res), (W1 s R))) : Eval own_P 36 0 [some (.ref 0), none, none] [] (W1 s R) out := by
  rw [j_countFailingUnmapped] at h
  refine Eval.iconst (x := (0 : Int32)) rfl rfl ?_
  refine Eval.istore_n (L' := [some (.ref 0), some (.int (0 : Int32)), none]) rfl rfl ?_
  refine Eval.iconst (x := (0 : Int32)) rfl rfl ?_
  refine Eval.istore_n (L' := [some (.ref 0), some (.int (0 : Int32)), some (.int (0 : Int32))]) rfl rfl ?_
  obtain ⟨p262, hq263, h⟩ := bind_some h
  refine ev_j_countFailingUnmapped_l4 R _ s (0 : Int32) (0 : Int32) hq263 ?_
  show Eval own_P 36 27 [none, some (.int p262), none] [] (W1 s R) out
  refine Eval.iload_n rfl rfl ?_
  cases h
  subst hk
  exact Eval.ret rfl rfl
abbrev j_countFreeSpares_l4_K (R : AHeap) (s : Q) (res : Int32) (out : Option Value × AHeap) : Prop := Eval own_P 38 35 [none, some (.int res), none] [] (W1 s R) out

def j_countFreeSpares_b29 (go_ : Q → Int32 → Int32 → Option (Int32)) (s : Q) (v1 : Int32) (v2 : Int32) : Option (Int32) := (go_ s v1 (v2 + (1 : Int32)))
set_option maxRecDepth 100000 in
theorem ev_j_countFreeSpares_b29 (R : AHeap) (go_ : Q → Int32 → Int32 → Option (Int32)) (hrec : ∀ (s : Q) (v1 : Int32) (v2 : Int32) {res : Int32} {out : Option Value × AHeap}, go_ s v1 v2 = some res → j_countFreeSpares_l4_K R s res out → Eval own_P 38 4 [some (.ref 0), some (.int v1), some (.int v2)] [] (W1 s R) out) (s : Q) (v1 : Int32) (v2 : Int32) {res : Int32} {out : Option Value × AHeap} (h : j_countFreeSpares_b29 go_ s v1 v2 = some res) (hk : j_countFreeSpares_l4_K R s res out) : Eval own_P 38 29 [some (.ref 0), some (.int v1), some (.int v2)] [] (W1 s R) out := by
  rw [j_countFreeSpares_b29] at h
  refine Eval.iinc (L' := [some (.ref 0), some (.int v1), some (.int (v2 + (1 : Int32)))]) rfl rfl rfl ?_
  refine Eval.goto (t := 4) rfl rfl ?_
  exact hrec _ _ _ h hk
def j_countFreeSpares_l4 : Nat → Q → Int32 → Int32 → Option (Int32)
  | 0, _, _, _ => none
  | n + 1, s, v1, v2 => (if v2 < s.f_spareRows then (if v2 < (4 : Int32) then (if inb s.f_spareTaken.length v2 = true then (j_countFreeSpares_b29 (j_countFreeSpares_l4 n) s (if (rd s.f_spareTaken v2) = (0 : Int32) then (v1 + (1 : Int32)) else v1) v2) else none) else some (v1)) else some (v1))
set_option maxRecDepth 100000 in
theorem ev_j_countFreeSpares_l4 (R : AHeap) : ∀ (n : Nat) (s : Q) (v1 : Int32) (v2 : Int32) {res : Int32} {out : Option Value × AHeap}, j_countFreeSpares_l4 n s v1 v2 = some res → j_countFreeSpares_l4_K R s res out → Eval own_P 38 4 [some (.ref 0), some (.int v1), some (.int v2)] [] (W1 s R) out := by
  intro n
  induction n with
  | zero => intro _ _ _ res out h hk; cases h
  | succ n hrec =>
    intro s v1 v2 res out h hk
    rw [j_countFreeSpares_l4] at h
    refine Eval.iload_n rfl rfl ?_
    refine Eval.aload_n rfl rfl ?_
    refine Eval.getfield rfl rfl own_g1_spareRows ?_
    by_cases hc266 : v2 < s.f_spareRows
    · rw [if_pos hc266] at h
      refine Eval.icmpF rfl (tlt hc266).2.1 ?_
      refine Eval.iload_n rfl rfl ?_
      refine Eval.iconst (x := (4 : Int32)) rfl rfl ?_
      by_cases hc267 : v2 < (4 : Int32)
      · rw [if_pos hc267] at h
        refine Eval.icmpF rfl (tlt hc267).2.1 ?_
        refine Eval.aload_n rfl rfl ?_
        refine Eval.getfield rfl rfl own_g1_spareTaken ?_
        refine Eval.iload_n rfl rfl ?_
        obtain ⟨hb268, h⟩ := ite_some h
        refine Eval.baloadZ rfl own_a1_spareTaken hb268 ?_
        suffices hJ270 : Eval own_P 38 29 [some (.ref 0), some (.int (if (rd s.f_spareTaken v2) = (0 : Int32) then (v1 + (1 : Int32)) else v1)), some (.int v2)] [] (W1 s R) out by
          by_cases hc269 : (rd s.f_spareTaken v2) = (0 : Int32)
          · refine Eval.ifF rfl (teq hc269).2 ?_
            refine Eval.iinc (L' := [some (.ref 0), some (.int (v1 + (1 : Int32))), some (.int v2)]) rfl rfl rfl ?_
            exact (Eval.conv hJ270 (by simp only [if_pos hc269]) rfl)
          · refine Eval.ifT (t := 29) rfl rfl (feq hc269).2 ?_
            exact (Eval.conv hJ270 (by simp only [if_neg hc269]) rfl)
        exact ev_j_countFreeSpares_b29 R _ hrec s (if (rd s.f_spareTaken v2) = (0 : Int32) then (v1 + (1 : Int32)) else v1) v2 h hk
      · rw [if_neg hc267] at h
        refine Eval.icmpT (t := 35) rfl rfl (flt hc267).2.1 ?_
        cases h
        refine Eval.weak (L' := [none, some (.int v1), none]) ⟨_, _, rfl, Or.inl rfl, _, _, rfl, Or.inr rfl, _, _, rfl, Or.inl rfl, rfl⟩ ?_
        exact hk
    · rw [if_neg hc266] at h
      refine Eval.icmpT (t := 35) rfl rfl (flt hc266).2.1 ?_
      cases h
      refine Eval.weak (L' := [none, some (.int v1), none]) ⟨_, _, rfl, Or.inl rfl, _, _, rfl, Or.inr rfl, _, _, rfl, Or.inl rfl, rfl⟩ ?_
      exact hk
def j_countFreeSpares (s : Q) : Option (Int32) := ((j_countFreeSpares_l4 3000 s (0 : Int32) (0 : Int32)).bind fun p271 => some (p271))
set_option maxRecDepth 100000 in
theorem ev_j_countFreeSpares (R : AHeap) (s : Q) {res : Int32} {out : Option Value × AHeap} (h : j_countFreeSpares s = some res) (hk : out = (some (.int res), (W1 s R))) : Eval own_P 38 0 [some (.ref 0), none, none] [] (W1 s R) out := by
  rw [j_countFreeSpares] at h
  refine Eval.iconst (x := (0 : Int32)) rfl rfl ?_
  refine Eval.istore_n (L' := [some (.ref 0), some (.int (0 : Int32)), none]) rfl rfl ?_
  refine Eval.iconst (x := (0 : Int32)) rfl rfl ?_
  refine Eval.istore_n (L' := [some (.ref 0), some (.int (0 : Int32)), some (.int (0 : Int32))]) rfl rfl ?_
  obtain ⟨p271, hq272, h⟩ := bind_some h
  refine ev_j_countFreeSpares_l4 R _ s (0 : Int32) (0 : Int32) hq272 ?_
  show Eval own_P 38 35 [none, some (.int p271), none] [] (W1 s R) out
  refine Eval.iload_n rfl rfl ?_
  cases h
  subst hk
  exact Eval.ret rfl rfl
abbrev j_repair_l20_K (R : AHeap) (res : (Int32 × Q) ⊕ (Int32 × Q)) (out : Option Value × AHeap) : Prop := Sum.elim (fun res => Eval own_P 35 45 [none, some (.int res.1), none, none, none] [] (W1 res.2 R) out) (fun res => Eval own_P 35 60 [none, some (.int res.1), none, none, none] [] (W1 res.2 R) out) res

abbrev j_repair_l20_N (s : Q) (res : (Int32 × Q) ⊕ (Int32 × Q)) : Prop := Sum.elim (fun res => Q.len res.2 = Q.len s) (fun res => Q.len res.2 = Q.len s) res
def j_repair_b54 (go_ : Q → Int32 → Int32 → Option ((Int32 × Q) ⊕ (Int32 × Q))) (s : Q) (v1 : Int32) (v3 : Int32) : Option ((Int32 × Q) ⊕ (Int32 × Q)) := (go_ s v1 (v3 + (1 : Int32)))
theorem ln_j_repair_b54 {go_ : Q → Int32 → Int32 → Option ((Int32 × Q) ⊕ (Int32 × Q))} (hrec : ∀ (s : Q) (v1 : Int32) (v3 : Int32) {res : (Int32 × Q) ⊕ (Int32 × Q)}, go_ s v1 v3 = some res → j_repair_l20_N s res) {s : Q} {v1 : Int32} {v3 : Int32} {res : (Int32 × Q) ⊕ (Int32 × Q)} (h : j_repair_b54 go_ s v1 v3 = some res) : j_repair_l20_N s res := by
  rw [j_repair_b54] at h
  have hz := hrec _ _ _ h
  rcases res with res | res
  · exact Eq.trans hz rfl
  · exact Eq.trans hz rfl
set_option maxRecDepth 100000 in
theorem ev_j_repair_b54 (R : AHeap) (go_ : Q → Int32 → Int32 → Option ((Int32 × Q) ⊕ (Int32 × Q))) (hrec : ∀ (s : Q) (v1 : Int32) (v3 : Int32) {res : (Int32 × Q) ⊕ (Int32 × Q)} {out : Option Value × AHeap}, go_ s v1 v3 = some res → j_repair_l20_K R res out → Eval own_P 35 20 [some (.ref 0), some (.int v1), none, some (.int v3), none] [] (W1 s R) out) (s : Q) (v1 : Int32) (v3 : Int32) {res : (Int32 × Q) ⊕ (Int32 × Q)} {out : Option Value × AHeap} (h : j_repair_b54 go_ s v1 v3 = some res) (hk : j_repair_l20_K R res out) : Eval own_P 35 54 [some (.ref 0), some (.int v1), none, some (.int v3), none] [] (W1 s R) out := by
  rw [j_repair_b54] at h
  refine Eval.iinc (L' := [some (.ref 0), some (.int v1), none, some (.int (v3 + (1 : Int32))), none]) rfl rfl rfl ?_
  refine Eval.goto (t := 20) rfl rfl ?_
  exact hrec _ _ _ h hk
abbrev j_leastFreeSpare_l2_K (R : AHeap) (s : Q) (res : (Int32) ⊕ (Unit)) (out : Option Value × AHeap) : Prop := Sum.elim (fun res => Eval own_P 39 24 [none, some (.int res)] [] (W1 s R) out) (fun res => Eval own_P 39 32 [none, none] [] (W1 s R) out) res

def j_leastFreeSpare_l2 : Nat → Q → Int32 → Option ((Int32) ⊕ (Unit))
  | 0, _, _ => none
  | n + 1, s, v1 => (if v1 < s.f_spareRows then (if v1 < (4 : Int32) then (if inb s.f_spareTaken.length v1 = true then (if (rd s.f_spareTaken v1) = (0 : Int32) then some (.inl (v1)) else (j_leastFreeSpare_l2 n s (v1 + (1 : Int32)))) else none) else some (.inr ())) else some (.inr ()))
set_option maxRecDepth 100000 in
theorem ev_j_leastFreeSpare_l2 (R : AHeap) : ∀ (n : Nat) (s : Q) (v1 : Int32) {res : (Int32) ⊕ (Unit)} {out : Option Value × AHeap}, j_leastFreeSpare_l2 n s v1 = some res → j_leastFreeSpare_l2_K R s res out → Eval own_P 39 2 [some (.ref 0), some (.int v1)] [] (W1 s R) out := by
  intro n
  induction n with
  | zero => intro _ _ res out h hk; cases h
  | succ n hrec =>
    intro s v1 res out h hk
    rw [j_leastFreeSpare_l2] at h
    refine Eval.iload_n rfl rfl ?_
    refine Eval.aload_n rfl rfl ?_
    refine Eval.getfield rfl rfl own_g1_spareRows ?_
    by_cases hc280 : v1 < s.f_spareRows
    · rw [if_pos hc280] at h
      refine Eval.icmpF rfl (tlt hc280).2.1 ?_
      refine Eval.iload_n rfl rfl ?_
      refine Eval.iconst (x := (4 : Int32)) rfl rfl ?_
      by_cases hc281 : v1 < (4 : Int32)
      · rw [if_pos hc281] at h
        refine Eval.icmpF rfl (tlt hc281).2.1 ?_
        refine Eval.aload_n rfl rfl ?_
        refine Eval.getfield rfl rfl own_g1_spareTaken ?_
        refine Eval.iload_n rfl rfl ?_
        obtain ⟨hb282, h⟩ := ite_some h
        refine Eval.baloadZ rfl own_a1_spareTaken hb282 ?_
        by_cases hc283 : (rd s.f_spareTaken v1) = (0 : Int32)
        · rw [if_pos hc283] at h
          refine Eval.ifF rfl (teq hc283).2 ?_
          cases h
          refine Eval.weak (L' := [none, some (.int v1)]) ⟨_, _, rfl, Or.inl rfl, _, _, rfl, Or.inr rfl, rfl⟩ ?_
          exact hk
        · rw [if_neg hc283] at h
          refine Eval.ifT (t := 26) rfl rfl (feq hc283).2 ?_
          refine Eval.iinc (L' := [some (.ref 0), some (.int (v1 + (1 : Int32)))]) rfl rfl rfl ?_
          refine Eval.goto (t := 2) rfl rfl ?_
          exact hrec _ _ h hk
      · rw [if_neg hc281] at h
        refine Eval.icmpT (t := 32) rfl rfl (flt hc281).2.1 ?_
        cases h
        refine Eval.weak (L' := [none, none]) ⟨_, _, rfl, Or.inl rfl, _, _, rfl, Or.inl rfl, rfl⟩ ?_
        exact hk
    · rw [if_neg hc280] at h
      refine Eval.icmpT (t := 32) rfl rfl (flt hc280).2.1 ?_
      cases h
      refine Eval.weak (L' := [none, none]) ⟨_, _, rfl, Or.inl rfl, _, _, rfl, Or.inl rfl, rfl⟩ ?_
      exact hk
def j_leastFreeSpare (s : Q) : Option (Int32) := ((j_leastFreeSpare_l2 3000 s (0 : Int32)).bind fun p284 => Sum.elim (fun p286 => some (p286)) (fun p287 => some ((-1 : Int32))) p284)
set_option maxRecDepth 100000 in
theorem ev_j_leastFreeSpare (R : AHeap) (s : Q) {res : Int32} {out : Option Value × AHeap} (h : j_leastFreeSpare s = some res) (hk : out = (some (.int res), (W1 s R))) : Eval own_P 39 0 [some (.ref 0), none] [] (W1 s R) out := by
  rw [j_leastFreeSpare] at h
  refine Eval.iconst (x := (0 : Int32)) rfl rfl ?_
  refine Eval.istore_n (L' := [some (.ref 0), some (.int (0 : Int32))]) rfl rfl ?_
  obtain ⟨p284, hq285, h⟩ := bind_some h
  rcases p284 with p286 | p287
  · dsimp only [Sum.elim] at h
    refine ev_j_leastFreeSpare_l2 R _ s (0 : Int32) hq285 ?_
    show Eval own_P 39 24 [none, some (.int p286)] [] (W1 s R) out
    refine Eval.iload_n rfl rfl ?_
    cases h
    subst hk
    exact Eval.ret rfl rfl
  · dsimp only [Sum.elim] at h
    refine ev_j_leastFreeSpare_l2 R _ s (0 : Int32) hq285 ?_
    show Eval own_P 39 32 [none, none] [] (W1 s R) out
    refine Eval.iconst (x := (-1 : Int32)) rfl rfl ?_
    cases h
    subst hk
    exact Eval.ret rfl rfl
abbrev j_assignSpare_l46_K (R : AHeap) (res : Q) (out : Option Value × AHeap) : Prop := Eval own_P 40 69 [none, none, none, none, none] [] (W1 res R) out

abbrev j_assignSpare_l46_N (s : Q) (res : Q) : Prop := Q.len res = Q.len s
def j_assignSpare_l46 : Nat → Q → Int32 → Int32 → Option (Q)
  | 0, _, _, _ => none
  | n + 1, s, v3, v4 => (if v4 < (16 : Int32) then (if inb s.f_cells.length (v3 + v4) = true then (j_assignSpare_l46 n (Q.mk (wr s.f_cells (v3 + v4) (i8 (0 : Int32))) s.f_faultKind s.f_faultVictim s.f_faultAggressor s.f_faultTrigger s.f_victimSlot s.f_aggressorUses s.f_elementOrder s.f_elementCount s.f_elementOps s.f_logBuffer s.f_remap s.f_spareTaken s.f_spareRows s.f_faultLimit s.f_logLimit s.f_latchBit s.f_faultCount s.f_programLength s.f_logLength s.f_failMask) v3 (v4 + (1 : Int32))) else none) else some (s))
theorem ln_j_assignSpare_l46 : ∀ {n : Nat} {s : Q} {v3 : Int32} {v4 : Int32} {res : Q}, j_assignSpare_l46 n s v3 v4 = some res → j_assignSpare_l46_N s res := by
  intro n
  induction n with
  | zero => intro _ _ _ res h; cases h
  | succ n hrec0 =>
    have hrec : ∀ (s : Q) (v3 : Int32) (v4 : Int32) {res : Q}, j_assignSpare_l46 n s v3 v4 = some res → j_assignSpare_l46_N s res := by intros; apply hrec0; assumption
    intro s v3 v4 res h
    rw [j_assignSpare_l46] at h
    by_cases hc297 : v4 < (16 : Int32)
    · rw [if_pos hc297] at h
      obtain ⟨hb298, h⟩ := ite_some h
      exact (hrec _ _ _ h).trans (Eq.trans (show Q.len (Q.mk (wr s.f_cells (v3 + v4) (i8 (0 : Int32))) s.f_faultKind s.f_faultVictim s.f_faultAggressor s.f_faultTrigger s.f_victimSlot s.f_aggressorUses s.f_elementOrder s.f_elementCount s.f_elementOps s.f_logBuffer s.f_remap s.f_spareTaken s.f_spareRows s.f_faultLimit s.f_logLimit s.f_latchBit s.f_faultCount s.f_programLength s.f_logLength s.f_failMask) = Q.len s from own_lenmk.trans (by first | (simp only [len_wr, len_wrL] <;> rfl) | rfl)) rfl)
    · rw [if_neg hc297] at h
      have hr0 := Option.some.inj h
      subst hr0
      show Q.len s = _
      exact rfl
set_option maxRecDepth 100000 in
theorem ev_j_assignSpare_l46 (R : AHeap) : ∀ (n : Nat) (s : Q) (v3 : Int32) (v4 : Int32) {res : Q} {out : Option Value × AHeap}, j_assignSpare_l46 n s v3 v4 = some res → j_assignSpare_l46_K R res out → Eval own_P 40 46 [some (.ref 0), none, none, some (.int v3), some (.int v4)] [] (W1 s R) out := by
  intro n
  induction n with
  | zero => intro _ _ _ res out h hk; cases h
  | succ n hrec =>
    intro s v3 v4 res out h hk
    rw [j_assignSpare_l46] at h
    refine Eval.iload rfl rfl ?_
    refine Eval.bipush (x := (16 : Int32)) rfl rfl ?_
    by_cases hc297 : v4 < (16 : Int32)
    · rw [if_pos hc297] at h
      refine Eval.icmpF rfl (tlt hc297).2.1 ?_
      refine Eval.aload_n rfl rfl ?_
      refine Eval.getfield rfl rfl own_g1_cells ?_
      refine Eval.iload_n rfl rfl ?_
      refine Eval.iload rfl rfl ?_
      refine Eval.iadd rfl ?_
      refine Eval.iconst (x := (0 : Int32)) rfl rfl ?_
      obtain ⟨hb298, h⟩ := ite_some h
      refine Eval.bastoreB rfl rfl own_a1_cells hb298 own_s1_cells ?_
      refine Eval.iinc (L' := [some (.ref 0), none, none, some (.int v3), some (.int (v4 + (1 : Int32)))]) rfl rfl rfl ?_
      refine Eval.goto (t := 46) rfl rfl ?_
      refine Eval.heap own_mk1 ?_
      exact hrec _ _ _ h hk
    · rw [if_neg hc297] at h
      refine Eval.icmpT (t := 69) rfl rfl (flt hc297).2.1 ?_
      cases h
      refine Eval.weak (L' := [none, none, none, none, none]) ⟨_, _, rfl, Or.inl rfl, _, _, rfl, Or.inl rfl, _, _, rfl, Or.inl rfl, _, _, rfl, Or.inl rfl, _, _, rfl, Or.inl rfl, rfl⟩ ?_
      exact hk
def j_assignSpare (s : Q) (v1 : Int32) (v2 : Int32) : Option (Q) := (if v1 < (0 : Int32) then some (s) else (if (15 : Int32) < v1 then some (s) else (if v2 < (0 : Int32) then some (s) else (if (3 : Int32) < v2 then some (s) else (if inb s.f_remap.length v1 = true then (if inb s.f_spareTaken.length v2 = true then ((j_assignSpare_l46 3000 (Q.mk s.f_cells s.f_faultKind s.f_faultVictim s.f_faultAggressor s.f_faultTrigger s.f_victimSlot s.f_aggressorUses s.f_elementOrder s.f_elementCount s.f_elementOps s.f_logBuffer (wr s.f_remap v1 v2) (wr s.f_spareTaken v2 (1 : Int32)) s.f_spareRows s.f_faultLimit s.f_logLimit s.f_latchBit s.f_faultCount s.f_programLength s.f_logLength s.f_failMask) ((256 : Int32) + ((16 : Int32) * v2)) (0 : Int32)).bind fun p299 => some (p299)) else none) else none)))))
theorem ln_j_assignSpare {s : Q} {v1 : Int32} {v2 : Int32} {res : Q} (h : j_assignSpare s v1 v2 = some res) : Q.len res = Q.len s := by
  rw [j_assignSpare] at h
  by_cases hc291 : v1 < (0 : Int32)
  · rw [if_pos hc291] at h
    have hr0 := Option.some.inj h
    subst hr0
    show Q.len s = _
    exact rfl
  · rw [if_neg hc291] at h
    by_cases hc292 : (15 : Int32) < v1
    · rw [if_pos hc292] at h
      have hr0 := Option.some.inj h
      subst hr0
      show Q.len s = _
      exact rfl
    · rw [if_neg hc292] at h
      by_cases hc293 : v2 < (0 : Int32)
      · rw [if_pos hc293] at h
        have hr0 := Option.some.inj h
        subst hr0
        show Q.len s = _
        exact rfl
      · rw [if_neg hc293] at h
        by_cases hc294 : (3 : Int32) < v2
        · rw [if_pos hc294] at h
          have hr0 := Option.some.inj h
          subst hr0
          show Q.len s = _
          exact rfl
        · rw [if_neg hc294] at h
          obtain ⟨hb295, h⟩ := ite_some h
          obtain ⟨hb296, h⟩ := ite_some h
          obtain ⟨p299, hq300, h⟩ := bind_some h
          have hl301 : Q.len p299 = _ := Eq.trans (ln_j_assignSpare_l46 hq300) (Eq.trans (show Q.len (Q.mk s.f_cells s.f_faultKind s.f_faultVictim s.f_faultAggressor s.f_faultTrigger s.f_victimSlot s.f_aggressorUses s.f_elementOrder s.f_elementCount s.f_elementOps s.f_logBuffer (wr s.f_remap v1 v2) (wr s.f_spareTaken v2 (1 : Int32)) s.f_spareRows s.f_faultLimit s.f_logLimit s.f_latchBit s.f_faultCount s.f_programLength s.f_logLength s.f_failMask) = Q.len s from own_lenmk.trans (by first | (simp only [len_wr, len_wrL] <;> rfl) | rfl)) rfl)
          have hr0 := Option.some.inj h
          subst hr0
          show Q.len p299 = _
          exact hl301
set_option maxRecDepth 100000 in
theorem ev_j_assignSpare (R : AHeap) (s : Q) (v1 : Int32) (v2 : Int32) {res : Q} {out : Option Value × AHeap} (h : j_assignSpare s v1 v2 = some res) (hk : out = (none, (W1 res R))) : Eval own_P 40 0 [some (.ref 0), some (.int v1), some (.int v2), none, none] [] (W1 s R) out := by
  rw [j_assignSpare] at h
  refine Eval.iload_n rfl rfl ?_
  by_cases hc291 : v1 < (0 : Int32)
  · rw [if_pos hc291] at h
    refine Eval.ifT (t := 19) rfl rfl (tlt hc291).1 ?_
    cases h
    subst hk
    exact Eval.ret rfl rfl
  · rw [if_neg hc291] at h
    refine Eval.ifF rfl (flt hc291).1 ?_
    refine Eval.iload_n rfl rfl ?_
    refine Eval.bipush (x := (15 : Int32)) rfl rfl ?_
    by_cases hc292 : (15 : Int32) < v1
    · rw [if_pos hc292] at h
      refine Eval.icmpT (t := 19) rfl rfl (tlt hc292).2.2.1 ?_
      cases h
      subst hk
      exact Eval.ret rfl rfl
    · rw [if_neg hc292] at h
      refine Eval.icmpF rfl (flt hc292).2.2.1 ?_
      refine Eval.iload_n rfl rfl ?_
      by_cases hc293 : v2 < (0 : Int32)
      · rw [if_pos hc293] at h
        refine Eval.ifT (t := 19) rfl rfl (tlt hc293).1 ?_
        cases h
        subst hk
        exact Eval.ret rfl rfl
      · rw [if_neg hc293] at h
        refine Eval.ifF rfl (flt hc293).1 ?_
        refine Eval.iload_n rfl rfl ?_
        refine Eval.iconst (x := (3 : Int32)) rfl rfl ?_
        by_cases hc294 : (3 : Int32) < v2
        · rw [if_pos hc294] at h
          refine Eval.icmpF rfl (tlt hc294).2.2.2 ?_
          cases h
          subst hk
          exact Eval.ret rfl rfl
        · rw [if_neg hc294] at h
          refine Eval.icmpT (t := 20) rfl rfl (flt hc294).2.2.2 ?_
          refine Eval.aload_n rfl rfl ?_
          refine Eval.getfield rfl rfl own_g1_remap ?_
          refine Eval.iload_n rfl rfl ?_
          refine Eval.iload_n rfl rfl ?_
          obtain ⟨hb295, h⟩ := ite_some h
          refine Eval.iastore rfl rfl own_a1_remap hb295 own_s1_remap ?_
          refine Eval.aload_n rfl rfl ?_
          refine Eval.getfield rfl rfl own_g1_spareTaken ?_
          refine Eval.iload_n rfl rfl ?_
          refine Eval.iconst (x := (1 : Int32)) rfl rfl ?_
          obtain ⟨hb296, h⟩ := ite_some h
          refine Eval.bastoreZ rfl rfl own_a1_spareTaken hb296 own_s1_spareTaken ?_
          refine Eval.sipush (x := (256 : Int32)) rfl rfl ?_
          refine Eval.bipush (x := (16 : Int32)) rfl rfl ?_
          refine Eval.iload_n rfl rfl ?_
          refine Eval.imul rfl ?_
          refine Eval.iadd rfl ?_
          refine Eval.istore_n (L' := [some (.ref 0), some (.int v1), some (.int v2), some (.int ((256 : Int32) + ((16 : Int32) * v2))), none]) rfl rfl ?_
          refine Eval.iconst (x := (0 : Int32)) rfl rfl ?_
          refine Eval.istore (L' := [some (.ref 0), some (.int v1), some (.int v2), some (.int ((256 : Int32) + ((16 : Int32) * v2))), some (.int (0 : Int32))]) rfl rfl ?_
          refine Eval.heap own_mk1 ?_
          refine Eval.weak (L' := [some (.ref 0), none, none, some (.int ((256 : Int32) + ((16 : Int32) * v2))), some (.int (0 : Int32))]) ⟨_, _, rfl, Or.inr rfl, _, _, rfl, Or.inl rfl, _, _, rfl, Or.inl rfl, _, _, rfl, Or.inr rfl, _, _, rfl, Or.inr rfl, rfl⟩ ?_
          obtain ⟨p299, hq300, h⟩ := bind_some h
          refine ev_j_assignSpare_l46 R _ (Q.mk s.f_cells s.f_faultKind s.f_faultVictim s.f_faultAggressor s.f_faultTrigger s.f_victimSlot s.f_aggressorUses s.f_elementOrder s.f_elementCount s.f_elementOps s.f_logBuffer (wr s.f_remap v1 v2) (wr s.f_spareTaken v2 (1 : Int32)) s.f_spareRows s.f_faultLimit s.f_logLimit s.f_latchBit s.f_faultCount s.f_programLength s.f_logLength s.f_failMask) ((256 : Int32) + ((16 : Int32) * v2)) (0 : Int32) hq300 ?_
          show Eval own_P 40 69 [none, none, none, none, none] [] (W1 p299 R) out
          cases h
          subst hk
          exact Eval.ret rfl rfl
def j_repair_l20 : Nat → Q → Int32 → Int32 → Option ((Int32 × Q) ⊕ (Int32 × Q))
  | 0, _, _, _ => none
  | n + 1, s, v1, v3 => (if v3 < (16 : Int32) then ((j_isFailingUnmapped s v3).bind fun p277 => (if p277 = (0 : Int32) then (j_repair_b54 (j_repair_l20 n) s v1 v3) else ((j_leastFreeSpare s).bind fun p288 => (if p288 < (0 : Int32) then some (.inl (v1, s)) else ((j_assignSpare s v3 p288).bind fun p302 => (j_repair_b54 (j_repair_l20 n) p302 v1 v3)))))) else some (.inr (v1, s)))
theorem ln_j_repair_l20 : ∀ {n : Nat} {s : Q} {v1 : Int32} {v3 : Int32} {res : (Int32 × Q) ⊕ (Int32 × Q)}, j_repair_l20 n s v1 v3 = some res → j_repair_l20_N s res := by
  intro n
  induction n with
  | zero => intro _ _ _ res h; cases h
  | succ n hrec0 =>
    have hrec : ∀ (s : Q) (v1 : Int32) (v3 : Int32) {res : (Int32 × Q) ⊕ (Int32 × Q)}, j_repair_l20 n s v1 v3 = some res → j_repair_l20_N s res := by intros; apply hrec0; assumption
    intro s v1 v3 res h
    rw [j_repair_l20] at h
    by_cases hc276 : v3 < (16 : Int32)
    · rw [if_pos hc276] at h
      obtain ⟨p277, hq278, h⟩ := bind_some h
      by_cases hc279 : p277 = (0 : Int32)
      · rw [if_pos hc279] at h
        have hz := ln_j_repair_b54 hrec h
        rcases res with res | res
        · exact Eq.trans hz rfl
        · exact Eq.trans hz rfl
      · rw [if_neg hc279] at h
        obtain ⟨p288, hq289, h⟩ := bind_some h
        by_cases hc290 : p288 < (0 : Int32)
        · rw [if_pos hc290] at h
          have hr0 := Option.some.inj h
          subst hr0
          show Q.len s = _
          exact rfl
        · rw [if_neg hc290] at h
          obtain ⟨p302, hq303, h⟩ := bind_some h
          have hl304 := (ln_j_assignSpare hq303).trans rfl
          have hz := ln_j_repair_b54 hrec h
          rcases res with res | res
          · exact Eq.trans hz hl304
          · exact Eq.trans hz hl304
    · rw [if_neg hc276] at h
      have hr0 := Option.some.inj h
      subst hr0
      show Q.len s = _
      exact rfl
set_option maxRecDepth 100000 in
theorem ev_j_repair_l20 (R : AHeap) : ∀ (n : Nat) (s : Q) (v1 : Int32) (v3 : Int32) {res : (Int32 × Q) ⊕ (Int32 × Q)} {out : Option Value × AHeap}, j_repair_l20 n s v1 v3 = some res → j_repair_l20_K R res out → Eval own_P 35 20 [some (.ref 0), some (.int v1), none, some (.int v3), none] [] (W1 s R) out := by
  intro n
  induction n with
  | zero => intro _ _ _ res out h hk; cases h
  | succ n hrec =>
    intro s v1 v3 res out h hk
    rw [j_repair_l20] at h
    refine Eval.iload_n rfl rfl ?_
    refine Eval.bipush (x := (16 : Int32)) rfl rfl ?_
    by_cases hc276 : v3 < (16 : Int32)
    · rw [if_pos hc276] at h
      refine Eval.icmpF rfl (tlt hc276).2.1 ?_
      refine Eval.aload_n rfl rfl ?_
      refine Eval.iload_n rfl rfl ?_
      obtain ⟨p277, hq278, h⟩ := bind_some h
      refine Eval.callI (rest := []) (x := p277) (H1 := (W1 s R)) rfl rfl (ev_j_isFailingUnmapped R s v3 hq278 rfl) ?_
      by_cases hc279 : p277 = (0 : Int32)
      · rw [if_pos hc279] at h
        refine Eval.ifT (t := 54) rfl rfl (teq hc279).1 ?_
        exact ev_j_repair_b54 R _ hrec s v1 v3 h hk
      · rw [if_neg hc279] at h
        refine Eval.ifF rfl (feq hc279).1 ?_
        refine Eval.aload_n rfl rfl ?_
        obtain ⟨p288, hq289, h⟩ := bind_some h
        refine Eval.callI (rest := []) (x := p288) (H1 := (W1 s R)) rfl rfl (ev_j_leastFreeSpare R s hq289 rfl) ?_
        refine Eval.istore (L' := [some (.ref 0), some (.int v1), none, some (.int v3), some (.int p288)]) rfl rfl ?_
        refine Eval.iload rfl rfl ?_
        by_cases hc290 : p288 < (0 : Int32)
        · rw [if_pos hc290] at h
          refine Eval.ifF rfl (tlt hc290).2.1 ?_
          cases h
          refine Eval.weak (L' := [none, some (.int v1), none, none, none]) ⟨_, _, rfl, Or.inl rfl, _, _, rfl, Or.inr rfl, _, _, rfl, Or.inl rfl, _, _, rfl, Or.inl rfl, _, _, rfl, Or.inl rfl, rfl⟩ ?_
          exact hk
        · rw [if_neg hc290] at h
          refine Eval.ifT (t := 47) rfl rfl (flt hc290).2.1 ?_
          refine Eval.aload_n rfl rfl ?_
          refine Eval.iload_n rfl rfl ?_
          refine Eval.iload rfl rfl ?_
          obtain ⟨p302, hq303, h⟩ := bind_some h
          refine Eval.callN (rest := []) (H1 := (W1 p302 R)) rfl rfl (ev_j_assignSpare R s v3 p288 hq303 rfl) ?_
          refine Eval.weak (L' := [some (.ref 0), some (.int v1), none, some (.int v3), none]) ⟨_, _, rfl, Or.inr rfl, _, _, rfl, Or.inr rfl, _, _, rfl, Or.inl rfl, _, _, rfl, Or.inr rfl, _, _, rfl, Or.inl rfl, rfl⟩ ?_
          exact ev_j_repair_b54 R _ hrec p302 v1 v3 h hk
    · rw [if_neg hc276] at h
      refine Eval.icmpT (t := 60) rfl rfl (flt hc276).2.1 ?_
      cases h
      refine Eval.weak (L' := [none, some (.int v1), none, none, none]) ⟨_, _, rfl, Or.inl rfl, _, _, rfl, Or.inr rfl, _, _, rfl, Or.inl rfl, _, _, rfl, Or.inl rfl, _, _, rfl, Or.inl rfl, rfl⟩ ?_
      exact hk
def j_repair (s : Q) : Option (Int32 × Q) := ((j_countFailingUnmapped s).bind fun p264 => ((j_countFreeSpares s).bind fun p273 => (if p273 < p264 then some ((-11 : Int32), s) else ((j_repair_l20 3000 s p264 (0 : Int32)).bind fun p305 => Sum.elim (fun p307 => some (p307.1, p307.2)) (fun p308 => some (p308.1, p308.2)) p305))))
theorem ln_j_repair {s : Q} {res : Int32 × Q} (h : j_repair s = some res) : Q.len res.2 = Q.len s := by
  rw [j_repair] at h
  obtain ⟨p264, hq265, h⟩ := bind_some h
  obtain ⟨p273, hq274, h⟩ := bind_some h
  by_cases hc275 : p273 < p264
  · rw [if_pos hc275] at h
    have hr0 := Option.some.inj h
    subst hr0
    show Q.len s = _
    exact rfl
  · rw [if_neg hc275] at h
    obtain ⟨p305, hq306, h⟩ := bind_some h
    rcases p305 with p307 | p308
    · dsimp only [Sum.elim] at h
      have hl309 : Q.len p307.2 = _ := Eq.trans (ln_j_repair_l20 hq306) rfl
      have hr0 := Option.some.inj h
      subst hr0
      show Q.len p307.2 = _
      exact hl309
    · dsimp only [Sum.elim] at h
      have hl310 : Q.len p308.2 = _ := Eq.trans (ln_j_repair_l20 hq306) rfl
      have hr0 := Option.some.inj h
      subst hr0
      show Q.len p308.2 = _
      exact hl310
set_option maxRecDepth 100000 in
theorem ev_j_repair (R : AHeap) (s : Q) {res : Int32 × Q} {out : Option Value × AHeap} (h : j_repair s = some res) (hk : out = (some (.int res.1), (W1 res.2 R))) : Eval own_P 35 0 [some (.ref 0), none, none, none, none] [] (W1 s R) out := by
  rw [j_repair] at h
  refine Eval.aload_n rfl rfl ?_
  obtain ⟨p264, hq265, h⟩ := bind_some h
  refine Eval.callI (rest := []) (x := p264) (H1 := (W1 s R)) rfl rfl (ev_j_countFailingUnmapped R s hq265 rfl) ?_
  refine Eval.istore_n (L' := [some (.ref 0), some (.int p264), none, none, none]) rfl rfl ?_
  refine Eval.aload_n rfl rfl ?_
  obtain ⟨p273, hq274, h⟩ := bind_some h
  refine Eval.callI (rest := []) (x := p273) (H1 := (W1 s R)) rfl rfl (ev_j_countFreeSpares R s hq274 rfl) ?_
  refine Eval.istore_n (L' := [some (.ref 0), some (.int p264), some (.int p273), none, none]) rfl rfl ?_
  refine Eval.iload_n rfl rfl ?_
  refine Eval.iload_n rfl rfl ?_
  by_cases hc275 : p273 < p264
  · rw [if_pos hc275] at h
    refine Eval.icmpF rfl (tlt hc275).2.2.2 ?_
    refine Eval.bipush (x := (-11 : Int32)) rfl rfl ?_
    cases h
    subst hk
    exact Eval.ret rfl rfl
  · rw [if_neg hc275] at h
    refine Eval.icmpT (t := 18) rfl rfl (flt hc275).2.2.2 ?_
    refine Eval.iconst (x := (0 : Int32)) rfl rfl ?_
    refine Eval.istore_n (L' := [some (.ref 0), some (.int p264), some (.int p273), some (.int (0 : Int32)), none]) rfl rfl ?_
    refine Eval.weak (L' := [some (.ref 0), some (.int p264), none, some (.int (0 : Int32)), none]) ⟨_, _, rfl, Or.inr rfl, _, _, rfl, Or.inr rfl, _, _, rfl, Or.inl rfl, _, _, rfl, Or.inr rfl, _, _, rfl, Or.inl rfl, rfl⟩ ?_
    obtain ⟨p305, hq306, h⟩ := bind_some h
    rcases p305 with p307 | p308
    · dsimp only [Sum.elim] at h
      refine ev_j_repair_l20 R _ s p264 (0 : Int32) hq306 ?_
      show Eval own_P 35 45 [none, some (.int p307.1), none, none, none] [] (W1 p307.2 R) out
      refine Eval.iload_n rfl rfl ?_
      cases h
      subst hk
      exact Eval.ret rfl rfl
    · dsimp only [Sum.elim] at h
      refine ev_j_repair_l20 R _ s p264 (0 : Int32) hq306 ?_
      show Eval own_P 35 60 [none, some (.int p308.1), none, none, none] [] (W1 p308.2 R) out
      refine Eval.iload_n rfl rfl ?_
      cases h
      subst hk
      exact Eval.ret rfl rfl
def j_rowMap (s : Q) (v1 : Int32) : Option (Int32) := (if v1 < (0 : Int32) then some ((-1 : Int32)) else (if (15 : Int32) < v1 then some ((-1 : Int32)) else (if inb s.f_remap.length v1 = true then some ((rd s.f_remap v1)) else none)))
set_option maxRecDepth 100000 in
theorem ev_j_rowMap (R : AHeap) (s : Q) (v1 : Int32) {res : Int32} {out : Option Value × AHeap} (h : j_rowMap s v1 = some res) (hk : out = (some (.int res), (W1 s R))) : Eval own_P 41 0 [some (.ref 0), some (.int v1)] [] (W1 s R) out := by
  rw [j_rowMap] at h
  refine Eval.iload_n rfl rfl ?_
  by_cases hc316 : v1 < (0 : Int32)
  · rw [if_pos hc316] at h
    refine Eval.ifT (t := 10) rfl rfl (tlt hc316).1 ?_
    refine Eval.iconst (x := (-1 : Int32)) rfl rfl ?_
    cases h
    subst hk
    exact Eval.ret rfl rfl
  · rw [if_neg hc316] at h
    refine Eval.ifF rfl (flt hc316).1 ?_
    refine Eval.iload_n rfl rfl ?_
    refine Eval.bipush (x := (15 : Int32)) rfl rfl ?_
    by_cases hc317 : (15 : Int32) < v1
    · rw [if_pos hc317] at h
      refine Eval.icmpF rfl (tlt hc317).2.2.2 ?_
      refine Eval.iconst (x := (-1 : Int32)) rfl rfl ?_
      cases h
      subst hk
      exact Eval.ret rfl rfl
    · rw [if_neg hc317] at h
      refine Eval.icmpT (t := 12) rfl rfl (flt hc317).2.2.2 ?_
      refine Eval.aload_n rfl rfl ?_
      refine Eval.getfield rfl rfl own_g1_remap ?_
      refine Eval.iload_n rfl rfl ?_
      obtain ⟨hb318, h⟩ := ite_some h
      refine Eval.iaload rfl own_a1_remap hb318 ?_
      cases h
      subst hk
      exact Eval.ret rfl rfl
def j_latch (s : Q) : Int32 := (s.f_latchBit)
set_option maxRecDepth 100000 in
theorem ev_j_latch (R : AHeap) (s : Q) {res : Int32} {out : Option Value × AHeap} (h : j_latch s = res) (hk : out = (some (.int res), (W1 s R))) : Eval own_P 42 0 [some (.ref 0)] [] (W1 s R) out := by
  rw [j_latch] at h
  refine Eval.aload_n rfl rfl ?_
  refine Eval.getfield rfl rfl own_g1_latchBit ?_
  subst h
  subst hk
  exact Eval.ret rfl rfl
def law_b223 (s : Q) (w0 : Int32) (w1 : Int32) : Option (Int32 × Q) := (if w0 = w1 then ((j_run s).bind fun p324 => (if p324.1 = (0 : Int32) then (if (j_failRows p324.2) = (0 : Int32) then (if (j_latch p324.2) = (1 : Int32) then some ((1 : Int32), p324.2) else some ((0 : Int32), p324.2)) else some ((0 : Int32), p324.2)) else some ((0 : Int32), p324.2))) else some ((0 : Int32), s))
set_option maxRecDepth 100000 in
theorem ev_law_b223 (s : Q) (w0 : Int32) (w1 : Int32) {res : Int32 × Q} {out : Option Value × AHeap} (h : law_b223 s w0 w1 = some res) (hk : out = (some (.int res.1), (W1 res.2 []))) : Eval own_P 0 223 [none, none, some (.ref 0), none, none, none, none, none, none] [.int w1, .int w0] (W1 s []) out := by
  rw [law_b223] at h
  by_cases hc323 : w0 = w1
  · rw [if_pos hc323] at h
    refine Eval.icmpT (t := 228) rfl rfl (teq hc323).1 ?_
    refine Eval.aload_n rfl rfl ?_
    obtain ⟨p324, hq325, h⟩ := bind_some h
    refine Eval.callI (rest := []) (x := p324.1) (H1 := (W1 p324.2 [])) rfl rfl (ev_j_run [] s hq325 rfl) ?_
    by_cases hc326 : p324.1 = (0 : Int32)
    · rw [if_pos hc326] at h
      refine Eval.ifT (t := 237) rfl rfl (teq hc326).1 ?_
      refine Eval.aload_n rfl rfl ?_
      refine Eval.callI (rest := []) (x := (j_failRows p324.2)) (H1 := (W1 p324.2 [])) rfl rfl (ev_j_failRows [] p324.2 rfl rfl) ?_
      by_cases hc327 : (j_failRows p324.2) = (0 : Int32)
      · rw [if_pos hc327] at h
        refine Eval.ifT (t := 246) rfl rfl (teq hc327).1 ?_
        refine Eval.aload_n rfl rfl ?_
        refine Eval.callI (rest := []) (x := (j_latch p324.2)) (H1 := (W1 p324.2 [])) rfl rfl (ev_j_latch [] p324.2 rfl rfl) ?_
        refine Eval.iconst (x := (1 : Int32)) rfl rfl ?_
        by_cases hc328 : (j_latch p324.2) = (1 : Int32)
        · rw [if_pos hc328] at h
          refine Eval.icmpF rfl (teq hc328).2 ?_
          refine Eval.iconst (x := (1 : Int32)) rfl rfl ?_
          refine Eval.goto (t := 259) rfl rfl ?_
          cases h
          subst hk
          exact Eval.ret rfl rfl
        · rw [if_neg hc328] at h
          refine Eval.icmpT (t := 258) rfl rfl (feq hc328).2 ?_
          refine Eval.iconst (x := (0 : Int32)) rfl rfl ?_
          cases h
          subst hk
          exact Eval.ret rfl rfl
      · rw [if_neg hc327] at h
        refine Eval.ifF rfl (feq hc327).1 ?_
        refine Eval.iconst (x := (0 : Int32)) rfl rfl ?_
        cases h
        subst hk
        exact Eval.ret rfl rfl
    · rw [if_neg hc326] at h
      refine Eval.ifF rfl (feq hc326).1 ?_
      refine Eval.iconst (x := (0 : Int32)) rfl rfl ?_
      cases h
      subst hk
      exact Eval.ret rfl rfl
  · rw [if_neg hc323] at h
    refine Eval.icmpF rfl (feq hc323).1 ?_
    refine Eval.iconst (x := (0 : Int32)) rfl rfl ?_
    cases h
    subst hk
    exact Eval.ret rfl rfl
def law_b197 (s : Q) (v1 : Int32) (v5 : Int32) (w0 : Int32) (w1 : Int32) : Option (Int32 × Q) := (if w0 = w1 then ((j_rowMap s (isr v1 (4 : Int32))).bind fun p319 => (law_b223 s p319 (if v5 = (0 : Int32) then (-1 : Int32) else (0 : Int32)))) else some ((0 : Int32), s))
set_option maxRecDepth 100000 in
theorem ev_law_b197 (s : Q) (v1 : Int32) (v5 : Int32) (w0 : Int32) (w1 : Int32) {res : Int32 × Q} {out : Option Value × AHeap} (h : law_b197 s v1 v5 w0 w1 = some res) (hk : out = (some (.int res.1), (W1 res.2 []))) : Eval own_P 0 197 [none, some (.int v1), some (.ref 0), none, none, some (.int v5), none, none, none] [.int w1, .int w0] (W1 s []) out := by
  rw [law_b197] at h
  by_cases hc315 : w0 = w1
  · rw [if_pos hc315] at h
    refine Eval.icmpT (t := 202) rfl rfl (teq hc315).1 ?_
    refine Eval.iload_n rfl rfl ?_
    refine Eval.iconst (x := (4 : Int32)) rfl rfl ?_
    refine Eval.ishr rfl ?_
    refine Eval.istore (L' := [none, some (.int v1), some (.ref 0), none, none, some (.int v5), none, none, some (.int (isr v1 (4 : Int32)))]) rfl rfl ?_
    refine Eval.aload_n rfl rfl ?_
    refine Eval.iload rfl rfl ?_
    obtain ⟨p319, hq320, h⟩ := bind_some h
    refine Eval.callI (rest := []) (x := p319) (H1 := (W1 s [])) rfl rfl (ev_j_rowMap [] s (isr v1 (4 : Int32)) hq320 rfl) ?_
    refine Eval.iload rfl rfl ?_
    suffices hJ322 : Eval own_P 0 223 [none, none, some (.ref 0), none, none, none, none, none, none] [.int (if v5 = (0 : Int32) then (-1 : Int32) else (0 : Int32)), .int p319] (W1 s []) out by
      by_cases hc321 : v5 = (0 : Int32)
      · refine Eval.ifT (t := 222) rfl rfl (teq hc321).1 ?_
        refine Eval.iconst (x := (-1 : Int32)) rfl rfl ?_
        refine Eval.weak (L' := [none, none, some (.ref 0), none, none, none, none, none, none]) ⟨_, _, rfl, Or.inl rfl, _, _, rfl, Or.inl rfl, _, _, rfl, Or.inr rfl, _, _, rfl, Or.inl rfl, _, _, rfl, Or.inl rfl, _, _, rfl, Or.inl rfl, _, _, rfl, Or.inl rfl, _, _, rfl, Or.inl rfl, _, _, rfl, Or.inl rfl, rfl⟩ ?_
        exact (Eval.conv hJ322 rfl (by simp only [if_pos hc321]))
      · refine Eval.ifF rfl (feq hc321).1 ?_
        refine Eval.iconst (x := (0 : Int32)) rfl rfl ?_
        refine Eval.goto (t := 223) rfl rfl ?_
        refine Eval.weak (L' := [none, none, some (.ref 0), none, none, none, none, none, none]) ⟨_, _, rfl, Or.inl rfl, _, _, rfl, Or.inl rfl, _, _, rfl, Or.inr rfl, _, _, rfl, Or.inl rfl, _, _, rfl, Or.inl rfl, _, _, rfl, Or.inl rfl, _, _, rfl, Or.inl rfl, _, _, rfl, Or.inl rfl, _, _, rfl, Or.inl rfl, rfl⟩ ?_
        exact (Eval.conv hJ322 rfl (by simp only [if_neg hc321]))
    exact ev_law_b223 s p319 (if v5 = (0 : Int32) then (-1 : Int32) else (0 : Int32)) h hk
  · rw [if_neg hc315] at h
    refine Eval.icmpF rfl (feq hc315).1 ?_
    refine Eval.iconst (x := (0 : Int32)) rfl rfl ?_
    cases h
    subst hk
    exact Eval.ret rfl rfl
def law_b158 (s : Q) (v1 : Int32) (v5 : Int32) (w0 : Int32) : Option (Int32 × Q) := ((j_logEntry s (0 : Int32)).bind fun p246 => (if p246 = w0 then ((j_logEntry s (1 : Int32)).bind fun p249 => (if p249 = (-1 : Int32) then ((j_repair s).bind fun p311 => (law_b197 p311.2 v1 v5 p311.1 (if v5 = (0 : Int32) then (0 : Int32) else (1 : Int32)))) else some ((0 : Int32), s))) else some ((0 : Int32), s)))
set_option maxRecDepth 100000 in
theorem ev_law_b158 (s : Q) (v1 : Int32) (v5 : Int32) (w0 : Int32) {res : Int32 × Q} {out : Option Value × AHeap} (h : law_b158 s v1 v5 w0 = some res) (hk : out = (some (.int res.1), (W1 res.2 []))) : Eval own_P 0 158 [none, some (.int v1), some (.ref 0), none, none, some (.int v5), none, none, none] [.int w0] (W1 s []) out := by
  rw [law_b158] at h
  refine Eval.istore (L' := [none, some (.int v1), some (.ref 0), none, none, some (.int v5), none, some (.int w0), none]) rfl rfl ?_
  refine Eval.aload_n rfl rfl ?_
  refine Eval.iconst (x := (0 : Int32)) rfl rfl ?_
  obtain ⟨p246, hq247, h⟩ := bind_some h
  refine Eval.callI (rest := []) (x := p246) (H1 := (W1 s [])) rfl rfl (ev_j_logEntry [] s (0 : Int32) hq247 rfl) ?_
  refine Eval.iload rfl rfl ?_
  by_cases hc248 : p246 = w0
  · rw [if_pos hc248] at h
    refine Eval.icmpT (t := 172) rfl rfl (teq hc248).1 ?_
    refine Eval.aload_n rfl rfl ?_
    refine Eval.iconst (x := (1 : Int32)) rfl rfl ?_
    obtain ⟨p249, hq250, h⟩ := bind_some h
    refine Eval.callI (rest := []) (x := p249) (H1 := (W1 s [])) rfl rfl (ev_j_logEntry [] s (1 : Int32) hq250 rfl) ?_
    refine Eval.iconst (x := (-1 : Int32)) rfl rfl ?_
    by_cases hc251 : p249 = (-1 : Int32)
    · rw [if_pos hc251] at h
      refine Eval.icmpT (t := 183) rfl rfl (teq hc251).1 ?_
      refine Eval.aload_n rfl rfl ?_
      obtain ⟨p311, hq312, h⟩ := bind_some h
      refine Eval.callI (rest := []) (x := p311.1) (H1 := (W1 p311.2 [])) rfl rfl (ev_j_repair [] s hq312 rfl) ?_
      refine Eval.iload rfl rfl ?_
      suffices hJ314 : Eval own_P 0 197 [none, some (.int v1), some (.ref 0), none, none, some (.int v5), none, none, none] [.int (if v5 = (0 : Int32) then (0 : Int32) else (1 : Int32)), .int p311.1] (W1 p311.2 []) out by
        by_cases hc313 : v5 = (0 : Int32)
        · refine Eval.ifT (t := 196) rfl rfl (teq hc313).1 ?_
          refine Eval.iconst (x := (0 : Int32)) rfl rfl ?_
          refine Eval.weak (L' := [none, some (.int v1), some (.ref 0), none, none, some (.int v5), none, none, none]) ⟨_, _, rfl, Or.inl rfl, _, _, rfl, Or.inr rfl, _, _, rfl, Or.inr rfl, _, _, rfl, Or.inl rfl, _, _, rfl, Or.inl rfl, _, _, rfl, Or.inr rfl, _, _, rfl, Or.inl rfl, _, _, rfl, Or.inl rfl, _, _, rfl, Or.inl rfl, rfl⟩ ?_
          exact (Eval.conv hJ314 rfl (by simp only [if_pos hc313]))
        · refine Eval.ifF rfl (feq hc313).1 ?_
          refine Eval.iconst (x := (1 : Int32)) rfl rfl ?_
          refine Eval.goto (t := 197) rfl rfl ?_
          refine Eval.weak (L' := [none, some (.int v1), some (.ref 0), none, none, some (.int v5), none, none, none]) ⟨_, _, rfl, Or.inl rfl, _, _, rfl, Or.inr rfl, _, _, rfl, Or.inr rfl, _, _, rfl, Or.inl rfl, _, _, rfl, Or.inl rfl, _, _, rfl, Or.inr rfl, _, _, rfl, Or.inl rfl, _, _, rfl, Or.inl rfl, _, _, rfl, Or.inl rfl, rfl⟩ ?_
          exact (Eval.conv hJ314 rfl (by simp only [if_neg hc313]))
      exact ev_law_b197 p311.2 v1 v5 p311.1 (if v5 = (0 : Int32) then (0 : Int32) else (1 : Int32)) h hk
    · rw [if_neg hc251] at h
      refine Eval.icmpF rfl (feq hc251).1 ?_
      refine Eval.iconst (x := (0 : Int32)) rfl rfl ?_
      cases h
      subst hk
      exact Eval.ret rfl rfl
  · rw [if_neg hc248] at h
    refine Eval.icmpF rfl (feq hc248).1 ?_
    refine Eval.iconst (x := (0 : Int32)) rfl rfl ?_
    cases h
    subst hk
    exact Eval.ret rfl rfl
def law_b119 (s : Q) (v1 : Int32) (v3 : Int32) (v5 : Int32) (w0 : Int32) : Option (Int32 × Q) := (if (j_failRows s) = w0 then (law_b158 s v1 v5 (if v5 = (0 : Int32) then (-1 : Int32) else (if v3 = (0 : Int32) then ((8192 : Int32) + v1) else ((4096 : Int32) + v1)))) else some ((0 : Int32), s))
set_option maxRecDepth 100000 in
theorem ev_law_b119 (s : Q) (v1 : Int32) (v3 : Int32) (v5 : Int32) (w0 : Int32) {res : Int32 × Q} {out : Option Value × AHeap} (h : law_b119 s v1 v3 v5 w0 = some res) (hk : out = (some (.int res.1), (W1 res.2 []))) : Eval own_P 0 119 [none, some (.int v1), some (.ref 0), some (.int v3), none, some (.int v5), none, none, none] [.int w0] (W1 s []) out := by
  rw [law_b119] at h
  refine Eval.istore (L' := [none, some (.int v1), some (.ref 0), some (.int v3), none, some (.int v5), some (.int w0), none, none]) rfl rfl ?_
  refine Eval.aload_n rfl rfl ?_
  refine Eval.callI (rest := []) (x := (j_failRows s)) (H1 := (W1 s [])) rfl rfl (ev_j_failRows [] s rfl rfl) ?_
  refine Eval.iload rfl rfl ?_
  by_cases hc238 : (j_failRows s) = w0
  · rw [if_pos hc238] at h
    refine Eval.icmpT (t := 132) rfl rfl (teq hc238).1 ?_
    refine Eval.iload rfl rfl ?_
    suffices hJ241 : Eval own_P 0 158 [none, some (.int v1), some (.ref 0), none, none, some (.int v5), none, none, none] [.int (if v5 = (0 : Int32) then (-1 : Int32) else (if v3 = (0 : Int32) then ((8192 : Int32) + v1) else ((4096 : Int32) + v1)))] (W1 s []) out by
      by_cases hc239 : v5 = (0 : Int32)
      · refine Eval.ifF rfl (teq hc239).2 ?_
        refine Eval.iconst (x := (-1 : Int32)) rfl rfl ?_
        refine Eval.goto (t := 158) rfl rfl ?_
        refine Eval.weak (L' := [none, some (.int v1), some (.ref 0), none, none, some (.int v5), none, none, none]) ⟨_, _, rfl, Or.inl rfl, _, _, rfl, Or.inr rfl, _, _, rfl, Or.inr rfl, _, _, rfl, Or.inl rfl, _, _, rfl, Or.inl rfl, _, _, rfl, Or.inr rfl, _, _, rfl, Or.inl rfl, _, _, rfl, Or.inl rfl, _, _, rfl, Or.inl rfl, rfl⟩ ?_
        exact (Eval.conv hJ241 rfl (by simp only [if_pos hc239]))
      · refine Eval.ifT (t := 141) rfl rfl (feq hc239).2 ?_
        refine Eval.iload_n rfl rfl ?_
        by_cases hc240 : v3 = (0 : Int32)
        · refine Eval.ifT (t := 153) rfl rfl (teq hc240).1 ?_
          refine Eval.sipush (x := (8192 : Int32)) rfl rfl ?_
          refine Eval.iload_n rfl rfl ?_
          refine Eval.iadd rfl ?_
          refine Eval.weak (L' := [none, some (.int v1), some (.ref 0), none, none, some (.int v5), none, none, none]) ⟨_, _, rfl, Or.inl rfl, _, _, rfl, Or.inr rfl, _, _, rfl, Or.inr rfl, _, _, rfl, Or.inl rfl, _, _, rfl, Or.inl rfl, _, _, rfl, Or.inr rfl, _, _, rfl, Or.inl rfl, _, _, rfl, Or.inl rfl, _, _, rfl, Or.inl rfl, rfl⟩ ?_
          exact (Eval.conv hJ241 rfl (by simp only [if_neg hc239, if_pos hc240]))
        · refine Eval.ifF rfl (feq hc240).1 ?_
          refine Eval.sipush (x := (4096 : Int32)) rfl rfl ?_
          refine Eval.iload_n rfl rfl ?_
          refine Eval.iadd rfl ?_
          refine Eval.goto (t := 158) rfl rfl ?_
          refine Eval.weak (L' := [none, some (.int v1), some (.ref 0), none, none, some (.int v5), none, none, none]) ⟨_, _, rfl, Or.inl rfl, _, _, rfl, Or.inr rfl, _, _, rfl, Or.inr rfl, _, _, rfl, Or.inl rfl, _, _, rfl, Or.inl rfl, _, _, rfl, Or.inr rfl, _, _, rfl, Or.inl rfl, _, _, rfl, Or.inl rfl, _, _, rfl, Or.inl rfl, rfl⟩ ?_
          exact (Eval.conv hJ241 rfl (by simp only [if_neg hc239, if_neg hc240]))
    exact ev_law_b158 s v1 v5 (if v5 = (0 : Int32) then (-1 : Int32) else (if v3 = (0 : Int32) then ((8192 : Int32) + v1) else ((4096 : Int32) + v1))) h hk
  · rw [if_neg hc238] at h
    refine Eval.icmpF rfl (feq hc238).1 ?_
    refine Eval.iconst (x := (0 : Int32)) rfl rfl ?_
    cases h
    subst hk
    exact Eval.ret rfl rfl
def law_b100 (s : Q) (v1 : Int32) (v3 : Int32) (v5 : Int32) (w0 : Int32) (w1 : Int32) : Option (Int32 × Q) := (if w0 = w1 then (law_b119 s v1 v3 v5 (if v5 = (0 : Int32) then (0 : Int32) else (ish (1 : Int32) (isr v1 (4 : Int32))))) else some ((0 : Int32), s))
set_option maxRecDepth 100000 in
theorem ev_law_b100 (s : Q) (v1 : Int32) (v3 : Int32) (v5 : Int32) (w0 : Int32) (w1 : Int32) {res : Int32 × Q} {out : Option Value × AHeap} (h : law_b100 s v1 v3 v5 w0 w1 = some res) (hk : out = (some (.int res.1), (W1 res.2 []))) : Eval own_P 0 100 [none, some (.int v1), some (.ref 0), some (.int v3), none, some (.int v5), none, none, none] [.int w1, .int w0] (W1 s []) out := by
  rw [law_b100] at h
  by_cases hc235 : w0 = w1
  · rw [if_pos hc235] at h
    refine Eval.icmpT (t := 105) rfl rfl (teq hc235).1 ?_
    refine Eval.iload rfl rfl ?_
    suffices hJ237 : Eval own_P 0 119 [none, some (.int v1), some (.ref 0), some (.int v3), none, some (.int v5), none, none, none] [.int (if v5 = (0 : Int32) then (0 : Int32) else (ish (1 : Int32) (isr v1 (4 : Int32))))] (W1 s []) out by
      by_cases hc236 : v5 = (0 : Int32)
      · refine Eval.ifT (t := 118) rfl rfl (teq hc236).1 ?_
        refine Eval.iconst (x := (0 : Int32)) rfl rfl ?_
        exact (Eval.conv hJ237 rfl (by simp only [if_pos hc236]))
      · refine Eval.ifF rfl (feq hc236).1 ?_
        refine Eval.iconst (x := (1 : Int32)) rfl rfl ?_
        refine Eval.iload_n rfl rfl ?_
        refine Eval.iconst (x := (4 : Int32)) rfl rfl ?_
        refine Eval.ishr rfl ?_
        refine Eval.ishl rfl ?_
        refine Eval.goto (t := 119) rfl rfl ?_
        exact (Eval.conv hJ237 rfl (by simp only [if_neg hc236]))
    exact ev_law_b119 s v1 v3 v5 (if v5 = (0 : Int32) then (0 : Int32) else (ish (1 : Int32) (isr v1 (4 : Int32)))) h hk
  · rw [if_neg hc235] at h
    refine Eval.icmpF rfl (feq hc235).1 ?_
    refine Eval.iconst (x := (0 : Int32)) rfl rfl ?_
    cases h
    subst hk
    exact Eval.ret rfl rfl
def law_b71 (s : Q) (v1 : Int32) (v3 : Int32) (v5 : Int32) (w0 : Int32) (w1 : Int32) : Option (Int32 × Q) := (if w0 = w1 then ((j_loadPreset s (1 : Int32)).bind fun p111 => (if p111.1 = (0 : Int32) then some ((0 : Int32), p111.2) else ((j_run p111.2).bind fun p231 => (law_b100 p231.2 v1 v3 v5 p231.1 (if v5 = (0 : Int32) then (0 : Int32) else (1 : Int32)))))) else some ((0 : Int32), s))
set_option maxRecDepth 100000 in
theorem ev_law_b71 (s : Q) (v1 : Int32) (v3 : Int32) (v5 : Int32) (w0 : Int32) (w1 : Int32) {res : Int32 × Q} {out : Option Value × AHeap} (h : law_b71 s v1 v3 v5 w0 w1 = some res) (hk : out = (some (.int res.1), (W1 res.2 []))) : Eval own_P 0 71 [none, some (.int v1), some (.ref 0), some (.int v3), none, some (.int v5), none, none, none] [.int w1, .int w0] (W1 s []) out := by
  rw [law_b71] at h
  by_cases hc73 : w0 = w1
  · rw [if_pos hc73] at h
    refine Eval.icmpT (t := 76) rfl rfl (teq hc73).1 ?_
    refine Eval.aload_n rfl rfl ?_
    refine Eval.iconst (x := (1 : Int32)) rfl rfl ?_
    obtain ⟨p111, hq112, h⟩ := bind_some h
    refine Eval.callI (rest := []) (x := p111.1) (H1 := (W1 p111.2 [])) rfl rfl (ev_j_loadPreset [] s (1 : Int32) hq112 rfl) ?_
    by_cases hc113 : p111.1 = (0 : Int32)
    · rw [if_pos hc113] at h
      refine Eval.ifF rfl (teq hc113).2 ?_
      refine Eval.iconst (x := (0 : Int32)) rfl rfl ?_
      cases h
      subst hk
      exact Eval.ret rfl rfl
    · rw [if_neg hc113] at h
      refine Eval.ifT (t := 86) rfl rfl (feq hc113).2 ?_
      refine Eval.aload_n rfl rfl ?_
      obtain ⟨p231, hq232, h⟩ := bind_some h
      refine Eval.callI (rest := []) (x := p231.1) (H1 := (W1 p231.2 [])) rfl rfl (ev_j_run [] p111.2 hq232 rfl) ?_
      refine Eval.iload rfl rfl ?_
      suffices hJ234 : Eval own_P 0 100 [none, some (.int v1), some (.ref 0), some (.int v3), none, some (.int v5), none, none, none] [.int (if v5 = (0 : Int32) then (0 : Int32) else (1 : Int32)), .int p231.1] (W1 p231.2 []) out by
        by_cases hc233 : v5 = (0 : Int32)
        · refine Eval.ifT (t := 99) rfl rfl (teq hc233).1 ?_
          refine Eval.iconst (x := (0 : Int32)) rfl rfl ?_
          exact (Eval.conv hJ234 rfl (by simp only [if_pos hc233]))
        · refine Eval.ifF rfl (feq hc233).1 ?_
          refine Eval.iconst (x := (1 : Int32)) rfl rfl ?_
          refine Eval.goto (t := 100) rfl rfl ?_
          exact (Eval.conv hJ234 rfl (by simp only [if_neg hc233]))
      exact ev_law_b100 p231.2 v1 v3 v5 p231.1 (if v5 = (0 : Int32) then (0 : Int32) else (1 : Int32)) h hk
  · rw [if_neg hc73] at h
    refine Eval.icmpF rfl (feq hc73).1 ?_
    refine Eval.iconst (x := (0 : Int32)) rfl rfl ?_
    cases h
    subst hk
    exact Eval.ret rfl rfl
def law_b50 (s : Q) (v1 : Int32) (v3 : Int32) (v4 : Int32) (w0 : Int32) : Option (Int32 × Q) := ((j_inject s v4 v1 (0 : Int32) (0 : Int32)).bind fun p69 => (law_b71 p69.2 v1 v3 w0 p69.1 (if w0 = (0 : Int32) then (-1 : Int32) else (0 : Int32))))
set_option maxRecDepth 100000 in
theorem ev_law_b50 (s : Q) (v1 : Int32) (v3 : Int32) (v4 : Int32) (w0 : Int32) {res : Int32 × Q} {out : Option Value × AHeap} (h : law_b50 s v1 v3 v4 w0 = some res) (hk : out = (some (.int res.1), (W1 res.2 []))) : Eval own_P 0 50 [none, some (.int v1), some (.ref 0), some (.int v3), some (.int v4), none, none, none, none] [.int w0] (W1 s []) out := by
  rw [law_b50] at h
  refine Eval.istore (L' := [none, some (.int v1), some (.ref 0), some (.int v3), some (.int v4), some (.int w0), none, none, none]) rfl rfl ?_
  refine Eval.aload_n rfl rfl ?_
  refine Eval.iload rfl rfl ?_
  refine Eval.iload_n rfl rfl ?_
  refine Eval.iconst (x := (0 : Int32)) rfl rfl ?_
  refine Eval.iconst (x := (0 : Int32)) rfl rfl ?_
  obtain ⟨p69, hq70, h⟩ := bind_some h
  refine Eval.callI (rest := []) (x := p69.1) (H1 := (W1 p69.2 [])) rfl rfl (ev_j_inject [] s v4 v1 (0 : Int32) (0 : Int32) hq70 rfl) ?_
  refine Eval.iload rfl rfl ?_
  suffices hJ72 : Eval own_P 0 71 [none, some (.int v1), some (.ref 0), some (.int v3), none, some (.int w0), none, none, none] [.int (if w0 = (0 : Int32) then (-1 : Int32) else (0 : Int32)), .int p69.1] (W1 p69.2 []) out by
    by_cases hc71 : w0 = (0 : Int32)
    · refine Eval.ifT (t := 70) rfl rfl (teq hc71).1 ?_
      refine Eval.iconst (x := (-1 : Int32)) rfl rfl ?_
      refine Eval.weak (L' := [none, some (.int v1), some (.ref 0), some (.int v3), none, some (.int w0), none, none, none]) ⟨_, _, rfl, Or.inl rfl, _, _, rfl, Or.inr rfl, _, _, rfl, Or.inr rfl, _, _, rfl, Or.inr rfl, _, _, rfl, Or.inl rfl, _, _, rfl, Or.inr rfl, _, _, rfl, Or.inl rfl, _, _, rfl, Or.inl rfl, _, _, rfl, Or.inl rfl, rfl⟩ ?_
      exact (Eval.conv hJ72 rfl (by simp only [if_pos hc71]))
    · refine Eval.ifF rfl (feq hc71).1 ?_
      refine Eval.iconst (x := (0 : Int32)) rfl rfl ?_
      refine Eval.goto (t := 71) rfl rfl ?_
      refine Eval.weak (L' := [none, some (.int v1), some (.ref 0), some (.int v3), none, some (.int w0), none, none, none]) ⟨_, _, rfl, Or.inl rfl, _, _, rfl, Or.inr rfl, _, _, rfl, Or.inr rfl, _, _, rfl, Or.inr rfl, _, _, rfl, Or.inl rfl, _, _, rfl, Or.inr rfl, _, _, rfl, Or.inl rfl, _, _, rfl, Or.inl rfl, _, _, rfl, Or.inl rfl, rfl⟩ ?_
      exact (Eval.conv hJ72 rfl (by simp only [if_neg hc71]))
  exact ev_law_b71 p69.2 v1 v3 w0 p69.1 (if w0 = (0 : Int32) then (-1 : Int32) else (0 : Int32)) h hk
def law_b32 (s : Q) (v1 : Int32) (v3 : Int32) (w0 : Int32) : Option (Int32 × Q) := (law_b50 s v1 v3 w0 (if v1 < (0 : Int32) then (0 : Int32) else (if v1 < (256 : Int32) then (1 : Int32) else (0 : Int32))))
set_option maxRecDepth 100000 in
theorem ev_law_b32 (s : Q) (v1 : Int32) (v3 : Int32) (w0 : Int32) {res : Int32 × Q} {out : Option Value × AHeap} (h : law_b32 s v1 v3 w0 = some res) (hk : out = (some (.int res.1), (W1 res.2 []))) : Eval own_P 0 32 [none, some (.int v1), some (.ref 0), some (.int v3), none, none, none, none, none] [.int w0] (W1 s []) out := by
  rw [law_b32] at h
  refine Eval.istore (L' := [none, some (.int v1), some (.ref 0), some (.int v3), some (.int w0), none, none, none, none]) rfl rfl ?_
  refine Eval.iload_n rfl rfl ?_
  suffices hJ16 : Eval own_P 0 50 [none, some (.int v1), some (.ref 0), some (.int v3), some (.int w0), none, none, none, none] [.int (if v1 < (0 : Int32) then (0 : Int32) else (if v1 < (256 : Int32) then (1 : Int32) else (0 : Int32)))] (W1 s []) out by
    by_cases hc14 : v1 < (0 : Int32)
    · refine Eval.ifT (t := 49) rfl rfl (tlt hc14).1 ?_
      refine Eval.iconst (x := (0 : Int32)) rfl rfl ?_
      exact (Eval.conv hJ16 rfl (by simp only [if_pos hc14]))
    · refine Eval.ifF rfl (flt hc14).1 ?_
      refine Eval.iload_n rfl rfl ?_
      refine Eval.sipush (x := (256 : Int32)) rfl rfl ?_
      by_cases hc15 : v1 < (256 : Int32)
      · refine Eval.icmpF rfl (tlt hc15).2.1 ?_
        refine Eval.iconst (x := (1 : Int32)) rfl rfl ?_
        refine Eval.goto (t := 50) rfl rfl ?_
        exact (Eval.conv hJ16 rfl (by simp only [if_neg hc14, if_pos hc15]))
      · refine Eval.icmpT (t := 49) rfl rfl (flt hc15).2.1 ?_
        refine Eval.iconst (x := (0 : Int32)) rfl rfl ?_
        exact (Eval.conv hJ16 rfl (by simp only [if_neg hc14, if_neg hc15]))
  exact ev_law_b50 s v1 v3 w0 (if v1 < (0 : Int32) then (0 : Int32) else (if v1 < (256 : Int32) then (1 : Int32) else (0 : Int32))) h hk
def law_b22 (s : Q) (v1 : Int32) (w0 : Int32) : Option (Int32 × Q) := (law_b32 s v1 w0 (if w0 = (0 : Int32) then (1 : Int32) else (2 : Int32)))
set_option maxRecDepth 100000 in
theorem ev_law_b22 (s : Q) (v1 : Int32) (w0 : Int32) {res : Int32 × Q} {out : Option Value × AHeap} (h : law_b22 s v1 w0 = some res) (hk : out = (some (.int res.1), (W1 res.2 []))) : Eval own_P 0 22 [none, some (.int v1), some (.ref 0), none, none, none, none, none, none] [.int w0] (W1 s []) out := by
  rw [law_b22] at h
  refine Eval.istore_n (L' := [none, some (.int v1), some (.ref 0), some (.int w0), none, none, none, none, none]) rfl rfl ?_
  refine Eval.iload_n rfl rfl ?_
  suffices hJ13 : Eval own_P 0 32 [none, some (.int v1), some (.ref 0), some (.int w0), none, none, none, none, none] [.int (if w0 = (0 : Int32) then (1 : Int32) else (2 : Int32))] (W1 s []) out by
    by_cases hc12 : w0 = (0 : Int32)
    · refine Eval.ifT (t := 31) rfl rfl (teq hc12).1 ?_
      refine Eval.iconst (x := (1 : Int32)) rfl rfl ?_
      exact (Eval.conv hJ13 rfl (by simp only [if_pos hc12]))
    · refine Eval.ifF rfl (feq hc12).1 ?_
      refine Eval.iconst (x := (2 : Int32)) rfl rfl ?_
      refine Eval.goto (t := 32) rfl rfl ?_
      exact (Eval.conv hJ13 rfl (by simp only [if_neg hc12]))
  exact ev_law_b32 s v1 w0 (if w0 = (0 : Int32) then (1 : Int32) else (2 : Int32)) h hk
def law (v0 : Int32) (v1 : Int32) : Option (Int32 × Q) := ((j_init (1 : Int32) (1 : Int32) (4 : Int32)).bind fun p8 => (law_b22 p8 v1 (if (v0 &&& (1 : Int32)) = (0 : Int32) then (0 : Int32) else (1 : Int32))))
set_option maxRecDepth 100000 in
theorem ev_law (v0 : Int32) (v1 : Int32) {res : Int32 × Q} {out : Option Value × AHeap} (h : law v0 v1 = some res) (hk : out = (some (.int res.1), (W1 res.2 []))) : Eval own_P 0 0 [some (.int v0), some (.int v1), none, none, none, none, none, none, none] [] (W0 []) out := by
  rw [law] at h
  refine Eval.new (z := 0) (a := 0) (H1 := (W0 [.inl (Prog.fresh own_P)])) rfl rfl rfl (by decide) rfl (by decide) rfl ?_
  refine Eval.dupR rfl ?_
  refine Eval.iconst (x := (1 : Int32)) rfl rfl ?_
  refine Eval.iconst (x := (1 : Int32)) rfl rfl ?_
  refine Eval.iconst (x := (4 : Int32)) rfl rfl ?_
  obtain ⟨p8, hq9, h⟩ := bind_some h
  refine Eval.callN (rest := [.ref 0]) (H1 := (W1 p8 [])) rfl rfl (ev_j_init (1 : Int32) (1 : Int32) (4 : Int32) hq9 rfl) ?_
  refine Eval.astore_n (L' := [some (.int v0), some (.int v1), some (.ref 0), none, none, none, none, none, none]) rfl rfl ?_
  refine Eval.iload_n rfl rfl ?_
  refine Eval.iconst (x := (1 : Int32)) rfl rfl ?_
  refine Eval.iand rfl ?_
  suffices hJ11 : Eval own_P 0 22 [none, some (.int v1), some (.ref 0), none, none, none, none, none, none] [.int (if (v0 &&& (1 : Int32)) = (0 : Int32) then (0 : Int32) else (1 : Int32))] (W1 p8 []) out by
    by_cases hc10 : (v0 &&& (1 : Int32)) = (0 : Int32)
    · refine Eval.ifT (t := 21) rfl rfl (teq hc10).1 ?_
      refine Eval.iconst (x := (0 : Int32)) rfl rfl ?_
      refine Eval.weak (L' := [none, some (.int v1), some (.ref 0), none, none, none, none, none, none]) ⟨_, _, rfl, Or.inl rfl, _, _, rfl, Or.inr rfl, _, _, rfl, Or.inr rfl, _, _, rfl, Or.inl rfl, _, _, rfl, Or.inl rfl, _, _, rfl, Or.inl rfl, _, _, rfl, Or.inl rfl, _, _, rfl, Or.inl rfl, _, _, rfl, Or.inl rfl, rfl⟩ ?_
      exact (Eval.conv hJ11 rfl (by simp only [if_pos hc10]))
    · refine Eval.ifF rfl (feq hc10).1 ?_
      refine Eval.iconst (x := (1 : Int32)) rfl rfl ?_
      refine Eval.goto (t := 22) rfl rfl ?_
      refine Eval.weak (L' := [none, some (.int v1), some (.ref 0), none, none, none, none, none, none]) ⟨_, _, rfl, Or.inl rfl, _, _, rfl, Or.inr rfl, _, _, rfl, Or.inr rfl, _, _, rfl, Or.inl rfl, _, _, rfl, Or.inl rfl, _, _, rfl, Or.inl rfl, _, _, rfl, Or.inl rfl, _, _, rfl, Or.inl rfl, _, _, rfl, Or.inl rfl, rfl⟩ ?_
      exact (Eval.conv hJ11 rfl (by simp only [if_neg hc10]))
  exact ev_law_b22 p8 v1 (if (v0 &&& (1 : Int32)) = (0 : Int32) then (0 : Int32) else (1 : Int32)) h hk
theorem own_rdc {n : Nat} {c j : Int32} (h : inb n j = true) : rd (List.replicate n c) j = c := by
  have q := rd_at (xs := List.replicate n c) (j := j) (by simpa using h)
  rw [List.getElem?_replicate] at q
  split at q
  · exact (Option.some.inj q).symm
  · cases q
theorem own_n2i {i : Nat} (h : i < 2147483648) : (Int32.ofNat i).toInt = i := by
  rw [Int32.toInt_ofNat']
  simp only [Int32.size, Int.bmod_def]
  omega
theorem own_n2n {i : Nat} (h : i < 2147483648) : (Int32.ofNat i).toNatClampNeg = i := by
  simp only [Int32.toNatClampNeg, own_n2i h]; omega
theorem own_succ (i : Nat) : Int32.ofNat i + 1 = Int32.ofNat (i + 1) := (Int32.ofNat_add i 1).symm
theorem own_inbN {n i : Nat} (h : i < n) (hn : n < 2147483648) : inb n (Int32.ofNat i) = true := inb_iff.mpr (by rw [own_n2i (by omega)]; omega)
theorem own_ltN {i k : Nat} (hi : i < 2147483648) (hk : k < 2147483648) : Int32.ofNat i < Int32.ofNat k ↔ i < k := by
  rw [lt32, own_n2i hi, own_n2i hk]; omega
theorem own_wrA {A r : List Int32} {d x : Int32} {i : Nat} (hi : A.length = i) (h : i < 2147483648) : wr (A ++ d :: r) (Int32.ofNat i) x = A ++ x :: r := by
  unfold wr
  rw [own_n2n h, ← hi]
  simp
theorem own_repS (i : Nat) (c : Int32) (r : List Int32) : List.replicate i c ++ c :: r = List.replicate (i + 1) c ++ r := by
  rw [List.replicate_succ']; simp
theorem own_add {x y : Int32} (h1 : -2147483648 ≤ x.toInt + y.toInt) (h2 : x.toInt + y.toInt < 2147483648) : (x + y).toInt = x.toInt + y.toInt := by
  rw [Int32.toInt_add, Int.bmod_def]
  omega
theorem own_sub {x y : Int32} (h1 : -2147483648 ≤ x.toInt - y.toInt) (h2 : x.toInt - y.toInt < 2147483648) : (x - y).toInt = x.toInt - y.toInt := by
  rw [Int32.toInt_sub, Int.bmod_def]
  omega
theorem own_mul {x y : Int32} (h1 : -2147483648 ≤ x.toInt * y.toInt) (h2 : x.toInt * y.toInt < 2147483648) : (x * y).toInt = x.toInt * y.toInt := by
  rw [Int32.toInt_mul, Int.bmod_def]
  omega
theorem own_eta (s : Q) : Q.mk s.f_cells s.f_faultKind s.f_faultVictim s.f_faultAggressor s.f_faultTrigger s.f_victimSlot s.f_aggressorUses s.f_elementOrder s.f_elementCount s.f_elementOps s.f_logBuffer s.f_remap s.f_spareTaken s.f_spareRows s.f_faultLimit s.f_logLimit s.f_latchBit s.f_faultCount s.f_programLength s.f_logLength s.f_failMask = s := rfl
theorem own_wrc (n : Nat) (c j : Int32) : wr (List.replicate n c) j c = List.replicate n c := by simp [wr, List.set_replicate_self]

def own_ok {α : Type} (o : Option α) (P : α → Prop) : Prop := ∃ r, o = some r ∧ P r
theorem own_ok_some {α : Type} (x : α) (P : α → Prop) : own_ok (some x) P ↔ P x := by
  constructor
  · rintro ⟨r, h, p⟩; cases h; exact p
  · intro p; exact ⟨x, rfl, p⟩
theorem own_ok_none {α : Type} (P : α → Prop) : own_ok (none : Option α) P ↔ False := by
  constructor
  · rintro ⟨r, h, p⟩; cases h
  · intro p; exact p.elim
theorem own_ok_bind {α β : Type} (o : Option α) (f : α → Option β) (P : β → Prop) : own_ok (o.bind f) P ↔ own_ok o (fun x => own_ok (f x) P) := by
  constructor
  · rintro ⟨r, h, p⟩
    obtain ⟨a, ha, hb⟩ := Option.bind_eq_some_iff.mp h
    exact ⟨a, ha, r, hb, p⟩
  · rintro ⟨a, ha, r, hb, p⟩
    exact ⟨r, Option.bind_eq_some_iff.mpr ⟨a, ha, hb⟩, p⟩
theorem own_ok_ite {α : Type} (c : Prop) [Decidable c] (a b : Option α) (P : α → Prop) : own_ok (if c then a else b) P ↔ (c → own_ok a P) ∧ (¬ c → own_ok b P) := by
  by_cases h : c
  · simp [h]
  · simp [h]
theorem own_mono {α : Type} {o : Option α} {P R : α → Prop} (h : own_ok o P) (m : ∀ x, P x → R x) : own_ok o R := by
  obtain ⟨r, e, p⟩ := h
  exact ⟨r, e, m r p⟩
theorem own_bind {α β : Type} {o : Option α} {f : α → Option β} {P : α → Prop} {R : β → Prop} (h : own_ok o P) (m : ∀ x, P x → own_ok (f x) R) : own_ok (o.bind f) R :=
  (own_ok_bind o f R).mpr (own_mono h m)
theorem own_okE {α : Type} {o : Option α} {r : α} {P : α → Prop} (e : o = some r) (p : P r) : own_ok o P := ⟨r, e, p⟩

theorem own_l148 : ∀ (m i n : Nat) (s : Q), i + m = 16 → m < n → s.f_remap = List.replicate i (-1) ++ List.replicate m 0 → j_init_l148 n s (Int32.ofNat i) = some (s.s_remap (List.replicate 16 (-1)))
  | 0, i, n + 1, s, h1, h2, h3 => by
    obtain rfl : i = 16 := by omega
    have key : ∀ X, s.f_remap = X → s.s_remap X = s := by
      intro X e1
      conv => rhs; rw [← own_eta s, e1]
      rfl
    rw [key _ (by simpa using h3), j_init_l148, if_neg (by decide)]
  | m + 1, i, n + 1, s, h1, h2, h3 => by
    have hi : i < 16 := by omega
    rw [j_init_l148, if_pos (show Int32.ofNat i < 16 from (own_ltN (k := 16) (by omega) (by decide)).mpr hi)]
    rw [h3, List.replicate_succ, own_wrA (by simp) (by omega), own_succ, if_pos (own_inbN (by simp <;> omega) (by simp <;> omega)), own_repS]
    rw [own_l148 m (i + 1) n _ (by omega) (by omega) rfl]
    simp only [own_f_cells, own_e_cells, own_z_cells, own_f_faultKind, own_e_faultKind, own_z_faultKind, own_f_faultVictim, own_e_faultVictim, own_z_faultVictim, own_f_faultAggressor, own_e_faultAggressor, own_z_faultAggressor, own_f_faultTrigger, own_e_faultTrigger, own_z_faultTrigger, own_f_victimSlot, own_e_victimSlot, own_z_victimSlot, own_f_aggressorUses, own_e_aggressorUses, own_z_aggressorUses, own_f_elementOrder, own_e_elementOrder, own_z_elementOrder, own_f_elementCount, own_e_elementCount, own_z_elementCount, own_f_elementOps, own_e_elementOps, own_z_elementOps, own_f_logBuffer, own_e_logBuffer, own_z_logBuffer, own_f_remap, own_e_remap, own_z_remap, own_f_spareTaken, own_e_spareTaken, own_z_spareTaken, own_f_spareRows, own_e_spareRows, own_z_spareRows, own_f_faultLimit, own_e_faultLimit, own_z_faultLimit, own_f_logLimit, own_e_logLimit, own_z_logLimit, own_f_latchBit, own_e_latchBit, own_z_latchBit, own_f_faultCount, own_e_faultCount, own_z_faultCount, own_f_programLength, own_e_programLength, own_z_programLength, own_f_logLength, own_e_logLength, own_z_logLength, own_f_failMask, own_e_failMask, own_z_failMask]
theorem own_of {x : Int32} (h : 0 ≤ x.toInt) : x = Int32.ofNat x.toInt.toNat := by
  have := Int32.toInt_lt x
  rw [eq32, own_n2i (by omega)]; omega
theorem own_m255 {x : Int32} (h : 0 ≤ x.toInt) (h2 : x.toInt < 256) : x &&& 255 = x := by
  have e := own_of h
  have k : ∀ i : Fin 256, Int32.ofNat i.1 &&& 255 = Int32.ofNat i.1 := by decide +kernel
  have := k ⟨x.toInt.toNat, by omega⟩
  simp only at this
  rw [← e] at this; exact this

def own_U (s : Q) (c : List Int32) (l : Int32) (L : List Int32) (n f : Int32) : Q := Q.mk c s.f_faultKind s.f_faultVictim s.f_faultAggressor s.f_faultTrigger s.f_victimSlot s.f_aggressorUses s.f_elementOrder s.f_elementCount s.f_elementOps L s.f_remap s.f_spareTaken s.f_spareRows s.f_faultLimit s.f_logLimit l s.f_faultCount s.f_programLength n f
theorem own_Ue (s : Q) : own_U s s.f_cells s.f_latchBit s.f_logBuffer s.f_logLength s.f_failMask = s := own_eta s
theorem own_urc (s : Q) (c L : List Int32) (l n f a : Int32) : j_routedCell (own_U s c l L n f) a = j_routedCell s a := by
  simp only [j_routedCell, j_routedCell_b37, own_U, own_f_cells, own_e_cells, own_z_cells, own_f_faultKind, own_e_faultKind, own_z_faultKind, own_f_faultVictim, own_e_faultVictim, own_z_faultVictim, own_f_faultAggressor, own_e_faultAggressor, own_z_faultAggressor, own_f_faultTrigger, own_e_faultTrigger, own_z_faultTrigger, own_f_victimSlot, own_e_victimSlot, own_z_victimSlot, own_f_aggressorUses, own_e_aggressorUses, own_z_aggressorUses, own_f_elementOrder, own_e_elementOrder, own_z_elementOrder, own_f_elementCount, own_e_elementCount, own_z_elementCount, own_f_elementOps, own_e_elementOps, own_z_elementOps, own_f_logBuffer, own_e_logBuffer, own_z_logBuffer, own_f_remap, own_e_remap, own_z_remap, own_f_spareTaken, own_e_spareTaken, own_z_spareTaken, own_f_spareRows, own_e_spareRows, own_z_spareRows, own_f_faultLimit, own_e_faultLimit, own_z_faultLimit, own_f_logLimit, own_e_logLimit, own_z_logLimit, own_f_latchBit, own_e_latchBit, own_z_latchBit, own_f_faultCount, own_e_faultCount, own_z_faultCount, own_f_programLength, own_e_programLength, own_z_programLength, own_f_logLength, own_e_logLength, own_z_logLength, own_f_failMask, own_e_failMask, own_z_failMask]
theorem own_uvk (s : Q) (c L : List Int32) (l n f a : Int32) : j_victimKind (own_U s c l L n f) a = j_victimKind s a := by
  simp only [j_victimKind, own_U, own_f_cells, own_e_cells, own_z_cells, own_f_faultKind, own_e_faultKind, own_z_faultKind, own_f_faultVictim, own_e_faultVictim, own_z_faultVictim, own_f_faultAggressor, own_e_faultAggressor, own_z_faultAggressor, own_f_faultTrigger, own_e_faultTrigger, own_z_faultTrigger, own_f_victimSlot, own_e_victimSlot, own_z_victimSlot, own_f_aggressorUses, own_e_aggressorUses, own_z_aggressorUses, own_f_elementOrder, own_e_elementOrder, own_z_elementOrder, own_f_elementCount, own_e_elementCount, own_z_elementCount, own_f_elementOps, own_e_elementOps, own_z_elementOps, own_f_logBuffer, own_e_logBuffer, own_z_logBuffer, own_f_remap, own_e_remap, own_z_remap, own_f_spareTaken, own_e_spareTaken, own_z_spareTaken, own_f_spareRows, own_e_spareRows, own_z_spareRows, own_f_faultLimit, own_e_faultLimit, own_z_faultLimit, own_f_logLimit, own_e_logLimit, own_z_logLimit, own_f_latchBit, own_e_latchBit, own_z_latchBit, own_f_faultCount, own_e_faultCount, own_z_faultCount, own_f_programLength, own_e_programLength, own_z_programLength, own_f_logLength, own_e_logLength, own_z_logLength, own_f_failMask, own_e_failMask, own_z_failMask]
theorem own_uag (s : Q) (c L : List Int32) (l n f a : Int32) : j_isAggressor (own_U s c l L n f) a = j_isAggressor s a := by
  simp only [j_isAggressor, own_U, own_f_cells, own_e_cells, own_z_cells, own_f_faultKind, own_e_faultKind, own_z_faultKind, own_f_faultVictim, own_e_faultVictim, own_z_faultVictim, own_f_faultAggressor, own_e_faultAggressor, own_z_faultAggressor, own_f_faultTrigger, own_e_faultTrigger, own_z_faultTrigger, own_f_victimSlot, own_e_victimSlot, own_z_victimSlot, own_f_aggressorUses, own_e_aggressorUses, own_z_aggressorUses, own_f_elementOrder, own_e_elementOrder, own_z_elementOrder, own_f_elementCount, own_e_elementCount, own_z_elementCount, own_f_elementOps, own_e_elementOps, own_z_elementOps, own_f_logBuffer, own_e_logBuffer, own_z_logBuffer, own_f_remap, own_e_remap, own_z_remap, own_f_spareTaken, own_e_spareTaken, own_z_spareTaken, own_f_spareRows, own_e_spareRows, own_z_spareRows, own_f_faultLimit, own_e_faultLimit, own_z_faultLimit, own_f_logLimit, own_e_logLimit, own_z_logLimit, own_f_latchBit, own_e_latchBit, own_z_latchBit, own_f_faultCount, own_e_faultCount, own_z_faultCount, own_f_programLength, own_e_programLength, own_z_programLength, own_f_logLength, own_e_logLength, own_z_logLength, own_f_failMask, own_e_failMask, own_z_failMask]
theorem own_uop (s : Q) (c L : List Int32) (l n f a b : Int32) : j_opAt (own_U s c l L n f) a b = j_opAt s a b := by
  simp only [j_opAt, j_isElementIndex, own_U, own_f_cells, own_e_cells, own_z_cells, own_f_faultKind, own_e_faultKind, own_z_faultKind, own_f_faultVictim, own_e_faultVictim, own_z_faultVictim, own_f_faultAggressor, own_e_faultAggressor, own_z_faultAggressor, own_f_faultTrigger, own_e_faultTrigger, own_z_faultTrigger, own_f_victimSlot, own_e_victimSlot, own_z_victimSlot, own_f_aggressorUses, own_e_aggressorUses, own_z_aggressorUses, own_f_elementOrder, own_e_elementOrder, own_z_elementOrder, own_f_elementCount, own_e_elementCount, own_z_elementCount, own_f_elementOps, own_e_elementOps, own_z_elementOps, own_f_logBuffer, own_e_logBuffer, own_z_logBuffer, own_f_remap, own_e_remap, own_z_remap, own_f_spareTaken, own_e_spareTaken, own_z_spareTaken, own_f_spareRows, own_e_spareRows, own_z_spareRows, own_f_faultLimit, own_e_faultLimit, own_z_faultLimit, own_f_logLimit, own_e_logLimit, own_z_logLimit, own_f_latchBit, own_e_latchBit, own_z_latchBit, own_f_faultCount, own_e_faultCount, own_z_faultCount, own_f_programLength, own_e_programLength, own_z_programLength, own_f_logLength, own_e_logLength, own_z_logLength, own_f_failMask, own_e_failMask, own_z_failMask]
  rfl
/-- what a run needs to know of the state's other fields: rc the routed cell, bad the faulty addresses -/
def own_C (s : Q) (rc : Int32 → Int32) (bad : Int32 → Bool) (kd : Int32) : Prop :=
  (∀ a, inb 256 a = true → j_routedCell s a = some (rc a) ∧ inb 320 (rc a) = true) ∧
  (∀ a b, inb 256 a = true → inb 256 b = true → rc a = rc b → a = b) ∧
  (∀ a, inb 256 a = true → rc a < 256 → j_victimKind s (rc a) = some (if bad a then kd else 0) ∧ j_isAggressor s (rc a) = some 0) ∧
  (∀ a, inb 256 a = true → ¬ rc a < 256 → bad a = false) ∧ (kd = 1 ∨ kd = 2) ∧
  (s.f_elementOrder.length = 8 ∧ s.f_elementCount.length = 8 ∧ s.f_programLength = 3 ∧ s.f_logLimit = 4 ∧ rd s.f_elementOrder 0 = 0 ∧ rd s.f_elementOrder 1 = 0 ∧ rd s.f_elementOrder 2 = 1 ∧ rd s.f_elementCount 0 = 1 ∧ rd s.f_elementCount 1 = 2 ∧ rd s.f_elementCount 2 = 2 ∧ j_opAt s 0 0 = some 2 ∧ j_opAt s 1 0 = some 0 ∧ j_opAt s 1 1 = some 3 ∧ j_opAt s 2 0 = some 1 ∧ j_opAt s 2 1 = some 2)
def own_bit (c : List Int32) : Prop := ∀ j, inb 320 j = true → rd c j = 0 ∨ rd c j = 1
theorem own_i8 {b : Int32} (h : b = 0 ∨ b = 1) : i8 b = b := by rcases h with e | e <;> rw [e] <;> rfl
theorem own_b1 {b : Int32} (h : b = 0 ∨ b = 1) : b &&& 1 = b := by rcases h with e | e <;> rw [e] <;> rfl
theorem own_wself {xs : List Int32} {j : Int32} (h : inb xs.length j = true) : wr xs j (rd xs j) = xs := by
  have k := inb_lt h
  unfold wr rd
  rw [List.getD_eq_getElem?_getD, List.getElem?_eq_getElem k]
  exact List.set_getElem_self k
theorem own_bitw {c : List Int32} {j b : Int32} (h : own_bit c) (hl : c.length = 320) (hj : inb 320 j = true) (hb : b = 0 ∨ b = 1) : own_bit (wr c j b) := by
  intro i hi
  by_cases e : j = i
  · subst e
    rw [rd_wr_same (by rw [hl]; exact hj)]; exact hb
  · rw [rd_wr_ne (inb_nn hj) (inb_nn hi) e]; exact h i hi
theorem own_write {s : Q} {rc : Int32 → Int32} {bad : Int32 → Bool} {kd : Int32} (C : own_C s rc bad kd) {c L : List Int32} {l n f a b : Int32} (hl : c.length = 320) (hc : own_bit c) (ia : inb 256 a = true) (hb : b = 0 ∨ b = 1) : j_writeRouted (own_U s c l L n f) a b = some (own_U s (if bad a then c else wr c (rc a) b) l L n f) := by
  obtain ⟨C1, C2, C3, C4, C5, C6⟩ := C
  obtain ⟨e1, i1⟩ := C1 a ia
  have uc : ∀ (c' : List Int32), (own_U s c l L n f).f_cells = c := fun _ => own_f_cells
  have i1' : inb c.length (rc a) = true := by rw [hl]; exact i1
  unfold j_writeRouted
  rw [own_urc, e1, Option.bind_some]
  by_cases q : rc a < 256
  · obtain ⟨e2, e3⟩ := C3 a ia q
    rw [if_pos q]
    have old := hc (rc a) i1
    unfold j_writeMain j_faultyNewBit
    rw [own_uvk, e2, uc c, if_pos i1', Option.bind_some, own_b1 hb]
    by_cases bd : bad a = true
    · rw [if_pos bd, if_pos bd]
      have k : (if kd = 1 then some (rd c (rc a)) else if kd = 2 then some (rd c (rc a)) else if kd = 5 then some (rd c (rc a)) else if kd = 3 then if rd c (rc a) = 0 then if b = 1 then some (rd c (rc a)) else j_faultyNewBit_b44 (own_U s c l L n f) (rd c (rc a)) b kd else j_faultyNewBit_b44 (own_U s c l L n f) (rd c (rc a)) b kd else j_faultyNewBit_b44 (own_U s c l L n f) (rd c (rc a)) b kd) = some (rd c (rc a)) := by
        rcases C5 with h | h
        · rw [if_pos h]
        · rw [if_neg (by rw [h]; decide), if_pos h]
      rw [k, Option.bind_some, if_pos i1', if_pos rfl, own_i8 (by rw [own_i8 old]; exact old), own_i8 old, own_wself i1', Option.bind_some]
      rfl
    · rw [if_neg bd, if_neg bd, if_neg (by decide), if_neg (by decide), if_neg (by decide), if_neg (by decide)]
      unfold j_faultyNewBit_b44
      rw [if_neg (by decide), Option.bind_some, if_pos i1', own_i8 (by rw [own_i8 hb]; exact hb), own_i8 hb]
      have ag : j_isAggressor (own_U s (wr c (rc a) b) l L n f) (rc a) = some 0 := by rw [own_uag]; exact e3
      split
      · rfl
      · have ag' := ag
        unfold own_U at ag'
        simp only [own_U, own_f_cells, own_e_cells, own_z_cells, own_f_faultKind, own_e_faultKind, own_z_faultKind, own_f_faultVictim, own_e_faultVictim, own_z_faultVictim, own_f_faultAggressor, own_e_faultAggressor, own_z_faultAggressor, own_f_faultTrigger, own_e_faultTrigger, own_z_faultTrigger, own_f_victimSlot, own_e_victimSlot, own_z_victimSlot, own_f_aggressorUses, own_e_aggressorUses, own_z_aggressorUses, own_f_elementOrder, own_e_elementOrder, own_z_elementOrder, own_f_elementCount, own_e_elementCount, own_z_elementCount, own_f_elementOps, own_e_elementOps, own_z_elementOps, own_f_logBuffer, own_e_logBuffer, own_z_logBuffer, own_f_remap, own_e_remap, own_z_remap, own_f_spareTaken, own_e_spareTaken, own_z_spareTaken, own_f_spareRows, own_e_spareRows, own_z_spareRows, own_f_faultLimit, own_e_faultLimit, own_z_faultLimit, own_f_logLimit, own_e_logLimit, own_z_logLimit, own_f_latchBit, own_e_latchBit, own_z_latchBit, own_f_faultCount, own_e_faultCount, own_z_faultCount, own_f_programLength, own_e_programLength, own_z_programLength, own_f_logLength, own_e_logLength, own_z_logLength, own_f_failMask, own_e_failMask, own_z_failMask] at *
        rw [ag', Option.bind_some, if_pos rfl]
        rfl
  · have bd : bad a = false := C4 a ia q
    rw [if_neg q, uc c, if_pos i1', own_b1 hb, own_i8 (by rw [own_i8 hb]; exact hb), own_i8 hb, bd]
    rfl
theorem own_read {s : Q} {rc : Int32 → Int32} {bad : Int32 → Bool} {kd : Int32} (C : own_C s rc bad kd) {c L : List Int32} {l n f a : Int32} (hl : c.length = 320) (hc : own_bit c) (ia : inb 256 a = true) : j_readRouted (own_U s c l L n f) a = some ((if bad a then (if kd = 1 then 0 else 1) else rd c (rc a)), own_U s c (if bad a then (if kd = 1 then 0 else 1) else rd c (rc a)) L n f) := by
  obtain ⟨C1, C2, C3, C4, C5, C6⟩ := C
  obtain ⟨e1, i1⟩ := C1 a ia
  have i1' : inb c.length (rc a) = true := by rw [hl]; exact i1
  have uc : (own_U s c l L n f).f_cells = c := own_f_cells
  have old := hc (rc a) i1
  unfold j_readRouted j_readRouted_b29
  rw [own_urc, e1, Option.bind_some]
  by_cases q : rc a < 256
  · obtain ⟨e2, e3⟩ := C3 a ia q
    rw [if_pos q]
    unfold j_readMain
    rw [own_uvk, e2, Option.bind_some]
    by_cases bd : bad a = true
    · rw [if_pos bd, if_pos bd]
      rcases C5 with h | h
      · rw [if_pos h, if_pos h]; rfl
      · rw [if_neg (by rw [h]; decide), if_pos h, if_neg (by rw [h]; decide)]; rfl
    · rw [if_neg bd, if_neg bd, if_neg (by decide), if_neg (by decide), if_neg (by decide), uc, if_pos i1', Option.bind_some, own_b1 old]
      rfl
  · have bd : bad a = false := C4 a ia q
    rw [if_neg q, uc, if_pos i1', own_b1 old, bd]
    rfl
def own_X (rc : Int32 → Int32) (bad : Int32 → Bool) (kd : Int32) (c : List Int32) (a : Int32) : Int32 := if bad a then (if kd = 1 then 0 else 1) else rd c (rc a)
def own_Wc (rc : Int32 → Int32) (bad : Int32 → Bool) (c : List Int32) (a b : Int32) : List Int32 := if bad a then c else wr c (rc a) b
theorem own_Wl {rc : Int32 → Int32} {bad : Int32 → Bool} {c : List Int32} {a b : Int32} : (own_Wc rc bad c a b).length = c.length := by
  unfold own_Wc
  split
  · rfl
  · rw [len_wr]
theorem own_rec {s : Q} {c L : List Int32} {l n f e k a : Int32} (hL : L.length = 32) (hm : s.f_logLimit = 4) (n0 : ¬ n < 0) (n4 : n < 4) : j_recordFailure (own_U s c l L n f) e k a = some (own_U s c l (wr L n ((ish e 12 ||| ish k 8) ||| a)) (n + 1) (f ||| ish 1 (isr a 4 &&& 15))) := by
  have i : inb 32 n = true := by
    simp only [lt32, Int32.reduceToInt] at n0 n4
    exact inb_iff.mpr (by omega)
  have n32 : n < 32 := by
    simp only [lt32, Int32.reduceToInt] at n0 n4 ⊢
    omega
  simp only [j_recordFailure, own_U, own_f_cells, own_e_cells, own_z_cells, own_f_faultKind, own_e_faultKind, own_z_faultKind, own_f_faultVictim, own_e_faultVictim, own_z_faultVictim, own_f_faultAggressor, own_e_faultAggressor, own_z_faultAggressor, own_f_faultTrigger, own_e_faultTrigger, own_z_faultTrigger, own_f_victimSlot, own_e_victimSlot, own_z_victimSlot, own_f_aggressorUses, own_e_aggressorUses, own_z_aggressorUses, own_f_elementOrder, own_e_elementOrder, own_z_elementOrder, own_f_elementCount, own_e_elementCount, own_z_elementCount, own_f_elementOps, own_e_elementOps, own_z_elementOps, own_f_logBuffer, own_e_logBuffer, own_z_logBuffer, own_f_remap, own_e_remap, own_z_remap, own_f_spareTaken, own_e_spareTaken, own_z_spareTaken, own_f_spareRows, own_e_spareRows, own_z_spareRows, own_f_faultLimit, own_e_faultLimit, own_z_faultLimit, own_f_logLimit, own_e_logLimit, own_z_logLimit, own_f_latchBit, own_e_latchBit, own_z_latchBit, own_f_faultCount, own_e_faultCount, own_z_faultCount, own_f_programLength, own_e_programLength, own_z_programLength, own_f_logLength, own_e_logLength, own_z_logLength, own_f_failMask, own_e_failMask, own_z_failMask, hm, n4, n32, n0, hL, i, ↓reduceIte]
theorem own_app {s : Q} {rc : Int32 → Int32} {bad : Int32 → Bool} {kd : Int32} (C : own_C s rc bad kd) {c L : List Int32} {l n f a w b : Int32} (hl : c.length = 320) (hc : own_bit c) (ia : inb 256 a = true) (hw : (w = 2 ∧ b = 0) ∨ (w = 3 ∧ b = 1)) : j_applyOp (own_U s c l L n f) w a = some (0, own_U s (own_Wc rc bad c a b) l L n f) := by
  unfold j_applyOp
  rcases hw with ⟨h1, h2⟩ | ⟨h1, h2⟩
  · subst h1; subst h2
    rw [if_pos rfl, own_write C hl hc ia (Or.inl rfl)]; rfl
  · subst h1; subst h2
    rw [if_neg (by decide), if_pos rfl, own_write C hl hc ia (Or.inr rfl)]; rfl
theorem own_apr {s : Q} {rc : Int32 → Int32} {bad : Int32 → Bool} {kd : Int32} (C : own_C s rc bad kd) {c L : List Int32} {l n f a r : Int32} (hl : c.length = 320) (hc : own_bit c) (ia : inb 256 a = true) (hr : r = 0 ∨ r = 1) : j_applyOp (own_U s c l L n f) r a = some ((if own_X rc bad kd c a = r then 0 else 1), own_U s c (own_X rc bad kd c a) L n f) := by
  have n2 : ¬ r = 2 := by rcases hr with e | e <;> rw [e] <;> decide
  have n3 : ¬ r = 3 := by rcases hr with e | e <;> rw [e] <;> decide
  have e1 : (if r = 1 then (1 : Int32) else 0) = r := by rcases hr with e | e <;> rw [e] <;> rfl
  unfold j_applyOp j_applyOp_b35
  rw [if_neg n2, if_neg n3, own_read C hl hc ia, Option.bind_some, e1]
  show (if own_X rc bad kd c a = r then some ((0 : Int32), own_U s c (own_X rc bad kd c a) L n f) else some (1, own_U s c (own_X rc bad kd c a) L n f)) = _
  split <;> rfl
theorem own_o0 {s : Q} {rc : Int32 → Int32} {bad : Int32 → Bool} {kd : Int32} (C : own_C s rc bad kd) {c L : List Int32} {l n f a : Int32} (hl : c.length = 320) (hc : own_bit c) (ia : inb 256 a = true) : j_runOpsAt (own_U s c l L n f) 0 a = some (0, own_U s (own_Wc rc bad c a 0) l L n f) := by
  have P := C.2.2.2.2.2
  have u1 : (own_U s c l L n f).f_elementCount = s.f_elementCount := own_f_elementCount
  have i0 : inb 8 0 = true := rfl
  unfold j_runOpsAt
  rw [u1, P.2.1, if_pos i0, P.2.2.2.2.2.2.2.1]
  rw [j_runOpsAt_l13, if_pos (by decide), if_pos (by decide), own_uop, P.2.2.2.2.2.2.2.2.2.2.1, Option.bind_some, own_app C hl hc ia (Or.inl ⟨rfl, rfl⟩), Option.bind_some, if_pos rfl]
  unfold j_runOpsAt_b55
  rw [j_runOpsAt_l13, if_neg (by decide)]
  rfl
theorem own_o2 {s : Q} {rc : Int32 → Int32} {bad : Int32 → Bool} {kd : Int32} (C : own_C s rc bad kd) {c L : List Int32} {l n f a e r w b : Int32} (hl : c.length = 320) (hc : own_bit c) (ia : inb 256 a = true) (hL : L.length = 32) (n0 : ¬ n < 0) (n4 : n < 4) (ie : inb 8 e = true) (hn : rd s.f_elementCount e = 2) (h0 : j_opAt s e 0 = some r) (h1 : j_opAt s e 1 = some w) (hr : r = 0 ∨ r = 1) (hw : (w = 2 ∧ b = 0) ∨ (w = 3 ∧ b = 1)) : j_runOpsAt (own_U s c l L n f) e a = some (if own_X rc bad kd c a = r then (0, own_U s (own_Wc rc bad c a b) (own_X rc bad kd c a) L n f) else (1, own_U s (own_Wc rc bad c a b) (own_X rc bad kd c a) (wr L n ((ish e 12 ||| ish 0 8) ||| a)) (n + 1) (f ||| ish 1 (isr a 4 &&& 15)))) := by
  have P := C.2.2.2.2.2
  have u1 : (own_U s c l L n f).f_elementCount = s.f_elementCount := own_f_elementCount
  unfold j_runOpsAt
  rw [u1, P.2.1, if_pos ie, hn]
  rw [j_runOpsAt_l13, if_pos (by decide), if_pos (by decide), own_uop, h0, Option.bind_some, own_apr C hl hc ia hr, Option.bind_some]
  unfold j_runOpsAt_b55
  by_cases q : own_X rc bad kd c a = r
  · rw [if_pos q, if_pos q, if_pos rfl]
    rw [j_runOpsAt_l13, if_pos (by decide), if_pos (by decide), own_uop, show (0 : Int32) + 1 = 1 from rfl, h1, Option.bind_some, own_app C hl hc ia hw, Option.bind_some, if_pos rfl]
    unfold j_runOpsAt_b55
    rw [j_runOpsAt_l13, if_neg (by decide)]
    rfl
  · rw [if_neg q, if_neg q, if_neg (show ¬ (1 : Int32) = 0 by decide), own_rec hL P.2.2.2.1 n0 n4, Option.bind_some]
    rw [j_runOpsAt_l13, if_pos (by decide), if_pos (by decide), own_uop, show (0 : Int32) + 1 = 1 from rfl, h1, Option.bind_some, own_app C hl hc ia hw, Option.bind_some, if_pos rfl]
    unfold j_runOpsAt_b55
    rw [j_runOpsAt_l13, if_neg (by decide)]
    rfl
theorem own_bitW {s : Q} {rc : Int32 → Int32} {bad : Int32 → Bool} {kd : Int32} (C : own_C s rc bad kd) {c : List Int32} {a b : Int32} (hl : c.length = 320) (hc : own_bit c) (ia : inb 256 a = true) (hb : b = 0 ∨ b = 1) : own_bit (own_Wc rc bad c a b) := by
  unfold own_Wc
  split
  · exact hc
  · exact own_bitw hc hl (C.1 a ia).2 hb
theorem own_Wr {s : Q} {rc : Int32 → Int32} {bad : Int32 → Bool} {kd : Int32} (C : own_C s rc bad kd) {c : List Int32} {a b u : Int32} (hl : c.length = 320) (ia : inb 256 a = true) (iu : inb 256 u = true) (hu : ¬ bad u = true) : rd (own_Wc rc bad c a b) (rc u) = if u = a then b else rd c (rc u) := by
  unfold own_Wc
  by_cases e : u = a
  · subst e
    rw [if_neg hu, if_pos rfl]
    exact rd_wr_same (by rw [hl]; exact (C.1 u iu).2) b
  · rw [if_neg e]
    split
    · rfl
    · exact rd_wr_ne (inb_nn (C.1 a ia).2) (inb_nn (C.1 u iu).2) (fun q => e (C.2.1 a u ia iu q).symm) b

def own_all (rc : Int32 → Int32) (bad : Int32 → Bool) (c : List Int32) (r : Int32) : Prop := ∀ u, inb 256 u = true → ¬ bad u = true → rd c (rc u) = r
theorem own_iN {i : Nat} (h : i < 256) : inb 256 (Int32.ofNat i) = true := own_inbN h (by decide)
theorem own_e0 {s : Q} {rc : Int32 → Int32} {bad : Int32 → Bool} {kd : Int32} (C : own_C s rc bad kd) (L : List Int32) (l n f v3 : Int32) : ∀ (k i N : Nat) (c : List Int32), i + k = 256 → k < N → c.length = 320 → own_bit c → own_all rc bad c 0 → ∃ c', c'.length = 320 ∧ own_bit c' ∧ own_all rc bad c' 0 ∧ j_runElement_l22 N (own_U s c l L n f) 0 0 v3 (Int32.ofNat i) = some (v3, own_U s c' l L n f) := by
  intro k
  induction k with
  | zero =>
    intro i N c h1 h2 h3 h4 h5
    obtain rfl : i = 256 := by omega
    cases N with
    | zero => omega
    | succ N => exact ⟨c, h3, h4, h5, by rw [j_runElement_l22, if_neg (by decide)]⟩
  | succ k ih =>
    intro i N c h1 h2 h3 h4 h5
    cases N with
    | zero => omega
    | succ N =>
      have ia := own_iN (i := i) (by omega)
      have ci : Int32.ofNat i < 256 := (own_ltN (k := 256) (by omega) (by decide)).mpr (by omega)
      obtain ⟨c', a1, a2, a3, a4⟩ := ih (i + 1) N (own_Wc rc bad c (Int32.ofNat i) 0) (by omega) (by omega) (by rw [own_Wl, h3]) (own_bitW C h3 h4 ia (Or.inl rfl)) (by
        intro u iu hu
        rw [own_Wr C h3 ia iu hu]
        split
        · rfl
        · exact h5 u iu hu)
      refine ⟨c', a1, a2, a3, ?_⟩
      rw [j_runElement_l22, if_pos ci, show j_addressAt 0 (Int32.ofNat i) = Int32.ofNat i from rfl, own_o0 C h3 h4 ia, Option.bind_some, own_succ]
      show j_runElement_l22 N _ 0 0 (v3 + 0) _ = _
      rw [Int32.add_zero]
      exact a4
/-- address u has been handled before turn i, in order o -/
def own_dn (o : Int32) (i : Nat) (u : Int32) : Prop := if o = 1 then 255 - u.toInt < i else u.toInt < i
theorem own_ad {o : Int32} (ho : o = 0 ∨ o = 1) {i : Nat} (h : i < 256) : inb 256 (j_addressAt o (Int32.ofNat i)) = true ∧ (j_addressAt o (Int32.ofNat i)).toInt = if o = 1 then 255 - (i : Int) else i := by
  have e : (Int32.ofNat i).toInt = i := own_n2i (by omega)
  unfold j_addressAt
  rcases ho with q | q
  · subst q
    rw [if_neg (by decide), if_neg (by decide)]
    exact ⟨own_iN h, e⟩
  · subst q
    rw [if_pos rfl, if_pos rfl]
    have k : (255 - Int32.ofNat i).toInt = 255 - (i : Int) := by rw [own_sub] <;> rw [e] <;> simp only [Int32.reduceToInt] <;> omega
    exact ⟨inb_iff.mpr (by omega), k⟩
theorem own_dn0 {o : Int32} (ho : o = 0 ∨ o = 1) {i : Nat} (h : i < 256) : ¬ own_dn o i (j_addressAt o (Int32.ofNat i)) := by
  obtain ⟨-, k⟩ := own_ad ho h
  unfold own_dn
  rcases ho with q | q
  · subst q
    rw [if_neg (by decide)] at k ⊢
    omega
  · subst q
    rw [if_pos rfl] at k ⊢
    omega
theorem own_dn1 {o : Int32} (ho : o = 0 ∨ o = 1) {i : Nat} (h : i < 256) (u : Int32) : own_dn o (i + 1) u ↔ (own_dn o i u ∨ u = j_addressAt o (Int32.ofNat i)) := by
  obtain ⟨-, k⟩ := own_ad ho h
  have e : u = j_addressAt o (Int32.ofNat i) ↔ u.toInt = (j_addressAt o (Int32.ofNat i)).toInt := Int32.toInt_inj.symm
  rw [e, k]
  unfold own_dn
  rcases ho with q | q
  · subst q
    rw [if_neg (by decide), if_neg (by decide), if_neg (by decide)]
    omega
  · subst q
    rw [if_pos rfl, if_pos rfl, if_pos rfl]
    omega
def own_Pc (rc : Int32 → Int32) (bad : Int32 → Bool) (c : List Int32) (o r b : Int32) (i : Nat) : Prop := ∀ u, inb 256 u = true → ¬ bad u = true → (own_dn o i u → rd c (rc u) = b) ∧ (¬ own_dn o i u → rd c (rc u) = r)
theorem own_adv {s : Q} {rc : Int32 → Int32} {bad : Int32 → Bool} {kd : Int32} (C : own_C s rc bad kd) {L : List Int32} {n f v3 e r w b o : Int32} (hL : L.length = 32) (n0 : ¬ n < 0) (n4 : n < 4) (ie : inb 8 e = true) (hn : rd s.f_elementCount e = 2) (h0 : j_opAt s e 0 = some r) (h1 : j_opAt s e 1 = some w) (hr : r = 0 ∨ r = 1) (hw : (w = 2 ∧ b = 0) ∨ (w = 3 ∧ b = 1)) (ho : o = 0 ∨ o = 1) : ∀ (k i N : Nat) (c : List Int32) (l : Int32), i + k ≤ 256 → (∀ j, i ≤ j → j < i + k → bad (j_addressAt o (Int32.ofNat j)) = true → (if kd = 1 then (0 : Int32) else 1) = r) → c.length = 320 → own_bit c → own_Pc rc bad c o r b i → ∃ c' l', c'.length = 320 ∧ own_bit c' ∧ own_Pc rc bad c' o r b (i + k) ∧ (l' = if k = 0 then l else r) ∧ j_runElement_l22 (N + k) (own_U s c l L n f) e o v3 (Int32.ofNat i) = j_runElement_l22 N (own_U s c' l' L n f) e o v3 (Int32.ofNat (i + k)) := by
  have hb : b = 0 ∨ b = 1 := by rcases hw with q | q; exact Or.inl q.2; exact Or.inr q.2
  intro k
  induction k with
  | zero =>
    intro i N c l h1 h2 h3 h4 h5
    exact ⟨c, l, h3, h4, h5, rfl, rfl⟩
  | succ k ih =>
    intro i N c l g1 g2 g3 g4 g5
    have hi : i < 256 := by omega
    obtain ⟨ia, -⟩ := own_ad ho hi
    have ci : Int32.ofNat i < 256 := (own_ltN (k := 256) (by omega) (by decide)).mpr hi
    have X : own_X rc bad kd c (j_addressAt o (Int32.ofNat i)) = r := by
      unfold own_X
      by_cases q : bad (j_addressAt o (Int32.ofNat i)) = true
      · rw [if_pos q]; exact g2 i (by omega) (by omega) q
      · rw [if_neg q]; exact (g5 _ ia q).2 (own_dn0 ho hi)
    have P' : own_Pc rc bad (own_Wc rc bad c (j_addressAt o (Int32.ofNat i)) b) o r b (i + 1) := by
      intro u iu hu
      rw [own_Wr C g3 ia iu hu]
      constructor
      · intro d
        by_cases q : u = j_addressAt o (Int32.ofNat i)
        · rw [if_pos q]
        · rw [if_neg q]
          exact (g5 u iu hu).1 (((own_dn1 ho hi u).mp d).resolve_right q)
      · intro d
        have q : ¬ u = j_addressAt o (Int32.ofNat i) := fun q => d ((own_dn1 ho hi u).mpr (Or.inr q))
        rw [if_neg q]
        exact (g5 u iu hu).2 (fun d' => d ((own_dn1 ho hi u).mpr (Or.inl d')))
    obtain ⟨c', l', a1, a2, a3, a4, a5⟩ := ih (i + 1) N (own_Wc rc bad c (j_addressAt o (Int32.ofNat i)) b) r (by omega) (fun j j1 j2 => g2 j (by omega) (by omega)) (by rw [own_Wl, g3]) (own_bitW C g3 g4 ia hb) P'
    have e1 : i + 1 + k = i + (k + 1) := by omega
    rw [e1] at a3 a5
    refine ⟨c', l', a1, a2, a3, ?_, ?_⟩
    · rw [a4, if_neg (show ¬ k + 1 = 0 by omega)]
      split <;> rfl
    · rw [show N + (k + 1) = (N + k) + 1 from by omega, j_runElement_l22, if_pos ci, own_o2 C g3 g4 ia hL n0 n4 ie hn h0 h1 hr hw, if_pos X, X, Option.bind_some, own_succ]
      show j_runElement_l22 (N + k) _ e o (v3 + 0) _ = _
      rw [Int32.add_zero, a5]
theorem own_flt {s : Q} {rc : Int32 → Int32} {bad : Int32 → Bool} {kd : Int32} (C : own_C s rc bad kd) {L c : List Int32} {f l v3 e r w b o : Int32} (hL : L.length = 32) (ie : inb 8 e = true) (hn : rd s.f_elementCount e = 2) (h0 : j_opAt s e 0 = some r) (h1 : j_opAt s e 1 = some w) (hr : r = 0 ∨ r = 1) (hw : (w = 2 ∧ b = 0) ∨ (w = 3 ∧ b = 1)) (ho : o = 0 ∨ o = 1) {i N : Nat} (hi : i < 256) (hb : bad (j_addressAt o (Int32.ofNat i)) = true) (hx : ¬ (if kd = 1 then (0 : Int32) else 1) = r) (g3 : c.length = 320) (g4 : own_bit c) (g5 : own_Pc rc bad c o r b i) : own_Pc rc bad c o r b (i + 1) ∧ j_runElement_l22 (N + 1) (own_U s c l L 0 f) e o v3 (Int32.ofNat i) = j_runElement_l22 N (own_U s c (if kd = 1 then 0 else 1) (wr L 0 ((ish e 12 ||| ish 0 8) ||| j_addressAt o (Int32.ofNat i))) 1 (f ||| ish 1 (isr (j_addressAt o (Int32.ofNat i)) 4 &&& 15))) e o (v3 + 1) (Int32.ofNat (i + 1)) := by
  obtain ⟨ia, -⟩ := own_ad ho hi
  have ci : Int32.ofNat i < 256 := (own_ltN (k := 256) (by omega) (by decide)).mpr hi
  have X : own_X rc bad kd c (j_addressAt o (Int32.ofNat i)) = if kd = 1 then 0 else 1 := by
    unfold own_X
    rw [if_pos hb]
  constructor
  · intro u iu hu
    have q : ¬ u = j_addressAt o (Int32.ofNat i) := fun q => hu (by rw [q]; exact hb)
    constructor
    · intro d
      exact (g5 u iu hu).1 (((own_dn1 ho hi u).mp d).resolve_right q)
    · intro d
      exact (g5 u iu hu).2 (fun d' => d ((own_dn1 ho hi u).mpr (Or.inl d')))
  · rw [j_runElement_l22, if_pos ci, own_o2 C g3 g4 ia hL (by decide) (by decide) ie hn h0 h1 hr hw, X, if_neg hx, Option.bind_some, own_succ]
    have w1 : own_Wc rc bad c (j_addressAt o (Int32.ofNat i)) b = c := by unfold own_Wc; rw [if_pos hb]
    rw [w1]
    rfl
theorem own_end (N : Nat) (S : Q) (e o v3 : Int32) : j_runElement_l22 (N + 1) S e o v3 (Int32.ofNat 256) = some (v3, S) := by
  rw [j_runElement_l22, if_neg (by decide)]

theorem own_P0 {rc : Int32 → Int32} {bad : Int32 → Bool} {c : List Int32} {o r b : Int32} (ho : o = 0 ∨ o = 1) (h : own_all rc bad c r) : own_Pc rc bad c o r b 0 := by
  intro u iu hu
  have k := inb_iff.mp iu
  refine ⟨fun d => ?_, fun _ => h u iu hu⟩
  unfold own_dn at d
  rcases ho with q | q
  · subst q
    rw [if_neg (by decide)] at d
    omega
  · subst q
    rw [if_pos rfl] at d
    have := k.2
    omega
theorem own_P256 {rc : Int32 → Int32} {bad : Int32 → Bool} {c : List Int32} {o r b : Int32} (ho : o = 0 ∨ o = 1) (h : own_Pc rc bad c o r b 256) : own_all rc bad c b := by
  intro u iu hu
  have k := inb_iff.mp iu
  refine (h u iu hu).1 ?_
  unfold own_dn
  have k2 := k.2
  rcases ho with q | q
  · subst q
    rw [if_neg (by decide)]
    omega
  · subst q
    rw [if_pos rfl]
    omega
theorem own_ei {s : Q} {rc : Int32 → Int32} {bad : Int32 → Bool} {kd : Int32} (C : own_C s rc bad kd) (c L : List Int32) (l n f : Int32) {e : Int32} (he : ¬ e < 0) (h3 : e < 3) : j_runElement (own_U s c l L n f) e = (j_runElement_l22 3000 (own_U s c l L n f) e (rd s.f_elementOrder e) 0 0).bind fun p => some (p.1, p.2) := by
  have P := C.2.2.2.2.2
  have u1 : (own_U s c l L n f).f_programLength = s.f_programLength := own_f_programLength
  have u2 : (own_U s c l L n f).f_elementOrder = s.f_elementOrder := own_f_elementOrder
  have e8 : e < 8 := by simp only [lt32, Int32.reduceToInt] at h3 ⊢; omega
  have ie : inb 8 e = true := by
    simp only [lt32, Int32.reduceToInt] at he e8
    exact inb_iff.mpr (by omega)
  unfold j_runElement j_isElementIndex
  rw [u1, u2, P.2.2.1, if_neg he, if_pos h3, if_pos e8, if_neg (by decide), P.1, if_pos ie]
theorem own_bs2 {α β : Type} (o : Option (α × β)) : (o.bind fun p => some (p.1, p.2)) = o := by cases o <;> rfl
/-- an element without failure -/
theorem own_eN {s : Q} {rc : Int32 → Int32} {bad : Int32 → Bool} {kd : Int32} (C : own_C s rc bad kd) {c L : List Int32} {l n f e r w b o : Int32} (hL : L.length = 32) (n0 : ¬ n < 0) (n4 : n < 4) (he : ¬ e < 0) (h3 : e < 3) (hn : rd s.f_elementCount e = 2) (h0 : j_opAt s e 0 = some r) (h1 : j_opAt s e 1 = some w) (hr : r = 0 ∨ r = 1) (hw : (w = 2 ∧ b = 0) ∨ (w = 3 ∧ b = 1)) (ho : o = 0 ∨ o = 1) (hoo : rd s.f_elementOrder e = o) (hx : ∀ a, inb 256 a = true → bad a = true → (if kd = 1 then (0 : Int32) else 1) = r) (g3 : c.length = 320) (g4 : own_bit c) (g5 : own_all rc bad c r) : ∃ c', c'.length = 320 ∧ own_bit c' ∧ own_all rc bad c' b ∧ j_runElement (own_U s c l L n f) e = some (0, own_U s c' r L n f) := by
  have ie : inb 8 e = true := by
    simp only [lt32, Int32.reduceToInt] at he h3
    exact inb_iff.mpr (by omega)
  obtain ⟨c', l', a1, a2, a3, a4, a5⟩ := own_adv (v3 := 0) C hL n0 n4 ie hn h0 h1 hr hw ho 256 0 2744 c l (by omega) (fun j _ j2 q => hx _ (own_ad ho (by omega)).1 q) g3 g4 (own_P0 ho g5)
  rw [if_neg (by omega)] at a4
  subst a4
  refine ⟨c', a1, a2, own_P256 ho a3, ?_⟩
  rw [own_ei C c L l n f he h3, hoo, own_bs2]
  have q : j_runElement_l22 3000 (own_U s c l L n f) e o 0 0 = _ := a5
  rw [q]
  exact own_end 2743 _ e o 0
/-- an element that fails at the one faulty address -/
theorem own_eF {s : Q} {rc : Int32 → Int32} {bad : Int32 → Bool} {kd : Int32} (C : own_C s rc bad kd) {c L : List Int32} {l e r w b o : Int32} (hL : L.length = 32) (he : ¬ e < 0) (h3 : e < 3) (hn : rd s.f_elementCount e = 2) (h0 : j_opAt s e 0 = some r) (h1 : j_opAt s e 1 = some w) (hr : r = 0 ∨ r = 1) (hw : (w = 2 ∧ b = 0) ∨ (w = 3 ∧ b = 1)) (ho : o = 0 ∨ o = 1) (hoo : rd s.f_elementOrder e = o) {i : Nat} (hi : i < 256) (hb : ∀ a, inb 256 a = true → (bad a = true ↔ a = j_addressAt o (Int32.ofNat i))) (hx : ¬ (if kd = 1 then (0 : Int32) else 1) = r) (g3 : c.length = 320) (g4 : own_bit c) (g5 : own_all rc bad c r) : ∃ c' l', c'.length = 320 ∧ own_bit c' ∧ own_all rc bad c' b ∧ j_runElement (own_U s c l L 0 0) e = some (1, own_U s c' l' (wr L 0 ((ish e 12 ||| ish 0 8) ||| j_addressAt o (Int32.ofNat i))) 1 (0 ||| ish 1 (isr (j_addressAt o (Int32.ofNat i)) 4 &&& 15))) := by
  have ie : inb 8 e = true := by
    simp only [lt32, Int32.reduceToInt] at he h3
    exact inb_iff.mpr (by omega)
  have nb : ∀ j, j < 256 → ¬ j = i → ¬ bad (j_addressAt o (Int32.ofNat j)) = true := by
    intro j hj ne q
    have q2 := (hb _ (own_ad ho hj).1).mp q
    have q3 := congrArg Int32.toInt q2
    rw [(own_ad ho hj).2, (own_ad ho hi).2] at q3
    rcases ho with z | z
    · subst z; rw [if_neg (by decide), if_neg (by decide)] at q3; omega
    · subst z; rw [if_pos rfl, if_pos rfl] at q3; omega
  obtain ⟨c1, l1, a1, a2, a3, a4, a5⟩ := own_adv (v3 := 0) (n := 0) (f := 0) C hL (by decide) (by decide) ie hn h0 h1 hr hw ho i 0 (3000 - i) c l (by omega) (fun j _ j2 q => absurd q (nb j (by omega) (by omega))) g3 g4 (own_P0 ho g5)
  rw [show 3000 - i + i = 3000 by omega, Nat.zero_add] at a5
  rw [Nat.zero_add] at a3
  obtain ⟨b1, b2⟩ := own_flt (N := 2999 - i) (L := L) (f := 0) (l := l1) (v3 := 0) C hL ie hn h0 h1 hr hw ho hi ((hb _ (own_ad ho hi).1).mpr rfl) hx a1 a2 a3
  rw [show 2999 - i + 1 = 3000 - i by omega] at b2
  obtain ⟨c2, l2, d1, d2, d3, d4, d5⟩ := own_adv (v3 := 0 + 1) (n := 1) (f := 0 ||| ish 1 (isr (j_addressAt o (Int32.ofNat i)) 4 &&& 15)) (L := wr L 0 ((ish e 12 ||| ish 0 8) ||| j_addressAt o (Int32.ofNat i))) C (by rw [len_wr, hL]) (by decide) (by decide) ie hn h0 h1 hr hw ho (255 - i) (i + 1) 2744 c1 (if kd = 1 then 0 else 1) (by omega) (fun j j1 j2 q => absurd q (nb j (by omega) (by omega))) a1 a2 b1
  rw [show 2744 + (255 - i) = 2999 - i by omega, show i + 1 + (255 - i) = 256 by omega] at d5
  rw [show i + 1 + (255 - i) = 256 by omega] at d3
  refine ⟨c2, l2, d1, d2, own_P256 ho d3, ?_⟩
  rw [own_ei C c L l 0 0 he h3, hoo, own_bs2]
  have q : j_runElement_l22 3000 (own_U s c l L 0 0) e o 0 0 = _ := a5
  rw [q, b2, d5]
  exact own_end 2743 _ e o (0 + 1)
theorem own_el0 {s : Q} {rc : Int32 → Int32} {bad : Int32 → Bool} {kd : Int32} (C : own_C s rc bad kd) {c L : List Int32} {l n f : Int32} (g3 : c.length = 320) (g4 : own_bit c) (g5 : own_all rc bad c 0) : ∃ c', c'.length = 320 ∧ own_bit c' ∧ own_all rc bad c' 0 ∧ j_runElement (own_U s c l L n f) 0 = some (0, own_U s c' l L n f) := by
  obtain ⟨c', a1, a2, a3, a4⟩ := own_e0 C L l n f 0 256 0 3000 c rfl (by omega) g3 g4 g5
  refine ⟨c', a1, a2, a3, ?_⟩
  rw [own_ei C c L l n f (by decide) (by decide), C.2.2.2.2.2.2.2.2.2.1, own_bs2]
  exact a4
theorem own_rr : ∀ (k i N : Nat) (s : Q), i + k = 32 → k < N → s.f_logBuffer.length = 32 → ∃ L, L.length = 32 ∧ j_resetResults_l2 N s (Int32.ofNat i) = some (s.s_logBuffer L) := by
  intro k
  induction k with
  | zero =>
    intro i N s h1 h2 h3
    obtain rfl : i = 32 := by omega
    cases N with
    | zero => omega
    | succ N => exact ⟨s.f_logBuffer, h3, by rw [j_resetResults_l2, if_neg (by decide)]; rfl⟩
  | succ k ih =>
    intro i N s h1 h2 h3
    cases N with
    | zero => omega
    | succ N =>
      have ci : Int32.ofNat i < 32 := (own_ltN (k := 32) (by omega) (by decide)).mpr (by omega)
      have ib : inb 32 (Int32.ofNat i) = true := own_inbN (by omega) (by decide)
      obtain ⟨L, a1, a2⟩ := ih (i + 1) N (Q.mk s.f_cells s.f_faultKind s.f_faultVictim s.f_faultAggressor s.f_faultTrigger s.f_victimSlot s.f_aggressorUses s.f_elementOrder s.f_elementCount s.f_elementOps (wr s.f_logBuffer (Int32.ofNat i) 0) s.f_remap s.f_spareTaken s.f_spareRows s.f_faultLimit s.f_logLimit s.f_latchBit s.f_faultCount s.f_programLength s.f_logLength s.f_failMask) (by omega) (by omega) (by rw [own_f_logBuffer, len_wr, h3])
      refine ⟨L, a1, ?_⟩
      rw [j_resetResults_l2, if_pos ci, h3, if_pos ib, own_succ, a2]
      rfl
theorem own_reset {s : Q} (h : s.f_logBuffer.length = 32) : ∃ L, L.length = 32 ∧ j_resetResults s = some (own_U s s.f_cells s.f_latchBit L 0 0) := by
  obtain ⟨L, a1, a2⟩ := own_rr 32 0 3000 s rfl (by omega) h
  refine ⟨L, a1, ?_⟩
  unfold j_resetResults
  have q : j_resetResults_l2 3000 s 0 = _ := a2
  rw [q, Option.bind_some]
  rfl
theorem own_run3 {s S1 S2 S3 : Q} {k1 k2 k3 : Int32} {L : List Int32} (h3 : s.f_programLength = 3) (hR : j_resetResults s = some (own_U s s.f_cells s.f_latchBit L 0 0)) (e0 : j_runElement (own_U s s.f_cells s.f_latchBit L 0 0) 0 = some (k1, S1)) (e1 : j_runElement S1 1 = some (k2, S2)) (e2 : j_runElement S2 2 = some (k3, S3)) (p1 : S1.f_programLength = 3) (p2 : S2.f_programLength = 3) (p3 : S3.f_programLength = 3) : j_run s = some (0 + k1 + k2 + k3, S3) := by
  unfold j_run
  rw [h3, if_pos (by decide), hR, Option.bind_some]
  have u : (own_U s s.f_cells s.f_latchBit L 0 0).f_programLength = 3 := h3
  rw [j_run_l18, u, if_pos (by decide), if_pos (by decide), e0, Option.bind_some]
  rw [show (0 : Int32) + 1 = 1 from rfl, j_run_l18, p1, if_pos (by decide), if_pos (by decide), e1, Option.bind_some]
  rw [show (1 : Int32) + 1 = 2 from rfl, j_run_l18, p2, if_pos (by decide), if_pos (by decide), e2, Option.bind_some]
  rw [show (2 : Int32) + 1 = 3 from rfl, j_run_l18, p3, if_neg (by decide)]
  rfl

theorem own_runOK {s : Q} {rc : Int32 → Int32} {bad : Int32 → Bool} {kd : Int32} (C : own_C s rc bad kd) (hL : s.f_logBuffer.length = 32) (g3 : s.f_cells.length = 320) (g4 : own_bit s.f_cells) (g5 : own_all rc bad s.f_cells 0) (nb : ∀ a, inb 256 a = true → ¬ bad a = true) : ∃ c' L, c'.length = 320 ∧ own_bit c' ∧ own_all rc bad c' 0 ∧ L.length = 32 ∧ j_run s = some (0, own_U s c' 1 L 0 0) := by
  have P := C.2.2.2.2.2
  obtain ⟨q1, q2, q3, q4, o0, o1, o2, n0, n1, n2, p00, p10, p11, p20, p21⟩ := P
  obtain ⟨L, l1, l2⟩ := own_reset hL
  obtain ⟨c1, a1, a2, a3, a4⟩ := own_el0 (L := L) (l := s.f_latchBit) (n := 0) (f := 0) C g3 g4 g5
  obtain ⟨c2, b1, b2, b3, b4⟩ := own_eN (l := s.f_latchBit) (n := 0) (f := 0) (e := 1) C l1 (by decide) (by decide) (by decide) (by decide) n1 p10 p11 (Or.inl rfl) (Or.inr ⟨rfl, rfl⟩) (Or.inl rfl) o1 (fun a ia q => absurd q (nb a ia)) a1 a2 a3
  obtain ⟨c3, d1, d2, d3, d4⟩ := own_eN (l := 0) (n := 0) (f := 0) (e := 2) C l1 (by decide) (by decide) (by decide) (by decide) n2 p20 p21 (Or.inr rfl) (Or.inl ⟨rfl, rfl⟩) (Or.inr rfl) o2 (fun a ia q => absurd q (nb a ia)) b1 b2 b3
  exact ⟨c3, L, d1, d2, d3, l1, own_run3 q3 l2 a4 b4 d4 q3 q3 q3⟩
theorem own_runF {s : Q} {rc : Int32 → Int32} {bad : Int32 → Bool} {kd v : Int32} (C : own_C s rc bad kd) (hL : s.f_logBuffer.length = 32) (g3 : s.f_cells.length = 320) (g4 : own_bit s.f_cells) (g5 : own_all rc bad s.f_cells 0) (iv : inb 256 v = true) (hb : ∀ a, inb 256 a = true → (bad a = true ↔ a = v)) : ∃ c' l' L, c'.length = 320 ∧ own_bit c' ∧ own_all rc bad c' 0 ∧ L.length = 32 ∧ j_run s = some (1, own_U s c' l' (wr L 0 ((ish (if kd = 1 then 2 else 1) 12 ||| ish 0 8) ||| v)) 1 (0 ||| ish 1 (isr v 4 &&& 15))) := by
  have P := C.2.2.2.2.2
  obtain ⟨q1, q2, q3, q4, o0, o1, o2, n0, n1, n2, p00, p10, p11, p20, p21⟩ := P
  obtain ⟨L, l1, l2⟩ := own_reset hL
  have kv := inb_iff.mp iv
  have kv2 := kv.2
  obtain ⟨c1, a1, a2, a3, a4⟩ := own_el0 (L := L) (l := s.f_latchBit) (n := 0) (f := 0) C g3 g4 g5
  rcases C.2.2.2.2.1 with hk | hk
  · have z0 : (if kd = 1 then (0 : Int32) else 1) = 0 := by rw [if_pos hk]
    obtain ⟨c2, b1, b2, b3, b4⟩ := own_eN (l := s.f_latchBit) (n := 0) (f := 0) (e := 1) C l1 (by decide) (by decide) (by decide) (by decide) n1 p10 p11 (Or.inl rfl) (Or.inr ⟨rfl, rfl⟩) (Or.inl rfl) o1 (fun a ia q => z0) a1 a2 a3
    have ea : j_addressAt 1 (Int32.ofNat (255 - v.toInt.toNat)) = v := by
      apply Int32.toInt_inj.mp
      rw [(own_ad (Or.inr rfl) (by omega)).2, if_pos rfl]; omega
    obtain ⟨c3, l3, d1, d2, d3, d4⟩ := own_eF (l := 0) (e := 2) (i := 255 - v.toInt.toNat) C l1 (by decide) (by decide) n2 p20 p21 (Or.inr rfl) (Or.inl ⟨rfl, rfl⟩) (Or.inr rfl) o2 (by omega) (fun a ia => by rw [ea]; exact hb a ia) (by rw [z0]; decide) b1 b2 b3
    rw [ea] at d4
    refine ⟨c3, l3, L, d1, d2, d3, l1, ?_⟩
    rw [if_pos hk]
    exact own_run3 q3 l2 a4 b4 d4 q3 q3 q3
  · have z1 : (if kd = 1 then (0 : Int32) else 1) = 1 := by rw [if_neg (by rw [hk]; decide)]
    have ea : j_addressAt 0 (Int32.ofNat v.toInt.toNat) = v := by
      apply Int32.toInt_inj.mp
      rw [(own_ad (Or.inl rfl) (by omega)).2, if_neg (by decide)]; omega
    obtain ⟨c2, l2', b1, b2, b3, b4⟩ := own_eF (l := s.f_latchBit) (e := 1) (i := v.toInt.toNat) C l1 (by decide) (by decide) n1 p10 p11 (Or.inl rfl) (Or.inr ⟨rfl, rfl⟩) (Or.inl rfl) o1 (by omega) (fun a ia => by rw [ea]; exact hb a ia) (by rw [z1]; decide) a1 a2 a3
    rw [ea] at b4
    obtain ⟨c3, d1, d2, d3, d4⟩ := own_eN (L := wr L 0 ((ish 1 12 ||| ish 0 8) ||| v)) (l := l2') (n := 1) (f := 0 ||| ish 1 (isr v 4 &&& 15)) (e := 2) C (by rw [len_wr]; exact l1) (by decide) (by decide) (by decide) (by decide) n2 p20 p21 (Or.inr rfl) (Or.inl ⟨rfl, rfl⟩) (Or.inr rfl) o2 (fun a ia q => z1) b1 b2 b3
    refine ⟨c3, 1, L, d1, d2, d3, l1, ?_⟩
    rw [if_neg (by rw [hk]; decide)]
    exact own_run3 q3 l2 a4 b4 d4 q3 q3 q3

theorem own_z0 (a0 a1 a2 a3 a4 a5 a6 a7 v : Int32) : wr [a0, a1, a2, a3, a4, a5, a6, a7] 0 v = [v, a1, a2, a3, a4, a5, a6, a7] := rfl
theorem own_w0 : inb 8 0 = true := rfl
theorem own_z1 (a0 a1 a2 a3 a4 a5 a6 a7 v : Int32) : wr [a0, a1, a2, a3, a4, a5, a6, a7] 1 v = [a0, v, a2, a3, a4, a5, a6, a7] := rfl
theorem own_w1 : inb 8 1 = true := rfl
theorem own_z2 (a0 a1 a2 a3 a4 a5 a6 a7 v : Int32) : wr [a0, a1, a2, a3, a4, a5, a6, a7] 2 v = [a0, a1, v, a3, a4, a5, a6, a7] := rfl
theorem own_w2 : inb 8 2 = true := rfl
theorem own_z3 (a0 a1 a2 a3 a4 a5 a6 a7 v : Int32) : wr [a0, a1, a2, a3, a4, a5, a6, a7] 3 v = [a0, a1, a2, v, a4, a5, a6, a7] := rfl
theorem own_w3 : inb 8 3 = true := rfl
theorem own_z4 (a0 a1 a2 a3 a4 a5 a6 a7 v : Int32) : wr [a0, a1, a2, a3, a4, a5, a6, a7] 4 v = [a0, a1, a2, a3, v, a5, a6, a7] := rfl
theorem own_w4 : inb 8 4 = true := rfl
theorem own_z5 (a0 a1 a2 a3 a4 a5 a6 a7 v : Int32) : wr [a0, a1, a2, a3, a4, a5, a6, a7] 5 v = [a0, a1, a2, a3, a4, v, a6, a7] := rfl
theorem own_w5 : inb 8 5 = true := rfl
theorem own_z6 (a0 a1 a2 a3 a4 a5 a6 a7 v : Int32) : wr [a0, a1, a2, a3, a4, a5, a6, a7] 6 v = [a0, a1, a2, a3, a4, a5, v, a7] := rfl
theorem own_w6 : inb 8 6 = true := rfl
theorem own_z7 (a0 a1 a2 a3 a4 a5 a6 a7 v : Int32) : wr [a0, a1, a2, a3, a4, a5, a6, a7] 7 v = [a0, a1, a2, a3, a4, a5, a6, v] := rfl
theorem own_w7 : inb 8 7 = true := rfl
theorem own_l8 (a0 a1 a2 a3 a4 a5 a6 a7 : Int32) : [a0, a1, a2, a3, a4, a5, a6, a7].length = 8 := rfl
def own_S0 : Q := Q.mk (List.replicate 320 0) (List.replicate 16 0) (List.replicate 16 0) (List.replicate 16 0) (List.replicate 16 0) (List.replicate 256 0) (List.replicate 256 0) [0, 0, 0, 0, 0, 0, 0, 0] [0, 0, 0, 0, 0, 0, 0, 0] [0, 0, 0, 0, 0, 0, 0, 0] (List.replicate 32 0) (List.replicate 16 (-1)) (List.replicate 4 0) 1 1 4 0 0 0 0 0
def own_S1 (fk fv vs : List Int32) (fc : Int32) : Q := Q.mk (List.replicate 320 0) fk fv (List.replicate 16 0) (List.replicate 16 0) vs (List.replicate 256 0) [0, 0, 0, 0, 0, 0, 0, 0] [0, 0, 0, 0, 0, 0, 0, 0] [0, 0, 0, 0, 0, 0, 0, 0] (List.replicate 32 0) (List.replicate 16 (-1)) (List.replicate 4 0) 1 1 4 0 fc 0 0 0
def own_S2 (fk fv vs : List Int32) (fc : Int32) : Q := Q.mk (List.replicate 320 0) fk fv (List.replicate 16 0) (List.replicate 16 0) vs (List.replicate 256 0) [0, 0, 1, 0, 0, 0, 0, 0] [1, 2, 2, 0, 0, 0, 0, 0] [2, 12, 9, 0, 0, 0, 0, 0] (List.replicate 32 0) (List.replicate 16 (-1)) (List.replicate 4 0) 1 1 4 0 fc 3 0 0
theorem own_ini : j_init 1 1 4 = some own_S0 := by
  simp only [j_init, j_init_b110]
  rw [show j_init_l148 3000 _ (0 : Int32) = _ from own_l148 16 0 3000 _ rfl (by decide) (by simp only [own_f_cells, own_e_cells, own_z_cells, own_f_faultKind, own_e_faultKind, own_z_faultKind, own_f_faultVictim, own_e_faultVictim, own_z_faultVictim, own_f_faultAggressor, own_e_faultAggressor, own_z_faultAggressor, own_f_faultTrigger, own_e_faultTrigger, own_z_faultTrigger, own_f_victimSlot, own_e_victimSlot, own_z_victimSlot, own_f_aggressorUses, own_e_aggressorUses, own_z_aggressorUses, own_f_elementOrder, own_e_elementOrder, own_z_elementOrder, own_f_elementCount, own_e_elementCount, own_z_elementCount, own_f_elementOps, own_e_elementOps, own_z_elementOps, own_f_logBuffer, own_e_logBuffer, own_z_logBuffer, own_f_remap, own_e_remap, own_z_remap, own_f_spareTaken, own_e_spareTaken, own_z_spareTaken, own_f_spareRows, own_e_spareRows, own_z_spareRows, own_f_faultLimit, own_e_faultLimit, own_z_faultLimit, own_f_logLimit, own_e_logLimit, own_z_logLimit, own_f_latchBit, own_e_latchBit, own_z_latchBit, own_f_faultCount, own_e_faultCount, own_z_faultCount, own_f_programLength, own_e_programLength, own_z_programLength, own_f_logLength, own_e_logLength, own_z_logLength, own_f_failMask, own_e_failMask, own_z_failMask]; rfl), Option.bind_some]
  rfl
theorem own_lp (fk fv vs : List Int32) (fc : Int32) : j_loadPreset (own_S1 fk fv vs fc) 1 = some (1, own_S2 fk fv vs fc) := by
  have e : j_clearProgram (own_S1 fk fv vs fc) = some (own_S1 fk fv vs fc) := by
    simp [j_clearProgram, j_clearProgram_l2, own_S1, own_f_cells, own_e_cells, own_z_cells, own_f_faultKind, own_e_faultKind, own_z_faultKind, own_f_faultVictim, own_e_faultVictim, own_z_faultVictim, own_f_faultAggressor, own_e_faultAggressor, own_z_faultAggressor, own_f_faultTrigger, own_e_faultTrigger, own_z_faultTrigger, own_f_victimSlot, own_e_victimSlot, own_z_victimSlot, own_f_aggressorUses, own_e_aggressorUses, own_z_aggressorUses, own_f_elementOrder, own_e_elementOrder, own_z_elementOrder, own_f_elementCount, own_e_elementCount, own_z_elementCount, own_f_elementOps, own_e_elementOps, own_z_elementOps, own_f_logBuffer, own_e_logBuffer, own_z_logBuffer, own_f_remap, own_e_remap, own_z_remap, own_f_spareTaken, own_e_spareTaken, own_z_spareTaken, own_f_spareRows, own_e_spareRows, own_z_spareRows, own_f_faultLimit, own_e_faultLimit, own_z_faultLimit, own_f_logLimit, own_e_logLimit, own_z_logLimit, own_f_latchBit, own_e_latchBit, own_z_latchBit, own_f_faultCount, own_e_faultCount, own_z_faultCount, own_f_programLength, own_e_programLength, own_z_programLength, own_f_logLength, own_e_logLength, own_z_logLength, own_f_failMask, own_e_failMask, own_z_failMask, own_z0, own_w0, own_z1, own_w1, own_z2, own_w2, own_z3, own_w3, own_z4, own_w4, own_z5, own_w5, own_z6, own_w6, own_z7, own_w7, own_l8, -List.reduceReplicate]
  unfold j_loadPreset
  rw [if_neg (by decide), if_neg (by decide), e, Option.bind_some, if_pos rfl]
  simp only [j_loadMatsPlus, j_presetElement, show ((2 : Int32) &&& 3 ||| ish (0 &&& 3) 2 ||| ish (0 &&& 3) 4) = 2 from rfl, show ((0 : Int32) &&& 3 ||| ish (3 &&& 3) 2 ||| ish (0 &&& 3) 4) = 12 from rfl, show ((1 : Int32) &&& 3 ||| ish (2 &&& 3) 2 ||| ish (0 &&& 3) 4) = 9 from rfl]
  simp [j_appendElement, own_S1, own_S2, show (2 : Int32) &&& j_opsMask 1 = 2 from rfl, show (12 : Int32) &&& j_opsMask 2 = 12 from rfl, show (9 : Int32) &&& j_opsMask 2 = 9 from rfl, own_f_cells, own_e_cells, own_z_cells, own_f_faultKind, own_e_faultKind, own_z_faultKind, own_f_faultVictim, own_e_faultVictim, own_z_faultVictim, own_f_faultAggressor, own_e_faultAggressor, own_z_faultAggressor, own_f_faultTrigger, own_e_faultTrigger, own_z_faultTrigger, own_f_victimSlot, own_e_victimSlot, own_z_victimSlot, own_f_aggressorUses, own_e_aggressorUses, own_z_aggressorUses, own_f_elementOrder, own_e_elementOrder, own_z_elementOrder, own_f_elementCount, own_e_elementCount, own_z_elementCount, own_f_elementOps, own_e_elementOps, own_z_elementOps, own_f_logBuffer, own_e_logBuffer, own_z_logBuffer, own_f_remap, own_e_remap, own_z_remap, own_f_spareTaken, own_e_spareTaken, own_z_spareTaken, own_f_spareRows, own_e_spareRows, own_z_spareRows, own_f_faultLimit, own_e_faultLimit, own_z_faultLimit, own_f_logLimit, own_e_logLimit, own_z_logLimit, own_f_latchBit, own_e_latchBit, own_z_latchBit, own_f_faultCount, own_e_faultCount, own_z_faultCount, own_f_programLength, own_e_programLength, own_z_programLength, own_f_logLength, own_e_logLength, own_z_logLength, own_f_failMask, own_e_failMask, own_z_failMask, own_z0, own_w0, own_z1, own_w1, own_z2, own_w2, own_z3, own_w3, own_z4, own_w4, own_z5, own_w5, own_z6, own_w6, own_z7, own_w7, own_l8, -List.reduceReplicate]
theorem own_inj {kd v : Int32} (hk : kd = 1 ∨ kd = 2) (h0 : ¬ v < 0) (h1 : v < 256) : j_inject own_S0 kd v 0 0 = some (0, own_S1 (wr (List.replicate 16 0) 0 kd) (wr (List.replicate 16 0) 0 v) (wr (List.replicate 256 0) v 1) 1) := by
  have iv : inb 256 v = true := by
    simp only [lt32, Int32.reduceToInt] at h0 h1
    exact inb_iff.mpr (by omega)
  have i16 : inb 16 0 = true := rfl
  have a1 : j_isAddress v = 1 := by unfold j_isAddress; rw [if_neg h0, if_pos h1]
  have k6 : ¬ kd = 6 := by rcases hk with e | e <;> rw [e] <;> decide
  have fk : j_isFaultKind kd = 1 := by rcases hk with e | e <;> rw [e] <;> rfl
  simp [j_inject, j_validateFaultArguments, j_validateFaultRoom, j_appendFault, j_appendFault_b105, j_appendFault_b121, j_isVictim, j_isAggressor, own_S0, own_S1, a1, k6, fk, iv, i16, own_f_cells, own_e_cells, own_z_cells, own_f_faultKind, own_e_faultKind, own_z_faultKind, own_f_faultVictim, own_e_faultVictim, own_z_faultVictim, own_f_faultAggressor, own_e_faultAggressor, own_z_faultAggressor, own_f_faultTrigger, own_e_faultTrigger, own_z_faultTrigger, own_f_victimSlot, own_e_victimSlot, own_z_victimSlot, own_f_aggressorUses, own_e_aggressorUses, own_z_aggressorUses, own_f_elementOrder, own_e_elementOrder, own_z_elementOrder, own_f_elementCount, own_e_elementCount, own_z_elementCount, own_f_elementOps, own_e_elementOps, own_z_elementOps, own_f_logBuffer, own_e_logBuffer, own_z_logBuffer, own_f_remap, own_e_remap, own_z_remap, own_f_spareTaken, own_e_spareTaken, own_z_spareTaken, own_f_spareRows, own_e_spareRows, own_z_spareRows, own_f_faultLimit, own_e_faultLimit, own_z_faultLimit, own_f_logLimit, own_e_logLimit, own_z_logLimit, own_f_latchBit, own_e_latchBit, own_z_latchBit, own_f_faultCount, own_e_faultCount, own_z_faultCount, own_f_programLength, own_e_programLength, own_z_programLength, own_f_logLength, own_e_logLength, own_z_logLength, own_f_failMask, own_e_failMask, own_z_failMask, own_rdc, own_wrc, rd_rep, List.length_replicate, -List.reduceReplicate]
theorem own_inj2 {kd v : Int32} (hk : kd = 1 ∨ kd = 2) (h : v < 0 ∨ ¬ v < 256) : j_inject own_S0 kd v 0 0 = some (-1, own_S0) := by
  have a1 : j_isAddress v = 0 := by
    unfold j_isAddress
    rcases h with q | q
    · rw [if_pos q]
    · by_cases z : v < 0
      · rw [if_pos z]
      · rw [if_neg z, if_neg q]
  have fk : j_isFaultKind kd = 1 := by rcases hk with e | e <;> rw [e] <;> rfl
  unfold j_inject j_validateFaultArguments
  rw [fk, if_neg (by decide), a1, if_pos rfl, Option.bind_some, if_neg (by decide)]
set_option maxHeartbeats 0 in
theorem own_nv : ∀ k : Fin 256, (isr (Int32.ofNat k.val) 4 &&& 15 = isr (Int32.ofNat k.val) 4) ∧ inb 16 (isr (Int32.ofNat k.val) 4) = true ∧ ((ish 1 12 ||| ish 0 8) ||| Int32.ofNat k.val = 4096 + Int32.ofNat k.val) ∧ ((ish 2 12 ||| ish 0 8) ||| Int32.ofNat k.val = 8192 + Int32.ofNat k.val) ∧ (0 ||| ish 1 (isr (Int32.ofNat k.val) 4)) = ish 1 (isr (Int32.ofNat k.val) 4) ∧ inb 16 (Int32.ofNat k.val &&& 15) = true ∧ (isr (Int32.ofNat k.val) 4).toInt * 16 + (Int32.ofNat k.val &&& 15).toInt = k.val ∧ (256 + 16 * 0 + (Int32.ofNat k.val &&& 15)).toInt = 256 + (Int32.ofNat k.val &&& 15).toInt := by decide +kernel
theorem own_nr : ∀ r j : Fin 16, ((isr (ish 1 (Int32.ofNat r.val)) (Int32.ofNat j.val)) &&& 1 = 0) ↔ ¬ j = r := by decide +kernel
theorem own_n0 : ∀ j : Fin 16, (isr 0 (Int32.ofNat j.val)) &&& 1 = 0 := by decide +kernel
theorem own_V {v : Int32} (iv : inb 256 v = true) : (isr v 4 &&& 15 = isr v 4) ∧ inb 16 (isr v 4) = true ∧ ((ish 1 12 ||| ish 0 8) ||| v = 4096 + v) ∧ ((ish 2 12 ||| ish 0 8) ||| v = 8192 + v) ∧ (0 ||| ish 1 (isr v 4)) = ish 1 (isr v 4) ∧ inb 16 (v &&& 15) = true ∧ (isr v 4).toInt * 16 + (v &&& 15).toInt = v.toInt ∧ (256 + 16 * 0 + (v &&& 15)).toInt = 256 + (v &&& 15).toInt := by
  have k := inb_iff.mp iv
  have e : v = Int32.ofNat v.toInt.toNat := own_of k.1
  have q := own_nv ⟨v.toInt.toNat, by have := k.2; omega⟩
  simp only at q
  rw [← e] at q
  have t : ((v.toInt.toNat : Nat) : Int) = v.toInt := by omega
  rw [t] at q
  exact q
/-- the program's facts -/
theorem own_prg {s : Q} (h1 : s.f_elementOrder = [0, 0, 1, 0, 0, 0, 0, 0]) (h2 : s.f_elementCount = [1, 2, 2, 0, 0, 0, 0, 0]) (h3 : s.f_elementOps = [2, 12, 9, 0, 0, 0, 0, 0]) (h4 : s.f_programLength = 3) (h5 : s.f_logLimit = 4) : s.f_elementOrder.length = 8 ∧ s.f_elementCount.length = 8 ∧ s.f_programLength = 3 ∧ s.f_logLimit = 4 ∧ rd s.f_elementOrder 0 = 0 ∧ rd s.f_elementOrder 1 = 0 ∧ rd s.f_elementOrder 2 = 1 ∧ rd s.f_elementCount 0 = 1 ∧ rd s.f_elementCount 1 = 2 ∧ rd s.f_elementCount 2 = 2 ∧ j_opAt s 0 0 = some 2 ∧ j_opAt s 1 0 = some 0 ∧ j_opAt s 1 1 = some 3 ∧ j_opAt s 2 0 = some 1 ∧ j_opAt s 2 1 = some 2 := by
  unfold j_opAt j_isElementIndex
  rw [h1, h2, h3, h4]
  exact ⟨rfl, rfl, rfl, h5, rfl, rfl, rfl, rfl, rfl, rfl, rfl, rfl, rfl, rfl, rfl⟩
theorem own_ag {s : Q} (h : s.f_aggressorUses = List.replicate 256 0) {a : Int32} (ia : inb 256 a = true) : j_isAggressor s a = some 0 := by
  unfold j_isAggressor
  split
  · rfl
  · rw [h, List.length_replicate, if_pos ia, rd_rep, if_neg (by decide)]
theorem own_adr {a : Int32} (ia : inb 256 a = true) : j_isAddress a = 1 := by
  have k := inb_iff.mp ia
  unfold j_isAddress
  rw [if_neg (inb_nn ia), if_pos (by simp only [lt32, Int32.reduceToInt]; omega)]
theorem own_vkF {s : Q} {v kd : Int32} (iv : inb 256 v = true) (h : s.f_victimSlot = wr (List.replicate 256 0) v 1) (hf : s.f_faultKind = wr (List.replicate 16 0) 0 kd) {a : Int32} (ia : inb 256 a = true) : j_victimKind s a = some (if decide (a = v) = true then kd else 0) := by
  have i16 : inb 16 0 = true := rfl
  unfold j_victimKind
  rw [own_adr ia, if_neg (by decide), h, len_wr, List.length_replicate, if_pos ia]
  by_cases e : a = v
  · subst e
    rw [rd_wr_same (by rw [List.length_replicate]; exact ia), if_neg (by decide), if_neg (by decide), hf, len_wr, List.length_replicate, show (1 : Int32) - 1 = 0 from rfl, if_pos i16, rd_wr_same (by rw [List.length_replicate]; exact i16)]
    simp
  · rw [rd_wr_ne (inb_nn iv) (inb_nn ia) (fun q => e q.symm), rd_rep, if_pos (by decide)]
    simp [e]
theorem own_vk0 {s : Q} (h : s.f_victimSlot = List.replicate 256 0) {a : Int32} (ia : inb 256 a = true) : j_victimKind s a = some 0 := by
  unfold j_victimKind
  rw [own_adr ia, if_neg (by decide), h, List.length_replicate, if_pos ia, rd_rep, if_pos (by decide)]
theorem own_rcu {s : Q} (h : s.f_remap = List.replicate 16 (-1)) {a : Int32} (ia : inb 256 a = true) : j_routedCell s a = some a ∧ inb 320 a = true := by
  have k := inb_iff.mp ia
  have k2 := k.2
  obtain ⟨v1, v2, -⟩ := own_V ia
  constructor
  · unfold j_routedCell j_routedCell_b37
    rw [h, List.length_replicate, v1, if_pos v2, own_rdc v2, if_pos (by decide), own_m255 k.1 (by omega)]
  · exact inb_iff.mpr (by omega)
theorem own_cF {s : Q} {v kd : Int32} (hk : kd = 1 ∨ kd = 2) (iv : inb 256 v = true) (hr : s.f_remap = List.replicate 16 (-1)) (h : s.f_victimSlot = wr (List.replicate 256 0) v 1) (hf : s.f_faultKind = wr (List.replicate 16 0) 0 kd) (ha : s.f_aggressorUses = List.replicate 256 0) (h1 : s.f_elementOrder = [0, 0, 1, 0, 0, 0, 0, 0]) (h2 : s.f_elementCount = [1, 2, 2, 0, 0, 0, 0, 0]) (h3 : s.f_elementOps = [2, 12, 9, 0, 0, 0, 0, 0]) (h4 : s.f_programLength = 3) (h5 : s.f_logLimit = 4) : own_C s (fun a => a) (fun a => decide (a = v)) kd := by
  refine ⟨fun a ia => own_rcu hr ia, fun a b _ _ e => e, fun a ia _ => ⟨own_vkF iv h hf ia, own_ag ha ia⟩, fun a ia q => ?_, hk, own_prg h1 h2 h3 h4 h5⟩
  have k := inb_iff.mp ia
  exact absurd (by simp only [lt32, Int32.reduceToInt]; omega) q
theorem own_c0 {s : Q} (hr : s.f_remap = List.replicate 16 (-1)) (h : s.f_victimSlot = List.replicate 256 0) (ha : s.f_aggressorUses = List.replicate 256 0) (h1 : s.f_elementOrder = [0, 0, 1, 0, 0, 0, 0, 0]) (h2 : s.f_elementCount = [1, 2, 2, 0, 0, 0, 0, 0]) (h3 : s.f_elementOps = [2, 12, 9, 0, 0, 0, 0, 0]) (h4 : s.f_programLength = 3) (h5 : s.f_logLimit = 4) : own_C s (fun a => a) (fun _ => false) 1 := by
  refine ⟨fun a ia => own_rcu hr ia, fun a b _ _ e => e, fun a ia _ => ⟨own_vk0 h ia, own_ag ha ia⟩, fun a ia q => rfl, Or.inl rfl, own_prg h1 h2 h3 h4 h5⟩
def own_rm (v : Int32) (a : Int32) : Int32 := if isr a 4 = isr v 4 then 256 + 16 * 0 + (a &&& 15) else a
theorem own_cM {s : Q} {v kd : Int32} (hk : kd = 1 ∨ kd = 2) (iv : inb 256 v = true) (hr : s.f_remap = wr (List.replicate 16 (-1)) (isr v 4) 0) (h : s.f_victimSlot = wr (List.replicate 256 0) v 1) (hf : s.f_faultKind = wr (List.replicate 16 0) 0 kd) (ha : s.f_aggressorUses = List.replicate 256 0) (h1 : s.f_elementOrder = [0, 0, 1, 0, 0, 0, 0, 0]) (h2 : s.f_elementCount = [1, 2, 2, 0, 0, 0, 0, 0]) (h3 : s.f_elementOps = [2, 12, 9, 0, 0, 0, 0, 0]) (h4 : s.f_programLength = 3) (h5 : s.f_logLimit = 4) : own_C s (own_rm v) (fun _ => false) kd := by
  obtain ⟨w1, w2, -⟩ := own_V iv
  have key : ∀ a, inb 256 a = true → (¬ own_rm v a < 256 ↔ isr a 4 = isr v 4) := by
    intro a ia
    have k := inb_iff.mp ia
    have k2 := k.2
    obtain ⟨v1, v2, v3, v4, v5, v6, v7, v8⟩ := own_V ia
    have j := inb_iff.mp v6
    unfold own_rm
    by_cases q : isr a 4 = isr v 4
    · rw [if_pos q]
      simp only [lt32, Int32.reduceToInt]
      rw [v8]
      constructor
      · intro _; exact q
      · intro _; omega
    · rw [if_neg q]
      simp only [lt32, Int32.reduceToInt]
      constructor
      · intro z; omega
      · intro z; exact absurd z q
  refine ⟨fun a ia => ?_, fun a b ia ib e => ?_, fun a ia q => ?_, fun a ia q => rfl, hk, own_prg h1 h2 h3 h4 h5⟩
  · have k := inb_iff.mp ia
    have k2 := k.2
    obtain ⟨v1, v2, v3, v4, v5, v6, v7, v8⟩ := own_V ia
    have j := inb_iff.mp v6
    have j2 := j.2
    unfold j_routedCell j_routedCell_b37 own_rm
    rw [hr, len_wr, List.length_replicate, v1, if_pos v2]
    by_cases q : isr a 4 = isr v 4
    · rw [q, rd_wr_same (by rw [List.length_replicate]; exact w2), if_neg (by decide), if_pos (by decide), if_pos rfl]
      exact ⟨rfl, inb_iff.mpr (by rw [v8]; omega)⟩
    · rw [rd_wr_ne (inb_nn w2) (inb_nn v2) (fun e => q e.symm), own_rdc v2, if_pos (by decide), own_m255 k.1 (by omega), if_neg q]
      exact ⟨rfl, inb_iff.mpr (by omega)⟩
  · have k := inb_iff.mp ia
    have kb := inb_iff.mp ib
    obtain ⟨-, -, -, -, -, a6, a7, a8⟩ := own_V ia
    obtain ⟨-, -, -, -, -, b6, b7, b8⟩ := own_V ib
    have ka := key a ia
    have kbb := key b ib
    rw [e] at ka
    by_cases q : isr a 4 = isr v 4
    · have q2 := kbb.mp (ka.mpr q)
      unfold own_rm at e
      rw [if_pos q, if_pos q2] at e
      have e' := congrArg Int32.toInt e
      rw [a8, b8] at e'
      have e2 : (isr a 4).toInt = (isr b 4).toInt := by rw [q, q2]
      apply Int32.toInt_inj.mp
      omega
    · have q2 : ¬ isr b 4 = isr v 4 := fun z => q (ka.mp (kbb.mpr z))
      unfold own_rm at e
      rw [if_neg q, if_neg q2] at e
      exact e
  · have q2 : ¬ isr a 4 = isr v 4 := fun z => ((key a ia).mpr z) q
    have ne : ¬ a = v := fun z => q2 (by rw [z])
    have er : own_rm v a = a := by unfold own_rm; rw [if_neg q2]
    rw [er]
    refine ⟨?_, own_ag ha ia⟩
    rw [own_vkF iv h hf ia]
    simp [ne]

theorem own_ri {i : Nat} (h : i < 16) : inb 16 (Int32.ofNat i) = true ∧ ¬ Int32.ofNat i < 0 ∧ ¬ 15 < Int32.ofNat i := by
  have e : (Int32.ofNat i).toInt = i := own_n2i (by omega)
  refine ⟨own_inbN h (by decide), ?_, ?_⟩
  · simp only [lt32, Int32.reduceToInt, e]; omega
  · simp only [lt32, Int32.reduceToInt, e]; omega
theorem own_fu {s : Q} {p : Nat} (hp : p < 16) (hf : s.f_failMask = ish 1 (Int32.ofNat p)) (hr : s.f_remap.length = 16) {i : Nat} (hi : i < 16) : j_isFailingUnmapped s (Int32.ofNat i) = some (if i = p then (if rd s.f_remap (Int32.ofNat p) < 0 then 1 else 0) else 0) := by
  obtain ⟨a1, a2, a3⟩ := own_ri hi
  have k := own_nr ⟨p, hp⟩ ⟨i, hi⟩
  simp only [Fin.mk.injEq] at k
  unfold j_isFailingUnmapped
  rw [if_neg a2, if_neg a3, hf, hr]
  by_cases q : i = p
  · subst q
    rw [if_neg (fun z => (k.mp z) rfl), if_pos a1, if_pos rfl]
    split <;> rfl
  · rw [if_pos (k.mpr q), if_neg q]
theorem own_cnt {s : Q} {p : Nat} (hp : p < 16) (hf : s.f_failMask = ish 1 (Int32.ofNat p)) (hr : s.f_remap.length = 16) (hu : rd s.f_remap (Int32.ofNat p) < 0) : ∀ (k i N : Nat) (v : Int32), i + k = 16 → k < N → j_countFailingUnmapped_l4 N s v (Int32.ofNat i) = some (if i ≤ p then v + 1 else v) := by
  intro k
  induction k with
  | zero =>
    intro i N v h1 h2
    obtain rfl : i = 16 := by omega
    cases N with
    | zero => omega
    | succ N => rw [j_countFailingUnmapped_l4, if_neg (by decide), if_neg (by omega)]
  | succ k ih =>
    intro i N v h1 h2
    cases N with
    | zero => omega
    | succ N =>
      have ci : Int32.ofNat i < 16 := (own_ltN (k := 16) (by omega) (by decide)).mpr (by omega)
      rw [j_countFailingUnmapped_l4, if_pos ci, own_fu hp hf hr (by omega), Option.bind_some]
      unfold j_countFailingUnmapped_b21
      rw [own_succ, ih (i + 1) N _ (by omega) (by omega)]
      by_cases q : i = p
      · subst q
        have e : (if i = i then (if rd s.f_remap (Int32.ofNat i) < 0 then (1 : Int32) else 0) else 0) = 1 := by rw [if_pos rfl, if_pos hu]
        rw [e, if_neg (show ¬ (1 : Int32) = 0 by decide), if_neg (show ¬ i + 1 ≤ i by omega), if_pos (Nat.le_refl i)]
      · rw [if_neg q, if_pos rfl]
        by_cases z : i ≤ p
        · rw [if_pos z, if_pos (by omega)]
        · rw [if_neg z, if_neg (by omega)]
theorem own_rq {s : Q} {p : Nat} (hp : p < 16) (hf : s.f_failMask = ish 1 (Int32.ofNat p)) (hr : s.f_remap.length = 16) (v : Int32) : ∀ (k i N : Nat), i + k = 16 → k < N → p < i → j_repair_l20 N s v (Int32.ofNat i) = some (.inr (v, s)) := by
  intro k
  induction k with
  | zero =>
    intro i N h1 h2 h3
    obtain rfl : i = 16 := by omega
    cases N with
    | zero => omega
    | succ N => rw [j_repair_l20, if_neg (by decide)]
  | succ k ih =>
    intro i N h1 h2 h3
    cases N with
    | zero => omega
    | succ N =>
      have ci : Int32.ofNat i < 16 := (own_ltN (k := 16) (by omega) (by decide)).mpr (by omega)
      rw [j_repair_l20, if_pos ci, own_fu hp hf hr (by omega), if_neg (by omega), Option.bind_some, if_pos rfl]
      unfold j_repair_b54
      rw [own_succ]
      exact ih (i + 1) N (by omega) (by omega) (by omega)
theorem own_as : ∀ (k i N : Nat) (s : Q), i + k = 16 → k < N → s.f_cells.length = 320 → own_bit s.f_cells → (∀ j : Int32, inb 320 j = true → 256 ≤ j.toInt → j.toInt < 256 + i → rd s.f_cells j = 0) → ∃ c, c.length = 320 ∧ own_bit c ∧ (∀ j : Int32, inb 320 j = true → j.toInt < 256 → rd c j = rd s.f_cells j) ∧ (∀ j : Int32, inb 320 j = true → 256 ≤ j.toInt → j.toInt < 272 → rd c j = 0) ∧ j_assignSpare_l46 N s (256 + 16 * 0) (Int32.ofNat i) = some (s.s_cells c) := by
  intro k
  induction k with
  | zero =>
    intro i N s h1 h2 h3 h4 h5
    obtain rfl : i = 16 := by omega
    cases N with
    | zero => omega
    | succ N => exact ⟨s.f_cells, h3, h4, fun _ _ _ => rfl, fun j a b c => h5 j a b (by omega), by rw [j_assignSpare_l46, if_neg (by decide)]; rfl⟩
  | succ k ih =>
    intro i N s h1 h2 h3 h4 h5
    cases N with
    | zero => omega
    | succ N =>
      have ci : Int32.ofNat i < 16 := (own_ltN (k := 16) (by omega) (by decide)).mpr (by omega)
      have e : (Int32.ofNat i).toInt = i := own_n2i (by omega)
      have ea : (256 + 16 * 0 + Int32.ofNat i).toInt = 256 + (i : Int) := by
        rw [show (256 : Int32) + 16 * 0 = 256 from rfl, own_add] <;> rw [e] <;> simp only [Int32.reduceToInt] <;> omega
      have ib : inb 320 (256 + 16 * 0 + Int32.ofNat i) = true := inb_iff.mpr (by omega)
      have i0 : i8 0 = 0 := rfl
      obtain ⟨c, a1, a2, a3, a4, a5⟩ := ih (i + 1) N (Q.mk (wr s.f_cells (256 + 16 * 0 + Int32.ofNat i) 0) s.f_faultKind s.f_faultVictim s.f_faultAggressor s.f_faultTrigger s.f_victimSlot s.f_aggressorUses s.f_elementOrder s.f_elementCount s.f_elementOps s.f_logBuffer s.f_remap s.f_spareTaken s.f_spareRows s.f_faultLimit s.f_logLimit s.f_latchBit s.f_faultCount s.f_programLength s.f_logLength s.f_failMask) (by omega) (by omega) (by rw [own_f_cells, len_wr, h3]) (by rw [own_f_cells]; exact own_bitw h4 h3 ib (Or.inl rfl)) (by
        intro j j1 j2 j3
        rw [own_f_cells]
        by_cases q : 256 + 16 * 0 + Int32.ofNat i = j
        · subst q
          exact rd_wr_same (by rw [h3]; exact ib) 0
        · rw [rd_wr_ne (inb_nn ib) (inb_nn j1) q]
          refine h5 j j1 j2 ?_
          have : ¬ j.toInt = 256 + (i : Int) := fun z => q (Int32.toInt_inj.mp (by rw [ea, z]))
          omega)
      rw [own_f_cells] at a3
      refine ⟨c, a1, a2, ?_, a4, ?_⟩
      · intro j j1 j2
        rw [a3 j j1 j2]
        refine rd_wr_ne (inb_nn ib) (inb_nn j1) ?_ 0
        intro z
        rw [← z, ea] at j2
        omega
      · rw [j_assignSpare_l46, if_pos ci, h3, if_pos ib, own_succ, i0, a5]
        rfl
def own_R (s : Q) (c : List Int32) (p : Nat) : Q := Q.mk c s.f_faultKind s.f_faultVictim s.f_faultAggressor s.f_faultTrigger s.f_victimSlot s.f_aggressorUses s.f_elementOrder s.f_elementCount s.f_elementOps s.f_logBuffer (wr s.f_remap (Int32.ofNat p) 0) (wr s.f_spareTaken 0 1) s.f_spareRows s.f_faultLimit s.f_logLimit s.f_latchBit s.f_faultCount s.f_programLength s.f_logLength s.f_failMask
theorem own_lf {s : Q} (h1 : s.f_spareRows = 1) (h2 : s.f_spareTaken = List.replicate 4 0) : j_leastFreeSpare s = some 0 ∧ j_countFreeSpares s = some 1 := by
  have i0 : inb 4 0 = true := rfl
  constructor
  · unfold j_leastFreeSpare
    rw [j_leastFreeSpare_l2, h1, if_pos (by decide), if_pos (by decide), h2, List.length_replicate, if_pos i0, rd_rep, if_pos rfl]
    rfl
  · unfold j_countFreeSpares
    rw [j_countFreeSpares_l4, h1, if_pos (by decide), if_pos (by decide), h2, List.length_replicate, if_pos i0, rd_rep, if_pos rfl]
    unfold j_countFreeSpares_b29
    rw [j_countFreeSpares_l4, h1, if_neg (by decide)]
    rfl
theorem own_asg {s : Q} {p : Nat} (hp : p < 16) (hr : s.f_remap.length = 16) (h2 : s.f_spareTaken = List.replicate 4 0) (h3 : s.f_cells.length = 320) (h4 : own_bit s.f_cells) : ∃ c, c.length = 320 ∧ own_bit c ∧ (∀ j : Int32, inb 320 j = true → j.toInt < 256 → rd c j = rd s.f_cells j) ∧ (∀ j : Int32, inb 320 j = true → 256 ≤ j.toInt → j.toInt < 272 → rd c j = 0) ∧ j_assignSpare s (Int32.ofNat p) 0 = some (own_R s c p) := by
  obtain ⟨a1, a2, a3⟩ := own_ri hp
  have i0 : inb 4 0 = true := rfl
  obtain ⟨c, b1, b2, b3, b4, b5⟩ := own_as 16 0 3000 (own_R s s.f_cells p) rfl (by omega) h3 h4 (fun j _ x y => by omega)
  refine ⟨c, b1, b2, b3, b4, ?_⟩
  unfold j_assignSpare
  rw [if_neg a2, if_neg a3, if_neg (by decide), if_neg (by decide), hr, if_pos a1, h2, List.length_replicate, if_pos i0]
  rw [← h2]
  have q : j_assignSpare_l46 3000 (own_R s s.f_cells p) (256 + 16 * 0) 0 = _ := b5
  show (j_assignSpare_l46 3000 (own_R s s.f_cells p) (256 + 16 * 0) 0).bind _ = _
  rw [q]
  rfl
theorem own_rp {s : Q} {p : Nat} (hp : p < 16) (hf : s.f_failMask = ish 1 (Int32.ofNat p)) (hr : s.f_remap = List.replicate 16 (-1)) (h1 : s.f_spareRows = 1) (h2 : s.f_spareTaken = List.replicate 4 0) (h3 : s.f_cells.length = 320) (h4 : own_bit s.f_cells) : ∃ c, c.length = 320 ∧ own_bit c ∧ (∀ j : Int32, inb 320 j = true → j.toInt < 256 → rd c j = rd s.f_cells j) ∧ (∀ j : Int32, inb 320 j = true → 256 ≤ j.toInt → j.toInt < 272 → rd c j = 0) ∧ j_repair s = some (1, own_R s c p) := by
  have hl : s.f_remap.length = 16 := by rw [hr, List.length_replicate]
  obtain ⟨a1, a2, a3⟩ := own_ri hp
  have hu : rd s.f_remap (Int32.ofNat p) < 0 := by rw [hr, own_rdc a1]; decide
  obtain ⟨c, b1, b2, b3, b4, b5⟩ := own_asg hp hl h2 h3 h4
  obtain ⟨f1, f2⟩ := own_lf h1 h2
  have go : ∀ (k i N : Nat), i + k = 16 → k < N → i ≤ p → j_repair_l20 N s 1 (Int32.ofNat i) = some (.inr (1, own_R s c p)) := by
    intro k
    induction k with
    | zero => intro i N h1 h2 h3; omega
    | succ k ih =>
      intro i N g1 g2 g3
      cases N with
      | zero => omega
      | succ N =>
        have ci : Int32.ofNat i < 16 := (own_ltN (k := 16) (by omega) (by decide)).mpr (by omega)
        rw [j_repair_l20, if_pos ci, own_fu hp hf hl (by omega), Option.bind_some]
        unfold j_repair_b54
        by_cases q : i = p
        · subst q
          rw [if_pos rfl, if_pos hu, if_neg (by decide), f1, Option.bind_some, if_neg (by decide), b5, Option.bind_some, own_succ]
          exact own_rq (s := own_R s c i) hp hf (by show (wr s.f_remap (Int32.ofNat i) 0).length = 16; rw [len_wr, hl]) 1 k (i + 1) N (by omega) (by omega) (by omega)
        · rw [if_neg q, if_pos rfl, own_succ]
          exact ih (i + 1) N (by omega) (by omega) (by omega)
  refine ⟨c, b1, b2, b3, b4, ?_⟩
  unfold j_repair j_countFailingUnmapped
  have q1 : j_countFailingUnmapped_l4 3000 s 0 0 = _ := own_cnt hp hf hl hu 16 0 3000 0 rfl (by omega)
  have q2 : j_repair_l20 3000 s 1 0 = _ := go 16 0 3000 rfl (by omega) (by omega)
  rw [q1, if_pos (by omega), Option.bind_some, Option.bind_some, f2, Option.bind_some, show (0 : Int32) + 1 = 1 from rfl, if_neg (by decide), q2]
  rfl
theorem own_rp0 {s : Q} (hf : s.f_failMask = 0) (hl : s.f_remap.length = 16) (h1 : s.f_spareRows = 1) (h2 : s.f_spareTaken = List.replicate 4 0) : j_repair s = some (0, s) := by
  have fu : ∀ i, i < 16 → j_isFailingUnmapped s (Int32.ofNat i) = some 0 := by
    intro i hi
    obtain ⟨a1, a2, a3⟩ := own_ri hi
    unfold j_isFailingUnmapped
    rw [if_neg a2, if_neg a3, hf, if_pos (own_n0 ⟨i, hi⟩)]
  have cnt : ∀ (k i N : Nat) (v : Int32), i + k = 16 → k < N → j_countFailingUnmapped_l4 N s v (Int32.ofNat i) = some v := by
    intro k
    induction k with
    | zero =>
      intro i N v h1 h2
      obtain rfl : i = 16 := by omega
      cases N with
      | zero => omega
      | succ N => rw [j_countFailingUnmapped_l4, if_neg (by decide)]
    | succ k ih =>
      intro i N v h1 h2
      cases N with
      | zero => omega
      | succ N =>
        have ci : Int32.ofNat i < 16 := (own_ltN (k := 16) (by omega) (by decide)).mpr (by omega)
        rw [j_countFailingUnmapped_l4, if_pos ci, fu i (by omega), Option.bind_some, if_pos rfl]
        unfold j_countFailingUnmapped_b21
        rw [own_succ]
        exact ih (i + 1) N v (by omega) (by omega)
  have go : ∀ (k i N : Nat), i + k = 16 → k < N → j_repair_l20 N s 0 (Int32.ofNat i) = some (.inr (0, s)) := by
    intro k
    induction k with
    | zero =>
      intro i N h1 h2
      obtain rfl : i = 16 := by omega
      cases N with
      | zero => omega
      | succ N => rw [j_repair_l20, if_neg (by decide)]
    | succ k ih =>
      intro i N h1 h2
      cases N with
      | zero => omega
      | succ N =>
        have ci : Int32.ofNat i < 16 := (own_ltN (k := 16) (by omega) (by decide)).mpr (by omega)
        rw [j_repair_l20, if_pos ci, fu i (by omega), Option.bind_some, if_pos rfl]
        unfold j_repair_b54
        rw [own_succ]
        exact ih (i + 1) N (by omega) (by omega)
  obtain ⟨f1, f2⟩ := own_lf h1 h2
  unfold j_repair j_countFailingUnmapped
  have q1 : j_countFailingUnmapped_l4 3000 s 0 0 = _ := cnt 16 0 3000 0 rfl (by omega)
  have q2 : j_repair_l20 3000 s 0 0 = _ := go 16 0 3000 rfl (by omega)
  rw [q1, Option.bind_some, Option.bind_some, f2, Option.bind_some, if_neg (by decide), q2]
  rfl
theorem own_r320 : own_bit (List.replicate 320 0) := fun j _ => Or.inl (by rw [rd_rep])
theorem own_isr {v : Int32} (h : v < 0 ∨ ¬ v < 256) : isr v 4 < 0 ∨ 15 < isr v 4 := by
  have e : (isr v 4).toInt = v.toInt / 16 := by
    unfold isr
    rw [show (4 : Int32) &&& 31 = 4 from rfl]
    have k0 : (v >>> (4 : Int32)).toBitVec = v.toBitVec.sshiftRight 4 := rfl
    have k : (v >>> (4 : Int32)).toInt = v.toInt >>> 4 := by
      show (v >>> (4 : Int32)).toBitVec.toInt = v.toBitVec.toInt >>> 4
      rw [k0, BitVec.toInt_sshiftRight]
    rw [k, Int.shiftRight_eq_div_pow]
    rfl
  simp only [lt32, Int32.reduceToInt, e] at h ⊢
  omega
theorem own_all0 {rc : Int32 → Int32} {bad : Int32 → Bool} : own_all rc bad (List.replicate 320 0) 0 := fun u _ _ => by rw [rd_rep]
theorem own_223 {s : Q} {rc : Int32 → Int32} {bad : Int32 → Bool} {kd w : Int32} (C : own_C s rc bad kd) (hL : s.f_logBuffer.length = 32) (g3 : s.f_cells.length = 320) (g4 : own_bit s.f_cells) (g5 : own_all rc bad s.f_cells 0) (nb : ∀ a, inb 256 a = true → ¬ bad a = true) : (law_b223 s w w).map (·.1) = some 1 := by
  obtain ⟨c, L, a1, a2, a3, a4, a5⟩ := own_runOK C hL g3 g4 g5 nb
  unfold law_b223
  rw [if_pos rfl, a5, Option.bind_some, if_pos rfl, if_pos (show j_failRows (own_U s c 1 L 0 0) = 0 from rfl), if_pos (show j_latch (own_U s c 1 L 0 0) = 1 from rfl)]
  rfl
theorem own_S01 : own_S0 = own_S1 (List.replicate 16 0) (List.replicate 16 0) (List.replicate 256 0) 0 := by simp only [own_S0, own_S1]
theorem own_out {v3 kd v : Int32} (hk : kd = 1 ∨ kd = 2) (h : v < 0 ∨ ¬ v < 256) : (law_b50 own_S0 v v3 kd 0).map (·.1) = some 1 := by
  unfold law_b50
  rw [own_inj2 hk h, Option.bind_some, if_pos rfl]
  unfold law_b71
  rw [if_pos rfl, own_S01, own_lp, Option.bind_some, if_neg (show ¬ (1 : Int32) = 0 by decide)]
  have C := own_c0 (s := own_S2 (List.replicate 16 0) (List.replicate 16 0) (List.replicate 256 0) 0) rfl rfl rfl rfl rfl rfl rfl rfl
  obtain ⟨c, L, a1, a2, a3, a4, a5⟩ := own_runOK C (by simp only [own_S2, own_f_cells, own_e_cells, own_z_cells, own_f_faultKind, own_e_faultKind, own_z_faultKind, own_f_faultVictim, own_e_faultVictim, own_z_faultVictim, own_f_faultAggressor, own_e_faultAggressor, own_z_faultAggressor, own_f_faultTrigger, own_e_faultTrigger, own_z_faultTrigger, own_f_victimSlot, own_e_victimSlot, own_z_victimSlot, own_f_aggressorUses, own_e_aggressorUses, own_z_aggressorUses, own_f_elementOrder, own_e_elementOrder, own_z_elementOrder, own_f_elementCount, own_e_elementCount, own_z_elementCount, own_f_elementOps, own_e_elementOps, own_z_elementOps, own_f_logBuffer, own_e_logBuffer, own_z_logBuffer, own_f_remap, own_e_remap, own_z_remap, own_f_spareTaken, own_e_spareTaken, own_z_spareTaken, own_f_spareRows, own_e_spareRows, own_z_spareRows, own_f_faultLimit, own_e_faultLimit, own_z_faultLimit, own_f_logLimit, own_e_logLimit, own_z_logLimit, own_f_latchBit, own_e_latchBit, own_z_latchBit, own_f_faultCount, own_e_faultCount, own_z_faultCount, own_f_programLength, own_e_programLength, own_z_programLength, own_f_logLength, own_e_logLength, own_z_logLength, own_f_failMask, own_e_failMask, own_z_failMask, List.length_replicate]) (by simp only [own_S2, own_f_cells, own_e_cells, own_z_cells, own_f_faultKind, own_e_faultKind, own_z_faultKind, own_f_faultVictim, own_e_faultVictim, own_z_faultVictim, own_f_faultAggressor, own_e_faultAggressor, own_z_faultAggressor, own_f_faultTrigger, own_e_faultTrigger, own_z_faultTrigger, own_f_victimSlot, own_e_victimSlot, own_z_victimSlot, own_f_aggressorUses, own_e_aggressorUses, own_z_aggressorUses, own_f_elementOrder, own_e_elementOrder, own_z_elementOrder, own_f_elementCount, own_e_elementCount, own_z_elementCount, own_f_elementOps, own_e_elementOps, own_z_elementOps, own_f_logBuffer, own_e_logBuffer, own_z_logBuffer, own_f_remap, own_e_remap, own_z_remap, own_f_spareTaken, own_e_spareTaken, own_z_spareTaken, own_f_spareRows, own_e_spareRows, own_z_spareRows, own_f_faultLimit, own_e_faultLimit, own_z_faultLimit, own_f_logLimit, own_e_logLimit, own_z_logLimit, own_f_latchBit, own_e_latchBit, own_z_latchBit, own_f_faultCount, own_e_faultCount, own_z_faultCount, own_f_programLength, own_e_programLength, own_z_programLength, own_f_logLength, own_e_logLength, own_z_logLength, own_f_failMask, own_e_failMask, own_z_failMask, List.length_replicate]) (by simp only [own_S2, own_f_cells, own_e_cells, own_z_cells, own_f_faultKind, own_e_faultKind, own_z_faultKind, own_f_faultVictim, own_e_faultVictim, own_z_faultVictim, own_f_faultAggressor, own_e_faultAggressor, own_z_faultAggressor, own_f_faultTrigger, own_e_faultTrigger, own_z_faultTrigger, own_f_victimSlot, own_e_victimSlot, own_z_victimSlot, own_f_aggressorUses, own_e_aggressorUses, own_z_aggressorUses, own_f_elementOrder, own_e_elementOrder, own_z_elementOrder, own_f_elementCount, own_e_elementCount, own_z_elementCount, own_f_elementOps, own_e_elementOps, own_z_elementOps, own_f_logBuffer, own_e_logBuffer, own_z_logBuffer, own_f_remap, own_e_remap, own_z_remap, own_f_spareTaken, own_e_spareTaken, own_z_spareTaken, own_f_spareRows, own_e_spareRows, own_z_spareRows, own_f_faultLimit, own_e_faultLimit, own_z_faultLimit, own_f_logLimit, own_e_logLimit, own_z_logLimit, own_f_latchBit, own_e_latchBit, own_z_latchBit, own_f_faultCount, own_e_faultCount, own_z_faultCount, own_f_programLength, own_e_programLength, own_z_programLength, own_f_logLength, own_e_logLength, own_z_logLength, own_f_failMask, own_e_failMask, own_z_failMask]; exact own_r320) (by simp only [own_S2, own_f_cells, own_e_cells, own_z_cells, own_f_faultKind, own_e_faultKind, own_z_faultKind, own_f_faultVictim, own_e_faultVictim, own_z_faultVictim, own_f_faultAggressor, own_e_faultAggressor, own_z_faultAggressor, own_f_faultTrigger, own_e_faultTrigger, own_z_faultTrigger, own_f_victimSlot, own_e_victimSlot, own_z_victimSlot, own_f_aggressorUses, own_e_aggressorUses, own_z_aggressorUses, own_f_elementOrder, own_e_elementOrder, own_z_elementOrder, own_f_elementCount, own_e_elementCount, own_z_elementCount, own_f_elementOps, own_e_elementOps, own_z_elementOps, own_f_logBuffer, own_e_logBuffer, own_z_logBuffer, own_f_remap, own_e_remap, own_z_remap, own_f_spareTaken, own_e_spareTaken, own_z_spareTaken, own_f_spareRows, own_e_spareRows, own_z_spareRows, own_f_faultLimit, own_e_faultLimit, own_z_faultLimit, own_f_logLimit, own_e_logLimit, own_z_logLimit, own_f_latchBit, own_e_latchBit, own_z_latchBit, own_f_faultCount, own_e_faultCount, own_z_faultCount, own_f_programLength, own_e_programLength, own_z_programLength, own_f_logLength, own_e_logLength, own_z_logLength, own_f_failMask, own_e_failMask, own_z_failMask]; exact own_all0) (fun a _ => by simp)
  rw [a5, Option.bind_some, if_pos rfl]
  unfold law_b100
  rw [if_pos rfl, if_pos rfl]
  unfold law_b119
  rw [if_pos (show j_failRows (own_U (own_S2 (List.replicate 16 0) (List.replicate 16 0) (List.replicate 256 0) 0) c 1 L 0 0) = 0 from rfl), if_pos rfl]
  unfold law_b158
  have l0 : ∀ i, j_logEntry (own_U (own_S2 (List.replicate 16 0) (List.replicate 16 0) (List.replicate 256 0) 0) c 1 L 0 0) i = some (-1) := by
    intro i
    unfold j_logEntry
    split
    · rfl
    · rename_i q
      exact if_neg q
  rw [l0, Option.bind_some, if_pos rfl, l0, Option.bind_some, if_pos rfl, own_rp0 rfl rfl rfl rfl, Option.bind_some, if_pos rfl]
  unfold law_b197
  have rm : j_rowMap (own_U (own_S2 (List.replicate 16 0) (List.replicate 16 0) (List.replicate 256 0) 0) c 1 L 0 0) (isr v 4) = some (-1) := by
    unfold j_rowMap
    rcases own_isr h with q | q
    · rw [if_pos q]
    · split
      · rfl
      · rfl
  rw [if_pos rfl, rm, Option.bind_some, if_pos rfl]
  have C2 := own_c0 (s := own_U (own_S2 (List.replicate 16 0) (List.replicate 16 0) (List.replicate 256 0) 0) c 1 L 0 0) rfl rfl rfl rfl rfl rfl rfl rfl
  exact own_223 C2 a4 a1 a2 a3 (fun a _ => by simp)
theorem own_in {v3 kd v : Int32} (hk : (v3 = 0 ∧ kd = 1) ∨ (¬ v3 = 0 ∧ kd = 2)) (h0 : ¬ v < 0) (h1 : v < 256) : (law_b50 own_S0 v v3 kd 1).map (·.1) = some 1 := by
  have hk' : kd = 1 ∨ kd = 2 := by rcases hk with q | q; exact Or.inl q.2; exact Or.inr q.2
  have iv : inb 256 v = true := by
    simp only [lt32, Int32.reduceToInt] at h0 h1
    exact inb_iff.mpr (by omega)
  obtain ⟨v1, v2, v3', v4, v5, v6, v7, v8⟩ := own_V iv
  have n10 : ¬ (1 : Int32) = 0 := by decide
  unfold law_b50
  rw [own_inj hk' h0 h1, Option.bind_some, if_neg n10]
  unfold law_b71
  rw [if_pos rfl, own_lp, Option.bind_some, if_neg n10]
  generalize hS : own_S2 (wr (List.replicate 16 0) 0 kd) (wr (List.replicate 16 0) 0 v) (wr (List.replicate 256 0) v 1) 1 = S
  have C : own_C S (fun a => a) (fun a => decide (a = v)) kd := by
    subst hS
    exact own_cF hk' iv rfl rfl rfl rfl rfl rfl rfl rfl rfl
  obtain ⟨c, l, L, a1, a2, a3, a4, a5⟩ := own_runF C (by subst hS; simp only [own_S2, own_f_cells, own_e_cells, own_z_cells, own_f_faultKind, own_e_faultKind, own_z_faultKind, own_f_faultVictim, own_e_faultVictim, own_z_faultVictim, own_f_faultAggressor, own_e_faultAggressor, own_z_faultAggressor, own_f_faultTrigger, own_e_faultTrigger, own_z_faultTrigger, own_f_victimSlot, own_e_victimSlot, own_z_victimSlot, own_f_aggressorUses, own_e_aggressorUses, own_z_aggressorUses, own_f_elementOrder, own_e_elementOrder, own_z_elementOrder, own_f_elementCount, own_e_elementCount, own_z_elementCount, own_f_elementOps, own_e_elementOps, own_z_elementOps, own_f_logBuffer, own_e_logBuffer, own_z_logBuffer, own_f_remap, own_e_remap, own_z_remap, own_f_spareTaken, own_e_spareTaken, own_z_spareTaken, own_f_spareRows, own_e_spareRows, own_z_spareRows, own_f_faultLimit, own_e_faultLimit, own_z_faultLimit, own_f_logLimit, own_e_logLimit, own_z_logLimit, own_f_latchBit, own_e_latchBit, own_z_latchBit, own_f_faultCount, own_e_faultCount, own_z_faultCount, own_f_programLength, own_e_programLength, own_z_programLength, own_f_logLength, own_e_logLength, own_z_logLength, own_f_failMask, own_e_failMask, own_z_failMask, List.length_replicate]) (by subst hS; simp only [own_S2, own_f_cells, own_e_cells, own_z_cells, own_f_faultKind, own_e_faultKind, own_z_faultKind, own_f_faultVictim, own_e_faultVictim, own_z_faultVictim, own_f_faultAggressor, own_e_faultAggressor, own_z_faultAggressor, own_f_faultTrigger, own_e_faultTrigger, own_z_faultTrigger, own_f_victimSlot, own_e_victimSlot, own_z_victimSlot, own_f_aggressorUses, own_e_aggressorUses, own_z_aggressorUses, own_f_elementOrder, own_e_elementOrder, own_z_elementOrder, own_f_elementCount, own_e_elementCount, own_z_elementCount, own_f_elementOps, own_e_elementOps, own_z_elementOps, own_f_logBuffer, own_e_logBuffer, own_z_logBuffer, own_f_remap, own_e_remap, own_z_remap, own_f_spareTaken, own_e_spareTaken, own_z_spareTaken, own_f_spareRows, own_e_spareRows, own_z_spareRows, own_f_faultLimit, own_e_faultLimit, own_z_faultLimit, own_f_logLimit, own_e_logLimit, own_z_logLimit, own_f_latchBit, own_e_latchBit, own_z_latchBit, own_f_faultCount, own_e_faultCount, own_z_faultCount, own_f_programLength, own_e_programLength, own_z_programLength, own_f_logLength, own_e_logLength, own_z_logLength, own_f_failMask, own_e_failMask, own_z_failMask, List.length_replicate]) (by subst hS; simp only [own_S2, own_f_cells, own_e_cells, own_z_cells, own_f_faultKind, own_e_faultKind, own_z_faultKind, own_f_faultVictim, own_e_faultVictim, own_z_faultVictim, own_f_faultAggressor, own_e_faultAggressor, own_z_faultAggressor, own_f_faultTrigger, own_e_faultTrigger, own_z_faultTrigger, own_f_victimSlot, own_e_victimSlot, own_z_victimSlot, own_f_aggressorUses, own_e_aggressorUses, own_z_aggressorUses, own_f_elementOrder, own_e_elementOrder, own_z_elementOrder, own_f_elementCount, own_e_elementCount, own_z_elementCount, own_f_elementOps, own_e_elementOps, own_z_elementOps, own_f_logBuffer, own_e_logBuffer, own_z_logBuffer, own_f_remap, own_e_remap, own_z_remap, own_f_spareTaken, own_e_spareTaken, own_z_spareTaken, own_f_spareRows, own_e_spareRows, own_z_spareRows, own_f_faultLimit, own_e_faultLimit, own_z_faultLimit, own_f_logLimit, own_e_logLimit, own_z_logLimit, own_f_latchBit, own_e_latchBit, own_z_latchBit, own_f_faultCount, own_e_faultCount, own_z_faultCount, own_f_programLength, own_e_programLength, own_z_programLength, own_f_logLength, own_e_logLength, own_z_logLength, own_f_failMask, own_e_failMask, own_z_failMask]; exact own_r320) (by subst hS; simp only [own_S2, own_f_cells, own_e_cells, own_z_cells, own_f_faultKind, own_e_faultKind, own_z_faultKind, own_f_faultVictim, own_e_faultVictim, own_z_faultVictim, own_f_faultAggressor, own_e_faultAggressor, own_z_faultAggressor, own_f_faultTrigger, own_e_faultTrigger, own_z_faultTrigger, own_f_victimSlot, own_e_victimSlot, own_z_victimSlot, own_f_aggressorUses, own_e_aggressorUses, own_z_aggressorUses, own_f_elementOrder, own_e_elementOrder, own_z_elementOrder, own_f_elementCount, own_e_elementCount, own_z_elementCount, own_f_elementOps, own_e_elementOps, own_z_elementOps, own_f_logBuffer, own_e_logBuffer, own_z_logBuffer, own_f_remap, own_e_remap, own_z_remap, own_f_spareTaken, own_e_spareTaken, own_z_spareTaken, own_f_spareRows, own_e_spareRows, own_z_spareRows, own_f_faultLimit, own_e_faultLimit, own_z_faultLimit, own_f_logLimit, own_e_logLimit, own_z_logLimit, own_f_latchBit, own_e_latchBit, own_z_latchBit, own_f_faultCount, own_e_faultCount, own_z_faultCount, own_f_programLength, own_e_programLength, own_z_programLength, own_f_logLength, own_e_logLength, own_z_logLength, own_f_failMask, own_e_failMask, own_z_failMask]; exact own_all0) iv (fun a _ => by simp)
  rw [v1, v5] at a5
  have code : ((ish (if kd = 1 then 2 else 1) 12 ||| ish 0 8) ||| v) = if v3 = 0 then 8192 + v else 4096 + v := by
    rcases hk with ⟨q1, q2⟩ | ⟨q1, q2⟩
    · rw [if_pos q2, if_pos q1, v4]
    · rw [if_neg (by rw [q2]; decide), if_neg q1, v3']
  rw [code] at a5
  rw [a5, Option.bind_some, if_neg n10]
  generalize hT : own_U S c l (wr L 0 (if v3 = 0 then 8192 + v else 4096 + v)) 1 (ish 1 (isr v 4)) = T
  have tl : T.f_logLength = 1 := by subst hT; rfl
  have tb : T.f_logBuffer = wr L 0 (if v3 = 0 then 8192 + v else 4096 + v) := by subst hT; rfl
  have tf : T.f_failMask = ish 1 (isr v 4) := by subst hT; rfl
  have kk := inb_iff.mp v2
  have kk2 := kk.2
  have ep : isr v 4 = Int32.ofNat (isr v 4).toInt.toNat := own_of kk.1
  have hp : (isr v 4).toInt.toNat < 16 := by omega
  unfold law_b100
  rw [if_pos rfl, if_neg n10]
  unfold law_b119
  rw [if_pos (show j_failRows T = ish 1 (isr v 4) from tf), if_neg n10]
  unfold law_b158
  have i32 : inb 32 0 = true := rfl
  have l0 : j_logEntry T 0 = some (if v3 = 0 then 8192 + v else 4096 + v) := by
    unfold j_logEntry
    rw [if_neg (by decide), tl, if_pos (by decide), if_pos (by decide), tb, len_wr, a4, if_pos i32, rd_wr_same (by rw [a4]; exact i32)]
  have l1 : j_logEntry T 1 = some (-1) := by
    unfold j_logEntry
    rw [if_neg (by decide), tl, if_neg (by decide)]
  obtain ⟨c2, b1, b2, b3, b4, b5⟩ := own_rp (s := T) hp (by rw [tf]; exact congrArg _ ep) (by subst hT; subst hS; rfl) (by subst hT; subst hS; rfl) (by subst hT; subst hS; rfl) (by subst hT; exact a1) (by subst hT; exact a2)
  rw [l0, Option.bind_some, if_pos rfl, l1, Option.bind_some, if_pos rfl, b5, Option.bind_some, if_neg n10]
  unfold law_b197
  have er : (own_R T c2 (isr v 4).toInt.toNat).f_remap = wr (List.replicate 16 (-1)) (isr v 4) 0 := by
    show wr T.f_remap (Int32.ofNat (isr v 4).toInt.toNat) 0 = _
    rw [← ep]
    subst hT; subst hS; rfl
  have rm : j_rowMap (own_R T c2 (isr v 4).toInt.toNat) (isr v 4) = some 0 := by
    unfold j_rowMap
    rw [if_neg (inb_nn v2), if_neg (by simp only [lt32, Int32.reduceToInt]; omega), er, len_wr, List.length_replicate, if_pos v2, rd_wr_same (by rw [List.length_replicate]; exact v2)]
  rw [if_pos rfl, rm, Option.bind_some, if_neg n10]
  have C2 : own_C (own_R T c2 (isr v 4).toInt.toNat) (own_rm v) (fun _ => false) kd := by
    refine own_cM hk' iv er ?_ ?_ ?_ ?_ ?_ ?_ ?_ ?_ <;> (subst hT; subst hS; rfl)
  refine own_223 C2 (by show T.f_logBuffer.length = 32; rw [tb, len_wr, a4]) b1 b2 ?_ (fun a _ => by simp)
  intro u iu _
  have ku := inb_iff.mp iu
  have ku2 := ku.2
  obtain ⟨-, -, -, -, -, u6, u7, u8⟩ := own_V iu
  have j := inb_iff.mp u6
  have j2 := j.2
  show rd c2 (own_rm v u) = 0
  unfold own_rm
  by_cases q : isr u 4 = isr v 4
  · rw [if_pos q]
    exact b4 _ (inb_iff.mpr (by rw [u8]; omega)) (by rw [u8]; omega) (by rw [u8]; omega)
  · rw [if_neg q, b3 u (inb_iff.mpr (by omega)) (by omega)]
    have ne : ¬ u = v := fun z => q (by rw [z])
    have := a3 u iu (by simpa using ne)
    subst hT
    exact this
theorem own_law (v0 v1 : Int32) : (law v0 v1).map (·.1) = some 1 := by
  unfold law
  rw [own_ini, Option.bind_some]
  unfold law_b22 law_b32
  generalize (if v0 &&& 1 = 0 then (0 : Int32) else 1) = w
  by_cases a : v1 < 0
  · rw [if_pos a]
    exact own_out (by split; exact Or.inl rfl; exact Or.inr rfl) (Or.inl a)
  · rw [if_neg a]
    by_cases b : v1 < 256
    · rw [if_pos b]
      refine own_in ?_ a b
      by_cases q : w = 0
      · rw [if_pos q]; exact Or.inl ⟨q, rfl⟩
      · rw [if_neg q]; exact Or.inr ⟨q, rfl⟩
    · rw [if_neg b]
      exact own_out (by split; exact Or.inl rfl; exact Or.inr rfl) (Or.inr b)

set_option maxRecDepth 65536 in
set_option maxHeartbeats 4000000 in
theorem comes_1 {Post : Tables → Env → Array Value → State → Outcome → State → Prop} (hpost : ∀ tb e args s v u, (limb_1_1.after args s (.returned v) u = true ∧ limb_1_2.after args s (.returned v) u = true ∧ True) → FrameEnd s (.returned v) u (Jvm.fieldLocs frame_1_writes args s ++ Jvm.arrayLocs frame_1_arrays args s ++ Jvm.staticLocs frame_1_statics s) 40 2112 → Post tb e args s (.returned v) u) :
    ArmFor flags0 classFile x code maxLocals ret World_1 tables_1 room_1 Calls_1 rest_1 Pre_1 Post := by
  intro l hfl _ _ p e ha hc hk s m args below hf hA hF happ hP
  obtain ⟨hcalls, hrest, hpre⟩ := hP
  obtain ⟨-, -, -, hnamed, -, -, -, hat⟩ := (Spec.applies_iff hf).mp happ
  obtain ⟨hg, hn⟩ := and_e (Cond.before_iff.mp (show (Jvm.Cond.and given_1 narrow_1).before args s = true from hpre))
  obtain ⟨hcnt, h0⟩ := and_e hg
  obtain ⟨w0, w1, rfl⟩ : ∃ w0 w1 : Value, args = #[w0, w1] := by
    have hs : args.size = 2 := by simpa [Cond.value, given_1] using hcnt
    obtain ⟨L⟩ := args
    match L, hs with
    | [w0, w1], _ => exact ⟨w0, w1, rfl⟩
  have hw := fun d (hd : d ∈ tables_1) => atoms_spec (ws := Jvm.Cond.code x code maxLocals ret :: tables_1) hat d (List.mem_cons_of_mem _ hd)
  obtain ⟨q0, h1⟩ := and_e h0
  obtain ⟨i0, e0⟩ := is_v q0
  obtain rfl : w0 = .int i0 := Option.some.inj e0
  obtain ⟨i1, e1⟩ := is_v h1
  obtain rfl : w1 = .int i1 := Option.some.inj e1
  have hL := own_law i0 i1
  obtain ⟨res, hres, hr1⟩ := Option.map_eq_some_iff.mp hL
  obtain ⟨n, hrun⟩ := ev_law i0 i1 hres rfl
  have hr1' : res.1 = 1 := hr1
  rw [hr1'] at hrun
  have hcap := run_cap hrun
  have hcC : own_P.capC = 40 := rfl
  have hcS : own_P.capS = 2112 := rfl
  rw [hcC, hcS] at hcap
  have hc1 : (W0 []).length = 0 := rfl
  have hc2 : hsz own_P (W0 []) = 0 := rfl
  have hM := metOf (sound (own_good hw) n) (k := 0) (as := [.int i0, .int i1]) (H := (W0 [])) hrun (l := l) (wsC := tables_1) (rm := room_1) own_pn0 rfl (fun h => nomatch h) (by decide) (by decide) (by show _ ≤ 40; omega) (by show _ ≤ 2112; omega) (am := []) (ws := [.int i0, .int i1]) (h := s.heap) (n0 := s.heap.size) ⟨_, _, rfl, rfl, _, _, rfl, rfl, rfl⟩ (Nat.le_of_ble_eq_true rfl) (HR.none _ _ _ _ _) (Nat.le_refl _)
  obtain ⟨n, o, h1, h2, h3, w, L, rfl, ⟨N, -, am', -, -, hv⟩, hq⟩ := hM p e ha hc hk s m _ below hf ((Spec.applies_iff_loose hf).mp happ).1 ⟨rfl, State.Warmed39.refl s, rfl⟩ trivial
  obtain ⟨y, rfl, rfl⟩ := hv
  exact ⟨n, _, h1, h2, h3, hpost _ _ _ _ _ _ ⟨Cond.after_iff.mpr rfl, Cond.after_iff.mpr (eq_i res_at (Term.int_eval (1)) rfl), trivial⟩ ⟨hq.1, hq.2.1, (hq.2.2.sift fun y hy => Or.inr (N y hy)).mono (by omega) (by omega)⟩⟩
theorem main_1_1 : Claimed_1_1 := comes_1 fun _ _ _ _ _ _ h hF => ⟨h.1, hF⟩
theorem main_1_2 : Claimed_1_2 := comes_1 fun _ _ _ _ _ _ h hF => ⟨h.2.1, hF⟩
end Jvm.Pilot.@@N@@
namespace Jvm.Pilot.@@N@@
open Jvm Jvm.ClassFile Sem Op Lib Jvm.Free Jvm.Stand Jvm.Pilot.@@N@@.Jvm.D
/-! MADE BY PROGRAM (witnessworld.py) out of the Statement's table words and the real class files: 11 classes; the members and pool entries that the words name. The judged class is class 1, her method 1. -/
namespace start1
open Jvm.ClassFile
def u (s : String) : CpInfo := .utf8 (stringToUtf16 s)
/-- a pool by its gaps: so many unusable entries, then the entry; so many at the end -/
def gap : Nat → List CpInfo → List CpInfo
  | 0, r => r
  | n + 1, r => .unusable :: gap n r
def poolList (es : List (Nat × CpInfo)) (last : Nat) : List CpInfo := es.foldr (fun e r => gap e.1 (e.2 :: r)) (gap last [])
def pool (es : List (Nat × CpInfo)) (last : Nat) : Array CpInfo := ⟨poolList es last⟩
def fileOf (pool : Array CpInfo) (this : Nat) (attrs : Array Attribute := #[]) (ms : Array MethodInfo := #[]) (fl : Nat := 33) (sup : Nat := 0) (ifs : Array Nat := #[]) (fds : Array FieldInfo := #[]) : ClassFile where
  minorVersion := 0
  majorVersion := 65
  constantPool := pool
  accessFlags := fl
  thisClass := this
  superClass := sup
  interfaces := ifs
  fields := fds
  methods := ms
  attributes := attrs
def plain (name : String) (sup : Option ClassId) : Class where
  name := name
  kind := .ordinary
  loader := none
  accessFlags := 33
  super := sup
  interfaces := #[]
  cf := none
  fields := #[]
  methods := #[]
  instanceTypes := #[]
  staticTypes := #[]
  resolved := #[]
  callSites := []
  init := .initialized
  statics := none
  mirror := none

def pool0 : Array CpInfo := pool [(5, u "<init>"), (0, u "()V"), (1, .class_ 10), (1, u "java/lang/Object")] 113

def k0c0 : Code := { maxStack := 0, maxLocals := 1, code := object_method_1_code, exceptionTable := #[], attributes := #[] }
def k0m0 : Method := { name := "<init>", desc := "()V", sig := { parameters := [], returnType := none }, accessFlags := 1, code := some k0c0 }
/-- java/lang/Object -/
def k0 : Class := { plain "java/lang/Object" none with
  accessFlags := 33
  interfaces := #[]
  cf := some (fileOf pool0 8 #[] #[{ accessFlags := 1, nameIndex := 5, descriptorIndex := 6, attributes := #[] }] 33 0 #[] #[])
  fields := #[]
  methods := #[k0m0]
  instanceTypes := #[]
  staticTypes := #[]
  resolved := Array.replicate 124 none
  statics := none }

def pool1 : Array CpInfo := pool [(2, .class_ 4), (1, u "java/lang/Object"), (0, u "<init>"), (0, u "()V"), (0, .class_ 8), (0, u "MarchBist"), (0, .methodref 7 10), (0, .nameAndType 5 11), (0, u "(III)V"), (0, .methodref 7 13), (0, .nameAndType 14 15), (0, u "inject"), (0, u "(IIII)I"), (0, .methodref 7 17), (0, .nameAndType 18 19), (0, u "loadPreset"), (0, u "(I)Z"), (0, .methodref 7 21), (0, .nameAndType 22 23), (0, u "run"), (0, u "()I"), (0, .methodref 7 25), (0, .nameAndType 26 23), (0, u "failRows"), (0, .methodref 7 28), (0, .nameAndType 29 30), (0, u "logEntry"), (0, u "(I)I"), (0, .methodref 7 32), (0, .nameAndType 33 23), (0, u "repair"), (0, .methodref 7 35), (0, .nameAndType 36 30), (0, u "rowMap"), (0, .methodref 7 38), (0, .nameAndType 39 23), (0, u "latch"), (0, .class_ 41), (0, u "MarchBistL3"), (2, u "law"), (0, u "(II)Z")] 3

def k1m0 : Method := { name := "<init>", desc := "()V", sig := { parameters := [], returnType := none }, accessFlags := 1, code := none }
def k1c1 : Code := { maxStack := 5, maxLocals := 9, code := code, exceptionTable := #[], attributes := #[] }
def k1m1 : Method := { name := "law", desc := "(II)Z", sig := { parameters := [.int, .int], returnType := some .boolean }, accessFlags := 9, code := some k1c1 }
/-- MarchBistL3 -/
def k1 : Class := { plain "MarchBistL3" (some 0) with
  accessFlags := 33
  interfaces := #[]
  cf := some (fileOf pool1 40 #[] #[{ accessFlags := 1, nameIndex := 5, descriptorIndex := 6, attributes := #[] }, { accessFlags := 9, nameIndex := 44, descriptorIndex := 45, attributes := #[] }] 33 2 #[] #[])
  fields := #[]
  methods := #[k1m0, k1m1]
  instanceTypes := #[]
  staticTypes := #[]
  resolved := Array.replicate 49 none
  statics := none }

def pool2 : Array CpInfo := pool [(1, .methodref 2 3), (0, .class_ 4), (0, .nameAndType 5 6), (0, u "java/lang/Object"), (0, u "<init>"), (0, u "()V"), (0, .fieldref 8 9), (0, .class_ 10), (0, .nameAndType 11 12), (0, u "MarchBist"), (0, u "cells"), (0, u "[B"), (0, .fieldref 8 14), (0, .nameAndType 15 16), (0, u "faultKind"), (0, u "[I"), (0, .fieldref 8 18), (0, .nameAndType 19 16), (0, u "faultVictim"), (0, .fieldref 8 21), (0, .nameAndType 22 16), (0, u "faultAggressor"), (0, .fieldref 8 24), (0, .nameAndType 25 16), (0, u "faultTrigger"), (0, .fieldref 8 27), (0, .nameAndType 28 16), (0, u "victimSlot"), (0, .fieldref 8 30), (0, .nameAndType 31 16), (0, u "aggressorUses"), (0, .fieldref 8 33), (0, .nameAndType 34 16), (0, u "elementOrder"), (0, .fieldref 8 36), (0, .nameAndType 37 16), (0, u "elementCount"), (0, .fieldref 8 39), (0, .nameAndType 40 16), (0, u "elementOps"), (0, .fieldref 8 42), (0, .nameAndType 43 16), (0, u "logBuffer"), (0, .fieldref 8 45), (0, .nameAndType 46 16), (0, u "remap"), (0, .fieldref 8 48), (0, .nameAndType 49 50), (0, u "spareTaken"), (0, u "[Z"), (0, .methodref 8 52), (0, .nameAndType 53 54), (0, u "clamp"), (0, u "(III)I"), (0, .fieldref 8 56), (0, .nameAndType 57 58), (0, u "spareRows"), (0, u "I"), (0, .fieldref 8 60), (0, .nameAndType 61 58), (0, u "faultLimit"), (0, .fieldref 8 63), (0, .nameAndType 64 58), (0, u "logLimit"), (0, .fieldref 8 66), (0, .nameAndType 67 58), (0, u "latchBit"), (0, .fieldref 8 69), (0, .nameAndType 70 58), (0, u "faultCount"), (0, .fieldref 8 72), (0, .nameAndType 73 58), (0, u "programLength"), (0, .fieldref 8 75), (0, .nameAndType 76 58), (0, u "logLength"), (0, .fieldref 8 78), (0, .nameAndType 79 58), (0, u "failMask"), (0, .methodref 8 81), (0, .nameAndType 82 83), (0, u "validateFaultArguments"), (0, u "(IIII)I"), (0, .methodref 8 85), (0, .nameAndType 86 54), (0, u "validateFaultRoom"), (0, .methodref 8 88), (0, .nameAndType 89 83), (0, u "appendFault"), (3, u "(I)Z"), (0, .methodref 8 95), (0, .nameAndType 96 93), (0, u "isFaultKind"), (0, .methodref 8 98), (0, .nameAndType 99 93), (0, u "isAddress"), (3, .methodref 8 104), (0, .nameAndType 105 93), (0, u "isVictim"), (0, .methodref 8 107), (0, .nameAndType 108 93), (0, u "isAggressor"), (3, .methodref 8 113), (0, .nameAndType 114 54), (0, u "appendElement"), (0, .methodref 8 116), (0, .nameAndType 117 6), (0, u "clearProgram"), (0, .methodref 8 119), (0, .nameAndType 120 6), (0, u "loadMatsPlus"), (6, .methodref 8 128), (0, .nameAndType 129 93), (0, u "isElementIndex"), (0, .methodref 8 131), (0, .nameAndType 132 133), (0, u "opsMask"), (0, u "(I)I"), (0, .methodref 8 135), (0, .nameAndType 136 137), (0, u "presetElement"), (0, u "(IIIII)V"), (0, .methodref 8 139), (0, .nameAndType 140 6), (0, u "resetResults"), (0, .methodref 8 142), (0, .nameAndType 143 133), (0, u "runElement"), (0, .methodref 8 145), (0, .nameAndType 146 147), (0, u "addressAt"), (0, u "(II)I"), (0, .methodref 8 149), (0, .nameAndType 150 147), (0, u "runOpsAt"), (0, .methodref 8 152), (0, .nameAndType 153 147), (0, u "opAt"), (0, .methodref 8 155), (0, .nameAndType 156 157), (0, u "applyOp"), (0, u "(II)Z"), (0, .methodref 8 159), (0, .nameAndType 160 161), (0, u "recordFailure"), (0, u "(III)V"), (0, .methodref 8 163), (0, .nameAndType 164 165), (0, u "writeRouted"), (0, u "(II)V"), (0, .methodref 8 167), (0, .nameAndType 168 133), (0, u "readRouted"), (0, .methodref 8 170), (0, .nameAndType 171 172), (0, u "countFailingUnmapped"), (0, u "()I"), (0, .methodref 8 174), (0, .nameAndType 175 172), (0, u "countFreeSpares"), (0, .methodref 8 177), (0, .nameAndType 178 93), (0, u "isFailingUnmapped"), (0, .methodref 8 180), (0, .nameAndType 181 172), (0, u "leastFreeSpare"), (0, .methodref 8 183), (0, .nameAndType 184 165), (0, u "assignSpare"), (0, .methodref 8 186), (0, .nameAndType 187 133), (0, u "routedCell"), (0, .methodref 8 189), (0, .nameAndType 190 133), (0, u "readMain"), (0, .methodref 8 192), (0, .nameAndType 193 133), (0, u "victimKind"), (0, .methodref 8 195), (0, .nameAndType 196 165), (0, u "writeMain"), (0, .methodref 8 198), (0, .nameAndType 199 54), (0, u "faultyNewBit"), (14, u "OK"), (2, u "ERR_ADDR"), (1, u "ERR_BIT"), (1, u "ERR_KIND"), (1, u "ERR_SAME"), (1, u "ERR_TRIGGER"), (1, u "ERR_FULL"), (1, u "ERR_BUSY"), (1, u "ERR_ORDER"), (1, u "ERR_COUNT"), (1, u "ERR_EMPTY"), (1, u "ERR_NOSPARE"), (1, u "FAULT_SA0"), (1, u "FAULT_SA1"), (1, u "FAULT_TF_UP"), (1, u "FAULT_TF_DOWN"), (1, u "FAULT_SOF"), (1, u "FAULT_CFID"), (1, u "TRIG_UP_0"), (0, u "TRIG_UP_1"), (0, u "TRIG_DOWN_0"), (0, u "TRIG_DOWN_1"), (0, u "ORDER_UP"), (0, u "ORDER_DOWN"), (0, u "OP_R0"), (0, u "OP_R1"), (0, u "OP_W0"), (0, u "OP_W1"), (0, u "PRESET_EMPTY"), (0, u "PRESET_MATS_PLUS"), (0, u "PRESET_MARCH_C_MINUS"), (0, u "PRESET_MARCH_CRB"), (3, u "inject"), (3, u "loadPreset"), (1, u "run"), (0, u "failRows"), (0, u "logEntry"), (0, u "repair"), (0, u "rowMap"), (3, u "latch")] 2

def k2c0 : Code := { maxStack := 5, maxLocals := 5, code := prog_1_method_1_code, exceptionTable := #[], attributes := #[] }
def k2m0 : Method := { name := "<init>", desc := "(III)V", sig := { parameters := [.int, .int, .int], returnType := none }, accessFlags := 1, code := some k2c0 }
def k2c1 : Code := { maxStack := 5, maxLocals := 6, code := prog_1_method_2_code, exceptionTable := #[], attributes := #[] }
def k2m1 : Method := { name := "inject", desc := "(IIII)I", sig := { parameters := [.int, .int, .int, .int], returnType := some .int }, accessFlags := 1, code := some k2c1 }
def k2c2 : Code := { maxStack := 2, maxLocals := 5, code := prog_1_method_5_code, exceptionTable := #[], attributes := #[] }
def k2m2 : Method := { name := "validateFaultArguments", desc := "(IIII)I", sig := { parameters := [.int, .int, .int, .int], returnType := some .int }, accessFlags := 2, code := some k2c2 }
def k2c3 : Code := { maxStack := 2, maxLocals := 4, code := prog_1_method_6_code, exceptionTable := #[], attributes := #[] }
def k2m3 : Method := { name := "validateFaultRoom", desc := "(III)I", sig := { parameters := [.int, .int, .int], returnType := some .int }, accessFlags := 2, code := some k2c3 }
def k2c4 : Code := { maxStack := 4, maxLocals := 6, code := prog_1_method_7_code, exceptionTable := #[], attributes := #[] }
def k2m4 : Method := { name := "appendFault", desc := "(IIII)I", sig := { parameters := [.int, .int, .int, .int], returnType := some .int }, accessFlags := 2, code := some k2c4 }
def k2c5 : Code := { maxStack := 2, maxLocals := 2, code := prog_1_method_8_code, exceptionTable := #[], attributes := #[] }
def k2m5 : Method := { name := "isFaultKind", desc := "(I)Z", sig := { parameters := [.int], returnType := some .boolean }, accessFlags := 2, code := some k2c5 }
def k2c6 : Code := { maxStack := 2, maxLocals := 2, code := prog_1_method_11_code, exceptionTable := #[], attributes := #[] }
def k2m6 : Method := { name := "isVictim", desc := "(I)Z", sig := { parameters := [.int], returnType := some .boolean }, accessFlags := 2, code := some k2c6 }
def k2c7 : Code := { maxStack := 2, maxLocals := 2, code := prog_1_method_12_code, exceptionTable := #[], attributes := #[] }
def k2m7 : Method := { name := "isAggressor", desc := "(I)Z", sig := { parameters := [.int], returnType := some .boolean }, accessFlags := 2, code := some k2c7 }
def k2c8 : Code := { maxStack := 3, maxLocals := 3, code := prog_1_method_13_code, exceptionTable := #[], attributes := #[] }
def k2m8 : Method := { name := "victimKind", desc := "(I)I", sig := { parameters := [.int], returnType := some .int }, accessFlags := 2, code := some k2c8 }
def k2c9 : Code := { maxStack := 2, maxLocals := 2, code := prog_1_method_15_code, exceptionTable := #[], attributes := #[] }
def k2m9 : Method := { name := "loadPreset", desc := "(I)Z", sig := { parameters := [.int], returnType := some .boolean }, accessFlags := 1, code := some k2c9 }
def k2c10 : Code := { maxStack := 5, maxLocals := 5, code := prog_1_method_17_code, exceptionTable := #[], attributes := #[] }
def k2m10 : Method := { name := "appendElement", desc := "(III)I", sig := { parameters := [.int, .int, .int], returnType := some .int }, accessFlags := 2, code := some k2c10 }
def k2c11 : Code := { maxStack := 3, maxLocals := 2, code := prog_1_method_18_code, exceptionTable := #[], attributes := #[] }
def k2m11 : Method := { name := "clearProgram", desc := "()V", sig := { parameters := [], returnType := none }, accessFlags := 2, code := some k2c11 }
def k2c12 : Code := { maxStack := 4, maxLocals := 7, code := prog_1_method_19_code, exceptionTable := #[], attributes := #[] }
def k2m12 : Method := { name := "presetElement", desc := "(IIIII)V", sig := { parameters := [.int, .int, .int, .int, .int], returnType := none }, accessFlags := 2, code := some k2c12 }
def k2c13 : Code := { maxStack := 6, maxLocals := 1, code := prog_1_method_20_code, exceptionTable := #[], attributes := #[] }
def k2m13 : Method := { name := "loadMatsPlus", desc := "()V", sig := { parameters := [], returnType := none }, accessFlags := 2, code := some k2c13 }
def k2c14 : Code := { maxStack := 2, maxLocals := 2, code := prog_1_method_24_code, exceptionTable := #[], attributes := #[] }
def k2m14 : Method := { name := "isElementIndex", desc := "(I)Z", sig := { parameters := [.int], returnType := some .boolean }, accessFlags := 2, code := some k2c14 }
def k2c15 : Code := { maxStack := 3, maxLocals := 2, code := prog_1_method_25_code, exceptionTable := #[], attributes := #[] }
def k2m15 : Method := { name := "opsMask", desc := "(I)I", sig := { parameters := [.int], returnType := some .int }, accessFlags := 2, code := some k2c15 }
def k2c16 : Code := { maxStack := 3, maxLocals := 3, code := prog_1_method_26_code, exceptionTable := #[], attributes := #[] }
def k2m16 : Method := { name := "opAt", desc := "(II)I", sig := { parameters := [.int, .int], returnType := some .int }, accessFlags := 2, code := some k2c16 }
def k2c17 : Code := { maxStack := 2, maxLocals := 3, code := prog_1_method_27_code, exceptionTable := #[], attributes := #[] }
def k2m17 : Method := { name := "addressAt", desc := "(II)I", sig := { parameters := [.int, .int], returnType := some .int }, accessFlags := 2, code := some k2c17 }
def k2c18 : Code := { maxStack := 3, maxLocals := 3, code := prog_1_method_28_code, exceptionTable := #[], attributes := #[] }
def k2m18 : Method := { name := "run", desc := "()I", sig := { parameters := [], returnType := some .int }, accessFlags := 1, code := some k2c18 }
def k2c19 : Code := { maxStack := 1, maxLocals := 1, code := prog_1_method_29_code, exceptionTable := #[], attributes := #[] }
def k2m19 : Method := { name := "failRows", desc := "()I", sig := { parameters := [], returnType := some .int }, accessFlags := 1, code := some k2c19 }
def k2c20 : Code := { maxStack := 2, maxLocals := 2, code := prog_1_method_30_code, exceptionTable := #[], attributes := #[] }
def k2m20 : Method := { name := "logEntry", desc := "(I)I", sig := { parameters := [.int], returnType := some .int }, accessFlags := 1, code := some k2c20 }
def k2c21 : Code := { maxStack := 3, maxLocals := 2, code := prog_1_method_31_code, exceptionTable := #[], attributes := #[] }
def k2m21 : Method := { name := "resetResults", desc := "()V", sig := { parameters := [], returnType := none }, accessFlags := 2, code := some k2c21 }
def k2c22 : Code := { maxStack := 4, maxLocals := 6, code := prog_1_method_32_code, exceptionTable := #[], attributes := #[] }
def k2m22 : Method := { name := "runElement", desc := "(I)I", sig := { parameters := [.int], returnType := some .int }, accessFlags := 2, code := some k2c22 }
def k2c23 : Code := { maxStack := 4, maxLocals := 7, code := prog_1_method_33_code, exceptionTable := #[], attributes := #[] }
def k2m23 : Method := { name := "runOpsAt", desc := "(II)I", sig := { parameters := [.int, .int], returnType := some .int }, accessFlags := 2, code := some k2c23 }
def k2c24 : Code := { maxStack := 3, maxLocals := 5, code := prog_1_method_34_code, exceptionTable := #[], attributes := #[] }
def k2m24 : Method := { name := "applyOp", desc := "(II)Z", sig := { parameters := [.int, .int], returnType := some .boolean }, accessFlags := 2, code := some k2c24 }
def k2c25 : Code := { maxStack := 5, maxLocals := 5, code := prog_1_method_35_code, exceptionTable := #[], attributes := #[] }
def k2m25 : Method := { name := "recordFailure", desc := "(III)V", sig := { parameters := [.int, .int, .int], returnType := none }, accessFlags := 2, code := some k2c25 }
def k2c26 : Code := { maxStack := 3, maxLocals := 5, code := prog_1_method_36_code, exceptionTable := #[], attributes := #[] }
def k2m26 : Method := { name := "repair", desc := "()I", sig := { parameters := [], returnType := some .int }, accessFlags := 1, code := some k2c26 }
def k2c27 : Code := { maxStack := 2, maxLocals := 2, code := prog_1_method_37_code, exceptionTable := #[], attributes := #[] }
def k2m27 : Method := { name := "rowMap", desc := "(I)I", sig := { parameters := [.int], returnType := some .int }, accessFlags := 1, code := some k2c27 }
def k2c28 : Code := { maxStack := 2, maxLocals := 2, code := prog_1_method_38_code, exceptionTable := #[], attributes := #[] }
def k2m28 : Method := { name := "isFailingUnmapped", desc := "(I)Z", sig := { parameters := [.int], returnType := some .boolean }, accessFlags := 2, code := some k2c28 }
def k2c29 : Code := { maxStack := 2, maxLocals := 3, code := prog_1_method_39_code, exceptionTable := #[], attributes := #[] }
def k2m29 : Method := { name := "countFailingUnmapped", desc := "()I", sig := { parameters := [], returnType := some .int }, accessFlags := 2, code := some k2c29 }
def k2c30 : Code := { maxStack := 2, maxLocals := 3, code := prog_1_method_40_code, exceptionTable := #[], attributes := #[] }
def k2m30 : Method := { name := "countFreeSpares", desc := "()I", sig := { parameters := [], returnType := some .int }, accessFlags := 2, code := some k2c30 }
def k2c31 : Code := { maxStack := 2, maxLocals := 2, code := prog_1_method_41_code, exceptionTable := #[], attributes := #[] }
def k2m31 : Method := { name := "leastFreeSpare", desc := "()I", sig := { parameters := [], returnType := some .int }, accessFlags := 2, code := some k2c31 }
def k2c32 : Code := { maxStack := 3, maxLocals := 5, code := prog_1_method_42_code, exceptionTable := #[], attributes := #[] }
def k2m32 : Method := { name := "assignSpare", desc := "(II)V", sig := { parameters := [.int, .int], returnType := none }, accessFlags := 2, code := some k2c32 }
def k2c33 : Code := { maxStack := 1, maxLocals := 1, code := prog_1_method_46_code, exceptionTable := #[], attributes := #[] }
def k2m33 : Method := { name := "latch", desc := "()I", sig := { parameters := [], returnType := some .int }, accessFlags := 1, code := some k2c33 }
def k2c34 : Code := { maxStack := 2, maxLocals := 2, code := prog_1_method_47_code, exceptionTable := #[], attributes := #[] }
def k2m34 : Method := { name := "isAddress", desc := "(I)Z", sig := { parameters := [.int], returnType := some .boolean }, accessFlags := 2, code := some k2c34 }
def k2c35 : Code := { maxStack := 3, maxLocals := 4, code := prog_1_method_48_code, exceptionTable := #[], attributes := #[] }
def k2m35 : Method := { name := "routedCell", desc := "(I)I", sig := { parameters := [.int], returnType := some .int }, accessFlags := 2, code := some k2c35 }
def k2c36 : Code := { maxStack := 3, maxLocals := 4, code := prog_1_method_49_code, exceptionTable := #[], attributes := #[] }
def k2m36 : Method := { name := "readRouted", desc := "(I)I", sig := { parameters := [.int], returnType := some .int }, accessFlags := 2, code := some k2c36 }
def k2c37 : Code := { maxStack := 2, maxLocals := 3, code := prog_1_method_50_code, exceptionTable := #[], attributes := #[] }
def k2m37 : Method := { name := "readMain", desc := "(I)I", sig := { parameters := [.int], returnType := some .int }, accessFlags := 2, code := some k2c37 }
def k2c38 : Code := { maxStack := 4, maxLocals := 4, code := prog_1_method_51_code, exceptionTable := #[], attributes := #[] }
def k2m38 : Method := { name := "writeRouted", desc := "(II)V", sig := { parameters := [.int, .int], returnType := none }, accessFlags := 2, code := some k2c38 }
def k2c39 : Code := { maxStack := 4, maxLocals := 5, code := prog_1_method_52_code, exceptionTable := #[], attributes := #[] }
def k2m39 : Method := { name := "writeMain", desc := "(II)V", sig := { parameters := [.int, .int], returnType := none }, accessFlags := 2, code := some k2c39 }
def k2c40 : Code := { maxStack := 2, maxLocals := 5, code := prog_1_method_53_code, exceptionTable := #[], attributes := #[] }
def k2m40 : Method := { name := "faultyNewBit", desc := "(III)I", sig := { parameters := [.int, .int, .int], returnType := some .int }, accessFlags := 2, code := some k2c40 }
def k2c41 : Code := { maxStack := 2, maxLocals := 4, code := prog_1_method_58_code, exceptionTable := #[], attributes := #[] }
def k2m41 : Method := { name := "clamp", desc := "(III)I", sig := { parameters := [.int, .int, .int], returnType := some .int }, accessFlags := 2, code := some k2c41 }
/-- MarchBist -/
def k2 : Class := { plain "MarchBist" (some 0) with
  accessFlags := 49
  interfaces := #[]
  cf := some (fileOf pool2 8 #[] #[{ accessFlags := 1, nameIndex := 5, descriptorIndex := 161, attributes := #[] }, { accessFlags := 1, nameIndex := 268, descriptorIndex := 83, attributes := #[] }, { accessFlags := 2, nameIndex := 82, descriptorIndex := 83, attributes := #[] }, { accessFlags := 2, nameIndex := 86, descriptorIndex := 54, attributes := #[] }, { accessFlags := 2, nameIndex := 89, descriptorIndex := 83, attributes := #[] }, { accessFlags := 2, nameIndex := 96, descriptorIndex := 93, attributes := #[] }, { accessFlags := 2, nameIndex := 105, descriptorIndex := 93, attributes := #[] }, { accessFlags := 2, nameIndex := 108, descriptorIndex := 93, attributes := #[] }, { accessFlags := 2, nameIndex := 193, descriptorIndex := 133, attributes := #[] }, { accessFlags := 1, nameIndex := 272, descriptorIndex := 93, attributes := #[] }, { accessFlags := 2, nameIndex := 114, descriptorIndex := 54, attributes := #[] }, { accessFlags := 2, nameIndex := 117, descriptorIndex := 6, attributes := #[] }, { accessFlags := 2, nameIndex := 136, descriptorIndex := 137, attributes := #[] }, { accessFlags := 2, nameIndex := 120, descriptorIndex := 6, attributes := #[] }, { accessFlags := 2, nameIndex := 129, descriptorIndex := 93, attributes := #[] }, { accessFlags := 2, nameIndex := 132, descriptorIndex := 133, attributes := #[] }, { accessFlags := 2, nameIndex := 153, descriptorIndex := 147, attributes := #[] }, { accessFlags := 2, nameIndex := 146, descriptorIndex := 147, attributes := #[] }, { accessFlags := 1, nameIndex := 274, descriptorIndex := 172, attributes := #[] }, { accessFlags := 1, nameIndex := 275, descriptorIndex := 172, attributes := #[] }, { accessFlags := 1, nameIndex := 276, descriptorIndex := 133, attributes := #[] }, { accessFlags := 2, nameIndex := 140, descriptorIndex := 6, attributes := #[] }, { accessFlags := 2, nameIndex := 143, descriptorIndex := 133, attributes := #[] }, { accessFlags := 2, nameIndex := 150, descriptorIndex := 147, attributes := #[] }, { accessFlags := 2, nameIndex := 156, descriptorIndex := 157, attributes := #[] }, { accessFlags := 2, nameIndex := 160, descriptorIndex := 161, attributes := #[] }, { accessFlags := 1, nameIndex := 277, descriptorIndex := 172, attributes := #[] }, { accessFlags := 1, nameIndex := 278, descriptorIndex := 133, attributes := #[] }, { accessFlags := 2, nameIndex := 178, descriptorIndex := 93, attributes := #[] }, { accessFlags := 2, nameIndex := 171, descriptorIndex := 172, attributes := #[] }, { accessFlags := 2, nameIndex := 175, descriptorIndex := 172, attributes := #[] }, { accessFlags := 2, nameIndex := 181, descriptorIndex := 172, attributes := #[] }, { accessFlags := 2, nameIndex := 184, descriptorIndex := 165, attributes := #[] }, { accessFlags := 1, nameIndex := 282, descriptorIndex := 172, attributes := #[] }, { accessFlags := 2, nameIndex := 99, descriptorIndex := 93, attributes := #[] }, { accessFlags := 2, nameIndex := 187, descriptorIndex := 133, attributes := #[] }, { accessFlags := 2, nameIndex := 168, descriptorIndex := 133, attributes := #[] }, { accessFlags := 2, nameIndex := 190, descriptorIndex := 133, attributes := #[] }, { accessFlags := 2, nameIndex := 164, descriptorIndex := 165, attributes := #[] }, { accessFlags := 2, nameIndex := 196, descriptorIndex := 165, attributes := #[] }, { accessFlags := 2, nameIndex := 199, descriptorIndex := 54, attributes := #[] }, { accessFlags := 2, nameIndex := 53, descriptorIndex := 54, attributes := #[] }] 49 2 #[] #[{ accessFlags := 25, nameIndex := 214, descriptorIndex := 58, attributes := #[] }, { accessFlags := 25, nameIndex := 217, descriptorIndex := 58, attributes := #[] }, { accessFlags := 25, nameIndex := 219, descriptorIndex := 58, attributes := #[] }, { accessFlags := 25, nameIndex := 221, descriptorIndex := 58, attributes := #[] }, { accessFlags := 25, nameIndex := 223, descriptorIndex := 58, attributes := #[] }, { accessFlags := 25, nameIndex := 225, descriptorIndex := 58, attributes := #[] }, { accessFlags := 25, nameIndex := 227, descriptorIndex := 58, attributes := #[] }, { accessFlags := 25, nameIndex := 229, descriptorIndex := 58, attributes := #[] }, { accessFlags := 25, nameIndex := 231, descriptorIndex := 58, attributes := #[] }, { accessFlags := 25, nameIndex := 233, descriptorIndex := 58, attributes := #[] }, { accessFlags := 25, nameIndex := 235, descriptorIndex := 58, attributes := #[] }, { accessFlags := 25, nameIndex := 237, descriptorIndex := 58, attributes := #[] }, { accessFlags := 25, nameIndex := 239, descriptorIndex := 58, attributes := #[] }, { accessFlags := 25, nameIndex := 241, descriptorIndex := 58, attributes := #[] }, { accessFlags := 25, nameIndex := 243, descriptorIndex := 58, attributes := #[] }, { accessFlags := 25, nameIndex := 245, descriptorIndex := 58, attributes := #[] }, { accessFlags := 25, nameIndex := 247, descriptorIndex := 58, attributes := #[] }, { accessFlags := 25, nameIndex := 249, descriptorIndex := 58, attributes := #[] }, { accessFlags := 25, nameIndex := 251, descriptorIndex := 58, attributes := #[] }, { accessFlags := 25, nameIndex := 252, descriptorIndex := 58, attributes := #[] }, { accessFlags := 25, nameIndex := 253, descriptorIndex := 58, attributes := #[] }, { accessFlags := 25, nameIndex := 254, descriptorIndex := 58, attributes := #[] }, { accessFlags := 25, nameIndex := 255, descriptorIndex := 58, attributes := #[] }, { accessFlags := 25, nameIndex := 256, descriptorIndex := 58, attributes := #[] }, { accessFlags := 25, nameIndex := 257, descriptorIndex := 58, attributes := #[] }, { accessFlags := 25, nameIndex := 258, descriptorIndex := 58, attributes := #[] }, { accessFlags := 25, nameIndex := 259, descriptorIndex := 58, attributes := #[] }, { accessFlags := 25, nameIndex := 260, descriptorIndex := 58, attributes := #[] }, { accessFlags := 25, nameIndex := 261, descriptorIndex := 58, attributes := #[] }, { accessFlags := 25, nameIndex := 262, descriptorIndex := 58, attributes := #[] }, { accessFlags := 25, nameIndex := 263, descriptorIndex := 58, attributes := #[] }, { accessFlags := 25, nameIndex := 264, descriptorIndex := 58, attributes := #[] }, { accessFlags := 2, nameIndex := 57, descriptorIndex := 58, attributes := #[] }, { accessFlags := 2, nameIndex := 61, descriptorIndex := 58, attributes := #[] }, { accessFlags := 2, nameIndex := 64, descriptorIndex := 58, attributes := #[] }, { accessFlags := 2, nameIndex := 11, descriptorIndex := 12, attributes := #[] }, { accessFlags := 2, nameIndex := 67, descriptorIndex := 58, attributes := #[] }, { accessFlags := 2, nameIndex := 70, descriptorIndex := 58, attributes := #[] }, { accessFlags := 2, nameIndex := 15, descriptorIndex := 16, attributes := #[] }, { accessFlags := 2, nameIndex := 19, descriptorIndex := 16, attributes := #[] }, { accessFlags := 2, nameIndex := 22, descriptorIndex := 16, attributes := #[] }, { accessFlags := 2, nameIndex := 25, descriptorIndex := 16, attributes := #[] }, { accessFlags := 2, nameIndex := 28, descriptorIndex := 16, attributes := #[] }, { accessFlags := 2, nameIndex := 31, descriptorIndex := 16, attributes := #[] }, { accessFlags := 2, nameIndex := 73, descriptorIndex := 58, attributes := #[] }, { accessFlags := 2, nameIndex := 34, descriptorIndex := 16, attributes := #[] }, { accessFlags := 2, nameIndex := 37, descriptorIndex := 16, attributes := #[] }, { accessFlags := 2, nameIndex := 40, descriptorIndex := 16, attributes := #[] }, { accessFlags := 2, nameIndex := 76, descriptorIndex := 58, attributes := #[] }, { accessFlags := 2, nameIndex := 43, descriptorIndex := 16, attributes := #[] }, { accessFlags := 2, nameIndex := 79, descriptorIndex := 58, attributes := #[] }, { accessFlags := 2, nameIndex := 46, descriptorIndex := 16, attributes := #[] }, { accessFlags := 2, nameIndex := 49, descriptorIndex := 50, attributes := #[] }])
  fields := #[{ name := "OK", type := .int, accessFlags := 25, slot := 0, constantValue := 0 }, { name := "ERR_ADDR", type := .int, accessFlags := 25, slot := 1, constantValue := 0 }, { name := "ERR_BIT", type := .int, accessFlags := 25, slot := 2, constantValue := 0 }, { name := "ERR_KIND", type := .int, accessFlags := 25, slot := 3, constantValue := 0 }, { name := "ERR_SAME", type := .int, accessFlags := 25, slot := 4, constantValue := 0 }, { name := "ERR_TRIGGER", type := .int, accessFlags := 25, slot := 5, constantValue := 0 }, { name := "ERR_FULL", type := .int, accessFlags := 25, slot := 6, constantValue := 0 }, { name := "ERR_BUSY", type := .int, accessFlags := 25, slot := 7, constantValue := 0 }, { name := "ERR_ORDER", type := .int, accessFlags := 25, slot := 8, constantValue := 0 }, { name := "ERR_COUNT", type := .int, accessFlags := 25, slot := 9, constantValue := 0 }, { name := "ERR_EMPTY", type := .int, accessFlags := 25, slot := 10, constantValue := 0 }, { name := "ERR_NOSPARE", type := .int, accessFlags := 25, slot := 11, constantValue := 0 }, { name := "FAULT_SA0", type := .int, accessFlags := 25, slot := 12, constantValue := 0 }, { name := "FAULT_SA1", type := .int, accessFlags := 25, slot := 13, constantValue := 0 }, { name := "FAULT_TF_UP", type := .int, accessFlags := 25, slot := 14, constantValue := 0 }, { name := "FAULT_TF_DOWN", type := .int, accessFlags := 25, slot := 15, constantValue := 0 }, { name := "FAULT_SOF", type := .int, accessFlags := 25, slot := 16, constantValue := 0 }, { name := "FAULT_CFID", type := .int, accessFlags := 25, slot := 17, constantValue := 0 }, { name := "TRIG_UP_0", type := .int, accessFlags := 25, slot := 18, constantValue := 0 }, { name := "TRIG_UP_1", type := .int, accessFlags := 25, slot := 19, constantValue := 0 }, { name := "TRIG_DOWN_0", type := .int, accessFlags := 25, slot := 20, constantValue := 0 }, { name := "TRIG_DOWN_1", type := .int, accessFlags := 25, slot := 21, constantValue := 0 }, { name := "ORDER_UP", type := .int, accessFlags := 25, slot := 22, constantValue := 0 }, { name := "ORDER_DOWN", type := .int, accessFlags := 25, slot := 23, constantValue := 0 }, { name := "OP_R0", type := .int, accessFlags := 25, slot := 24, constantValue := 0 }, { name := "OP_R1", type := .int, accessFlags := 25, slot := 25, constantValue := 0 }, { name := "OP_W0", type := .int, accessFlags := 25, slot := 26, constantValue := 0 }, { name := "OP_W1", type := .int, accessFlags := 25, slot := 27, constantValue := 0 }, { name := "PRESET_EMPTY", type := .int, accessFlags := 25, slot := 28, constantValue := 0 }, { name := "PRESET_MATS_PLUS", type := .int, accessFlags := 25, slot := 29, constantValue := 0 }, { name := "PRESET_MARCH_C_MINUS", type := .int, accessFlags := 25, slot := 30, constantValue := 0 }, { name := "PRESET_MARCH_CRB", type := .int, accessFlags := 25, slot := 31, constantValue := 0 }, { name := "spareRows", type := .int, accessFlags := 2, slot := 0, constantValue := 0 }, { name := "faultLimit", type := .int, accessFlags := 2, slot := 1, constantValue := 0 }, { name := "logLimit", type := .int, accessFlags := 2, slot := 2, constantValue := 0 }, { name := "cells", type := (.array .byte), accessFlags := 2, slot := 3, constantValue := 0 }, { name := "latchBit", type := .int, accessFlags := 2, slot := 4, constantValue := 0 }, { name := "faultCount", type := .int, accessFlags := 2, slot := 5, constantValue := 0 }, { name := "faultKind", type := (.array .int), accessFlags := 2, slot := 6, constantValue := 0 }, { name := "faultVictim", type := (.array .int), accessFlags := 2, slot := 7, constantValue := 0 }, { name := "faultAggressor", type := (.array .int), accessFlags := 2, slot := 8, constantValue := 0 }, { name := "faultTrigger", type := (.array .int), accessFlags := 2, slot := 9, constantValue := 0 }, { name := "victimSlot", type := (.array .int), accessFlags := 2, slot := 10, constantValue := 0 }, { name := "aggressorUses", type := (.array .int), accessFlags := 2, slot := 11, constantValue := 0 }, { name := "programLength", type := .int, accessFlags := 2, slot := 12, constantValue := 0 }, { name := "elementOrder", type := (.array .int), accessFlags := 2, slot := 13, constantValue := 0 }, { name := "elementCount", type := (.array .int), accessFlags := 2, slot := 14, constantValue := 0 }, { name := "elementOps", type := (.array .int), accessFlags := 2, slot := 15, constantValue := 0 }, { name := "logLength", type := .int, accessFlags := 2, slot := 16, constantValue := 0 }, { name := "logBuffer", type := (.array .int), accessFlags := 2, slot := 17, constantValue := 0 }, { name := "failMask", type := .int, accessFlags := 2, slot := 18, constantValue := 0 }, { name := "remap", type := (.array .int), accessFlags := 2, slot := 19, constantValue := 0 }, { name := "spareTaken", type := (.array .boolean), accessFlags := 2, slot := 20, constantValue := 0 }]
  methods := #[k2m0, k2m1, k2m2, k2m3, k2m4, k2m5, k2m6, k2m7, k2m8, k2m9, k2m10, k2m11, k2m12, k2m13, k2m14, k2m15, k2m16, k2m17, k2m18, k2m19, k2m20, k2m21, k2m22, k2m23, k2m24, k2m25, k2m26, k2m27, k2m28, k2m29, k2m30, k2m31, k2m32, k2m33, k2m34, k2m35, k2m36, k2m37, k2m38, k2m39, k2m40, k2m41]
  instanceTypes := #[.int, .int, .int, (.array .byte), .int, .int, (.array .int), (.array .int), (.array .int), (.array .int), (.array .int), (.array .int), .int, (.array .int), (.array .int), (.array .int), .int, (.array .int), .int, (.array .int), (.array .boolean)]
  staticTypes := #[.int, .int, .int, .int, .int, .int, .int, .int, .int, .int, .int, .int, .int, .int, .int, .int, .int, .int, .int, .int, .int, .int, .int, .int, .int, .int, .int, .int, .int, .int, .int, .int]
  resolved := Array.replicate 285 none
  statics := none }

def pool3 : Array CpInfo := pool [(1, u "java/lang/Cloneable"), (0, .class_ 1), (0, u "java/lang/Object"), (0, .class_ 3)] 3

/-- java/lang/Cloneable -/
def k3 : Class := { plain "java/lang/Cloneable" (some 0) with
  accessFlags := 1537
  interfaces := #[]
  cf := some (fileOf pool3 2 #[] #[] 1537 4 #[] #[])
  fields := #[]
  methods := #[]
  instanceTypes := #[]
  staticTypes := #[]
  resolved := Array.replicate 8 none
  statics := none }

def pool4 : Array CpInfo := pool [(1, u "java/io/Serializable"), (0, .class_ 1), (0, u "java/lang/Object"), (0, .class_ 3)] 3

/-- java/io/Serializable -/
def k4 : Class := { plain "java/io/Serializable" (some 0) with
  accessFlags := 1537
  interfaces := #[]
  cf := some (fileOf pool4 2 #[] #[] 1537 4 #[] #[])
  fields := #[]
  methods := #[]
  instanceTypes := #[]
  staticTypes := #[]
  resolved := Array.replicate 8 none
  statics := none }

/-- the primitive boolean -/
def k5 : Class := { plain "boolean" none with kind := .primitive 'Z', accessFlags := 0x411 }
/-- [Z -/
def k6 : Class := { plain "[Z" (some 0) with kind := .array 5 .boolean, interfaces := #[3, 4], accessFlags := 1041 }

/-- the primitive byte -/
def k7 : Class := { plain "byte" none with kind := .primitive 'B', accessFlags := 0x411 }
/-- [B -/
def k8 : Class := { plain "[B" (some 0) with kind := .array 7 .byte, interfaces := #[3, 4], accessFlags := 1041 }

/-- the primitive int -/
def k9 : Class := { plain "int" none with kind := .primitive 'I', accessFlags := 0x411 }
/-- [I -/
def k10 : Class := { plain "[I" (some 0) with kind := .array 9 .int, interfaces := #[3, 4], accessFlags := 1041 }

def heap : Heap := #[]
def classes : Array Class := #[k0, k1, k2, k3, k4, k5, k6, k7, k8, k9, k10]
def interned : List (Array UInt16 × Addr) := []
def slotsUsed : Nat := 0
def theMethod : MethodId := ⟨1, 1⟩
def args0 : Array Value := #[.int 1, .int 1]
def aboutOver (below : List Frame) : State where
  vm := { classes := classes, interned := interned.toArray }
  heap := heap
  slotsUsed := slotsUsed
  threads := #[{ frames := .invoking theMethod args0 :: below }]
def below0 : List Frame := [.native { method := ⟨0, 0⟩, args := #[] }]
def about1 : State := aboutOver below0
def p0 : Program := .bare "" "" ""
def e0 : Env := launch0.env 0 0 0
theorem w_frames : about1.frames = Frame.invoking theMethod args0 :: below0 := rfl
set_option maxRecDepth 65536 in
theorem w_args : argsFit about1.vm theMethod args0 = true := by decide +kernel
set_option maxRecDepth 65536 in
theorem w_heap : heapFits about1 = true := by decide +kernel
set_option maxRecDepth 65536 in
theorem w_runnable : about1.curStatus? = some .runnable := by decide +kernel
set_option maxRecDepth 65536 in
theorem w_alone : about1.alone = true := by decide +kernel
set_option maxRecDepth 65536 in
theorem w_named : about1.methodNamed? x = some theMethod := by decide +kernel
set_option maxRecDepth 65536 in
theorem w_hears : about1.hears theMethod below0 = true := by decide +kernel
set_option maxRecDepth 65536 in
theorem w_ripe : about1.ripe theMethod args0 below0 = true := by decide +kernel
theorem w_running : about1.status = .running := rfl
set_option maxRecDepth 65536 in
theorem w_room : about1.hasRoom e0.platform room_1 = true :=
  launch0.hasRoom_least _ room_1 (by decide +kernel) (by decide +kernel) (by decide +kernel) (by decide +kernel) (by decide +kernel) (by decide +kernel)
theorem allAtoms_all (ts : List Jvm.Cond) (a : Array Jvm.Value) (st : Jvm.State) : (allAtoms ts).before a st = ts.all (fun c => c.before a st) := by
  induction ts with
  | nil => rfl
  | cons c t ih =>
    show (Jvm.Cond.and c (allAtoms t)).before a st = _
    rw [Jvm.Cond.before_and, ih, List.all_cons]
def words1 : List Jvm.Cond := Jvm.Cond.code x code maxLocals ret :: tables_1
/-- a 'code' word, met by the world's own term for the bytes: nothing is compared byte by byte -/
theorem code_word {y : MethodName} {bytes : ByteArray} {mx : Nat} {rt : Option FieldType} {a : Array Value} {s : State} {m : MethodId} {meth : Method} {c : Code} (h1 : s.methodNamed? y = some m) (h2 : s.vm.method? m = some meth) (h3 : meth.code = some c) (h4 : c.code = bytes)
    (h5 : (c.maxLocals == mx && c.exceptionTable.isEmpty && decide (c.maxStack ≤ mostOperands) && decide (meth.sig.returnType = rt) && !meth.locks && decide (parseMethodDescriptor y.desc = some meth.sig)) = true) : (Jvm.Cond.code y bytes mx rt).before a s = true := by
  simp only [Bool.and_eq_true, beq_iff_eq, Bool.not_eq_true', decide_eq_true_eq] at h5
  obtain ⟨⟨⟨⟨⟨g1, g2⟩, g3⟩, g4⟩, g5⟩, g6⟩ := h5
  simp [Cond.before, Cond.holds, Cond.value, h1, h2, h3, h4, g1, g2, g3, g4, g5, g6]
def isCode : Jvm.Cond → Bool
  | .code _ _ _ _ => true
  | _ => false
theorem all_split {L : List Jvm.Cond} {P : Jvm.Cond → Bool} (h1 : L.all (fun c => isCode c || P c) = true) (h2 : ∀ c ∈ L.filter isCode, P c = true) : L.all P = true := by
  refine List.all_eq_true.mpr fun c hc => ?_
  have h := List.all_eq_true.mp h1 c hc
  rcases Bool.eq_false_or_eq_true (isCode c) with hi | hi
  · exact h2 c (List.mem_filter.mpr ⟨hc, hi⟩)
  · simpa [hi] using h
set_option maxRecDepth 65536 in
theorem w_c0 : (Jvm.Cond.code x code maxLocals ret).before args0 about1 = true := code_word (m := ⟨1, 1⟩) (meth := k1m1) (c := k1c1) (by decide +kernel) rfl rfl rfl (by decide +kernel)
set_option maxRecDepth 65536 in
theorem w_c1 : (Jvm.Cond.code ({ cls := "MarchBist", name := "<init>", desc := "(III)V" } : Jvm.MethodName) prog_1_method_1_code (5 : Nat) (Option.none : Option Jvm.ClassFile.FieldType)).before args0 about1 = true := code_word (m := ⟨2, 0⟩) (meth := k2m0) (c := k2c0) (by decide +kernel) rfl rfl rfl (by decide +kernel)
set_option maxRecDepth 65536 in
theorem w_c2 : (Jvm.Cond.code ({ cls := "java/lang/Object", name := "<init>", desc := "()V" } : Jvm.MethodName) object_method_1_code (1 : Nat) (Option.none : Option Jvm.ClassFile.FieldType)).before args0 about1 = true := code_word (m := ⟨0, 0⟩) (meth := k0m0) (c := k0c0) (by decide +kernel) rfl rfl rfl (by decide +kernel)
set_option maxRecDepth 65536 in
theorem w_c3 : (Jvm.Cond.code ({ cls := "MarchBist", name := "clamp", desc := "(III)I" } : Jvm.MethodName) prog_1_method_58_code (4 : Nat) (Option.some Jvm.ClassFile.FieldType.int)).before args0 about1 = true := code_word (m := ⟨2, 41⟩) (meth := k2m41) (c := k2c41) (by decide +kernel) rfl rfl rfl (by decide +kernel)
set_option maxRecDepth 65536 in
theorem w_c4 : (Jvm.Cond.code ({ cls := "MarchBist", name := "inject", desc := "(IIII)I" } : Jvm.MethodName) prog_1_method_2_code (6 : Nat) (Option.some Jvm.ClassFile.FieldType.int)).before args0 about1 = true := code_word (m := ⟨2, 1⟩) (meth := k2m1) (c := k2c1) (by decide +kernel) rfl rfl rfl (by decide +kernel)
set_option maxRecDepth 65536 in
theorem w_c5 : (Jvm.Cond.code ({ cls := "MarchBist", name := "validateFaultArguments", desc := "(IIII)I" } : Jvm.MethodName) prog_1_method_5_code (5 : Nat) (Option.some Jvm.ClassFile.FieldType.int)).before args0 about1 = true := code_word (m := ⟨2, 2⟩) (meth := k2m2) (c := k2c2) (by decide +kernel) rfl rfl rfl (by decide +kernel)
set_option maxRecDepth 65536 in
theorem w_c6 : (Jvm.Cond.code ({ cls := "MarchBist", name := "isFaultKind", desc := "(I)Z" } : Jvm.MethodName) prog_1_method_8_code (2 : Nat) (Option.some Jvm.ClassFile.FieldType.boolean)).before args0 about1 = true := code_word (m := ⟨2, 5⟩) (meth := k2m5) (c := k2c5) (by decide +kernel) rfl rfl rfl (by decide +kernel)
set_option maxRecDepth 65536 in
theorem w_c7 : (Jvm.Cond.code ({ cls := "MarchBist", name := "isAddress", desc := "(I)Z" } : Jvm.MethodName) prog_1_method_47_code (2 : Nat) (Option.some Jvm.ClassFile.FieldType.boolean)).before args0 about1 = true := code_word (m := ⟨2, 34⟩) (meth := k2m34) (c := k2c34) (by decide +kernel) rfl rfl rfl (by decide +kernel)
set_option maxRecDepth 65536 in
theorem w_c8 : (Jvm.Cond.code ({ cls := "MarchBist", name := "validateFaultRoom", desc := "(III)I" } : Jvm.MethodName) prog_1_method_6_code (4 : Nat) (Option.some Jvm.ClassFile.FieldType.int)).before args0 about1 = true := code_word (m := ⟨2, 3⟩) (meth := k2m3) (c := k2c3) (by decide +kernel) rfl rfl rfl (by decide +kernel)
set_option maxRecDepth 65536 in
theorem w_c9 : (Jvm.Cond.code ({ cls := "MarchBist", name := "isVictim", desc := "(I)Z" } : Jvm.MethodName) prog_1_method_11_code (2 : Nat) (Option.some Jvm.ClassFile.FieldType.boolean)).before args0 about1 = true := code_word (m := ⟨2, 6⟩) (meth := k2m6) (c := k2c6) (by decide +kernel) rfl rfl rfl (by decide +kernel)
set_option maxRecDepth 65536 in
theorem w_c10 : (Jvm.Cond.code ({ cls := "MarchBist", name := "isAggressor", desc := "(I)Z" } : Jvm.MethodName) prog_1_method_12_code (2 : Nat) (Option.some Jvm.ClassFile.FieldType.boolean)).before args0 about1 = true := code_word (m := ⟨2, 7⟩) (meth := k2m7) (c := k2c7) (by decide +kernel) rfl rfl rfl (by decide +kernel)
set_option maxRecDepth 65536 in
theorem w_c11 : (Jvm.Cond.code ({ cls := "MarchBist", name := "appendFault", desc := "(IIII)I" } : Jvm.MethodName) prog_1_method_7_code (6 : Nat) (Option.some Jvm.ClassFile.FieldType.int)).before args0 about1 = true := code_word (m := ⟨2, 4⟩) (meth := k2m4) (c := k2c4) (by decide +kernel) rfl rfl rfl (by decide +kernel)
set_option maxRecDepth 65536 in
theorem w_c12 : (Jvm.Cond.code ({ cls := "MarchBist", name := "loadPreset", desc := "(I)Z" } : Jvm.MethodName) prog_1_method_15_code (2 : Nat) (Option.some Jvm.ClassFile.FieldType.boolean)).before args0 about1 = true := code_word (m := ⟨2, 9⟩) (meth := k2m9) (c := k2c9) (by decide +kernel) rfl rfl rfl (by decide +kernel)
set_option maxRecDepth 65536 in
theorem w_c13 : (Jvm.Cond.code ({ cls := "MarchBist", name := "clearProgram", desc := "()V" } : Jvm.MethodName) prog_1_method_18_code (2 : Nat) (Option.none : Option Jvm.ClassFile.FieldType)).before args0 about1 = true := code_word (m := ⟨2, 11⟩) (meth := k2m11) (c := k2c11) (by decide +kernel) rfl rfl rfl (by decide +kernel)
set_option maxRecDepth 65536 in
theorem w_c14 : (Jvm.Cond.code ({ cls := "MarchBist", name := "loadMatsPlus", desc := "()V" } : Jvm.MethodName) prog_1_method_20_code (1 : Nat) (Option.none : Option Jvm.ClassFile.FieldType)).before args0 about1 = true := code_word (m := ⟨2, 13⟩) (meth := k2m13) (c := k2c13) (by decide +kernel) rfl rfl rfl (by decide +kernel)
set_option maxRecDepth 65536 in
theorem w_c15 : (Jvm.Cond.code ({ cls := "MarchBist", name := "presetElement", desc := "(IIIII)V" } : Jvm.MethodName) prog_1_method_19_code (7 : Nat) (Option.none : Option Jvm.ClassFile.FieldType)).before args0 about1 = true := code_word (m := ⟨2, 12⟩) (meth := k2m12) (c := k2c12) (by decide +kernel) rfl rfl rfl (by decide +kernel)
set_option maxRecDepth 65536 in
theorem w_c16 : (Jvm.Cond.code ({ cls := "MarchBist", name := "appendElement", desc := "(III)I" } : Jvm.MethodName) prog_1_method_17_code (5 : Nat) (Option.some Jvm.ClassFile.FieldType.int)).before args0 about1 = true := code_word (m := ⟨2, 10⟩) (meth := k2m10) (c := k2c10) (by decide +kernel) rfl rfl rfl (by decide +kernel)
set_option maxRecDepth 65536 in
theorem w_c17 : (Jvm.Cond.code ({ cls := "MarchBist", name := "opsMask", desc := "(I)I" } : Jvm.MethodName) prog_1_method_25_code (2 : Nat) (Option.some Jvm.ClassFile.FieldType.int)).before args0 about1 = true := code_word (m := ⟨2, 15⟩) (meth := k2m15) (c := k2c15) (by decide +kernel) rfl rfl rfl (by decide +kernel)
set_option maxRecDepth 65536 in
theorem w_c18 : (Jvm.Cond.code ({ cls := "MarchBist", name := "run", desc := "()I" } : Jvm.MethodName) prog_1_method_28_code (3 : Nat) (Option.some Jvm.ClassFile.FieldType.int)).before args0 about1 = true := code_word (m := ⟨2, 18⟩) (meth := k2m18) (c := k2c18) (by decide +kernel) rfl rfl rfl (by decide +kernel)
set_option maxRecDepth 65536 in
theorem w_c19 : (Jvm.Cond.code ({ cls := "MarchBist", name := "resetResults", desc := "()V" } : Jvm.MethodName) prog_1_method_31_code (2 : Nat) (Option.none : Option Jvm.ClassFile.FieldType)).before args0 about1 = true := code_word (m := ⟨2, 21⟩) (meth := k2m21) (c := k2c21) (by decide +kernel) rfl rfl rfl (by decide +kernel)
set_option maxRecDepth 65536 in
theorem w_c20 : (Jvm.Cond.code ({ cls := "MarchBist", name := "runElement", desc := "(I)I" } : Jvm.MethodName) prog_1_method_32_code (6 : Nat) (Option.some Jvm.ClassFile.FieldType.int)).before args0 about1 = true := code_word (m := ⟨2, 22⟩) (meth := k2m22) (c := k2c22) (by decide +kernel) rfl rfl rfl (by decide +kernel)
set_option maxRecDepth 65536 in
theorem w_c21 : (Jvm.Cond.code ({ cls := "MarchBist", name := "isElementIndex", desc := "(I)Z" } : Jvm.MethodName) prog_1_method_24_code (2 : Nat) (Option.some Jvm.ClassFile.FieldType.boolean)).before args0 about1 = true := code_word (m := ⟨2, 14⟩) (meth := k2m14) (c := k2c14) (by decide +kernel) rfl rfl rfl (by decide +kernel)
set_option maxRecDepth 65536 in
theorem w_c22 : (Jvm.Cond.code ({ cls := "MarchBist", name := "addressAt", desc := "(II)I" } : Jvm.MethodName) prog_1_method_27_code (3 : Nat) (Option.some Jvm.ClassFile.FieldType.int)).before args0 about1 = true := code_word (m := ⟨2, 17⟩) (meth := k2m17) (c := k2c17) (by decide +kernel) rfl rfl rfl (by decide +kernel)
set_option maxRecDepth 65536 in
theorem w_c23 : (Jvm.Cond.code ({ cls := "MarchBist", name := "runOpsAt", desc := "(II)I" } : Jvm.MethodName) prog_1_method_33_code (7 : Nat) (Option.some Jvm.ClassFile.FieldType.int)).before args0 about1 = true := code_word (m := ⟨2, 23⟩) (meth := k2m23) (c := k2c23) (by decide +kernel) rfl rfl rfl (by decide +kernel)
set_option maxRecDepth 65536 in
theorem w_c24 : (Jvm.Cond.code ({ cls := "MarchBist", name := "opAt", desc := "(II)I" } : Jvm.MethodName) prog_1_method_26_code (3 : Nat) (Option.some Jvm.ClassFile.FieldType.int)).before args0 about1 = true := code_word (m := ⟨2, 16⟩) (meth := k2m16) (c := k2c16) (by decide +kernel) rfl rfl rfl (by decide +kernel)
set_option maxRecDepth 65536 in
theorem w_c25 : (Jvm.Cond.code ({ cls := "MarchBist", name := "applyOp", desc := "(II)Z" } : Jvm.MethodName) prog_1_method_34_code (5 : Nat) (Option.some Jvm.ClassFile.FieldType.boolean)).before args0 about1 = true := code_word (m := ⟨2, 24⟩) (meth := k2m24) (c := k2c24) (by decide +kernel) rfl rfl rfl (by decide +kernel)
set_option maxRecDepth 65536 in
theorem w_c26 : (Jvm.Cond.code ({ cls := "MarchBist", name := "writeRouted", desc := "(II)V" } : Jvm.MethodName) prog_1_method_51_code (4 : Nat) (Option.none : Option Jvm.ClassFile.FieldType)).before args0 about1 = true := code_word (m := ⟨2, 38⟩) (meth := k2m38) (c := k2c38) (by decide +kernel) rfl rfl rfl (by decide +kernel)
set_option maxRecDepth 65536 in
theorem w_c27 : (Jvm.Cond.code ({ cls := "MarchBist", name := "routedCell", desc := "(I)I" } : Jvm.MethodName) prog_1_method_48_code (4 : Nat) (Option.some Jvm.ClassFile.FieldType.int)).before args0 about1 = true := code_word (m := ⟨2, 35⟩) (meth := k2m35) (c := k2c35) (by decide +kernel) rfl rfl rfl (by decide +kernel)
set_option maxRecDepth 65536 in
theorem w_c28 : (Jvm.Cond.code ({ cls := "MarchBist", name := "writeMain", desc := "(II)V" } : Jvm.MethodName) prog_1_method_52_code (5 : Nat) (Option.none : Option Jvm.ClassFile.FieldType)).before args0 about1 = true := code_word (m := ⟨2, 39⟩) (meth := k2m39) (c := k2c39) (by decide +kernel) rfl rfl rfl (by decide +kernel)
set_option maxRecDepth 65536 in
theorem w_c29 : (Jvm.Cond.code ({ cls := "MarchBist", name := "faultyNewBit", desc := "(III)I" } : Jvm.MethodName) prog_1_method_53_code (5 : Nat) (Option.some Jvm.ClassFile.FieldType.int)).before args0 about1 = true := code_word (m := ⟨2, 40⟩) (meth := k2m40) (c := k2c40) (by decide +kernel) rfl rfl rfl (by decide +kernel)
set_option maxRecDepth 65536 in
theorem w_c30 : (Jvm.Cond.code ({ cls := "MarchBist", name := "victimKind", desc := "(I)I" } : Jvm.MethodName) prog_1_method_13_code (3 : Nat) (Option.some Jvm.ClassFile.FieldType.int)).before args0 about1 = true := code_word (m := ⟨2, 8⟩) (meth := k2m8) (c := k2c8) (by decide +kernel) rfl rfl rfl (by decide +kernel)
set_option maxRecDepth 65536 in
theorem w_c31 : (Jvm.Cond.code ({ cls := "MarchBist", name := "readRouted", desc := "(I)I" } : Jvm.MethodName) prog_1_method_49_code (4 : Nat) (Option.some Jvm.ClassFile.FieldType.int)).before args0 about1 = true := code_word (m := ⟨2, 36⟩) (meth := k2m36) (c := k2c36) (by decide +kernel) rfl rfl rfl (by decide +kernel)
set_option maxRecDepth 65536 in
theorem w_c32 : (Jvm.Cond.code ({ cls := "MarchBist", name := "readMain", desc := "(I)I" } : Jvm.MethodName) prog_1_method_50_code (3 : Nat) (Option.some Jvm.ClassFile.FieldType.int)).before args0 about1 = true := code_word (m := ⟨2, 37⟩) (meth := k2m37) (c := k2c37) (by decide +kernel) rfl rfl rfl (by decide +kernel)
set_option maxRecDepth 65536 in
theorem w_c33 : (Jvm.Cond.code ({ cls := "MarchBist", name := "recordFailure", desc := "(III)V" } : Jvm.MethodName) prog_1_method_35_code (5 : Nat) (Option.none : Option Jvm.ClassFile.FieldType)).before args0 about1 = true := code_word (m := ⟨2, 25⟩) (meth := k2m25) (c := k2c25) (by decide +kernel) rfl rfl rfl (by decide +kernel)
set_option maxRecDepth 65536 in
theorem w_c34 : (Jvm.Cond.code ({ cls := "MarchBist", name := "failRows", desc := "()I" } : Jvm.MethodName) prog_1_method_29_code (1 : Nat) (Option.some Jvm.ClassFile.FieldType.int)).before args0 about1 = true := code_word (m := ⟨2, 19⟩) (meth := k2m19) (c := k2c19) (by decide +kernel) rfl rfl rfl (by decide +kernel)
set_option maxRecDepth 65536 in
theorem w_c35 : (Jvm.Cond.code ({ cls := "MarchBist", name := "logEntry", desc := "(I)I" } : Jvm.MethodName) prog_1_method_30_code (2 : Nat) (Option.some Jvm.ClassFile.FieldType.int)).before args0 about1 = true := code_word (m := ⟨2, 20⟩) (meth := k2m20) (c := k2c20) (by decide +kernel) rfl rfl rfl (by decide +kernel)
set_option maxRecDepth 65536 in
theorem w_c36 : (Jvm.Cond.code ({ cls := "MarchBist", name := "repair", desc := "()I" } : Jvm.MethodName) prog_1_method_36_code (5 : Nat) (Option.some Jvm.ClassFile.FieldType.int)).before args0 about1 = true := code_word (m := ⟨2, 26⟩) (meth := k2m26) (c := k2c26) (by decide +kernel) rfl rfl rfl (by decide +kernel)
set_option maxRecDepth 65536 in
theorem w_c37 : (Jvm.Cond.code ({ cls := "MarchBist", name := "countFailingUnmapped", desc := "()I" } : Jvm.MethodName) prog_1_method_39_code (3 : Nat) (Option.some Jvm.ClassFile.FieldType.int)).before args0 about1 = true := code_word (m := ⟨2, 29⟩) (meth := k2m29) (c := k2c29) (by decide +kernel) rfl rfl rfl (by decide +kernel)
set_option maxRecDepth 65536 in
theorem w_c38 : (Jvm.Cond.code ({ cls := "MarchBist", name := "isFailingUnmapped", desc := "(I)Z" } : Jvm.MethodName) prog_1_method_38_code (2 : Nat) (Option.some Jvm.ClassFile.FieldType.boolean)).before args0 about1 = true := code_word (m := ⟨2, 28⟩) (meth := k2m28) (c := k2c28) (by decide +kernel) rfl rfl rfl (by decide +kernel)
set_option maxRecDepth 65536 in
theorem w_c39 : (Jvm.Cond.code ({ cls := "MarchBist", name := "countFreeSpares", desc := "()I" } : Jvm.MethodName) prog_1_method_40_code (3 : Nat) (Option.some Jvm.ClassFile.FieldType.int)).before args0 about1 = true := code_word (m := ⟨2, 30⟩) (meth := k2m30) (c := k2c30) (by decide +kernel) rfl rfl rfl (by decide +kernel)
set_option maxRecDepth 65536 in
theorem w_c40 : (Jvm.Cond.code ({ cls := "MarchBist", name := "leastFreeSpare", desc := "()I" } : Jvm.MethodName) prog_1_method_41_code (2 : Nat) (Option.some Jvm.ClassFile.FieldType.int)).before args0 about1 = true := code_word (m := ⟨2, 31⟩) (meth := k2m31) (c := k2c31) (by decide +kernel) rfl rfl rfl (by decide +kernel)
set_option maxRecDepth 65536 in
theorem w_c41 : (Jvm.Cond.code ({ cls := "MarchBist", name := "assignSpare", desc := "(II)V" } : Jvm.MethodName) prog_1_method_42_code (5 : Nat) (Option.none : Option Jvm.ClassFile.FieldType)).before args0 about1 = true := code_word (m := ⟨2, 32⟩) (meth := k2m32) (c := k2c32) (by decide +kernel) rfl rfl rfl (by decide +kernel)
set_option maxRecDepth 65536 in
theorem w_c42 : (Jvm.Cond.code ({ cls := "MarchBist", name := "rowMap", desc := "(I)I" } : Jvm.MethodName) prog_1_method_37_code (2 : Nat) (Option.some Jvm.ClassFile.FieldType.int)).before args0 about1 = true := code_word (m := ⟨2, 27⟩) (meth := k2m27) (c := k2c27) (by decide +kernel) rfl rfl rfl (by decide +kernel)
set_option maxRecDepth 65536 in
theorem w_c43 : (Jvm.Cond.code ({ cls := "MarchBist", name := "latch", desc := "()I" } : Jvm.MethodName) prog_1_method_46_code (1 : Nat) (Option.some Jvm.ClassFile.FieldType.int)).before args0 about1 = true := code_word (m := ⟨2, 33⟩) (meth := k2m33) (c := k2c33) (by decide +kernel) rfl rfl rfl (by decide +kernel)
def codes1 : List Jvm.Cond := [Jvm.Cond.code x code maxLocals ret, Jvm.Cond.code ({ cls := "MarchBist", name := "<init>", desc := "(III)V" } : Jvm.MethodName) prog_1_method_1_code (5 : Nat) (Option.none : Option Jvm.ClassFile.FieldType), Jvm.Cond.code ({ cls := "java/lang/Object", name := "<init>", desc := "()V" } : Jvm.MethodName) object_method_1_code (1 : Nat) (Option.none : Option Jvm.ClassFile.FieldType), Jvm.Cond.code ({ cls := "MarchBist", name := "clamp", desc := "(III)I" } : Jvm.MethodName) prog_1_method_58_code (4 : Nat) (Option.some Jvm.ClassFile.FieldType.int), Jvm.Cond.code ({ cls := "MarchBist", name := "inject", desc := "(IIII)I" } : Jvm.MethodName) prog_1_method_2_code (6 : Nat) (Option.some Jvm.ClassFile.FieldType.int), Jvm.Cond.code ({ cls := "MarchBist", name := "validateFaultArguments", desc := "(IIII)I" } : Jvm.MethodName) prog_1_method_5_code (5 : Nat) (Option.some Jvm.ClassFile.FieldType.int), Jvm.Cond.code ({ cls := "MarchBist", name := "isFaultKind", desc := "(I)Z" } : Jvm.MethodName) prog_1_method_8_code (2 : Nat) (Option.some Jvm.ClassFile.FieldType.boolean), Jvm.Cond.code ({ cls := "MarchBist", name := "isAddress", desc := "(I)Z" } : Jvm.MethodName) prog_1_method_47_code (2 : Nat) (Option.some Jvm.ClassFile.FieldType.boolean), Jvm.Cond.code ({ cls := "MarchBist", name := "validateFaultRoom", desc := "(III)I" } : Jvm.MethodName) prog_1_method_6_code (4 : Nat) (Option.some Jvm.ClassFile.FieldType.int), Jvm.Cond.code ({ cls := "MarchBist", name := "isVictim", desc := "(I)Z" } : Jvm.MethodName) prog_1_method_11_code (2 : Nat) (Option.some Jvm.ClassFile.FieldType.boolean), Jvm.Cond.code ({ cls := "MarchBist", name := "isAggressor", desc := "(I)Z" } : Jvm.MethodName) prog_1_method_12_code (2 : Nat) (Option.some Jvm.ClassFile.FieldType.boolean), Jvm.Cond.code ({ cls := "MarchBist", name := "appendFault", desc := "(IIII)I" } : Jvm.MethodName) prog_1_method_7_code (6 : Nat) (Option.some Jvm.ClassFile.FieldType.int), Jvm.Cond.code ({ cls := "MarchBist", name := "loadPreset", desc := "(I)Z" } : Jvm.MethodName) prog_1_method_15_code (2 : Nat) (Option.some Jvm.ClassFile.FieldType.boolean), Jvm.Cond.code ({ cls := "MarchBist", name := "clearProgram", desc := "()V" } : Jvm.MethodName) prog_1_method_18_code (2 : Nat) (Option.none : Option Jvm.ClassFile.FieldType), Jvm.Cond.code ({ cls := "MarchBist", name := "loadMatsPlus", desc := "()V" } : Jvm.MethodName) prog_1_method_20_code (1 : Nat) (Option.none : Option Jvm.ClassFile.FieldType), Jvm.Cond.code ({ cls := "MarchBist", name := "presetElement", desc := "(IIIII)V" } : Jvm.MethodName) prog_1_method_19_code (7 : Nat) (Option.none : Option Jvm.ClassFile.FieldType), Jvm.Cond.code ({ cls := "MarchBist", name := "appendElement", desc := "(III)I" } : Jvm.MethodName) prog_1_method_17_code (5 : Nat) (Option.some Jvm.ClassFile.FieldType.int), Jvm.Cond.code ({ cls := "MarchBist", name := "opsMask", desc := "(I)I" } : Jvm.MethodName) prog_1_method_25_code (2 : Nat) (Option.some Jvm.ClassFile.FieldType.int), Jvm.Cond.code ({ cls := "MarchBist", name := "run", desc := "()I" } : Jvm.MethodName) prog_1_method_28_code (3 : Nat) (Option.some Jvm.ClassFile.FieldType.int), Jvm.Cond.code ({ cls := "MarchBist", name := "resetResults", desc := "()V" } : Jvm.MethodName) prog_1_method_31_code (2 : Nat) (Option.none : Option Jvm.ClassFile.FieldType), Jvm.Cond.code ({ cls := "MarchBist", name := "runElement", desc := "(I)I" } : Jvm.MethodName) prog_1_method_32_code (6 : Nat) (Option.some Jvm.ClassFile.FieldType.int), Jvm.Cond.code ({ cls := "MarchBist", name := "isElementIndex", desc := "(I)Z" } : Jvm.MethodName) prog_1_method_24_code (2 : Nat) (Option.some Jvm.ClassFile.FieldType.boolean), Jvm.Cond.code ({ cls := "MarchBist", name := "addressAt", desc := "(II)I" } : Jvm.MethodName) prog_1_method_27_code (3 : Nat) (Option.some Jvm.ClassFile.FieldType.int), Jvm.Cond.code ({ cls := "MarchBist", name := "runOpsAt", desc := "(II)I" } : Jvm.MethodName) prog_1_method_33_code (7 : Nat) (Option.some Jvm.ClassFile.FieldType.int), Jvm.Cond.code ({ cls := "MarchBist", name := "opAt", desc := "(II)I" } : Jvm.MethodName) prog_1_method_26_code (3 : Nat) (Option.some Jvm.ClassFile.FieldType.int), Jvm.Cond.code ({ cls := "MarchBist", name := "applyOp", desc := "(II)Z" } : Jvm.MethodName) prog_1_method_34_code (5 : Nat) (Option.some Jvm.ClassFile.FieldType.boolean), Jvm.Cond.code ({ cls := "MarchBist", name := "writeRouted", desc := "(II)V" } : Jvm.MethodName) prog_1_method_51_code (4 : Nat) (Option.none : Option Jvm.ClassFile.FieldType), Jvm.Cond.code ({ cls := "MarchBist", name := "routedCell", desc := "(I)I" } : Jvm.MethodName) prog_1_method_48_code (4 : Nat) (Option.some Jvm.ClassFile.FieldType.int), Jvm.Cond.code ({ cls := "MarchBist", name := "writeMain", desc := "(II)V" } : Jvm.MethodName) prog_1_method_52_code (5 : Nat) (Option.none : Option Jvm.ClassFile.FieldType), Jvm.Cond.code ({ cls := "MarchBist", name := "faultyNewBit", desc := "(III)I" } : Jvm.MethodName) prog_1_method_53_code (5 : Nat) (Option.some Jvm.ClassFile.FieldType.int), Jvm.Cond.code ({ cls := "MarchBist", name := "victimKind", desc := "(I)I" } : Jvm.MethodName) prog_1_method_13_code (3 : Nat) (Option.some Jvm.ClassFile.FieldType.int), Jvm.Cond.code ({ cls := "MarchBist", name := "readRouted", desc := "(I)I" } : Jvm.MethodName) prog_1_method_49_code (4 : Nat) (Option.some Jvm.ClassFile.FieldType.int), Jvm.Cond.code ({ cls := "MarchBist", name := "readMain", desc := "(I)I" } : Jvm.MethodName) prog_1_method_50_code (3 : Nat) (Option.some Jvm.ClassFile.FieldType.int), Jvm.Cond.code ({ cls := "MarchBist", name := "recordFailure", desc := "(III)V" } : Jvm.MethodName) prog_1_method_35_code (5 : Nat) (Option.none : Option Jvm.ClassFile.FieldType), Jvm.Cond.code ({ cls := "MarchBist", name := "failRows", desc := "()I" } : Jvm.MethodName) prog_1_method_29_code (1 : Nat) (Option.some Jvm.ClassFile.FieldType.int), Jvm.Cond.code ({ cls := "MarchBist", name := "logEntry", desc := "(I)I" } : Jvm.MethodName) prog_1_method_30_code (2 : Nat) (Option.some Jvm.ClassFile.FieldType.int), Jvm.Cond.code ({ cls := "MarchBist", name := "repair", desc := "()I" } : Jvm.MethodName) prog_1_method_36_code (5 : Nat) (Option.some Jvm.ClassFile.FieldType.int), Jvm.Cond.code ({ cls := "MarchBist", name := "countFailingUnmapped", desc := "()I" } : Jvm.MethodName) prog_1_method_39_code (3 : Nat) (Option.some Jvm.ClassFile.FieldType.int), Jvm.Cond.code ({ cls := "MarchBist", name := "isFailingUnmapped", desc := "(I)Z" } : Jvm.MethodName) prog_1_method_38_code (2 : Nat) (Option.some Jvm.ClassFile.FieldType.boolean), Jvm.Cond.code ({ cls := "MarchBist", name := "countFreeSpares", desc := "()I" } : Jvm.MethodName) prog_1_method_40_code (3 : Nat) (Option.some Jvm.ClassFile.FieldType.int), Jvm.Cond.code ({ cls := "MarchBist", name := "leastFreeSpare", desc := "()I" } : Jvm.MethodName) prog_1_method_41_code (2 : Nat) (Option.some Jvm.ClassFile.FieldType.int), Jvm.Cond.code ({ cls := "MarchBist", name := "assignSpare", desc := "(II)V" } : Jvm.MethodName) prog_1_method_42_code (5 : Nat) (Option.none : Option Jvm.ClassFile.FieldType), Jvm.Cond.code ({ cls := "MarchBist", name := "rowMap", desc := "(I)I" } : Jvm.MethodName) prog_1_method_37_code (2 : Nat) (Option.some Jvm.ClassFile.FieldType.int), Jvm.Cond.code ({ cls := "MarchBist", name := "latch", desc := "()I" } : Jvm.MethodName) prog_1_method_46_code (1 : Nat) (Option.some Jvm.ClassFile.FieldType.int)]
set_option maxRecDepth 65536 in
theorem codes_eq : words1.filter isCode = codes1 := rfl
theorem w_codes : ∀ c ∈ words1.filter isCode, c.before args0 about1 = true := by
  rw [codes_eq]
  intro c hc
  simp only [codes1, List.mem_cons, List.not_mem_nil, or_false] at hc
  rcases hc with rfl | rfl | rfl | rfl | rfl | rfl | rfl | rfl | rfl | rfl | rfl | rfl | rfl | rfl | rfl | rfl | rfl | rfl | rfl | rfl | rfl | rfl | rfl | rfl | rfl | rfl | rfl | rfl | rfl | rfl | rfl | rfl | rfl | rfl | rfl | rfl | rfl | rfl | rfl | rfl | rfl | rfl | rfl | rfl
  · exact w_c0
  · exact w_c1
  · exact w_c2
  · exact w_c3
  · exact w_c4
  · exact w_c5
  · exact w_c6
  · exact w_c7
  · exact w_c8
  · exact w_c9
  · exact w_c10
  · exact w_c11
  · exact w_c12
  · exact w_c13
  · exact w_c14
  · exact w_c15
  · exact w_c16
  · exact w_c17
  · exact w_c18
  · exact w_c19
  · exact w_c20
  · exact w_c21
  · exact w_c22
  · exact w_c23
  · exact w_c24
  · exact w_c25
  · exact w_c26
  · exact w_c27
  · exact w_c28
  · exact w_c29
  · exact w_c30
  · exact w_c31
  · exact w_c32
  · exact w_c33
  · exact w_c34
  · exact w_c35
  · exact w_c36
  · exact w_c37
  · exact w_c38
  · exact w_c39
  · exact w_c40
  · exact w_c41
  · exact w_c42
  · exact w_c43
set_option maxRecDepth 65536 in
theorem w_t1 : (words1.take 24).all (fun c => isCode c || c.before args0 about1) = true := by decide +kernel
set_option maxRecDepth 65536 in
theorem w_t2 : ((words1.drop 24).take 24).all (fun c => isCode c || c.before args0 about1) = true := by decide +kernel
set_option maxRecDepth 65536 in
theorem w_t3 : (((words1.drop 24).drop 24).take 24).all (fun c => isCode c || c.before args0 about1) = true := by decide +kernel
set_option maxRecDepth 65536 in
theorem w_t4 : ((((words1.drop 24).drop 24).drop 24).take 24).all (fun c => isCode c || c.before args0 about1) = true := by decide +kernel
set_option maxRecDepth 65536 in
theorem w_t5 : (((((words1.drop 24).drop 24).drop 24).drop 24).take 24).all (fun c => isCode c || c.before args0 about1) = true := by decide +kernel
set_option maxRecDepth 65536 in
theorem w_t6 : ((((((words1.drop 24).drop 24).drop 24).drop 24).drop 24).take 24).all (fun c => isCode c || c.before args0 about1) = true := by decide +kernel
set_option maxRecDepth 65536 in
theorem w_t7 : (((((((words1.drop 24).drop 24).drop 24).drop 24).drop 24).drop 24).take 24).all (fun c => isCode c || c.before args0 about1) = true := by decide +kernel
set_option maxRecDepth 65536 in
theorem w_t8 : ((((((((words1.drop 24).drop 24).drop 24).drop 24).drop 24).drop 24).drop 24).take 24).all (fun c => isCode c || c.before args0 about1) = true := by decide +kernel
set_option maxRecDepth 65536 in
theorem w_t9 : (((((((((words1.drop 24).drop 24).drop 24).drop 24).drop 24).drop 24).drop 24).drop 24).take 24).all (fun c => isCode c || c.before args0 about1) = true := by decide +kernel
set_option maxRecDepth 65536 in
theorem w_t10 : (((((((((words1.drop 24).drop 24).drop 24).drop 24).drop 24).drop 24).drop 24).drop 24).drop 24).all (fun c => isCode c || c.before args0 about1) = true := by decide +kernel
theorem w_tables : (allAtoms (Jvm.Cond.code x code maxLocals ret :: tables_1)).before args0 about1 = true := by
  rw [allAtoms_all]
  show words1.all (fun c => c.before args0 about1) = true
  refine all_split ?_ w_codes
  rw [← List.take_append_drop 24 words1, List.all_append, w_t1, ← List.take_append_drop 24 (words1.drop 24), List.all_append, w_t2, ← List.take_append_drop 24 ((words1.drop 24).drop 24), List.all_append, w_t3, ← List.take_append_drop 24 (((words1.drop 24).drop 24).drop 24), List.all_append, w_t4, ← List.take_append_drop 24 ((((words1.drop 24).drop 24).drop 24).drop 24), List.all_append, w_t5, ← List.take_append_drop 24 (((((words1.drop 24).drop 24).drop 24).drop 24).drop 24), List.all_append, w_t6, ← List.take_append_drop 24 ((((((words1.drop 24).drop 24).drop 24).drop 24).drop 24).drop 24), List.all_append, w_t7, ← List.take_append_drop 24 (((((((words1.drop 24).drop 24).drop 24).drop 24).drop 24).drop 24).drop 24), List.all_append, w_t8, ← List.take_append_drop 24 ((((((((words1.drop 24).drop 24).drop 24).drop 24).drop 24).drop 24).drop 24).drop 24), List.all_append, w_t9, w_t10]
  rfl
set_option maxRecDepth 65536 in
theorem w_case : (Jvm.Cond.and given_1 narrow_1).before args0 about1 = true := by decide +kernel
theorem w_applies : (headSpec (Jvm.Cond.code x code maxLocals ret :: tables_1) room_1).applies x e0.platform about1 = true :=
  (Spec.applies_iff w_frames).mpr ⟨w_running, w_runnable, w_alone, w_named, w_hears, w_ripe, w_room, w_tables⟩
theorem atStart : AtStart classFile x code maxLocals ret World_1 tables_1 room_1 Calls_1 rest_1 Pre_1 launch0 p0 e0 about1 theMethod args0 below0 :=
  ⟨lists_1, trivial, launch0.admits_env _ _ _, launch0.least_env, fairChoices_fair.cas, fairChoices_fair.clock, w_frames, w_args, w_heap, w_applies, trivial, trivial, w_case⟩
end start1
theorem witness_1 : WitnessClaimed_1 := ⟨start1.p0, start1.e0, start1.about1, start1.theMethod, start1.args0, start1.below0, start1.atStart⟩
end Jvm.Pilot.@@N@@
