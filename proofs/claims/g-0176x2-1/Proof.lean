import JvmDerived
import JvmDerived.Pilot.@@N@@Statement
import JvmDerived.Pilot.@@N@@Code
set_option linter.unusedVariables false
set_option linter.unusedSimpArgs false
/-! # A small executor over an abstract heap, and that it is sound for the model (Stand's family). Same text in every claim. -/
namespace Jvm.OwnX
open Sem ClassFile Op Lib Jvm.Stand Jvm.Free Jvm.LawKit Jvm.RoadKit
/-- a cell: an object's fields; an array of ints (0: handed in; 1), booleans (2), bytes (3); an array of longs -/
abbrev ACell := Sum (List Value) (Sum (Nat × List Int32) (List Int64))
abbrev AHeap := List ACell
abbrev ALoc := List (Option Value)
/-- a method: class, maxLocals, how many it pops, what it returns, is it a constructor, frames, locals -/
abbrev MI := Nat × Nat × Nat × Option FieldType × Bool × Nat × Nat
/-- code | methods | method links (kind, callee) | field links | constants | fields (name, descriptor, kind, final) | slots of an object | read-only cells | cells at most | slots at most -/
def Prog : Type := (Nat → Nat → Option (Instr × Nat)) × (Nat → MI) × (Nat → Nat → Option (Nat × Nat)) × (Nat → Nat → Option Nat) × (Nat → Nat → Option Value) × List (String × String × Nat × Bool) × Nat × Nat × Nat × Nat
def Prog.code (P : Prog) : Nat → Nat → Option (Instr × Nat) := P.1
def Prog.mi (P : Prog) : Nat → MI := P.2.1
def Prog.link (P : Prog) : Nat → Nat → Option (Nat × Nat) := P.2.2.1
def Prog.fld (P : Prog) : Nat → Nat → Option Nat := P.2.2.2.1
def Prog.kon (P : Prog) : Nat → Nat → Option Value := P.2.2.2.2.1
def Prog.fields (P : Prog) : List (String × String × Nat × Bool) := P.2.2.2.2.2.1
def Prog.objN (P : Prog) : Nat := P.2.2.2.2.2.2.1
def Prog.ro (P : Prog) : Nat := P.2.2.2.2.2.2.2.1
def Prog.capC (P : Prog) : Nat := P.2.2.2.2.2.2.2.2.1
def Prog.capS (P : Prog) : Nat := P.2.2.2.2.2.2.2.2.2
def Prog.cls (P : Prog) (k : Nat) : Nat := (P.mi k).1
def Prog.maxL (P : Prog) (k : Nat) : Nat := (P.mi k).2.1
def Prog.pops (P : Prog) (k : Nat) : Nat := (P.mi k).2.2.1
def Prog.ret (P : Prog) (k : Nat) : Option FieldType := (P.mi k).2.2.2.1
def Prog.ini (P : Prog) (k : Nat) : Bool := (P.mi k).2.2.2.2.1
def Prog.rf (P : Prog) (k : Nat) : Nat := (P.mi k).2.2.2.2.2.1
def Prog.rl (P : Prog) (k : Nat) : Nat := (P.mi k).2.2.2.2.2.2
def dflt : Nat → Value
  | 0 => .int 0
  | 1 => .int 0
  | 2 => .long 0
  | _ => .null
def Prog.fresh (P : Prog) : List Value := P.fields.map fun f => dflt f.2.2.1
/-- is j a place of an array of n -/
def inb (n : Nat) (j : Int32) : Bool := !(decide (j < 0)) && Nat.ble (j.toNatClampNeg + 1) n
def rd (xs : List Int32) (j : Int32) : Int32 := xs.getD j.toNatClampNeg 0
def wr (xs : List Int32) (j v : Int32) : List Int32 := xs.set j.toNatClampNeg v
def rdL (xs : List Int64) (j : Int32) : Int64 := xs.getD j.toNatClampNeg 0
def wrL (xs : List Int64) (j : Int32) (v : Int64) : List Int64 := xs.set j.toNatClampNeg v
def kill1 (L : ALoc) (i : Nat) : ALoc :=
  match i with
  | 0 => L
  | i + 1 => match L[i]? with
    | some (some (.long _)) => L.set i none
    | _ => L
def lput (L : ALoc) (i : Nat) (v : Value) : Option ALoc := bif Nat.ble (i + 1) L.length then some ((kill1 L i).set i (some v)) else none
def lputL (L : ALoc) (i : Nat) (v : Int64) : Option ALoc := bif Nat.ble (i + 2) L.length then some (((kill1 L i).set i (some (.long v))).set (i + 1) none) else none
def entL : List Value → ALoc
  | [] => []
  | .long v :: r => some (.long v) :: none :: entL r
  | v :: r => some v :: entL r
def pad (n : Nat) (L : ALoc) : ALoc := L ++ List.replicate (n - L.length) none
def entry (P : Prog) (k : Nat) (as : List Value) : ALoc := pad (P.maxL k) (entL as)
def cat (v : Value) : Nat := match v with | .long _ => 2 | _ => 1
def cats : List Value → Nat
  | [] => 0
  | v :: r => cat v + cats r
def okV : Value → Bool
  | .int _ => true | .long _ => true | .ref _ => true | .null => true | _ => false
def csz : Nat → ACell → Nat
  | n, .inl _ => n
  | _, .inr (.inl (0, _)) => 0
  | _, .inr (.inl (_, x)) => x.length
  | _, .inr (.inr x) => x.length
def hsz (P : Prog) : AHeap → Nat
  | [] => 0
  | c :: r => csz P.objN c + hsz P r
/-- how long an instruction is (0: as decode says) -/
def ilen : Instr → Nat
  | .iload _ => 2 | .lload _ => 2 | .aload _ => 2 | .istore _ => 2 | .lstore _ => 2 | .astore _ => 2 | .bipush _ => 2 | .ldc _ => 2 | .newarray _ => 2
  | .iinc _ _ => 3 | .sipush _ => 3 | .goto _ => 3 | .ifCond _ _ => 3 | .if_icmp _ _ => 3 | .getfield _ => 3 | .putfield _ => 3 | .new _ => 3 | .invokespecial _ => 3 | .invokestatic _ => 3 | .invokevirtual _ => 3 | .ldc2_w _ => 3
  | .tableswitch _ _ _ _ => 0
  | _ => 1
def tgt (pc : Nat) (o : Int) : Option Nat := match (pc : Int) + o with | .ofNat n => some n | .negSucc _ => none
def ish (x y : Int32) : Int32 := x <<< (y &&& 31)
def isr (x y : Int32) : Int32 := x >>> (y &&& 31)
def ush (x y : Int32) : Int32 := (x.toUInt32 >>> (y &&& 31).toUInt32).toInt32
def lsh (x : Int64) (y : Int32) : Int64 := x <<< (y &&& 0x3f).toInt64
def lus (x : Int64) (y : Int32) : Int64 := (x.toUInt64 >>> (y &&& 0x3f).toInt64.toUInt64).toInt64
def lcm (x y : Int64) : Int32 := if x > y then 1 else if x = y then 0 else -1
def i8 (x : Int32) : Int32 := x.toInt8.toInt32
def aop : Instr → Option (Int32 → Int32 → Int32)
  | .iadd => some fun x y => x + y
  | .isub => some fun x y => x - y
  | .imul => some fun x y => x * y
  | .iand => some fun x y => x &&& y
  | .ior => some fun x y => x ||| y
  | .ixor => some fun x y => x ^^^ y
  | .ishl => some fun x y => x <<< (y &&& 31)
  | .ishr => some fun x y => x >>> (y &&& 31)
  | .iushr => some fun x y => (x.toUInt32 >>> (y &&& 31).toUInt32).toInt32
  | _ => none
def lop : Instr → Option (Int64 → Int64 → Int64)
  | .ladd => some fun x y => x + y
  | .lsub => some fun x y => x - y
  | .lmul => some fun x y => x * y
  | .land => some fun x y => x &&& y
  | .lor => some fun x y => x ||| y
  | .lxor => some fun x y => x ^^^ y
  | _ => none
def loadI (L : ALoc) (n : Nat) : Option Int32 := match L[n]? with | some (some (.int x)) => some x | _ => none
def loadJ (L : ALoc) (n : Nat) : Option Int64 := match L[n]? with | some (some (.long x)) => some x | _ => none
def loadA (L : ALoc) (n : Nat) : Option Nat := match L[n]? with | some (some (.ref a)) => some a | _ => none
def getC (H : AHeap) (a j : Nat) : Option Value := match H[a]? with | some (.inl fs) => fs[j]? | _ => none
def conv (t : Nat) (v : Value) : Option Value :=
  match t, v with
  | 0, .int x => some (.int x)
  | 1, .int x => some (.int (x &&& 1))
  | 2, .long x => some (.long x)
  | 3, .ref a => some (.ref a)
  | _, _ => none
/-- a step within one frame -/
abbrev St := Nat × ALoc × List Value × AHeap
def atyOf : ArrayType → Option Nat
  | .int => some 1 | .boolean => some 2 | .byte => some 3 | .long => some 4 | _ => none
def newC (t n : Nat) : ACell := match t with | 4 => .inr (.inr (List.replicate n 0)) | t => .inr (.inl (t, List.replicate n 0))
def isObjInit (P : Prog) (k j : Nat) : Bool := match P.link (P.cls k) j with | some (4, _) => true | _ => false
/-- what is stored into an array of that kind -/
def narA (t : Nat) (x : Int32) : Int32 := match t with | 2 => x &&& 1 | 3 => x.toInt8.toInt32 | _ => x
def step (P : Prog) (k : Nat) (i : Instr) (np pc : Nat) (L : ALoc) (S : List Value) (H : AHeap) : Option St :=
  match i with
  | .iload_n n => match loadI L n.val with | some x => some (np, L, .int x :: S, H) | none => none
  | .iload n => match loadI L n with | some x => some (np, L, .int x :: S, H) | none => none
  | .lload_n n => match loadJ L n.val with | some x => some (np, L, .long x :: S, H) | none => none
  | .lload n => match loadJ L n with | some x => some (np, L, .long x :: S, H) | none => none
  | .aload_n n => match loadA L n.val with | some x => some (np, L, .ref x :: S, H) | none => none
  | .aload n => match loadA L n with | some x => some (np, L, .ref x :: S, H) | none => none
  | .istore_n n => match S with | .int x :: r => (match lput L n.val (.int x) with | some L' => some (np, L', r, H) | none => none) | _ => none
  | .istore n => match S with | .int x :: r => (match lput L n (.int x) with | some L' => some (np, L', r, H) | none => none) | _ => none
  | .astore_n n => match S with | .ref x :: r => (match lput L n.val (.ref x) with | some L' => some (np, L', r, H) | none => none) | _ => none
  | .astore n => match S with | .ref x :: r => (match lput L n (.ref x) with | some L' => some (np, L', r, H) | none => none) | _ => none
  | .lstore_n n => match S with | .long x :: r => (match lputL L n.val x with | some L' => some (np, L', r, H) | none => none) | _ => none
  | .lstore n => match S with | .long x :: r => (match lputL L n x with | some L' => some (np, L', r, H) | none => none) | _ => none
  | .iinc n c => match loadI L n with | some x => (match lput L n (.int (x + Int32.ofInt c)) with | some L' => some (np, L', S, H) | none => none) | none => none
  | .iconst c => some (np, L, .int (Int32.ofInt c) :: S, H)
  | .bipush c => some (np, L, .int (Int8.ofInt c).toInt32 :: S, H)
  | .sipush c => some (np, L, .int (Int16.ofInt c).toInt32 :: S, H)
  | .lconst c => some (np, L, .long (Int64.ofNat c) :: S, H)
  | .ldc j => match P.kon (P.cls k) j with | some (.int x) => some (np, L, .int x :: S, H) | _ => none
  | .ldc2_w j => match P.kon (P.cls k) j with | some (.long x) => some (np, L, .long x :: S, H) | _ => none
  | .idiv => match S with | .int y :: .int x :: r => (bif decide (y = 0) then none else some (np, L, .int (x / y) :: r, H)) | _ => none
  | .irem => match S with | .int y :: .int x :: r => (bif decide (y = 0) then none else some (np, L, .int (x % y) :: r, H)) | _ => none
  | .lshl => match S with | .int y :: .long x :: r => some (np, L, .long (x <<< (y &&& 0x3f).toInt64) :: r, H) | _ => none
  | .lushr => match S with | .int y :: .long x :: r => some (np, L, .long ((x.toUInt64 >>> (y &&& 0x3f).toInt64.toUInt64).toInt64) :: r, H) | _ => none
  | .lcmp => match S with | .long y :: .long x :: r => some (np, L, .int (if x > y then 1 else if x = y then 0 else -1) :: r, H) | _ => none
  | .lneg => match S with | .long x :: r => some (np, L, .long (-x) :: r, H) | _ => none
  | .i2l => match S with | .int x :: r => some (np, L, .long x.toInt64 :: r, H) | _ => none
  | .l2i => match S with | .long x :: r => some (np, L, .int x.toInt32 :: r, H) | _ => none
  | .i2b => match S with | .int x :: r => some (np, L, .int x.toInt8.toInt32 :: r, H) | _ => none
  | .dup => match S with | .ref x :: r => some (np, L, .ref x :: .ref x :: r, H) | .int x :: r => some (np, L, .int x :: .int x :: r, H) | _ => none
  | .dup2 => match S with | .int x :: .ref y :: r => some (np, L, .int x :: .ref y :: .int x :: .ref y :: r, H) | _ => none
  | .pop => match S with | .int _ :: r => some (np, L, r, H) | .ref _ :: r => some (np, L, r, H) | _ => none
  | .goto o => match tgt pc o with | some t => some (t, L, S, H) | none => none
  | .ifCond cd o => match S with
    | .int x :: r => (bif if_icmp.holds cd x 0 then (match tgt pc o with | some t => some (t, L, r, H) | none => none) else some (np, L, r, H))
    | _ => none
  | .if_icmp cd o => match S with
    | .int y :: .int x :: r => (bif if_icmp.holds cd x y then (match tgt pc o with | some t => some (t, L, r, H) | none => none) else some (np, L, r, H))
    | _ => none
  | .tableswitch d lo hi offs => match S with
    | .int x :: r => (bif decide (x.toInt < lo) || decide (x.toInt > hi) then (match tgt pc d with | some t => some (t, L, r, H) | none => none)
        else (match offs.toList[(x.toInt - lo).toNat]? with | some o => (match tgt pc o with | some t => some (t, L, r, H) | none => none) | none => none))
    | _ => none
  | .getfield j => match S with
    | .ref a :: r => (match P.fld (P.cls k) j with | some f => (match getC H a f with | some v => some (np, L, v :: r, H) | none => none) | none => none)
    | _ => none
  | .putfield j => match S with
    | v :: .ref a :: r => (match P.fld (P.cls k) j with
      | some f => (match P.fields[f]? with
        | some (_, _, t, fin) => (bif (!fin || P.ini k) && Nat.ble P.ro a then (match conv t v with
          | some v' => (match H[a]? with
            | some (.inl fs) => (bif Nat.ble (f + 1) fs.length then some (np, L, r, H.set a (.inl (fs.set f v'))) else none)
            | _ => none)
          | none => none) else none)
        | none => none)
      | none => none)
    | _ => none
  | .iaload => match S with
    | .int j :: .ref a :: r => (match H[a]? with
      | some (.inr (.inl (1, xs))) => (bif inb xs.length j then some (np, L, .int (rd xs j) :: r, H) else none)
      | some (.inr (.inl (0, xs))) => (bif inb xs.length j then some (np, L, .int (rd xs j) :: r, H) else none)
      | _ => none)
    | _ => none
  | .baload => match S with
    | .int j :: .ref a :: r => (match H[a]? with
      | some (.inr (.inl (2, xs))) => (bif inb xs.length j then some (np, L, .int (rd xs j) :: r, H) else none)
      | some (.inr (.inl (3, xs))) => (bif inb xs.length j then some (np, L, .int (rd xs j) :: r, H) else none)
      | _ => none)
    | _ => none
  | .laload => match S with
    | .int j :: .ref a :: r => (match H[a]? with | some (.inr (.inr xs)) => (bif inb xs.length j then some (np, L, .long (rdL xs j) :: r, H) else none) | _ => none)
    | _ => none
  | .iastore => match S with
    | .int x :: .int j :: .ref a :: r => (bif Nat.ble P.ro a then (match H[a]? with | some (.inr (.inl (1, xs))) => (bif inb xs.length j then some (np, L, r, H.set a (.inr (.inl (1, wr xs j x)))) else none) | _ => none) else none)
    | _ => none
  | .bastore => match S with
    | .int x :: .int j :: .ref a :: r => (bif Nat.ble P.ro a then (match H[a]? with
      | some (.inr (.inl (2, xs))) => (bif inb xs.length j then some (np, L, r, H.set a (.inr (.inl (2, wr xs j (x &&& 1))))) else none)
      | some (.inr (.inl (3, xs))) => (bif inb xs.length j then some (np, L, r, H.set a (.inr (.inl (3, wr xs j x.toInt8.toInt32)))) else none)
      | _ => none) else none)
    | _ => none
  | .lastore => match S with
    | .long x :: .int j :: .ref a :: r => (bif Nat.ble P.ro a then (match H[a]? with | some (.inr (.inr xs)) => (bif inb xs.length j then some (np, L, r, H.set a (.inr (.inr (wrL xs j x)))) else none) | _ => none) else none)
    | _ => none
  | .arraylength => match S with
    | .ref a :: r => (match H[a]? with
      | some (.inr (.inl (_, xs))) => some (np, L, .int xs.length.toInt32 :: r, H)
      | some (.inr (.inr xs)) => some (np, L, .int xs.length.toInt32 :: r, H)
      | _ => none)
    | _ => none
  | .newarray t => match S with
    | .int n :: r => (match atyOf t with | some q => (bif !(decide (n < 0)) && Nat.ble n.toNatClampNeg 60000 && Nat.ble (H.length + 1) P.capC && Nat.ble (hsz P H + n.toNatClampNeg) P.capS then some (np, L, .ref H.length :: r, H ++ [newC q n.toNatClampNeg]) else none) | none => none)
    | _ => none
  | .new j => match P.link (P.cls k) j with | some (5, _) => (bif Nat.ble (H.length + 1) P.capC && Nat.ble (hsz P H + P.objN) P.capS then some (np, L, .ref H.length :: S, H ++ [.inl P.fresh]) else none) | _ => none
  | .invokespecial j => match S with
    | .ref _ :: r => (bif isObjInit P k j && Nat.ble 1 (P.rf k) && Nat.ble (cats r + 12) (P.rl k) then some (np, L, r, H) else none)
    | _ => none
  | i => match S with
    | .int y :: .int x :: r => (match aop i with | some f => some (np, L, .int (f x y) :: r, H) | none => none)
    | .long y :: .long x :: r => (match lop i with | some f => some (np, L, .long (f x y) :: r, H) | none => none)
    | _ => none
/-- what a return hands back -/
def retV (P : Prog) (k : Nat) (i : Instr) (S : List Value) : Option (Option Value) :=
  match i with
  | .return_ => match S, P.ret k with | [], none => some none | _, _ => none
  | .ireturn => match S with
    | .int x :: _ => (match P.ret k with | some .int => some (some (.int x)) | some .boolean => some (some (.int (x &&& 1))) | _ => none)
    | _ => none
  | .lreturn => match S with | .long x :: _ => (match P.ret k with | some .long => some (some (.long x)) | _ => none) | _ => none
  | _ => none
def kindOk : Instr → Nat → Bool
  | .invokestatic _, 0 => true
  | .invokespecial _, 1 => true
  | .invokevirtual _, 2 => true
  | .invokevirtual _, 3 => true
  | _, _ => false
def poolOf : Instr → Option Nat
  | .invokestatic j => some j
  | .invokespecial j => some j
  | .invokevirtual j => some j
  | _ => none
/-- the receiver is there -/
def recvOk (P : Prog) (H : AHeap) (q : Nat) (as : List Value) : Bool :=
  match q with
  | 0 => true
  | _ => match as with
    | .ref a :: _ => (match H[a]? with | some (.inl _) => true | _ => false)
    | _ => false
def callV (P : Prog) (k : Nat) (i : Instr) (S : List Value) (H : AHeap) : Option (Nat × List Value × List Value) :=
  match poolOf i with
  | none => none
  | some j => match P.link (P.cls k) j with
    | none => none
    | some (q, k') =>
      bif kindOk i q && Nat.ble (P.pops k') S.length && Nat.ble (P.rf k' + 1) (P.rf k) && Nat.ble (cats (S.drop (P.pops k')) + (P.maxL k' + 11) + P.rl k') (P.rl k) && recvOk P H q (S.take (P.pops k')).reverse && Nat.ble (entL (S.take (P.pops k')).reverse).length (P.maxL k') then
        some (k', (S.take (P.pops k')).reverse, S.drop (P.pops k'))
      else none
def run (P : Prog) : Nat → Nat → Nat → ALoc → List Value → AHeap → Option (Option Value × AHeap)
  | 0, _, _, _, _, _ => none
  | n + 1, k, pc, L, S, H =>
    match P.code k pc with
    | none => none
    | some (i, np) =>
      match retV P k i S with
      | some v => some (v, H)
      | none =>
        match callV P k i S H with
        | some (k', as, rest) =>
          (match run P n k' 0 (entry P k' as) [] H with
          | some (v, H1) => run P n k np L (v.toList ++ rest) H1
          | none => none)
        | none =>
          (match step P k i np pc L S H with
          | some (pc', L', S', H') => run P n k pc' L' S' H'
          | none => none)
def Eval (P : Prog) (k pc : Nat) (L : ALoc) (S : List Value) (H : AHeap) (out : Option Value × AHeap) : Prop := ∃ n, run P n k pc L S H = some out
end Jvm.OwnX
namespace Jvm.OwnX
open Sem ClassFile Op Lib Jvm.Stand Jvm.Free Jvm.LawKit Jvm.RoadKit
/-! ## values, stacks, local variables -/
def VR (am : List Addr) (v w : Value) : Prop := match v with
  | .ref i => ∃ a, am[i]? = some a ∧ w = .ref a
  | .int x => w = .int x
  | .long x => w = .long x
  | .null => w = .null
  | _ => False
def SR (am : List Addr) : List Value → List Value → Prop
  | [], ws => ws = []
  | v :: vs, ws => ∃ w ws', ws = w :: ws' ∧ VR am v w ∧ SR am vs ws'
def Pre (am am' : List Addr) : Prop := ∀ (i : Nat) (a : Addr), am[i]? = some a → am'[i]? = some a
theorem Pre.refl (am : List Addr) : Pre am am := fun _ _ h => h
theorem Pre.trans {a b c : List Addr} (h : Pre a b) (h' : Pre b c) : Pre a c := fun i x q => h' i x (h i x q)
theorem Pre.app (am : List Addr) (x : Addr) : Pre am (am ++ [x]) := fun i a h => by
  rw [List.getElem?_append_left (List.getElem?_eq_some_iff.mp h).1]; exact h
theorem VR.mono {am am' : List Addr} (h : Pre am am') {v w : Value} (r : VR am v w) : VR am' v w := by
  cases v <;> simp only [VR] at r ⊢ <;> try exact r
  obtain ⟨a, h1, h2⟩ := r; exact ⟨a, h _ _ h1, h2⟩
theorem SR.mono {am am' : List Addr} (h : Pre am am') : ∀ {S ws : List Value}, SR am S ws → SR am' S ws
  | [], _, r => r
  | _ :: _, _, ⟨w, ws', e, r1, r2⟩ => ⟨w, ws', e, r1.mono h, SR.mono h r2⟩
theorem VR.cat {am : List Addr} {v w : Value} (r : VR am v w) : w.category = OwnX.cat v := by
  cases v <;> simp only [VR] at r
  · subst r; rfl
  · subst r; rfl
  · subst r; rfl
  · obtain ⟨a, -, rfl⟩ := r; rfl
theorem SR.cats {am : List Addr} : ∀ {S ws : List Value}, SR am S ws → (ws.map fun v => v.category).sum = OwnX.cats S
  | [], _, r => by cases r; rfl
  | v :: vs, _, ⟨w, ws', e, r1, r2⟩ => by subst e; simp [OwnX.cats, r1.cat, SR.cats r2]
theorem SR.app {am : List Addr} : ∀ {S ws : List Value} (A B : List Value), SR am S ws → S = A ++ B → ∃ x y, ws = x ++ y ∧ SR am A x ∧ SR am B y
  | S, ws, [], B, r, e => ⟨[], ws, rfl, rfl, by rw [show B = S from by simpa using e.symm]; exact r⟩
  | S, ws, v :: A, B, r, e => by
    subst e
    obtain ⟨w, ws', rfl, r1, r2⟩ := r
    obtain ⟨x, y, rfl, h1, h2⟩ := SR.app A B r2 rfl
    exact ⟨w :: x, y, rfl, ⟨w, x, rfl, r1, h1⟩, h2⟩
theorem SR.join {am : List Addr} : ∀ {A x B y : List Value}, SR am A x → SR am B y → SR am (A ++ B) (x ++ y)
  | [], _, _, _, h, h' => by cases h; exact h'
  | _ :: _, _, _, _, ⟨w, ws', e, r1, r2⟩, h' => by subst e; exact ⟨w, _, rfl, r1, SR.join r2 h'⟩
theorem SR.rev {am : List Addr} : ∀ {A x : List Value}, SR am A x → SR am A.reverse x.reverse
  | [], _, h => by cases h; rfl
  | _ :: _, _, ⟨w, ws', e, r1, r2⟩ => by
    subst e
    rw [List.reverse_cons, List.reverse_cons]
    exact SR.join (SR.rev r2) ⟨w, [], rfl, r1, rfl⟩
theorem SR.len {am : List Addr} : ∀ {A x : List Value}, SR am A x → x.length = A.length
  | [], _, h => by cases h; rfl
  | _ :: _, _, ⟨w, ws', e, r1, r2⟩ => by subst e; simp [SR.len r2]
def WFL (l : Array Slot) : Prop := (∀ (i : Nat) w, l[i]? = some (.val w) → w.category = 2 → l[i + 1]? = some .second) ∧ (∀ (i : Nat), l[i]? = some .second → ∃ (j : Nat) (w : Value), i = j + 1 ∧ l[j]? = some (.val w) ∧ w.category = 2)
/-- the places of the variables behind a store of one word -/
def After1 (l l' : Array Slot) (i : Nat) (v : Value) : Prop := ∀ j : Nat, l'[j]? = if j = i then some (.val v) else if j + 1 = i ∧ l[i]? = some .second then some .unset else if j = i + 1 ∧ l[j]? = some .second then some .unset else l[j]?
theorem sib (l : Array Slot) (i j : Nat) (x : Slot) (hi : i < l.size) : (l.setIfInBounds i x)[j]? = if j = i then some x else l[j]? := by
  by_cases h : j = i
  · subst h; simp [hi]
  · simp [Array.getElem?_setIfInBounds_ne (Ne.symm h), h]
theorem store1w {l : Array Slot} {i : Nat} {v : Value} (hw : WFL l) (hi : i < l.size) (hv : v.category = 1) : ∃ l', storeLocals l i v = some l' ∧ l'.size = l.size ∧ After1 l l' i v := by
  have hv2 : ¬ v.category = 2 := by omega
  have hg : l[i]? = some l[i] := Array.getElem?_eq_getElem hi
  cases hq : l[i] with
  | unset =>
    rw [hq] at hg
    refine ⟨l.setIfInBounds i (.val v), by simp [storeLocals, storeSelf, setAt, hg, hq, hi, hv2], by simp, fun j => ?_⟩
    rw [sib _ _ _ _ hi, hg]
    by_cases h : j = i
    · simp [h]
    · simp only [h, if_false, reduceCtorEq, and_false, Option.some.injEq]
      by_cases h2 : j = i + 1 ∧ l[j]? = some .second
      · obtain ⟨j', w, e1, e2, e3⟩ := hw.2 _ h2.2
        have : j' = i := by omega
        subst this; rw [hg] at e2; cases e2
      · simp [h2]
  | second =>
    rw [hq] at hg
    obtain ⟨j0, w, e1, e2, e3⟩ := hw.2 _ hg
    subst e1
    have hj0 : j0 < l.size := by omega
    refine ⟨(l.setIfInBounds j0 .unset).setIfInBounds (j0 + 1) (.val v), by simp [storeLocals, storeSelf, setAt, hg, hq, hi, hv2, hj0], by simp, fun j => ?_⟩
    rw [sib _ _ _ _ (by simpa using hi), sib _ _ _ _ hj0, hg]
    by_cases h : j = j0 + 1
    · simp [h]
    · by_cases h3 : j = j0
      · subst h3; simp
      · have h4 : ¬ (j + 1 = j0 + 1) := by omega
        by_cases h2 : j = j0 + 1 + 1 ∧ l[j]? = some .second
        · obtain ⟨j', w', f1, f2, f3⟩ := hw.2 _ h2.2
          have : j' = j0 + 1 := by omega
          subst this; rw [hg] at f2; cases f2
        · simp [h, h3, h2]
  | val old =>
    rw [hq] at hg
    by_cases hc : old.category = 2
    · have h1 := hw.1 _ _ hg hc
      have h1' := (Array.getElem?_eq_some_iff.mp h1).1
      refine ⟨(l.setIfInBounds (i + 1) .unset).setIfInBounds i (.val v), by simp [storeLocals, storeSelf, setAt, hg, hq, hi, hv2, hc, h1'], by simp, fun j => ?_⟩
      rw [sib _ _ _ _ (by simpa using hi), sib _ _ _ _ h1', hg]
      by_cases h : j = i
      · simp [h]
      · by_cases h3 : j = i + 1
        · subst h3; simp [h1]
        · simp [h, h3]
    · refine ⟨l.setIfInBounds i (.val v), by simp [storeLocals, storeSelf, setAt, hg, hq, hi, hv2, hc], by simp, fun j => ?_⟩
      rw [sib _ _ _ _ hi, hg]
      by_cases h : j = i
      · simp [h]
      · simp only [h, if_false, reduceCtorEq, and_false, Option.some.injEq]
        by_cases h2 : j = i + 1 ∧ l[j]? = some .second
        · obtain ⟨j', w, e1, e2, e3⟩ := hw.2 _ h2.2
          have : j' = i := by omega
          subst this; rw [hg] at e2; cases e2; exact absurd e3 hc
        · simp [h2]
theorem After1.wf {l l' : Array Slot} {i : Nat} {v : Value} (hw : WFL l) (hv : v.category = 1) (A : After1 l l' i v) : WFL l' := by
  refine ⟨fun j w h1 h2 => ?_, fun j h1 => ?_⟩
  · rw [A j] at h1
    by_cases c1 : j = i
    · simp only [c1, if_true, Option.some.injEq, Slot.val.injEq] at h1; subst h1; omega
    · rw [if_neg c1] at h1
      by_cases c2 : j + 1 = i ∧ l[i]? = some .second
      · rw [if_pos c2] at h1; cases h1
      · rw [if_neg c2] at h1
        by_cases c3 : j = i + 1 ∧ l[j]? = some .second
        · rw [if_pos c3] at h1; cases h1
        · rw [if_neg c3] at h1
          have h3 := hw.1 _ _ h1 h2
          rw [A (j + 1)]
          have n1 : ¬ (j + 1 = i) := fun q => c2 ⟨q, q ▸ h3⟩
          have n2 : ¬ (j + 1 + 1 = i ∧ l[i]? = some .second) := fun ⟨q1, q2⟩ => by
            obtain ⟨j', w', f1, f2, f3⟩ := hw.2 _ q2
            have : j' = j + 1 := by omega
            subst this; rw [h3] at f2; cases f2
          have n3 : ¬ (j + 1 = i + 1 ∧ l[j + 1]? = some .second) := fun ⟨q1, _⟩ => c1 (by omega)
          rw [if_neg n1, if_neg n2, if_neg n3]; exact h3
  · rw [A j] at h1
    by_cases c1 : j = i
    · rw [if_pos c1] at h1; cases h1
    · rw [if_neg c1] at h1
      by_cases c2 : j + 1 = i ∧ l[i]? = some .second
      · rw [if_pos c2] at h1; cases h1
      · rw [if_neg c2] at h1
        by_cases c3 : j = i + 1 ∧ l[j]? = some .second
        · rw [if_pos c3] at h1; cases h1
        · rw [if_neg c3] at h1
          obtain ⟨j', w, e1, e2, e3⟩ := hw.2 _ h1
          refine ⟨j', w, e1, ?_, e3⟩
          rw [A j']
          have n1 : ¬ (j' = i) := fun q => c3 ⟨by omega, h1⟩
          have n2 : ¬ (j' + 1 = i ∧ l[i]? = some .second) := fun ⟨q, _⟩ => c1 (by omega)
          have n3 : ¬ (j' = i + 1 ∧ l[j']? = some .second) := fun ⟨_, q⟩ => by rw [e2] at q; cases q
          rw [if_neg n1, if_neg n2, if_neg n3]; exact e2
def lng (o : Option Slot) : Bool := match o with | some (.val w) => decide (w.category = 2) | _ => false
theorem lng_iff (o : Option Slot) : lng o = true ↔ ∃ w, o = some (.val w) ∧ w.category = 2 := by
  unfold lng
  split
  · rename_i w; simp
  · rename_i h; simp; intro w hw; exact absurd hw (h w)
/-- behind a store of a long -/
def After2 (l l' : Array Slot) (i : Nat) (v : Value) : Prop := ∀ j : Nat, l'[j]? = if j = i then some (.val v) else if j = i + 1 then some .second else if j + 1 = i ∧ l[i]? = some .second then some .unset else if j = i + 2 ∧ l[j]? = some .second then some .unset else l[j]?
theorem self2 {l : Array Slot} {i : Nat} {v : Value} (hi : i + 1 < l.size) (hv : v.category = 2) (hz : ∀ w, l[i + 1]? = some (.val w) → w.category = 2 → i + 2 < l.size) :
    ∃ l', storeSelf l i v = some l' ∧ l'.size = l.size ∧ ∀ j : Nat, l'[j]? = if j = i then some (.val v) else if j = i + 1 then some .second else if j = i + 2 ∧ lng l[i + 1]? = true then some .unset else l[j]? := by
  have hi0 : i < l.size := by omega
  have hg : l[i + 1]? = some l[i + 1] := Array.getElem?_eq_getElem hi
  have hne : (l.setIfInBounds i (.val v))[i + 1]? = l[i + 1]? := Array.getElem?_setIfInBounds_ne (by omega)
  have hplain : (∀ w, l[i + 1] = .val w → ¬ w.category = 2) → storeSelf l i v = some ((l.setIfInBounds i (.val v)).setIfInBounds (i + 1) .second) := fun hn => by
    cases hq : l[i + 1] with
    | val w => simp [storeSelf, setAt, hi0, hv, hne, hg, hq, hn _ hq, hi]
    | unset => simp [storeSelf, setAt, hi0, hv, hne, hg, hq, hi]
    | second => simp [storeSelf, setAt, hi0, hv, hne, hg, hq, hi]
  by_cases hx : ∃ w, l[i + 1] = .val w ∧ w.category = 2
  · obtain ⟨w, hw1, hw2⟩ := hx
    have h2 := hz w (by rw [hg, hw1]) hw2
    refine ⟨((l.setIfInBounds i (.val v)).setIfInBounds (i + 2) .unset).setIfInBounds (i + 1) .second, by simp [storeSelf, setAt, hi0, hv, hne, hg, hw1, hw2, hi, h2], by simp, fun j => ?_⟩
    rw [sib _ _ _ _ (by simpa using hi), sib _ _ _ _ (by simpa using h2), sib _ _ _ _ hi0]
    have hE : lng l[i + 1]? = true := (lng_iff _).mpr ⟨w, by rw [hg, hw1], hw2⟩
    by_cases c1 : j = i
    · subst c1; simp
    · by_cases c2 : j = i + 1
      · subst c2; simp
      · by_cases c3 : j = i + 2
        · subst c3; simp [hE]
        · simp [c1, c2, c3]
  · refine ⟨_, hplain fun w h1 h2 => hx ⟨w, h1, h2⟩, by simp, fun j => ?_⟩
    rw [sib _ _ _ _ (by simpa using hi), sib _ _ _ _ hi0]
    have hE : ¬ lng l[i + 1]? = true := fun q => by
      obtain ⟨w, q1, q2⟩ := (lng_iff _).mp q
      exact hx ⟨w, by rw [hg] at q1; exact Option.some.inj q1, q2⟩
    by_cases c1 : j = i
    · subst c1; simp
    · by_cases c2 : j = i + 1
      · subst c2; simp
      · simp [c1, c2, hE]
theorem store2w {l : Array Slot} {i : Nat} {v : Value} (hw : WFL l) (hi : i + 1 < l.size) (hv : v.category = 2) : ∃ l', storeLocals l i v = some l' ∧ l'.size = l.size ∧ After2 l l' i v := by
  have hi0 : i < l.size := by omega
  have hg : l[i]? = some l[i] := Array.getElem?_eq_getElem hi0
  have hz : ∀ w, l[i + 1]? = some (.val w) → w.category = 2 → i + 2 < l.size := fun w q1 q2 => (Array.getElem?_eq_some_iff.mp (hw.1 _ _ q1 q2)).1
  have hsec : ∀ j : Nat, (j = i + 2 ∧ lng l[i + 1]? = true) ↔ (j = i + 2 ∧ l[j]? = some .second) := fun j => by
    constructor
    · rintro ⟨rfl, q⟩
      obtain ⟨w, q1, q2⟩ := (lng_iff _).mp q
      exact ⟨rfl, hw.1 _ _ q1 q2⟩
    · rintro ⟨rfl, q⟩
      obtain ⟨j', w, e1, e2, e3⟩ := hw.2 _ q
      have : j' = i + 1 := by omega
      subst this; exact ⟨rfl, (lng_iff _).mpr ⟨w, e2, e3⟩⟩
  cases hq : l[i] with
  | unset =>
    rw [hq] at hg
    obtain ⟨l', h1, h2, h3⟩ := self2 hi hv hz
    refine ⟨l', by simp [storeLocals, hg, hq, hi0, h1], h2, fun j => ?_⟩
    rw [h3 j, hg]; simp only [hsec, reduceCtorEq, and_false, if_false, Option.some.injEq]
  | second =>
    rw [hq] at hg
    obtain ⟨j0, w, e1, e2, e3⟩ := hw.2 _ hg
    subst e1
    have hj0 : j0 < l.size := by omega
    have hi' : j0 + 1 + 1 < (l.setIfInBounds j0 .unset).size := by simpa using hi
    have hk : ∀ j : Nat, j ≠ j0 → (l.setIfInBounds j0 .unset)[j]? = l[j]? := fun j h => Array.getElem?_setIfInBounds_ne (Ne.symm h)
    obtain ⟨l', h1, h2, h3⟩ := self2 (l := l.setIfInBounds j0 .unset) hi' hv (fun w q1 q2 => by rw [hk _ (by omega)] at q1; simpa using hz w q1 q2)
    refine ⟨l', by simp [storeLocals, setAt, hg, hq, hi0, hj0, h1], by simpa using h2, fun j => ?_⟩
    rw [h3 j, hg, hk (j0 + 1 + 1) (by omega)]; simp only [hsec]
    by_cases c1 : j = j0 + 1
    · simp [c1]
    · by_cases c2 : j = j0 + 1 + 1
      · simp [c2]
      · by_cases c3 : j = j0
        · subst c3; simp [hj0]
        · rw [hk _ c3]
          have : ¬ (j + 1 = j0 + 1) := by omega
          simp [c1, c2, c3]
  | val old =>
    rw [hq] at hg
    by_cases hc : old.category = 2
    · have g1 := hw.1 _ _ hg hc
      have hi' : i + 1 < (l.setIfInBounds (i + 1) .unset).size := by simpa using hi
      have hk : ∀ j : Nat, j ≠ i + 1 → (l.setIfInBounds (i + 1) .unset)[j]? = l[j]? := fun j h => Array.getElem?_setIfInBounds_ne (Ne.symm h)
      have hk1 : (l.setIfInBounds (i + 1) .unset)[i + 1]? = some .unset := by simp [hi]
      obtain ⟨l', h1, h2, h3⟩ := self2 (l := l.setIfInBounds (i + 1) .unset) hi' hv (fun w q1 q2 => by rw [hk1] at q1; cases q1)
      refine ⟨l', by simp [storeLocals, setAt, hg, hq, hi0, hc, hi, h1], by simpa using h2, fun j => ?_⟩
      rw [h3 j, hg, hk1]
      by_cases c1 : j = i
      · simp [c1]
      · by_cases c2 : j = i + 1
        · simp [c2]
        · rw [hk _ c2]
          have c3 : ¬ (j = i + 2 ∧ l[j]? = some .second) := fun ⟨q1, q2⟩ => by
            subst q1
            obtain ⟨j', w, e1, e2, e3⟩ := hw.2 _ q2
            have : j' = i + 1 := by omega
            subst this; rw [g1] at e2; cases e2
          simp [c1, c2, c3, lng]
    · obtain ⟨l', h1, h2, h3⟩ := self2 hi hv hz
      refine ⟨l', by simp [storeLocals, hg, hq, hi0, hc, h1], h2, fun j => ?_⟩
      rw [h3 j, hg]; simp only [hsec, reduceCtorEq, and_false, if_false, Option.some.injEq]
theorem After2.wf {l l' : Array Slot} {i : Nat} {v : Value} (hw : WFL l) (hv : v.category = 2) (A : After2 l l' i v) : WFL l' := by
  refine ⟨fun j w h1 h2 => ?_, fun j h1 => ?_⟩
  · rw [A j] at h1
    by_cases c1 : j = i
    · subst c1; rw [A (j + 1)]; simp
    · rw [if_neg c1] at h1
      by_cases c0 : j = i + 1
      · rw [if_pos c0] at h1; cases h1
      · rw [if_neg c0] at h1
        by_cases c2 : j + 1 = i ∧ l[i]? = some .second
        · rw [if_pos c2] at h1; cases h1
        · rw [if_neg c2] at h1
          by_cases c3 : j = i + 2 ∧ l[j]? = some .second
          · rw [if_pos c3] at h1; cases h1
          · rw [if_neg c3] at h1
            have h3 := hw.1 _ _ h1 h2
            rw [A (j + 1)]
            have n1 : ¬ (j + 1 = i) := fun q => c2 ⟨q, q ▸ h3⟩
            have n0 : ¬ (j + 1 = i + 1) := by omega
            have n2 : ¬ (j + 1 + 1 = i ∧ l[i]? = some .second) := fun ⟨q1, q2⟩ => by
              obtain ⟨j', w', f1, f2, f3⟩ := hw.2 _ q2
              have : j' = j + 1 := by omega
              subst this; rw [h3] at f2; cases f2
            have n3 : ¬ (j + 1 = i + 2 ∧ l[j + 1]? = some .second) := fun ⟨q1, _⟩ => c0 (by omega)
            rw [if_neg n1, if_neg n0, if_neg n2, if_neg n3]; exact h3
  · rw [A j] at h1
    by_cases c1 : j = i
    · rw [if_pos c1] at h1; cases h1
    · rw [if_neg c1] at h1
      by_cases c0 : j = i + 1
      · subst c0; exact ⟨i, v, rfl, by rw [A i]; simp, hv⟩
      · rw [if_neg c0] at h1
        by_cases c2 : j + 1 = i ∧ l[i]? = some .second
        · rw [if_pos c2] at h1; cases h1
        · rw [if_neg c2] at h1
          by_cases c3 : j = i + 2 ∧ l[j]? = some .second
          · rw [if_pos c3] at h1; cases h1
          · rw [if_neg c3] at h1
            obtain ⟨j', w, e1, e2, e3⟩ := hw.2 _ h1
            refine ⟨j', w, e1, ?_, e3⟩
            rw [A j']
            have n1 : ¬ (j' = i) := fun q => c0 (by omega)
            have n0 : ¬ (j' = i + 1) := fun q => c3 ⟨by omega, h1⟩
            have n2 : ¬ (j' + 1 = i ∧ l[i]? = some .second) := fun ⟨q, _⟩ => c1 (by omega)
            have n3 : ¬ (j' = i + 2 ∧ l[j']? = some .second) := fun ⟨_, q⟩ => by rw [e2] at q; cases q
            rw [if_neg n1, if_neg n0, if_neg n2, if_neg n3]; exact e2
def LR (am : List Addr) (L : ALoc) (l : Array Slot) : Prop := L.length = l.size ∧ WFL l ∧ ∀ (i : Nat) v, L[i]? = some (some v) → ∃ w, l[i]? = some (.val w) ∧ VR am v w
theorem LR.mono {am am' : List Addr} (h : Pre am am') {L : ALoc} {l : Array Slot} (r : LR am L l) : LR am' L l :=
  ⟨r.1, r.2.1, fun i v q => by obtain ⟨w, h1, h2⟩ := r.2.2 i v q; exact ⟨w, h1, h2.mono h⟩⟩
theorem kill1_len (L : ALoc) (i : Nat) : (kill1 L i).length = L.length := by
  unfold kill1; split
  · rfl
  · split <;> simp
theorem kill1_get {L : ALoc} {i j : Nat} {v : Value} (h : (kill1 L i)[j]? = some (some v)) : L[j]? = some (some v) ∧ (j + 1 = i → ∀ x, v ≠ .long x) := by
  unfold kill1 at h
  split at h
  · exact ⟨h, fun q => by omega⟩
  · rename_i i
    split at h
    · rename_i x hx
      by_cases e : j = i
      · subst e
        rw [List.getElem?_set] at h
        split at h
        · split at h <;> simp at h
        · omega
      · rw [List.getElem?_set_ne (Ne.symm e)] at h
        exact ⟨h, fun q => absurd (by omega) e⟩
    · rename_i hn
      refine ⟨h, fun q x e => ?_⟩
      have : j = i := by omega
      subst this; subst e; exact hn x h
theorem LR.put {am : List Addr} {L L' : ALoc} {l : Array Slot} {i : Nat} {v w : Value} (r : LR am L l) (h : lput L i v = some L') (hv : VR am v w) (hc : w.category = 1) : ∃ l', storeLocals l i w = some l' ∧ l'.size = l.size ∧ LR am L' l' := by
  unfold lput at h
  cases hb : Nat.ble (i + 1) L.length
  · rw [hb] at h; cases h
  · rw [hb] at h
    have hi : i < L.length := Nat.le_of_ble_eq_true hb
    simp only [cond_true, Option.some.injEq] at h
    obtain ⟨l', h1, h2, h3⟩ := store1w (v := w) r.2.1 (by rw [← r.1]; exact hi) hc
    refine ⟨l', h1, h2, ?_, h3.wf r.2.1 hc, fun j u hu => ?_⟩
    · rw [← h]; simp [kill1_len, r.1, h2]
    · rw [← h, List.getElem?_set] at hu
      rw [h3 j]
      by_cases c : i = j
      · subst c
        simp only [if_true] at hu
        split at hu
        · cases hu; exact ⟨w, by simp, hv⟩
        · cases hu
      · rw [if_neg c] at hu
        obtain ⟨q1, q2⟩ := kill1_get hu
        obtain ⟨w', q3, q4⟩ := r.2.2 j u q1
        have n1 : ¬ (j = i) := fun q => c q.symm
        have n2 : ¬ (j + 1 = i ∧ l[i]? = some .second) := fun ⟨a1, a2⟩ => by
          obtain ⟨j', w2, e1, e2, e3⟩ := r.2.1.2 _ a2
          have : j' = j := by omega
          subst this; rw [q3] at e2; cases e2
          have q5 := q4.cat
          rw [e3] at q5
          cases u <;> simp [OwnX.cat] at q5
          exact q2 a1 _ rfl
        have n3 : ¬ (j = i + 1 ∧ l[j]? = some .second) := fun ⟨_, q⟩ => by rw [q3] at q; cases q
        exact ⟨w', by rw [if_neg n1, if_neg n2, if_neg n3]; exact q3, q4⟩
theorem LR.putL {am : List Addr} {L L' : ALoc} {l : Array Slot} {i : Nat} {x : Int64} (r : LR am L l) (h : lputL L i x = some L') : ∃ l', storeLocals l i (.long x) = some l' ∧ l'.size = l.size ∧ LR am L' l' := by
  unfold lputL at h
  cases hb : Nat.ble (i + 2) L.length
  · rw [hb] at h; cases h
  · rw [hb] at h
    have hi : i + 1 < L.length := Nat.le_of_ble_eq_true hb
    simp only [cond_true, Option.some.injEq] at h
    obtain ⟨l', h1, h2, h3⟩ := store2w (v := .long x) r.2.1 (by rw [← r.1]; exact hi) rfl
    refine ⟨l', h1, h2, ?_, h3.wf r.2.1 rfl, fun j u hu => ?_⟩
    · rw [← h]; simp [kill1_len, r.1, h2]
    · rw [← h, List.getElem?_set] at hu
      rw [h3 j]
      by_cases c0 : i + 1 = j
      · subst c0
        simp only [if_true] at hu
        split at hu <;> cases hu
      · rw [if_neg c0, List.getElem?_set] at hu
        by_cases c : i = j
        · subst c
          simp only [if_true] at hu
          split at hu
          · cases hu; exact ⟨.long x, by simp, rfl⟩
          · cases hu
        · rw [if_neg c] at hu
          obtain ⟨q1, q2⟩ := kill1_get hu
          obtain ⟨w', q3, q4⟩ := r.2.2 j u q1
          have n1 : ¬ (j = i) := fun q => c q.symm
          have n0 : ¬ (j = i + 1) := fun q => c0 q.symm
          have n2 : ¬ (j + 1 = i ∧ l[i]? = some .second) := fun ⟨a1, a2⟩ => by
            obtain ⟨j', w2, e1, e2, e3⟩ := r.2.1.2 _ a2
            have : j' = j := by omega
            subst this; rw [q3] at e2; cases e2
            have q5 := q4.cat
            rw [e3] at q5
            cases u <;> simp [OwnX.cat] at q5
            exact q2 a1 _ rfl
          have n3 : ¬ (j = i + 2 ∧ l[j]? = some .second) := fun ⟨_, q⟩ => by rw [q3] at q; cases q
          exact ⟨w', by rw [if_neg n1, if_neg n0, if_neg n2, if_neg n3]; exact q3, q4⟩
theorem LR.int {am : List Addr} {L : ALoc} {l : Array Slot} {i : Nat} {x : Int32} (r : LR am L l) (h : loadI L i = some x) : l[i]? = some (.val (.int x)) := by
  unfold loadI at h
  split at h
  · rename_i y hy
    cases h
    obtain ⟨w, h1, h2⟩ := r.2.2 _ _ hy
    cases h2; exact h1
  · cases h
theorem LR.long {am : List Addr} {L : ALoc} {l : Array Slot} {i : Nat} {x : Int64} (r : LR am L l) (h : loadJ L i = some x) : l[i]? = some (.val (.long x)) := by
  unfold loadJ at h
  split at h
  · rename_i y hy
    cases h
    obtain ⟨w, h1, h2⟩ := r.2.2 _ _ hy
    cases h2; exact h1
  · cases h
theorem LR.ref {am : List Addr} {L : ALoc} {l : Array Slot} {i x : Nat} (r : LR am L l) (h : loadA L i = some x) : ∃ a, am[x]? = some a ∧ l[i]? = some (.val (.ref a)) := by
  unfold loadA at h
  split at h
  · rename_i y hy
    cases h
    obtain ⟨w, h1, a, h2, rfl⟩ := r.2.2 _ _ hy
    exact ⟨a, h2, h1⟩
  · cases h
end Jvm.OwnX
namespace Jvm.OwnX
open Sem ClassFile Op Lib Jvm.Stand Jvm.Free Jvm.LawKit Jvm.RoadKit
/-! ## the entry's variables -/
def slotsL : List Value → List Slot
  | [] => []
  | v :: r => if v.category = 2 then .val v :: .second :: slotsL r else .val v :: slotsL r
theorem fold_slots : ∀ (ws : List Value) (acc : Array Slot), ws.foldl (fun acc v => if v.category = 2 then (acc.push (.val v)).push .second else acc.push (.val v)) acc = acc ++ (slotsL ws).toArray
  | [], acc => by simp [slotsL]
  | v :: r, acc => by
    rw [List.foldl_cons, fold_slots r]
    by_cases h : v.category = 2
    · simp only [h, if_true, slotsL]; apply Array.ext'; simp
    · simp only [h, if_false, slotsL]; apply Array.ext'; simp
theorem argsToLocals_eq (ws : List Value) (n : Nat) : argsToLocals ws.toArray n = (slotsL ws ++ List.replicate (n - (slotsL ws).length) Slot.unset).toArray := by
  unfold argsToLocals
  have h : Array.foldl (fun acc v => if v.category = 2 then (acc.push (.val v)).push .second else acc.push (.val v)) #[] ws.toArray = (slotsL ws).toArray := by
    rw [List.foldl_toArray, fold_slots]; simp
  simp only [h]
  apply Array.ext'; simp
def WFl (s : List Slot) : Prop := (∀ (i : Nat) (w : Value), s[i]? = some (Slot.val w) → w.category = 2 → s[i + 1]? = some Slot.second) ∧ (∀ (i : Nat), s[i]? = some Slot.second → ∃ (j : Nat) (w : Value), i = j + 1 ∧ s[j]? = some (Slot.val w) ∧ w.category = 2)
theorem WFl.nil : WFl [] := ⟨fun i w h => by simp at h, fun i h => by simp at h⟩
theorem WFl.one {s : List Slot} (h : WFl s) {v : Value} (hv : ¬ v.category = 2) : WFl (.val v :: s) := by
  refine ⟨fun i w h1 h2 => ?_, fun i h1 => ?_⟩
  · cases i with
    | zero => simp at h1; subst h1; exact absurd h2 hv
    | succ i => rw [List.getElem?_cons_succ] at h1 ⊢; exact h.1 _ _ h1 h2
  · cases i with
    | zero => simp at h1
    | succ i =>
      rw [List.getElem?_cons_succ] at h1
      obtain ⟨j, w, rfl, e2, e3⟩ := h.2 _ h1
      exact ⟨j + 1, w, rfl, by rw [List.getElem?_cons_succ]; exact e2, e3⟩
theorem WFl.two {s : List Slot} (h : WFl s) {v : Value} (hv : v.category = 2) : WFl (.val v :: .second :: s) := by
  refine ⟨fun i w h1 h2 => ?_, fun i h1 => ?_⟩
  · match i with
    | 0 => simp
    | 1 => simp at h1
    | i + 2 => simp only [List.getElem?_cons_succ] at h1 ⊢; exact h.1 _ _ h1 h2
  · match i with
    | 0 => simp at h1
    | 1 => exact ⟨0, v, rfl, by simp, hv⟩
    | i + 2 =>
      simp only [List.getElem?_cons_succ] at h1
      obtain ⟨j, w, rfl, e2, e3⟩ := h.2 _ h1
      exact ⟨j + 2, w, rfl, by simp only [List.getElem?_cons_succ]; exact e2, e3⟩
theorem WFl.pad {s : List Slot} (h : WFl s) (n : Nat) : WFl (s ++ List.replicate n Slot.unset) := by
  have hk : ∀ (i : Nat) (x : Slot), (s ++ List.replicate n Slot.unset)[i]? = some x → x ≠ Slot.unset → s[i]? = some x := fun i x q hx => by
    by_cases c : i < s.length
    · rw [List.getElem?_append_left c] at q; exact q
    · rw [List.getElem?_append_right (by omega), List.getElem?_replicate] at q
      split at q
      · cases q; exact absurd rfl hx
      · cases q
  have hl : ∀ (i : Nat) (x : Slot), s[i]? = some x → (s ++ List.replicate n Slot.unset)[i]? = some x := fun i x q => by
    rw [List.getElem?_append_left (List.getElem?_eq_some_iff.mp q).1]; exact q
  refine ⟨fun i w h1 h2 => hl _ _ (h.1 _ _ (hk _ _ h1 (by simp)) h2), fun i h1 => ?_⟩
  obtain ⟨j, w, e1, e2, e3⟩ := h.2 _ (hk _ _ h1 (by simp))
  exact ⟨j, w, e1, hl _ _ e2, e3⟩
theorem slotsL_ok {am : List Addr} : ∀ {as ws : List Value}, SR am as ws → (entL as).length = (slotsL ws).length ∧ WFl (slotsL ws) ∧ ∀ (i : Nat) (v : Value), (entL as)[i]? = some (some v) → ∃ w, (slotsL ws)[i]? = some (Slot.val w) ∧ VR am v w
  | [], _, h => by cases h; exact ⟨rfl, WFl.nil, fun i v q => by simp [entL] at q⟩
  | v :: r, _, ⟨w, ws', e, r1, r2⟩ => by
    subst e
    obtain ⟨i1, i2, i3⟩ := slotsL_ok r2
    have hc := r1.cat
    by_cases h2 : ∃ x, v = .long x
    · obtain ⟨x, rfl⟩ := h2
      have hc2 : w.category = 2 := hc
      refine ⟨by simp [entL, slotsL, hc2, i1], by simp only [slotsL, hc2, if_true]; exact i2.two hc2, fun i u q => ?_⟩
      simp only [slotsL, hc2, if_true, entL] at q ⊢
      match i with
      | 0 => simp at q; subst q; exact ⟨w, by simp, r1⟩
      | 1 => simp at q
      | i + 2 => simp only [List.getElem?_cons_succ] at q ⊢; exact i3 i u q
    · have hv1 : OwnX.cat v = 1 := by cases v <;> first | rfl | (exact absurd ⟨_, rfl⟩ h2)
      have hc2 : ¬ w.category = 2 := by rw [hc, hv1]; decide
      have he : entL (v :: r) = some v :: entL r := by cases v <;> first | rfl | (exact absurd ⟨_, rfl⟩ h2)
      refine ⟨by simp [he, slotsL, hc2, i1], by simp only [slotsL, hc2, if_false]; exact i2.one hc2, fun i u q => ?_⟩
      rw [he] at q
      simp only [slotsL, hc2, if_false]
      match i with
      | 0 => simp at q; subst q; exact ⟨w, by simp, r1⟩
      | i + 1 => simp only [List.getElem?_cons_succ] at q ⊢; exact i3 i u q
theorem LR.entry {am : List Addr} {as ws : List Value} {n : Nat} (h : SR am as ws) (hn : (entL as).length ≤ n) : LR am (pad n (entL as)) (argsToLocals ws.toArray n) := by
  obtain ⟨h1, h2, h3⟩ := slotsL_ok h
  rw [argsToLocals_eq]
  have hw := h2.pad (n - (slotsL ws).length)
  refine ⟨by simp [pad, h1], ⟨fun i w q1 q2 => ?_, fun i q1 => ?_⟩, fun i v q => ?_⟩
  · rw [List.getElem?_toArray] at q1 ⊢; exact hw.1 _ _ q1 q2
  · rw [List.getElem?_toArray] at q1
    obtain ⟨j, w, e1, e2, e3⟩ := hw.2 _ q1
    exact ⟨j, w, e1, by rw [List.getElem?_toArray]; exact e2, e3⟩
  · have hi : i < (entL as).length := by
      by_cases c : i < (entL as).length
      · exact c
      · unfold pad at q
        rw [List.getElem?_append_right (by omega), List.getElem?_replicate] at q
        split at q
        · cases q
        · cases q
    unfold pad at q
    rw [List.getElem?_append_left hi] at q
    obtain ⟨w, e1, e2⟩ := h3 i v q
    exact ⟨w, by rw [List.getElem?_toArray, List.getElem?_append_left (by omega)]; exact e1, e2⟩
theorem entry_size {ws : List Value} {n : Nat} (h : (slotsL ws).length ≤ n) : (argsToLocals ws.toArray n).size = n := by
  rw [argsToLocals_eq]; simp; omega
/-! ## the heap -/
def aty : Nat → FieldType
  | 0 => .int
  | 1 => .int
  | 2 => .boolean
  | 3 => .byte
  | _ => .long
def CR (P : Prog) (C : String) (Z : State) (am : List Addr) (c : ACell) (h : Heap) (a : Addr) : Prop := match c with
  | .inl fs => Exa Z h a C ∧ fs.length = P.fields.length ∧ ∀ (j : Nat) (v : Value) (n d : String) (t : Nat) (f : Bool), fs[j]? = some v → P.fields[j]? = some (n, d, t, f) → ∃ w, VR am v w ∧ Fld Z h a C n d w
  | .inr (.inl (t, xs)) => ∃ cl, Arr Z h a cl (aty t) ∧ cl.slots.size = xs.length ∧ ∀ (j : Nat) (x : Int32), xs[j]? = some x → cl.slots[j]? = some (.int x)
  | .inr (.inr xs) => ∃ cl, Arr Z h a cl .long ∧ cl.slots.size = xs.length ∧ ∀ (j : Nat) (x : Int64), xs[j]? = some x → cl.slots[j]? = some (.long x)
def HR (P : Prog) (C : String) (Z : State) (n0 : Nat) (am : List Addr) (H : AHeap) (h : Heap) : Prop :=
  am.length = H.length ∧ (∀ (i j : Nat) (a : Addr), am[i]? = some a → am[j]? = some a → i = j) ∧ (∀ (i : Nat) (a : Addr), am[i]? = some a → a < h.size ∧ (P.ro ≤ i → n0 ≤ a)) ∧ ∀ (i : Nat) (c : ACell), H[i]? = some c → ∃ a, am[i]? = some a ∧ CR P C Z am c h a
section Heap
variable {P : Prog} {C : String} {Z : State} {n0 : Nat} {am am' : List Addr} {H : AHeap} {h h' : Heap} {a b : Addr} {c : ACell}
theorem CR.ext (E : Ext h h') (hp : Pre am am') (r : CR P C Z am c h a) : CR P C Z am' c h' a := by
  match c, r with
  | .inl fs, ⟨r1, r2, r3⟩ => exact ⟨r1.ext E, r2, fun j v n d t f q1 q2 => by obtain ⟨w, e1, e2⟩ := r3 j v n d t f q1 q2; exact ⟨w, e1.mono hp, e2.ext E⟩⟩
  | .inr (.inl (t, xs)), ⟨cl, r1, r2⟩ => exact ⟨cl, r1.ext E, r2⟩
  | .inr (.inr xs), ⟨cl, r1, r2⟩ => exact ⟨cl, r1.ext E, r2⟩
theorem CR.other {sl : Nat} {v : Value} (W : Wr h h' b sl v) (hne : a ≠ b) (r : CR P C Z am c h a) : CR P C Z am c h' a := by
  match c, r with
  | .inl fs, ⟨r1, r2, r3⟩ => exact ⟨r1.wr W, r2, fun j v n d t f q1 q2 => by obtain ⟨w, e1, e2⟩ := r3 j v n d t f q1 q2; exact ⟨w, e1, e2.other W (Or.inl hne)⟩⟩
  | .inr (.inl (t, xs)), ⟨cl, r1, r2⟩ => exact ⟨cl, r1.other W hne, r2⟩
  | .inr (.inr xs), ⟨cl, r1, r2⟩ => exact ⟨cl, r1.other W hne, r2⟩
/-- a new cell -/
theorem HR.push (E : Ext h h') (r : HR P C Z n0 am H h) (hlt : h.size < h'.size) (hn : n0 ≤ h.size) (hc : CR P C Z (am ++ [h.size]) c h' h.size) : HR P C Z n0 (am ++ [h.size]) (H ++ [c]) h' := by
  obtain ⟨r1, r2, r3, r4⟩ := r
  have hin : ∀ (i : Nat) (x : Addr), (am ++ [h.size])[i]? = some x → (am[i]? = some x ∧ i < am.length) ∨ (i = am.length ∧ x = h.size) := fun i x q => by
    by_cases ci : i < am.length
    · rw [List.getElem?_append_left ci] at q; exact Or.inl ⟨q, ci⟩
    · rw [List.getElem?_append_right (by omega)] at q
      have : i - am.length = 0 := by
        by_cases z : i - am.length = 0
        · exact z
        · rw [List.getElem?_eq_none (by simp; omega)] at q; cases q
      rw [this] at q
      simp at q
      exact Or.inr ⟨by omega, q.symm⟩
  refine ⟨by simp [r1], fun i j x q1 q2 => ?_, fun i x q => ?_, fun i d q => ?_⟩
  · rcases hin i x q1 with ⟨u1, u2⟩ | ⟨u1, u2⟩ <;> rcases hin j x q2 with ⟨v1, v2⟩ | ⟨v1, v2⟩
    · exact r2 _ _ _ u1 v1
    · subst v2; exact absurd (r3 _ _ u1).1 (Nat.lt_irrefl _)
    · subst u2; exact absurd (r3 _ _ v1).1 (Nat.lt_irrefl _)
    · omega
  · rcases hin i x q with ⟨u1, u2⟩ | ⟨u1, u2⟩
    · have := r3 _ _ u1; exact ⟨Nat.lt_of_lt_of_le this.1 E.1, this.2⟩
    · subst u2; exact ⟨hlt, fun _ => hn⟩
  · by_cases ci : i < H.length
    · rw [List.getElem?_append_left ci] at q
      obtain ⟨x, e1, e2⟩ := r4 i d q
      exact ⟨x, Pre.app am _ _ _ e1, e2.ext E (Pre.app am _)⟩
    · rw [List.getElem?_append_right (by omega)] at q
      have : i - H.length = 0 := by
        by_cases z : i - H.length = 0
        · exact z
        · rw [List.getElem?_eq_none (by simp; omega)] at q; cases q
      rw [this] at q
      simp at q; subst q
      have e : i = am.length := by omega
      exact ⟨h.size, by rw [e]; simp, hc⟩
/-- a cell changed in place -/
theorem HR.upd {i sl : Nat} {v : Value} (W : Wr h h' a sl v) (r : HR P C Z n0 am H h) (hi : am[i]? = some a) (hc : CR P C Z am c h' a) : HR P C Z n0 am (H.set i c) h' := by
  obtain ⟨r1, r2, r3, r4⟩ := r
  refine ⟨by simp [r1], r2, fun j x q => by rw [W.size]; exact r3 _ _ q, fun j d q => ?_⟩
  rw [List.getElem?_set] at q
  by_cases e : i = j
  · subst e
    simp only [if_true] at q
    split at q
    · cases q; exact ⟨a, hi, hc⟩
    · cases q
  · rw [if_neg e] at q
    obtain ⟨x, e1, e2⟩ := r4 j d q
    exact ⟨x, e1, e2.other W fun q => e (r2 _ _ _ hi (q ▸ e1))⟩
theorem inb_spec {n : Nat} {j : Int32} (h : inb n j = true) : ¬ (j < 0 ∨ n ≤ j.toNatClampNeg) := by
  simp only [inb, Bool.and_eq_true, Bool.not_eq_true', decide_eq_false_iff_not] at h
  have h2 : j.toNatClampNeg < n := Nat.le_of_ble_eq_true h.2
  rintro (q | q)
  · exact h.1 q
  · omega
theorem inb_lt {n : Nat} {j : Int32} (h : inb n j = true) : j.toNatClampNeg < n := by
  have := inb_spec h; exact Nat.lt_of_not_le fun q => this (Or.inr q)
theorem rd_at {xs : List Int32} {j : Int32} (h : inb xs.length j = true) : xs[j.toNatClampNeg]? = some (rd xs j) := by
  rw [rd, List.getD_eq_getElem?_getD, List.getElem?_eq_getElem (inb_lt h)]; rfl
theorem rdL_at {xs : List Int64} {j : Int32} (h : inb xs.length j = true) : xs[j.toNatClampNeg]? = some (rdL xs j) := by
  rw [rdL, List.getD_eq_getElem?_getD, List.getElem?_eq_getElem (inb_lt h)]; rfl
theorem CR.wrI {t : Nat} {xs : List Int32} {j x : Int32} (W : Wr h h' a j.toNatClampNeg (.int x)) (r : CR P C Z am (.inr (.inl (t, xs))) h a) : CR P C Z am (.inr (.inl (t, wr xs j x))) h' a := by
  obtain ⟨cl, r1, r2, r3⟩ := r
  refine ⟨_, r1.same W, by rw [sz_set, r2]; simp [wr], fun i y q => ?_⟩
  unfold wr at q
  rw [List.getElem?_set] at q
  by_cases e : j.toNatClampNeg = i
  · rw [if_pos e] at q
    split at q
    · cases q; subst e
      have hs : j.toNatClampNeg < cl.slots.size := by omega
      simp [Cell.setSlot, hs]
    · cases q
  · rw [if_neg e] at q
    simp only [Cell.setSlot]
    rw [Array.getElem?_setIfInBounds_ne e]; exact r3 _ _ q
theorem CR.wrJ {xs : List Int64} {j : Int32} {x : Int64} (W : Wr h h' a j.toNatClampNeg (.long x)) (r : CR P C Z am (.inr (.inr xs)) h a) : CR P C Z am (.inr (.inr (wrL xs j x))) h' a := by
  obtain ⟨cl, r1, r2, r3⟩ := r
  refine ⟨_, r1.same W, by rw [sz_set, r2]; simp [wrL], fun i y q => ?_⟩
  unfold wrL at q
  rw [List.getElem?_set] at q
  by_cases e : j.toNatClampNeg = i
  · rw [if_pos e] at q
    split at q
    · cases q; subst e
      have hs : j.toNatClampNeg < cl.slots.size := by omega
      simp [Cell.setSlot, hs]
    · cases q
  · rw [if_neg e] at q
    simp only [Cell.setSlot]
    rw [Array.getElem?_setIfInBounds_ne e]; exact r3 _ _ q
end Heap
/-! ## what the sheet's words must say -/
def tyOk : Nat → FieldType → Bool
  | 0, .int => true
  | 1, .boolean => true
  | 2, .long => true
  | 3, .array _ => true
  | _, _ => false
def rcv (q : Nat) : Nat := match q with | 0 => 0 | _ => 1
def KindOk (P : Prog) (nm : Nat → MethodName) (C : String) (Z : State) (a0 : Array Value) (q k : Nat) : Prop := match q with
  | 0 => (Cond.static (nm k)).before a0 Z = true
  | 1 => (nm k).name = "<init>" ∧ (Cond.instanceMethod (nm k)).before a0 Z = true ∧ P.ret k = none
  | 2 => (Cond.declares (nm k)).before a0 Z = true ∧ (Cond.instanceMethod (nm k)).before a0 Z = true ∧ (Cond.selects C (nm k) (nm k)).before a0 Z = true
  | _ => (nm k).cls = C ∧ (Cond.instanceMethod (nm k)).before a0 Z = true ∧ (Cond.privateMethod (nm k)).before a0 Z = true
def CallOk (P : Prog) (nm : Nat → MethodName) (bc : Nat → ByteArray) (cn : Nat → String) (C : String) (Z : State) (a0 : Array Value) (c j q k : Nat) : Prop :=
  (Cond.methodLink (cn c) j (nm k)).before a0 Z = true ∧ (Cond.code (nm k) (bc k) (P.maxL k) (P.ret k)).before a0 Z = true ∧ (Cond.initialized (nm k).cls).before a0 Z = true ∧
      (∃ ps r, parseMethodDescriptor (nm k).desc = some ⟨ps, r⟩ ∧ P.pops k = ps.length + rcv q) ∧ plainName (nm k).cls = true ∧ ((nm k).cls ≠ "java/lang/invoke/MethodHandle" ∧ (nm k).cls ≠ "java/lang/invoke/VarHandle") ∧ (nm k).cls = cn (P.cls k) ∧ (P.ini k = true → (nm k).name = "<init>" ∧ (nm k).cls = C) ∧ KindOk P nm C Z a0 q k
def LinkOk (P : Prog) (nm : Nat → MethodName) (bc : Nat → ByteArray) (cn : Nat → String) (C : String) (Z : State) (a0 : Array Value) (c j q k : Nat) : Prop := match q with
  | 4 => (Cond.methodLink (cn c) j Lib.objectInit).before a0 Z = true ∧ (Cond.instanceMethod Lib.objectInit).before a0 Z = true ∧ (Cond.code Lib.objectInit ⟨#[0xb1]⟩ 1 none).before a0 Z = true
  | 5 => (Cond.classLink (cn c) j C).before a0 Z = true
  | q => CallOk P nm bc cn C Z a0 c j q k
def KonOk (cn : Nat → String) (Z : State) (a0 : Array Value) (c j : Nat) (v : Value) : Prop := match v with
  | .int x => (Cond.constant (cn c) j x).before a0 Z = true
  | .long x => (Cond.constantLong (cn c) j x).before a0 Z = true
  | _ => False
def Good (P : Prog) (nm : Nat → MethodName) (bc : Nat → ByteArray) (cn : Nat → String) (C : String) (Z : State) (a0 : Array Value) : Prop :=
  (∀ k pc i np, P.code k pc = some (i, np) → ∃ len, decode (bc k) pc = .ok (i, len) ∧ np = pc + len ∧ (ilen i = 0 ∨ len = ilen i)) ∧
  (∀ c j f, P.fld c j = some f → ∃ n d t fin, P.fields[f]? = some (n, d, t, fin) ∧ (Cond.fieldLink (cn c) j C n d).before a0 Z = true) ∧
  (∀ (f : Nat) n d t (fin : Bool), P.fields[f]? = some (n, d, t, fin) → (bif fin then (Cond.laysFinal C C n d).before a0 Z else (Cond.lays C C n d).before a0 Z) = true ∧ ∃ ty, parseFieldDescriptor d = some ty ∧ tyOk t ty = true ∧ defaultValue ty = dflt t) ∧
  (∀ (f g : Nat) n d t (fin : Bool) n' d' t' (fin' : Bool), P.fields[f]? = some (n, d, t, fin) → P.fields[g]? = some (n', d', t', fin') → f ≠ g → n ≠ n') ∧
  (∀ c j v, P.kon c j = some v → KonOk cn Z a0 c j v) ∧
  (Cond.instantiable C P.objN).before a0 Z = true ∧ (Cond.initialized C).before a0 Z = true ∧
  (∀ k pc t np, P.code k pc = some (.newarray t, np) → (Cond.arrayClass (newarray.typeOf t)).before a0 Z = true) ∧
  (∀ c j q k, P.link c j = some (q, k) → LinkOk P nm bc cn C Z a0 c j q k)
end Jvm.OwnX
namespace Jvm.OwnX
open Sem ClassFile Op Lib Jvm.Stand Jvm.Free Jvm.LawKit Jvm.RoadKit
section Sound
variable {p : Program} {l : Launch} {e : Env} {R : Room} {s : State} {m : MethodId} {args : Array Value} {below : List Frame} {meth : Method} {c : Code} {T : State} {locs : List Loc} {cells slots : Nat}
variable {P : Prog} {nm : Nat → MethodName} {bc : Nat → ByteArray} {cn : Nat → String} {C : String} {Z : State} {a0 : Array Value} {n0 : Nat}
/-- where the walk stands behind a step -/
def Behind (p : Program) (l : Launch) (e : Env) (R : Room) (s : State) (m : MethodId) (args : Array Value) (below : List Frame) (meth : Method) (c : Code) (P : Prog) (C : String) (Z : State) (n0 : Nat) (am : List Addr) (cells slots : Nat)
    (T : State) (pc : Nat) (ls : Array Slot) (st : List Value) (pc' : Nat) (L' : ALoc) (S' : List Value) (H' : AHeap) (dc ds : Nat) : Prop :=
  ∃ T' am' ls' st' locs', Stand p l e R s m args below meth c T' locs' (cells + dc) (slots + ds) ∧ LR am' L' ls' ∧ ls'.size = ls.size ∧ SR am' S' st' ∧ HR P C Z n0 am' H' T'.heap ∧ Pre am am' ∧ Fr n0 locs' ∧ n0 ≤ T'.heap.size ∧
    ∀ target, Steps p.tables e below (T'.setTop (mkF m pc' ls' st')) target → Steps p.tables e below (T.setTop (mkF m pc ls st)) target
theorem Behind.plain {am : List Addr} {H : AHeap} {pc pc' : Nat} {L' : ALoc} {S' : List Value} {ls ls' : Array Slot} {st st' : List Value} (X : Stand p l e R s m args below meth c T locs cells slots) (hL : LR am L' ls') (hz : ls'.size = ls.size) (hS : SR am S' st') (hH : HR P C Z n0 am H T.heap) (hF : Fr n0 locs) (hn : n0 ≤ T.heap.size)
    (hs : ∀ target, Steps p.tables e below (T.setTop (mkF m pc' ls' st')) target → Steps p.tables e below (T.setTop (mkF m pc ls st)) target) : Behind p l e R s m args below meth c P C Z n0 am cells slots T pc ls st pc' L' S' H (H.length - H.length) (hsz P H - hsz P H) :=
  ⟨T, am, ls', st', locs, by simpa using X, hL, hz, hS, hH, Pre.refl _, hF, hn, hs⟩
theorem Behind.plain' {T' : State} {am : List Addr} {H : AHeap} {pc pc' : Nat} {L' : ALoc} {S' : List Value} {ls ls' : Array Slot} {st st' : List Value} (X : Stand p l e R s m args below meth c T' locs cells slots) (eT : T'.heap = T.heap) (hL : LR am L' ls') (hz : ls'.size = ls.size) (hS : SR am S' st') (hH : HR P C Z n0 am H T.heap) (hF : Fr n0 locs) (hn : n0 ≤ T.heap.size)
    (hs : ∀ target, Steps p.tables e below (T'.setTop (mkF m pc' ls' st')) target → Steps p.tables e below (T.setTop (mkF m pc ls st)) target) : Behind p l e R s m args below meth c P C Z n0 am cells slots T pc ls st pc' L' S' H (H.length - H.length) (hsz P H - hsz P H) :=
  ⟨T', am, ls', st', locs, by simpa using X, hL, hz, hS, by rw [eT]; exact hH, Pre.refl _, hF, by rw [eT]; exact hn, hs⟩
theorem tgt_spec {pc t : Nat} {o : Int} (h : tgt pc o = some t) : 0 ≤ (pc : Int) + o ∧ ((pc : Int) + o).toNat = t := by
  unfold tgt at h
  split at h
  · rename_i n hn; cases h; rw [hn]; exact ⟨Int.natCast_nonneg _, rfl⟩
  · cases h
theorem hsz_app (P : Prog) : ∀ (H : AHeap) (c : ACell), hsz P (H ++ [c]) = hsz P H + csz P.objN c
  | [], c => by simp [hsz]
  | x :: r, c => by simp only [List.cons_append, hsz, hsz_app P r c]; omega
theorem hsz_append (P : Prog) : ∀ (H T : AHeap), hsz P (H ++ T) = hsz P H + hsz P T
  | [], T => by simp [hsz]
  | x :: r, T => by simp only [List.cons_append, hsz, hsz_append P r T]; omega
theorem hsz_set (P : Prog) : ∀ (H : AHeap) (i : Nat) (c c' : ACell), H[i]? = some c' → csz P.objN c = csz P.objN c' → hsz P (H.set i c) = hsz P H
  | [], i, c, c', h, _ => by simp at h
  | x :: r, 0, c, c', h, e => by simp at h; subst h; simp [hsz, e]
  | x :: r, i + 1, c, c', h, e => by simp only [List.set_cons_succ, hsz]; rw [List.getElem?_cons_succ] at h; rw [hsz_set P r i c c' h e]
/-- a write -/
theorem Behind.write {T' : State} {am : List Addr} {H : AHeap} {i sl : Nat} {cc cc' : ACell} {a : Addr} {w : Value} {h' : Heap} {pc pc' : Nat} {L' : ALoc} {S' : List Value} {ls : Array Slot} {st st' : List Value} (X : Stand p l e R s m args below meth c T' (locs ++ [⟨a, sl⟩]) cells slots) (eT : T'.heap = h') (W : Wr T.heap h' a sl w)
    (hL : LR am L' ls) (hS : SR am S' st') (hH : HR P C Z n0 am H T.heap) (hi : am[i]? = some a) (hro : P.ro ≤ i) (hc' : H[i]? = some cc') (hcs : csz P.objN cc = csz P.objN cc') (hC : CR P C Z am cc h' a) (hF : Fr n0 locs) (hn : n0 ≤ T.heap.size)
    (hs : ∀ target, Steps p.tables e below (T'.setTop (mkF m pc' ls st')) target → Steps p.tables e below (T.setTop (mkF m pc ls st)) target) :
    Behind p l e R s m args below meth c P C Z n0 am cells slots T pc ls st pc' L' S' (H.set i cc) ((H.set i cc).length - H.length) (hsz P (H.set i cc) - hsz P H) := by
  rw [hsz_set P H i cc cc' hc' hcs]
  refine ⟨T', am, ls, st', _, by simpa using X, hL, rfl, hS, by rw [eT]; exact hH.upd W hi hC, Pre.refl _, Fr.snoc X hF ((hH.2.2.1 _ _ hi).2 hro), by rw [eT, W.size]; exact hn, hs⟩
theorem arr_new {am : List Addr} {h h' : Heap} {cA : ClassId} {q : Nat} {n : Int32} {t : ArrayType} (ht : atyOf t = some q) (hn : ¬ n < 0) (A : Arr Z h' h.size (newA cA (newarray.typeOf t) n) (newarray.typeOf t)) : CR P C Z am (newC q n.toNatClampNeg) h' h.size := by
  have key : ∀ {d : Value}, ∀ j, (Array.replicate n.toNatClampNeg d)[j]? = if j < n.toNatClampNeg then some d else none := fun j => by rw [Array.getElem?_replicate]
  cases t <;> simp only [atyOf, Option.some.injEq, reduceCtorEq] at ht <;> subst ht
  · refine ⟨_, A, by simp [newA], fun j x q => ?_⟩
    rw [List.getElem?_replicate] at q
    split at q
    · cases q; simp only [newA]; rw [key, if_pos (by assumption)]; rfl
    · cases q
  · refine ⟨_, A, by simp [newA], fun j x q => ?_⟩
    rw [List.getElem?_replicate] at q
    split at q
    · cases q; simp only [newA]; rw [key, if_pos (by assumption)]; rfl
    · cases q
  · refine ⟨_, A, by simp [newA], fun j x q => ?_⟩
    rw [List.getElem?_replicate] at q
    split at q
    · cases q; simp only [newA]; rw [key, if_pos (by assumption)]; rfl
    · cases q
  · refine ⟨_, A, by simp [newA], fun j x q => ?_⟩
    rw [List.getElem?_replicate] at q
    split at q
    · cases q; simp only [newA]; rw [key, if_pos (by assumption)]; rfl
    · cases q
theorem csz_new {t : ArrayType} {q : Nat} (N n : Nat) (ht : atyOf t = some q) : csz N (newC q n) = n := by
  cases t <;> simp only [atyOf, Option.some.injEq, reduceCtorEq] at ht <;> subst ht <;> simp [newC, csz]
set_option maxHeartbeats 4000000 in
theorem step_sound (G : Good P nm bc cn C Z a0) {k pc np pc' : Nat} {i : Instr} {L L' : ALoc} {S S' : List Value} {H H' : AHeap} (hcode : P.code k pc = some (i, np)) (h : step P k i np pc L S H = some (pc', L', S', H'))
    (X : Stand p l e R s m args below meth c T locs cells slots) (hx : p.tables.exec = Jvm.exec) (hZ : Z.Warmed39 s.vm) (hby : c.code = bc k) (hml : c.maxLocals = P.maxL k) (hown : s.vm.findClass (cn (P.cls k)) = some m.cls) (hini : P.ini k = true → meth.name = "<init>" ∧ cn (P.cls k) = C)
    (hrf : P.rf k ≤ R.frames) (hrl : P.rl k ≤ R.locals) (hcells : cells + (H'.length - H.length) ≤ R.cells) (hslots : slots + (hsz P H' - hsz P H) ≤ R.slots) {am : List Addr} {ls : Array Slot} {st : List Value} (hlz : ls.size = P.maxL k) (hL : LR am L ls) (hS : SR am S st) (hH : HR P C Z n0 am H T.heap) (hF : Fr n0 locs) (hn : n0 ≤ T.heap.size) :
    Behind p l e R s m args below meth c P C Z n0 am cells slots T pc ls st pc' L' S' H' (H'.length - H.length) (hsz P H' - hsz P H) := by
  obtain ⟨G1, G2, G3, G4, G5, G6, G7, G8, G9⟩ := G
  obtain ⟨len, hdec, rfl, hlen⟩ := G1 _ _ _ _ hcode
  have hd : decode c.code pc = .ok (i, len) := by rw [hby]; exact hdec
  cases i
  case iload_n n =>
    simp only [step] at h
    obtain rfl := hlen.resolve_left (by simp [ilen])
    cases hl : loadI L n.val with
    | none => simp [hl] at h
    | some x =>
      simp only [hl, Option.some.injEq, Prod.mk.injEq] at h; obtain ⟨rfl, rfl, rfl, rfl⟩ := h
      exact Behind.plain X hL rfl ⟨_, _, rfl, rfl, hS⟩ hH hF hn fun target hr => XS.iloadN X.here hx rfl (g := mkF m pc ls st) hd (hL.int hl) hr
  case iload n =>
    simp only [step] at h
    obtain rfl := hlen.resolve_left (by simp [ilen])
    cases hl : loadI L n with
    | none => simp [hl] at h
    | some x =>
      simp only [hl, Option.some.injEq, Prod.mk.injEq] at h; obtain ⟨rfl, rfl, rfl, rfl⟩ := h
      exact Behind.plain X hL rfl ⟨_, _, rfl, rfl, hS⟩ hH hF hn fun target hr => XS.iload X.here hx rfl (g := mkF m pc ls st) hd (hL.int hl) hr
  case lload_n n =>
    simp only [step] at h
    obtain rfl := hlen.resolve_left (by simp [ilen])
    cases hl : loadJ L n.val with
    | none => simp [hl] at h
    | some x =>
      simp only [hl, Option.some.injEq, Prod.mk.injEq] at h; obtain ⟨rfl, rfl, rfl, rfl⟩ := h
      exact Behind.plain X hL rfl ⟨_, _, rfl, rfl, hS⟩ hH hF hn fun target hr => XS.lloadN X.here hx rfl (g := mkF m pc ls st) hd (hL.long hl) hr
  case lload n =>
    simp only [step] at h
    obtain rfl := hlen.resolve_left (by simp [ilen])
    cases hl : loadJ L n with
    | none => simp [hl] at h
    | some x =>
      simp only [hl, Option.some.injEq, Prod.mk.injEq] at h; obtain ⟨rfl, rfl, rfl, rfl⟩ := h
      exact Behind.plain X hL rfl ⟨_, _, rfl, rfl, hS⟩ hH hF hn fun target hr => XS.lload X.here hx rfl (g := mkF m pc ls st) hd (hL.long hl) hr
  case aload_n n =>
    simp only [step] at h
    obtain rfl := hlen.resolve_left (by simp [ilen])
    cases hl : loadA L n.val with
    | none => simp [hl] at h
    | some x =>
      simp only [hl, Option.some.injEq, Prod.mk.injEq] at h; obtain ⟨rfl, rfl, rfl, rfl⟩ := h
      obtain ⟨a, ha, hl'⟩ := hL.ref hl
      exact Behind.plain X hL rfl ⟨_, _, rfl, ⟨a, ha, rfl⟩, hS⟩ hH hF hn fun target hr => XS.aloadN X.here hx rfl (g := mkF m pc ls st) hd hl' rfl hr
  case aload n =>
    simp only [step] at h
    obtain rfl := hlen.resolve_left (by simp [ilen])
    cases hl : loadA L n with
    | none => simp [hl] at h
    | some x =>
      simp only [hl, Option.some.injEq, Prod.mk.injEq] at h; obtain ⟨rfl, rfl, rfl, rfl⟩ := h
      obtain ⟨a, ha, hl'⟩ := hL.ref hl
      exact Behind.plain X hL rfl ⟨_, _, rfl, ⟨a, ha, rfl⟩, hS⟩ hH hF hn fun target hr => XS.aload X.here hx rfl (g := mkF m pc ls st) hd hl' rfl hr
  case istore_n n =>
    simp only [step] at h
    obtain rfl := hlen.resolve_left (by simp [ilen])
    split at h
    · rename_i x r
      cases hl : lput L n.val (.int x) with
      | none => simp [hl] at h
      | some L2 =>
        simp only [hl, Option.some.injEq, Prod.mk.injEq] at h; obtain ⟨rfl, rfl, rfl, rfl⟩ := h
        obtain ⟨_, _, rfl, rfl, hr'⟩ := hS
        obtain ⟨l', h1, h2, h3⟩ := hL.put (w := .int x) hl rfl rfl
        exact Behind.plain X h3 h2 hr' hH hF hn fun target hr => XS.istoreN X.here hx rfl (g := mkF m pc ls _) hd rfl h1 hr
    · cases h
  case istore n =>
    simp only [step] at h
    obtain rfl := hlen.resolve_left (by simp [ilen])
    split at h
    · rename_i x r
      cases hl : lput L n (.int x) with
      | none => simp [hl] at h
      | some L2 =>
        simp only [hl, Option.some.injEq, Prod.mk.injEq] at h; obtain ⟨rfl, rfl, rfl, rfl⟩ := h
        obtain ⟨_, _, rfl, rfl, hr'⟩ := hS
        obtain ⟨l', h1, h2, h3⟩ := hL.put (w := .int x) hl rfl rfl
        exact Behind.plain X h3 h2 hr' hH hF hn fun target hr => XS.istore X.here hx rfl (g := mkF m pc ls _) hd rfl h1 hr
    · cases h
  case lstore_n n =>
    simp only [step] at h
    obtain rfl := hlen.resolve_left (by simp [ilen])
    split at h
    · rename_i x r
      cases hl : lputL L n.val x with
      | none => simp [hl] at h
      | some L2 =>
        simp only [hl, Option.some.injEq, Prod.mk.injEq] at h; obtain ⟨rfl, rfl, rfl, rfl⟩ := h
        obtain ⟨_, _, rfl, rfl, hr'⟩ := hS
        obtain ⟨l', h1, h2, h3⟩ := hL.putL hl
        exact Behind.plain X h3 h2 hr' hH hF hn fun target hr => XS.lstoreN X.here hx rfl (g := mkF m pc ls _) hd rfl h1 hr
    · cases h
  case lstore n =>
    simp only [step] at h
    obtain rfl := hlen.resolve_left (by simp [ilen])
    split at h
    · rename_i x r
      cases hl : lputL L n x with
      | none => simp [hl] at h
      | some L2 =>
        simp only [hl, Option.some.injEq, Prod.mk.injEq] at h; obtain ⟨rfl, rfl, rfl, rfl⟩ := h
        obtain ⟨_, _, rfl, rfl, hr'⟩ := hS
        obtain ⟨l', h1, h2, h3⟩ := hL.putL hl
        exact Behind.plain X h3 h2 hr' hH hF hn fun target hr => XS.lstore X.here hx rfl (g := mkF m pc ls _) hd rfl h1 hr
    · cases h
  case astore_n n =>
    simp only [step] at h
    obtain rfl := hlen.resolve_left (by simp [ilen])
    split at h
    · rename_i x r
      cases hl : lput L n.val (.ref x) with
      | none => simp [hl] at h
      | some L2 =>
        simp only [hl, Option.some.injEq, Prod.mk.injEq] at h; obtain ⟨rfl, rfl, rfl, rfl⟩ := h
        obtain ⟨_, _, rfl, ⟨a, ha, rfl⟩, hr'⟩ := hS
        obtain ⟨l', h1, h2, h3⟩ := hL.put (w := .ref a) hl ⟨a, ha, rfl⟩ rfl
        exact Behind.plain X h3 h2 hr' hH hF hn fun target hr => XS.astoreN X.here hx rfl (g := mkF m pc ls _) hd rfl rfl h1 hr
    · cases h
  case astore n =>
    simp only [step] at h
    obtain rfl := hlen.resolve_left (by simp [ilen])
    split at h
    · rename_i x r
      cases hl : lput L n (.ref x) with
      | none => simp [hl] at h
      | some L2 =>
        simp only [hl, Option.some.injEq, Prod.mk.injEq] at h; obtain ⟨rfl, rfl, rfl, rfl⟩ := h
        obtain ⟨_, _, rfl, ⟨a, ha, rfl⟩, hr'⟩ := hS
        obtain ⟨l', h1, h2, h3⟩ := hL.put (w := .ref a) hl ⟨a, ha, rfl⟩ rfl
        exact Behind.plain X h3 h2 hr' hH hF hn fun target hr => XS.astore X.here hx rfl (g := mkF m pc ls _) hd rfl rfl h1 hr
    · cases h
  case iinc n cst =>
    simp only [step] at h
    obtain rfl := hlen.resolve_left (by simp [ilen])
    cases hl : loadI L n with
    | none => simp [hl] at h
    | some x =>
      cases hp : lput L n (.int (x + Int32.ofInt cst)) with
      | none => simp [hl, hp] at h
      | some L2 =>
        simp only [hl, hp, Option.some.injEq, Prod.mk.injEq] at h; obtain ⟨rfl, rfl, rfl, rfl⟩ := h
        obtain ⟨l', h1, h2, h3⟩ := hL.put (w := .int (x + Int32.ofInt cst)) hp rfl rfl
        exact Behind.plain X h3 h2 hS hH hF hn fun target hr => XS.iinc X.here hx rfl (g := mkF m pc ls st) hd (hL.int hl) h1 hr
  case iconst q =>
    simp only [step] at h
    obtain rfl := hlen.resolve_left (by simp [ilen])
    simp only [Option.some.injEq, Prod.mk.injEq] at h; obtain ⟨rfl, rfl, rfl, rfl⟩ := h
    exact Behind.plain X hL rfl ⟨_, _, rfl, rfl, hS⟩ hH hF hn fun target hr => XS.iconst X.here hx rfl (g := mkF m pc ls st) hd hr
  case bipush q =>
    simp only [step] at h
    obtain rfl := hlen.resolve_left (by simp [ilen])
    simp only [Option.some.injEq, Prod.mk.injEq] at h; obtain ⟨rfl, rfl, rfl, rfl⟩ := h
    exact Behind.plain X hL rfl ⟨_, _, rfl, rfl, hS⟩ hH hF hn fun target hr => XS.bipush X.here hx rfl (g := mkF m pc ls st) hd hr
  case sipush q =>
    simp only [step] at h
    obtain rfl := hlen.resolve_left (by simp [ilen])
    simp only [Option.some.injEq, Prod.mk.injEq] at h; obtain ⟨rfl, rfl, rfl, rfl⟩ := h
    exact Behind.plain X hL rfl ⟨_, _, rfl, rfl, hS⟩ hH hF hn fun target hr => XS.sipush X.here hx rfl (g := mkF m pc ls st) hd hr
  case lconst q =>
    simp only [step] at h
    obtain rfl := hlen.resolve_left (by simp [ilen])
    simp only [Option.some.injEq, Prod.mk.injEq] at h; obtain ⟨rfl, rfl, rfl, rfl⟩ := h
    exact Behind.plain X hL rfl ⟨_, _, rfl, rfl, hS⟩ hH hF hn fun target hr => XS.lconst X.here hx rfl (g := mkF m pc ls st) hd hr
  case ldc j =>
    simp only [step] at h
    obtain rfl := hlen.resolve_left (by simp [ilen])
    split at h
    · rename_i x hk
      simp only [Option.some.injEq, Prod.mk.injEq] at h; obtain ⟨rfl, rfl, rfl, rfl⟩ := h
      have w := G5 _ _ _ hk
      exact Behind.plain X hL rfl ⟨_, _, rfl, rfl, hS⟩ hH hF hn fun target hr => X.ldcInt hx hown (mvT hZ w) (g := mkF m pc ls st) rfl hd _ hr
    · cases h
  case ldc2_w j =>
    simp only [step] at h
    obtain rfl := hlen.resolve_left (by simp [ilen])
    split at h
    · rename_i x hk
      simp only [Option.some.injEq, Prod.mk.injEq] at h; obtain ⟨rfl, rfl, rfl, rfl⟩ := h
      have w := G5 _ _ _ hk
      exact Behind.plain X hL rfl ⟨_, _, rfl, rfl, hS⟩ hH hF hn fun target hr => X.ldc2Long hx hown (mvT hZ w) (g := mkF m pc ls st) rfl hd _ hr
    · cases h
  case idiv =>
    simp only [step] at h
    obtain rfl := hlen.resolve_left (by simp [ilen])
    split at h
    · rename_i y x r
      by_cases hy : y = 0
      · simp [hy] at h
      · simp only [hy, decide_false, cond_false, Option.some.injEq, Prod.mk.injEq] at h; obtain ⟨rfl, rfl, rfl, rfl⟩ := h
        obtain ⟨_, _, rfl, rfl, _, _, rfl, rfl, hr'⟩ := hS
        exact Behind.plain X hL rfl ⟨_, _, rfl, rfl, hr'⟩ hH hF hn fun target hr => XS.idiv X.here hx rfl (g := mkF m pc ls _) hd rfl hy hr
    · cases h
  case irem =>
    simp only [step] at h
    obtain rfl := hlen.resolve_left (by simp [ilen])
    split at h
    · rename_i y x r
      by_cases hy : y = 0
      · simp [hy] at h
      · simp only [hy, decide_false, cond_false, Option.some.injEq, Prod.mk.injEq] at h; obtain ⟨rfl, rfl, rfl, rfl⟩ := h
        obtain ⟨_, _, rfl, rfl, _, _, rfl, rfl, hr'⟩ := hS
        exact Behind.plain X hL rfl ⟨_, _, rfl, rfl, hr'⟩ hH hF hn fun target hr => iremM X hx rfl (g := mkF m pc ls _) hd rfl hy hr
    · cases h
  case lshl =>
    simp only [step] at h
    obtain rfl := hlen.resolve_left (by simp [ilen])
    split at h
    · rename_i y x r
      simp only [Option.some.injEq, Prod.mk.injEq] at h; obtain ⟨rfl, rfl, rfl, rfl⟩ := h
      obtain ⟨_, _, rfl, rfl, _, _, rfl, rfl, hr'⟩ := hS
      exact Behind.plain X hL rfl ⟨_, _, rfl, rfl, hr'⟩ hH hF hn fun target hr => XS.lshl X.here hx rfl (g := mkF m pc ls _) hd rfl hr
    · cases h
  case lushr =>
    simp only [step] at h
    obtain rfl := hlen.resolve_left (by simp [ilen])
    split at h
    · rename_i y x r
      simp only [Option.some.injEq, Prod.mk.injEq] at h; obtain ⟨rfl, rfl, rfl, rfl⟩ := h
      obtain ⟨_, _, rfl, rfl, _, _, rfl, rfl, hr'⟩ := hS
      exact Behind.plain X hL rfl ⟨_, _, rfl, rfl, hr'⟩ hH hF hn fun target hr => XS.lushr X.here hx rfl (g := mkF m pc ls _) hd rfl hr
    · cases h
  case lcmp =>
    simp only [step] at h
    obtain rfl := hlen.resolve_left (by simp [ilen])
    split at h
    · rename_i y x r
      simp only [Option.some.injEq, Prod.mk.injEq] at h; obtain ⟨rfl, rfl, rfl, rfl⟩ := h
      obtain ⟨_, _, rfl, rfl, _, _, rfl, rfl, hr'⟩ := hS
      exact Behind.plain X hL rfl ⟨_, _, rfl, rfl, hr'⟩ hH hF hn fun target hr => XS.lcmp X.here hx rfl (g := mkF m pc ls _) hd rfl hr
    · cases h
  case lneg =>
    simp only [step] at h
    obtain rfl := hlen.resolve_left (by simp [ilen])
    split at h
    · rename_i x r
      simp only [Option.some.injEq, Prod.mk.injEq] at h; obtain ⟨rfl, rfl, rfl, rfl⟩ := h
      obtain ⟨_, _, rfl, rfl, hr'⟩ := hS
      exact Behind.plain X hL rfl ⟨_, _, rfl, rfl, hr'⟩ hH hF hn fun target hr => XS.lneg X.here hx rfl (g := mkF m pc ls _) hd rfl hr
    · cases h
  case i2l =>
    simp only [step] at h
    obtain rfl := hlen.resolve_left (by simp [ilen])
    split at h
    · rename_i x r
      simp only [Option.some.injEq, Prod.mk.injEq] at h; obtain ⟨rfl, rfl, rfl, rfl⟩ := h
      obtain ⟨_, _, rfl, rfl, hr'⟩ := hS
      exact Behind.plain X hL rfl ⟨_, _, rfl, rfl, hr'⟩ hH hF hn fun target hr => XS.i2l X.here hx rfl (g := mkF m pc ls _) hd rfl hr
    · cases h
  case l2i =>
    simp only [step] at h
    obtain rfl := hlen.resolve_left (by simp [ilen])
    split at h
    · rename_i x r
      simp only [Option.some.injEq, Prod.mk.injEq] at h; obtain ⟨rfl, rfl, rfl, rfl⟩ := h
      obtain ⟨_, _, rfl, rfl, hr'⟩ := hS
      exact Behind.plain X hL rfl ⟨_, _, rfl, rfl, hr'⟩ hH hF hn fun target hr => XS.l2i X.here hx rfl (g := mkF m pc ls _) hd rfl hr
    · cases h
  case i2b =>
    simp only [step] at h
    obtain rfl := hlen.resolve_left (by simp [ilen])
    split at h
    · rename_i x r
      simp only [Option.some.injEq, Prod.mk.injEq] at h; obtain ⟨rfl, rfl, rfl, rfl⟩ := h
      obtain ⟨_, _, rfl, rfl, hr'⟩ := hS
      exact Behind.plain X hL rfl ⟨_, _, rfl, rfl, hr'⟩ hH hF hn fun target hr => XS.i2b X.here hx rfl (g := mkF m pc ls _) hd rfl hr
    · cases h
  case dup =>
    simp only [step] at h
    obtain rfl := hlen.resolve_left (by simp [ilen])
    split at h
    · rename_i x r
      simp only [Option.some.injEq, Prod.mk.injEq] at h; obtain ⟨rfl, rfl, rfl, rfl⟩ := h
      obtain ⟨_, _, rfl, ⟨a, ha, rfl⟩, hr'⟩ := hS
      exact Behind.plain X hL rfl ⟨_, _, rfl, ⟨a, ha, rfl⟩, _, _, rfl, ⟨a, ha, rfl⟩, hr'⟩ hH hF hn fun target hr => XS.dup X.here hx rfl (g := mkF m pc ls _) hd rfl rfl hr
    · rename_i x r
      simp only [Option.some.injEq, Prod.mk.injEq] at h; obtain ⟨rfl, rfl, rfl, rfl⟩ := h
      obtain ⟨_, _, rfl, rfl, hr'⟩ := hS
      exact Behind.plain X hL rfl ⟨_, _, rfl, rfl, _, _, rfl, rfl, hr'⟩ hH hF hn fun target hr => XS.dup X.here hx rfl (g := mkF m pc ls _) hd rfl rfl hr
    · cases h
  case dup2 =>
    simp only [step] at h
    obtain rfl := hlen.resolve_left (by simp [ilen])
    split at h
    · rename_i x y r
      simp only [Option.some.injEq, Prod.mk.injEq] at h; obtain ⟨rfl, rfl, rfl, rfl⟩ := h
      obtain ⟨_, _, rfl, rfl, _, _, rfl, ⟨a, ha, rfl⟩, hr'⟩ := hS
      exact Behind.plain X hL rfl ⟨_, _, rfl, rfl, _, _, rfl, ⟨a, ha, rfl⟩, _, _, rfl, rfl, _, _, rfl, ⟨a, ha, rfl⟩, hr'⟩ hH hF hn fun target hr => XT.dup2 X.here hx rfl (g := mkF m pc ls _) hd rfl rfl rfl hr
    · cases h
  case pop =>
    simp only [step] at h
    obtain rfl := hlen.resolve_left (by simp [ilen])
    split at h
    · rename_i x r
      simp only [Option.some.injEq, Prod.mk.injEq] at h; obtain ⟨rfl, rfl, rfl, rfl⟩ := h
      obtain ⟨_, _, rfl, rfl, hr'⟩ := hS
      exact Behind.plain X hL rfl hr' hH hF hn fun target hr => XS.pop X.here hx rfl (g := mkF m pc ls _) hd rfl rfl hr
    · rename_i x r
      simp only [Option.some.injEq, Prod.mk.injEq] at h; obtain ⟨rfl, rfl, rfl, rfl⟩ := h
      obtain ⟨_, _, rfl, ⟨a, ha, rfl⟩, hr'⟩ := hS
      exact Behind.plain X hL rfl hr' hH hF hn fun target hr => XS.pop X.here hx rfl (g := mkF m pc ls _) hd rfl rfl hr
    · cases h
  case goto o =>
    simp only [step] at h
    obtain rfl := hlen.resolve_left (by simp [ilen])
    cases ht : tgt pc o with
    | none => simp [ht] at h
    | some t =>
      simp only [ht, Option.some.injEq, Prod.mk.injEq] at h; obtain ⟨rfl, rfl, rfl, rfl⟩ := h
      exact Behind.plain X hL rfl hS hH hF hn fun target hr => XS.goto X.here hx rfl (g := mkF m pc ls st) (pc0 := pc) rfl hd (tgt_spec ht).1 (tgt_spec ht).2 hr
  case ifCond cd o =>
    simp only [step] at h
    obtain rfl := hlen.resolve_left (by simp [ilen])
    split at h
    · rename_i x r
      obtain ⟨_, _, rfl, rfl, hr'⟩ := hS
      cases hc : if_icmp.holds cd x 0
      · simp only [hc, cond_false, Option.some.injEq, Prod.mk.injEq] at h; obtain ⟨rfl, rfl, rfl, rfl⟩ := h
        exact Behind.plain X hL rfl hr' hH hF hn fun target hr => XS.ifNo X.here hx rfl (g := mkF m pc ls _) hd rfl ((if0 _ _).trans hc) hr
      · cases ht : tgt pc o with
        | none => simp [hc, ht] at h
        | some t =>
          simp only [hc, ht, cond_true, Option.some.injEq, Prod.mk.injEq] at h; obtain ⟨rfl, rfl, rfl, rfl⟩ := h
          exact Behind.plain X hL rfl hr' hH hF hn fun target hr => XS.ifYes X.here hx rfl (g := mkF m pc ls _) (pc0 := pc) rfl hd rfl ((if0 _ _).trans hc) (tgt_spec ht).1 (tgt_spec ht).2 hr
    · cases h
  case if_icmp cd o =>
    simp only [step] at h
    obtain rfl := hlen.resolve_left (by simp [ilen])
    split at h
    · rename_i y x r
      obtain ⟨_, _, rfl, rfl, _, _, rfl, rfl, hr'⟩ := hS
      cases hc : if_icmp.holds cd x y
      · simp only [hc, cond_false, Option.some.injEq, Prod.mk.injEq] at h; obtain ⟨rfl, rfl, rfl, rfl⟩ := h
        exact Behind.plain X hL rfl hr' hH hF hn fun target hr => XS.icmpNo X.here hx rfl (g := mkF m pc ls _) hd rfl hc hr
      · cases ht : tgt pc o with
        | none => simp [hc, ht] at h
        | some t =>
          simp only [hc, ht, cond_true, Option.some.injEq, Prod.mk.injEq] at h; obtain ⟨rfl, rfl, rfl, rfl⟩ := h
          exact Behind.plain X hL rfl hr' hH hF hn fun target hr => XS.icmpYes X.here hx rfl (g := mkF m pc ls _) (pc0 := pc) rfl hd rfl hc (tgt_spec ht).1 (tgt_spec ht).2 hr
    · cases h
  case tableswitch d lo hi offs =>
    simp only [step] at h
    split at h
    · rename_i x r
      obtain ⟨_, _, rfl, rfl, hr'⟩ := hS
      by_cases ho : x.toInt < lo ∨ x.toInt > hi
      · have ho' : (decide (x.toInt < lo) || decide (x.toInt > hi)) = true := by simpa using ho
        cases ht : tgt pc d with
        | none => simp [ho', ht] at h
        | some t =>
          simp only [ho', ht, cond_true, Option.some.injEq, Prod.mk.injEq] at h; obtain ⟨rfl, rfl, rfl, rfl⟩ := h
          exact Behind.plain X hL rfl hr' hH hF hn fun target hr => XS.tswOut X.here hx rfl (g := mkF m pc ls _) (pc0 := pc) rfl hd rfl ho (tgt_spec ht).1 (tgt_spec ht).2 hr
      · have ho' : (decide (x.toInt < lo) || decide (x.toInt > hi)) = false := by simpa using ho
        cases hq : offs.toList[(x.toInt - lo).toNat]? with
        | none => simp [ho', hq] at h
        | some o =>
          cases ht : tgt pc o with
          | none => simp [ho', hq, ht] at h
          | some t =>
            simp only [ho', hq, ht, cond_false, Option.some.injEq, Prod.mk.injEq] at h; obtain ⟨rfl, rfl, rfl, rfl⟩ := h
            exact Behind.plain X hL rfl hr' hH hF hn fun target hr => XS.tswIn X.here hx rfl (g := mkF m pc ls _) (pc0 := pc) rfl hd rfl ho (by rw [← Array.getElem?_toList]; exact hq) (tgt_spec ht).1 (tgt_spec ht).2 hr
    · cases h
  case getfield j =>
    simp only [step] at h
    obtain rfl := hlen.resolve_left (by simp [ilen])
    split at h
    · rename_i a r
      obtain ⟨_, _, rfl, ⟨b, hb, rfl⟩, hr'⟩ := hS
      cases hf : P.fld (P.cls k) j with
      | none => simp [hf] at h
      | some f =>
        cases hg : getC H a f with
        | none => simp [hf, hg] at h
        | some v =>
          simp only [hf, hg, Option.some.injEq, Prod.mk.injEq] at h; obtain ⟨rfl, rfl, rfl, rfl⟩ := h
          obtain ⟨n, d, t, fin, g1, g2⟩ := G2 _ _ _ hf
          unfold getC at hg
          split at hg
          · rename_i fs hfs
            obtain ⟨b', e1, e2, e3, e4⟩ := hH.2.2.2 _ _ hfs
            cases hb.symm.trans e1
            obtain ⟨w, e5, e6⟩ := e4 _ _ _ _ _ _ hg g1
            obtain ⟨T2, X2, e7, s2⟩ := getF X hx hZ hown (host := "") (Or.inl g2) Via.refl rfl e6 (g := mkF m pc ls _) rfl rfl hd
            exact Behind.plain' X2 e7 hL rfl ⟨w, _, rfl, e5, hr'⟩ hH hF hn s2
          · cases hg
    · cases h
  case putfield j =>
    simp only [step] at h
    obtain rfl := hlen.resolve_left (by simp [ilen])
    split at h
    · rename_i v a r
      obtain ⟨w0, _, rfl, hv0, _, _, rfl, ⟨b, hb, rfl⟩, hr'⟩ := hS
      cases hf : P.fld (P.cls k) j with
      | none => simp [hf] at h
      | some f =>
        obtain ⟨n, d, t, fin, g1, g2⟩ := G2 _ _ _ hf
        simp only [hf, g1] at h
        cases hq : (!fin || P.ini k) && Nat.ble P.ro a
        · simp [hq] at h
        · simp only [hq, cond_true] at h
          cases hv : conv t v with
          | none => simp [hv] at h
          | some v' =>
            simp only [hv] at h
            split at h
            · rename_i fs hfs
              cases hz : Nat.ble (f + 1) fs.length
              · simp [hz] at h
              · simp only [hz, cond_true, Option.some.injEq, Prod.mk.injEq] at h; obtain ⟨rfl, rfl, rfl, rfl⟩ := h
                obtain ⟨b', e1, e2, e3, e4⟩ := hH.2.2.2 _ _ hfs
                cases hb.symm.trans e1
                simp only [Bool.and_eq_true, Bool.or_eq_true, Bool.not_eq_true'] at hq
                have hro : P.ro ≤ a := Nat.le_of_ble_eq_true hq.2
                have hfl : f < fs.length := Nat.le_of_ble_eq_true hz
                obtain ⟨l1, ty, l2, l3, l4⟩ := G3 _ _ _ _ _ g1
                obtain ⟨w, hw, hnw, hfw⟩ : ∃ w, VR am v' w ∧ narrow ty w0 = w ∧ fits ty w = true := by
                  unfold conv at hv
                  split at hv
                  · cases hv; cases hv0; cases ty <;> simp only [tyOk, Bool.false_eq_true] at l3; exact ⟨_, rfl, rfl, rfl⟩
                  · cases hv; cases hv0; cases ty <;> simp only [tyOk, Bool.false_eq_true] at l3; exact ⟨_, rfl, rfl, fits_nar_bool _⟩
                  · cases hv; cases hv0; cases ty <;> simp only [tyOk, Bool.false_eq_true] at l3; exact ⟨_, rfl, rfl, rfl⟩
                  · cases hv; obtain ⟨z, hz1, rfl⟩ := hv0; cases ty <;> simp only [tyOk, Bool.false_eq_true] at l3; exact ⟨_, ⟨z, hz1, rfl⟩, rfl, rfl⟩
                  · cases hv
                obtain ⟨old, o1, o2⟩ := e4 f _ _ _ _ _ (List.getElem?_eq_getElem hfl) g1
                have hfin : (Cond.lays C C n d).before a0 Z = true ∨ ((Cond.laysFinal C C n d).before a0 Z = true ∧ cn (P.cls k) = C ∧ meth.name = "<init>") := by
                  cases fin
                  · exact Or.inl l1
                  · obtain ⟨q1, q2⟩ := hini (by simpa using hq.1); exact Or.inr ⟨l1, q2, q1⟩
                obtain ⟨T2, h2, X2, e7, W2, s2⟩ := putFN X hx hZ hown g2 Via.refl rfl o2 e2 hfin G6 l2 hnw hfw (g := mkF m pc ls _) rfl rfl hd
                refine Behind.write (T' := T2) X2 e7 W2 hL hr' hH hb hro hfs rfl ?_ hF hn s2
                refine ⟨e2.wr W2, by rw [List.length_set]; exact e3, fun j' u n' d' t' f' q1 q2 => ?_⟩
                rw [List.getElem?_set] at q1
                by_cases ej : f = j'
                · subst ej
                  rw [if_pos rfl, if_pos hfl] at q1
                  cases q1
                  rw [g1] at q2; cases q2
                  exact ⟨w, hw, o2.same W2⟩
                · rw [if_neg ej] at q1
                  obtain ⟨w', y1, y2⟩ := e4 _ _ _ _ _ _ q1 q2
                  obtain ⟨l1', ty', l2', -, -⟩ := G3 _ _ _ _ _ q2
                  have hl1 : Laid Z a0 C C n d := by cases fin; exact Or.inl l1; exact Or.inr l1
                  have hl2 : Laid Z a0 C C n' d' := by cases f'; exact Or.inl l1'; exact Or.inr l1'
                  exact ⟨w', y1, y2.other W2 (Or.inr (slot_ne hl2 hl1 (G4 _ _ _ _ _ _ _ _ _ _ q2 g1 (Ne.symm ej)) l2' l2))⟩
            · cases h
    · cases h
  case iaload =>
    simp only [step] at h
    obtain rfl := hlen.resolve_left (by simp [ilen])
    split at h
    · rename_i j a r
      obtain ⟨_, _, rfl, rfl, _, _, rfl, ⟨b, hb, rfl⟩, hr'⟩ := hS
      split at h
      · rename_i xs hxs
        cases hj : inb xs.length j
        · simp [hj] at h
        · simp only [hj, cond_true, Option.some.injEq, Prod.mk.injEq] at h; obtain ⟨rfl, rfl, rfl, rfl⟩ := h
          obtain ⟨b', e1, cl, A1, A2, A3⟩ := hH.2.2.2 _ _ hxs
          cases hb.symm.trans e1
          have hin := inb_spec hj
          rw [← A2] at hin
          exact Behind.plain X hL rfl ⟨_, _, rfl, rfl, hr'⟩ hH hF hn fun target hr => X.iaload hx A1.1 (State.isArrayOf_alike hZ.alike A1.2.1) A1.2.2 hin (A3 _ _ (rd_at hj)) (g := mkF m pc ls _) rfl rfl hd _ hr
      · rename_i xs hxs
        cases hj : inb xs.length j
        · simp [hj] at h
        · simp only [hj, cond_true, Option.some.injEq, Prod.mk.injEq] at h; obtain ⟨rfl, rfl, rfl, rfl⟩ := h
          obtain ⟨b', e1, cl, A1, A2, A3⟩ := hH.2.2.2 _ _ hxs
          cases hb.symm.trans e1
          have hin := inb_spec hj
          rw [← A2] at hin
          exact Behind.plain X hL rfl ⟨_, _, rfl, rfl, hr'⟩ hH hF hn fun target hr => X.iaload hx A1.1 (State.isArrayOf_alike hZ.alike A1.2.1) A1.2.2 hin (A3 _ _ (rd_at hj)) (g := mkF m pc ls _) rfl rfl hd _ hr
      · cases h
    · cases h
  case baload =>
    simp only [step] at h
    obtain rfl := hlen.resolve_left (by simp [ilen])
    split at h
    · rename_i j a r
      obtain ⟨_, _, rfl, rfl, _, _, rfl, ⟨b, hb, rfl⟩, hr'⟩ := hS
      split at h
      · rename_i xs hxs
        cases hj : inb xs.length j
        · simp [hj] at h
        · simp only [hj, cond_true, Option.some.injEq, Prod.mk.injEq] at h; obtain ⟨rfl, rfl, rfl, rfl⟩ := h
          obtain ⟨b', e1, cl, A1, A2, A3⟩ := hH.2.2.2 _ _ hxs
          cases hb.symm.trans e1
          have hin := inb_spec hj
          rw [← A2] at hin
          exact Behind.plain X hL rfl ⟨_, _, rfl, rfl, hr'⟩ hH hF hn fun target hr => X.baloadBooleans hx A1.1 (State.isArrayOf_alike hZ.alike A1.2.1) A1.2.2 hin (A3 _ _ (rd_at hj)) (g := mkF m pc ls _) rfl rfl hd _ hr
      · rename_i xs hxs
        cases hj : inb xs.length j
        · simp [hj] at h
        · simp only [hj, cond_true, Option.some.injEq, Prod.mk.injEq] at h; obtain ⟨rfl, rfl, rfl, rfl⟩ := h
          obtain ⟨b', e1, cl, A1, A2, A3⟩ := hH.2.2.2 _ _ hxs
          cases hb.symm.trans e1
          have hin := inb_spec hj
          rw [← A2] at hin
          exact Behind.plain X hL rfl ⟨_, _, rfl, rfl, hr'⟩ hH hF hn fun target hr => X.baloadBytes hx A1.1 (State.isArrayOf_alike hZ.alike A1.2.1) A1.2.2 hin (A3 _ _ (rd_at hj)) (g := mkF m pc ls _) rfl rfl hd _ hr
      · cases h
    · cases h
  case laload =>
    simp only [step] at h
    obtain rfl := hlen.resolve_left (by simp [ilen])
    split at h
    · rename_i j a r
      obtain ⟨_, _, rfl, rfl, _, _, rfl, ⟨b, hb, rfl⟩, hr'⟩ := hS
      split at h
      · rename_i xs hxs
        cases hj : inb xs.length j
        · simp [hj] at h
        · simp only [hj, cond_true, Option.some.injEq, Prod.mk.injEq] at h; obtain ⟨rfl, rfl, rfl, rfl⟩ := h
          obtain ⟨b', e1, cl, A1, A2, A3⟩ := hH.2.2.2 _ _ hxs
          cases hb.symm.trans e1
          have hin := inb_spec hj
          rw [← A2] at hin
          exact Behind.plain X hL rfl ⟨_, _, rfl, rfl, hr'⟩ hH hF hn fun target hr => X.laload hx A1.1 (State.isArrayOf_alike hZ.alike A1.2.1) A1.2.2 hin (A3 _ _ (rdL_at hj)) (g := mkF m pc ls _) rfl rfl hd _ hr
      · cases h
    · cases h
  case iastore =>
    simp only [step] at h
    obtain rfl := hlen.resolve_left (by simp [ilen])
    split at h
    · rename_i x j a r
      obtain ⟨_, _, rfl, rfl, _, _, rfl, rfl, _, _, rfl, ⟨b, hb, rfl⟩, hr'⟩ := hS
      cases hq : Nat.ble P.ro a
      · simp [hq] at h
      · simp only [hq, cond_true] at h
        have hro : P.ro ≤ a := Nat.le_of_ble_eq_true hq
        split at h
        · rename_i xs hxs
          cases hj : inb xs.length j
          · simp [hj] at h
          · simp only [hj, cond_true, Option.some.injEq, Prod.mk.injEq] at h; obtain ⟨rfl, rfl, rfl, rfl⟩ := h
            obtain ⟨b', e1, hcr⟩ := hH.2.2.2 _ _ hxs
            cases hb.symm.trans e1
            have hcr0 := hcr
            obtain ⟨cl, A1, A2, A3⟩ := hcr0
            have hin := inb_spec hj
            rw [← A2] at hin
            obtain ⟨T2, h2, X2, e7, W2, s2⟩ := stI X hx hZ rfl A1 hin (g := mkF m pc ls _) rfl rfl hd
            exact Behind.write (T' := T2) X2 e7 W2 hL hr' hH hb hro hxs (by simp [csz, wr, wrL]) (CR.wrI W2 hcr) hF hn s2
        · cases h
    · cases h
  case bastore =>
    simp only [step] at h
    obtain rfl := hlen.resolve_left (by simp [ilen])
    split at h
    · rename_i x j a r
      obtain ⟨_, _, rfl, rfl, _, _, rfl, rfl, _, _, rfl, ⟨b, hb, rfl⟩, hr'⟩ := hS
      cases hq : Nat.ble P.ro a
      · simp [hq] at h
      · simp only [hq, cond_true] at h
        have hro : P.ro ≤ a := Nat.le_of_ble_eq_true hq
        split at h
        · rename_i xs hxs
          cases hj : inb xs.length j
          · simp [hj] at h
          · simp only [hj, cond_true, Option.some.injEq, Prod.mk.injEq] at h; obtain ⟨rfl, rfl, rfl, rfl⟩ := h
            obtain ⟨b', e1, hcr⟩ := hH.2.2.2 _ _ hxs
            cases hb.symm.trans e1
            have hcr0 := hcr
            obtain ⟨cl, A1, A2, A3⟩ := hcr0
            have hin := inb_spec hj
            rw [← A2] at hin
            obtain ⟨T2, h2, X2, e7, W2, s2⟩ := stZ X hx hZ rfl A1 hin (g := mkF m pc ls _) rfl rfl hd
            exact Behind.write (T' := T2) X2 e7 W2 hL hr' hH hb hro hxs (by simp [csz, wr, wrL]) (CR.wrI W2 hcr) hF hn s2
        · rename_i xs hxs
          cases hj : inb xs.length j
          · simp [hj] at h
          · simp only [hj, cond_true, Option.some.injEq, Prod.mk.injEq] at h; obtain ⟨rfl, rfl, rfl, rfl⟩ := h
            obtain ⟨b', e1, hcr⟩ := hH.2.2.2 _ _ hxs
            cases hb.symm.trans e1
            have hcr0 := hcr
            obtain ⟨cl, A1, A2, A3⟩ := hcr0
            have hin := inb_spec hj
            rw [← A2] at hin
            obtain ⟨T2, h2, X2, e7, W2, s2⟩ := stB X hx hZ rfl A1 hin (g := mkF m pc ls _) rfl rfl hd
            exact Behind.write (T' := T2) X2 e7 W2 hL hr' hH hb hro hxs (by simp [csz, wr, wrL]) (CR.wrI W2 hcr) hF hn s2
        · cases h
    · cases h
  case lastore =>
    simp only [step] at h
    obtain rfl := hlen.resolve_left (by simp [ilen])
    split at h
    · rename_i x j a r
      obtain ⟨_, _, rfl, rfl, _, _, rfl, rfl, _, _, rfl, ⟨b, hb, rfl⟩, hr'⟩ := hS
      cases hq : Nat.ble P.ro a
      · simp [hq] at h
      · simp only [hq, cond_true] at h
        have hro : P.ro ≤ a := Nat.le_of_ble_eq_true hq
        split at h
        · rename_i xs hxs
          cases hj : inb xs.length j
          · simp [hj] at h
          · simp only [hj, cond_true, Option.some.injEq, Prod.mk.injEq] at h; obtain ⟨rfl, rfl, rfl, rfl⟩ := h
            obtain ⟨b', e1, hcr⟩ := hH.2.2.2 _ _ hxs
            cases hb.symm.trans e1
            have hcr0 := hcr
            obtain ⟨cl, A1, A2, A3⟩ := hcr0
            have hin := inb_spec hj
            rw [← A2] at hin
            obtain ⟨T2, h2, X2, e7, W2, s2⟩ := stJ X hx hZ rfl A1 hin (g := mkF m pc ls _) rfl rfl hd
            exact Behind.write (T' := T2) X2 e7 W2 hL hr' hH hb hro hxs (by simp [csz, wr, wrL]) (CR.wrJ W2 hcr) hF hn s2
        · cases h
    · cases h
  case arraylength =>
    simp only [step] at h
    obtain rfl := hlen.resolve_left (by simp [ilen])
    split at h
    · rename_i a r
      obtain ⟨_, _, rfl, ⟨b, hb, rfl⟩, hr'⟩ := hS
      split at h
      · rename_i t xs hxs
        simp only [Option.some.injEq, Prod.mk.injEq] at h; obtain ⟨rfl, rfl, rfl, rfl⟩ := h
        obtain ⟨b', e1, cl, A1, A2, A3⟩ := hH.2.2.2 _ _ hxs
        cases hb.symm.trans e1
        exact Behind.plain X hL rfl ⟨_, _, rfl, rfl, hr'⟩ hH hF hn fun target hr => X.arraylength hx A1.1 (State.isArrayOf_alike hZ.alike A1.2.1) (g := mkF m pc ls _) rfl rfl hd _ (by rw [A2]; exact hr)
      · rename_i xs hxs
        simp only [Option.some.injEq, Prod.mk.injEq] at h; obtain ⟨rfl, rfl, rfl, rfl⟩ := h
        obtain ⟨b', e1, cl, A1, A2, A3⟩ := hH.2.2.2 _ _ hxs
        cases hb.symm.trans e1
        exact Behind.plain X hL rfl ⟨_, _, rfl, rfl, hr'⟩ hH hF hn fun target hr => X.arraylength hx A1.1 (State.isArrayOf_alike hZ.alike A1.2.1) (g := mkF m pc ls _) rfl rfl hd _ (by rw [A2]; exact hr)
      · cases h
    · cases h
  case newarray t =>
    simp only [step] at h
    obtain rfl := hlen.resolve_left (by simp [ilen])
    split at h
    · rename_i n r
      obtain ⟨_, _, rfl, rfl, hr'⟩ := hS
      cases ht : atyOf t with
      | none => simp [ht] at h
      | some q =>
        simp only [ht] at h
        cases hq : (!(decide (n < 0)) && Nat.ble n.toNatClampNeg 60000 && Nat.ble (H.length + 1) P.capC && Nat.ble (hsz P H + n.toNatClampNeg) P.capS)
        · simp [hq] at h
        · simp only [hq, cond_true, Option.some.injEq, Prod.mk.injEq] at h; obtain ⟨rfl, rfl, rfl, rfl⟩ := h
          simp only [Bool.and_eq_true, Bool.not_eq_true', decide_eq_false_iff_not] at hq
          have hcap : n.toNatClampNeg ≤ 60000 := Nat.le_of_ble_eq_true hq.1.1.2
          have hq1 := hq.1.1.1
          have d1 : (H ++ [newC q n.toNatClampNeg]).length - H.length = 1 := by simp
          have d2 : hsz P (H ++ [newC q n.toNatClampNeg]) - hsz P H = n.toNatClampNeg := by rw [hsz_app, csz_new _ _ ht]; omega
          rw [d1] at hcells ⊢; rw [d2] at hslots ⊢
          obtain ⟨T2, h2, cA, X2, e7, E2, A2, s2⟩ := newP X hx hZ (G8 _ _ _ _ hcode) rfl (g := mkF m pc ls _) rfl hd rfl hq1 (cap := n.toNatClampNeg) (Nat.le_refl _) (by omega) hcells hslots
          have hlt : T.heap.size < h2.size := A2.lt
          have hm' := hH.1
          refine ⟨T2, am ++ [T.heap.size], ls, _, locs, X2, hL.mono (Pre.app _ _), rfl, ⟨_, _, rfl, ⟨T.heap.size, by rw [← hm']; simp, rfl⟩, hr'.mono (Pre.app _ _)⟩, by rw [e7]; exact hH.push E2 hlt hn (arr_new ht hq1 A2), Pre.app _ _, hF, by rw [e7]; omega, s2⟩
    · cases h
  case new j =>
    simp only [step] at h
    obtain rfl := hlen.resolve_left (by simp [ilen])
    split at h
    · rename_i q hk
      rw [Bool.cond_eq_ite] at h
      split at h
      case isFalse => cases h
      simp only [Option.some.injEq, Prod.mk.injEq] at h; obtain ⟨rfl, rfl, rfl, rfl⟩ := h
      have w := G9 _ _ _ _ hk
      have d1 : (H ++ [Sum.inl P.fresh]).length - H.length = 1 := by simp
      have d2 : hsz P (H ++ [Sum.inl P.fresh]) - hsz P H = P.objN := by rw [hsz_app]; simp [csz]
      rw [d1] at hcells ⊢; rw [d2] at hslots ⊢
      obtain ⟨T2, h2, X2, e7, E2, A2, D2, -, s2⟩ := newO X hx hZ hown w G6 G7 rfl (g := mkF m pc ls st) rfl hd hcells hslots
      have hlt : T.heap.size < h2.size := A2.lt
      have hm' := hH.1
      refine ⟨T2, am ++ [T.heap.size], ls, _, locs, X2, hL.mono (Pre.app _ _), rfl, ⟨_, _, rfl, ⟨T.heap.size, by rw [← hm']; simp, rfl⟩, hS.mono (Pre.app _ _)⟩, ?_, Pre.app _ _, hF, by rw [e7]; omega, s2⟩
      rw [e7]
      refine hH.push E2 hlt hn ⟨A2, by simp [Prog.fresh], fun j' v n d t f q1 q2 => ?_⟩
      obtain ⟨l1, ty, l2, l3, l4⟩ := G3 _ _ _ _ _ q2
      have hl1 : Laid Z a0 C C n d := by cases f; exact Or.inl l1; exact Or.inr l1
      have hv : v = dflt t := by rw [Prog.fresh, List.getElem?_map, q2] at q1; simpa using q1.symm
      subst hv
      refine ⟨defaultValue ty, ?_, D2 hl1 l2⟩
      rw [l4]; unfold dflt; split <;> rfl
    · cases h
  case invokespecial j =>
    simp only [step] at h
    obtain rfl := hlen.resolve_left (by simp [ilen])
    split at h
    · rename_i a r
      obtain ⟨_, _, rfl, ⟨b, hb, rfl⟩, hr'⟩ := hS
      cases hq : isObjInit P k j && Nat.ble 1 (P.rf k) && Nat.ble (cats r + 12) (P.rl k)
      · simp [hq] at h
      · simp only [hq, cond_true, Option.some.injEq, Prod.mk.injEq] at h; obtain ⟨rfl, rfl, rfl, rfl⟩ := h
        simp only [Bool.and_eq_true] at hq
        have h1 : 1 ≤ P.rf k := Nat.le_of_ble_eq_true hq.1.2
        have h2 : cats r + 12 ≤ P.rl k := Nat.le_of_ble_eq_true hq.2
        have h3 := hq.1.1
        unfold isObjInit at h3
        split at h3
        · rename_i kk hk
          obtain ⟨w1, w2, w3⟩ := G9 _ _ _ _ hk
          obtain ⟨T2, X2, e7, s2⟩ := initO X hx hZ hown w1 w2 w3 rfl (g := mkF m pc ls _) rfl (by rw [hml]; exact hlz) rfl hd (by omega) (W := cats r) (by rw [hr'.cats]; show 2 * 0 + _ ≤ _; omega) (by omega)
          exact Behind.plain' X2 e7 hL rfl hr' hH hF hn s2
        · cases h3
    · cases h
  case iadd =>
    simp only [step] at h
    obtain rfl := hlen.resolve_left (by simp [ilen])
    split at h
    · rename_i y x r
      simp only [aop, Option.some.injEq, Prod.mk.injEq] at h; obtain ⟨rfl, rfl, rfl, rfl⟩ := h
      obtain ⟨_, _, rfl, rfl, _, _, rfl, rfl, hr'⟩ := hS
      exact Behind.plain X hL rfl ⟨_, _, rfl, rfl, hr'⟩ hH hF hn fun target hr => XS.iadd X.here hx rfl (g := mkF m pc ls _) hd rfl hr
    · simp [lop] at h
    · cases h
  case isub =>
    simp only [step] at h
    obtain rfl := hlen.resolve_left (by simp [ilen])
    split at h
    · rename_i y x r
      simp only [aop, Option.some.injEq, Prod.mk.injEq] at h; obtain ⟨rfl, rfl, rfl, rfl⟩ := h
      obtain ⟨_, _, rfl, rfl, _, _, rfl, rfl, hr'⟩ := hS
      exact Behind.plain X hL rfl ⟨_, _, rfl, rfl, hr'⟩ hH hF hn fun target hr => XS.isub X.here hx rfl (g := mkF m pc ls _) hd rfl hr
    · simp [lop] at h
    · cases h
  case imul =>
    simp only [step] at h
    obtain rfl := hlen.resolve_left (by simp [ilen])
    split at h
    · rename_i y x r
      simp only [aop, Option.some.injEq, Prod.mk.injEq] at h; obtain ⟨rfl, rfl, rfl, rfl⟩ := h
      obtain ⟨_, _, rfl, rfl, _, _, rfl, rfl, hr'⟩ := hS
      exact Behind.plain X hL rfl ⟨_, _, rfl, rfl, hr'⟩ hH hF hn fun target hr => XS.imul X.here hx rfl (g := mkF m pc ls _) hd rfl hr
    · simp [lop] at h
    · cases h
  case iand =>
    simp only [step] at h
    obtain rfl := hlen.resolve_left (by simp [ilen])
    split at h
    · rename_i y x r
      simp only [aop, Option.some.injEq, Prod.mk.injEq] at h; obtain ⟨rfl, rfl, rfl, rfl⟩ := h
      obtain ⟨_, _, rfl, rfl, _, _, rfl, rfl, hr'⟩ := hS
      exact Behind.plain X hL rfl ⟨_, _, rfl, rfl, hr'⟩ hH hF hn fun target hr => XS.iand X.here hx rfl (g := mkF m pc ls _) hd rfl hr
    · simp [lop] at h
    · cases h
  case ior =>
    simp only [step] at h
    obtain rfl := hlen.resolve_left (by simp [ilen])
    split at h
    · rename_i y x r
      simp only [aop, Option.some.injEq, Prod.mk.injEq] at h; obtain ⟨rfl, rfl, rfl, rfl⟩ := h
      obtain ⟨_, _, rfl, rfl, _, _, rfl, rfl, hr'⟩ := hS
      exact Behind.plain X hL rfl ⟨_, _, rfl, rfl, hr'⟩ hH hF hn fun target hr => XS.ior X.here hx rfl (g := mkF m pc ls _) hd rfl hr
    · simp [lop] at h
    · cases h
  case ixor =>
    simp only [step] at h
    obtain rfl := hlen.resolve_left (by simp [ilen])
    split at h
    · rename_i y x r
      simp only [aop, Option.some.injEq, Prod.mk.injEq] at h; obtain ⟨rfl, rfl, rfl, rfl⟩ := h
      obtain ⟨_, _, rfl, rfl, _, _, rfl, rfl, hr'⟩ := hS
      exact Behind.plain X hL rfl ⟨_, _, rfl, rfl, hr'⟩ hH hF hn fun target hr => XS.ixor X.here hx rfl (g := mkF m pc ls _) hd rfl hr
    · simp [lop] at h
    · cases h
  case ishl =>
    simp only [step] at h
    obtain rfl := hlen.resolve_left (by simp [ilen])
    split at h
    · rename_i y x r
      simp only [aop, Option.some.injEq, Prod.mk.injEq] at h; obtain ⟨rfl, rfl, rfl, rfl⟩ := h
      obtain ⟨_, _, rfl, rfl, _, _, rfl, rfl, hr'⟩ := hS
      exact Behind.plain X hL rfl ⟨_, _, rfl, rfl, hr'⟩ hH hF hn fun target hr => XS.ishl X.here hx rfl (g := mkF m pc ls _) hd rfl hr
    · simp [lop] at h
    · cases h
  case ishr =>
    simp only [step] at h
    obtain rfl := hlen.resolve_left (by simp [ilen])
    split at h
    · rename_i y x r
      simp only [aop, Option.some.injEq, Prod.mk.injEq] at h; obtain ⟨rfl, rfl, rfl, rfl⟩ := h
      obtain ⟨_, _, rfl, rfl, _, _, rfl, rfl, hr'⟩ := hS
      exact Behind.plain X hL rfl ⟨_, _, rfl, rfl, hr'⟩ hH hF hn fun target hr => XS.ishr X.here hx rfl (g := mkF m pc ls _) hd rfl hr
    · simp [lop] at h
    · cases h
  case iushr =>
    simp only [step] at h
    obtain rfl := hlen.resolve_left (by simp [ilen])
    split at h
    · rename_i y x r
      simp only [aop, Option.some.injEq, Prod.mk.injEq] at h; obtain ⟨rfl, rfl, rfl, rfl⟩ := h
      obtain ⟨_, _, rfl, rfl, _, _, rfl, rfl, hr'⟩ := hS
      exact Behind.plain X hL rfl ⟨_, _, rfl, rfl, hr'⟩ hH hF hn fun target hr => XS.iushr X.here hx rfl (g := mkF m pc ls _) hd rfl hr
    · simp [lop] at h
    · cases h
  case ladd =>
    simp only [step] at h
    obtain rfl := hlen.resolve_left (by simp [ilen])
    split at h
    · simp [aop] at h
    · rename_i y x r
      simp only [lop, Option.some.injEq, Prod.mk.injEq] at h; obtain ⟨rfl, rfl, rfl, rfl⟩ := h
      obtain ⟨_, _, rfl, rfl, _, _, rfl, rfl, hr'⟩ := hS
      exact Behind.plain X hL rfl ⟨_, _, rfl, rfl, hr'⟩ hH hF hn fun target hr => XS.ladd X.here hx rfl (g := mkF m pc ls _) hd rfl hr
    · cases h
  case lsub =>
    simp only [step] at h
    obtain rfl := hlen.resolve_left (by simp [ilen])
    split at h
    · simp [aop] at h
    · rename_i y x r
      simp only [lop, Option.some.injEq, Prod.mk.injEq] at h; obtain ⟨rfl, rfl, rfl, rfl⟩ := h
      obtain ⟨_, _, rfl, rfl, _, _, rfl, rfl, hr'⟩ := hS
      exact Behind.plain X hL rfl ⟨_, _, rfl, rfl, hr'⟩ hH hF hn fun target hr => XS.lsub X.here hx rfl (g := mkF m pc ls _) hd rfl hr
    · cases h
  case lmul =>
    simp only [step] at h
    obtain rfl := hlen.resolve_left (by simp [ilen])
    split at h
    · simp [aop] at h
    · rename_i y x r
      simp only [lop, Option.some.injEq, Prod.mk.injEq] at h; obtain ⟨rfl, rfl, rfl, rfl⟩ := h
      obtain ⟨_, _, rfl, rfl, _, _, rfl, rfl, hr'⟩ := hS
      exact Behind.plain X hL rfl ⟨_, _, rfl, rfl, hr'⟩ hH hF hn fun target hr => XS.lmul X.here hx rfl (g := mkF m pc ls _) hd rfl hr
    · cases h
  case land =>
    simp only [step] at h
    obtain rfl := hlen.resolve_left (by simp [ilen])
    split at h
    · simp [aop] at h
    · rename_i y x r
      simp only [lop, Option.some.injEq, Prod.mk.injEq] at h; obtain ⟨rfl, rfl, rfl, rfl⟩ := h
      obtain ⟨_, _, rfl, rfl, _, _, rfl, rfl, hr'⟩ := hS
      exact Behind.plain X hL rfl ⟨_, _, rfl, rfl, hr'⟩ hH hF hn fun target hr => XS.land X.here hx rfl (g := mkF m pc ls _) hd rfl hr
    · cases h
  case lor =>
    simp only [step] at h
    obtain rfl := hlen.resolve_left (by simp [ilen])
    split at h
    · simp [aop] at h
    · rename_i y x r
      simp only [lop, Option.some.injEq, Prod.mk.injEq] at h; obtain ⟨rfl, rfl, rfl, rfl⟩ := h
      obtain ⟨_, _, rfl, rfl, _, _, rfl, rfl, hr'⟩ := hS
      exact Behind.plain X hL rfl ⟨_, _, rfl, rfl, hr'⟩ hH hF hn fun target hr => XS.lor X.here hx rfl (g := mkF m pc ls _) hd rfl hr
    · cases h
  case lxor =>
    simp only [step] at h
    obtain rfl := hlen.resolve_left (by simp [ilen])
    split at h
    · simp [aop] at h
    · rename_i y x r
      simp only [lop, Option.some.injEq, Prod.mk.injEq] at h; obtain ⟨rfl, rfl, rfl, rfl⟩ := h
      obtain ⟨_, _, rfl, rfl, _, _, rfl, rfl, hr'⟩ := hS
      exact Behind.plain X hL rfl ⟨_, _, rfl, rfl, hr'⟩ hH hF hn fun target hr => XS.lxor X.here hx rfl (g := mkF m pc ls _) hd rfl hr
    · cases h
  all_goals (exfalso; simp only [step] at h; split at h <;> simp [aop, lop] at h)
end Sound
end Jvm.OwnX
namespace Jvm.OwnX
open Sem ClassFile Op Lib Jvm.Stand Jvm.Free Jvm.LawKit Jvm.RoadKit
set_option maxHeartbeats 4000000 in
theorem step_grow {P : Prog} {k pc np pc' : Nat} {i : Instr} {L L' : ALoc} {S S' : List Value} {H H' : AHeap} (h : step P k i np pc L S H = some (pc', L', S', H')) : H.length ≤ H'.length ∧ hsz P H ≤ hsz P H' := by
  cases i <;> simp only [step, Bool.cond_eq_ite] at h
  all_goals (repeat' (split at h))
  all_goals first
    | (cases h; done)
    | (simp only [Option.some.injEq, Prod.mk.injEq] at h; obtain ⟨-, -, -, rfl⟩ := h; exact ⟨Nat.le_refl _, Nat.le_refl _⟩)
    | (simp only [Option.some.injEq, Prod.mk.injEq] at h; obtain ⟨-, -, -, rfl⟩ := h; exact ⟨by simp, by rw [hsz_app]; omega⟩)
    | (simp only [Option.some.injEq, Prod.mk.injEq] at h; obtain ⟨-, -, -, rfl⟩ := h; exact ⟨by simp, Nat.le_of_eq (hsz_set P _ _ _ _ (by assumption) (by simp [csz, wr, wrL])).symm⟩)
set_option maxHeartbeats 4000000 in
theorem step_cap {P : Prog} {k pc np pc' : Nat} {i : Instr} {L L' : ALoc} {S S' : List Value} {H H' : AHeap} (h : step P k i np pc L S H = some (pc', L', S', H')) : (H'.length ≤ H.length ∨ H'.length ≤ P.capC) ∧ (hsz P H' ≤ hsz P H ∨ hsz P H' ≤ P.capS) := by
  cases i <;> simp only [step, Bool.cond_eq_ite] at h
  case newarray t =>
    split at h
    · split at h
      · rename_i q ht
        split at h
        · rename_i hq
          simp only [Option.some.injEq, Prod.mk.injEq] at h; obtain ⟨-, -, -, rfl⟩ := h
          simp only [Bool.and_eq_true] at hq
          have h1 := Nat.le_of_ble_eq_true hq.1.2
          have h2 := Nat.le_of_ble_eq_true hq.2
          exact ⟨Or.inr (by simpa using h1), Or.inr (by rw [hsz_app, csz_new _ _ ht]; exact h2)⟩
        · cases h
      · cases h
    · cases h
  case new j =>
    split at h
    · split at h
      · rename_i hq
        simp only [Option.some.injEq, Prod.mk.injEq] at h; obtain ⟨-, -, -, rfl⟩ := h
        simp only [Bool.and_eq_true] at hq
        have h1 := Nat.le_of_ble_eq_true hq.1
        have h2 := Nat.le_of_ble_eq_true hq.2
        exact ⟨Or.inr (by simpa using h1), Or.inr (by rw [hsz_app]; exact h2)⟩
      · cases h
    · cases h
  all_goals (repeat' (split at h))
  all_goals first
    | (cases h; done)
    | (simp only [Option.some.injEq, Prod.mk.injEq] at h; obtain ⟨-, -, -, rfl⟩ := h; exact ⟨Or.inl (Nat.le_refl _), Or.inl (Nat.le_refl _)⟩)
    | (simp only [Option.some.injEq, Prod.mk.injEq] at h; obtain ⟨-, -, -, rfl⟩ := h; exact ⟨Or.inl (by simp), Or.inl (Nat.le_of_eq (hsz_set P _ _ _ _ (by assumption) (by simp [csz, wr, wrL])))⟩)
theorem run_cap {P : Prog} : ∀ {n k pc : Nat} {L : ALoc} {S : List Value} {H : AHeap} {v : Option Value} {H' : AHeap}, run P n k pc L S H = some (v, H') → (H'.length ≤ H.length ∨ H'.length ≤ P.capC) ∧ (hsz P H' ≤ hsz P H ∨ hsz P H' ≤ P.capS)
  | 0, k, pc, L, S, H, v, H', h => by simp [run] at h
  | n + 1, k, pc, L, S, H, v, H', h => by
    rw [run] at h
    split at h
    · cases h
    · split at h
      · cases h; exact ⟨Or.inl (Nat.le_refl _), Or.inl (Nat.le_refl _)⟩
      · split at h
        · split at h
          · rename_i h1
            have g1 := run_cap h1
            have g2 := run_cap h
            omega
          · cases h
        · split at h
          · rename_i h1
            have g1 := step_cap h1
            have g2 := run_cap h
            omega
          · cases h
theorem run_grow {P : Prog} : ∀ {n k pc : Nat} {L : ALoc} {S : List Value} {H : AHeap} {v : Option Value} {H' : AHeap}, run P n k pc L S H = some (v, H') → H.length ≤ H'.length ∧ hsz P H ≤ hsz P H'
  | 0, k, pc, L, S, H, v, H', h => by simp [run] at h
  | n + 1, k, pc, L, S, H, v, H', h => by
    rw [run] at h
    split at h
    · cases h
    · split at h
      · cases h; exact ⟨Nat.le_refl _, Nat.le_refl _⟩
      · split at h
        · split at h
          · rename_i h1
            have g1 := run_grow h1
            have g2 := run_grow h
            omega
          · cases h
        · split at h
          · rename_i h1
            have g1 := step_grow h1
            have g2 := run_grow h
            omega
          · cases h
def OVR (am : List Addr) (v w : Option Value) : Prop := match v with
  | none => w = none
  | some x => ∃ y, w = some y ∧ VR am x y
theorem callV_spec {P : Prog} {k k' : Nat} {i : Instr} {S as rest : List Value} {H : AHeap} (h : callV P k i S H = some (k', as, rest)) :
    ∃ j q, poolOf i = some j ∧ P.link (P.cls k) j = some (q, k') ∧ kindOk i q = true ∧ S = as.reverse ++ rest ∧ as.length = P.pops k' ∧ P.rf k' + 1 ≤ P.rf k ∧ cats rest + (P.maxL k' + 11) + P.rl k' ≤ P.rl k ∧ recvOk P H q as = true ∧ (entL as).length ≤ P.maxL k' := by
  unfold callV at h
  split at h
  · cases h
  · rename_i j hj
    split at h
    · cases h
    · rename_i q k'' hk
      rw [Bool.cond_eq_ite] at h
      split at h
      · rename_i hc
        simp only [Option.some.injEq, Prod.mk.injEq] at h
        obtain ⟨rfl, rfl, rfl⟩ := h
        simp only [Bool.and_eq_true] at hc
        obtain ⟨⟨⟨⟨⟨c1, c2⟩, c3⟩, c4⟩, c5⟩, c6⟩ := hc
        have c2' := Nat.le_of_ble_eq_true c2
        exact ⟨j, q, hj, hk, c1, by rw [List.reverse_reverse, List.take_append_drop], by simp [c2'], Nat.le_of_ble_eq_true c3, Nat.le_of_ble_eq_true c4, c5, Nat.le_of_ble_eq_true c6⟩
      · cases h
theorem linkOk_call {P : Prog} {nm : Nat → MethodName} {bc : Nat → ByteArray} {cn : Nat → String} {C : String} {Z : State} {a0 : Array Value} {c j q k : Nat} (h4 : q ≠ 4) (h5 : q ≠ 5) (h : LinkOk P nm bc cn C Z a0 c j q k) : CallOk P nm bc cn C Z a0 c j q k := by
  unfold LinkOk at h
  split at h
  · exact absurd rfl h4
  · exact absurd rfl h5
  · exact h
theorem recv_spec {P : Prog} {H : AHeap} {q : Nat} {as : List Value} (h0 : q ≠ 0) (h : recvOk P H q as = true) : ∃ a r fs, as = .ref a :: r ∧ H[a]? = some (.inl fs) := by
  unfold recvOk at h
  split at h
  · exact absurd rfl h0
  · split at h
    · split at h
      · rename_i fs hfs
        exact ⟨_, _, fs, rfl, hfs⟩
      · cases h
    · cases h
theorem retV_spec {P : Prog} {k : Nat} {i : Instr} {S : List Value} {v : Option Value} (h : retV P k i S = some v) :
    (i = .return_ ∧ S = [] ∧ P.ret k = none ∧ v = none) ∨ (∃ x r, i = .ireturn ∧ S = .int x :: r ∧ P.ret k = some .int ∧ v = some (.int x)) ∨ (∃ x r, i = .ireturn ∧ S = .int x :: r ∧ P.ret k = some .boolean ∧ v = some (.int (x &&& 1))) ∨ (∃ x r, i = .lreturn ∧ S = .long x :: r ∧ P.ret k = some .long ∧ v = some (.long x)) := by
  unfold retV at h
  split at h
  · split at h
    · rename_i hr; cases h; exact Or.inl ⟨rfl, rfl, hr, rfl⟩
    · cases h
  · split at h
    · split at h
      · rename_i hr; cases h; exact Or.inr (Or.inl ⟨_, _, rfl, rfl, hr, rfl⟩)
      · rename_i hr; cases h; exact Or.inr (Or.inr (Or.inl ⟨_, _, rfl, rfl, hr, rfl⟩))
      · cases h
    · cases h
  · split at h
    · split at h
      · rename_i hr; cases h; exact Or.inr (Or.inr (Or.inr ⟨_, _, rfl, rfl, hr, rfl⟩))
      · cases h
    · cases h
  · cases h
/-- what a callee's contract says behind it -/
def QC (P : Prog) (C : String) (Z : State) (n0 : Nat) (am : List Addr) (v : Option Value) (H1 : AHeap) (w : Option Value) (h' : Heap) (Lc : List Loc) : Prop := Fr n0 Lc ∧ n0 ≤ h'.size ∧ ∃ am', Pre am am' ∧ HR P C Z n0 am' H1 h' ∧ OVR am' v w
/-- the frame's theorem, for one amount of fuel -/
def SoundAt (P : Prog) (nm : Nat → MethodName) (bc : Nat → ByteArray) (cn : Nat → String) (C : String) (Z : State) (n : Nat) : Prop :=
  ∀ (k pc : Nat) (L : ALoc) (S : List Value) (H : AHeap) (v : Option Value) (H' : AHeap), run P n k pc L S H = some (v, H') →
  ∀ {p : Program} {l : Launch} {e : Env} {R : Room} {s : State} {m : MethodId} {args : Array Value} {below : List Frame} {meth : Method} {c : Code} {T : State} {locs : List Loc} {cells slots n0 : Nat} {am : List Addr} {ls : Array Slot} {st : List Value},
    Stand p l e R s m args below meth c T locs cells slots → p.tables.exec = Jvm.exec → Z.Warmed39 s.vm → c.code = bc k → c.maxLocals = P.maxL k → meth.sig.returnType = P.ret k → s.vm.findClass (cn (P.cls k)) = some m.cls → (P.ini k = true → meth.name = "<init>" ∧ cn (P.cls k) = C) →
    P.rf k ≤ R.frames → P.rl k ≤ R.locals → cells + (H'.length - H.length) ≤ R.cells → slots + (hsz P H' - hsz P H) ≤ R.slots → ls.size = P.maxL k → LR am L ls → SR am S st → HR P C Z n0 am H T.heap → Fr n0 locs → n0 ≤ T.heap.size →
    ∃ T' am' locs' w, Stand p l e R s m args below meth c T' locs' (cells + (H'.length - H.length)) (slots + (hsz P H' - hsz P H)) ∧ HR P C Z n0 am' H' T'.heap ∧ Pre am am' ∧ Fr n0 locs' ∧ OVR am' v w ∧ n0 ≤ T'.heap.size ∧ (P.ret k = none → w = none) ∧
      ∀ fs, (∀ (f : JFrame) (acts : List Action), f.method = m → f.locked = none → f.entered = [] → (doReturn e (T'.setTop f) acts w).1 = T'.setFrames fs) → Steps p.tables e below (T.setTop (mkF m pc ls st)) (T'.setFrames fs)
section Met
variable {P : Prog} {nm : Nat → MethodName} {bc : Nat → ByteArray} {cn : Nat → String} {C : String} {Z : State} {a0 : Array Value}
theorem metOf {n k : Nat} {as : List Value} {H H1 : AHeap} {v : Option Value} (IH : SoundAt P nm bc cn C Z n) (hrun : run P n k 0 (entry P k as) [] H = some (v, H1)) {l : Launch} {wsC : List Cond} {rm : Room} (hpl : plainName (nm k).cls = true) (hcls : (nm k).cls = cn (P.cls k)) (hini : P.ini k = true → (nm k).name = "<init>" ∧ (nm k).cls = C)
    (hrf : P.rf k ≤ rm.frames) (hrl : P.rl k ≤ rm.locals) (hrc : H1.length - H.length ≤ rm.cells) (hrs : hsz P H1 - hsz P H ≤ rm.slots) {am : List Addr} {ws : List Value} {h : Heap} {n0 : Nat} (hS : SR am as ws) (hE : (entL as).length ≤ P.maxL k) (hH : HR P C Z n0 am H h) (hn : n0 ≤ h.size) :
    MetFree l (nm k) (head1 (Cond.code (nm k) (bc k) (P.maxL k) (P.ret k) :: wsC) rm) (fun a U => a = ws.toArray ∧ Z.Warmed39 U.vm ∧ U.heap = h) (fun _ _ _ _ _ => True)
      (fun _ U o U' => ∃ w Lc, o = .returned w ∧ QC P C Z n0 am v H1 w U'.heap Lc ∧ FrameEnd U o U' Lc (H1.length - H.length) (hsz P H1 - hsz P H)) := by
  refine MetFree.of_bodySF (plainFor_of_name hpl) hisR ?_
  intro p e s m args below meth c s₁ Bd hml0 hP hK
  obtain ⟨rfl, hZ, hh⟩ := hP
  have hown : s.vm.findClass (nm k).cls = some m.cls := findClass_of_methodNamed Bd.named
  have hnm := (name_of_methodNamed Bd.named Bd.method).1
  have X0 : Stand p l e rm s m ws.toArray below meth c s₁ [] 0 0 := Stand.of_body Bd
  have e0 : s₁.heap = h := by rw [← hh, Bd.state]; rfl
  have hsl := (slotsL_ok hS).1
  obtain ⟨T', am', locs', w, X', h1, h2, h3, h4, h5, h6, h7⟩ := IH k 0 _ _ _ _ _ hrun X0 Bd.exec hZ Bd.bytes hml0 Bd.returns (by rw [← hcls]; exact hown) (fun q => ⟨by rw [hnm]; exact (hini q).1, by rw [← hcls]; exact (hini q).2⟩) hrf hrl (by omega) (by omega) (entry_size (ws := ws) (n := P.maxL k) (by omega)) (LR.entry hS hE) (st := []) rfl (by rw [e0]; exact hH) (Fr.nil n0) (by rw [e0]; exact hn)
  obtain ⟨fs, hr, hrun', hended, hW, hsame⟩ := X'.leave (v := w) (fun q => h6 (by rw [← Bd.returns]; exact q))
  exact ⟨_, _, h7 fs hr, hrun', hended, w, locs', rfl, ⟨h3, h5, am', h2, h1, h4⟩, ⟨_, rfl⟩, hW, hsame.mono (by omega) (by omega)⟩
variable {p : Program} {l : Launch} {e : Env} {R : Room} {s : State} {m : MethodId} {args : Array Value} {below : List Frame} {meth : Method} {c : Code} {T : State} {locs : List Loc} {cells slots n0 : Nat}
theorem call_sound (G : Good P nm bc cn C Z a0) {n k k' pc np : Nat} {i : Instr} {S as rest : List Value} {H H1 : AHeap} {v : Option Value} (IH : SoundAt P nm bc cn C Z n) (hcode : P.code k pc = some (i, np)) (hcall : callV P k i S H = some (k', as, rest)) (hrun : run P n k' 0 (entry P k' as) [] H = some (v, H1))
    (X : Stand p l e R s m args below meth c T locs cells slots) (hx : p.tables.exec = Jvm.exec) (hZ : Z.Warmed39 s.vm) (hby : c.code = bc k) (hml : c.maxLocals = P.maxL k) (hown : s.vm.findClass (cn (P.cls k)) = some m.cls)
    (hrf : P.rf k ≤ R.frames) (hrl : P.rl k ≤ R.locals) (hcells : cells + (H1.length - H.length) ≤ R.cells) (hslots : slots + (hsz P H1 - hsz P H) ≤ R.slots) {am : List Addr} {ls : Array Slot} {st : List Value} (hlz : ls.size = P.maxL k) (hS : SR am S st) (hH : HR P C Z n0 am H T.heap) (hn : n0 ≤ T.heap.size) :
    ∃ T2 w Lc z, np = pc + 3 ∧ Stand p l e R s m args below meth c T2 (locs ++ Lc) (cells + (H1.length - H.length)) (slots + (hsz P H1 - hsz P H)) ∧ QC P C Z n0 am v H1 w T2.heap Lc ∧ SR am rest z ∧
      ∀ target, Steps p.tables e below (T2.setTop (mkF m (pc + 3) ls (w.toList ++ z))) target → Steps p.tables e below (T.setTop (mkF m pc ls st)) target := by
  obtain ⟨j, q, hj, hk, hkind, rfl, hlen, c3, c4, c5, c6⟩ := callV_spec hcall
  obtain ⟨G1, -, -, -, -, G6, -, -, G9⟩ := G
  obtain ⟨len, hdec, rfl, hlen'⟩ := G1 _ _ _ _ hcode
  have hd : decode c.code pc = .ok (i, len) := by rw [hby]; exact hdec
  obtain ⟨y, z, rfl, hy, hz⟩ := SR.app _ _ hS rfl
  have hws : SR am as y.reverse := by have := hy.rev; rwa [List.reverse_reverse] at this
  have hcz := hz.cats
  have lk := G9 _ _ _ _ hk
  have hq4 : q ≠ 4 := fun q4 => by subst q4; cases i <;> simp [kindOk] at hkind
  have hq5 : q ≠ 5 := fun q5 => by subst q5; cases i <;> simp [kindOk] at hkind
  have lk' : CallOk P nm bc cn C Z a0 (P.cls k) j q k' := linkOk_call hq4 hq5 lk
  obtain ⟨w1, w2, w3, ⟨ps, r, w4, w5⟩, w6, w7, w8, w9, w10⟩ := lk'
  have hM := metOf IH hrun (l := l) (wsC := []) (rm := ({ frames := P.rf k', cells := H1.length - H.length, slots := hsz P H1 - hsz P H, locals := P.rl k' } : Room)) w6 w8 w9 (Nat.le_refl _) (Nat.le_refl _) (Nat.le_refl _) (Nat.le_refl _) hws c6 hH hn
  have hB := backOf (R := R) (p := p) (e := e) (below := below) (args := args) (s := s) (len := 3) (W := cats rest) hM hZ w2 w3 (by show P.rf k' + 1 ≤ _; omega) (by show cats rest + (P.maxL k' + 11) + P.rl k' ≤ _; omega)
  have hyl : y.reverse.length = as.length := hws.len
  have recv : q ≠ 0 → ∃ a r' b ws', as = .ref a :: r' ∧ y.reverse = .ref b :: ws' ∧ Exa Z T.heap b C := fun h0 => by
    obtain ⟨a, r', fs, rfl, hfs⟩ := recv_spec h0 c5
    obtain ⟨_, ws', e1, ⟨b, hb, rfl⟩, -⟩ := hws
    obtain ⟨b', f1, f2, -⟩ := hH.2.2.2 _ _ hfs
    cases hb.symm.trans f1
    exact ⟨a, r', b, ws', rfl, e1, f2⟩
  cases i <;> simp only [poolOf, Option.some.injEq, reduceCtorEq] at hj
  case invokestatic j' =>
    subst hj
    obtain rfl : len = 3 := hlen'.resolve_left (by simp [ilen])
    obtain rfl : q = 0 := by
      match q, hkind with
      | 0, _ => rfl
    obtain ⟨w, _, ⟨T2, L2, k2, n2⟩, -, X2, ⟨Lc, hQ, l1, l2, l3⟩, st2⟩ := Jvm.LawKit.callS X hx (y := nm k') hown (mvT hZ w1) (mvT hZ w10) (mvT hZ w3) (mvT hZ w2) w7 hB (g := mkF m pc ls (y ++ z)) rfl (by rw [hml]; exact hlz) (argsL := y.reverse) (rest := z) (lenOf w4 (by rw [hyl, hlen, w5]; rfl)) (by simp) (by rw [hcz]; show 2 * 0 + _ ≤ _; omega) hd (fun _ _ => ⟨rfl, rfl, hcells, hslots⟩)
    dsimp only [Pt.U, Pt.locs, Pt.cells, Pt.slots] at X2 l1 l2 l3 st2 hQ
    subst l1 l2 l3
    exact ⟨T2, w, Lc, z, rfl, X2, hQ, hz, st2⟩
  case invokespecial j' =>
    subst hj
    obtain rfl : len = 3 := hlen'.resolve_left (by simp [ilen])
    obtain rfl : q = 1 := by
      match q, hkind with
      | 1, _ => rfl
    obtain ⟨a, r', b, ws', ea, ey, hEx⟩ := recv (by decide)
    obtain ⟨w11, w12, w13⟩ := w10
    have ey' : y = ws'.reverse ++ [.ref b] := by rw [← List.reverse_reverse y, ey]; simp
    rw [ey] at hB
    have hl : ws'.length = ps.length := by rw [ey, hlen, w5] at hyl; simpa [rcv] using hyl
    obtain ⟨w, _, ⟨T2, L2, k2, n2⟩, -, X2, ⟨Lc, hQ, l1, l2, l3⟩, st2⟩ := X.specialBack hx (y := nm k') w11 hown (mvT hZ w1) (mvT hZ w12) (bytes := bc k') (maxL := P.maxL k') (mvT hZ (by rw [w13] at w2; exact w2)) w7 hB (g := mkF m pc ls (y ++ z)) rfl (by rw [hml]; exact hlz) (Steps.refl _) (a := b) (argsL := ws') (rest := z) (lenOf w4 hl) (by rw [ey']; simp) (by rw [hcz]; show 2 * 0 + _ ≤ _; omega) hd (fun _ _ => ⟨rfl, rfl, hcells, hslots⟩)
    dsimp only [Pt.U, Pt.locs, Pt.cells, Pt.slots] at X2 l1 l2 l3 st2 hQ
    subst l1 l2 l3
    exact ⟨T2, w, Lc, z, rfl, X2, hQ, hz, fun target hr => st2.trans hr⟩
  case invokevirtual j' =>
    subst hj
    obtain rfl : len = 3 := hlen'.resolve_left (by simp [ilen])
    have hq : q = 2 ∨ q = 3 := by
      match q, hkind with
      | 2, _ => exact Or.inl rfl
      | 3, _ => exact Or.inr rfl
    obtain ⟨a, r', b, ws', ea, ey, hEx⟩ := recv (by omega)
    have ey' : y = ws'.reverse ++ [.ref b] := by rw [← List.reverse_reverse y, ey]; simp
    rw [ey] at hB
    rcases hq with rfl | rfl
    · obtain ⟨w11, w12, w13⟩ := w10
      have hl : ws'.length = ps.length := by rw [ey, hlen, w5] at hyl; simpa [rcv] using hyl
      obtain ⟨cq, kq, qa, qb, qc⟩ := isOf hZ rfl hEx
      obtain ⟨w, _, ⟨T2, L2, k2, n2⟩, -, X2, ⟨Lc, hQ, l1, l2, l3⟩, st2⟩ := X.virtualBack hx (y := nm k') (z := nm k') hown (mvT hZ w1) (mvT hZ w11) (notFace_of_selects (args := #[]) (mvT hZ w13)) (mvT hZ w13) (mvT hZ w12) w7 hB qa qc (g := mkF m pc ls (y ++ z)) rfl (by rw [hml]; exact hlz) (Steps.refl _) (argsL := ws') (rest := z) (lenOf w4 hl) (by rw [ey']; simp) (by rw [hcz]; show 2 * 0 + _ ≤ _; omega) hd (fun _ _ => ⟨rfl, rfl, hcells, hslots⟩)
      dsimp only [Pt.U, Pt.locs, Pt.cells, Pt.slots] at X2 l1 l2 l3 st2 hQ
      subst l1 l2 l3
      exact ⟨T2, w, Lc, z, rfl, X2, hQ, hz, fun target hr => st2.trans hr⟩
    · obtain ⟨w11, w12, w13⟩ := w10
      have hl : ws'.length = ps.length := by rw [ey, hlen, w5] at hyl; simpa [rcv] using hyl
      obtain ⟨cq, q1, q2⟩ := hEx.cell
      obtain ⟨cC, kC, i1, i2, i3, i4, -⟩ := Cond.instantiable_spec (mvT hZ G6 : (Cond.instantiable C P.objN).before #[] s = true)
      have hpriv : s.PrivateAt (nm k') := Cond.privateMethod_at (mvP hZ w13 (args := #[]))
      have hsel : (Cond.selects (nm k').cls (nm k') (nm k')).before args s = true := selects_self_of_private (by rw [w11]; exact i1) i2 (by simpa using (Bool.or_eq_false_iff.mp i4).1) hpriv (mvT hZ w12) w7
      obtain ⟨w, _, ⟨T2, L2, k2, n2⟩, -, X2, ⟨Lc, hQ, l1, l2, l3⟩, st2⟩ := X.privateBack hx (y := nm k') hown (mvT hZ w1) (mvT hZ w12) hsel hpriv (mvT hZ w2) w7 hB (g := mkF m pc ls (y ++ z)) rfl (by rw [hml]; exact hlz) (Steps.refl _) (a := b) q1 q2 (argsL := ws') (rest := z) (lenOf w4 hl) (by rw [ey']; simp) (by rw [hcz]; show 2 * 0 + _ ≤ _; omega) hd (fun _ _ => ⟨rfl, rfl, hcells, hslots⟩)
      dsimp only [Pt.U, Pt.locs, Pt.cells, Pt.slots] at X2 l1 l2 l3 st2 hQ
      subst l1 l2 l3
      exact ⟨T2, w, Lc, z, rfl, X2, hQ, hz, fun target hr => st2.trans hr⟩
theorem ret_sound (G : Good P nm bc cn C Z a0) {k pc np : Nat} {i : Instr} {S : List Value} {v : Option Value} (hcode : P.code k pc = some (i, np)) (h : retV P k i S = some v)
    (X : Stand p l e R s m args below meth c T locs cells slots) (hx : p.tables.exec = Jvm.exec) (hby : c.code = bc k) (hret : meth.sig.returnType = P.ret k) {am : List Addr} {ls : Array Slot} {st : List Value} (hS : SR am S st) :
    ∃ w, OVR am v w ∧ (P.ret k = none → w = none) ∧ ∀ fs, (∀ (f : JFrame) (acts : List Action), f.method = m → f.locked = none → f.entered = [] → (doReturn e (T.setTop f) acts w).1 = T.setFrames fs) → Steps p.tables e below (T.setTop (mkF m pc ls st)) (T.setFrames fs) := by
  obtain ⟨G1, -⟩ := G
  obtain ⟨len, hdec, rfl, hlen⟩ := G1 _ _ _ _ hcode
  have hd : decode c.code pc = .ok (i, len) := by rw [hby]; exact hdec
  rcases retV_spec h with ⟨rfl, rfl, hr, rfl⟩ | ⟨x, r, rfl, rfl, hr, rfl⟩ | ⟨x, r, rfl, rfl, hr, rfl⟩ | ⟨x, r, rfl, rfl, hr, rfl⟩
  · obtain rfl : len = 1 := hlen.resolve_left (by simp [ilen])
    cases hS
    exact ⟨none, rfl, fun _ => rfl, fun fs hl => X.returnOut hx (hret.trans hr) hd hl⟩
  · obtain rfl : len = 1 := hlen.resolve_left (by simp [ilen])
    obtain ⟨_, _, rfl, rfl, hr'⟩ := hS
    exact ⟨some (.int x), ⟨_, rfl, rfl⟩, (fun q => by rw [hr] at q; cases q), fun fs hl => retOut X hx (hret.trans hr) rfl (Or.inl ⟨rfl, Or.inl rfl, x, rfl⟩) hd hl⟩
  · obtain rfl : len = 1 := hlen.resolve_left (by simp [ilen])
    obtain ⟨_, _, rfl, rfl, hr'⟩ := hS
    exact ⟨some (.int (x &&& 1)), ⟨_, rfl, rfl⟩, (fun q => by rw [hr] at q; cases q), fun fs hl => retN X hx (hret.trans hr) (Or.inl rfl) hd hl⟩
  · obtain rfl : len = 1 := hlen.resolve_left (by simp [ilen])
    obtain ⟨_, _, rfl, rfl, hr'⟩ := hS
    exact ⟨some (.long x), ⟨_, rfl, rfl⟩, (fun q => by rw [hr] at q; cases q), fun fs hl => retOut X hx (hret.trans hr) rfl (Or.inr (Or.inl ⟨rfl, rfl, x, rfl⟩)) hd hl⟩
theorem SR.opt {am : List Addr} {v w : Option Value} {S st : List Value} (h : OVR am v w) (hS : SR am S st) : SR am (v.toList ++ S) (w.toList ++ st) := by
  cases v with
  | none => cases h; exact hS
  | some x => obtain ⟨y, rfl, h1⟩ := h; exact ⟨y, st, rfl, h1, hS⟩
theorem sound (G : Good P nm bc cn C Z a0) : ∀ n, SoundAt P nm bc cn C Z n
  | 0 => fun k pc L S H v H' h => by simp [run] at h
  | n + 1 => fun k pc L S H v H' h => by
    have IH := sound G n
    intro p l e R s m args below meth c T locs cells slots n0 am ls st X hx hZ hby hml hret hown hini hrf hrl hcells hslots hlz hL hS hH hF hn
    rw [run] at h
    split at h
    · cases h
    · rename_i i np hcode
      split at h
      · rename_i v' hv
        cases h
        obtain ⟨w, h1, h2, h3⟩ := ret_sound G hcode hv X hx hby hret (ls := ls) hS
        exact ⟨T, am, locs, w, by simpa using X, hH, Pre.refl _, hF, h1, hn, h2, h3⟩
      · split at h
        · rename_i k' as rest hcall
          split at h
          · rename_i v1 H1 hr1
            have g1 := run_grow hr1
            have g2 := run_grow h
            obtain ⟨T2, w, Lc, z, rfl, X2, ⟨q1, q2, am2, q3, q4, q5⟩, hz, st2⟩ := call_sound G IH hcode hcall hr1 X hx hZ hby hml hown hrf hrl (by omega) (by omega) (ls := ls) hlz hS hH hn
            obtain ⟨T', am', locs', w', X', f1, f2, f3, f4, f5, f6, f7⟩ := IH k _ _ _ _ _ _ h X2 hx hZ hby hml hret hown hini hrf hrl (by omega) (by omega) hlz (hL.mono q3) (SR.opt q5 (hz.mono q3)) q4 (Fr.app hF q1) q2
            refine ⟨T', am', locs', w', ?_, f1, q3.trans f2, f3, f4, f5, f6, fun fs hl => st2 _ (f7 fs hl)⟩
            have a1 : cells + (H1.length - H.length) + (H'.length - H1.length) = cells + (H'.length - H.length) := by omega
            have a2 : slots + (hsz P H1 - hsz P H) + (hsz P H' - hsz P H1) = slots + (hsz P H' - hsz P H) := by omega
            rw [a1, a2] at X'; exact X'
          · cases h
        · split at h
          · rename_i pc1 L1 S1 H1 hs1
            have g1 := step_grow hs1
            have g2 := run_grow h
            obtain ⟨T2, am2, ls2, st2, locs2, X2, b1, b2, b3, b4, b5, b6, b7, b8⟩ := step_sound G hcode hs1 X hx hZ hby hml hown hini hrf hrl (by omega) (by omega) hlz hL hS hH hF hn
            obtain ⟨T', am', locs', w', X', f1, f2, f3, f4, f5, f6, f7⟩ := IH k _ _ _ _ _ _ h X2 hx hZ hby hml hret hown hini hrf hrl (by omega) (by omega) (b2.trans hlz) b1 b3 b4 b6 b7
            refine ⟨T', am', locs', w', ?_, f1, b5.trans f2, f3, f4, f5, f6, fun fs hl => b8 _ (f7 fs hl)⟩
            have a1 : cells + (H1.length - H.length) + (H'.length - H1.length) = cells + (H'.length - H.length) := by omega
            have a2 : slots + (hsz P H1 - hsz P H) + (hsz P H' - hsz P H1) = slots + (hsz P H' - hsz P H) := by omega
            rw [a1, a2] at X'; exact X'
          · cases h
end Met
end Jvm.OwnX
namespace Jvm.OwnX
open Sem ClassFile Op Lib Jvm.Stand Jvm.Free Jvm.LawKit Jvm.RoadKit
theorem run_succ {P : Prog} : ∀ (n : Nat) {k pc : Nat} {L : ALoc} {S : List Value} {H : AHeap} {out : Option Value × AHeap}, run P n k pc L S H = some out → run P (n + 1) k pc L S H = some out
  | 0, k, pc, L, S, H, out, h => by simp [run] at h
  | n + 1, k, pc, L, S, H, out, h => by
    rw [run] at h
    rw [run]
    split at h
    · cases h
    · rename_i i np hc
      try simp only [hc]
      split at h
      · rename_i v hv
        try simp only [hv]
        exact h
      · rename_i hv
        try simp only [hv]
        split at h
        · rename_i k' as rest hcall
          try simp only [hcall]
          split at h
          · rename_i v1 H1 h1
            rw [run_succ n h1]; exact run_succ n h
          · cases h
        · rename_i hcall
          try simp only [hcall]
          split at h
          · rename_i pc1 L1 S1 H1 h1
            try simp only [h1]
            exact run_succ n h
          · cases h
theorem run_le {P : Prog} {n m k pc : Nat} {L : ALoc} {S : List Value} {H : AHeap} {out : Option Value × AHeap} (hm : n ≤ m) (h : run P n k pc L S H = some out) : run P m k pc L S H = some out := by
  induction hm with
  | refl => exact h
  | step _ ih => exact run_succ _ ih
section Rules
variable {P : Prog} {k pc np : Nat} {L L' : ALoc} {S r : List Value} {H : AHeap} {out : Option Value × AHeap}
theorem Eval.of_step {i : Instr} {pc' : Nat} {S' : List Value} {H' : AHeap} (hc : P.code k pc = some (i, np)) (h1 : retV P k i S = none) (h2 : callV P k i S H = none) (h3 : step P k i np pc L S H = some (pc', L', S', H')) (h : Eval P k pc' L' S' H' out) : Eval P k pc L S H out := by
  obtain ⟨n, h⟩ := h
  exact ⟨n + 1, by rw [run]; simp only [hc, h1, h2, h3]; exact h⟩
theorem Eval.call {i : Instr} {k' : Nat} {as rest : List Value} {v : Option Value} {H1 : AHeap} (hc : P.code k pc = some (i, np)) (h2 : callV P k i S H = some (k', as, rest)) (he : Eval P k' 0 (entry P k' as) [] H (v, H1)) (h : Eval P k np L (v.toList ++ rest) H1 out) : Eval P k pc L S H out := by
  obtain ⟨n, he⟩ := he
  obtain ⟨m, h⟩ := h
  have h1 : retV P k i S = none := by
    unfold callV at h2
    cases i <;> simp only [poolOf, reduceCtorEq] at h2 <;> rfl
  exact ⟨n + m + 1, by rw [run]; simp only [hc, h1, h2]; rw [run_le (Nat.le_add_right n m) he]; exact run_le (Nat.le_add_left m n) h⟩
theorem Eval.ret {i : Instr} {v : Option Value} (hc : P.code k pc = some (i, np)) (h1 : retV P k i S = some v) : Eval P k pc L S H (v, H) := ⟨1, by rw [run]; simp only [hc, h1]⟩
theorem Eval.eq {out' : Option Value × AHeap} (h : Eval P k pc L S H out') (e : out' = out) : Eval P k pc L S H out := e ▸ h
theorem Eval.iload_n {n : Fin 4} {x : Int32} (hc : P.code k pc = some (.iload_n n, np)) (hl : loadI L n.val = some x) (h : Eval P k np L (.int x :: S) H out) : Eval P k pc L S H out := Eval.of_step hc rfl rfl (by simp only [step, hl]) h
theorem Eval.iload {n : Nat} {x : Int32} (hc : P.code k pc = some (.iload n, np)) (hl : loadI L n = some x) (h : Eval P k np L (.int x :: S) H out) : Eval P k pc L S H out := Eval.of_step hc rfl rfl (by simp only [step, hl]) h
theorem Eval.lload_n {n : Fin 4} {x : Int64} (hc : P.code k pc = some (.lload_n n, np)) (hl : loadJ L n.val = some x) (h : Eval P k np L (.long x :: S) H out) : Eval P k pc L S H out := Eval.of_step hc rfl rfl (by simp only [step, hl]) h
theorem Eval.lload {n : Nat} {x : Int64} (hc : P.code k pc = some (.lload n, np)) (hl : loadJ L n = some x) (h : Eval P k np L (.long x :: S) H out) : Eval P k pc L S H out := Eval.of_step hc rfl rfl (by simp only [step, hl]) h
theorem Eval.aload_n {n : Fin 4} {x : Nat} (hc : P.code k pc = some (.aload_n n, np)) (hl : loadA L n.val = some x) (h : Eval P k np L (.ref x :: S) H out) : Eval P k pc L S H out := Eval.of_step hc rfl rfl (by simp only [step, hl]) h
theorem Eval.aload {n x : Nat} (hc : P.code k pc = some (.aload n, np)) (hl : loadA L n = some x) (h : Eval P k np L (.ref x :: S) H out) : Eval P k pc L S H out := Eval.of_step hc rfl rfl (by simp only [step, hl]) h
theorem Eval.istore_n {n : Fin 4} {x : Int32} (hc : P.code k pc = some (.istore_n n, np)) (hl : lput L n.val (.int x) = some L') (h : Eval P k np L' r H out) : Eval P k pc L (.int x :: r) H out := Eval.of_step hc rfl rfl (by simp only [step, hl]) h
theorem Eval.istore {n : Nat} {x : Int32} (hc : P.code k pc = some (.istore n, np)) (hl : lput L n (.int x) = some L') (h : Eval P k np L' r H out) : Eval P k pc L (.int x :: r) H out := Eval.of_step hc rfl rfl (by simp only [step, hl]) h
theorem Eval.astore_n {n : Fin 4} {x : Nat} (hc : P.code k pc = some (.astore_n n, np)) (hl : lput L n.val (.ref x) = some L') (h : Eval P k np L' r H out) : Eval P k pc L (.ref x :: r) H out := Eval.of_step hc rfl rfl (by simp only [step, hl]) h
theorem Eval.astore {n x : Nat} (hc : P.code k pc = some (.astore n, np)) (hl : lput L n (.ref x) = some L') (h : Eval P k np L' r H out) : Eval P k pc L (.ref x :: r) H out := Eval.of_step hc rfl rfl (by simp only [step, hl]) h
theorem Eval.lstore_n {n : Fin 4} {x : Int64} (hc : P.code k pc = some (.lstore_n n, np)) (hl : lputL L n.val x = some L') (h : Eval P k np L' r H out) : Eval P k pc L (.long x :: r) H out := Eval.of_step hc rfl rfl (by simp only [step, hl]) h
theorem Eval.lstore {n : Nat} {x : Int64} (hc : P.code k pc = some (.lstore n, np)) (hl : lputL L n x = some L') (h : Eval P k np L' r H out) : Eval P k pc L (.long x :: r) H out := Eval.of_step hc rfl rfl (by simp only [step, hl]) h
theorem Eval.iinc {n : Nat} {c : Int} {x : Int32} (hc : P.code k pc = some (.iinc n c, np)) (hl : loadI L n = some x) (hp : lput L n (.int (x + Int32.ofInt c)) = some L') (h : Eval P k np L' S H out) : Eval P k pc L S H out := Eval.of_step hc rfl rfl (by simp only [step, hl, hp]) h
theorem Eval.iconst {c : Int} {x : Int32} (hc : P.code k pc = some (.iconst c, np)) (hx : Int32.ofInt c = x) (h : Eval P k np L (.int x :: S) H out) : Eval P k pc L S H out := Eval.of_step hc rfl rfl (by subst hx; rfl) h
theorem Eval.bipush {c : Int} {x : Int32} (hc : P.code k pc = some (.bipush c, np)) (hx : (Int8.ofInt c).toInt32 = x) (h : Eval P k np L (.int x :: S) H out) : Eval P k pc L S H out := Eval.of_step hc rfl rfl (by subst hx; rfl) h
theorem Eval.sipush {c : Int} {x : Int32} (hc : P.code k pc = some (.sipush c, np)) (hx : (Int16.ofInt c).toInt32 = x) (h : Eval P k np L (.int x :: S) H out) : Eval P k pc L S H out := Eval.of_step hc rfl rfl (by subst hx; rfl) h
theorem Eval.lconst {c : Fin 2} {x : Int64} (hc : P.code k pc = some (.lconst c, np)) (hx : Int64.ofNat c = x) (h : Eval P k np L (.long x :: S) H out) : Eval P k pc L S H out := Eval.of_step hc rfl rfl (by subst hx; rfl) h
theorem Eval.ldc {j : Nat} {x : Int32} (hc : P.code k pc = some (.ldc j, np)) (hx : P.kon (P.cls k) j = some (.int x)) (h : Eval P k np L (.int x :: S) H out) : Eval P k pc L S H out := Eval.of_step hc rfl rfl (by simp only [step, hx]) h
theorem Eval.ldc2_w {j : Nat} {x : Int64} (hc : P.code k pc = some (.ldc2_w j, np)) (hx : P.kon (P.cls k) j = some (.long x)) (h : Eval P k np L (.long x :: S) H out) : Eval P k pc L S H out := Eval.of_step hc rfl rfl (by simp only [step, hx]) h
theorem Eval.idiv {x y : Int32} (hc : P.code k pc = some (.idiv, np)) (hy : ¬ y = 0) (h : Eval P k np L (.int (x / y) :: r) H out) : Eval P k pc L (.int y :: .int x :: r) H out := Eval.of_step hc rfl rfl (by simp [step, hy]) h
theorem Eval.irem {x y : Int32} (hc : P.code k pc = some (.irem, np)) (hy : ¬ y = 0) (h : Eval P k np L (.int (x % y) :: r) H out) : Eval P k pc L (.int y :: .int x :: r) H out := Eval.of_step hc rfl rfl (by simp [step, hy]) h
theorem Eval.iadd {x y : Int32} (hc : P.code k pc = some (.iadd, np))  (h : Eval P k np L (.int (x + y) :: r) H out) : Eval P k pc L (.int y :: .int x :: r) H out := Eval.of_step hc rfl rfl (by rfl) h
theorem Eval.isub {x y : Int32} (hc : P.code k pc = some (.isub, np))  (h : Eval P k np L (.int (x - y) :: r) H out) : Eval P k pc L (.int y :: .int x :: r) H out := Eval.of_step hc rfl rfl (by rfl) h
theorem Eval.imul {x y : Int32} (hc : P.code k pc = some (.imul, np))  (h : Eval P k np L (.int (x * y) :: r) H out) : Eval P k pc L (.int y :: .int x :: r) H out := Eval.of_step hc rfl rfl (by rfl) h
theorem Eval.iand {x y : Int32} (hc : P.code k pc = some (.iand, np))  (h : Eval P k np L (.int (x &&& y) :: r) H out) : Eval P k pc L (.int y :: .int x :: r) H out := Eval.of_step hc rfl rfl (by rfl) h
theorem Eval.ior {x y : Int32} (hc : P.code k pc = some (.ior, np))  (h : Eval P k np L (.int (x ||| y) :: r) H out) : Eval P k pc L (.int y :: .int x :: r) H out := Eval.of_step hc rfl rfl (by rfl) h
theorem Eval.ixor {x y : Int32} (hc : P.code k pc = some (.ixor, np))  (h : Eval P k np L (.int (x ^^^ y) :: r) H out) : Eval P k pc L (.int y :: .int x :: r) H out := Eval.of_step hc rfl rfl (by rfl) h
theorem Eval.ishl {x y : Int32} (hc : P.code k pc = some (.ishl, np))  (h : Eval P k np L (.int (ish x y) :: r) H out) : Eval P k pc L (.int y :: .int x :: r) H out := Eval.of_step hc rfl rfl (by rfl) h
theorem Eval.ishr {x y : Int32} (hc : P.code k pc = some (.ishr, np))  (h : Eval P k np L (.int (isr x y) :: r) H out) : Eval P k pc L (.int y :: .int x :: r) H out := Eval.of_step hc rfl rfl (by rfl) h
theorem Eval.iushr {x y : Int32} (hc : P.code k pc = some (.iushr, np))  (h : Eval P k np L (.int (ush x y) :: r) H out) : Eval P k pc L (.int y :: .int x :: r) H out := Eval.of_step hc rfl rfl (by rfl) h
theorem Eval.ladd {x y : Int64} (hc : P.code k pc = some (.ladd, np))  (h : Eval P k np L (.long (x + y) :: r) H out) : Eval P k pc L (.long y :: .long x :: r) H out := Eval.of_step hc rfl rfl (by rfl) h
theorem Eval.lsub {x y : Int64} (hc : P.code k pc = some (.lsub, np))  (h : Eval P k np L (.long (x - y) :: r) H out) : Eval P k pc L (.long y :: .long x :: r) H out := Eval.of_step hc rfl rfl (by rfl) h
theorem Eval.lmul {x y : Int64} (hc : P.code k pc = some (.lmul, np))  (h : Eval P k np L (.long (x * y) :: r) H out) : Eval P k pc L (.long y :: .long x :: r) H out := Eval.of_step hc rfl rfl (by rfl) h
theorem Eval.land {x y : Int64} (hc : P.code k pc = some (.land, np))  (h : Eval P k np L (.long (x &&& y) :: r) H out) : Eval P k pc L (.long y :: .long x :: r) H out := Eval.of_step hc rfl rfl (by rfl) h
theorem Eval.lor {x y : Int64} (hc : P.code k pc = some (.lor, np))  (h : Eval P k np L (.long (x ||| y) :: r) H out) : Eval P k pc L (.long y :: .long x :: r) H out := Eval.of_step hc rfl rfl (by rfl) h
theorem Eval.lxor {x y : Int64} (hc : P.code k pc = some (.lxor, np))  (h : Eval P k np L (.long (x ^^^ y) :: r) H out) : Eval P k pc L (.long y :: .long x :: r) H out := Eval.of_step hc rfl rfl (by rfl) h
theorem Eval.lshl {x : Int64} {y : Int32} (hc : P.code k pc = some (.lshl, np))  (h : Eval P k np L (.long (lsh x y) :: r) H out) : Eval P k pc L (.int y :: .long x :: r) H out := Eval.of_step hc rfl rfl (by rfl) h
theorem Eval.lushr {x : Int64} {y : Int32} (hc : P.code k pc = some (.lushr, np))  (h : Eval P k np L (.long (lus x y) :: r) H out) : Eval P k pc L (.int y :: .long x :: r) H out := Eval.of_step hc rfl rfl (by rfl) h
theorem Eval.lcmp {x y : Int64} (hc : P.code k pc = some (.lcmp, np))  (h : Eval P k np L (.int (lcm x y) :: r) H out) : Eval P k pc L (.long y :: .long x :: r) H out := Eval.of_step hc rfl rfl (by rfl) h
theorem Eval.lneg {x : Int64} (hc : P.code k pc = some (.lneg, np))  (h : Eval P k np L (.long (-x) :: r) H out) : Eval P k pc L (.long x :: r) H out := Eval.of_step hc rfl rfl (by rfl) h
theorem Eval.i2l {x : Int32} (hc : P.code k pc = some (.i2l, np))  (h : Eval P k np L (.long x.toInt64 :: r) H out) : Eval P k pc L (.int x :: r) H out := Eval.of_step hc rfl rfl (by rfl) h
theorem Eval.l2i {x : Int64} (hc : P.code k pc = some (.l2i, np))  (h : Eval P k np L (.int x.toInt32 :: r) H out) : Eval P k pc L (.long x :: r) H out := Eval.of_step hc rfl rfl (by rfl) h
theorem Eval.i2b {x : Int32} (hc : P.code k pc = some (.i2b, np))  (h : Eval P k np L (.int (i8 x) :: r) H out) : Eval P k pc L (.int x :: r) H out := Eval.of_step hc rfl rfl (by rfl) h
theorem Eval.dupR {x : Nat} (hc : P.code k pc = some (.dup, np))  (h : Eval P k np L (.ref x :: .ref x :: r) H out) : Eval P k pc L (.ref x :: r) H out := Eval.of_step hc rfl rfl (by rfl) h
theorem Eval.dupI {x : Int32} (hc : P.code k pc = some (.dup, np))  (h : Eval P k np L (.int x :: .int x :: r) H out) : Eval P k pc L (.int x :: r) H out := Eval.of_step hc rfl rfl (by rfl) h
theorem Eval.dup2 {x : Int32} {y : Nat} (hc : P.code k pc = some (.dup2, np))  (h : Eval P k np L (.int x :: .ref y :: .int x :: .ref y :: r) H out) : Eval P k pc L (.int x :: .ref y :: r) H out := Eval.of_step hc rfl rfl (by rfl) h
theorem Eval.popI {x : Int32} (hc : P.code k pc = some (.pop, np))  (h : Eval P k np L r H out) : Eval P k pc L (.int x :: r) H out := Eval.of_step hc rfl rfl (by rfl) h
theorem Eval.popR {x : Nat} (hc : P.code k pc = some (.pop, np))  (h : Eval P k np L r H out) : Eval P k pc L (.ref x :: r) H out := Eval.of_step hc rfl rfl (by rfl) h
theorem Eval.goto {o : Int} {t : Nat} (hc : P.code k pc = some (.goto o, np)) (ht : tgt pc o = some t) (h : Eval P k t L S H out) : Eval P k pc L S H out := Eval.of_step hc rfl rfl (by simp only [step, ht]) h
theorem Eval.ifT {cd : ClassFile.Cond} {o : Int} {t : Nat} {x : Int32} (hc : P.code k pc = some (.ifCond cd o, np)) (ht : tgt pc o = some t) (hb : if_icmp.holds cd x 0 = true) (h : Eval P k t L r H out) : Eval P k pc L (.int x :: r) H out := Eval.of_step hc rfl rfl (by simp only [step, ht, hb, cond_true]) h
theorem Eval.ifF {cd : ClassFile.Cond} {o : Int} {x : Int32} (hc : P.code k pc = some (.ifCond cd o, np)) (hb : if_icmp.holds cd x 0 = false) (h : Eval P k np L r H out) : Eval P k pc L (.int x :: r) H out := Eval.of_step hc rfl rfl (by simp only [step, hb, cond_false]) h
theorem Eval.icmpT {cd : ClassFile.Cond} {o : Int} {t : Nat} {x y : Int32} (hc : P.code k pc = some (.if_icmp cd o, np)) (ht : tgt pc o = some t) (hb : if_icmp.holds cd x y = true) (h : Eval P k t L r H out) : Eval P k pc L (.int y :: .int x :: r) H out := Eval.of_step hc rfl rfl (by simp only [step, ht, hb, cond_true]) h
theorem Eval.icmpF {cd : ClassFile.Cond} {o : Int} {x y : Int32} (hc : P.code k pc = some (.if_icmp cd o, np)) (hb : if_icmp.holds cd x y = false) (h : Eval P k np L r H out) : Eval P k pc L (.int y :: .int x :: r) H out := Eval.of_step hc rfl rfl (by simp only [step, hb, cond_false]) h
theorem Eval.tswIn {d lo hi o : Int} {offs : Array Int} {t : Nat} {x : Int32} (hc : P.code k pc = some (.tableswitch d lo hi offs, np)) (h1 : (decide (x.toInt < lo) || decide (x.toInt > hi)) = false) (h2 : offs.toList[(x.toInt - lo).toNat]? = some o) (ht : tgt pc o = some t) (h : Eval P k t L r H out) : Eval P k pc L (.int x :: r) H out := Eval.of_step hc rfl rfl (by simp only [step, h1, h2, ht, cond_false]) h
theorem Eval.tswOut {d lo hi : Int} {offs : Array Int} {t : Nat} {x : Int32} (hc : P.code k pc = some (.tableswitch d lo hi offs, np)) (h1 : (decide (x.toInt < lo) || decide (x.toInt > hi)) = true) (ht : tgt pc d = some t) (h : Eval P k t L r H out) : Eval P k pc L (.int x :: r) H out := Eval.of_step hc rfl rfl (by simp only [step, h1, ht, cond_true]) h
theorem Eval.getfield {j f a : Nat} {v : Value} (hc : P.code k pc = some (.getfield j, np)) (hf : P.fld (P.cls k) j = some f) (hg : getC H a f = some v) (h : Eval P k np L (v :: r) H out) : Eval P k pc L (.ref a :: r) H out := Eval.of_step hc rfl rfl (by simp only [step, hf, hg]) h
/-- the heap with a field written -/
def putC (P : Prog) (k : Nat) (H : AHeap) (a f : Nat) (v : Value) : Option AHeap := match P.fields[f]? with
  | some (_, _, t, fin) => (bif (!fin || P.ini k) && Nat.ble P.ro a then (match conv t v with
    | some v' => (match H[a]? with
      | some (.inl fs) => (bif Nat.ble (f + 1) fs.length then some (H.set a (.inl (fs.set f v'))) else none)
      | _ => none)
    | none => none) else none)
  | none => none
theorem putC_spec {P : Prog} {k a f : Nat} {v : Value} {H H1 : AHeap} (hp : putC P k H a f v = some H1) : ∃ n d t fin v' fs, P.fields[f]? = some (n, d, t, fin) ∧ ((!fin || P.ini k) && Nat.ble P.ro a) = true ∧ conv t v = some v' ∧ H[a]? = some (.inl fs) ∧ Nat.ble (f + 1) fs.length = true ∧ H1 = H.set a (.inl (fs.set f v')) := by
  unfold putC at hp
  simp only [Bool.cond_eq_ite] at hp
  split at hp
  · rename_i n d t fin hq
    split at hp
    · rename_i hc
      split at hp
      · rename_i v' hv
        split at hp
        · rename_i fs hfs
          split at hp
          · rename_i hz
            cases hp; exact ⟨n, d, t, fin, v', fs, hq, hc, hv, hfs, hz, rfl⟩
          · cases hp
        · cases hp
      · cases hp
    · cases hp
  · cases hp
theorem step_put {j f a : Nat} {v : Value} {H1 : AHeap} (hf : P.fld (P.cls k) j = some f) (hp : putC P k H a f v = some H1) : step P k (.putfield j) np pc L (v :: .ref a :: r) H = some (np, L, r, H1) := by
  obtain ⟨n, d, t, fin, v', fs, h1, h2, h3, h4, h5, rfl⟩ := putC_spec hp
  simp only [step, hf, h1, h2, h3, h4, h5, cond_true]
theorem Eval.putfield {j f a : Nat} {v : Value} {H1 : AHeap} (hc : P.code k pc = some (.putfield j, np)) (hf : P.fld (P.cls k) j = some f) (hp : putC P k H a f v = some H1) (h : Eval P k np L r H1 out) : Eval P k pc L (v :: .ref a :: r) H out := Eval.of_step hc rfl rfl (step_put hf hp) h
theorem Eval.iaload0 {a : Nat} {j : Int32} {xs : List Int32} (hc : P.code k pc = some (.iaload, np)) (ha : H[a]? = some (.inr (.inl (0, xs)))) (hj : inb xs.length j = true) (h : Eval P k np L (.int (rd xs j) :: r) H out) : Eval P k pc L (.int j :: .ref a :: r) H out := Eval.of_step hc rfl rfl (by simp only [step, ha, hj, cond_true]) h
theorem Eval.iaload {a : Nat} {j : Int32} {xs : List Int32} (hc : P.code k pc = some (.iaload, np)) (ha : H[a]? = some (.inr (.inl (1, xs)))) (hj : inb xs.length j = true) (h : Eval P k np L (.int (rd xs j) :: r) H out) : Eval P k pc L (.int j :: .ref a :: r) H out := Eval.of_step hc rfl rfl (by simp only [step, ha, hj, cond_true]) h
theorem Eval.baloadZ {a : Nat} {j : Int32} {xs : List Int32} (hc : P.code k pc = some (.baload, np)) (ha : H[a]? = some (.inr (.inl (2, xs)))) (hj : inb xs.length j = true) (h : Eval P k np L (.int (rd xs j) :: r) H out) : Eval P k pc L (.int j :: .ref a :: r) H out := Eval.of_step hc rfl rfl (by simp only [step, ha, hj, cond_true]) h
theorem Eval.baloadB {a : Nat} {j : Int32} {xs : List Int32} (hc : P.code k pc = some (.baload, np)) (ha : H[a]? = some (.inr (.inl (3, xs)))) (hj : inb xs.length j = true) (h : Eval P k np L (.int (rd xs j) :: r) H out) : Eval P k pc L (.int j :: .ref a :: r) H out := Eval.of_step hc rfl rfl (by simp only [step, ha, hj, cond_true]) h
theorem Eval.laload {a : Nat} {j : Int32} {xs : List Int64} (hc : P.code k pc = some (.laload, np)) (ha : H[a]? = some (.inr (.inr xs))) (hj : inb xs.length j = true) (h : Eval P k np L (.long (rdL xs j) :: r) H out) : Eval P k pc L (.int j :: .ref a :: r) H out := Eval.of_step hc rfl rfl (by simp only [step, ha, hj, cond_true]) h
theorem Eval.iastore {a : Nat} {j x : Int32} {xs : List Int32} {H1 : AHeap} (hc : P.code k pc = some (.iastore, np)) (hro : Nat.ble P.ro a = true) (ha : H[a]? = some (.inr (.inl (1, xs)))) (hj : inb xs.length j = true) (hH : H.set a (.inr (.inl (1, wr xs j x))) = H1) (h : Eval P k np L r H1 out) : Eval P k pc L (.int x :: .int j :: .ref a :: r) H out := Eval.of_step hc rfl rfl (by subst hH; simp only [step, hro, ha, hj, cond_true]; try rfl) h
theorem Eval.bastoreZ {a : Nat} {j x : Int32} {xs : List Int32} {H1 : AHeap} (hc : P.code k pc = some (.bastore, np)) (hro : Nat.ble P.ro a = true) (ha : H[a]? = some (.inr (.inl (2, xs)))) (hj : inb xs.length j = true) (hH : H.set a (.inr (.inl (2, wr xs j (x &&& 1)))) = H1) (h : Eval P k np L r H1 out) : Eval P k pc L (.int x :: .int j :: .ref a :: r) H out := Eval.of_step hc rfl rfl (by subst hH; simp only [step, hro, ha, hj, cond_true]; try rfl) h
theorem Eval.bastoreB {a : Nat} {j x : Int32} {xs : List Int32} {H1 : AHeap} (hc : P.code k pc = some (.bastore, np)) (hro : Nat.ble P.ro a = true) (ha : H[a]? = some (.inr (.inl (3, xs)))) (hj : inb xs.length j = true) (hH : H.set a (.inr (.inl (3, wr xs j (i8 x)))) = H1) (h : Eval P k np L r H1 out) : Eval P k pc L (.int x :: .int j :: .ref a :: r) H out := Eval.of_step hc rfl rfl (by subst hH; simp only [step, hro, ha, hj, cond_true]; try rfl) h
theorem Eval.lastore {a : Nat} {j : Int32} {x : Int64} {xs : List Int64} {H1 : AHeap} (hc : P.code k pc = some (.lastore, np)) (hro : Nat.ble P.ro a = true) (ha : H[a]? = some (.inr (.inr xs))) (hj : inb xs.length j = true) (hH : H.set a (.inr (.inr (wrL xs j x))) = H1) (h : Eval P k np L r H1 out) : Eval P k pc L (.long x :: .int j :: .ref a :: r) H out := Eval.of_step hc rfl rfl (by subst hH; simp only [step, hro, ha, hj, cond_true]; try rfl) h
theorem Eval.alenI {a t : Nat} {xs : List Int32} (hc : P.code k pc = some (.arraylength, np)) (ha : H[a]? = some (.inr (.inl (t, xs)))) (h : Eval P k np L (.int xs.length.toInt32 :: r) H out) : Eval P k pc L (.ref a :: r) H out := Eval.of_step hc rfl rfl (by simp only [step, ha]) h
theorem Eval.newarray {t : ArrayType} {n : Int32} {q a z N : Nat} {H1 : AHeap} (hc : P.code k pc = some (.newarray t, np)) (hla : H.length = a) (ht : atyOf t = some q) (hn : decide (n < 0) = false) (hN : n.toNatClampNeg = N) (hb : N ≤ 60000) (hC : a + 1 ≤ P.capC) (hz : hsz P H = z) (hS : z + N ≤ P.capS) (hH : H ++ [newC q N] = H1) (h : Eval P k np L (.ref a :: r) H1 out) : Eval P k pc L (.int n :: r) H out := by
  subst hla hN hz
  have hq : (!(decide (n < 0)) && Nat.ble n.toNatClampNeg 60000 && Nat.ble (H.length + 1) P.capC && Nat.ble (hsz P H + n.toNatClampNeg) P.capS) = true := by
    simp only [hn, Bool.not_false, Bool.true_and, Bool.and_eq_true]
    exact ⟨⟨Nat.ble_eq_true_of_le hb, Nat.ble_eq_true_of_le hC⟩, Nat.ble_eq_true_of_le hS⟩
  exact Eval.of_step hc rfl rfl (by simp only [step, ht, hq, cond_true, hH]) h
theorem Eval.new {j q a z : Nat} {H1 : AHeap} (hc : P.code k pc = some (.new j, np)) (hla : H.length = a) (ht : P.link (P.cls k) j = some (5, q)) (hC : a + 1 ≤ P.capC) (hz : hsz P H = z) (hS : z + P.objN ≤ P.capS) (hH : H ++ [.inl P.fresh] = H1) (h : Eval P k np L (.ref a :: S) H1 out) : Eval P k pc L S H out := by
  subst hla hz
  have hq : (Nat.ble (H.length + 1) P.capC && Nat.ble (hsz P H + P.objN) P.capS) = true := by
    simp only [Bool.and_eq_true]
    exact ⟨Nat.ble_eq_true_of_le hC, Nat.ble_eq_true_of_le hS⟩
  exact Eval.of_step hc rfl rfl (by simp only [step, ht, hq, cond_true, hH]) h
theorem Eval.objInit {j a : Nat} (hc : P.code k pc = some (.invokespecial j, np)) (hq : (isObjInit P k j && Nat.ble 1 (P.rf k) && Nat.ble (cats r + 12) (P.rl k)) = true) (h : Eval P k np L r H out) : Eval P k pc L (.ref a :: r) H out := by
  refine Eval.of_step hc rfl ?_ (by simp only [step, hq, cond_true]) h
  simp only [Bool.and_eq_true] at hq
  have h3 := hq.1.1
  unfold isObjInit at h3
  split at h3
  · rename_i kk hk
    simp [callV, poolOf, hk, kindOk]
  · cases h3
/-- the left knows at least what the right knows -/
def lw : ALoc → ALoc → Prop
  | [], b => b = []
  | a :: r, b => ∃ x r', b = x :: r' ∧ (x = none ∨ x = a) ∧ lw r r'
theorem lw.refl : ∀ L : ALoc, lw L L
  | [] => rfl
  | a :: r => ⟨a, r, rfl, Or.inr rfl, lw.refl r⟩
def mkL : Nat → ALoc → ALoc
  | _, [] => []
  | m, a :: r => (match Nat.mod m 2 with | 0 => none | _ => a) :: mkL (Nat.div m 2) r
theorem lw_mk : ∀ (m : Nat) (L : ALoc), lw L (mkL m L)
  | _, [] => rfl
  | m, a :: r => ⟨_, _, rfl, by cases h : Nat.mod m 2 with
    | zero => exact Or.inl rfl
    | succ k => exact Or.inr rfl, lw_mk (Nat.div m 2) r⟩
theorem lw.spec : ∀ {L L' : ALoc}, lw L L' → L.length = L'.length ∧ ∀ (i : Nat) v, L'[i]? = some (some v) → L[i]? = some (some v)
  | [], _, h => by cases h; exact ⟨rfl, fun i v q => by simp at q⟩
  | a :: r, _, ⟨x, r', e, h1, h2⟩ => by
    subst e
    obtain ⟨i1, i2⟩ := lw.spec h2
    refine ⟨by simp [i1], fun i v q => ?_⟩
    cases i with
    | zero =>
      simp only [List.getElem?_cons_zero, Option.some.injEq] at q ⊢
      rcases h1 with rfl | rfl
      · cases q
      · exact q
    | succ i => rw [List.getElem?_cons_succ] at q ⊢; exact i2 i v q
theorem lw.of : ∀ {L L' : ALoc}, L.length = L'.length → (∀ (i : Nat) v, L'[i]? = some (some v) → L[i]? = some (some v)) → lw L L'
  | [], L', h, _ => by cases L' with
    | nil => rfl
    | cons _ _ => simp at h
  | a :: r, L', h, q => by
    cases L' with
    | nil => simp at h
    | cons x r' =>
      refine ⟨x, r', rfl, ?_, lw.of (by simpa using h) fun i v e => ?_⟩
      · cases x with
        | none => exact Or.inl rfl
        | some v => have := q 0 v rfl; simp at this; exact Or.inr this.symm
      · have := q (i + 1) v (by rw [List.getElem?_cons_succ]; exact e); rwa [List.getElem?_cons_succ] at this
theorem lw.kill {L L' : ALoc} (h : lw L L') (i : Nat) : lw (kill1 L i) (kill1 L' i) := by
  obtain ⟨h1, h2⟩ := h.spec
  refine lw.of (by rw [kill1_len, kill1_len, h1]) fun j v q => ?_
  obtain ⟨q1, q2⟩ := kill1_get q
  have q3 := h2 _ _ q1
  unfold kill1
  split
  · exact q3
  · rename_i i
    split
    · rename_i x hx
      by_cases e : i = j
      · subst e; rw [hx] at q3; cases q3; exact absurd rfl (q2 rfl x)
      · rw [List.getElem?_set_ne e]; exact q3
    · exact q3
theorem lw.set {L L' : ALoc} (h : lw L L') (i : Nat) (x : Option Value) : lw (L.set i x) (L'.set i x) := by
  obtain ⟨h1, h2⟩ := h.spec
  refine lw.of (by simp [h1]) fun j v q => ?_
  rw [List.getElem?_set] at q ⊢
  split at q
  · rename_i e
    rw [if_pos e, h1]; exact q
  · rename_i e
    rw [if_neg e]; exact h2 _ _ q
theorem lw.put {L L' L1 : ALoc} (h : lw L L') {i : Nat} {v : Value} (hp : lput L' i v = some L1) : ∃ L2, lput L i v = some L2 ∧ lw L2 L1 := by
  unfold lput at hp ⊢
  rw [h.spec.1]
  rw [Bool.cond_eq_ite] at hp ⊢
  split at hp
  · rename_i hc
    cases hp; exact ⟨_, if_pos hc, (h.kill i).set i _⟩
  · cases hp
theorem lw.putL {L L' L1 : ALoc} (h : lw L L') {i : Nat} {v : Int64} (hp : lputL L' i v = some L1) : ∃ L2, lputL L i v = some L2 ∧ lw L2 L1 := by
  unfold lputL at hp ⊢
  rw [h.spec.1]
  rw [Bool.cond_eq_ite] at hp ⊢
  split at hp
  · rename_i hc
    cases hp; exact ⟨_, if_pos hc, ((h.kill i).set i _).set (i + 1) _⟩
  · cases hp
theorem lw.loadI {L L' : ALoc} (h : lw L L') {i : Nat} {x : Int32} (q : OwnX.loadI L' i = some x) : OwnX.loadI L i = some x := by
  unfold OwnX.loadI at q ⊢
  split at q
  · rename_i y hy
    rw [h.spec.2 _ _ hy]; exact q
  · cases q
theorem lw.loadJ {L L' : ALoc} (h : lw L L') {i : Nat} {x : Int64} (q : OwnX.loadJ L' i = some x) : OwnX.loadJ L i = some x := by
  unfold OwnX.loadJ at q ⊢
  split at q
  · rename_i y hy
    rw [h.spec.2 _ _ hy]; exact q
  · cases q
theorem lw.loadA {L L' : ALoc} (h : lw L L') {i x : Nat} (q : OwnX.loadA L' i = some x) : OwnX.loadA L i = some x := by
  unfold OwnX.loadA at q ⊢
  split at q
  · rename_i y hy
    rw [h.spec.2 _ _ hy]; exact q
  · cases q
set_option maxHeartbeats 4000000 in
theorem step_weak {i : Instr} {pc' : Nat} {S' : List Value} {H' : AHeap} {L1 : ALoc} (hw : lw L L') (h : step P k i np pc L' S H = some (pc', L1, S', H')) : ∃ L2, step P k i np pc L S H = some (pc', L2, S', H') ∧ lw L2 L1 := by
  cases i
  case iload_n n =>
    simp only [step] at h ⊢
    split at h
    · rename_i x hx
      rw [hw.loadI hx]; cases h; exact ⟨L, rfl, hw⟩
    · cases h
  case iload n =>
    simp only [step] at h ⊢
    split at h
    · rename_i x hx
      rw [hw.loadI hx]; cases h; exact ⟨L, rfl, hw⟩
    · cases h
  case lload_n n =>
    simp only [step] at h ⊢
    split at h
    · rename_i x hx
      rw [hw.loadJ hx]; cases h; exact ⟨L, rfl, hw⟩
    · cases h
  case lload n =>
    simp only [step] at h ⊢
    split at h
    · rename_i x hx
      rw [hw.loadJ hx]; cases h; exact ⟨L, rfl, hw⟩
    · cases h
  case aload_n n =>
    simp only [step] at h ⊢
    split at h
    · rename_i x hx
      rw [hw.loadA hx]; cases h; exact ⟨L, rfl, hw⟩
    · cases h
  case aload n =>
    simp only [step] at h ⊢
    split at h
    · rename_i x hx
      rw [hw.loadA hx]; cases h; exact ⟨L, rfl, hw⟩
    · cases h
  case istore_n n =>
    simp only [step] at h ⊢
    split at h
    · split at h
      · rename_i L3 hx
        obtain ⟨L2, e1, e2⟩ := hw.put hx
        cases h; exact ⟨L2, by simp only [e1], e2⟩
      · cases h
    · cases h
  case istore n =>
    simp only [step] at h ⊢
    split at h
    · split at h
      · rename_i L3 hx
        obtain ⟨L2, e1, e2⟩ := hw.put hx
        cases h; exact ⟨L2, by simp only [e1], e2⟩
      · cases h
    · cases h
  case astore_n n =>
    simp only [step] at h ⊢
    split at h
    · split at h
      · rename_i L3 hx
        obtain ⟨L2, e1, e2⟩ := hw.put hx
        cases h; exact ⟨L2, by simp only [e1], e2⟩
      · cases h
    · cases h
  case astore n =>
    simp only [step] at h ⊢
    split at h
    · split at h
      · rename_i L3 hx
        obtain ⟨L2, e1, e2⟩ := hw.put hx
        cases h; exact ⟨L2, by simp only [e1], e2⟩
      · cases h
    · cases h
  case lstore_n n =>
    simp only [step] at h ⊢
    split at h
    · split at h
      · rename_i L3 hx
        obtain ⟨L2, e1, e2⟩ := hw.putL hx
        cases h; exact ⟨L2, by simp only [e1], e2⟩
      · cases h
    · cases h
  case lstore n =>
    simp only [step] at h ⊢
    split at h
    · split at h
      · rename_i L3 hx
        obtain ⟨L2, e1, e2⟩ := hw.putL hx
        cases h; exact ⟨L2, by simp only [e1], e2⟩
      · cases h
    · cases h
  case iinc n c =>
    simp only [step] at h ⊢
    split at h
    · rename_i x hx
      rw [hw.loadI hx]
      split at h
      · rename_i L3 hp
        obtain ⟨L2, e1, e2⟩ := hw.put hp
        cases h; exact ⟨L2, by simp only [e1], e2⟩
      · cases h
    · cases h
  all_goals
    simp only [step, Bool.cond_eq_ite] at h ⊢
    repeat' (split at h)
  all_goals first
    | (cases h; done)
    | (simp only [Option.some.injEq, Prod.mk.injEq] at h; obtain ⟨rfl, rfl, rfl, rfl⟩ := h; refine ⟨L, ?_, hw⟩; first | rfl | (simp only [*, if_true, if_false]; done) | (simp [*]; done))
theorem run_weak : ∀ (n : Nat) {pc : Nat} {L L' : ALoc} {S : List Value} {H : AHeap} {out : Option Value × AHeap}, lw L L' → run P n k pc L' S H = some out → run P n k pc L S H = some out
  | 0, _, _, _, _, _, _, _, h => by simp [run] at h
  | n + 1, pc, L, L', S, H, out, hw, h => by
    rw [run] at h
    rw [run]
    split at h
    · cases h
    · rename_i i np hc
      try simp only [hc]
      split at h
      · rename_i v hv
        try simp only [hv]
        exact h
      · rename_i hv
        try simp only [hv]
        split at h
        · rename_i k' as rest hcall
          try simp only [hcall]
          split at h
          · rename_i v1 H1 h1
            try simp only [h1]
            exact run_weak n hw h
          · cases h
        · rename_i hcall
          try simp only [hcall]
          split at h
          · rename_i pc1 L1 S1 H1 h1
            obtain ⟨L2, e1, e2⟩ := step_weak hw h1
            simp only [e1]; exact run_weak n e2 h
          · cases h
theorem Eval.weak (hw : lw L L') (h : Eval P k pc L' S H out) : Eval P k pc L S H out := by
  obtain ⟨n, h⟩ := h
  exact ⟨n, run_weak n hw h⟩
end Rules
end Jvm.OwnX
namespace Jvm.OwnX
open Sem ClassFile Op Lib Jvm.Stand Jvm.Free Jvm.LawKit Jvm.RoadKit
/-! ## tables as lists -/
def findC : List (Nat × Instr × Nat) → Nat → Option (Instr × Nat)
  | [], _ => none
  | (q, x) :: r, pc => bif Nat.beq q pc then some x else findC r pc
abbrev CodeL := List (ByteArray × List (List (Nat × Instr × Nat)))
def codeAt (cs : CodeL) (k pc : Nat) : Option (Instr × Nat) := match cs[k]? with
  | some (_, ch) => (match ch[pc / 32]? with | some c => findC c pc | none => none)
  | none => none
def bcOf (cs : CodeL) (k : Nat) : ByteArray := match cs[k]? with | some (b, _) => b | none => ⟨#[]⟩
def okI (b : ByteArray) (e : Nat × Instr × Nat) : Bool := match decode b e.1 with
  | .ok (i, len) => decide (i = e.2.1) && Nat.beq (e.1 + len) e.2.2 && (Nat.beq (ilen i) 0 || Nat.beq len (ilen i))
  | _ => false
def okCs (cs : CodeL) : Bool := cs.all fun m => m.2.all fun c => c.all (okI m.1)
def tyCs (ty : ArrayType → Bool) (cs : CodeL) : Bool := cs.all fun m => m.2.all fun c => c.all fun e => match e.2.1 with | .newarray t => ty t | _ => true
theorem findC_mem : ∀ {l : List (Nat × Instr × Nat)} {pc : Nat} {x : Instr × Nat}, findC l pc = some x → (pc, x) ∈ l
  | [], pc, x, h => by cases h
  | (q, y) :: r, pc, x, h => by
    unfold findC at h
    cases hb : Nat.beq q pc
    · rw [hb] at h; exact List.mem_cons_of_mem _ (findC_mem h)
    · rw [hb] at h; cases h
      have : q = pc := Nat.eq_of_beq_eq_true hb
      subst this; exact List.mem_cons_self ..
theorem codeAt_mem {cs : CodeL} {k pc : Nat} {x : Instr × Nat} (h : codeAt cs k pc = some x) : ∃ m ∈ cs, bcOf cs k = m.1 ∧ ∃ c ∈ m.2, (pc, x) ∈ c := by
  unfold codeAt at h
  split at h
  · rename_i b ch hk
    split at h
    · rename_i c hc
      exact ⟨(b, ch), List.mem_of_getElem? hk, by simp [bcOf, hk], c, List.mem_of_getElem? hc, findC_mem h⟩
    · cases h
  · cases h
theorem code_ok {cs : CodeL} (h : okCs cs = true) {k pc : Nat} {i : Instr} {np : Nat} (hc : codeAt cs k pc = some (i, np)) : ∃ len, decode (bcOf cs k) pc = .ok (i, len) ∧ np = pc + len ∧ (ilen i = 0 ∨ len = ilen i) := by
  obtain ⟨m, h1, h2, c, h3, h4⟩ := codeAt_mem hc
  have q := List.all_eq_true.mp (List.all_eq_true.mp (List.all_eq_true.mp h m h1) c h3) _ h4
  unfold okI at q
  rw [h2]
  split at q
  · rename_i i' len hd
    simp only [Bool.and_eq_true, Bool.or_eq_true, decide_eq_true_eq] at q
    obtain ⟨⟨rfl, q2⟩, q3⟩ := q
    refine ⟨len, hd, (Nat.eq_of_beq_eq_true q2).symm, q3.elim (fun z => Or.inl (Nat.eq_of_beq_eq_true z)) fun z => Or.inr (Nat.eq_of_beq_eq_true z)⟩
  · cases q
theorem code_ty {ty : ArrayType → Bool} {cs : CodeL} (h : tyCs ty cs = true) {k pc : Nat} {t : ArrayType} {np : Nat} (hc : codeAt cs k pc = some (.newarray t, np)) : ty t = true := by
  obtain ⟨m, h1, h2, c, h3, h4⟩ := codeAt_mem hc
  exact List.all_eq_true.mp (List.all_eq_true.mp (List.all_eq_true.mp h m h1) c h3) _ h4
def lookT {α : Type} : List (Nat × Nat × α) → Nat → Nat → Option α
  | [], _, _ => none
  | (c', j', x) :: r, c, j => bif Nat.beq j' j && Nat.beq c' c then some x else lookT r c j
theorem lookT_mem {α : Type} : ∀ {l : List (Nat × Nat × α)} {c j : Nat} {x : α}, lookT l c j = some x → (c, j, x) ∈ l
  | [], c, j, x, h => by cases h
  | (c', j', y) :: r, c, j, x, h => by
    unfold lookT at h
    cases hb : (Nat.beq j' j && Nat.beq c' c)
    · rw [hb] at h; exact List.mem_cons_of_mem _ (lookT_mem h)
    · rw [hb] at h; cases h
      simp only [Bool.and_eq_true] at hb
      have h1 : j' = j := Nat.eq_of_beq_eq_true hb.1
      have h2 : c' = c := Nat.eq_of_beq_eq_true hb.2
      subst h1 h2; exact List.mem_cons_self ..
def AllP {α : Type} (p : α → Prop) : List α → Prop
  | [] => True
  | a :: r => p a ∧ AllP p r
theorem AllP.mem {α : Type} {p : α → Prop} : ∀ {l : List α}, AllP p l → ∀ a ∈ l, p a
  | [], _, a, h => nomatch h
  | _ :: _, ⟨h1, h2⟩, a, h => (List.mem_cons.mp h).elim (fun e => e ▸ h1) (AllP.mem h2 a)
def FldOk (P : Prog) (cn : Nat → String) (C : String) (Z : State) (a0 : Array Value) (e : Nat × Nat × Nat) : Prop := ∃ n d t fin, P.fields[e.2.2]? = some (n, d, t, fin) ∧ (Cond.fieldLink (cn e.1) e.2.1 C n d).before a0 Z = true
def FieldOk (C : String) (Z : State) (a0 : Array Value) (e : String × String × Nat × Bool) : Prop := (bif e.2.2.2 then (Cond.laysFinal C C e.1 e.2.1).before a0 Z else (Cond.lays C C e.1 e.2.1).before a0 Z) = true ∧ ∃ ty, parseFieldDescriptor e.2.1 = some ty ∧ tyOk e.2.2.1 ty = true ∧ defaultValue ty = dflt e.2.2.1
theorem good_of {cs : CodeL} {mi : Nat → MI} {links : List (Nat × Nat × Nat × Nat)} {flds : List (Nat × Nat × Nat)} {kons : List (Nat × Nat × Value)} {fields : List (String × String × Nat × Bool)} {objN ro cc cS : Nat} {nm : Nat → MethodName} {cn : Nat → String} {C : String} {Z : State} {a0 : Array Value} {ty : ArrayType → Bool} {P : Prog}
    (hP : P = (codeAt cs, mi, lookT links, lookT flds, lookT kons, fields, objN, ro, cc, cS)) (h1 : okCs cs = true) (h2 : AllP (FldOk P cn C Z a0) flds) (h3 : AllP (FieldOk C Z a0) fields) (h4 : (fields.map (·.1)).Nodup) (h5 : AllP (fun e => KonOk cn Z a0 e.1 e.2.1 e.2.2) kons)
    (h6 : (Cond.instantiable C objN).before a0 Z = true) (h7 : (Cond.initialized C).before a0 Z = true) (h8 : tyCs ty cs = true) (h8' : ∀ t, ty t = true → (Cond.arrayClass (newarray.typeOf t)).before a0 Z = true) (h9 : AllP (fun e => LinkOk P nm (bcOf cs) cn C Z a0 e.1 e.2.1 e.2.2.1 e.2.2.2) links) : Good P nm (bcOf cs) cn C Z a0 := by
  subst hP
  refine ⟨fun k pc i np h => code_ok h1 h, fun c j f h => h2.mem _ (lookT_mem h), fun f n d t fin h => h3.mem _ (List.mem_of_getElem? h), fun f g n d t fin n' d' t' fin' q1 q2 ne e => ?_, fun c j v h => h5.mem _ (lookT_mem h), h6, h7, fun k pc t np h => h8' _ (code_ty h8 h), fun c j q k h => h9.mem _ (lookT_mem h)⟩
  subst e
  have e1 : (fields.map (·.1))[f]? = some n := by rw [List.getElem?_map]; exact congrArg (Option.map (·.1)) q1
  have e2 : (fields.map (·.1))[g]? = some n := by rw [List.getElem?_map]; exact congrArg (Option.map (·.1)) q2
  exact ne ((List.getElem?_inj (List.getElem?_eq_some_iff.mp e1).1 h4).mp (e1.trans e2.symm))
/-! ## what the walks of functions use -/
theorem ite_some {α : Type} {c : Prop} [Decidable c] {a : Option α} {r : α} (h : (if c then a else none) = some r) : c ∧ a = some r := by
  by_cases hc : c
  · rw [if_pos hc] at h; exact ⟨hc, h⟩
  · rw [if_neg hc] at h; cases h
theorem ite_none {α : Type} {c : Prop} [Decidable c] {a : Option α} {r : α} (h : (if c then none else a) = some r) : ¬ c ∧ a = some r := by
  by_cases hc : c
  · rw [if_pos hc] at h; cases h
  · rw [if_neg hc] at h; exact ⟨hc, h⟩
theorem bind_some {α β : Type} {o : Option α} {f : α → Option β} {r : β} (h : o.bind f = some r) : ∃ a, o = some a ∧ f a = some r := Option.bind_eq_some_iff.mp h
section Calls
variable {P : Prog} {k pc np : Nat} {L L' : ALoc} {S S' : List Value} {H H1 : AHeap} {out : Option Value × AHeap} {i : Instr} {k' : Nat} {as rest : List Value}
theorem Eval.callI {x : Int32} (hc : P.code k pc = some (i, np)) (h2 : callV P k i S H = some (k', as, rest)) (he : Eval P k' 0 (entry P k' as) [] H (some (.int x), H1)) (h : Eval P k np L (.int x :: rest) H1 out) : Eval P k pc L S H out := Eval.call hc h2 he h
theorem Eval.callJ {x : Int64} (hc : P.code k pc = some (i, np)) (h2 : callV P k i S H = some (k', as, rest)) (he : Eval P k' 0 (entry P k' as) [] H (some (.long x), H1)) (h : Eval P k np L (.long x :: rest) H1 out) : Eval P k pc L S H out := Eval.call hc h2 he h
theorem Eval.callN (hc : P.code k pc = some (i, np)) (h2 : callV P k i S H = some (k', as, rest)) (he : Eval P k' 0 (entry P k' as) [] H (none, H1)) (h : Eval P k np L rest H1 out) : Eval P k pc L S H out := Eval.call hc h2 he h
theorem Eval.conv (h : Eval P k pc L S H out) (e1 : L = L') (e2 : S = S') : Eval P k pc L' S' H out := e1 ▸ e2 ▸ h
theorem Eval.heap {H' : AHeap} (e : H' = H) (h : Eval P k pc L S H' out) : Eval P k pc L S H out := e ▸ h
theorem Eval.retH {H' : AHeap} {v : Option Value} (e : H' = H) (hc : P.code k pc = some (i, np)) (h1 : retV P k i S = some v) : Eval P k pc L S H (v, H') := e ▸ Eval.ret hc h1
end Calls
end Jvm.OwnX
namespace Jvm.OwnX
open Sem ClassFile Op Lib Jvm.Stand Jvm.Free Jvm.LawKit Jvm.RoadKit
theorem HR.none (P : Prog) (C : String) (Z : State) (n0 : Nat) (h : Heap) : HR P C Z n0 [] [] h := ⟨rfl, fun i j a q => by simp at q, fun i a q => by simp at q, fun i c q => by simp at q⟩
def intOf : Value → Int32
  | .int x => x
  | _ => 0
theorem script_start {P : Prog} {C : String} {s : State} {a : Addr} {c : Cell} (hro : P.ro = 1) (hf : Fit s) (A : Arr s s.heap a c .int) : HR P C s s.heap.size [a] [.inr (.inl (0, c.slots.toList.map intOf))] s.heap := by
  have hlt := (Array.getElem?_eq_some_iff.mp A.1).1
  have hint : ∀ i (hi : i < c.slots.size), ∃ x, c.slots[i] = .int x := fun i hi => by
    have q := hf A.1 hi
    obtain ⟨hs, k, hk, comp, hkind⟩ := A.2.1
    have e : s.slotType? c.cls c.vm i = some .int := by
      cases hq : c.vm <;> first | exact absurd hq (hs _) | simp [State.slotType?, hk, hkind]
    have q2 : fits .int c.slots[i] = true := by simpa [State.fitsSlot, e] using q
    exact fit_I q2 (Or.inl rfl)
  refine ⟨rfl, fun i j x q1 q2 => ?_, fun i x q => ?_, fun i d q => ?_⟩
  · cases i with
    | zero => cases j with
      | zero => rfl
      | succ j => simp at q2
    | succ i => simp at q1
  · cases i with
    | zero => simp at q; subst q; exact ⟨hlt, fun h => by rw [hro] at h; omega⟩
    | succ i => simp at q
  · cases i with
    | zero =>
      simp at q; subst q
      refine ⟨a, rfl, c, A, by simp, fun j x hx => ?_⟩
      rw [List.getElem?_map] at hx
      obtain ⟨v, hv, rfl⟩ := Option.map_eq_some_iff.mp hx
      rw [Array.getElem?_toList] at hv
      obtain ⟨hj, rfl⟩ := Array.getElem?_eq_some_iff.mp hv
      obtain ⟨x, e⟩ := hint j hj
      rw [Array.getElem?_eq_getElem hj, e]; rfl
    | succ i => simp at q
end Jvm.OwnX
namespace Jvm.OwnX
/-! ## plain facts on the functions' words -/
theorem len_wr (xs : List Int32) (j v : Int32) : (wr xs j v).length = xs.length := by simp [wr]
theorem len_wrL (xs : List Int64) (j : Int32) (v : Int64) : (wrL xs j v).length = xs.length := by simp [wrL]
theorem rd_wr_same {xs : List Int32} {j : Int32} (h : inb xs.length j = true) (v : Int32) : rd (wr xs j v) j = v := by
  have := inb_lt h
  simp [rd, wr, List.getD_eq_getElem?_getD, this]
theorem rdL_wrL_same {xs : List Int64} {j : Int32} (h : inb xs.length j = true) (v : Int64) : rdL (wrL xs j v) j = v := by
  have := inb_lt h
  simp [rdL, wrL, List.getD_eq_getElem?_getD, this]
theorem nat_inj {i j : Int32} (hi : ¬ i < 0) (hj : ¬ j < 0) (h : i.toNatClampNeg = j.toNatClampNeg) : i = j := by
  apply Int32.toInt_inj.mp
  simp only [Int32.lt_iff_toInt_lt, Int32.toNatClampNeg, Int32.reduceToInt] at hi hj h; omega
theorem inb_nn {n : Nat} {j : Int32} (h : inb n j = true) : ¬ j < 0 := fun q => inb_spec h (Or.inl q)
theorem rd_wr_ne {xs : List Int32} {i j : Int32} (hi : ¬ i < 0) (hj : ¬ j < 0) (h : i ≠ j) (v : Int32) : rd (wr xs i v) j = rd xs j := by
  have : i.toNatClampNeg ≠ j.toNatClampNeg := fun q => h (nat_inj hi hj q)
  simp [rd, wr, List.getD_eq_getElem?_getD, List.getElem?_set_ne this]
theorem rdL_wrL_ne {xs : List Int64} {i j : Int32} (hi : ¬ i < 0) (hj : ¬ j < 0) (h : i ≠ j) (v : Int64) : rdL (wrL xs i v) j = rdL xs j := by
  have : i.toNatClampNeg ≠ j.toNatClampNeg := fun q => h (nat_inj hi hj q)
  simp [rdL, wrL, List.getD_eq_getElem?_getD, List.getElem?_set_ne this]
theorem rd_rep (n : Nat) (j : Int32) : rd (List.replicate n 0) j = 0 := by
  simp only [rd, List.getD_eq_getElem?_getD, List.getElem?_replicate]; split <;> rfl
theorem rdL_rep (n : Nat) (j : Int32) : rdL (List.replicate n 0) j = 0 := by
  simp only [rdL, List.getD_eq_getElem?_getD, List.getElem?_replicate]; split <;> rfl
theorem inb_iff {n : Nat} {j : Int32} : inb n j = true ↔ 0 ≤ j.toInt ∧ j.toInt < n := by
  simp only [inb, Bool.and_eq_true, Bool.not_eq_true', decide_eq_false_iff_not, Int32.lt_iff_toInt_lt, Int32.reduceToInt]
  constructor
  · rintro ⟨h1, h2⟩
    have h3 := Nat.le_of_ble_eq_true h2
    simp only [Int32.toNatClampNeg] at h3
    omega
  · rintro ⟨h1, h2⟩
    refine ⟨by omega, Nat.ble_eq_true_of_le ?_⟩
    simp only [Int32.toNatClampNeg]; omega
theorem lt32 {x y : Int32} : x < y ↔ x.toInt < y.toInt := Int32.lt_iff_toInt_lt
theorem eq32 {x y : Int32} : x = y ↔ x.toInt = y.toInt := Int32.toInt_inj.symm
end Jvm.OwnX
namespace Jvm.Pilot.@@N@@
open Jvm Jvm.ClassFile Sem Op Lib Jvm.Free Jvm.Stand Jvm.LawKit Jvm.RoadKit Bundle Jvm.Pilot.@@N@@.Jvm.D Jvm.OwnX
/-! # tables (printed by gen.py out of the claim's listing and sheet) -/
def oo (a k n m : Nat) : List Value := (List.range k).map (fun j => Value.ref (a + j)) ++ (List.replicate n Value.null ++ List.replicate m (Value.int 0))
abbrev oA (t n : Nat) : ACell := .inr (.inl (t, List.replicate n 0))
set_option maxHeartbeats 4000000 in
set_option maxRecDepth 100000 in
def own_cs : CodeL := [
  (code, [
    [(0, .aload_n 0, 1), (1, .iconst 0, 2), (2, .invokestatic 17, 5), (5, .iconst 3, 6), (6, .iand, 7), (7, .iconst 3, 8), (8, .irem, 9), (9, .iconst 1, 10), (10, .iadd, 11), (11, .istore_n 1, 12), (12, .aload_n 0, 13), (13, .iconst 1, 14), (14, .invokestatic 17, 17), (17, .iconst 3, 18), (18, .iand, 19), (19, .iconst 1, 20), (20, .iadd, 21), (21, .istore_n 2, 22), (22, .aload_n 0, 23), (23, .iconst 2, 24), (24, .invokestatic 17, 27), (27, .bipush 63, 29), (29, .iand, 30), (30, .istore_n 3, 31), (31, .new 8, 34)],
    [(34, .dup, 35), (35, .iload_n 1, 36), (36, .iload_n 2, 37), (37, .iload_n 3, 38), (38, .invokespecial 23, 41), (41, .astore 4, 43), (43, .iconst 3, 44), (44, .istore 5, 46), (46, .iload 5, 48), (48, .aload_n 0, 49), (49, .arraylength, 50), (50, .if_icmp .ge 175, 53), (53, .aload_n 0, 54), (54, .iload 5, 56), (56, .iaload, 57), (57, .istore 6, 59), (59, .iload 6, 61), (61, .bipush 7, 63), (63, .iand, 64)],
    [(64, .istore 7, 66), (66, .iload 6, 68), (68, .iconst 3, 69), (69, .iushr, 70), (70, .iconst 3, 71), (71, .iand, 72), (72, .iload_n 2, 73), (73, .irem, 74), (74, .istore 8, 76), (76, .iload 7, 78), (78, .ifCond .ne 18, 81), (81, .aload 4, 83), (83, .iload 8, 85), (85, .iload 5, 87), (87, .iconst 1, 88), (88, .iadd, 89), (89, .invokevirtual 26, 92), (92, .pop, 93), (93, .goto 126, 96)],
    [(96, .iload 7, 98), (98, .iconst 1, 99), (99, .if_icmp .ne 14, 102), (102, .aload 4, 104), (104, .iload 8, 106), (106, .invokevirtual 30, 109), (109, .pop, 110), (110, .goto 109, 113), (113, .iload 7, 115), (115, .iconst 2, 116), (116, .if_icmp .eq 9, 119), (119, .iload 7, 121), (121, .iconst 3, 122), (122, .if_icmp .ne 14, 125), (125, .aload 4, 127), (127, .iload 8, 129)],
    [(129, .invokevirtual 34, 132), (132, .pop, 133), (133, .goto 86, 136), (136, .iload 7, 138), (138, .iconst 4, 139), (139, .if_icmp .ne 23, 142), (142, .aload 4, 144), (144, .iload 8, 146), (146, .iconst 1, 147), (147, .iload 6, 149), (149, .iconst 5, 150), (150, .iushr, 151), (151, .bipush 15, 153), (153, .iand, 154), (154, .iadd, 155), (155, .invokevirtual 13, 158), (158, .pop, 159), (159, .goto 60, 162)],
    [(162, .iload 7, 164), (164, .iconst 5, 165), (165, .if_icmp .ne 13, 168), (168, .aload 4, 170), (170, .invokestatic 38, 173), (173, .ifCond .ne 46, 176), (176, .iconst 0, 177), (177, .ireturn, 178), (178, .iload 7, 180), (180, .bipush 6, 182), (182, .if_icmp .ne 27, 185), (185, .aload 4, 187), (187, .invokestatic 42, 190), (190, .aload 4, 192)],
    [(192, .invokestatic 38, 195), (195, .ifCond .ne 5, 198), (198, .iconst 0, 199), (199, .ireturn, 200), (200, .aload 4, 202), (202, .invokevirtual 46, 205), (205, .pop, 206), (206, .goto 13, 209), (209, .aload 4, 211), (211, .iload 8, 213), (213, .bipush 64, 215), (215, .invokevirtual 13, 218), (218, .pop, 219), (219, .iinc 5 1, 222), (222, .goto (-176), 225)],
    [(225, .aload 4, 227), (227, .invokestatic 42, 230), (230, .aload 4, 232), (232, .invokestatic 38, 235), (235, .ireturn, 236)]]),
  (method_2_code, [
    [(0, .iload_n 1, 1), (1, .aload_n 0, 2), (2, .arraylength, 3), (3, .if_icmp .ge 9, 6), (6, .aload_n 0, 7), (7, .iload_n 1, 8), (8, .iaload, 9), (9, .goto 4, 12), (12, .iconst 0, 13), (13, .ireturn, 14)]]),
  (prog_1_method_1_code, [
    [(0, .aload_n 0, 1), (1, .invokespecial 1, 4), (4, .aload_n 0, 5), (5, .bipush 8, 7), (7, .newarray .int, 9), (9, .putfield 7, 12), (12, .aload_n 0, 13), (13, .bipush 8, 15), (15, .newarray .int, 17), (17, .putfield 13, 20), (20, .aload_n 0, 21), (21, .iconst 4, 22), (22, .newarray .int, 24), (24, .putfield 16, 27), (27, .aload_n 0, 28), (28, .iconst 4, 29), (29, .newarray .int, 31), (31, .putfield 19, 34)],
    [(34, .aload_n 0, 35), (35, .iconst 4, 36), (36, .newarray .int, 38), (38, .putfield 22, 41), (41, .aload_n 0, 42), (42, .iconst 4, 43), (43, .newarray .int, 45), (45, .putfield 25, 48), (48, .aload_n 0, 49), (49, .iconst 4, 50), (50, .newarray .int, 52), (52, .putfield 28, 55), (55, .aload_n 0, 56), (56, .iconst 4, 57), (57, .newarray .int, 59), (59, .putfield 31, 62), (62, .aload_n 0, 63), (63, .bipush 64, 65)],
    [(65, .newarray .int, 67), (67, .putfield 34, 70), (70, .aload_n 0, 71), (71, .bipush 64, 73), (73, .newarray .int, 75), (75, .putfield 37, 78), (78, .aload_n 0, 79), (79, .bipush 64, 81), (81, .newarray .int, 83), (83, .putfield 40, 86), (86, .aload_n 0, 87), (87, .bipush 8, 89), (89, .newarray .int, 91), (91, .putfield 43, 94), (94, .aload_n 0, 95), (95, .bipush 6, 97)],
    [(97, .newarray .int, 99), (99, .putfield 46, 102), (102, .aload_n 0, 103), (103, .bipush 6, 105), (105, .newarray .int, 107), (107, .putfield 49, 110), (110, .aload_n 0, 111), (111, .bipush 6, 113), (113, .newarray .int, 115), (115, .putfield 52, 118), (118, .aload_n 0, 119), (119, .bipush 6, 121), (121, .newarray .int, 123), (123, .putfield 55, 126), (126, .aload_n 0, 127), (127, .bipush 6, 129)],
    [(129, .newarray .int, 131), (131, .putfield 58, 134), (134, .aload_n 0, 135), (135, .bipush 6, 137), (137, .newarray .int, 139), (139, .putfield 61, 142), (142, .aload_n 0, 143), (143, .bipush 6, 145), (145, .newarray .int, 147), (147, .putfield 64, 150), (150, .aload_n 0, 151), (151, .iconst 4, 152), (152, .newarray .int, 154), (154, .putfield 67, 157), (157, .aload_n 0, 158), (158, .bipush 56, 160)],
    [(160, .newarray .int, 162), (162, .putfield 70, 165), (165, .aload_n 0, 166), (166, .bipush 7, 168), (168, .newarray .int, 170), (170, .putfield 73, 173), (173, .aload_n 0, 174), (174, .bipush 7, 176), (176, .newarray .int, 178), (178, .putfield 76, 181), (181, .aload_n 0, 182), (182, .bipush 7, 184), (184, .newarray .int, 186), (186, .putfield 79, 189), (189, .aload_n 0, 190), (190, .iload_n 1, 191), (191, .iconst 1, 192)],
    [(192, .iconst 3, 193), (193, .invokevirtual 82, 196), (196, .istore 4, 198), (198, .aload_n 0, 199), (199, .aload_n 0, 200), (200, .iload_n 2, 201), (201, .iconst 1, 202), (202, .iconst 4, 203), (203, .invokevirtual 82, 206), (206, .putfield 86, 209), (209, .aload_n 0, 210), (210, .iload_n 3, 211), (211, .iconst 0, 212), (212, .bipush 63, 214), (214, .invokevirtual 82, 217), (217, .istore 5, 219), (219, .aload_n 0, 220), (220, .iconst 1, 221), (221, .iload 4, 223), (223, .ishl, 224)],
    [(224, .putfield 90, 227), (227, .aload_n 0, 228), (228, .aload_n 0, 229), (229, .getfield 90, 232), (232, .iconst 1, 233), (233, .isub, 234), (234, .putfield 93, 237), (237, .ldc 96, 239), (239, .iload 5, 241), (241, .iadd, 242), (242, .istore 6, 244), (244, .aload_n 0, 245), (245, .iload 6, 247), (247, .putfield 97, 250), (250, .aload_n 0, 251), (251, .iload 6, 253), (253, .putfield 100, 256)],
    [(256, .iconst 0, 257), (257, .istore 7, 259), (259, .iload 7, 261), (261, .bipush 8, 263), (263, .if_icmp .ge 41, 266), (266, .iload 7, 268), (268, .aload_n 0, 269), (269, .getfield 90, 272), (272, .if_icmp .lt 6, 275), (275, .goto 29, 278), (278, .aload_n 0, 279), (279, .getfield 7, 282), (282, .iload 6, 284), (284, .iload 7, 286), (286, .iadd, 287), (287, .aload_n 0, 288)],
    [(288, .getfield 93, 291), (291, .iand, 292), (292, .iload 6, 294), (294, .iload 7, 296), (296, .iadd, 297), (297, .iastore, 298), (298, .iinc 7 1, 301), (301, .goto (-42), 304), (304, .aload_n 0, 305), (305, .iconst 0, 306), (306, .putfield 103, 309), (309, .aload_n 0, 310), (310, .iconst 0, 311), (311, .putfield 106, 314), (314, .return_, 315)]]),
  (prog_1_method_2_code, [
    [(0, .iload_n 1, 1), (1, .iload_n 2, 2), (2, .if_icmp .ge 5, 5), (5, .iload_n 2, 6), (6, .ireturn, 7), (7, .iload_n 1, 8), (8, .iload_n 3, 9), (9, .if_icmp .le 5, 12), (12, .iload_n 3, 13), (13, .ireturn, 14), (14, .iload_n 1, 15), (15, .ireturn, 16)]]),
  (prog_1_method_8_code, [
    [(0, .aload_n 0, 1), (1, .iload_n 1, 2), (2, .invokevirtual 113, 5), (5, .ifCond .eq 19, 8), (8, .aload_n 0, 9), (9, .getfield 16, 12), (12, .iload_n 1, 13), (13, .iaload, 14), (14, .ifCond .ne 10, 17), (17, .aload_n 0, 18), (18, .invokevirtual 117, 21), (21, .ifCond .ne 5, 24), (24, .iconst 0, 25), (25, .ireturn, 26), (26, .aload_n 0, 27), (27, .iconst 1, 28), (28, .iload_n 1, 29), (29, .iload_n 2, 30), (30, .invokevirtual 121, 33)],
    [(33, .aload_n 0, 34), (34, .getfield 22, 37), (37, .iload_n 1, 38), (38, .iload_n 2, 39), (39, .iastore, 40), (40, .aload_n 0, 41), (41, .getfield 16, 44), (44, .iload_n 1, 45), (45, .bipush 11, 47), (47, .iastore, 48), (48, .iconst 1, 49), (49, .ireturn, 50)]]),
  (prog_1_method_3_code, [
    [(0, .iload_n 1, 1), (1, .ifCond .lt 15, 4), (4, .iload_n 1, 5), (5, .aload_n 0, 6), (6, .getfield 86, 9), (9, .if_icmp .ge 7, 12), (12, .iconst 1, 13), (13, .goto 4, 16), (16, .iconst 0, 17), (17, .ireturn, 18)]]),
  (prog_1_method_5_code, [
    [(0, .aload_n 0, 1), (1, .invokevirtual 109, 4), (4, .istore_n 1, 5), (5, .aload_n 0, 6), (6, .getfield 103, 9), (9, .iload_n 1, 10), (10, .iadd, 11), (11, .iconst 2, 12), (12, .iadd, 13), (13, .bipush 64, 15), (15, .if_icmp .gt 7, 18), (18, .iconst 1, 19), (19, .goto 4, 22), (22, .iconst 0, 23), (23, .ireturn, 24)]]),
  (prog_1_method_4_code, [
    [(0, .iconst 0, 1), (1, .istore_n 1, 2), (2, .iconst 0, 3), (3, .istore_n 2, 4), (4, .iload_n 2, 5), (5, .iconst 4, 6), (6, .if_icmp .ge 29, 9), (9, .iload_n 2, 10), (10, .aload_n 0, 11), (11, .getfield 86, 14), (14, .if_icmp .ge 15, 17), (17, .aload_n 0, 18), (18, .getfield 16, 21), (21, .iload_n 2, 22), (22, .iaload, 23), (23, .ifCond .eq 6, 26), (26, .iinc 1 1, 29), (29, .iinc 2 1, 32)],
    [(32, .goto (-28), 35), (35, .iload_n 1, 36), (36, .ireturn, 37)]]),
  (prog_1_method_6_code, [
    [(0, .aload_n 0, 1), (1, .getfield 103, 4), (4, .ifCond .lt 52, 7), (7, .aload_n 0, 8), (8, .getfield 103, 11), (11, .bipush 64, 13), (13, .if_icmp .ge 43, 16), (16, .aload_n 0, 17), (17, .getfield 34, 20), (20, .aload_n 0, 21), (21, .getfield 103, 24), (24, .iload_n 1, 25), (25, .iastore, 26), (26, .aload_n 0, 27), (27, .getfield 37, 30), (30, .aload_n 0, 31), (31, .getfield 103, 34)],
    [(34, .iload_n 2, 35), (35, .iastore, 36), (36, .aload_n 0, 37), (37, .getfield 40, 40), (40, .aload_n 0, 41), (41, .getfield 103, 44), (44, .iload_n 3, 45), (45, .iastore, 46), (46, .aload_n 0, 47), (47, .dup, 48), (48, .getfield 103, 51), (51, .iconst 1, 52), (52, .iadd, 53), (53, .putfield 103, 56), (56, .return_, 57)]]),
  (prog_1_method_10_code, [
    [(0, .aload_n 0, 1), (1, .iload_n 1, 2), (2, .invokevirtual 113, 5), (5, .ifCond .ne 5, 8), (8, .iconst (-1), 9), (9, .ireturn, 10), (10, .aload_n 0, 11), (11, .getfield 16, 14), (14, .iload_n 1, 15), (15, .iaload, 16), (16, .ifCond .eq 13, 19), (19, .aload_n 0, 20), (20, .getfield 16, 23), (23, .iload_n 1, 24), (24, .iaload, 25), (25, .iconst 1, 26), (26, .if_icmp .ne 5, 29), (29, .iconst 0, 30), (30, .ireturn, 31), (31, .aload_n 0, 32)],
    [(32, .iload_n 1, 33), (33, .invokevirtual 125, 36), (36, .ifCond .eq 5, 39), (39, .iconst 2, 40), (40, .ireturn, 41), (41, .iconst 1, 42), (42, .ireturn, 43)]]),
  (prog_1_method_12_code, [
    [(0, .aload_n 0, 1), (1, .getfield 16, 4), (4, .iload_n 1, 5), (5, .iaload, 6), (6, .istore_n 2, 7), (7, .iload_n 2, 8), (8, .bipush 11, 10), (10, .if_icmp .lt 16, 13), (13, .iload_n 2, 14), (14, .bipush 16, 16), (16, .if_icmp .gt 10, 19), (19, .aload_n 0, 20), (20, .iload_n 1, 21), (21, .iload_n 2, 22), (22, .invokevirtual 128, 25), (25, .ireturn, 26), (26, .iload_n 2, 27), (27, .bipush 21, 29), (29, .if_icmp .lt 16, 32)],
    [(32, .iload_n 2, 33), (33, .bipush 26, 35), (35, .if_icmp .gt 10, 38), (38, .aload_n 0, 39), (39, .iload_n 1, 40), (40, .iload_n 2, 41), (41, .invokevirtual 132, 44), (44, .ireturn, 45), (45, .iconst 0, 46), (46, .ireturn, 47)]]),
  (prog_1_method_13_code, [
    [(0, .aload_n 0, 1), (1, .getfield 19, 4), (4, .iload_n 1, 5), (5, .iaload, 6), (6, .istore_n 3, 7), (7, .iload_n 3, 8), (8, .aload_n 0, 9), (9, .getfield 93, 12), (12, .iand, 13), (13, .istore 4, 15), (15, .iload_n 2, 16), (16, .tableswitch 211 11 16 #[40, 60, 101, 137, 169, 192], 56)],
    [(56, .aload_n 0, 57), (57, .getfield 19, 60), (60, .iload_n 1, 61), (61, .aload_n 0, 62), (62, .getfield 100, 65)],
    [(65, .iastore, 66), (66, .aload_n 0, 67), (67, .getfield 16, 70), (70, .iload_n 1, 71), (71, .bipush 12, 73), (73, .iastore, 74), (74, .iconst 0, 75), (75, .ireturn, 76), (76, .aload_n 0, 77), (77, .getfield 7, 80), (80, .iload 4, 82), (82, .iaload, 83), (83, .iload_n 3, 84), (84, .isub, 85), (85, .istore 5, 87), (87, .aload_n 0, 88), (88, .getfield 16, 91), (91, .iload_n 1, 92), (92, .iload 5, 94), (94, .ifCond .ne 8, 97)],
    [(97, .bipush 13, 99), (99, .goto 15, 102), (102, .iload 5, 104), (104, .ifCond .ge 8, 107), (107, .bipush 14, 109), (109, .goto 5, 112), (112, .bipush 11, 114), (114, .iastore, 115), (115, .iconst 0, 116), (116, .ireturn, 117), (117, .aload_n 0, 118), (118, .getfield 100, 121), (121, .iload_n 3, 122), (122, .if_icmp .ne 21, 125), (125, .aload_n 0, 126), (126, .iload_n 3, 127), (127, .iconst 1, 128)],
    [(128, .iadd, 129), (129, .putfield 100, 132), (132, .aload_n 0, 133), (133, .getfield 16, 136), (136, .iload_n 1, 137), (137, .bipush 15, 139), (139, .iastore, 140), (140, .goto 11, 143), (143, .aload_n 0, 144), (144, .getfield 16, 147), (147, .iload_n 1, 148), (148, .bipush 11, 150), (150, .iastore, 151), (151, .iconst 0, 152), (152, .ireturn, 153), (153, .iload_n 3, 154), (154, .aload_n 0, 155), (155, .getfield 97, 158), (158, .isub, 159), (159, .aload_n 0, 160)],
    [(160, .getfield 90, 163), (163, .if_icmp .ne 12, 166), (166, .aload_n 0, 167), (167, .iload_n 1, 168), (168, .iconst 2, 169), (169, .iconst 0, 170), (170, .invokevirtual 135, 173), (173, .iconst 1, 174), (174, .ireturn, 175), (175, .aload_n 0, 176), (176, .getfield 16, 179), (179, .iload_n 1, 180), (180, .bipush 11, 182), (182, .iastore, 183), (183, .iconst 0, 184), (184, .ireturn, 185), (185, .aload_n 0, 186), (186, .getfield 13, 189), (189, .iload 4, 191), (191, .aload_n 0, 192)],
    [(192, .getfield 22, 195), (195, .iload_n 1, 196), (196, .iaload, 197), (197, .iastore, 198), (198, .aload_n 0, 199), (199, .getfield 16, 202), (202, .iload_n 1, 203), (203, .bipush 16, 205), (205, .iastore, 206), (206, .iconst 0, 207), (207, .ireturn, 208), (208, .aload_n 0, 209), (209, .getfield 7, 212), (212, .iload 4, 214), (214, .iload_n 3, 215), (215, .iconst 1, 216), (216, .iadd, 217), (217, .iastore, 218), (218, .aload_n 0, 219), (219, .iload_n 1, 220), (220, .iconst 1, 221), (221, .iconst 0, 222), (222, .invokevirtual 135, 225)],
    [(225, .iconst 1, 226), (226, .ireturn, 227), (227, .iconst 0, 228), (228, .ireturn, 229)]]),
  (prog_1_method_15_code, [
    [(0, .aload_n 0, 1), (1, .getfield 25, 4), (4, .iload_n 1, 5), (5, .iload_n 2, 6), (6, .iastore, 7), (7, .aload_n 0, 8), (8, .getfield 28, 11), (11, .iload_n 1, 12), (12, .iload_n 3, 13), (13, .iastore, 14), (14, .aload_n 0, 15), (15, .iload_n 2, 16), (16, .invokevirtual 138, 19), (19, .istore 4, 21), (21, .aload_n 0, 22), (22, .iload 4, 24), (24, .iload_n 1, 25), (25, .iload_n 3, 26), (26, .invokevirtual 121, 29), (29, .aload_n 0, 30), (30, .getfield 16, 33)],
    [(33, .iload_n 1, 34), (34, .iconst 0, 35), (35, .iastore, 36), (36, .return_, 37)]]),
  (prog_1_method_7_code, [
    [(0, .iload_n 1, 1), (1, .iconst 2, 2), (2, .if_icmp .ne 5, 5), (5, .iconst 4, 6), (6, .ireturn, 7), (7, .iload_n 1, 8), (8, .iconst 3, 9), (9, .if_icmp .ne 5, 12), (12, .iconst 5, 13), (13, .ireturn, 14), (14, .iconst 3, 15), (15, .ireturn, 16)]]),
  (prog_1_method_9_code, [
    [(0, .aload_n 0, 1), (1, .iload_n 1, 2), (2, .invokevirtual 113, 5), (5, .ifCond .eq 19, 8), (8, .aload_n 0, 9), (9, .getfield 16, 12), (12, .iload_n 1, 13), (13, .iaload, 14), (14, .ifCond .ne 10, 17), (17, .aload_n 0, 18), (18, .invokevirtual 117, 21), (21, .ifCond .ne 5, 24), (24, .iconst 0, 25), (25, .ireturn, 26), (26, .aload_n 0, 27), (27, .iconst 2, 28), (28, .iload_n 1, 29), (29, .iconst 0, 30), (30, .invokevirtual 121, 33)],
    [(33, .aload_n 0, 34), (34, .getfield 22, 37), (37, .iload_n 1, 38), (38, .iconst 0, 39), (39, .iastore, 40), (40, .aload_n 0, 41), (41, .getfield 16, 44), (44, .iload_n 1, 45), (45, .bipush 21, 47), (47, .iastore, 48), (48, .iconst 1, 49), (49, .ireturn, 50)]]),
  (prog_1_method_14_code, [
    [(0, .aload_n 0, 1), (1, .getfield 19, 4), (4, .iload_n 1, 5), (5, .iaload, 6), (6, .istore_n 3, 7), (7, .iload_n 3, 8), (8, .aload_n 0, 9), (9, .getfield 93, 12), (12, .iand, 13), (13, .istore 4, 15), (15, .iload_n 2, 16), (16, .tableswitch 216 21 26 #[40, 60, 103, 139, 166, 189], 56)],
    [(56, .aload_n 0, 57), (57, .getfield 19, 60), (60, .iload_n 1, 61), (61, .aload_n 0, 62), (62, .getfield 97, 65)],
    [(65, .iastore, 66), (66, .aload_n 0, 67), (67, .getfield 16, 70), (70, .iload_n 1, 71), (71, .bipush 22, 73), (73, .iastore, 74), (74, .iconst 0, 75), (75, .ireturn, 76), (76, .aload_n 0, 77), (77, .getfield 7, 80), (80, .iload 4, 82), (82, .iaload, 83), (83, .iload_n 3, 84), (84, .iconst 1, 85), (85, .iadd, 86), (86, .isub, 87), (87, .istore 5, 89), (89, .aload_n 0, 90), (90, .getfield 16, 93), (93, .iload_n 1, 94), (94, .iload 5, 96)],
    [(96, .ifCond .ne 8, 99), (99, .bipush 23, 101), (101, .goto 15, 104), (104, .iload 5, 106), (106, .ifCond .ge 8, 109), (109, .bipush 24, 111), (111, .goto 5, 114), (114, .bipush 21, 116), (116, .iastore, 117), (117, .iconst 0, 118), (118, .ireturn, 119), (119, .aload_n 0, 120), (120, .getfield 97, 123), (123, .iload_n 3, 124), (124, .if_icmp .ne 21, 127), (127, .aload_n 0, 128)],
    [(128, .iload_n 3, 129), (129, .iconst 1, 130), (130, .iadd, 131), (131, .putfield 97, 134), (134, .aload_n 0, 135), (135, .getfield 16, 138), (138, .iload_n 1, 139), (139, .bipush 25, 141), (141, .iastore, 142), (142, .goto 11, 145), (145, .aload_n 0, 146), (146, .getfield 16, 149), (149, .iload_n 1, 150), (150, .bipush 21, 152), (152, .iastore, 153), (153, .iconst 0, 154), (154, .ireturn, 155), (155, .aload_n 0, 156), (156, .getfield 100, 159), (159, .iload_n 3, 160)],
    [(160, .if_icmp .ne 12, 163), (163, .aload_n 0, 164), (164, .iload_n 1, 165), (165, .iconst 3, 166), (166, .iconst 0, 167), (167, .invokevirtual 135, 170), (170, .iconst 1, 171), (171, .ireturn, 172), (172, .aload_n 0, 173), (173, .getfield 16, 176), (176, .iload_n 1, 177), (177, .bipush 21, 179), (179, .iastore, 180), (180, .iconst 0, 181), (181, .ireturn, 182), (182, .aload_n 0, 183), (183, .getfield 22, 186), (186, .iload_n 1, 187), (187, .aload_n 0, 188), (188, .getfield 13, 191), (191, .iload 4, 193)],
    [(193, .iaload, 194), (194, .iastore, 195), (195, .aload_n 0, 196), (196, .getfield 16, 199), (199, .iload_n 1, 200), (200, .bipush 26, 202), (202, .iastore, 203), (203, .iconst 0, 204), (204, .ireturn, 205), (205, .aload_n 0, 206), (206, .getfield 7, 209), (209, .iload 4, 211), (211, .iload_n 3, 212), (212, .aload_n 0, 213), (213, .getfield 90, 216), (216, .iadd, 217), (217, .iastore, 218), (218, .aload_n 0, 219), (219, .iload_n 1, 220), (220, .iconst 1, 221), (221, .aload_n 0, 222), (222, .getfield 22, 225)],
    [(225, .iload_n 1, 226), (226, .iaload, 227), (227, .invokevirtual 135, 230), (230, .iconst 1, 231), (231, .ireturn, 232), (232, .iconst 0, 233), (233, .ireturn, 234)]]),
  (method_4_code, [
    [(0, .iconst 0, 1), (1, .istore_n 1, 2), (2, .iload_n 1, 3), (3, .bipush 8, 5), (5, .if_icmp .ge 30, 8), (8, .iconst 0, 9), (9, .istore_n 2, 10), (10, .iload_n 2, 11), (11, .iconst 4, 12), (12, .if_icmp .ge 17, 15), (15, .aload_n 0, 16), (16, .iload_n 2, 17), (17, .bipush 64, 19), (19, .invokevirtual 13, 22), (22, .pop, 23), (23, .iinc 2 1, 26), (26, .goto (-16), 29), (29, .iinc 1 1, 32)],
    [(32, .goto (-30), 35), (35, .return_, 36)]]),
  (prog_1_method_11_code, [
    [(0, .aload_n 0, 1), (1, .iload_n 2, 2), (2, .iconst 1, 3), (3, .bipush 64, 5), (5, .invokevirtual 82, 8), (8, .istore_n 3, 9), (9, .aload_n 0, 10), (10, .iload_n 1, 11), (11, .invokevirtual 113, 14), (14, .ifCond .ne 5, 17), (17, .iconst (-1), 18), (18, .ireturn, 19), (19, .aload_n 0, 20), (20, .getfield 16, 23), (23, .iload_n 1, 24), (24, .iaload, 25), (25, .ifCond .eq 13, 28), (28, .aload_n 0, 29), (29, .getfield 16, 32)],
    [(32, .iload_n 1, 33), (33, .iaload, 34), (34, .iconst 1, 35), (35, .if_icmp .ne 5, 38), (38, .iconst 0, 39), (39, .ireturn, 40), (40, .iconst 0, 41), (41, .istore 4, 43), (43, .iload 4, 45), (45, .iload_n 3, 46), (46, .if_icmp .ge 19, 49), (49, .aload_n 0, 50), (50, .iload_n 1, 51), (51, .invokevirtual 125, 54), (54, .ifCond .eq 5, 57), (57, .iconst 2, 58), (58, .ireturn, 59), (59, .iinc 4 1, 62), (62, .goto (-19), 65)],
    [(65, .iconst 1, 66), (66, .ireturn, 67)]]),
  (method_3_code, [
    [(0, .aload_n 0, 1), (1, .invokevirtual 7, 4), (4, .ifCond .eq 7, 7), (7, .iconst 1, 8), (8, .goto 4, 11), (11, .iconst 0, 12), (12, .ireturn, 13)]]),
  (prog_1_method_27_code, [
    [(0, .aload_n 0, 1), (1, .invokevirtual 145, 4), (4, .istore_n 1, 5), (5, .iload_n 1, 6), (6, .bipush 6, 8), (8, .if_icmp .le 5, 11), (11, .iconst (-1), 12), (12, .ireturn, 13), (13, .aload_n 0, 14), (14, .invokevirtual 148, 17), (17, .aload_n 0, 18), (18, .invokevirtual 151, 21), (21, .aload_n 0, 22), (22, .invokevirtual 154, 25), (25, .ireturn, 26)]]),
  (prog_1_method_28_code, [
    [(0, .iconst 0, 1), (1, .istore_n 1, 2), (2, .iconst 0, 3), (3, .istore_n 2, 4), (4, .iload_n 2, 5), (5, .bipush 64, 7), (7, .if_icmp .ge 40, 10), (10, .iload_n 2, 11), (11, .aload_n 0, 12), (12, .getfield 103, 15), (15, .if_icmp .ge 32, 18), (18, .aload_n 0, 19), (19, .getfield 34, 22), (22, .iload_n 2, 23), (23, .iaload, 24), (24, .iconst 1, 25), (25, .if_icmp .eq 13, 28), (28, .aload_n 0, 29), (29, .getfield 34, 32)],
    [(32, .iload_n 2, 33), (33, .iaload, 34), (34, .iconst 2, 35), (35, .if_icmp .ne 6, 38), (38, .iinc 1 1, 41), (41, .iinc 2 1, 44), (44, .goto (-40), 47), (47, .iload_n 1, 48), (48, .ireturn, 49)]]),
  (prog_1_method_29_code, [
    [(0, .aload_n 0, 1), (1, .iconst 0, 2), (2, .putfield 157, 5), (5, .iconst 0, 6), (6, .istore_n 1, 7), (7, .iload_n 1, 8), (8, .iconst 4, 9), (9, .if_icmp .ge 16, 12), (12, .aload_n 0, 13), (13, .getfield 67, 16), (16, .iload_n 1, 17), (17, .iconst (-1), 18), (18, .iastore, 19), (19, .iinc 1 1, 22), (22, .goto (-15), 25), (25, .iconst 0, 26), (26, .istore_n 1, 27), (27, .iload_n 1, 28), (28, .bipush 64, 30), (30, .if_icmp .ge 71, 33)],
    [(33, .iload_n 1, 34), (34, .aload_n 0, 35), (35, .getfield 103, 38), (38, .if_icmp .ge 63, 41), (41, .aload_n 0, 42), (42, .getfield 37, 45), (45, .iload_n 1, 46), (46, .iaload, 47), (47, .istore_n 2, 48), (48, .iload_n 2, 49), (49, .ifCond .lt 46, 52), (52, .iload_n 2, 53), (53, .iconst 3, 54), (54, .if_icmp .le 6, 57), (57, .goto 38, 60), (60, .aload_n 0, 61), (61, .getfield 34, 64)],
    [(64, .iload_n 1, 65), (65, .iaload, 66), (66, .iconst 1, 67), (67, .if_icmp .eq 13, 70), (70, .aload_n 0, 71), (71, .getfield 34, 74), (74, .iload_n 1, 75), (75, .iaload, 76), (76, .iconst 2, 77), (77, .if_icmp .ne 12, 80), (80, .aload_n 0, 81), (81, .iload_n 1, 82), (82, .iload_n 2, 83), (83, .invokevirtual 160, 86), (86, .goto 9, 89), (89, .aload_n 0, 90), (90, .iload_n 1, 91), (91, .iload_n 2, 92), (92, .invokevirtual 164, 95), (95, .iinc 1 1, 98)],
    [(98, .goto (-71), 101), (101, .return_, 102)]]),
  (prog_1_method_30_code, [
    [(0, .aload_n 0, 1), (1, .getfield 157, 4), (4, .ifCond .lt 12, 7), (7, .aload_n 0, 8), (8, .getfield 157, 11), (11, .bipush 6, 13), (13, .if_icmp .lt 4, 16), (16, .return_, 17), (17, .aload_n 0, 18), (18, .getfield 157, 21), (21, .istore_n 3, 22), (22, .aload_n 0, 23), (23, .getfield 46, 26), (26, .iload_n 3, 27), (27, .aload_n 0, 28), (28, .getfield 34, 31), (31, .iload_n 1, 32)],
    [(32, .iaload, 33), (33, .iconst 1, 34), (34, .if_icmp .ne 7, 37), (37, .iconst 1, 38), (38, .goto 4, 41), (41, .iconst 2, 42), (42, .iastore, 43), (43, .aload_n 0, 44), (44, .getfield 49, 47), (47, .iload_n 3, 48), (48, .aload_n 0, 49), (49, .getfield 40, 52), (52, .iload_n 1, 53), (53, .iaload, 54), (54, .iastore, 55), (55, .aload_n 0, 56), (56, .getfield 52, 59), (59, .iload_n 3, 60), (60, .iload_n 1, 61), (61, .iastore, 62), (62, .aload_n 0, 63), (63, .getfield 55, 66)],
    [(66, .iload_n 3, 67), (67, .iconst (-1), 68), (68, .iastore, 69), (69, .aload_n 0, 70), (70, .getfield 58, 73), (73, .iload_n 3, 74), (74, .iconst 0, 75), (75, .iastore, 76), (76, .aload_n 0, 77), (77, .getfield 61, 80), (80, .iload_n 3, 81), (81, .iconst 0, 82), (82, .iastore, 83), (83, .aload_n 0, 84), (84, .getfield 67, 87), (87, .iload_n 2, 88), (88, .iload_n 3, 89), (89, .iastore, 90), (90, .aload_n 0, 91), (91, .dup, 92), (92, .getfield 157, 95), (95, .iconst 1, 96)],
    [(96, .iadd, 97), (97, .putfield 157, 100), (100, .return_, 101)]]),
  (prog_1_method_31_code, [
    [(0, .aload_n 0, 1), (1, .getfield 67, 4), (4, .iload_n 2, 5), (5, .iaload, 6), (6, .istore_n 3, 7), (7, .iload_n 3, 8), (8, .ifCond .lt 9, 11), (11, .iload_n 3, 12), (12, .bipush 6, 14), (14, .if_icmp .lt 4, 17), (17, .return_, 18), (18, .aload_n 0, 19), (19, .getfield 34, 22), (22, .iload_n 1, 23), (23, .iaload, 24), (24, .istore 4, 26), (26, .aload_n 0, 27), (27, .getfield 55, 30), (30, .iload_n 3, 31), (31, .iload_n 1, 32)],
    [(32, .iastore, 33), (33, .aload_n 0, 34), (34, .getfield 58, 37), (37, .iload_n 3, 38), (38, .iload 4, 40), (40, .iconst 4, 41), (41, .if_icmp .ne 7, 44), (44, .iconst 2, 45), (45, .goto 14, 48), (48, .iload 4, 50), (50, .iconst 5, 51), (51, .if_icmp .ne 7, 54), (54, .iconst 3, 55), (55, .goto 4, 58), (58, .iconst 1, 59), (59, .iastore, 60), (60, .aload_n 0, 61), (61, .getfield 61, 64)],
    [(64, .iload_n 3, 65), (65, .aload_n 0, 66), (66, .getfield 40, 69), (69, .iload_n 1, 70), (70, .iaload, 71), (71, .iastore, 72), (72, .aload_n 0, 73), (73, .getfield 67, 76), (76, .iload_n 2, 77), (77, .iconst (-1), 78), (78, .iastore, 79), (79, .return_, 80)]]),
  (prog_1_method_32_code, [
    [(0, .aload_n 0, 1), (1, .iconst 0, 2), (2, .putfield 167, 5), (5, .iconst 0, 6), (6, .istore_n 1, 7), (7, .iload_n 1, 8), (8, .bipush 6, 10), (10, .if_icmp .ge 45, 13), (13, .iload_n 1, 14), (14, .aload_n 0, 15), (15, .getfield 157, 18), (18, .if_icmp .ge 37, 21), (21, .aload_n 0, 22), (22, .getfield 64, 25), (25, .iload_n 1, 26), (26, .iconst 0, 27), (27, .iastore, 28), (28, .aload_n 0, 29), (29, .getfield 55, 32)],
    [(32, .iload_n 1, 33), (33, .iaload, 34), (34, .ifCond .lt 15, 37), (37, .aload_n 0, 38), (38, .dup, 39), (39, .getfield 167, 42), (42, .iconst 1, 43), (43, .iload_n 1, 44), (44, .ishl, 45), (45, .ior, 46), (46, .putfield 167, 49), (49, .iinc 1 1, 52), (52, .goto (-45), 55), (55, .iconst 0, 56), (56, .istore_n 1, 57), (57, .iload_n 1, 58), (58, .bipush 6, 60), (60, .if_icmp .ge 80, 63), (63, .iload_n 1, 64)],
    [(64, .aload_n 0, 65), (65, .getfield 157, 68), (68, .if_icmp .ge 72, 71), (71, .iconst 0, 72), (72, .istore_n 2, 73), (73, .iload_n 2, 74), (74, .bipush 6, 76), (76, .if_icmp .ge 58, 79), (79, .iload_n 2, 80), (80, .aload_n 0, 81), (81, .getfield 157, 84), (84, .if_icmp .ge 50, 87), (87, .iload_n 2, 88), (88, .iload_n 1, 89), (89, .if_icmp .eq 39, 92), (92, .aload_n 0, 93), (93, .getfield 55, 96)],
    [(96, .iload_n 2, 97), (97, .iaload, 98), (98, .ifCond .lt 30, 101), (101, .aload_n 0, 102), (102, .getfield 55, 105), (105, .iload_n 2, 106), (106, .iaload, 107), (107, .aload_n 0, 108), (108, .getfield 52, 111), (111, .iload_n 1, 112), (112, .iaload, 113), (113, .if_icmp .ge 15, 116), (116, .aload_n 0, 117), (117, .getfield 64, 120), (120, .iload_n 1, 121), (121, .dup2, 122), (122, .iaload, 123), (123, .iconst 1, 124), (124, .iload_n 2, 125), (125, .ishl, 126), (126, .ior, 127), (127, .iastore, 128)],
    [(128, .iinc 2 1, 131), (131, .goto (-58), 134), (134, .iinc 1 1, 137), (137, .goto (-80), 140), (140, .return_, 141)]]),
  (prog_1_method_33_code, [
    [(0, .aload_n 0, 1), (1, .getfield 167, 4), (4, .ifCond .ne 5, 7), (7, .iconst 1, 8), (8, .ireturn, 9), (9, .aload_n 0, 10), (10, .getfield 73, 13), (13, .iconst 0, 14), (14, .aload_n 0, 15), (15, .getfield 106, 18), (18, .iastore, 19), (19, .iconst 0, 20), (20, .istore_n 1, 21), (21, .iload_n 1, 22), (22, .bipush 8, 24), (24, .if_icmp .ge 29, 27), (27, .iload_n 1, 28), (28, .aload_n 0, 29), (29, .getfield 106, 32)],
    [(32, .if_icmp .ge 21, 35), (35, .aload_n 0, 36), (36, .getfield 70, 39), (39, .iload_n 1, 40), (40, .aload_n 0, 41), (41, .getfield 43, 44), (44, .iload_n 1, 45), (45, .iaload, 46), (46, .iastore, 47), (47, .iinc 1 1, 50), (50, .goto (-29), 53), (53, .iconst 0, 54), (54, .istore_n 1, 55), (55, .iconst 0, 56), (56, .istore_n 2, 57), (57, .aload_n 0, 58), (58, .getfield 76, 61), (61, .iconst 0, 62), (62, .iconst 0, 63), (63, .iastore, 64)],
    [(64, .iconst 0, 65), (65, .istore_n 3, 66), (66, .iload_n 3, 67), (67, .ldc 170, 69), (69, .if_icmp .ge 152, 72), (72, .aload_n 0, 73), (73, .getfield 76, 76), (76, .iload_n 1, 77), (77, .iaload, 78), (78, .istore 4, 80), (80, .iload 4, 82), (82, .aload_n 0, 83), (83, .getfield 157, 86), (86, .if_icmp .ge 10, 89), (89, .iload 4, 91), (91, .bipush 6, 93), (93, .if_icmp .lt 28, 96)],
    [(96, .iload_n 1, 97), (97, .ifCond .ne 5, 100), (100, .iconst 0, 101), (101, .ireturn, 102), (102, .iinc 1 (-1), 105), (105, .iload_n 2, 106), (106, .iconst 1, 107), (107, .aload_n 0, 108), (108, .getfield 79, 111), (111, .iload_n 1, 112), (112, .iaload, 113), (113, .ishl, 114), (114, .iconst (-1), 115), (115, .ixor, 116), (116, .iand, 117), (117, .istore_n 2, 118), (118, .goto 97, 121), (121, .aload_n 0, 122), (122, .getfield 76, 125), (125, .iload_n 1, 126), (126, .iload 4, 128)],
    [(128, .iconst 1, 129), (129, .iadd, 130), (130, .iastore, 131), (131, .iload_n 2, 132), (132, .iconst 1, 133), (133, .iload 4, 135), (135, .ishl, 136), (136, .iand, 137), (137, .ifCond .ne 78, 140), (140, .aload_n 0, 141), (141, .getfield 64, 144), (144, .iload 4, 146), (146, .iaload, 147), (147, .iload_n 2, 148), (148, .iand, 149), (149, .aload_n 0, 150), (150, .getfield 64, 153), (153, .iload 4, 155), (155, .iaload, 156), (156, .if_icmp .eq 6, 159), (159, .goto 56, 162)],
    [(162, .aload_n 0, 163), (163, .iload 4, 165), (165, .iload_n 1, 166), (166, .invokevirtual 171, 169), (169, .ifCond .ne 6, 172), (172, .goto 43, 175), (175, .aload_n 0, 176), (176, .getfield 79, 179), (179, .iload_n 1, 180), (180, .iload 4, 182), (182, .iastore, 183), (183, .iload_n 2, 184), (184, .iconst 1, 185), (185, .iload 4, 187), (187, .ishl, 188), (188, .ior, 189), (189, .istore_n 2, 190), (190, .iinc 1 1, 193)],
    [(193, .aload_n 0, 194), (194, .getfield 76, 197), (197, .iload_n 1, 198), (198, .iconst 0, 199), (199, .iastore, 200), (200, .iload_n 2, 201), (201, .aload_n 0, 202), (202, .getfield 167, 205), (205, .iand, 206), (206, .aload_n 0, 207), (207, .getfield 167, 210), (210, .if_icmp .ne 5, 213), (213, .iconst 1, 214), (214, .ireturn, 215), (215, .iinc 3 1, 218), (218, .goto (-152), 221), (221, .iconst 0, 222), (222, .ireturn, 223)]]),
  (prog_1_method_34_code, [
    [(0, .iload_n 2, 1), (1, .ifCond .lt 18, 4), (4, .iload_n 2, 5), (5, .iconst 5, 6), (6, .if_icmp .gt 13, 9), (9, .iload_n 1, 10), (10, .ifCond .lt 9, 13), (13, .iload_n 1, 14), (14, .bipush 6, 16), (16, .if_icmp .lt 5, 19), (19, .iconst 0, 20), (20, .ireturn, 21), (21, .aload_n 0, 22), (22, .getfield 46, 25), (25, .iload_n 1, 26), (26, .iaload, 27), (27, .iconst 1, 28), (28, .if_icmp .ne 10, 31), (31, .aload_n 0, 32)],
    [(32, .iload_n 1, 33), (33, .iload_n 2, 34), (34, .invokevirtual 174, 37), (37, .ireturn, 38), (38, .aload_n 0, 39), (39, .iload_n 1, 40), (40, .iload_n 2, 41), (41, .invokevirtual 177, 44), (44, .ireturn, 45)]]),
  (prog_1_method_35_code, [
    [(0, .aload_n 0, 1), (1, .getfield 73, 4), (4, .iload_n 2, 5), (5, .iaload, 6), (6, .istore_n 3, 7), (7, .iload_n 3, 8), (8, .aload_n 0, 9), (9, .getfield 90, 12), (12, .if_icmp .ge 7, 15), (15, .iconst 1, 16), (16, .goto 4, 19), (19, .iconst 2, 20), (20, .istore 4, 22), (22, .aload_n 0, 23), (23, .getfield 55, 26), (26, .iload_n 1, 27), (27, .iaload, 28), (28, .ifCond .lt 16, 31), (31, .aload_n 0, 32)],
    [(32, .getfield 58, 35), (35, .iload_n 1, 36), (36, .iaload, 37), (37, .iload 4, 39), (39, .if_icmp .eq 5, 42), (42, .iconst 0, 43), (43, .ireturn, 44), (44, .aload_n 0, 45), (45, .iload_n 2, 46), (46, .iconst 0, 47), (47, .invokevirtual 180, 50), (50, .iload 4, 52), (52, .iconst 1, 53), (53, .if_icmp .ne 57, 56), (56, .aload_n 0, 57), (57, .getfield 73, 60), (60, .iload_n 2, 61), (61, .iconst 1, 62), (62, .iadd, 63), (63, .iaload, 64)],
    [(64, .istore 5, 66), (66, .iload 5, 68), (68, .ifCond .lt 42, 71), (71, .iload 5, 73), (73, .bipush 8, 75), (75, .if_icmp .ge 35, 78), (78, .aload_n 0, 79), (79, .getfield 70, 82), (82, .iload_n 2, 83), (83, .iconst 1, 84), (84, .iadd, 85), (85, .bipush 8, 87), (87, .imul, 88), (88, .iload 5, 90), (90, .iadd, 91), (91, .aload_n 0, 92), (92, .getfield 49, 95), (95, .iload_n 1, 96)],
    [(96, .iaload, 97), (97, .iastore, 98), (98, .aload_n 0, 99), (99, .getfield 73, 102), (102, .iload_n 2, 103), (103, .iconst 1, 104), (104, .iadd, 105), (105, .iload 5, 107), (107, .iconst 1, 108), (108, .iadd, 109), (109, .iastore, 110), (110, .iconst 1, 111), (111, .ireturn, 112)]]),
  (prog_1_method_37_code, [
    [(0, .iload_n 1, 1), (1, .bipush 8, 3), (3, .imul, 4), (4, .istore_n 3, 5), (5, .iload_n 3, 6), (6, .bipush 8, 8), (8, .iadd, 9), (9, .istore 4, 11), (11, .aload_n 0, 12), (12, .getfield 73, 15), (15, .iload_n 1, 16), (16, .iaload, 17), (17, .istore 5, 19), (19, .iconst 0, 20), (20, .istore 6, 22), (22, .iload_n 2, 23), (23, .istore 7, 25), (25, .iload 7, 27), (27, .bipush 8, 29), (29, .if_icmp .ge 41, 32)],
    [(32, .iload 7, 34), (34, .iload 5, 36), (36, .if_icmp .lt 6, 39), (39, .goto 31, 42), (42, .aload_n 0, 43), (43, .getfield 70, 46), (46, .iload 4, 48), (48, .iload 6, 50), (50, .iadd, 51), (51, .aload_n 0, 52), (52, .getfield 70, 55), (55, .iload_n 3, 56), (56, .iload 7, 58), (58, .iadd, 59), (59, .iaload, 60), (60, .iastore, 61), (61, .iinc 6 1, 64)],
    [(64, .iinc 7 1, 67), (67, .goto (-42), 70), (70, .aload_n 0, 71), (71, .getfield 73, 74), (74, .iload_n 1, 75), (75, .iconst 1, 76), (76, .iadd, 77), (77, .iload 6, 79), (79, .iastore, 80), (80, .return_, 81)]]),
  (prog_1_method_23_code, [
    [(0, .iconst 0, 1), (1, .istore_n 1, 2), (2, .iload_n 1, 3), (3, .iconst 4, 4), (4, .if_icmp .ge 28, 7), (7, .iload_n 1, 8), (8, .aload_n 0, 9), (9, .getfield 86, 12), (12, .if_icmp .ge 14, 15), (15, .aload_n 0, 16), (16, .getfield 16, 19), (19, .iload_n 1, 20), (20, .iaload, 21), (21, .ifCond .eq 5, 24), (24, .iconst 0, 25), (25, .ireturn, 26), (26, .iinc 1 1, 29), (29, .goto (-27), 32)],
    [(32, .aload_n 0, 33), (33, .iconst 0, 34), (34, .putfield 103, 37), (37, .aload_n 0, 38), (38, .getfield 100, 41), (41, .aload_n 0, 42), (42, .getfield 97, 45), (45, .isub, 46), (46, .istore_n 1, 47), (47, .aload_n 0, 48), (48, .iconst 0, 49), (49, .putfield 106, 52), (52, .iconst 0, 53), (53, .istore_n 2, 54), (54, .iload_n 2, 55), (55, .bipush 8, 57), (57, .if_icmp .ge 49, 60), (60, .iload_n 2, 61), (61, .iload_n 1, 62), (62, .if_icmp .lt 6, 65)],
    [(65, .goto 41, 68), (68, .aload_n 0, 69), (69, .getfield 43, 72), (72, .iload_n 2, 73), (73, .aload_n 0, 74), (74, .getfield 13, 77), (77, .aload_n 0, 78), (78, .getfield 97, 81), (81, .iload_n 2, 82), (82, .iadd, 83), (83, .aload_n 0, 84), (84, .getfield 93, 87), (87, .iand, 88), (88, .iaload, 89), (89, .iastore, 90), (90, .aload_n 0, 91), (91, .dup, 92), (92, .getfield 106, 95), (95, .iconst 1, 96)],
    [(96, .iadd, 97), (97, .putfield 106, 100), (100, .iinc 2 1, 103), (103, .goto (-49), 106), (106, .iconst 1, 107), (107, .ireturn, 108)]]),
  (prog_1_method_36_code, [
    [(0, .aload_n 0, 1), (1, .getfield 73, 4), (4, .iload_n 2, 5), (5, .iaload, 6), (6, .istore_n 3, 7), (7, .aload_n 0, 8), (8, .getfield 55, 11), (11, .iload_n 1, 12), (12, .iaload, 13), (13, .ifCond .lt 7, 16), (16, .iconst 1, 17), (17, .goto 4, 20), (20, .iconst 0, 21), (21, .istore 4, 23), (23, .iload_n 3, 24), (24, .ifCond .le 50, 27), (27, .aload_n 0, 28), (28, .getfield 70, 31), (31, .iload_n 2, 32)],
    [(32, .bipush 8, 34), (34, .imul, 35), (35, .iaload, 36), (36, .istore 5, 38), (38, .iload 4, 40), (40, .ifCond .eq 26, 43), (43, .aload_n 0, 44), (44, .getfield 58, 47), (47, .iload_n 1, 48), (48, .iaload, 49), (49, .iconst 1, 50), (50, .if_icmp .ne 14, 53), (53, .aload_n 0, 54), (54, .getfield 61, 57), (57, .iload_n 1, 58), (58, .iaload, 59), (59, .iload 5, 61), (61, .if_icmp .eq 5, 64)],
    [(64, .iconst 0, 65), (65, .ireturn, 66), (66, .aload_n 0, 67), (67, .iload_n 2, 68), (68, .iconst 1, 69), (69, .invokevirtual 180, 72), (72, .iconst 1, 73), (73, .ireturn, 74), (74, .iload 4, 76), (76, .ifCond .eq 15, 79), (79, .aload_n 0, 80), (80, .getfield 58, 83), (83, .iload_n 1, 84), (84, .iaload, 85), (85, .iconst 3, 86), (86, .if_icmp .eq 5, 89), (89, .iconst 0, 90), (90, .ireturn, 91), (91, .aload_n 0, 92), (92, .iload_n 2, 93), (93, .iconst 0, 94), (94, .invokevirtual 180, 97)],
    [(97, .iconst 1, 98), (98, .ireturn, 99)]])]
def own_mis : List MI := [(0, 9, 1, some .boolean, false, 9, 208), (0, 2, 2, some .int, false, 0, 0), (1, 8, 4, none, true, 1, 16), (1, 4, 4, some .int, false, 0, 0), (1, 3, 3, some .boolean, false, 2, 27), (1, 2, 2, some .boolean, false, 0, 0), (1, 2, 1, some .boolean, false, 1, 14), (1, 3, 1, some .int, false, 0, 0), (1, 4, 4, none, false, 0, 0), (1, 2, 2, some .int, false, 4, 62), (1, 3, 2, some .boolean, false, 3, 48), (1, 6, 3, some .boolean, false, 2, 31), (1, 5, 4, none, false, 1, 15), (1, 2, 2, some .int, false, 0, 0), (1, 2, 2, some .boolean, false, 2, 27), (1, 6, 3, some .boolean, false, 2, 31), (0, 3, 1, none, false, 5, 78), (1, 5, 3, some .int, false, 4, 62), (0, 1, 1, some .boolean, false, 5, 79), (1, 2, 1, some .int, false, 4, 66), (1, 3, 1, some .int, false, 0, 0), (1, 3, 1, none, false, 1, 16), (1, 4, 3, none, false, 0, 0), (1, 5, 3, none, false, 0, 0), (1, 3, 1, none, false, 0, 0), (1, 5, 1, some .int, false, 3, 50), (1, 3, 3, some .boolean, false, 2, 36), (1, 6, 3, some .boolean, false, 1, 19), (1, 8, 3, none, false, 0, 0), (1, 3, 1, some .boolean, false, 0, 0), (1, 6, 3, some .boolean, false, 1, 19)]
def own_links : List (Nat × Nat × Nat × Nat) := [(0, 17, 0, 1), (0, 23, 1, 2), (1, 1, 4, 0), (1, 82, 3, 3), (0, 26, 2, 4), (1, 113, 3, 5), (1, 117, 3, 6), (1, 109, 3, 7), (1, 121, 3, 8), (0, 34, 2, 9), (1, 125, 3, 10), (1, 128, 3, 11), (1, 135, 3, 12), (1, 138, 3, 13), (0, 30, 2, 14), (1, 132, 3, 15), (0, 42, 0, 16), (0, 13, 2, 17), (0, 38, 0, 18), (0, 7, 2, 19), (1, 145, 3, 20), (1, 148, 3, 21), (1, 160, 3, 22), (1, 164, 3, 23), (1, 151, 3, 24), (1, 154, 3, 25), (1, 171, 3, 26), (1, 174, 3, 27), (1, 180, 3, 28), (0, 46, 2, 29), (1, 177, 3, 30), (0, 8, 5, 0)]
def own_flds : List (Nat × Nat × Nat) := [(1, 7, 0), (1, 13, 1), (1, 16, 2), (1, 19, 3), (1, 22, 4), (1, 25, 5), (1, 28, 6), (1, 31, 7), (1, 34, 8), (1, 37, 9), (1, 40, 10), (1, 43, 11), (1, 46, 12), (1, 49, 13), (1, 52, 14), (1, 55, 15), (1, 58, 16), (1, 61, 17), (1, 64, 18), (1, 67, 19), (1, 70, 20), (1, 73, 21), (1, 76, 22), (1, 79, 23), (1, 86, 24), (1, 90, 25), (1, 93, 26), (1, 97, 27), (1, 100, 28), (1, 103, 29), (1, 106, 30), (1, 157, 31), (1, 167, 32)]
def own_kons : List (Nat × Nat × Value) := [(1, 96, .int (2147483584)), (1, 170, .int (200000))]
def own_fields : List (String × String × Nat × Bool) := [("seq", "[I", 3, false), ("val", "[I", 3, false), ("st", "[I", 3, false), ("locP", "[I", 3, false), ("locV", "[I", 3, false), ("lastSt", "[I", 3, false), ("lastVal", "[I", 3, false), ("logKind", "[I", 3, false), ("evKind", "[I", 3, false), ("evThread", "[I", 3, false), ("evVal", "[I", 3, false), ("snap", "[I", 3, false), ("opKind", "[I", 3, false), ("opArg", "[I", 3, false), ("opInv", "[I", 3, false), ("opRes", "[I", 3, false), ("opStatus", "[I", 3, false), ("opRVal", "[I", 3, false), ("predMask", "[I", 3, false), ("openOp", "[I", 3, false), ("qBuf", "[I", 3, false), ("qLen", "[I", 3, false), ("nextCand", "[I", 3, false), ("chosen", "[I", 3, false), ("nThreads", "I", 0, false), ("cap", "I", 0, false), ("mask", "I", 0, false), ("head", "I", 0, false), ("tail", "I", 0, false), ("histLen", "I", 0, false), ("snapLen", "I", 0, false), ("opCount", "I", 0, false), ("completeMask", "I", 0, false)]
def own_P : Prog := (codeAt own_cs, fun k => own_mis.getD k (0, 0, 0, none, false, 0, 0), lookT own_links, lookT own_flds, lookT own_kons, own_fields, 33, 1, 65, 896)
def own_nms : List MethodName := [⟨"SeqRingQueueOwnLaw", "law", "([I)Z"⟩, ⟨"SeqRingQueueOwnLaw", "cell", "([II)I"⟩, ⟨"SeqRingQueue", "<init>", "(III)V"⟩, ⟨"SeqRingQueue", "clamp", "(III)I"⟩, ⟨"SeqRingQueue", "startEnqueue", "(II)Z"⟩, ⟨"SeqRingQueue", "valid", "(I)Z"⟩, ⟨"SeqRingQueue", "hasRoom", "()Z"⟩, ⟨"SeqRingQueue", "pending", "()I"⟩, ⟨"SeqRingQueue", "append", "(III)V"⟩, ⟨"SeqRingQueue", "step", "(I)I"⟩, ⟨"SeqRingQueue", "doStep", "(I)Z"⟩, ⟨"SeqRingQueue", "enqStep", "(II)Z"⟩, ⟨"SeqRingQueue", "finish", "(III)V"⟩, ⟨"SeqRingQueue", "resKind", "(I)I"⟩, ⟨"SeqRingQueue", "startDequeue", "(I)Z"⟩, ⟨"SeqRingQueue", "deqStep", "(II)Z"⟩, ⟨"SeqRingQueueOwnLaw", "settle", "(LSeqRingQueue;)V"⟩, ⟨"SeqRingQueue", "run", "(II)I"⟩, ⟨"SeqRingQueueOwnLaw", "checkOk", "(LSeqRingQueue;)Z"⟩, ⟨"SeqRingQueue", "check", "()I"⟩, ⟨"SeqRingQueue", "countInvocations", "()I"⟩, ⟨"SeqRingQueue", "parseOps", "()V"⟩, ⟨"SeqRingQueue", "addOp", "(II)V"⟩, ⟨"SeqRingQueue", "closeOp", "(II)V"⟩, ⟨"SeqRingQueue", "buildPreds", "()V"⟩, ⟨"SeqRingQueue", "search", "()I"⟩, ⟨"SeqRingQueue", "apply", "(II)Z"⟩, ⟨"SeqRingQueue", "applyEnq", "(II)Z"⟩, ⟨"SeqRingQueue", "copyQueue", "(II)V"⟩, ⟨"SeqRingQueue", "clearHistory", "()Z"⟩, ⟨"SeqRingQueue", "applyDeq", "(II)Z"⟩]
def own_nm (k : Nat) : MethodName := own_nms.getD k ⟨"", "", ""⟩
def own_cn (c : Nat) : String := match c with | 0 => "SeqRingQueueOwnLaw" | _ => "SeqRingQueue"
theorem own_pn0 : plainName "SeqRingQueueOwnLaw" = true := by first | (simp [plainName, overriddenIn]; done) | decide +kernel
theorem own_pn1 : plainName "SeqRingQueue" = true := by first | (simp [plainName, overriddenIn]; done) | decide +kernel
theorem own_ne0 : "SeqRingQueueOwnLaw" ≠ "java/lang/invoke/MethodHandle" ∧ "SeqRingQueueOwnLaw" ≠ "java/lang/invoke/VarHandle" := by decide
theorem own_ne1 : "SeqRingQueue" ≠ "java/lang/invoke/MethodHandle" ∧ "SeqRingQueue" ≠ "java/lang/invoke/VarHandle" := by decide
theorem own_pd0 : parseMethodDescriptor "([II)I" = some ⟨[(.array .int), .int], some .int⟩ := by decide +kernel
theorem own_pd1 : parseMethodDescriptor "(III)V" = some ⟨[.int, .int, .int], none⟩ := by decide +kernel
theorem own_pd2 : parseMethodDescriptor "(III)I" = some ⟨[.int, .int, .int], some .int⟩ := by decide +kernel
theorem own_pd3 : parseMethodDescriptor "(II)Z" = some ⟨[.int, .int], some .boolean⟩ := by decide +kernel
theorem own_pd4 : parseMethodDescriptor "(I)Z" = some ⟨[.int], some .boolean⟩ := by decide +kernel
theorem own_pd5 : parseMethodDescriptor "()Z" = some ⟨[], some .boolean⟩ := by decide +kernel
theorem own_pd6 : parseMethodDescriptor "()I" = some ⟨[], some .int⟩ := by decide +kernel
theorem own_pd7 : parseMethodDescriptor "(I)I" = some ⟨[.int], some .int⟩ := by decide +kernel
theorem own_pd8 : parseMethodDescriptor "(LSeqRingQueue;)V" = some ⟨[(.object "SeqRingQueue")], none⟩ := by decide +kernel
theorem own_pd9 : parseMethodDescriptor "(II)I" = some ⟨[.int, .int], some .int⟩ := by decide +kernel
theorem own_pd10 : parseMethodDescriptor "(LSeqRingQueue;)Z" = some ⟨[(.object "SeqRingQueue")], some .boolean⟩ := by decide +kernel
theorem own_pd11 : parseMethodDescriptor "()V" = some ⟨[], none⟩ := by decide +kernel
theorem own_pd12 : parseMethodDescriptor "(II)V" = some ⟨[.int, .int], none⟩ := by decide +kernel
def own_kcm : ByteArray × List (List (Nat × Instr × Nat)) := own_cs.headD (⟨#[]⟩, [])
def own_kcn : CodeL := own_cs.drop 1
theorem own_kca {α : Type} {f : α → Bool} {l : List α} (n : Nat) (h1 : (l.take n).all f = true) (h2 : (l.drop n).all f = true) : l.all f = true := by
  rw [← List.take_append_drop n l, List.all_append, h1, h2]; rfl
set_option maxRecDepth 100000 in
theorem own_kc0_0 : (own_kcm.2.all fun c => c.all (okI own_kcm.1)) = true := by decide +kernel
set_option maxRecDepth 100000 in
theorem own_kcz : okCs own_kcn = true := by decide +kernel
theorem own_kc0 : (own_kcm.2.all fun c => c.all (okI own_kcm.1)) = true := own_kc0_0
theorem own_kch {α : Type} (d : α) : ∀ l : List α, ¬ l.length = 0 → l = l.headD d :: l.drop 1
  | [], h => absurd rfl h
  | a :: r, _ => rfl
theorem own_okcs : okCs own_cs = true := by
  have e : own_cs = own_kcm :: own_kcn := own_kch (⟨#[]⟩, []) own_cs (Nat.succ_ne_zero _)
  have h := own_kcz
  have g := own_kc0
  unfold okCs at h ⊢
  rw [e]
  generalize own_kcm = a at g ⊢
  generalize own_kcn = b at h ⊢
  rw [List.all_cons, g, Bool.true_and]
  exact h
def own_ty (t : ArrayType) : Bool := decide (t = .int)
theorem own_tyok : tyCs own_ty own_cs = true := by decide +kernel
theorem own_nodup : (own_fields.map (·.1)).Nodup := by decide +kernel
set_option maxRecDepth 100000 in
set_option maxHeartbeats 4000000 in
theorem own_good {Z : State} {a0 : Array Value} (hw : ∀ d ∈ tables_1, d.before a0 Z = true) : Good own_P own_nm (bcOf own_cs) own_cn "SeqRingQueue" Z a0 := by
  refine good_of (ty := own_ty) rfl own_okcs ?_ ?_ own_nodup ?_ (hw _ (List.mem_of_getElem? (i := 5) rfl)) (hw _ (List.mem_of_getElem? (i := 6) rfl)) own_tyok ?_ ?_
  · exact ⟨⟨_, _, _, _, rfl, (hw _ (List.mem_of_getElem? (i := 14) rfl))⟩,
      ⟨_, _, _, _, rfl, (hw _ (List.mem_of_getElem? (i := 16) rfl))⟩,
      ⟨_, _, _, _, rfl, (hw _ (List.mem_of_getElem? (i := 18) rfl))⟩,
      ⟨_, _, _, _, rfl, (hw _ (List.mem_of_getElem? (i := 20) rfl))⟩,
      ⟨_, _, _, _, rfl, (hw _ (List.mem_of_getElem? (i := 22) rfl))⟩,
      ⟨_, _, _, _, rfl, (hw _ (List.mem_of_getElem? (i := 24) rfl))⟩,
      ⟨_, _, _, _, rfl, (hw _ (List.mem_of_getElem? (i := 26) rfl))⟩,
      ⟨_, _, _, _, rfl, (hw _ (List.mem_of_getElem? (i := 28) rfl))⟩,
      ⟨_, _, _, _, rfl, (hw _ (List.mem_of_getElem? (i := 30) rfl))⟩,
      ⟨_, _, _, _, rfl, (hw _ (List.mem_of_getElem? (i := 32) rfl))⟩,
      ⟨_, _, _, _, rfl, (hw _ (List.mem_of_getElem? (i := 34) rfl))⟩,
      ⟨_, _, _, _, rfl, (hw _ (List.mem_of_getElem? (i := 36) rfl))⟩,
      ⟨_, _, _, _, rfl, (hw _ (List.mem_of_getElem? (i := 38) rfl))⟩,
      ⟨_, _, _, _, rfl, (hw _ (List.mem_of_getElem? (i := 40) rfl))⟩,
      ⟨_, _, _, _, rfl, (hw _ (List.mem_of_getElem? (i := 42) rfl))⟩,
      ⟨_, _, _, _, rfl, (hw _ (List.mem_of_getElem? (i := 44) rfl))⟩,
      ⟨_, _, _, _, rfl, (hw _ (List.mem_of_getElem? (i := 46) rfl))⟩,
      ⟨_, _, _, _, rfl, (hw _ (List.mem_of_getElem? (i := 48) rfl))⟩,
      ⟨_, _, _, _, rfl, (hw _ (List.mem_of_getElem? (i := 50) rfl))⟩,
      ⟨_, _, _, _, rfl, (hw _ (List.mem_of_getElem? (i := 52) rfl))⟩,
      ⟨_, _, _, _, rfl, (hw _ (List.mem_of_getElem? (i := 54) rfl))⟩,
      ⟨_, _, _, _, rfl, (hw _ (List.mem_of_getElem? (i := 56) rfl))⟩,
      ⟨_, _, _, _, rfl, (hw _ (List.mem_of_getElem? (i := 58) rfl))⟩,
      ⟨_, _, _, _, rfl, (hw _ (List.mem_of_getElem? (i := 60) rfl))⟩,
      ⟨_, _, _, _, rfl, (hw _ (List.mem_of_getElem? (i := 66) rfl))⟩,
      ⟨_, _, _, _, rfl, (hw _ (List.mem_of_getElem? (i := 68) rfl))⟩,
      ⟨_, _, _, _, rfl, (hw _ (List.mem_of_getElem? (i := 70) rfl))⟩,
      ⟨_, _, _, _, rfl, (hw _ (List.mem_of_getElem? (i := 73) rfl))⟩,
      ⟨_, _, _, _, rfl, (hw _ (List.mem_of_getElem? (i := 75) rfl))⟩,
      ⟨_, _, _, _, rfl, (hw _ (List.mem_of_getElem? (i := 77) rfl))⟩,
      ⟨_, _, _, _, rfl, (hw _ (List.mem_of_getElem? (i := 79) rfl))⟩,
      ⟨_, _, _, _, rfl, (hw _ (List.mem_of_getElem? (i := 156) rfl))⟩,
      ⟨_, _, _, _, rfl, (hw _ (List.mem_of_getElem? (i := 170) rfl))⟩,
      trivial⟩
  · exact ⟨⟨(hw _ (List.mem_of_getElem? (i := 15) rfl)), .array .int, by decide, rfl, rfl⟩,
      ⟨(hw _ (List.mem_of_getElem? (i := 17) rfl)), .array .int, by decide, rfl, rfl⟩,
      ⟨(hw _ (List.mem_of_getElem? (i := 19) rfl)), .array .int, by decide, rfl, rfl⟩,
      ⟨(hw _ (List.mem_of_getElem? (i := 21) rfl)), .array .int, by decide, rfl, rfl⟩,
      ⟨(hw _ (List.mem_of_getElem? (i := 23) rfl)), .array .int, by decide, rfl, rfl⟩,
      ⟨(hw _ (List.mem_of_getElem? (i := 25) rfl)), .array .int, by decide, rfl, rfl⟩,
      ⟨(hw _ (List.mem_of_getElem? (i := 27) rfl)), .array .int, by decide, rfl, rfl⟩,
      ⟨(hw _ (List.mem_of_getElem? (i := 29) rfl)), .array .int, by decide, rfl, rfl⟩,
      ⟨(hw _ (List.mem_of_getElem? (i := 31) rfl)), .array .int, by decide, rfl, rfl⟩,
      ⟨(hw _ (List.mem_of_getElem? (i := 33) rfl)), .array .int, by decide, rfl, rfl⟩,
      ⟨(hw _ (List.mem_of_getElem? (i := 35) rfl)), .array .int, by decide, rfl, rfl⟩,
      ⟨(hw _ (List.mem_of_getElem? (i := 37) rfl)), .array .int, by decide, rfl, rfl⟩,
      ⟨(hw _ (List.mem_of_getElem? (i := 39) rfl)), .array .int, by decide, rfl, rfl⟩,
      ⟨(hw _ (List.mem_of_getElem? (i := 41) rfl)), .array .int, by decide, rfl, rfl⟩,
      ⟨(hw _ (List.mem_of_getElem? (i := 43) rfl)), .array .int, by decide, rfl, rfl⟩,
      ⟨(hw _ (List.mem_of_getElem? (i := 45) rfl)), .array .int, by decide, rfl, rfl⟩,
      ⟨(hw _ (List.mem_of_getElem? (i := 47) rfl)), .array .int, by decide, rfl, rfl⟩,
      ⟨(hw _ (List.mem_of_getElem? (i := 49) rfl)), .array .int, by decide, rfl, rfl⟩,
      ⟨(hw _ (List.mem_of_getElem? (i := 51) rfl)), .array .int, by decide, rfl, rfl⟩,
      ⟨(hw _ (List.mem_of_getElem? (i := 53) rfl)), .array .int, by decide, rfl, rfl⟩,
      ⟨(hw _ (List.mem_of_getElem? (i := 55) rfl)), .array .int, by decide, rfl, rfl⟩,
      ⟨(hw _ (List.mem_of_getElem? (i := 57) rfl)), .array .int, by decide, rfl, rfl⟩,
      ⟨(hw _ (List.mem_of_getElem? (i := 59) rfl)), .array .int, by decide, rfl, rfl⟩,
      ⟨(hw _ (List.mem_of_getElem? (i := 61) rfl)), .array .int, by decide, rfl, rfl⟩,
      ⟨(hw _ (List.mem_of_getElem? (i := 67) rfl)), .int, by decide, rfl, rfl⟩,
      ⟨(hw _ (List.mem_of_getElem? (i := 69) rfl)), .int, by decide, rfl, rfl⟩,
      ⟨(hw _ (List.mem_of_getElem? (i := 71) rfl)), .int, by decide, rfl, rfl⟩,
      ⟨(hw _ (List.mem_of_getElem? (i := 74) rfl)), .int, by decide, rfl, rfl⟩,
      ⟨(hw _ (List.mem_of_getElem? (i := 76) rfl)), .int, by decide, rfl, rfl⟩,
      ⟨(hw _ (List.mem_of_getElem? (i := 78) rfl)), .int, by decide, rfl, rfl⟩,
      ⟨(hw _ (List.mem_of_getElem? (i := 80) rfl)), .int, by decide, rfl, rfl⟩,
      ⟨(hw _ (List.mem_of_getElem? (i := 157) rfl)), .int, by decide, rfl, rfl⟩,
      ⟨(hw _ (List.mem_of_getElem? (i := 171) rfl)), .int, by decide, rfl, rfl⟩,
      trivial⟩
  · exact ⟨(hw _ (List.mem_of_getElem? (i := 72) rfl)),
      (hw _ (List.mem_of_getElem? (i := 176) rfl)),
      trivial⟩
  · intro t ht
    simp only [own_ty, Bool.or_eq_true, decide_eq_true_eq] at ht
    subst ht
    exact (hw _ (List.mem_of_getElem? (i := 13) rfl))
  · exact ⟨⟨(hw _ (List.mem_of_getElem? (i := 0) rfl)), (hw _ (List.mem_of_getElem? (i := 3) rfl)), (hw _ (List.mem_of_getElem? (i := 2) rfl)), ⟨_, _, own_pd0, rfl⟩, own_pn0, own_ne0, rfl, (fun h => nomatch h), (hw _ (List.mem_of_getElem? (i := 1) rfl))⟩,
      ⟨(hw _ (List.mem_of_getElem? (i := 7) rfl)), (hw _ (List.mem_of_getElem? (i := 9) rfl)), (hw _ (List.mem_of_getElem? (i := 6) rfl)), ⟨_, _, own_pd1, rfl⟩, own_pn1, own_ne1, rfl, (fun _ => ⟨rfl, rfl⟩), ⟨rfl, (hw _ (List.mem_of_getElem? (i := 8) rfl)), rfl⟩⟩,
      ⟨(hw _ (List.mem_of_getElem? (i := 10) rfl)), (hw _ (List.mem_of_getElem? (i := 11) rfl)), (hw _ (List.mem_of_getElem? (i := 12) rfl))⟩,
      ⟨(hw _ (List.mem_of_getElem? (i := 62) rfl)), (hw _ (List.mem_of_getElem? (i := 65) rfl)), (hw _ (List.mem_of_getElem? (i := 6) rfl)), ⟨_, _, own_pd2, rfl⟩, own_pn1, own_ne1, rfl, (fun h => nomatch h), ⟨rfl, (hw _ (List.mem_of_getElem? (i := 63) rfl)), (hw _ (List.mem_of_getElem? (i := 64) rfl))⟩⟩,
      ⟨(hw _ (List.mem_of_getElem? (i := 81) rfl)), (hw _ (List.mem_of_getElem? (i := 85) rfl)), (hw _ (List.mem_of_getElem? (i := 6) rfl)), ⟨_, _, own_pd3, rfl⟩, own_pn1, own_ne1, rfl, (fun h => nomatch h), ⟨(hw _ (List.mem_of_getElem? (i := 82) rfl)), (hw _ (List.mem_of_getElem? (i := 83) rfl)), (hw _ (List.mem_of_getElem? (i := 84) rfl))⟩⟩,
      ⟨(hw _ (List.mem_of_getElem? (i := 86) rfl)), (hw _ (List.mem_of_getElem? (i := 89) rfl)), (hw _ (List.mem_of_getElem? (i := 6) rfl)), ⟨_, _, own_pd4, rfl⟩, own_pn1, own_ne1, rfl, (fun h => nomatch h), ⟨rfl, (hw _ (List.mem_of_getElem? (i := 87) rfl)), (hw _ (List.mem_of_getElem? (i := 88) rfl))⟩⟩,
      ⟨(hw _ (List.mem_of_getElem? (i := 90) rfl)), (hw _ (List.mem_of_getElem? (i := 93) rfl)), (hw _ (List.mem_of_getElem? (i := 6) rfl)), ⟨_, _, own_pd5, rfl⟩, own_pn1, own_ne1, rfl, (fun h => nomatch h), ⟨rfl, (hw _ (List.mem_of_getElem? (i := 91) rfl)), (hw _ (List.mem_of_getElem? (i := 92) rfl))⟩⟩,
      ⟨(hw _ (List.mem_of_getElem? (i := 94) rfl)), (hw _ (List.mem_of_getElem? (i := 97) rfl)), (hw _ (List.mem_of_getElem? (i := 6) rfl)), ⟨_, _, own_pd6, rfl⟩, own_pn1, own_ne1, rfl, (fun h => nomatch h), ⟨rfl, (hw _ (List.mem_of_getElem? (i := 95) rfl)), (hw _ (List.mem_of_getElem? (i := 96) rfl))⟩⟩,
      ⟨(hw _ (List.mem_of_getElem? (i := 98) rfl)), (hw _ (List.mem_of_getElem? (i := 101) rfl)), (hw _ (List.mem_of_getElem? (i := 6) rfl)), ⟨_, _, own_pd1, rfl⟩, own_pn1, own_ne1, rfl, (fun h => nomatch h), ⟨rfl, (hw _ (List.mem_of_getElem? (i := 99) rfl)), (hw _ (List.mem_of_getElem? (i := 100) rfl))⟩⟩,
      ⟨(hw _ (List.mem_of_getElem? (i := 102) rfl)), (hw _ (List.mem_of_getElem? (i := 106) rfl)), (hw _ (List.mem_of_getElem? (i := 6) rfl)), ⟨_, _, own_pd7, rfl⟩, own_pn1, own_ne1, rfl, (fun h => nomatch h), ⟨(hw _ (List.mem_of_getElem? (i := 103) rfl)), (hw _ (List.mem_of_getElem? (i := 104) rfl)), (hw _ (List.mem_of_getElem? (i := 105) rfl))⟩⟩,
      ⟨(hw _ (List.mem_of_getElem? (i := 107) rfl)), (hw _ (List.mem_of_getElem? (i := 110) rfl)), (hw _ (List.mem_of_getElem? (i := 6) rfl)), ⟨_, _, own_pd4, rfl⟩, own_pn1, own_ne1, rfl, (fun h => nomatch h), ⟨rfl, (hw _ (List.mem_of_getElem? (i := 108) rfl)), (hw _ (List.mem_of_getElem? (i := 109) rfl))⟩⟩,
      ⟨(hw _ (List.mem_of_getElem? (i := 111) rfl)), (hw _ (List.mem_of_getElem? (i := 114) rfl)), (hw _ (List.mem_of_getElem? (i := 6) rfl)), ⟨_, _, own_pd3, rfl⟩, own_pn1, own_ne1, rfl, (fun h => nomatch h), ⟨rfl, (hw _ (List.mem_of_getElem? (i := 112) rfl)), (hw _ (List.mem_of_getElem? (i := 113) rfl))⟩⟩,
      ⟨(hw _ (List.mem_of_getElem? (i := 115) rfl)), (hw _ (List.mem_of_getElem? (i := 118) rfl)), (hw _ (List.mem_of_getElem? (i := 6) rfl)), ⟨_, _, own_pd1, rfl⟩, own_pn1, own_ne1, rfl, (fun h => nomatch h), ⟨rfl, (hw _ (List.mem_of_getElem? (i := 116) rfl)), (hw _ (List.mem_of_getElem? (i := 117) rfl))⟩⟩,
      ⟨(hw _ (List.mem_of_getElem? (i := 119) rfl)), (hw _ (List.mem_of_getElem? (i := 122) rfl)), (hw _ (List.mem_of_getElem? (i := 6) rfl)), ⟨_, _, own_pd7, rfl⟩, own_pn1, own_ne1, rfl, (fun h => nomatch h), ⟨rfl, (hw _ (List.mem_of_getElem? (i := 120) rfl)), (hw _ (List.mem_of_getElem? (i := 121) rfl))⟩⟩,
      ⟨(hw _ (List.mem_of_getElem? (i := 123) rfl)), (hw _ (List.mem_of_getElem? (i := 127) rfl)), (hw _ (List.mem_of_getElem? (i := 6) rfl)), ⟨_, _, own_pd4, rfl⟩, own_pn1, own_ne1, rfl, (fun h => nomatch h), ⟨(hw _ (List.mem_of_getElem? (i := 124) rfl)), (hw _ (List.mem_of_getElem? (i := 125) rfl)), (hw _ (List.mem_of_getElem? (i := 126) rfl))⟩⟩,
      ⟨(hw _ (List.mem_of_getElem? (i := 128) rfl)), (hw _ (List.mem_of_getElem? (i := 131) rfl)), (hw _ (List.mem_of_getElem? (i := 6) rfl)), ⟨_, _, own_pd3, rfl⟩, own_pn1, own_ne1, rfl, (fun h => nomatch h), ⟨rfl, (hw _ (List.mem_of_getElem? (i := 129) rfl)), (hw _ (List.mem_of_getElem? (i := 130) rfl))⟩⟩,
      ⟨(hw _ (List.mem_of_getElem? (i := 132) rfl)), (hw _ (List.mem_of_getElem? (i := 134) rfl)), (hw _ (List.mem_of_getElem? (i := 2) rfl)), ⟨_, _, own_pd8, rfl⟩, own_pn0, own_ne0, rfl, (fun h => nomatch h), (hw _ (List.mem_of_getElem? (i := 133) rfl))⟩,
      ⟨(hw _ (List.mem_of_getElem? (i := 135) rfl)), (hw _ (List.mem_of_getElem? (i := 139) rfl)), (hw _ (List.mem_of_getElem? (i := 6) rfl)), ⟨_, _, own_pd9, rfl⟩, own_pn1, own_ne1, rfl, (fun h => nomatch h), ⟨(hw _ (List.mem_of_getElem? (i := 136) rfl)), (hw _ (List.mem_of_getElem? (i := 137) rfl)), (hw _ (List.mem_of_getElem? (i := 138) rfl))⟩⟩,
      ⟨(hw _ (List.mem_of_getElem? (i := 140) rfl)), (hw _ (List.mem_of_getElem? (i := 142) rfl)), (hw _ (List.mem_of_getElem? (i := 2) rfl)), ⟨_, _, own_pd10, rfl⟩, own_pn0, own_ne0, rfl, (fun h => nomatch h), (hw _ (List.mem_of_getElem? (i := 141) rfl))⟩,
      ⟨(hw _ (List.mem_of_getElem? (i := 143) rfl)), (hw _ (List.mem_of_getElem? (i := 147) rfl)), (hw _ (List.mem_of_getElem? (i := 6) rfl)), ⟨_, _, own_pd6, rfl⟩, own_pn1, own_ne1, rfl, (fun h => nomatch h), ⟨(hw _ (List.mem_of_getElem? (i := 144) rfl)), (hw _ (List.mem_of_getElem? (i := 145) rfl)), (hw _ (List.mem_of_getElem? (i := 146) rfl))⟩⟩,
      ⟨(hw _ (List.mem_of_getElem? (i := 148) rfl)), (hw _ (List.mem_of_getElem? (i := 151) rfl)), (hw _ (List.mem_of_getElem? (i := 6) rfl)), ⟨_, _, own_pd6, rfl⟩, own_pn1, own_ne1, rfl, (fun h => nomatch h), ⟨rfl, (hw _ (List.mem_of_getElem? (i := 149) rfl)), (hw _ (List.mem_of_getElem? (i := 150) rfl))⟩⟩,
      ⟨(hw _ (List.mem_of_getElem? (i := 152) rfl)), (hw _ (List.mem_of_getElem? (i := 155) rfl)), (hw _ (List.mem_of_getElem? (i := 6) rfl)), ⟨_, _, own_pd11, rfl⟩, own_pn1, own_ne1, rfl, (fun h => nomatch h), ⟨rfl, (hw _ (List.mem_of_getElem? (i := 153) rfl)), (hw _ (List.mem_of_getElem? (i := 154) rfl))⟩⟩,
      ⟨(hw _ (List.mem_of_getElem? (i := 158) rfl)), (hw _ (List.mem_of_getElem? (i := 161) rfl)), (hw _ (List.mem_of_getElem? (i := 6) rfl)), ⟨_, _, own_pd12, rfl⟩, own_pn1, own_ne1, rfl, (fun h => nomatch h), ⟨rfl, (hw _ (List.mem_of_getElem? (i := 159) rfl)), (hw _ (List.mem_of_getElem? (i := 160) rfl))⟩⟩,
      ⟨(hw _ (List.mem_of_getElem? (i := 162) rfl)), (hw _ (List.mem_of_getElem? (i := 165) rfl)), (hw _ (List.mem_of_getElem? (i := 6) rfl)), ⟨_, _, own_pd12, rfl⟩, own_pn1, own_ne1, rfl, (fun h => nomatch h), ⟨rfl, (hw _ (List.mem_of_getElem? (i := 163) rfl)), (hw _ (List.mem_of_getElem? (i := 164) rfl))⟩⟩,
      ⟨(hw _ (List.mem_of_getElem? (i := 166) rfl)), (hw _ (List.mem_of_getElem? (i := 169) rfl)), (hw _ (List.mem_of_getElem? (i := 6) rfl)), ⟨_, _, own_pd11, rfl⟩, own_pn1, own_ne1, rfl, (fun h => nomatch h), ⟨rfl, (hw _ (List.mem_of_getElem? (i := 167) rfl)), (hw _ (List.mem_of_getElem? (i := 168) rfl))⟩⟩,
      ⟨(hw _ (List.mem_of_getElem? (i := 172) rfl)), (hw _ (List.mem_of_getElem? (i := 175) rfl)), (hw _ (List.mem_of_getElem? (i := 6) rfl)), ⟨_, _, own_pd6, rfl⟩, own_pn1, own_ne1, rfl, (fun h => nomatch h), ⟨rfl, (hw _ (List.mem_of_getElem? (i := 173) rfl)), (hw _ (List.mem_of_getElem? (i := 174) rfl))⟩⟩,
      ⟨(hw _ (List.mem_of_getElem? (i := 177) rfl)), (hw _ (List.mem_of_getElem? (i := 180) rfl)), (hw _ (List.mem_of_getElem? (i := 6) rfl)), ⟨_, _, own_pd3, rfl⟩, own_pn1, own_ne1, rfl, (fun h => nomatch h), ⟨rfl, (hw _ (List.mem_of_getElem? (i := 178) rfl)), (hw _ (List.mem_of_getElem? (i := 179) rfl))⟩⟩,
      ⟨(hw _ (List.mem_of_getElem? (i := 181) rfl)), (hw _ (List.mem_of_getElem? (i := 184) rfl)), (hw _ (List.mem_of_getElem? (i := 6) rfl)), ⟨_, _, own_pd3, rfl⟩, own_pn1, own_ne1, rfl, (fun h => nomatch h), ⟨rfl, (hw _ (List.mem_of_getElem? (i := 182) rfl)), (hw _ (List.mem_of_getElem? (i := 183) rfl))⟩⟩,
      ⟨(hw _ (List.mem_of_getElem? (i := 185) rfl)), (hw _ (List.mem_of_getElem? (i := 188) rfl)), (hw _ (List.mem_of_getElem? (i := 6) rfl)), ⟨_, _, own_pd12, rfl⟩, own_pn1, own_ne1, rfl, (fun h => nomatch h), ⟨rfl, (hw _ (List.mem_of_getElem? (i := 186) rfl)), (hw _ (List.mem_of_getElem? (i := 187) rfl))⟩⟩,
      ⟨(hw _ (List.mem_of_getElem? (i := 189) rfl)), (hw _ (List.mem_of_getElem? (i := 193) rfl)), (hw _ (List.mem_of_getElem? (i := 6) rfl)), ⟨_, _, own_pd5, rfl⟩, own_pn1, own_ne1, rfl, (fun h => nomatch h), ⟨(hw _ (List.mem_of_getElem? (i := 190) rfl)), (hw _ (List.mem_of_getElem? (i := 191) rfl)), (hw _ (List.mem_of_getElem? (i := 192) rfl))⟩⟩,
      ⟨(hw _ (List.mem_of_getElem? (i := 194) rfl)), (hw _ (List.mem_of_getElem? (i := 197) rfl)), (hw _ (List.mem_of_getElem? (i := 6) rfl)), ⟨_, _, own_pd3, rfl⟩, own_pn1, own_ne1, rfl, (fun h => nomatch h), ⟨rfl, (hw _ (List.mem_of_getElem? (i := 195) rfl)), (hw _ (List.mem_of_getElem? (i := 196) rfl))⟩⟩,
      (hw _ (List.mem_of_getElem? (i := 4) rfl)),
      trivial⟩
/-! # the object's state -/
def Q : Type := List Int32 × List Int32 × List Int32 × List Int32 × List Int32 × List Int32 × List Int32 × List Int32 × List Int32 × List Int32 × List Int32 × List Int32 × List Int32 × List Int32 × List Int32 × List Int32 × List Int32 × List Int32 × List Int32 × List Int32 × List Int32 × List Int32 × List Int32 × List Int32 × Int32 × Int32 × Int32 × Int32 × Int32 × Int32 × Int32 × Int32 × Int32
def Q.f0 (s : Q) : List Int32 := s.1
def Q.f1 (s : Q) : List Int32 := s.2.1
def Q.f2 (s : Q) : List Int32 := s.2.2.1
def Q.f3 (s : Q) : List Int32 := s.2.2.2.1
def Q.f4 (s : Q) : List Int32 := s.2.2.2.2.1
def Q.f5 (s : Q) : List Int32 := s.2.2.2.2.2.1
def Q.f6 (s : Q) : List Int32 := s.2.2.2.2.2.2.1
def Q.f7 (s : Q) : List Int32 := s.2.2.2.2.2.2.2.1
def Q.f8 (s : Q) : List Int32 := s.2.2.2.2.2.2.2.2.1
def Q.f9 (s : Q) : List Int32 := s.2.2.2.2.2.2.2.2.2.1
def Q.f10 (s : Q) : List Int32 := s.2.2.2.2.2.2.2.2.2.2.1
def Q.f11 (s : Q) : List Int32 := s.2.2.2.2.2.2.2.2.2.2.2.1
def Q.f12 (s : Q) : List Int32 := s.2.2.2.2.2.2.2.2.2.2.2.2.1
def Q.f13 (s : Q) : List Int32 := s.2.2.2.2.2.2.2.2.2.2.2.2.2.1
def Q.f14 (s : Q) : List Int32 := s.2.2.2.2.2.2.2.2.2.2.2.2.2.2.1
def Q.f15 (s : Q) : List Int32 := s.2.2.2.2.2.2.2.2.2.2.2.2.2.2.2.1
def Q.f16 (s : Q) : List Int32 := s.2.2.2.2.2.2.2.2.2.2.2.2.2.2.2.2.1
def Q.f17 (s : Q) : List Int32 := s.2.2.2.2.2.2.2.2.2.2.2.2.2.2.2.2.2.1
def Q.f18 (s : Q) : List Int32 := s.2.2.2.2.2.2.2.2.2.2.2.2.2.2.2.2.2.2.1
def Q.f19 (s : Q) : List Int32 := s.2.2.2.2.2.2.2.2.2.2.2.2.2.2.2.2.2.2.2.1
def Q.f20 (s : Q) : List Int32 := s.2.2.2.2.2.2.2.2.2.2.2.2.2.2.2.2.2.2.2.2.1
def Q.f21 (s : Q) : List Int32 := s.2.2.2.2.2.2.2.2.2.2.2.2.2.2.2.2.2.2.2.2.2.1
def Q.f22 (s : Q) : List Int32 := s.2.2.2.2.2.2.2.2.2.2.2.2.2.2.2.2.2.2.2.2.2.2.1
def Q.f23 (s : Q) : List Int32 := s.2.2.2.2.2.2.2.2.2.2.2.2.2.2.2.2.2.2.2.2.2.2.2.1
def Q.f24 (s : Q) : Int32 := s.2.2.2.2.2.2.2.2.2.2.2.2.2.2.2.2.2.2.2.2.2.2.2.2.1
def Q.f25 (s : Q) : Int32 := s.2.2.2.2.2.2.2.2.2.2.2.2.2.2.2.2.2.2.2.2.2.2.2.2.2.1
def Q.f26 (s : Q) : Int32 := s.2.2.2.2.2.2.2.2.2.2.2.2.2.2.2.2.2.2.2.2.2.2.2.2.2.2.1
def Q.f27 (s : Q) : Int32 := s.2.2.2.2.2.2.2.2.2.2.2.2.2.2.2.2.2.2.2.2.2.2.2.2.2.2.2.1
def Q.f28 (s : Q) : Int32 := s.2.2.2.2.2.2.2.2.2.2.2.2.2.2.2.2.2.2.2.2.2.2.2.2.2.2.2.2.1
def Q.f29 (s : Q) : Int32 := s.2.2.2.2.2.2.2.2.2.2.2.2.2.2.2.2.2.2.2.2.2.2.2.2.2.2.2.2.2.1
def Q.f30 (s : Q) : Int32 := s.2.2.2.2.2.2.2.2.2.2.2.2.2.2.2.2.2.2.2.2.2.2.2.2.2.2.2.2.2.2.1
def Q.f31 (s : Q) : Int32 := s.2.2.2.2.2.2.2.2.2.2.2.2.2.2.2.2.2.2.2.2.2.2.2.2.2.2.2.2.2.2.2.1
def Q.f32 (s : Q) : Int32 := s.2.2.2.2.2.2.2.2.2.2.2.2.2.2.2.2.2.2.2.2.2.2.2.2.2.2.2.2.2.2.2.2
def Q0 : Q := (List.replicate 8 0, List.replicate 8 0, List.replicate 4 0, List.replicate 4 0, List.replicate 4 0, List.replicate 4 0, List.replicate 4 0, List.replicate 4 0, List.replicate 64 0, List.replicate 64 0, List.replicate 64 0, List.replicate 8 0, List.replicate 6 0, List.replicate 6 0, List.replicate 6 0, List.replicate 6 0, List.replicate 6 0, List.replicate 6 0, List.replicate 6 0, List.replicate 4 0, List.replicate 56 0, List.replicate 7 0, List.replicate 7 0, List.replicate 7 0, (0:Int32), (0:Int32), (0:Int32), (0:Int32), (0:Int32), (0:Int32), (0:Int32), (0:Int32), (0:Int32))
def Q.mk (q0 q1 q2 q3 q4 q5 q6 q7 q8 q9 q10 q11 q12 q13 q14 q15 q16 q17 q18 q19 q20 q21 q22 q23 : List Int32) (q24 q25 : Int32) (q26 q27 : Int32) (q28 q29 : Int32) (q30 q31 q32 : Int32) : Q := (q0, q1, q2, q3, q4, q5, q6, q7, q8, q9, q10, q11, q12, q13, q14, q15, q16, q17, q18, q19, q20, q21, q22, q23, q24, q25, q26, q27, q28, q29, q30, q31, q32)
def Q.s0 (s : Q) (x : List Int32) : Q := Q.mk x s.f1 s.f2 s.f3 s.f4 s.f5 s.f6 s.f7 s.f8 s.f9 s.f10 s.f11 s.f12 s.f13 s.f14 s.f15 s.f16 s.f17 s.f18 s.f19 s.f20 s.f21 s.f22 s.f23 s.f24 s.f25 s.f26 s.f27 s.f28 s.f29 s.f30 s.f31 s.f32
def Q.s1 (s : Q) (x : List Int32) : Q := Q.mk s.f0 x s.f2 s.f3 s.f4 s.f5 s.f6 s.f7 s.f8 s.f9 s.f10 s.f11 s.f12 s.f13 s.f14 s.f15 s.f16 s.f17 s.f18 s.f19 s.f20 s.f21 s.f22 s.f23 s.f24 s.f25 s.f26 s.f27 s.f28 s.f29 s.f30 s.f31 s.f32
def Q.s2 (s : Q) (x : List Int32) : Q := Q.mk s.f0 s.f1 x s.f3 s.f4 s.f5 s.f6 s.f7 s.f8 s.f9 s.f10 s.f11 s.f12 s.f13 s.f14 s.f15 s.f16 s.f17 s.f18 s.f19 s.f20 s.f21 s.f22 s.f23 s.f24 s.f25 s.f26 s.f27 s.f28 s.f29 s.f30 s.f31 s.f32
def Q.s3 (s : Q) (x : List Int32) : Q := Q.mk s.f0 s.f1 s.f2 x s.f4 s.f5 s.f6 s.f7 s.f8 s.f9 s.f10 s.f11 s.f12 s.f13 s.f14 s.f15 s.f16 s.f17 s.f18 s.f19 s.f20 s.f21 s.f22 s.f23 s.f24 s.f25 s.f26 s.f27 s.f28 s.f29 s.f30 s.f31 s.f32
def Q.s4 (s : Q) (x : List Int32) : Q := Q.mk s.f0 s.f1 s.f2 s.f3 x s.f5 s.f6 s.f7 s.f8 s.f9 s.f10 s.f11 s.f12 s.f13 s.f14 s.f15 s.f16 s.f17 s.f18 s.f19 s.f20 s.f21 s.f22 s.f23 s.f24 s.f25 s.f26 s.f27 s.f28 s.f29 s.f30 s.f31 s.f32
def Q.s5 (s : Q) (x : List Int32) : Q := Q.mk s.f0 s.f1 s.f2 s.f3 s.f4 x s.f6 s.f7 s.f8 s.f9 s.f10 s.f11 s.f12 s.f13 s.f14 s.f15 s.f16 s.f17 s.f18 s.f19 s.f20 s.f21 s.f22 s.f23 s.f24 s.f25 s.f26 s.f27 s.f28 s.f29 s.f30 s.f31 s.f32
def Q.s6 (s : Q) (x : List Int32) : Q := Q.mk s.f0 s.f1 s.f2 s.f3 s.f4 s.f5 x s.f7 s.f8 s.f9 s.f10 s.f11 s.f12 s.f13 s.f14 s.f15 s.f16 s.f17 s.f18 s.f19 s.f20 s.f21 s.f22 s.f23 s.f24 s.f25 s.f26 s.f27 s.f28 s.f29 s.f30 s.f31 s.f32
def Q.s7 (s : Q) (x : List Int32) : Q := Q.mk s.f0 s.f1 s.f2 s.f3 s.f4 s.f5 s.f6 x s.f8 s.f9 s.f10 s.f11 s.f12 s.f13 s.f14 s.f15 s.f16 s.f17 s.f18 s.f19 s.f20 s.f21 s.f22 s.f23 s.f24 s.f25 s.f26 s.f27 s.f28 s.f29 s.f30 s.f31 s.f32
def Q.s8 (s : Q) (x : List Int32) : Q := Q.mk s.f0 s.f1 s.f2 s.f3 s.f4 s.f5 s.f6 s.f7 x s.f9 s.f10 s.f11 s.f12 s.f13 s.f14 s.f15 s.f16 s.f17 s.f18 s.f19 s.f20 s.f21 s.f22 s.f23 s.f24 s.f25 s.f26 s.f27 s.f28 s.f29 s.f30 s.f31 s.f32
def Q.s9 (s : Q) (x : List Int32) : Q := Q.mk s.f0 s.f1 s.f2 s.f3 s.f4 s.f5 s.f6 s.f7 s.f8 x s.f10 s.f11 s.f12 s.f13 s.f14 s.f15 s.f16 s.f17 s.f18 s.f19 s.f20 s.f21 s.f22 s.f23 s.f24 s.f25 s.f26 s.f27 s.f28 s.f29 s.f30 s.f31 s.f32
def Q.s10 (s : Q) (x : List Int32) : Q := Q.mk s.f0 s.f1 s.f2 s.f3 s.f4 s.f5 s.f6 s.f7 s.f8 s.f9 x s.f11 s.f12 s.f13 s.f14 s.f15 s.f16 s.f17 s.f18 s.f19 s.f20 s.f21 s.f22 s.f23 s.f24 s.f25 s.f26 s.f27 s.f28 s.f29 s.f30 s.f31 s.f32
def Q.s11 (s : Q) (x : List Int32) : Q := Q.mk s.f0 s.f1 s.f2 s.f3 s.f4 s.f5 s.f6 s.f7 s.f8 s.f9 s.f10 x s.f12 s.f13 s.f14 s.f15 s.f16 s.f17 s.f18 s.f19 s.f20 s.f21 s.f22 s.f23 s.f24 s.f25 s.f26 s.f27 s.f28 s.f29 s.f30 s.f31 s.f32
def Q.s12 (s : Q) (x : List Int32) : Q := Q.mk s.f0 s.f1 s.f2 s.f3 s.f4 s.f5 s.f6 s.f7 s.f8 s.f9 s.f10 s.f11 x s.f13 s.f14 s.f15 s.f16 s.f17 s.f18 s.f19 s.f20 s.f21 s.f22 s.f23 s.f24 s.f25 s.f26 s.f27 s.f28 s.f29 s.f30 s.f31 s.f32
def Q.s13 (s : Q) (x : List Int32) : Q := Q.mk s.f0 s.f1 s.f2 s.f3 s.f4 s.f5 s.f6 s.f7 s.f8 s.f9 s.f10 s.f11 s.f12 x s.f14 s.f15 s.f16 s.f17 s.f18 s.f19 s.f20 s.f21 s.f22 s.f23 s.f24 s.f25 s.f26 s.f27 s.f28 s.f29 s.f30 s.f31 s.f32
def Q.s14 (s : Q) (x : List Int32) : Q := Q.mk s.f0 s.f1 s.f2 s.f3 s.f4 s.f5 s.f6 s.f7 s.f8 s.f9 s.f10 s.f11 s.f12 s.f13 x s.f15 s.f16 s.f17 s.f18 s.f19 s.f20 s.f21 s.f22 s.f23 s.f24 s.f25 s.f26 s.f27 s.f28 s.f29 s.f30 s.f31 s.f32
def Q.s15 (s : Q) (x : List Int32) : Q := Q.mk s.f0 s.f1 s.f2 s.f3 s.f4 s.f5 s.f6 s.f7 s.f8 s.f9 s.f10 s.f11 s.f12 s.f13 s.f14 x s.f16 s.f17 s.f18 s.f19 s.f20 s.f21 s.f22 s.f23 s.f24 s.f25 s.f26 s.f27 s.f28 s.f29 s.f30 s.f31 s.f32
def Q.s16 (s : Q) (x : List Int32) : Q := Q.mk s.f0 s.f1 s.f2 s.f3 s.f4 s.f5 s.f6 s.f7 s.f8 s.f9 s.f10 s.f11 s.f12 s.f13 s.f14 s.f15 x s.f17 s.f18 s.f19 s.f20 s.f21 s.f22 s.f23 s.f24 s.f25 s.f26 s.f27 s.f28 s.f29 s.f30 s.f31 s.f32
def Q.s17 (s : Q) (x : List Int32) : Q := Q.mk s.f0 s.f1 s.f2 s.f3 s.f4 s.f5 s.f6 s.f7 s.f8 s.f9 s.f10 s.f11 s.f12 s.f13 s.f14 s.f15 s.f16 x s.f18 s.f19 s.f20 s.f21 s.f22 s.f23 s.f24 s.f25 s.f26 s.f27 s.f28 s.f29 s.f30 s.f31 s.f32
def Q.s18 (s : Q) (x : List Int32) : Q := Q.mk s.f0 s.f1 s.f2 s.f3 s.f4 s.f5 s.f6 s.f7 s.f8 s.f9 s.f10 s.f11 s.f12 s.f13 s.f14 s.f15 s.f16 s.f17 x s.f19 s.f20 s.f21 s.f22 s.f23 s.f24 s.f25 s.f26 s.f27 s.f28 s.f29 s.f30 s.f31 s.f32
def Q.s19 (s : Q) (x : List Int32) : Q := Q.mk s.f0 s.f1 s.f2 s.f3 s.f4 s.f5 s.f6 s.f7 s.f8 s.f9 s.f10 s.f11 s.f12 s.f13 s.f14 s.f15 s.f16 s.f17 s.f18 x s.f20 s.f21 s.f22 s.f23 s.f24 s.f25 s.f26 s.f27 s.f28 s.f29 s.f30 s.f31 s.f32
def Q.s20 (s : Q) (x : List Int32) : Q := Q.mk s.f0 s.f1 s.f2 s.f3 s.f4 s.f5 s.f6 s.f7 s.f8 s.f9 s.f10 s.f11 s.f12 s.f13 s.f14 s.f15 s.f16 s.f17 s.f18 s.f19 x s.f21 s.f22 s.f23 s.f24 s.f25 s.f26 s.f27 s.f28 s.f29 s.f30 s.f31 s.f32
def Q.s21 (s : Q) (x : List Int32) : Q := Q.mk s.f0 s.f1 s.f2 s.f3 s.f4 s.f5 s.f6 s.f7 s.f8 s.f9 s.f10 s.f11 s.f12 s.f13 s.f14 s.f15 s.f16 s.f17 s.f18 s.f19 s.f20 x s.f22 s.f23 s.f24 s.f25 s.f26 s.f27 s.f28 s.f29 s.f30 s.f31 s.f32
def Q.s22 (s : Q) (x : List Int32) : Q := Q.mk s.f0 s.f1 s.f2 s.f3 s.f4 s.f5 s.f6 s.f7 s.f8 s.f9 s.f10 s.f11 s.f12 s.f13 s.f14 s.f15 s.f16 s.f17 s.f18 s.f19 s.f20 s.f21 x s.f23 s.f24 s.f25 s.f26 s.f27 s.f28 s.f29 s.f30 s.f31 s.f32
def Q.s23 (s : Q) (x : List Int32) : Q := Q.mk s.f0 s.f1 s.f2 s.f3 s.f4 s.f5 s.f6 s.f7 s.f8 s.f9 s.f10 s.f11 s.f12 s.f13 s.f14 s.f15 s.f16 s.f17 s.f18 s.f19 s.f20 s.f21 s.f22 x s.f24 s.f25 s.f26 s.f27 s.f28 s.f29 s.f30 s.f31 s.f32
def Q.s24 (s : Q) (x : Int32) : Q := Q.mk s.f0 s.f1 s.f2 s.f3 s.f4 s.f5 s.f6 s.f7 s.f8 s.f9 s.f10 s.f11 s.f12 s.f13 s.f14 s.f15 s.f16 s.f17 s.f18 s.f19 s.f20 s.f21 s.f22 s.f23 x s.f25 s.f26 s.f27 s.f28 s.f29 s.f30 s.f31 s.f32
def Q.s25 (s : Q) (x : Int32) : Q := Q.mk s.f0 s.f1 s.f2 s.f3 s.f4 s.f5 s.f6 s.f7 s.f8 s.f9 s.f10 s.f11 s.f12 s.f13 s.f14 s.f15 s.f16 s.f17 s.f18 s.f19 s.f20 s.f21 s.f22 s.f23 s.f24 x s.f26 s.f27 s.f28 s.f29 s.f30 s.f31 s.f32
def Q.s26 (s : Q) (x : Int32) : Q := Q.mk s.f0 s.f1 s.f2 s.f3 s.f4 s.f5 s.f6 s.f7 s.f8 s.f9 s.f10 s.f11 s.f12 s.f13 s.f14 s.f15 s.f16 s.f17 s.f18 s.f19 s.f20 s.f21 s.f22 s.f23 s.f24 s.f25 x s.f27 s.f28 s.f29 s.f30 s.f31 s.f32
def Q.s27 (s : Q) (x : Int32) : Q := Q.mk s.f0 s.f1 s.f2 s.f3 s.f4 s.f5 s.f6 s.f7 s.f8 s.f9 s.f10 s.f11 s.f12 s.f13 s.f14 s.f15 s.f16 s.f17 s.f18 s.f19 s.f20 s.f21 s.f22 s.f23 s.f24 s.f25 s.f26 x s.f28 s.f29 s.f30 s.f31 s.f32
def Q.s28 (s : Q) (x : Int32) : Q := Q.mk s.f0 s.f1 s.f2 s.f3 s.f4 s.f5 s.f6 s.f7 s.f8 s.f9 s.f10 s.f11 s.f12 s.f13 s.f14 s.f15 s.f16 s.f17 s.f18 s.f19 s.f20 s.f21 s.f22 s.f23 s.f24 s.f25 s.f26 s.f27 x s.f29 s.f30 s.f31 s.f32
def Q.s29 (s : Q) (x : Int32) : Q := Q.mk s.f0 s.f1 s.f2 s.f3 s.f4 s.f5 s.f6 s.f7 s.f8 s.f9 s.f10 s.f11 s.f12 s.f13 s.f14 s.f15 s.f16 s.f17 s.f18 s.f19 s.f20 s.f21 s.f22 s.f23 s.f24 s.f25 s.f26 s.f27 s.f28 x s.f30 s.f31 s.f32
def Q.s30 (s : Q) (x : Int32) : Q := Q.mk s.f0 s.f1 s.f2 s.f3 s.f4 s.f5 s.f6 s.f7 s.f8 s.f9 s.f10 s.f11 s.f12 s.f13 s.f14 s.f15 s.f16 s.f17 s.f18 s.f19 s.f20 s.f21 s.f22 s.f23 s.f24 s.f25 s.f26 s.f27 s.f28 s.f29 x s.f31 s.f32
def Q.s31 (s : Q) (x : Int32) : Q := Q.mk s.f0 s.f1 s.f2 s.f3 s.f4 s.f5 s.f6 s.f7 s.f8 s.f9 s.f10 s.f11 s.f12 s.f13 s.f14 s.f15 s.f16 s.f17 s.f18 s.f19 s.f20 s.f21 s.f22 s.f23 s.f24 s.f25 s.f26 s.f27 s.f28 s.f29 s.f30 x s.f32
def Q.s32 (s : Q) (x : Int32) : Q := Q.mk s.f0 s.f1 s.f2 s.f3 s.f4 s.f5 s.f6 s.f7 s.f8 s.f9 s.f10 s.f11 s.f12 s.f13 s.f14 s.f15 s.f16 s.f17 s.f18 s.f19 s.f20 s.f21 s.f22 s.f23 s.f24 s.f25 s.f26 s.f27 s.f28 s.f29 s.f30 s.f31 x
section own_vs
variable {q0 q1 q2 q3 q4 q5 q6 q7 q8 q9 q10 q11 q12 q13 q14 q15 q16 q17 q18 q19 q20 q21 q22 q23 scr : List Int32} {q24 q25 q26 q27 q28 q29 q30 q31 q32 : Int32} {R : AHeap}
theorem own_f_seq : (Q.mk q0 q1 q2 q3 q4 q5 q6 q7 q8 q9 q10 q11 q12 q13 q14 q15 q16 q17 q18 q19 q20 q21 q22 q23 q24 q25 q26 q27 q28 q29 q30 q31 q32).f0 = q0 := by have _h := trivial; exact rfl
theorem own_f_val : (Q.mk q0 q1 q2 q3 q4 q5 q6 q7 q8 q9 q10 q11 q12 q13 q14 q15 q16 q17 q18 q19 q20 q21 q22 q23 q24 q25 q26 q27 q28 q29 q30 q31 q32).f1 = q1 := by have _h := trivial; exact rfl
theorem own_f_st : (Q.mk q0 q1 q2 q3 q4 q5 q6 q7 q8 q9 q10 q11 q12 q13 q14 q15 q16 q17 q18 q19 q20 q21 q22 q23 q24 q25 q26 q27 q28 q29 q30 q31 q32).f2 = q2 := by have _h := trivial; exact rfl
theorem own_f_locP : (Q.mk q0 q1 q2 q3 q4 q5 q6 q7 q8 q9 q10 q11 q12 q13 q14 q15 q16 q17 q18 q19 q20 q21 q22 q23 q24 q25 q26 q27 q28 q29 q30 q31 q32).f3 = q3 := by have _h := trivial; exact rfl
theorem own_f_locV : (Q.mk q0 q1 q2 q3 q4 q5 q6 q7 q8 q9 q10 q11 q12 q13 q14 q15 q16 q17 q18 q19 q20 q21 q22 q23 q24 q25 q26 q27 q28 q29 q30 q31 q32).f4 = q4 := by have _h := trivial; exact rfl
theorem own_f_lastSt : (Q.mk q0 q1 q2 q3 q4 q5 q6 q7 q8 q9 q10 q11 q12 q13 q14 q15 q16 q17 q18 q19 q20 q21 q22 q23 q24 q25 q26 q27 q28 q29 q30 q31 q32).f5 = q5 := by have _h := trivial; exact rfl
theorem own_f_lastVal : (Q.mk q0 q1 q2 q3 q4 q5 q6 q7 q8 q9 q10 q11 q12 q13 q14 q15 q16 q17 q18 q19 q20 q21 q22 q23 q24 q25 q26 q27 q28 q29 q30 q31 q32).f6 = q6 := by have _h := trivial; exact rfl
theorem own_f_logKind : (Q.mk q0 q1 q2 q3 q4 q5 q6 q7 q8 q9 q10 q11 q12 q13 q14 q15 q16 q17 q18 q19 q20 q21 q22 q23 q24 q25 q26 q27 q28 q29 q30 q31 q32).f7 = q7 := by have _h := trivial; exact rfl
theorem own_f_evKind : (Q.mk q0 q1 q2 q3 q4 q5 q6 q7 q8 q9 q10 q11 q12 q13 q14 q15 q16 q17 q18 q19 q20 q21 q22 q23 q24 q25 q26 q27 q28 q29 q30 q31 q32).f8 = q8 := by have _h := trivial; exact rfl
theorem own_f_evThread : (Q.mk q0 q1 q2 q3 q4 q5 q6 q7 q8 q9 q10 q11 q12 q13 q14 q15 q16 q17 q18 q19 q20 q21 q22 q23 q24 q25 q26 q27 q28 q29 q30 q31 q32).f9 = q9 := by have _h := trivial; exact rfl
theorem own_f_evVal : (Q.mk q0 q1 q2 q3 q4 q5 q6 q7 q8 q9 q10 q11 q12 q13 q14 q15 q16 q17 q18 q19 q20 q21 q22 q23 q24 q25 q26 q27 q28 q29 q30 q31 q32).f10 = q10 := by have _h := trivial; exact rfl
theorem own_f_snap : (Q.mk q0 q1 q2 q3 q4 q5 q6 q7 q8 q9 q10 q11 q12 q13 q14 q15 q16 q17 q18 q19 q20 q21 q22 q23 q24 q25 q26 q27 q28 q29 q30 q31 q32).f11 = q11 := by have _h := trivial; exact rfl
theorem own_f_opKind : (Q.mk q0 q1 q2 q3 q4 q5 q6 q7 q8 q9 q10 q11 q12 q13 q14 q15 q16 q17 q18 q19 q20 q21 q22 q23 q24 q25 q26 q27 q28 q29 q30 q31 q32).f12 = q12 := by have _h := trivial; exact rfl
theorem own_f_opArg : (Q.mk q0 q1 q2 q3 q4 q5 q6 q7 q8 q9 q10 q11 q12 q13 q14 q15 q16 q17 q18 q19 q20 q21 q22 q23 q24 q25 q26 q27 q28 q29 q30 q31 q32).f13 = q13 := by have _h := trivial; exact rfl
theorem own_f_opInv : (Q.mk q0 q1 q2 q3 q4 q5 q6 q7 q8 q9 q10 q11 q12 q13 q14 q15 q16 q17 q18 q19 q20 q21 q22 q23 q24 q25 q26 q27 q28 q29 q30 q31 q32).f14 = q14 := by have _h := trivial; exact rfl
theorem own_f_opRes : (Q.mk q0 q1 q2 q3 q4 q5 q6 q7 q8 q9 q10 q11 q12 q13 q14 q15 q16 q17 q18 q19 q20 q21 q22 q23 q24 q25 q26 q27 q28 q29 q30 q31 q32).f15 = q15 := by have _h := trivial; exact rfl
theorem own_f_opStatus : (Q.mk q0 q1 q2 q3 q4 q5 q6 q7 q8 q9 q10 q11 q12 q13 q14 q15 q16 q17 q18 q19 q20 q21 q22 q23 q24 q25 q26 q27 q28 q29 q30 q31 q32).f16 = q16 := by have _h := trivial; exact rfl
theorem own_f_opRVal : (Q.mk q0 q1 q2 q3 q4 q5 q6 q7 q8 q9 q10 q11 q12 q13 q14 q15 q16 q17 q18 q19 q20 q21 q22 q23 q24 q25 q26 q27 q28 q29 q30 q31 q32).f17 = q17 := by have _h := trivial; exact rfl
theorem own_f_predMask : (Q.mk q0 q1 q2 q3 q4 q5 q6 q7 q8 q9 q10 q11 q12 q13 q14 q15 q16 q17 q18 q19 q20 q21 q22 q23 q24 q25 q26 q27 q28 q29 q30 q31 q32).f18 = q18 := by have _h := trivial; exact rfl
theorem own_f_openOp : (Q.mk q0 q1 q2 q3 q4 q5 q6 q7 q8 q9 q10 q11 q12 q13 q14 q15 q16 q17 q18 q19 q20 q21 q22 q23 q24 q25 q26 q27 q28 q29 q30 q31 q32).f19 = q19 := by have _h := trivial; exact rfl
theorem own_f_qBuf : (Q.mk q0 q1 q2 q3 q4 q5 q6 q7 q8 q9 q10 q11 q12 q13 q14 q15 q16 q17 q18 q19 q20 q21 q22 q23 q24 q25 q26 q27 q28 q29 q30 q31 q32).f20 = q20 := by have _h := trivial; exact rfl
theorem own_f_qLen : (Q.mk q0 q1 q2 q3 q4 q5 q6 q7 q8 q9 q10 q11 q12 q13 q14 q15 q16 q17 q18 q19 q20 q21 q22 q23 q24 q25 q26 q27 q28 q29 q30 q31 q32).f21 = q21 := by have _h := trivial; exact rfl
theorem own_f_nextCand : (Q.mk q0 q1 q2 q3 q4 q5 q6 q7 q8 q9 q10 q11 q12 q13 q14 q15 q16 q17 q18 q19 q20 q21 q22 q23 q24 q25 q26 q27 q28 q29 q30 q31 q32).f22 = q22 := by have _h := trivial; exact rfl
theorem own_f_chosen : (Q.mk q0 q1 q2 q3 q4 q5 q6 q7 q8 q9 q10 q11 q12 q13 q14 q15 q16 q17 q18 q19 q20 q21 q22 q23 q24 q25 q26 q27 q28 q29 q30 q31 q32).f23 = q23 := by have _h := trivial; exact rfl
theorem own_f_nThreads : (Q.mk q0 q1 q2 q3 q4 q5 q6 q7 q8 q9 q10 q11 q12 q13 q14 q15 q16 q17 q18 q19 q20 q21 q22 q23 q24 q25 q26 q27 q28 q29 q30 q31 q32).f24 = q24 := by have _h := trivial; exact rfl
theorem own_f_cap : (Q.mk q0 q1 q2 q3 q4 q5 q6 q7 q8 q9 q10 q11 q12 q13 q14 q15 q16 q17 q18 q19 q20 q21 q22 q23 q24 q25 q26 q27 q28 q29 q30 q31 q32).f25 = q25 := by have _h := trivial; exact rfl
theorem own_f_mask : (Q.mk q0 q1 q2 q3 q4 q5 q6 q7 q8 q9 q10 q11 q12 q13 q14 q15 q16 q17 q18 q19 q20 q21 q22 q23 q24 q25 q26 q27 q28 q29 q30 q31 q32).f26 = q26 := by have _h := trivial; exact rfl
theorem own_f_head : (Q.mk q0 q1 q2 q3 q4 q5 q6 q7 q8 q9 q10 q11 q12 q13 q14 q15 q16 q17 q18 q19 q20 q21 q22 q23 q24 q25 q26 q27 q28 q29 q30 q31 q32).f27 = q27 := by have _h := trivial; exact rfl
theorem own_f_tail : (Q.mk q0 q1 q2 q3 q4 q5 q6 q7 q8 q9 q10 q11 q12 q13 q14 q15 q16 q17 q18 q19 q20 q21 q22 q23 q24 q25 q26 q27 q28 q29 q30 q31 q32).f28 = q28 := by have _h := trivial; exact rfl
theorem own_f_histLen : (Q.mk q0 q1 q2 q3 q4 q5 q6 q7 q8 q9 q10 q11 q12 q13 q14 q15 q16 q17 q18 q19 q20 q21 q22 q23 q24 q25 q26 q27 q28 q29 q30 q31 q32).f29 = q29 := by have _h := trivial; exact rfl
theorem own_f_snapLen : (Q.mk q0 q1 q2 q3 q4 q5 q6 q7 q8 q9 q10 q11 q12 q13 q14 q15 q16 q17 q18 q19 q20 q21 q22 q23 q24 q25 q26 q27 q28 q29 q30 q31 q32).f30 = q30 := by have _h := trivial; exact rfl
theorem own_f_opCount : (Q.mk q0 q1 q2 q3 q4 q5 q6 q7 q8 q9 q10 q11 q12 q13 q14 q15 q16 q17 q18 q19 q20 q21 q22 q23 q24 q25 q26 q27 q28 q29 q30 q31 q32).f31 = q31 := by have _h := trivial; exact rfl
theorem own_f_completeMask : (Q.mk q0 q1 q2 q3 q4 q5 q6 q7 q8 q9 q10 q11 q12 q13 q14 q15 q16 q17 q18 q19 q20 q21 q22 q23 q24 q25 q26 q27 q28 q29 q30 q31 q32).f32 = q32 := by have _h := trivial; exact rfl
theorem own_e_seq (s : Q) (x : List Int32) : s.s0 x = Q.mk x s.f1 s.f2 s.f3 s.f4 s.f5 s.f6 s.f7 s.f8 s.f9 s.f10 s.f11 s.f12 s.f13 s.f14 s.f15 s.f16 s.f17 s.f18 s.f19 s.f20 s.f21 s.f22 s.f23 s.f24 s.f25 s.f26 s.f27 s.f28 s.f29 s.f30 s.f31 s.f32 := by have _h := trivial; exact rfl
theorem own_e_val (s : Q) (x : List Int32) : s.s1 x = Q.mk s.f0 x s.f2 s.f3 s.f4 s.f5 s.f6 s.f7 s.f8 s.f9 s.f10 s.f11 s.f12 s.f13 s.f14 s.f15 s.f16 s.f17 s.f18 s.f19 s.f20 s.f21 s.f22 s.f23 s.f24 s.f25 s.f26 s.f27 s.f28 s.f29 s.f30 s.f31 s.f32 := by have _h := trivial; exact rfl
theorem own_e_st (s : Q) (x : List Int32) : s.s2 x = Q.mk s.f0 s.f1 x s.f3 s.f4 s.f5 s.f6 s.f7 s.f8 s.f9 s.f10 s.f11 s.f12 s.f13 s.f14 s.f15 s.f16 s.f17 s.f18 s.f19 s.f20 s.f21 s.f22 s.f23 s.f24 s.f25 s.f26 s.f27 s.f28 s.f29 s.f30 s.f31 s.f32 := by have _h := trivial; exact rfl
theorem own_e_locP (s : Q) (x : List Int32) : s.s3 x = Q.mk s.f0 s.f1 s.f2 x s.f4 s.f5 s.f6 s.f7 s.f8 s.f9 s.f10 s.f11 s.f12 s.f13 s.f14 s.f15 s.f16 s.f17 s.f18 s.f19 s.f20 s.f21 s.f22 s.f23 s.f24 s.f25 s.f26 s.f27 s.f28 s.f29 s.f30 s.f31 s.f32 := by have _h := trivial; exact rfl
theorem own_e_locV (s : Q) (x : List Int32) : s.s4 x = Q.mk s.f0 s.f1 s.f2 s.f3 x s.f5 s.f6 s.f7 s.f8 s.f9 s.f10 s.f11 s.f12 s.f13 s.f14 s.f15 s.f16 s.f17 s.f18 s.f19 s.f20 s.f21 s.f22 s.f23 s.f24 s.f25 s.f26 s.f27 s.f28 s.f29 s.f30 s.f31 s.f32 := by have _h := trivial; exact rfl
theorem own_e_lastSt (s : Q) (x : List Int32) : s.s5 x = Q.mk s.f0 s.f1 s.f2 s.f3 s.f4 x s.f6 s.f7 s.f8 s.f9 s.f10 s.f11 s.f12 s.f13 s.f14 s.f15 s.f16 s.f17 s.f18 s.f19 s.f20 s.f21 s.f22 s.f23 s.f24 s.f25 s.f26 s.f27 s.f28 s.f29 s.f30 s.f31 s.f32 := by have _h := trivial; exact rfl
theorem own_e_lastVal (s : Q) (x : List Int32) : s.s6 x = Q.mk s.f0 s.f1 s.f2 s.f3 s.f4 s.f5 x s.f7 s.f8 s.f9 s.f10 s.f11 s.f12 s.f13 s.f14 s.f15 s.f16 s.f17 s.f18 s.f19 s.f20 s.f21 s.f22 s.f23 s.f24 s.f25 s.f26 s.f27 s.f28 s.f29 s.f30 s.f31 s.f32 := by have _h := trivial; exact rfl
theorem own_e_logKind (s : Q) (x : List Int32) : s.s7 x = Q.mk s.f0 s.f1 s.f2 s.f3 s.f4 s.f5 s.f6 x s.f8 s.f9 s.f10 s.f11 s.f12 s.f13 s.f14 s.f15 s.f16 s.f17 s.f18 s.f19 s.f20 s.f21 s.f22 s.f23 s.f24 s.f25 s.f26 s.f27 s.f28 s.f29 s.f30 s.f31 s.f32 := by have _h := trivial; exact rfl
theorem own_e_evKind (s : Q) (x : List Int32) : s.s8 x = Q.mk s.f0 s.f1 s.f2 s.f3 s.f4 s.f5 s.f6 s.f7 x s.f9 s.f10 s.f11 s.f12 s.f13 s.f14 s.f15 s.f16 s.f17 s.f18 s.f19 s.f20 s.f21 s.f22 s.f23 s.f24 s.f25 s.f26 s.f27 s.f28 s.f29 s.f30 s.f31 s.f32 := by have _h := trivial; exact rfl
theorem own_e_evThread (s : Q) (x : List Int32) : s.s9 x = Q.mk s.f0 s.f1 s.f2 s.f3 s.f4 s.f5 s.f6 s.f7 s.f8 x s.f10 s.f11 s.f12 s.f13 s.f14 s.f15 s.f16 s.f17 s.f18 s.f19 s.f20 s.f21 s.f22 s.f23 s.f24 s.f25 s.f26 s.f27 s.f28 s.f29 s.f30 s.f31 s.f32 := by have _h := trivial; exact rfl
theorem own_e_evVal (s : Q) (x : List Int32) : s.s10 x = Q.mk s.f0 s.f1 s.f2 s.f3 s.f4 s.f5 s.f6 s.f7 s.f8 s.f9 x s.f11 s.f12 s.f13 s.f14 s.f15 s.f16 s.f17 s.f18 s.f19 s.f20 s.f21 s.f22 s.f23 s.f24 s.f25 s.f26 s.f27 s.f28 s.f29 s.f30 s.f31 s.f32 := by have _h := trivial; exact rfl
theorem own_e_snap (s : Q) (x : List Int32) : s.s11 x = Q.mk s.f0 s.f1 s.f2 s.f3 s.f4 s.f5 s.f6 s.f7 s.f8 s.f9 s.f10 x s.f12 s.f13 s.f14 s.f15 s.f16 s.f17 s.f18 s.f19 s.f20 s.f21 s.f22 s.f23 s.f24 s.f25 s.f26 s.f27 s.f28 s.f29 s.f30 s.f31 s.f32 := by have _h := trivial; exact rfl
theorem own_e_opKind (s : Q) (x : List Int32) : s.s12 x = Q.mk s.f0 s.f1 s.f2 s.f3 s.f4 s.f5 s.f6 s.f7 s.f8 s.f9 s.f10 s.f11 x s.f13 s.f14 s.f15 s.f16 s.f17 s.f18 s.f19 s.f20 s.f21 s.f22 s.f23 s.f24 s.f25 s.f26 s.f27 s.f28 s.f29 s.f30 s.f31 s.f32 := by have _h := trivial; exact rfl
theorem own_e_opArg (s : Q) (x : List Int32) : s.s13 x = Q.mk s.f0 s.f1 s.f2 s.f3 s.f4 s.f5 s.f6 s.f7 s.f8 s.f9 s.f10 s.f11 s.f12 x s.f14 s.f15 s.f16 s.f17 s.f18 s.f19 s.f20 s.f21 s.f22 s.f23 s.f24 s.f25 s.f26 s.f27 s.f28 s.f29 s.f30 s.f31 s.f32 := by have _h := trivial; exact rfl
theorem own_e_opInv (s : Q) (x : List Int32) : s.s14 x = Q.mk s.f0 s.f1 s.f2 s.f3 s.f4 s.f5 s.f6 s.f7 s.f8 s.f9 s.f10 s.f11 s.f12 s.f13 x s.f15 s.f16 s.f17 s.f18 s.f19 s.f20 s.f21 s.f22 s.f23 s.f24 s.f25 s.f26 s.f27 s.f28 s.f29 s.f30 s.f31 s.f32 := by have _h := trivial; exact rfl
theorem own_e_opRes (s : Q) (x : List Int32) : s.s15 x = Q.mk s.f0 s.f1 s.f2 s.f3 s.f4 s.f5 s.f6 s.f7 s.f8 s.f9 s.f10 s.f11 s.f12 s.f13 s.f14 x s.f16 s.f17 s.f18 s.f19 s.f20 s.f21 s.f22 s.f23 s.f24 s.f25 s.f26 s.f27 s.f28 s.f29 s.f30 s.f31 s.f32 := by have _h := trivial; exact rfl
theorem own_e_opStatus (s : Q) (x : List Int32) : s.s16 x = Q.mk s.f0 s.f1 s.f2 s.f3 s.f4 s.f5 s.f6 s.f7 s.f8 s.f9 s.f10 s.f11 s.f12 s.f13 s.f14 s.f15 x s.f17 s.f18 s.f19 s.f20 s.f21 s.f22 s.f23 s.f24 s.f25 s.f26 s.f27 s.f28 s.f29 s.f30 s.f31 s.f32 := by have _h := trivial; exact rfl
theorem own_e_opRVal (s : Q) (x : List Int32) : s.s17 x = Q.mk s.f0 s.f1 s.f2 s.f3 s.f4 s.f5 s.f6 s.f7 s.f8 s.f9 s.f10 s.f11 s.f12 s.f13 s.f14 s.f15 s.f16 x s.f18 s.f19 s.f20 s.f21 s.f22 s.f23 s.f24 s.f25 s.f26 s.f27 s.f28 s.f29 s.f30 s.f31 s.f32 := by have _h := trivial; exact rfl
theorem own_e_predMask (s : Q) (x : List Int32) : s.s18 x = Q.mk s.f0 s.f1 s.f2 s.f3 s.f4 s.f5 s.f6 s.f7 s.f8 s.f9 s.f10 s.f11 s.f12 s.f13 s.f14 s.f15 s.f16 s.f17 x s.f19 s.f20 s.f21 s.f22 s.f23 s.f24 s.f25 s.f26 s.f27 s.f28 s.f29 s.f30 s.f31 s.f32 := by have _h := trivial; exact rfl
theorem own_e_openOp (s : Q) (x : List Int32) : s.s19 x = Q.mk s.f0 s.f1 s.f2 s.f3 s.f4 s.f5 s.f6 s.f7 s.f8 s.f9 s.f10 s.f11 s.f12 s.f13 s.f14 s.f15 s.f16 s.f17 s.f18 x s.f20 s.f21 s.f22 s.f23 s.f24 s.f25 s.f26 s.f27 s.f28 s.f29 s.f30 s.f31 s.f32 := by have _h := trivial; exact rfl
theorem own_e_qBuf (s : Q) (x : List Int32) : s.s20 x = Q.mk s.f0 s.f1 s.f2 s.f3 s.f4 s.f5 s.f6 s.f7 s.f8 s.f9 s.f10 s.f11 s.f12 s.f13 s.f14 s.f15 s.f16 s.f17 s.f18 s.f19 x s.f21 s.f22 s.f23 s.f24 s.f25 s.f26 s.f27 s.f28 s.f29 s.f30 s.f31 s.f32 := by have _h := trivial; exact rfl
theorem own_e_qLen (s : Q) (x : List Int32) : s.s21 x = Q.mk s.f0 s.f1 s.f2 s.f3 s.f4 s.f5 s.f6 s.f7 s.f8 s.f9 s.f10 s.f11 s.f12 s.f13 s.f14 s.f15 s.f16 s.f17 s.f18 s.f19 s.f20 x s.f22 s.f23 s.f24 s.f25 s.f26 s.f27 s.f28 s.f29 s.f30 s.f31 s.f32 := by have _h := trivial; exact rfl
theorem own_e_nextCand (s : Q) (x : List Int32) : s.s22 x = Q.mk s.f0 s.f1 s.f2 s.f3 s.f4 s.f5 s.f6 s.f7 s.f8 s.f9 s.f10 s.f11 s.f12 s.f13 s.f14 s.f15 s.f16 s.f17 s.f18 s.f19 s.f20 s.f21 x s.f23 s.f24 s.f25 s.f26 s.f27 s.f28 s.f29 s.f30 s.f31 s.f32 := by have _h := trivial; exact rfl
theorem own_e_chosen (s : Q) (x : List Int32) : s.s23 x = Q.mk s.f0 s.f1 s.f2 s.f3 s.f4 s.f5 s.f6 s.f7 s.f8 s.f9 s.f10 s.f11 s.f12 s.f13 s.f14 s.f15 s.f16 s.f17 s.f18 s.f19 s.f20 s.f21 s.f22 x s.f24 s.f25 s.f26 s.f27 s.f28 s.f29 s.f30 s.f31 s.f32 := by have _h := trivial; exact rfl
theorem own_e_nThreads (s : Q) (x : Int32) : s.s24 x = Q.mk s.f0 s.f1 s.f2 s.f3 s.f4 s.f5 s.f6 s.f7 s.f8 s.f9 s.f10 s.f11 s.f12 s.f13 s.f14 s.f15 s.f16 s.f17 s.f18 s.f19 s.f20 s.f21 s.f22 s.f23 x s.f25 s.f26 s.f27 s.f28 s.f29 s.f30 s.f31 s.f32 := by have _h := trivial; exact rfl
theorem own_e_cap (s : Q) (x : Int32) : s.s25 x = Q.mk s.f0 s.f1 s.f2 s.f3 s.f4 s.f5 s.f6 s.f7 s.f8 s.f9 s.f10 s.f11 s.f12 s.f13 s.f14 s.f15 s.f16 s.f17 s.f18 s.f19 s.f20 s.f21 s.f22 s.f23 s.f24 x s.f26 s.f27 s.f28 s.f29 s.f30 s.f31 s.f32 := by have _h := trivial; exact rfl
theorem own_e_mask (s : Q) (x : Int32) : s.s26 x = Q.mk s.f0 s.f1 s.f2 s.f3 s.f4 s.f5 s.f6 s.f7 s.f8 s.f9 s.f10 s.f11 s.f12 s.f13 s.f14 s.f15 s.f16 s.f17 s.f18 s.f19 s.f20 s.f21 s.f22 s.f23 s.f24 s.f25 x s.f27 s.f28 s.f29 s.f30 s.f31 s.f32 := by have _h := trivial; exact rfl
theorem own_e_head (s : Q) (x : Int32) : s.s27 x = Q.mk s.f0 s.f1 s.f2 s.f3 s.f4 s.f5 s.f6 s.f7 s.f8 s.f9 s.f10 s.f11 s.f12 s.f13 s.f14 s.f15 s.f16 s.f17 s.f18 s.f19 s.f20 s.f21 s.f22 s.f23 s.f24 s.f25 s.f26 x s.f28 s.f29 s.f30 s.f31 s.f32 := by have _h := trivial; exact rfl
theorem own_e_tail (s : Q) (x : Int32) : s.s28 x = Q.mk s.f0 s.f1 s.f2 s.f3 s.f4 s.f5 s.f6 s.f7 s.f8 s.f9 s.f10 s.f11 s.f12 s.f13 s.f14 s.f15 s.f16 s.f17 s.f18 s.f19 s.f20 s.f21 s.f22 s.f23 s.f24 s.f25 s.f26 s.f27 x s.f29 s.f30 s.f31 s.f32 := by have _h := trivial; exact rfl
theorem own_e_histLen (s : Q) (x : Int32) : s.s29 x = Q.mk s.f0 s.f1 s.f2 s.f3 s.f4 s.f5 s.f6 s.f7 s.f8 s.f9 s.f10 s.f11 s.f12 s.f13 s.f14 s.f15 s.f16 s.f17 s.f18 s.f19 s.f20 s.f21 s.f22 s.f23 s.f24 s.f25 s.f26 s.f27 s.f28 x s.f30 s.f31 s.f32 := by have _h := trivial; exact rfl
theorem own_e_snapLen (s : Q) (x : Int32) : s.s30 x = Q.mk s.f0 s.f1 s.f2 s.f3 s.f4 s.f5 s.f6 s.f7 s.f8 s.f9 s.f10 s.f11 s.f12 s.f13 s.f14 s.f15 s.f16 s.f17 s.f18 s.f19 s.f20 s.f21 s.f22 s.f23 s.f24 s.f25 s.f26 s.f27 s.f28 s.f29 x s.f31 s.f32 := by have _h := trivial; exact rfl
theorem own_e_opCount (s : Q) (x : Int32) : s.s31 x = Q.mk s.f0 s.f1 s.f2 s.f3 s.f4 s.f5 s.f6 s.f7 s.f8 s.f9 s.f10 s.f11 s.f12 s.f13 s.f14 s.f15 s.f16 s.f17 s.f18 s.f19 s.f20 s.f21 s.f22 s.f23 s.f24 s.f25 s.f26 s.f27 s.f28 s.f29 s.f30 x s.f32 := by have _h := trivial; exact rfl
theorem own_e_completeMask (s : Q) (x : Int32) : s.s32 x = Q.mk s.f0 s.f1 s.f2 s.f3 s.f4 s.f5 s.f6 s.f7 s.f8 s.f9 s.f10 s.f11 s.f12 s.f13 s.f14 s.f15 s.f16 s.f17 s.f18 s.f19 s.f20 s.f21 s.f22 s.f23 s.f24 s.f25 s.f26 s.f27 s.f28 s.f29 s.f30 s.f31 x := by have _h := trivial; exact rfl
theorem own_z_seq : Q0.f0 = List.replicate 8 0 := by have _h := trivial; exact rfl
theorem own_z_val : Q0.f1 = List.replicate 8 0 := by have _h := trivial; exact rfl
theorem own_z_st : Q0.f2 = List.replicate 4 0 := by have _h := trivial; exact rfl
theorem own_z_locP : Q0.f3 = List.replicate 4 0 := by have _h := trivial; exact rfl
theorem own_z_locV : Q0.f4 = List.replicate 4 0 := by have _h := trivial; exact rfl
theorem own_z_lastSt : Q0.f5 = List.replicate 4 0 := by have _h := trivial; exact rfl
theorem own_z_lastVal : Q0.f6 = List.replicate 4 0 := by have _h := trivial; exact rfl
theorem own_z_logKind : Q0.f7 = List.replicate 4 0 := by have _h := trivial; exact rfl
theorem own_z_evKind : Q0.f8 = List.replicate 64 0 := by have _h := trivial; exact rfl
theorem own_z_evThread : Q0.f9 = List.replicate 64 0 := by have _h := trivial; exact rfl
theorem own_z_evVal : Q0.f10 = List.replicate 64 0 := by have _h := trivial; exact rfl
theorem own_z_snap : Q0.f11 = List.replicate 8 0 := by have _h := trivial; exact rfl
theorem own_z_opKind : Q0.f12 = List.replicate 6 0 := by have _h := trivial; exact rfl
theorem own_z_opArg : Q0.f13 = List.replicate 6 0 := by have _h := trivial; exact rfl
theorem own_z_opInv : Q0.f14 = List.replicate 6 0 := by have _h := trivial; exact rfl
theorem own_z_opRes : Q0.f15 = List.replicate 6 0 := by have _h := trivial; exact rfl
theorem own_z_opStatus : Q0.f16 = List.replicate 6 0 := by have _h := trivial; exact rfl
theorem own_z_opRVal : Q0.f17 = List.replicate 6 0 := by have _h := trivial; exact rfl
theorem own_z_predMask : Q0.f18 = List.replicate 6 0 := by have _h := trivial; exact rfl
theorem own_z_openOp : Q0.f19 = List.replicate 4 0 := by have _h := trivial; exact rfl
theorem own_z_qBuf : Q0.f20 = List.replicate 56 0 := by have _h := trivial; exact rfl
theorem own_z_qLen : Q0.f21 = List.replicate 7 0 := by have _h := trivial; exact rfl
theorem own_z_nextCand : Q0.f22 = List.replicate 7 0 := by have _h := trivial; exact rfl
theorem own_z_chosen : Q0.f23 = List.replicate 7 0 := by have _h := trivial; exact rfl
theorem own_z_nThreads : Q0.f24 = (0:Int32) := by have _h := trivial; exact rfl
theorem own_z_cap : Q0.f25 = (0:Int32) := by have _h := trivial; exact rfl
theorem own_z_mask : Q0.f26 = (0:Int32) := by have _h := trivial; exact rfl
theorem own_z_head : Q0.f27 = (0:Int32) := by have _h := trivial; exact rfl
theorem own_z_tail : Q0.f28 = (0:Int32) := by have _h := trivial; exact rfl
theorem own_z_histLen : Q0.f29 = (0:Int32) := by have _h := trivial; exact rfl
theorem own_z_snapLen : Q0.f30 = (0:Int32) := by have _h := trivial; exact rfl
theorem own_z_opCount : Q0.f31 = (0:Int32) := by have _h := trivial; exact rfl
theorem own_z_completeMask : Q0.f32 = (0:Int32) := by have _h := trivial; exact rfl
def own_Qa := And.intro @own_f_seq (And.intro @own_e_seq (And.intro @own_z_seq (And.intro @own_f_val (And.intro @own_e_val (And.intro @own_z_val (And.intro @own_f_st (And.intro @own_e_st (And.intro @own_z_st (And.intro @own_f_locP (And.intro @own_e_locP (And.intro @own_z_locP (And.intro @own_f_locV (And.intro @own_e_locV (And.intro @own_z_locV (And.intro @own_f_lastSt (And.intro @own_e_lastSt (And.intro @own_z_lastSt (And.intro @own_f_lastVal (And.intro @own_e_lastVal (And.intro @own_z_lastVal (And.intro @own_f_logKind (And.intro @own_e_logKind (And.intro @own_z_logKind (And.intro @own_f_evKind (And.intro @own_e_evKind (And.intro @own_z_evKind (And.intro @own_f_evThread (And.intro @own_e_evThread (And.intro @own_z_evThread (And.intro @own_f_evVal (And.intro @own_e_evVal (And.intro @own_z_evVal (And.intro @own_f_snap (And.intro @own_e_snap (And.intro @own_z_snap (And.intro @own_f_opKind (And.intro @own_e_opKind (And.intro @own_z_opKind (And.intro @own_f_opArg (And.intro @own_e_opArg (And.intro @own_z_opArg (And.intro @own_f_opInv (And.intro @own_e_opInv (And.intro @own_z_opInv (And.intro @own_f_opRes (And.intro @own_e_opRes (And.intro @own_z_opRes (And.intro @own_f_opStatus (And.intro @own_e_opStatus (And.intro @own_z_opStatus (And.intro @own_f_opRVal (And.intro @own_e_opRVal (And.intro @own_z_opRVal (And.intro @own_f_predMask (And.intro @own_e_predMask (And.intro @own_z_predMask (And.intro @own_f_openOp (And.intro @own_e_openOp (And.intro @own_z_openOp (And.intro @own_f_qBuf (And.intro @own_e_qBuf (And.intro @own_z_qBuf (And.intro @own_f_qLen (And.intro @own_e_qLen (And.intro @own_z_qLen (And.intro @own_f_nextCand (And.intro @own_e_nextCand (And.intro @own_z_nextCand (And.intro @own_f_chosen (And.intro @own_e_chosen (And.intro @own_z_chosen (And.intro @own_f_nThreads (And.intro @own_e_nThreads (And.intro @own_z_nThreads (And.intro @own_f_cap (And.intro @own_e_cap (And.intro @own_z_cap (And.intro @own_f_mask (And.intro @own_e_mask (And.intro @own_z_mask (And.intro @own_f_head (And.intro @own_e_head (And.intro @own_z_head (And.intro @own_f_tail (And.intro @own_e_tail (And.intro @own_z_tail (And.intro @own_f_histLen (And.intro @own_e_histLen (And.intro @own_z_histLen (And.intro @own_f_snapLen (And.intro @own_e_snapLen (And.intro @own_z_snapLen (And.intro @own_f_opCount (And.intro @own_e_opCount (And.intro @own_z_opCount (And.intro @own_f_completeMask (And.intro @own_e_completeMask (@own_z_completeMask))))))))))))))))))))))))))))))))))))))))))))))))))))))))))))))))))))))))))))))))))))))))))))))))))
abbrev W0 (scr : List Int32) (R : AHeap) : AHeap := .inr (.inl (0, scr)) :: R
def own_cells1 (q0 q1 q2 q3 q4 q5 q6 q7 q8 q9 q10 q11 q12 q13 q14 q15 q16 q17 q18 q19 q20 q21 q22 q23 : List Int32) (q24 q25 : Int32) (q26 q27 : Int32) (q28 q29 : Int32) (q30 q31 q32 : Int32) (R : AHeap) : AHeap := .inl [.ref 2, .ref 3, .ref 4, .ref 5, .ref 6, .ref 7, .ref 8, .ref 9, .ref 10, .ref 11, .ref 12, .ref 13, .ref 14, .ref 15, .ref 16, .ref 17, .ref 18, .ref 19, .ref 20, .ref 21, .ref 22, .ref 23, .ref 24, .ref 25, .int q24, .int q25, .int q26, .int q27, .int q28, .int q29, .int q30, .int q31, .int q32] ::
  .inr (.inl (1, q0)) ::
  .inr (.inl (1, q1)) ::
  .inr (.inl (1, q2)) ::
  .inr (.inl (1, q3)) ::
  .inr (.inl (1, q4)) ::
  .inr (.inl (1, q5)) ::
  .inr (.inl (1, q6)) ::
  .inr (.inl (1, q7)) ::
  .inr (.inl (1, q8)) ::
  .inr (.inl (1, q9)) ::
  .inr (.inl (1, q10)) ::
  .inr (.inl (1, q11)) ::
  .inr (.inl (1, q12)) ::
  .inr (.inl (1, q13)) ::
  .inr (.inl (1, q14)) ::
  .inr (.inl (1, q15)) ::
  .inr (.inl (1, q16)) ::
  .inr (.inl (1, q17)) ::
  .inr (.inl (1, q18)) ::
  .inr (.inl (1, q19)) ::
  .inr (.inl (1, q20)) ::
  .inr (.inl (1, q21)) ::
  .inr (.inl (1, q22)) ::
  .inr (.inl (1, q23)) ::
  R
def C1 (scr q0 q1 q2 q3 q4 q5 q6 q7 q8 q9 q10 q11 q12 q13 q14 q15 q16 q17 q18 q19 q20 q21 q22 q23 : List Int32) (q24 q25 : Int32) (q26 q27 : Int32) (q28 q29 : Int32) (q30 q31 q32 : Int32) (R : AHeap) : AHeap := .inr (.inl (0, scr)) :: own_cells1 q0 q1 q2 q3 q4 q5 q6 q7 q8 q9 q10 q11 q12 q13 q14 q15 q16 q17 q18 q19 q20 q21 q22 q23 q24 q25 q26 q27 q28 q29 q30 q31 q32 R
abbrev W1 (scr : List Int32) (s : Q) (R : AHeap) : AHeap := C1 scr s.f0 s.f1 s.f2 s.f3 s.f4 s.f5 s.f6 s.f7 s.f8 s.f9 s.f10 s.f11 s.f12 s.f13 s.f14 s.f15 s.f16 s.f17 s.f18 s.f19 s.f20 s.f21 s.f22 s.f23 s.f24 s.f25 s.f26 s.f27 s.f28 s.f29 s.f30 s.f31 s.f32 R
theorem own_g1_seq : getC (C1 scr q0 q1 q2 q3 q4 q5 q6 q7 q8 q9 q10 q11 q12 q13 q14 q15 q16 q17 q18 q19 q20 q21 q22 q23 q24 q25 q26 q27 q28 q29 q30 q31 q32 R) 1 0 = some (.ref 2) := rfl
theorem own_a1_seq : (C1 scr q0 q1 q2 q3 q4 q5 q6 q7 q8 q9 q10 q11 q12 q13 q14 q15 q16 q17 q18 q19 q20 q21 q22 q23 q24 q25 q26 q27 q28 q29 q30 q31 q32 R)[2]? = some (.inr (.inl (1, q0))) := rfl
theorem own_s1_seq {x : List Int32} : (C1 scr q0 q1 q2 q3 q4 q5 q6 q7 q8 q9 q10 q11 q12 q13 q14 q15 q16 q17 q18 q19 q20 q21 q22 q23 q24 q25 q26 q27 q28 q29 q30 q31 q32 R).set 2 (.inr (.inl (1, x))) = (C1 scr x q1 q2 q3 q4 q5 q6 q7 q8 q9 q10 q11 q12 q13 q14 q15 q16 q17 q18 q19 q20 q21 q22 q23 q24 q25 q26 q27 q28 q29 q30 q31 q32 R) := rfl
theorem own_g1_val : getC (C1 scr q0 q1 q2 q3 q4 q5 q6 q7 q8 q9 q10 q11 q12 q13 q14 q15 q16 q17 q18 q19 q20 q21 q22 q23 q24 q25 q26 q27 q28 q29 q30 q31 q32 R) 1 1 = some (.ref 3) := rfl
theorem own_a1_val : (C1 scr q0 q1 q2 q3 q4 q5 q6 q7 q8 q9 q10 q11 q12 q13 q14 q15 q16 q17 q18 q19 q20 q21 q22 q23 q24 q25 q26 q27 q28 q29 q30 q31 q32 R)[3]? = some (.inr (.inl (1, q1))) := rfl
theorem own_s1_val {x : List Int32} : (C1 scr q0 q1 q2 q3 q4 q5 q6 q7 q8 q9 q10 q11 q12 q13 q14 q15 q16 q17 q18 q19 q20 q21 q22 q23 q24 q25 q26 q27 q28 q29 q30 q31 q32 R).set 3 (.inr (.inl (1, x))) = (C1 scr q0 x q2 q3 q4 q5 q6 q7 q8 q9 q10 q11 q12 q13 q14 q15 q16 q17 q18 q19 q20 q21 q22 q23 q24 q25 q26 q27 q28 q29 q30 q31 q32 R) := rfl
theorem own_g1_st : getC (C1 scr q0 q1 q2 q3 q4 q5 q6 q7 q8 q9 q10 q11 q12 q13 q14 q15 q16 q17 q18 q19 q20 q21 q22 q23 q24 q25 q26 q27 q28 q29 q30 q31 q32 R) 1 2 = some (.ref 4) := rfl
theorem own_a1_st : (C1 scr q0 q1 q2 q3 q4 q5 q6 q7 q8 q9 q10 q11 q12 q13 q14 q15 q16 q17 q18 q19 q20 q21 q22 q23 q24 q25 q26 q27 q28 q29 q30 q31 q32 R)[4]? = some (.inr (.inl (1, q2))) := rfl
theorem own_s1_st {x : List Int32} : (C1 scr q0 q1 q2 q3 q4 q5 q6 q7 q8 q9 q10 q11 q12 q13 q14 q15 q16 q17 q18 q19 q20 q21 q22 q23 q24 q25 q26 q27 q28 q29 q30 q31 q32 R).set 4 (.inr (.inl (1, x))) = (C1 scr q0 q1 x q3 q4 q5 q6 q7 q8 q9 q10 q11 q12 q13 q14 q15 q16 q17 q18 q19 q20 q21 q22 q23 q24 q25 q26 q27 q28 q29 q30 q31 q32 R) := rfl
theorem own_g1_locP : getC (C1 scr q0 q1 q2 q3 q4 q5 q6 q7 q8 q9 q10 q11 q12 q13 q14 q15 q16 q17 q18 q19 q20 q21 q22 q23 q24 q25 q26 q27 q28 q29 q30 q31 q32 R) 1 3 = some (.ref 5) := rfl
theorem own_a1_locP : (C1 scr q0 q1 q2 q3 q4 q5 q6 q7 q8 q9 q10 q11 q12 q13 q14 q15 q16 q17 q18 q19 q20 q21 q22 q23 q24 q25 q26 q27 q28 q29 q30 q31 q32 R)[5]? = some (.inr (.inl (1, q3))) := rfl
theorem own_s1_locP {x : List Int32} : (C1 scr q0 q1 q2 q3 q4 q5 q6 q7 q8 q9 q10 q11 q12 q13 q14 q15 q16 q17 q18 q19 q20 q21 q22 q23 q24 q25 q26 q27 q28 q29 q30 q31 q32 R).set 5 (.inr (.inl (1, x))) = (C1 scr q0 q1 q2 x q4 q5 q6 q7 q8 q9 q10 q11 q12 q13 q14 q15 q16 q17 q18 q19 q20 q21 q22 q23 q24 q25 q26 q27 q28 q29 q30 q31 q32 R) := rfl
theorem own_g1_locV : getC (C1 scr q0 q1 q2 q3 q4 q5 q6 q7 q8 q9 q10 q11 q12 q13 q14 q15 q16 q17 q18 q19 q20 q21 q22 q23 q24 q25 q26 q27 q28 q29 q30 q31 q32 R) 1 4 = some (.ref 6) := rfl
theorem own_a1_locV : (C1 scr q0 q1 q2 q3 q4 q5 q6 q7 q8 q9 q10 q11 q12 q13 q14 q15 q16 q17 q18 q19 q20 q21 q22 q23 q24 q25 q26 q27 q28 q29 q30 q31 q32 R)[6]? = some (.inr (.inl (1, q4))) := rfl
theorem own_s1_locV {x : List Int32} : (C1 scr q0 q1 q2 q3 q4 q5 q6 q7 q8 q9 q10 q11 q12 q13 q14 q15 q16 q17 q18 q19 q20 q21 q22 q23 q24 q25 q26 q27 q28 q29 q30 q31 q32 R).set 6 (.inr (.inl (1, x))) = (C1 scr q0 q1 q2 q3 x q5 q6 q7 q8 q9 q10 q11 q12 q13 q14 q15 q16 q17 q18 q19 q20 q21 q22 q23 q24 q25 q26 q27 q28 q29 q30 q31 q32 R) := rfl
theorem own_g1_lastSt : getC (C1 scr q0 q1 q2 q3 q4 q5 q6 q7 q8 q9 q10 q11 q12 q13 q14 q15 q16 q17 q18 q19 q20 q21 q22 q23 q24 q25 q26 q27 q28 q29 q30 q31 q32 R) 1 5 = some (.ref 7) := rfl
theorem own_a1_lastSt : (C1 scr q0 q1 q2 q3 q4 q5 q6 q7 q8 q9 q10 q11 q12 q13 q14 q15 q16 q17 q18 q19 q20 q21 q22 q23 q24 q25 q26 q27 q28 q29 q30 q31 q32 R)[7]? = some (.inr (.inl (1, q5))) := rfl
theorem own_s1_lastSt {x : List Int32} : (C1 scr q0 q1 q2 q3 q4 q5 q6 q7 q8 q9 q10 q11 q12 q13 q14 q15 q16 q17 q18 q19 q20 q21 q22 q23 q24 q25 q26 q27 q28 q29 q30 q31 q32 R).set 7 (.inr (.inl (1, x))) = (C1 scr q0 q1 q2 q3 q4 x q6 q7 q8 q9 q10 q11 q12 q13 q14 q15 q16 q17 q18 q19 q20 q21 q22 q23 q24 q25 q26 q27 q28 q29 q30 q31 q32 R) := rfl
theorem own_g1_lastVal : getC (C1 scr q0 q1 q2 q3 q4 q5 q6 q7 q8 q9 q10 q11 q12 q13 q14 q15 q16 q17 q18 q19 q20 q21 q22 q23 q24 q25 q26 q27 q28 q29 q30 q31 q32 R) 1 6 = some (.ref 8) := rfl
theorem own_a1_lastVal : (C1 scr q0 q1 q2 q3 q4 q5 q6 q7 q8 q9 q10 q11 q12 q13 q14 q15 q16 q17 q18 q19 q20 q21 q22 q23 q24 q25 q26 q27 q28 q29 q30 q31 q32 R)[8]? = some (.inr (.inl (1, q6))) := rfl
theorem own_s1_lastVal {x : List Int32} : (C1 scr q0 q1 q2 q3 q4 q5 q6 q7 q8 q9 q10 q11 q12 q13 q14 q15 q16 q17 q18 q19 q20 q21 q22 q23 q24 q25 q26 q27 q28 q29 q30 q31 q32 R).set 8 (.inr (.inl (1, x))) = (C1 scr q0 q1 q2 q3 q4 q5 x q7 q8 q9 q10 q11 q12 q13 q14 q15 q16 q17 q18 q19 q20 q21 q22 q23 q24 q25 q26 q27 q28 q29 q30 q31 q32 R) := rfl
theorem own_g1_logKind : getC (C1 scr q0 q1 q2 q3 q4 q5 q6 q7 q8 q9 q10 q11 q12 q13 q14 q15 q16 q17 q18 q19 q20 q21 q22 q23 q24 q25 q26 q27 q28 q29 q30 q31 q32 R) 1 7 = some (.ref 9) := rfl
theorem own_a1_logKind : (C1 scr q0 q1 q2 q3 q4 q5 q6 q7 q8 q9 q10 q11 q12 q13 q14 q15 q16 q17 q18 q19 q20 q21 q22 q23 q24 q25 q26 q27 q28 q29 q30 q31 q32 R)[9]? = some (.inr (.inl (1, q7))) := rfl
theorem own_s1_logKind {x : List Int32} : (C1 scr q0 q1 q2 q3 q4 q5 q6 q7 q8 q9 q10 q11 q12 q13 q14 q15 q16 q17 q18 q19 q20 q21 q22 q23 q24 q25 q26 q27 q28 q29 q30 q31 q32 R).set 9 (.inr (.inl (1, x))) = (C1 scr q0 q1 q2 q3 q4 q5 q6 x q8 q9 q10 q11 q12 q13 q14 q15 q16 q17 q18 q19 q20 q21 q22 q23 q24 q25 q26 q27 q28 q29 q30 q31 q32 R) := rfl
theorem own_g1_evKind : getC (C1 scr q0 q1 q2 q3 q4 q5 q6 q7 q8 q9 q10 q11 q12 q13 q14 q15 q16 q17 q18 q19 q20 q21 q22 q23 q24 q25 q26 q27 q28 q29 q30 q31 q32 R) 1 8 = some (.ref 10) := rfl
theorem own_a1_evKind : (C1 scr q0 q1 q2 q3 q4 q5 q6 q7 q8 q9 q10 q11 q12 q13 q14 q15 q16 q17 q18 q19 q20 q21 q22 q23 q24 q25 q26 q27 q28 q29 q30 q31 q32 R)[10]? = some (.inr (.inl (1, q8))) := rfl
theorem own_s1_evKind {x : List Int32} : (C1 scr q0 q1 q2 q3 q4 q5 q6 q7 q8 q9 q10 q11 q12 q13 q14 q15 q16 q17 q18 q19 q20 q21 q22 q23 q24 q25 q26 q27 q28 q29 q30 q31 q32 R).set 10 (.inr (.inl (1, x))) = (C1 scr q0 q1 q2 q3 q4 q5 q6 q7 x q9 q10 q11 q12 q13 q14 q15 q16 q17 q18 q19 q20 q21 q22 q23 q24 q25 q26 q27 q28 q29 q30 q31 q32 R) := rfl
theorem own_g1_evThread : getC (C1 scr q0 q1 q2 q3 q4 q5 q6 q7 q8 q9 q10 q11 q12 q13 q14 q15 q16 q17 q18 q19 q20 q21 q22 q23 q24 q25 q26 q27 q28 q29 q30 q31 q32 R) 1 9 = some (.ref 11) := rfl
theorem own_a1_evThread : (C1 scr q0 q1 q2 q3 q4 q5 q6 q7 q8 q9 q10 q11 q12 q13 q14 q15 q16 q17 q18 q19 q20 q21 q22 q23 q24 q25 q26 q27 q28 q29 q30 q31 q32 R)[11]? = some (.inr (.inl (1, q9))) := rfl
theorem own_s1_evThread {x : List Int32} : (C1 scr q0 q1 q2 q3 q4 q5 q6 q7 q8 q9 q10 q11 q12 q13 q14 q15 q16 q17 q18 q19 q20 q21 q22 q23 q24 q25 q26 q27 q28 q29 q30 q31 q32 R).set 11 (.inr (.inl (1, x))) = (C1 scr q0 q1 q2 q3 q4 q5 q6 q7 q8 x q10 q11 q12 q13 q14 q15 q16 q17 q18 q19 q20 q21 q22 q23 q24 q25 q26 q27 q28 q29 q30 q31 q32 R) := rfl
theorem own_g1_evVal : getC (C1 scr q0 q1 q2 q3 q4 q5 q6 q7 q8 q9 q10 q11 q12 q13 q14 q15 q16 q17 q18 q19 q20 q21 q22 q23 q24 q25 q26 q27 q28 q29 q30 q31 q32 R) 1 10 = some (.ref 12) := rfl
theorem own_a1_evVal : (C1 scr q0 q1 q2 q3 q4 q5 q6 q7 q8 q9 q10 q11 q12 q13 q14 q15 q16 q17 q18 q19 q20 q21 q22 q23 q24 q25 q26 q27 q28 q29 q30 q31 q32 R)[12]? = some (.inr (.inl (1, q10))) := rfl
theorem own_s1_evVal {x : List Int32} : (C1 scr q0 q1 q2 q3 q4 q5 q6 q7 q8 q9 q10 q11 q12 q13 q14 q15 q16 q17 q18 q19 q20 q21 q22 q23 q24 q25 q26 q27 q28 q29 q30 q31 q32 R).set 12 (.inr (.inl (1, x))) = (C1 scr q0 q1 q2 q3 q4 q5 q6 q7 q8 q9 x q11 q12 q13 q14 q15 q16 q17 q18 q19 q20 q21 q22 q23 q24 q25 q26 q27 q28 q29 q30 q31 q32 R) := rfl
theorem own_g1_snap : getC (C1 scr q0 q1 q2 q3 q4 q5 q6 q7 q8 q9 q10 q11 q12 q13 q14 q15 q16 q17 q18 q19 q20 q21 q22 q23 q24 q25 q26 q27 q28 q29 q30 q31 q32 R) 1 11 = some (.ref 13) := rfl
theorem own_a1_snap : (C1 scr q0 q1 q2 q3 q4 q5 q6 q7 q8 q9 q10 q11 q12 q13 q14 q15 q16 q17 q18 q19 q20 q21 q22 q23 q24 q25 q26 q27 q28 q29 q30 q31 q32 R)[13]? = some (.inr (.inl (1, q11))) := rfl
theorem own_s1_snap {x : List Int32} : (C1 scr q0 q1 q2 q3 q4 q5 q6 q7 q8 q9 q10 q11 q12 q13 q14 q15 q16 q17 q18 q19 q20 q21 q22 q23 q24 q25 q26 q27 q28 q29 q30 q31 q32 R).set 13 (.inr (.inl (1, x))) = (C1 scr q0 q1 q2 q3 q4 q5 q6 q7 q8 q9 q10 x q12 q13 q14 q15 q16 q17 q18 q19 q20 q21 q22 q23 q24 q25 q26 q27 q28 q29 q30 q31 q32 R) := rfl
theorem own_g1_opKind : getC (C1 scr q0 q1 q2 q3 q4 q5 q6 q7 q8 q9 q10 q11 q12 q13 q14 q15 q16 q17 q18 q19 q20 q21 q22 q23 q24 q25 q26 q27 q28 q29 q30 q31 q32 R) 1 12 = some (.ref 14) := rfl
theorem own_a1_opKind : (C1 scr q0 q1 q2 q3 q4 q5 q6 q7 q8 q9 q10 q11 q12 q13 q14 q15 q16 q17 q18 q19 q20 q21 q22 q23 q24 q25 q26 q27 q28 q29 q30 q31 q32 R)[14]? = some (.inr (.inl (1, q12))) := rfl
theorem own_s1_opKind {x : List Int32} : (C1 scr q0 q1 q2 q3 q4 q5 q6 q7 q8 q9 q10 q11 q12 q13 q14 q15 q16 q17 q18 q19 q20 q21 q22 q23 q24 q25 q26 q27 q28 q29 q30 q31 q32 R).set 14 (.inr (.inl (1, x))) = (C1 scr q0 q1 q2 q3 q4 q5 q6 q7 q8 q9 q10 q11 x q13 q14 q15 q16 q17 q18 q19 q20 q21 q22 q23 q24 q25 q26 q27 q28 q29 q30 q31 q32 R) := rfl
theorem own_g1_opArg : getC (C1 scr q0 q1 q2 q3 q4 q5 q6 q7 q8 q9 q10 q11 q12 q13 q14 q15 q16 q17 q18 q19 q20 q21 q22 q23 q24 q25 q26 q27 q28 q29 q30 q31 q32 R) 1 13 = some (.ref 15) := rfl
theorem own_a1_opArg : (C1 scr q0 q1 q2 q3 q4 q5 q6 q7 q8 q9 q10 q11 q12 q13 q14 q15 q16 q17 q18 q19 q20 q21 q22 q23 q24 q25 q26 q27 q28 q29 q30 q31 q32 R)[15]? = some (.inr (.inl (1, q13))) := rfl
theorem own_s1_opArg {x : List Int32} : (C1 scr q0 q1 q2 q3 q4 q5 q6 q7 q8 q9 q10 q11 q12 q13 q14 q15 q16 q17 q18 q19 q20 q21 q22 q23 q24 q25 q26 q27 q28 q29 q30 q31 q32 R).set 15 (.inr (.inl (1, x))) = (C1 scr q0 q1 q2 q3 q4 q5 q6 q7 q8 q9 q10 q11 q12 x q14 q15 q16 q17 q18 q19 q20 q21 q22 q23 q24 q25 q26 q27 q28 q29 q30 q31 q32 R) := rfl
theorem own_g1_opInv : getC (C1 scr q0 q1 q2 q3 q4 q5 q6 q7 q8 q9 q10 q11 q12 q13 q14 q15 q16 q17 q18 q19 q20 q21 q22 q23 q24 q25 q26 q27 q28 q29 q30 q31 q32 R) 1 14 = some (.ref 16) := rfl
theorem own_a1_opInv : (C1 scr q0 q1 q2 q3 q4 q5 q6 q7 q8 q9 q10 q11 q12 q13 q14 q15 q16 q17 q18 q19 q20 q21 q22 q23 q24 q25 q26 q27 q28 q29 q30 q31 q32 R)[16]? = some (.inr (.inl (1, q14))) := rfl
theorem own_s1_opInv {x : List Int32} : (C1 scr q0 q1 q2 q3 q4 q5 q6 q7 q8 q9 q10 q11 q12 q13 q14 q15 q16 q17 q18 q19 q20 q21 q22 q23 q24 q25 q26 q27 q28 q29 q30 q31 q32 R).set 16 (.inr (.inl (1, x))) = (C1 scr q0 q1 q2 q3 q4 q5 q6 q7 q8 q9 q10 q11 q12 q13 x q15 q16 q17 q18 q19 q20 q21 q22 q23 q24 q25 q26 q27 q28 q29 q30 q31 q32 R) := rfl
theorem own_g1_opRes : getC (C1 scr q0 q1 q2 q3 q4 q5 q6 q7 q8 q9 q10 q11 q12 q13 q14 q15 q16 q17 q18 q19 q20 q21 q22 q23 q24 q25 q26 q27 q28 q29 q30 q31 q32 R) 1 15 = some (.ref 17) := rfl
theorem own_a1_opRes : (C1 scr q0 q1 q2 q3 q4 q5 q6 q7 q8 q9 q10 q11 q12 q13 q14 q15 q16 q17 q18 q19 q20 q21 q22 q23 q24 q25 q26 q27 q28 q29 q30 q31 q32 R)[17]? = some (.inr (.inl (1, q15))) := rfl
theorem own_s1_opRes {x : List Int32} : (C1 scr q0 q1 q2 q3 q4 q5 q6 q7 q8 q9 q10 q11 q12 q13 q14 q15 q16 q17 q18 q19 q20 q21 q22 q23 q24 q25 q26 q27 q28 q29 q30 q31 q32 R).set 17 (.inr (.inl (1, x))) = (C1 scr q0 q1 q2 q3 q4 q5 q6 q7 q8 q9 q10 q11 q12 q13 q14 x q16 q17 q18 q19 q20 q21 q22 q23 q24 q25 q26 q27 q28 q29 q30 q31 q32 R) := rfl
theorem own_g1_opStatus : getC (C1 scr q0 q1 q2 q3 q4 q5 q6 q7 q8 q9 q10 q11 q12 q13 q14 q15 q16 q17 q18 q19 q20 q21 q22 q23 q24 q25 q26 q27 q28 q29 q30 q31 q32 R) 1 16 = some (.ref 18) := rfl
theorem own_a1_opStatus : (C1 scr q0 q1 q2 q3 q4 q5 q6 q7 q8 q9 q10 q11 q12 q13 q14 q15 q16 q17 q18 q19 q20 q21 q22 q23 q24 q25 q26 q27 q28 q29 q30 q31 q32 R)[18]? = some (.inr (.inl (1, q16))) := rfl
theorem own_s1_opStatus {x : List Int32} : (C1 scr q0 q1 q2 q3 q4 q5 q6 q7 q8 q9 q10 q11 q12 q13 q14 q15 q16 q17 q18 q19 q20 q21 q22 q23 q24 q25 q26 q27 q28 q29 q30 q31 q32 R).set 18 (.inr (.inl (1, x))) = (C1 scr q0 q1 q2 q3 q4 q5 q6 q7 q8 q9 q10 q11 q12 q13 q14 q15 x q17 q18 q19 q20 q21 q22 q23 q24 q25 q26 q27 q28 q29 q30 q31 q32 R) := rfl
theorem own_g1_opRVal : getC (C1 scr q0 q1 q2 q3 q4 q5 q6 q7 q8 q9 q10 q11 q12 q13 q14 q15 q16 q17 q18 q19 q20 q21 q22 q23 q24 q25 q26 q27 q28 q29 q30 q31 q32 R) 1 17 = some (.ref 19) := rfl
theorem own_a1_opRVal : (C1 scr q0 q1 q2 q3 q4 q5 q6 q7 q8 q9 q10 q11 q12 q13 q14 q15 q16 q17 q18 q19 q20 q21 q22 q23 q24 q25 q26 q27 q28 q29 q30 q31 q32 R)[19]? = some (.inr (.inl (1, q17))) := rfl
theorem own_s1_opRVal {x : List Int32} : (C1 scr q0 q1 q2 q3 q4 q5 q6 q7 q8 q9 q10 q11 q12 q13 q14 q15 q16 q17 q18 q19 q20 q21 q22 q23 q24 q25 q26 q27 q28 q29 q30 q31 q32 R).set 19 (.inr (.inl (1, x))) = (C1 scr q0 q1 q2 q3 q4 q5 q6 q7 q8 q9 q10 q11 q12 q13 q14 q15 q16 x q18 q19 q20 q21 q22 q23 q24 q25 q26 q27 q28 q29 q30 q31 q32 R) := rfl
theorem own_g1_predMask : getC (C1 scr q0 q1 q2 q3 q4 q5 q6 q7 q8 q9 q10 q11 q12 q13 q14 q15 q16 q17 q18 q19 q20 q21 q22 q23 q24 q25 q26 q27 q28 q29 q30 q31 q32 R) 1 18 = some (.ref 20) := rfl
theorem own_a1_predMask : (C1 scr q0 q1 q2 q3 q4 q5 q6 q7 q8 q9 q10 q11 q12 q13 q14 q15 q16 q17 q18 q19 q20 q21 q22 q23 q24 q25 q26 q27 q28 q29 q30 q31 q32 R)[20]? = some (.inr (.inl (1, q18))) := rfl
theorem own_s1_predMask {x : List Int32} : (C1 scr q0 q1 q2 q3 q4 q5 q6 q7 q8 q9 q10 q11 q12 q13 q14 q15 q16 q17 q18 q19 q20 q21 q22 q23 q24 q25 q26 q27 q28 q29 q30 q31 q32 R).set 20 (.inr (.inl (1, x))) = (C1 scr q0 q1 q2 q3 q4 q5 q6 q7 q8 q9 q10 q11 q12 q13 q14 q15 q16 q17 x q19 q20 q21 q22 q23 q24 q25 q26 q27 q28 q29 q30 q31 q32 R) := rfl
theorem own_g1_openOp : getC (C1 scr q0 q1 q2 q3 q4 q5 q6 q7 q8 q9 q10 q11 q12 q13 q14 q15 q16 q17 q18 q19 q20 q21 q22 q23 q24 q25 q26 q27 q28 q29 q30 q31 q32 R) 1 19 = some (.ref 21) := rfl
theorem own_a1_openOp : (C1 scr q0 q1 q2 q3 q4 q5 q6 q7 q8 q9 q10 q11 q12 q13 q14 q15 q16 q17 q18 q19 q20 q21 q22 q23 q24 q25 q26 q27 q28 q29 q30 q31 q32 R)[21]? = some (.inr (.inl (1, q19))) := rfl
theorem own_s1_openOp {x : List Int32} : (C1 scr q0 q1 q2 q3 q4 q5 q6 q7 q8 q9 q10 q11 q12 q13 q14 q15 q16 q17 q18 q19 q20 q21 q22 q23 q24 q25 q26 q27 q28 q29 q30 q31 q32 R).set 21 (.inr (.inl (1, x))) = (C1 scr q0 q1 q2 q3 q4 q5 q6 q7 q8 q9 q10 q11 q12 q13 q14 q15 q16 q17 q18 x q20 q21 q22 q23 q24 q25 q26 q27 q28 q29 q30 q31 q32 R) := rfl
theorem own_g1_qBuf : getC (C1 scr q0 q1 q2 q3 q4 q5 q6 q7 q8 q9 q10 q11 q12 q13 q14 q15 q16 q17 q18 q19 q20 q21 q22 q23 q24 q25 q26 q27 q28 q29 q30 q31 q32 R) 1 20 = some (.ref 22) := rfl
theorem own_a1_qBuf : (C1 scr q0 q1 q2 q3 q4 q5 q6 q7 q8 q9 q10 q11 q12 q13 q14 q15 q16 q17 q18 q19 q20 q21 q22 q23 q24 q25 q26 q27 q28 q29 q30 q31 q32 R)[22]? = some (.inr (.inl (1, q20))) := rfl
theorem own_s1_qBuf {x : List Int32} : (C1 scr q0 q1 q2 q3 q4 q5 q6 q7 q8 q9 q10 q11 q12 q13 q14 q15 q16 q17 q18 q19 q20 q21 q22 q23 q24 q25 q26 q27 q28 q29 q30 q31 q32 R).set 22 (.inr (.inl (1, x))) = (C1 scr q0 q1 q2 q3 q4 q5 q6 q7 q8 q9 q10 q11 q12 q13 q14 q15 q16 q17 q18 q19 x q21 q22 q23 q24 q25 q26 q27 q28 q29 q30 q31 q32 R) := rfl
theorem own_g1_qLen : getC (C1 scr q0 q1 q2 q3 q4 q5 q6 q7 q8 q9 q10 q11 q12 q13 q14 q15 q16 q17 q18 q19 q20 q21 q22 q23 q24 q25 q26 q27 q28 q29 q30 q31 q32 R) 1 21 = some (.ref 23) := rfl
theorem own_a1_qLen : (C1 scr q0 q1 q2 q3 q4 q5 q6 q7 q8 q9 q10 q11 q12 q13 q14 q15 q16 q17 q18 q19 q20 q21 q22 q23 q24 q25 q26 q27 q28 q29 q30 q31 q32 R)[23]? = some (.inr (.inl (1, q21))) := rfl
theorem own_s1_qLen {x : List Int32} : (C1 scr q0 q1 q2 q3 q4 q5 q6 q7 q8 q9 q10 q11 q12 q13 q14 q15 q16 q17 q18 q19 q20 q21 q22 q23 q24 q25 q26 q27 q28 q29 q30 q31 q32 R).set 23 (.inr (.inl (1, x))) = (C1 scr q0 q1 q2 q3 q4 q5 q6 q7 q8 q9 q10 q11 q12 q13 q14 q15 q16 q17 q18 q19 q20 x q22 q23 q24 q25 q26 q27 q28 q29 q30 q31 q32 R) := rfl
theorem own_g1_nextCand : getC (C1 scr q0 q1 q2 q3 q4 q5 q6 q7 q8 q9 q10 q11 q12 q13 q14 q15 q16 q17 q18 q19 q20 q21 q22 q23 q24 q25 q26 q27 q28 q29 q30 q31 q32 R) 1 22 = some (.ref 24) := rfl
theorem own_a1_nextCand : (C1 scr q0 q1 q2 q3 q4 q5 q6 q7 q8 q9 q10 q11 q12 q13 q14 q15 q16 q17 q18 q19 q20 q21 q22 q23 q24 q25 q26 q27 q28 q29 q30 q31 q32 R)[24]? = some (.inr (.inl (1, q22))) := rfl
theorem own_s1_nextCand {x : List Int32} : (C1 scr q0 q1 q2 q3 q4 q5 q6 q7 q8 q9 q10 q11 q12 q13 q14 q15 q16 q17 q18 q19 q20 q21 q22 q23 q24 q25 q26 q27 q28 q29 q30 q31 q32 R).set 24 (.inr (.inl (1, x))) = (C1 scr q0 q1 q2 q3 q4 q5 q6 q7 q8 q9 q10 q11 q12 q13 q14 q15 q16 q17 q18 q19 q20 q21 x q23 q24 q25 q26 q27 q28 q29 q30 q31 q32 R) := rfl
theorem own_g1_chosen : getC (C1 scr q0 q1 q2 q3 q4 q5 q6 q7 q8 q9 q10 q11 q12 q13 q14 q15 q16 q17 q18 q19 q20 q21 q22 q23 q24 q25 q26 q27 q28 q29 q30 q31 q32 R) 1 23 = some (.ref 25) := rfl
theorem own_a1_chosen : (C1 scr q0 q1 q2 q3 q4 q5 q6 q7 q8 q9 q10 q11 q12 q13 q14 q15 q16 q17 q18 q19 q20 q21 q22 q23 q24 q25 q26 q27 q28 q29 q30 q31 q32 R)[25]? = some (.inr (.inl (1, q23))) := rfl
theorem own_s1_chosen {x : List Int32} : (C1 scr q0 q1 q2 q3 q4 q5 q6 q7 q8 q9 q10 q11 q12 q13 q14 q15 q16 q17 q18 q19 q20 q21 q22 q23 q24 q25 q26 q27 q28 q29 q30 q31 q32 R).set 25 (.inr (.inl (1, x))) = (C1 scr q0 q1 q2 q3 q4 q5 q6 q7 q8 q9 q10 q11 q12 q13 q14 q15 q16 q17 q18 q19 q20 q21 q22 x q24 q25 q26 q27 q28 q29 q30 q31 q32 R) := rfl
theorem own_g1_nThreads : getC (C1 scr q0 q1 q2 q3 q4 q5 q6 q7 q8 q9 q10 q11 q12 q13 q14 q15 q16 q17 q18 q19 q20 q21 q22 q23 q24 q25 q26 q27 q28 q29 q30 q31 q32 R) 1 24 = some (.int q24) := rfl
theorem own_p1_nThreads {k : Nat} {x : Int32} : putC own_P k (C1 scr q0 q1 q2 q3 q4 q5 q6 q7 q8 q9 q10 q11 q12 q13 q14 q15 q16 q17 q18 q19 q20 q21 q22 q23 q24 q25 q26 q27 q28 q29 q30 q31 q32 R) 1 24 (.int x) = some (C1 scr q0 q1 q2 q3 q4 q5 q6 q7 q8 q9 q10 q11 q12 q13 q14 q15 q16 q17 q18 q19 q20 q21 q22 q23 x q25 q26 q27 q28 q29 q30 q31 q32 R) := rfl
theorem own_g1_cap : getC (C1 scr q0 q1 q2 q3 q4 q5 q6 q7 q8 q9 q10 q11 q12 q13 q14 q15 q16 q17 q18 q19 q20 q21 q22 q23 q24 q25 q26 q27 q28 q29 q30 q31 q32 R) 1 25 = some (.int q25) := rfl
theorem own_p1_cap {k : Nat} {x : Int32} : putC own_P k (C1 scr q0 q1 q2 q3 q4 q5 q6 q7 q8 q9 q10 q11 q12 q13 q14 q15 q16 q17 q18 q19 q20 q21 q22 q23 q24 q25 q26 q27 q28 q29 q30 q31 q32 R) 1 25 (.int x) = some (C1 scr q0 q1 q2 q3 q4 q5 q6 q7 q8 q9 q10 q11 q12 q13 q14 q15 q16 q17 q18 q19 q20 q21 q22 q23 q24 x q26 q27 q28 q29 q30 q31 q32 R) := rfl
theorem own_g1_mask : getC (C1 scr q0 q1 q2 q3 q4 q5 q6 q7 q8 q9 q10 q11 q12 q13 q14 q15 q16 q17 q18 q19 q20 q21 q22 q23 q24 q25 q26 q27 q28 q29 q30 q31 q32 R) 1 26 = some (.int q26) := rfl
theorem own_p1_mask {k : Nat} {x : Int32} : putC own_P k (C1 scr q0 q1 q2 q3 q4 q5 q6 q7 q8 q9 q10 q11 q12 q13 q14 q15 q16 q17 q18 q19 q20 q21 q22 q23 q24 q25 q26 q27 q28 q29 q30 q31 q32 R) 1 26 (.int x) = some (C1 scr q0 q1 q2 q3 q4 q5 q6 q7 q8 q9 q10 q11 q12 q13 q14 q15 q16 q17 q18 q19 q20 q21 q22 q23 q24 q25 x q27 q28 q29 q30 q31 q32 R) := rfl
theorem own_g1_head : getC (C1 scr q0 q1 q2 q3 q4 q5 q6 q7 q8 q9 q10 q11 q12 q13 q14 q15 q16 q17 q18 q19 q20 q21 q22 q23 q24 q25 q26 q27 q28 q29 q30 q31 q32 R) 1 27 = some (.int q27) := rfl
theorem own_p1_head {k : Nat} {x : Int32} : putC own_P k (C1 scr q0 q1 q2 q3 q4 q5 q6 q7 q8 q9 q10 q11 q12 q13 q14 q15 q16 q17 q18 q19 q20 q21 q22 q23 q24 q25 q26 q27 q28 q29 q30 q31 q32 R) 1 27 (.int x) = some (C1 scr q0 q1 q2 q3 q4 q5 q6 q7 q8 q9 q10 q11 q12 q13 q14 q15 q16 q17 q18 q19 q20 q21 q22 q23 q24 q25 q26 x q28 q29 q30 q31 q32 R) := rfl
theorem own_g1_tail : getC (C1 scr q0 q1 q2 q3 q4 q5 q6 q7 q8 q9 q10 q11 q12 q13 q14 q15 q16 q17 q18 q19 q20 q21 q22 q23 q24 q25 q26 q27 q28 q29 q30 q31 q32 R) 1 28 = some (.int q28) := rfl
theorem own_p1_tail {k : Nat} {x : Int32} : putC own_P k (C1 scr q0 q1 q2 q3 q4 q5 q6 q7 q8 q9 q10 q11 q12 q13 q14 q15 q16 q17 q18 q19 q20 q21 q22 q23 q24 q25 q26 q27 q28 q29 q30 q31 q32 R) 1 28 (.int x) = some (C1 scr q0 q1 q2 q3 q4 q5 q6 q7 q8 q9 q10 q11 q12 q13 q14 q15 q16 q17 q18 q19 q20 q21 q22 q23 q24 q25 q26 q27 x q29 q30 q31 q32 R) := rfl
theorem own_g1_histLen : getC (C1 scr q0 q1 q2 q3 q4 q5 q6 q7 q8 q9 q10 q11 q12 q13 q14 q15 q16 q17 q18 q19 q20 q21 q22 q23 q24 q25 q26 q27 q28 q29 q30 q31 q32 R) 1 29 = some (.int q29) := rfl
theorem own_p1_histLen {k : Nat} {x : Int32} : putC own_P k (C1 scr q0 q1 q2 q3 q4 q5 q6 q7 q8 q9 q10 q11 q12 q13 q14 q15 q16 q17 q18 q19 q20 q21 q22 q23 q24 q25 q26 q27 q28 q29 q30 q31 q32 R) 1 29 (.int x) = some (C1 scr q0 q1 q2 q3 q4 q5 q6 q7 q8 q9 q10 q11 q12 q13 q14 q15 q16 q17 q18 q19 q20 q21 q22 q23 q24 q25 q26 q27 q28 x q30 q31 q32 R) := rfl
theorem own_g1_snapLen : getC (C1 scr q0 q1 q2 q3 q4 q5 q6 q7 q8 q9 q10 q11 q12 q13 q14 q15 q16 q17 q18 q19 q20 q21 q22 q23 q24 q25 q26 q27 q28 q29 q30 q31 q32 R) 1 30 = some (.int q30) := rfl
theorem own_p1_snapLen {k : Nat} {x : Int32} : putC own_P k (C1 scr q0 q1 q2 q3 q4 q5 q6 q7 q8 q9 q10 q11 q12 q13 q14 q15 q16 q17 q18 q19 q20 q21 q22 q23 q24 q25 q26 q27 q28 q29 q30 q31 q32 R) 1 30 (.int x) = some (C1 scr q0 q1 q2 q3 q4 q5 q6 q7 q8 q9 q10 q11 q12 q13 q14 q15 q16 q17 q18 q19 q20 q21 q22 q23 q24 q25 q26 q27 q28 q29 x q31 q32 R) := rfl
theorem own_g1_opCount : getC (C1 scr q0 q1 q2 q3 q4 q5 q6 q7 q8 q9 q10 q11 q12 q13 q14 q15 q16 q17 q18 q19 q20 q21 q22 q23 q24 q25 q26 q27 q28 q29 q30 q31 q32 R) 1 31 = some (.int q31) := rfl
theorem own_p1_opCount {k : Nat} {x : Int32} : putC own_P k (C1 scr q0 q1 q2 q3 q4 q5 q6 q7 q8 q9 q10 q11 q12 q13 q14 q15 q16 q17 q18 q19 q20 q21 q22 q23 q24 q25 q26 q27 q28 q29 q30 q31 q32 R) 1 31 (.int x) = some (C1 scr q0 q1 q2 q3 q4 q5 q6 q7 q8 q9 q10 q11 q12 q13 q14 q15 q16 q17 q18 q19 q20 q21 q22 q23 q24 q25 q26 q27 q28 q29 q30 x q32 R) := rfl
theorem own_g1_completeMask : getC (C1 scr q0 q1 q2 q3 q4 q5 q6 q7 q8 q9 q10 q11 q12 q13 q14 q15 q16 q17 q18 q19 q20 q21 q22 q23 q24 q25 q26 q27 q28 q29 q30 q31 q32 R) 1 32 = some (.int q32) := rfl
theorem own_p1_completeMask {k : Nat} {x : Int32} : putC own_P k (C1 scr q0 q1 q2 q3 q4 q5 q6 q7 q8 q9 q10 q11 q12 q13 q14 q15 q16 q17 q18 q19 q20 q21 q22 q23 q24 q25 q26 q27 q28 q29 q30 q31 q32 R) 1 32 (.int x) = some (C1 scr q0 q1 q2 q3 q4 q5 q6 q7 q8 q9 q10 q11 q12 q13 q14 q15 q16 q17 q18 q19 q20 q21 q22 q23 q24 q25 q26 q27 q28 q29 q30 q31 x R) := rfl
end own_vs
def Q.len (s : Q) : List Nat := [s.f0.length, s.f1.length, s.f2.length, s.f3.length, s.f4.length, s.f5.length, s.f6.length, s.f7.length, s.f8.length, s.f9.length, s.f10.length, s.f11.length, s.f12.length, s.f13.length, s.f14.length, s.f15.length, s.f16.length, s.f17.length, s.f18.length, s.f19.length, s.f20.length, s.f21.length, s.f22.length, s.f23.length]
theorem own_lenmk {q0 q1 q2 q3 q4 q5 q6 q7 q8 q9 q10 q11 q12 q13 q14 q15 q16 q17 q18 q19 q20 q21 q22 q23 : List Int32} {q24 q25 q26 q27 q28 q29 q30 q31 q32 : Int32} : (Q.mk q0 q1 q2 q3 q4 q5 q6 q7 q8 q9 q10 q11 q12 q13 q14 q15 q16 q17 q18 q19 q20 q21 q22 q23 q24 q25 q26 q27 q28 q29 q30 q31 q32).len = [q0.length, q1.length, q2.length, q3.length, q4.length, q5.length, q6.length, q7.length, q8.length, q9.length, q10.length, q11.length, q12.length, q13.length, q14.length, q15.length, q16.length, q17.length, q18.length, q19.length, q20.length, q21.length, q22.length, q23.length] := by have _h := trivial; exact rfl
theorem own_objN : own_P.objN = 33 := rfl
theorem own_mk1 {scr q0 q1 q2 q3 q4 q5 q6 q7 q8 q9 q10 q11 q12 q13 q14 q15 q16 q17 q18 q19 q20 q21 q22 q23 : List Int32} {q24 q25 q26 q27 q28 q29 q30 q31 q32 : Int32} {R : AHeap} : W1 scr (Q.mk q0 q1 q2 q3 q4 q5 q6 q7 q8 q9 q10 q11 q12 q13 q14 q15 q16 q17 q18 q19 q20 q21 q22 q23 q24 q25 q26 q27 q28 q29 q30 q31 q32) R = C1 scr q0 q1 q2 q3 q4 q5 q6 q7 q8 q9 q10 q11 q12 q13 q14 q15 q16 q17 q18 q19 q20 q21 q22 q23 q24 q25 q26 q27 q28 q29 q30 q31 q32 R := rfl
def h_cell (scr : List Int32) (v1 : Int32) : Option (Int32) := (if v1 < (Nat.toInt32 scr.length) then (if inb scr.length v1 = true then some ((rd scr v1)) else none) else some ((0:Int32)))
set_option maxRecDepth 100000 in
theorem ev_h_cell (R : AHeap) (scr : List Int32) (v1 : Int32) {res : Int32} {out : Option Value × AHeap} (h : h_cell scr v1 = some res) (hk : out = (some (.int res), (W0 scr R))) : Eval own_P 1 0 [some (.ref 0), some (.int v1)] [] (W0 scr R) out := by
 rw [h_cell] at h
 refine Eval.iload_n rfl rfl ?_
 refine Eval.aload_n rfl rfl ?_
 refine Eval.alenI (xs := scr) rfl rfl ?_
 by_cases hc1 : v1 < (Nat.toInt32 scr.length)
 ·rw [if_pos hc1] at h
  refine Eval.icmpF rfl (tlt hc1).2.1 ?_
  refine Eval.aload_n rfl rfl ?_
  refine Eval.iload_n rfl rfl ?_
  obtain ⟨hb2, h⟩ := ite_some h
  refine Eval.iaload0 (xs := scr) rfl rfl hb2 ?_
  refine Eval.goto (t := 13) rfl rfl ?_
  cases h
  subst hk
  exact Eval.ret rfl rfl
 ·rw [if_neg hc1] at h
  refine Eval.icmpT (t := 12) rfl rfl (flt hc1).2.1 ?_
  refine Eval.iconst (x := 0) rfl rfl ?_
  cases h
  subst hk
  exact Eval.ret rfl rfl
def j_clamp (v1 v2 v3 : Int32) : Int32 := (if v1 < v2 then (v2) else (if v3 < v1 then (v3) else (v1)))
set_option maxRecDepth 100000 in
theorem ev_j_clamp (H : AHeap) (a : Nat) (v1 v2 v3 : Int32) {res : Int32} {out : Option Value × AHeap} (h : j_clamp v1 v2 v3 = res) (hk : out = (some (.int res), H)) : Eval own_P 3 0 [some (.ref a), some (.int v1), some (.int v2), some (.int v3)] [] H out := by
 rw [j_clamp] at h
 refine Eval.iload_n rfl rfl ?_
 refine Eval.iload_n rfl rfl ?_
 by_cases hc9 : v1 < v2
 ·rw [if_pos hc9] at h
  refine Eval.icmpF rfl (tlt hc9).2.1 ?_
  refine Eval.iload_n rfl rfl ?_
  subst h
  subst hk
  exact Eval.ret rfl rfl
 ·rw [if_neg hc9] at h
  refine Eval.icmpT (t := 7) rfl rfl (flt hc9).2.1 ?_
  refine Eval.iload_n rfl rfl ?_
  refine Eval.iload_n rfl rfl ?_
  by_cases hc10 : v3 < v1
  ·rw [if_pos hc10] at h
   refine Eval.icmpF rfl (tlt hc10).2.2.2 ?_
   refine Eval.iload_n rfl rfl ?_
   subst h
   subst hk
   exact Eval.ret rfl rfl
  ·rw [if_neg hc10] at h
   refine Eval.icmpT (t := 14) rfl rfl (flt hc10).2.2.2 ?_
   refine Eval.iload_n rfl rfl ?_
   subst h
   subst hk
   exact Eval.ret rfl rfl
abbrev j_init_l259_K (scr : List Int32) (res : (Q) ⊕ (Q)) (out : Option Value × AHeap) : Prop := Sum.elim (fun res => Eval own_P 2 275 [some (.ref 1), none, none, none, none, none, none, none] [] (W1 scr res []) out) (fun res => Eval own_P 2 304 [some (.ref 1), none, none, none, none, none, none, none] [] (W1 scr res []) out) res

abbrev j_init_l259_N (s : Q) (res : (Q) ⊕ (Q)) : Prop := Sum.elim (fun res => Q.len res = Q.len s) (fun res => Q.len res = Q.len s) res
def j_init_l259 : Nat → Q → Int32 → Int32 → Option ((Q) ⊕ (Q))
  | 0, _, _, _ => none
  | n + 1, s, v6, v7 => (if v7 < (8:Int32) then (if v7 < s.f25 then (if inb s.f0.length ((v6 + v7) &&& s.f26) = true then (j_init_l259 n (Q.mk (wr s.f0 ((v6 + v7) &&& s.f26) (v6 + v7)) s.f1 s.f2 s.f3 s.f4 s.f5 s.f6 s.f7 s.f8 s.f9 s.f10 s.f11 s.f12 s.f13 s.f14 s.f15 s.f16 s.f17 s.f18 s.f19 s.f20 s.f21 s.f22 s.f23 s.f24 s.f25 s.f26 s.f27 s.f28 s.f29 s.f30 s.f31 s.f32) v6 (v7 + (1:Int32))) else none) else some (.inl (s))) else some (.inr (s)))
set_option maxRecDepth 100000 in
theorem ev_j_init_l259 (scr : List Int32) : ∀ (n : Nat) (s : Q) (v6 v7 : Int32) {res : (Q) ⊕ (Q)} {out : Option Value × AHeap}, j_init_l259 n s v6 v7 = some res → j_init_l259_K scr res out → Eval own_P 2 259 [some (.ref 1), none, none, none, none, none, some (.int v6), some (.int v7)] [] (W1 scr s []) out := by
 intro n
 induction n with
 | zero => intro _ _ _ res out h hk; cases h
 | succ n hrec =>
  intro s v6 v7 res out h hk
  rw [j_init_l259] at h
  refine Eval.iload rfl rfl ?_
  refine Eval.bipush (x := 8) rfl rfl ?_
  by_cases hc11 : v7 < (8:Int32)
  ·rw [if_pos hc11] at h
   refine Eval.icmpF rfl (tlt hc11).2.1 ?_
   refine Eval.iload rfl rfl ?_
   refine Eval.aload_n rfl rfl ?_
   refine Eval.getfield rfl rfl own_g1_cap ?_
   by_cases hc12 : v7 < s.f25
   ·rw [if_pos hc12] at h
    refine Eval.icmpT (t := 278) rfl rfl (tlt hc12).1 ?_
    refine Eval.aload_n rfl rfl ?_
    refine Eval.getfield rfl rfl own_g1_seq ?_
    refine Eval.iload rfl rfl ?_
    refine Eval.iload rfl rfl ?_
    refine Eval.iadd rfl ?_
    refine Eval.aload_n rfl rfl ?_
    refine Eval.getfield rfl rfl own_g1_mask ?_
    refine Eval.iand rfl ?_
    refine Eval.iload rfl rfl ?_
    refine Eval.iload rfl rfl ?_
    refine Eval.iadd rfl ?_
    obtain ⟨hb13, h⟩ := ite_some h
    refine Eval.iastore rfl rfl own_a1_seq hb13 own_s1_seq ?_
    refine Eval.iinc (L' := [some (.ref 1), none, none, none, none, none, some (.int v6), some (.int (v7 + (1:Int32)))]) rfl rfl rfl ?_
    refine Eval.goto (t := 259) rfl rfl ?_
    refine Eval.heap own_mk1 ?_
    exact hrec _ _ _ h hk
   ·rw [if_neg hc12] at h
    refine Eval.icmpF rfl (flt hc12).1 ?_
    cases h
    refine Eval.weak (lw_mk 1 _) ?_
    exact hk
  ·rw [if_neg hc11] at h
   refine Eval.icmpT (t := 304) rfl rfl (flt hc11).2.1 ?_
   cases h
   refine Eval.weak (lw_mk 1 _) ?_
   exact hk
def j_init_b304 (s : Q) : Option (Q) := some ((Q.mk s.f0 s.f1 s.f2 s.f3 s.f4 s.f5 s.f6 s.f7 s.f8 s.f9 s.f10 s.f11 s.f12 s.f13 s.f14 s.f15 s.f16 s.f17 s.f18 s.f19 s.f20 s.f21 s.f22 s.f23 s.f24 s.f25 s.f26 s.f27 s.f28 (0:Int32) (0:Int32) s.f31 s.f32))
set_option maxRecDepth 100000 in
theorem ev_j_init_b304 (scr : List Int32) (s : Q) {res : Q} {out : Option Value × AHeap} (h : j_init_b304 s = some res) (hk : out = (none, (W1 scr res []))) : Eval own_P 2 304 [some (.ref 1), none, none, none, none, none, none, none] [] (W1 scr s []) out := by
 rw [j_init_b304] at h
 refine Eval.aload_n rfl rfl ?_
 refine Eval.iconst (x := 0) rfl rfl ?_
 refine Eval.putfield rfl rfl own_p1_histLen ?_
 refine Eval.aload_n rfl rfl ?_
 refine Eval.iconst (x := 0) rfl rfl ?_
 refine Eval.putfield rfl rfl own_p1_snapLen ?_
 cases h
 subst hk
 exact Eval.retH own_mk1 rfl rfl
def j_init_b189 (s : Q) (v1 v2 v3 : Int32) : Option (Q) := ((j_init_l259 3000 (Q.mk s.f0 s.f1 s.f2 s.f3 s.f4 s.f5 s.f6 s.f7 s.f8 s.f9 s.f10 s.f11 s.f12 s.f13 s.f14 s.f15 s.f16 s.f17 s.f18 s.f19 s.f20 s.f21 s.f22 s.f23 (j_clamp v2 (1:Int32) (4:Int32)) (ish (1:Int32) (j_clamp v1 (1:Int32) (3:Int32))) ((ish (1:Int32) (j_clamp v1 (1:Int32) (3:Int32))) - (1:Int32)) ((2147483584:Int32) + (j_clamp v3 (0:Int32) (63:Int32))) ((2147483584:Int32) + (j_clamp v3 (0:Int32) (63:Int32))) s.f29 s.f30 s.f31 s.f32) ((2147483584:Int32) + (j_clamp v3 (0:Int32) (63:Int32))) (0:Int32)).bind fun p14 => Sum.elim (fun p16 => (j_init_b304 p16)) (fun p17 => (j_init_b304 p17)) p14)
set_option maxRecDepth 100000 in
theorem ev_j_init_b189 (scr : List Int32) (s : Q) (v1 v2 v3 : Int32) {res : Q} {out : Option Value × AHeap} (h : j_init_b189 s v1 v2 v3 = some res) (hk : out = (none, (W1 scr res []))) : Eval own_P 2 189 [some (.ref 1), some (.int v1), some (.int v2), some (.int v3), none, none, none, none] [] (W1 scr s []) out := by
 rw [j_init_b189] at h
 refine Eval.aload_n rfl rfl ?_
 refine Eval.iload_n rfl rfl ?_
 refine Eval.iconst (x := 1) rfl rfl ?_
 refine Eval.iconst (x := 3) rfl rfl ?_
 refine Eval.callI (rest := []) (x := (j_clamp v1 (1:Int32) (3:Int32))) (H1 := (W1 scr s [])) rfl rfl (ev_j_clamp (W1 scr s []) 1 v1 (1:Int32) (3:Int32) rfl rfl) ?_
 refine Eval.istore (L' := [some (.ref 1), some (.int v1), some (.int v2), some (.int v3), some (.int (j_clamp v1 (1:Int32) (3:Int32))), none, none, none]) rfl rfl ?_
 refine Eval.aload_n rfl rfl ?_
 refine Eval.aload_n rfl rfl ?_
 refine Eval.iload_n rfl rfl ?_
 refine Eval.iconst (x := 1) rfl rfl ?_
 refine Eval.iconst (x := 4) rfl rfl ?_
 refine Eval.callI (rest := [.ref 1]) (x := (j_clamp v2 (1:Int32) (4:Int32))) (H1 := (W1 scr s [])) rfl rfl (ev_j_clamp (W1 scr s []) 1 v2 (1:Int32) (4:Int32) rfl rfl) ?_
 refine Eval.putfield rfl rfl own_p1_nThreads ?_
 refine Eval.aload_n rfl rfl ?_
 refine Eval.iload_n rfl rfl ?_
 refine Eval.iconst (x := 0) rfl rfl ?_
 refine Eval.bipush (x := 63) rfl rfl ?_
 refine Eval.callI (rest := []) (x := (j_clamp v3 (0:Int32) (63:Int32))) (H1 := (C1 scr s.f0 s.f1 s.f2 s.f3 s.f4 s.f5 s.f6 s.f7 s.f8 s.f9 s.f10 s.f11 s.f12 s.f13 s.f14 s.f15 s.f16 s.f17 s.f18 s.f19 s.f20 s.f21 s.f22 s.f23 (j_clamp v2 (1:Int32) (4:Int32)) s.f25 s.f26 s.f27 s.f28 s.f29 s.f30 s.f31 s.f32 [])) rfl rfl (ev_j_clamp (C1 scr s.f0 s.f1 s.f2 s.f3 s.f4 s.f5 s.f6 s.f7 s.f8 s.f9 s.f10 s.f11 s.f12 s.f13 s.f14 s.f15 s.f16 s.f17 s.f18 s.f19 s.f20 s.f21 s.f22 s.f23 (j_clamp v2 (1:Int32) (4:Int32)) s.f25 s.f26 s.f27 s.f28 s.f29 s.f30 s.f31 s.f32 []) 1 v3 (0:Int32) (63:Int32) rfl rfl) ?_
 refine Eval.istore (L' := [some (.ref 1), some (.int v1), some (.int v2), some (.int v3), some (.int (j_clamp v1 (1:Int32) (3:Int32))), some (.int (j_clamp v3 (0:Int32) (63:Int32))), none, none]) rfl rfl ?_
 refine Eval.aload_n rfl rfl ?_
 refine Eval.iconst (x := 1) rfl rfl ?_
 refine Eval.iload rfl rfl ?_
 refine Eval.ishl rfl ?_
 refine Eval.putfield rfl rfl own_p1_cap ?_
 refine Eval.aload_n rfl rfl ?_
 refine Eval.aload_n rfl rfl ?_
 refine Eval.getfield rfl rfl own_g1_cap ?_
 refine Eval.iconst (x := 1) rfl rfl ?_
 refine Eval.isub rfl ?_
 refine Eval.putfield rfl rfl own_p1_mask ?_
 refine Eval.ldc (x := 2147483584) rfl rfl ?_
 refine Eval.iload rfl rfl ?_
 refine Eval.iadd rfl ?_
 refine Eval.istore (L' := [some (.ref 1), some (.int v1), some (.int v2), some (.int v3), some (.int (j_clamp v1 (1:Int32) (3:Int32))), some (.int (j_clamp v3 (0:Int32) (63:Int32))), some (.int ((2147483584:Int32) + (j_clamp v3 (0:Int32) (63:Int32)))), none]) rfl rfl ?_
 refine Eval.aload_n rfl rfl ?_
 refine Eval.iload rfl rfl ?_
 refine Eval.putfield rfl rfl own_p1_head ?_
 refine Eval.aload_n rfl rfl ?_
 refine Eval.iload rfl rfl ?_
 refine Eval.putfield rfl rfl own_p1_tail ?_
 refine Eval.iconst (x := 0) rfl rfl ?_
 refine Eval.istore (L' := [some (.ref 1), some (.int v1), some (.int v2), some (.int v3), some (.int (j_clamp v1 (1:Int32) (3:Int32))), some (.int (j_clamp v3 (0:Int32) (63:Int32))), some (.int ((2147483584:Int32) + (j_clamp v3 (0:Int32) (63:Int32)))), some (.int 0)]) rfl rfl ?_
 refine Eval.heap own_mk1 ?_
 refine Eval.weak (lw_mk 193 _) ?_
 obtain ⟨p14, hq15, h⟩ := bind_some h
 rcases p14 with p16 | p17
 ·dsimp only [Sum.elim] at h
  refine ev_j_init_l259 scr _ (Q.mk s.f0 s.f1 s.f2 s.f3 s.f4 s.f5 s.f6 s.f7 s.f8 s.f9 s.f10 s.f11 s.f12 s.f13 s.f14 s.f15 s.f16 s.f17 s.f18 s.f19 s.f20 s.f21 s.f22 s.f23 (j_clamp v2 (1:Int32) (4:Int32)) (ish (1:Int32) (j_clamp v1 (1:Int32) (3:Int32))) ((ish (1:Int32) (j_clamp v1 (1:Int32) (3:Int32))) - (1:Int32)) ((2147483584:Int32) + (j_clamp v3 (0:Int32) (63:Int32))) ((2147483584:Int32) + (j_clamp v3 (0:Int32) (63:Int32))) s.f29 s.f30 s.f31 s.f32) ((2147483584:Int32) + (j_clamp v3 (0:Int32) (63:Int32))) (0:Int32) hq15 ?_
  show Eval own_P 2 275 [some (.ref 1), none, none, none, none, none, none, none] [] (W1 scr p16 []) out
  refine Eval.goto (t := 304) rfl rfl ?_
  exact ev_j_init_b304 scr p16 h hk
 ·dsimp only [Sum.elim] at h
  refine ev_j_init_l259 scr _ (Q.mk s.f0 s.f1 s.f2 s.f3 s.f4 s.f5 s.f6 s.f7 s.f8 s.f9 s.f10 s.f11 s.f12 s.f13 s.f14 s.f15 s.f16 s.f17 s.f18 s.f19 s.f20 s.f21 s.f22 s.f23 (j_clamp v2 (1:Int32) (4:Int32)) (ish (1:Int32) (j_clamp v1 (1:Int32) (3:Int32))) ((ish (1:Int32) (j_clamp v1 (1:Int32) (3:Int32))) - (1:Int32)) ((2147483584:Int32) + (j_clamp v3 (0:Int32) (63:Int32))) ((2147483584:Int32) + (j_clamp v3 (0:Int32) (63:Int32))) s.f29 s.f30 s.f31 s.f32) ((2147483584:Int32) + (j_clamp v3 (0:Int32) (63:Int32))) (0:Int32) hq15 ?_
  show Eval own_P 2 304 [some (.ref 1), none, none, none, none, none, none, none] [] (W1 scr p17 []) out
  exact ev_j_init_b304 scr p17 h hk
def j_init (v1 v2 v3 : Int32) : Option (Q) := (j_init_b189 Q0 v1 v2 v3)
set_option maxRecDepth 100000 in
theorem ev_j_init (scr : List Int32) (v1 v2 v3 : Int32) {res : Q} {out : Option Value × AHeap} (h : j_init v1 v2 v3 = some res) (hk : out = (none, (W1 scr res []))) : Eval own_P 2 0 [some (.ref 1), some (.int v1), some (.int v2), some (.int v3), none, none, none, none] [] (W0 scr [.inl (oo 0 0 24 9)]) out := by
 rw [j_init] at h
 refine Eval.aload_n rfl rfl ?_
 refine Eval.objInit rfl rfl ?_
 refine Eval.aload_n rfl rfl ?_
 refine Eval.bipush (x := 8) rfl rfl ?_
 refine Eval.newarray (z := 33) (N := 8) (a := 2) (H1 := (W0 scr [.inl (oo 0 0 24 9), oA 1 8])) rfl rfl rfl rfl rfl (by decide) (by decide) (by unfold W0; simp only [hsz, csz, own_objN, List.length_replicate]) (by decide) rfl ?_
 refine Eval.putfield (H1 := (W0 scr [.inl (oo 2 1 23 9), oA 1 8])) rfl rfl rfl ?_
 refine Eval.aload_n rfl rfl ?_
 refine Eval.bipush (x := 8) rfl rfl ?_
 refine Eval.newarray (z := 41) (N := 8) (a := 3) (H1 := (W0 scr [.inl (oo 2 1 23 9), oA 1 8, oA 1 8])) rfl rfl rfl rfl rfl (by decide) (by decide) (by unfold W0; simp only [hsz, csz, own_objN, List.length_replicate]) (by decide) rfl ?_
 refine Eval.putfield (H1 := (W0 scr [.inl (oo 2 2 22 9), oA 1 8, oA 1 8])) rfl rfl rfl ?_
 refine Eval.aload_n rfl rfl ?_
 refine Eval.iconst (x := 4) rfl rfl ?_
 refine Eval.newarray (z := 49) (N := 4) (a := 4) (H1 := (W0 scr [.inl (oo 2 2 22 9), oA 1 8, oA 1 8, oA 1 4])) rfl rfl rfl rfl rfl (by decide) (by decide) (by unfold W0; simp only [hsz, csz, own_objN, List.length_replicate]) (by decide) rfl ?_
 refine Eval.putfield (H1 := (W0 scr [.inl (oo 2 3 21 9), oA 1 8, oA 1 8, oA 1 4])) rfl rfl rfl ?_
 refine Eval.aload_n rfl rfl ?_
 refine Eval.iconst (x := 4) rfl rfl ?_
 refine Eval.newarray (z := 53) (N := 4) (a := 5) (H1 := (W0 scr [.inl (oo 2 3 21 9), oA 1 8, oA 1 8, oA 1 4, oA 1 4])) rfl rfl rfl rfl rfl (by decide) (by decide) (by unfold W0; simp only [hsz, csz, own_objN, List.length_replicate]) (by decide) rfl ?_
 refine Eval.putfield (H1 := (W0 scr [.inl (oo 2 4 20 9), oA 1 8, oA 1 8, oA 1 4, oA 1 4])) rfl rfl rfl ?_
 refine Eval.aload_n rfl rfl ?_
 refine Eval.iconst (x := 4) rfl rfl ?_
 refine Eval.newarray (z := 57) (N := 4) (a := 6) (H1 := (W0 scr [.inl (oo 2 4 20 9), oA 1 8, oA 1 8, oA 1 4, oA 1 4, oA 1 4])) rfl rfl rfl rfl rfl (by decide) (by decide) (by unfold W0; simp only [hsz, csz, own_objN, List.length_replicate]) (by decide) rfl ?_
 refine Eval.putfield (H1 := (W0 scr [.inl (oo 2 5 19 9), oA 1 8, oA 1 8, oA 1 4, oA 1 4, oA 1 4])) rfl rfl rfl ?_
 refine Eval.aload_n rfl rfl ?_
 refine Eval.iconst (x := 4) rfl rfl ?_
 refine Eval.newarray (z := 61) (N := 4) (a := 7) (H1 := (W0 scr [.inl (oo 2 5 19 9), oA 1 8, oA 1 8, oA 1 4, oA 1 4, oA 1 4, oA 1 4])) rfl rfl rfl rfl rfl (by decide) (by decide) (by unfold W0; simp only [hsz, csz, own_objN, List.length_replicate]) (by decide) rfl ?_
 refine Eval.putfield (H1 := (W0 scr [.inl (oo 2 6 18 9), oA 1 8, oA 1 8, oA 1 4, oA 1 4, oA 1 4, oA 1 4])) rfl rfl rfl ?_
 refine Eval.aload_n rfl rfl ?_
 refine Eval.iconst (x := 4) rfl rfl ?_
 refine Eval.newarray (z := 65) (N := 4) (a := 8) (H1 := (W0 scr [.inl (oo 2 6 18 9), oA 1 8, oA 1 8, oA 1 4, oA 1 4, oA 1 4, oA 1 4, oA 1 4])) rfl rfl rfl rfl rfl (by decide) (by decide) (by unfold W0; simp only [hsz, csz, own_objN, List.length_replicate]) (by decide) rfl ?_
 refine Eval.putfield (H1 := (W0 scr [.inl (oo 2 7 17 9), oA 1 8, oA 1 8, oA 1 4, oA 1 4, oA 1 4, oA 1 4, oA 1 4])) rfl rfl rfl ?_
 refine Eval.aload_n rfl rfl ?_
 refine Eval.iconst (x := 4) rfl rfl ?_
 refine Eval.newarray (z := 69) (N := 4) (a := 9) (H1 := (W0 scr [.inl (oo 2 7 17 9), oA 1 8, oA 1 8, oA 1 4, oA 1 4, oA 1 4, oA 1 4, oA 1 4, oA 1 4])) rfl rfl rfl rfl rfl (by decide) (by decide) (by unfold W0; simp only [hsz, csz, own_objN, List.length_replicate]) (by decide) rfl ?_
 refine Eval.putfield (H1 := (W0 scr [.inl (oo 2 8 16 9), oA 1 8, oA 1 8, oA 1 4, oA 1 4, oA 1 4, oA 1 4, oA 1 4, oA 1 4])) rfl rfl rfl ?_
 refine Eval.aload_n rfl rfl ?_
 refine Eval.bipush (x := 64) rfl rfl ?_
 refine Eval.newarray (z := 73) (N := 64) (a := 10) (H1 := (W0 scr [.inl (oo 2 8 16 9), oA 1 8, oA 1 8, oA 1 4, oA 1 4, oA 1 4, oA 1 4, oA 1 4, oA 1 4, oA 1 64])) rfl rfl rfl rfl rfl (by decide) (by decide) (by unfold W0; simp only [hsz, csz, own_objN, List.length_replicate]) (by decide) rfl ?_
 refine Eval.putfield (H1 := (W0 scr [.inl (oo 2 9 15 9), oA 1 8, oA 1 8, oA 1 4, oA 1 4, oA 1 4, oA 1 4, oA 1 4, oA 1 4, oA 1 64])) rfl rfl rfl ?_
 refine Eval.aload_n rfl rfl ?_
 refine Eval.bipush (x := 64) rfl rfl ?_
 refine Eval.newarray (z := 137) (N := 64) (a := 11) (H1 := (W0 scr [.inl (oo 2 9 15 9), oA 1 8, oA 1 8, oA 1 4, oA 1 4, oA 1 4, oA 1 4, oA 1 4, oA 1 4, oA 1 64, oA 1 64])) rfl rfl rfl rfl rfl (by decide) (by decide) (by unfold W0; simp only [hsz, csz, own_objN, List.length_replicate]) (by decide) rfl ?_
 refine Eval.putfield (H1 := (W0 scr [.inl (oo 2 10 14 9), oA 1 8, oA 1 8, oA 1 4, oA 1 4, oA 1 4, oA 1 4, oA 1 4, oA 1 4, oA 1 64, oA 1 64])) rfl rfl rfl ?_
 refine Eval.aload_n rfl rfl ?_
 refine Eval.bipush (x := 64) rfl rfl ?_
 refine Eval.newarray (z := 201) (N := 64) (a := 12) (H1 := (W0 scr [.inl (oo 2 10 14 9), oA 1 8, oA 1 8, oA 1 4, oA 1 4, oA 1 4, oA 1 4, oA 1 4, oA 1 4, oA 1 64, oA 1 64, oA 1 64])) rfl rfl rfl rfl rfl (by decide) (by decide) (by unfold W0; simp only [hsz, csz, own_objN, List.length_replicate]) (by decide) rfl ?_
 refine Eval.putfield (H1 := (W0 scr [.inl (oo 2 11 13 9), oA 1 8, oA 1 8, oA 1 4, oA 1 4, oA 1 4, oA 1 4, oA 1 4, oA 1 4, oA 1 64, oA 1 64, oA 1 64])) rfl rfl rfl ?_
 refine Eval.aload_n rfl rfl ?_
 refine Eval.bipush (x := 8) rfl rfl ?_
 refine Eval.newarray (z := 265) (N := 8) (a := 13) (H1 := (W0 scr [.inl (oo 2 11 13 9), oA 1 8, oA 1 8, oA 1 4, oA 1 4, oA 1 4, oA 1 4, oA 1 4, oA 1 4, oA 1 64, oA 1 64, oA 1 64, oA 1 8])) rfl rfl rfl rfl rfl (by decide) (by decide) (by unfold W0; simp only [hsz, csz, own_objN, List.length_replicate]) (by decide) rfl ?_
 refine Eval.putfield (H1 := (W0 scr [.inl (oo 2 12 12 9), oA 1 8, oA 1 8, oA 1 4, oA 1 4, oA 1 4, oA 1 4, oA 1 4, oA 1 4, oA 1 64, oA 1 64, oA 1 64, oA 1 8])) rfl rfl rfl ?_
 refine Eval.aload_n rfl rfl ?_
 refine Eval.bipush (x := 6) rfl rfl ?_
 refine Eval.newarray (z := 273) (N := 6) (a := 14) (H1 := (W0 scr [.inl (oo 2 12 12 9), oA 1 8, oA 1 8, oA 1 4, oA 1 4, oA 1 4, oA 1 4, oA 1 4, oA 1 4, oA 1 64, oA 1 64, oA 1 64, oA 1 8, oA 1 6])) rfl rfl rfl rfl rfl (by decide) (by decide) (by unfold W0; simp only [hsz, csz, own_objN, List.length_replicate]) (by decide) rfl ?_
 refine Eval.putfield (H1 := (W0 scr [.inl (oo 2 13 11 9), oA 1 8, oA 1 8, oA 1 4, oA 1 4, oA 1 4, oA 1 4, oA 1 4, oA 1 4, oA 1 64, oA 1 64, oA 1 64, oA 1 8, oA 1 6])) rfl rfl rfl ?_
 refine Eval.aload_n rfl rfl ?_
 refine Eval.bipush (x := 6) rfl rfl ?_
 refine Eval.newarray (z := 279) (N := 6) (a := 15) (H1 := (W0 scr [.inl (oo 2 13 11 9), oA 1 8, oA 1 8, oA 1 4, oA 1 4, oA 1 4, oA 1 4, oA 1 4, oA 1 4, oA 1 64, oA 1 64, oA 1 64, oA 1 8, oA 1 6, oA 1 6])) rfl rfl rfl rfl rfl (by decide) (by decide) (by unfold W0; simp only [hsz, csz, own_objN, List.length_replicate]) (by decide) rfl ?_
 refine Eval.putfield (H1 := (W0 scr [.inl (oo 2 14 10 9), oA 1 8, oA 1 8, oA 1 4, oA 1 4, oA 1 4, oA 1 4, oA 1 4, oA 1 4, oA 1 64, oA 1 64, oA 1 64, oA 1 8, oA 1 6, oA 1 6])) rfl rfl rfl ?_
 refine Eval.aload_n rfl rfl ?_
 refine Eval.bipush (x := 6) rfl rfl ?_
 refine Eval.newarray (z := 285) (N := 6) (a := 16) (H1 := (W0 scr [.inl (oo 2 14 10 9), oA 1 8, oA 1 8, oA 1 4, oA 1 4, oA 1 4, oA 1 4, oA 1 4, oA 1 4, oA 1 64, oA 1 64, oA 1 64, oA 1 8, oA 1 6, oA 1 6, oA 1 6])) rfl rfl rfl rfl rfl (by decide) (by decide) (by unfold W0; simp only [hsz, csz, own_objN, List.length_replicate]) (by decide) rfl ?_
 refine Eval.putfield (H1 := (W0 scr [.inl (oo 2 15 9 9), oA 1 8, oA 1 8, oA 1 4, oA 1 4, oA 1 4, oA 1 4, oA 1 4, oA 1 4, oA 1 64, oA 1 64, oA 1 64, oA 1 8, oA 1 6, oA 1 6, oA 1 6])) rfl rfl rfl ?_
 refine Eval.aload_n rfl rfl ?_
 refine Eval.bipush (x := 6) rfl rfl ?_
 refine Eval.newarray (z := 291) (N := 6) (a := 17) (H1 := (W0 scr [.inl (oo 2 15 9 9), oA 1 8, oA 1 8, oA 1 4, oA 1 4, oA 1 4, oA 1 4, oA 1 4, oA 1 4, oA 1 64, oA 1 64, oA 1 64, oA 1 8, oA 1 6, oA 1 6, oA 1 6, oA 1 6])) rfl rfl rfl rfl rfl (by decide) (by decide) (by unfold W0; simp only [hsz, csz, own_objN, List.length_replicate]) (by decide) rfl ?_
 refine Eval.putfield (H1 := (W0 scr [.inl (oo 2 16 8 9), oA 1 8, oA 1 8, oA 1 4, oA 1 4, oA 1 4, oA 1 4, oA 1 4, oA 1 4, oA 1 64, oA 1 64, oA 1 64, oA 1 8, oA 1 6, oA 1 6, oA 1 6, oA 1 6])) rfl rfl rfl ?_
 refine Eval.aload_n rfl rfl ?_
 refine Eval.bipush (x := 6) rfl rfl ?_
 refine Eval.newarray (z := 297) (N := 6) (a := 18) (H1 := (W0 scr [.inl (oo 2 16 8 9), oA 1 8, oA 1 8, oA 1 4, oA 1 4, oA 1 4, oA 1 4, oA 1 4, oA 1 4, oA 1 64, oA 1 64, oA 1 64, oA 1 8, oA 1 6, oA 1 6, oA 1 6, oA 1 6, oA 1 6])) rfl rfl rfl rfl rfl (by decide) (by decide) (by unfold W0; simp only [hsz, csz, own_objN, List.length_replicate]) (by decide) rfl ?_
 refine Eval.putfield (H1 := (W0 scr [.inl (oo 2 17 7 9), oA 1 8, oA 1 8, oA 1 4, oA 1 4, oA 1 4, oA 1 4, oA 1 4, oA 1 4, oA 1 64, oA 1 64, oA 1 64, oA 1 8, oA 1 6, oA 1 6, oA 1 6, oA 1 6, oA 1 6])) rfl rfl rfl ?_
 refine Eval.aload_n rfl rfl ?_
 refine Eval.bipush (x := 6) rfl rfl ?_
 refine Eval.newarray (z := 303) (N := 6) (a := 19) (H1 := (W0 scr [.inl (oo 2 17 7 9), oA 1 8, oA 1 8, oA 1 4, oA 1 4, oA 1 4, oA 1 4, oA 1 4, oA 1 4, oA 1 64, oA 1 64, oA 1 64, oA 1 8, oA 1 6, oA 1 6, oA 1 6, oA 1 6, oA 1 6, oA 1 6])) rfl rfl rfl rfl rfl (by decide) (by decide) (by unfold W0; simp only [hsz, csz, own_objN, List.length_replicate]) (by decide) rfl ?_
 refine Eval.putfield (H1 := (W0 scr [.inl (oo 2 18 6 9), oA 1 8, oA 1 8, oA 1 4, oA 1 4, oA 1 4, oA 1 4, oA 1 4, oA 1 4, oA 1 64, oA 1 64, oA 1 64, oA 1 8, oA 1 6, oA 1 6, oA 1 6, oA 1 6, oA 1 6, oA 1 6])) rfl rfl rfl ?_
 refine Eval.aload_n rfl rfl ?_
 refine Eval.bipush (x := 6) rfl rfl ?_
 refine Eval.newarray (z := 309) (N := 6) (a := 20) (H1 := (W0 scr [.inl (oo 2 18 6 9), oA 1 8, oA 1 8, oA 1 4, oA 1 4, oA 1 4, oA 1 4, oA 1 4, oA 1 4, oA 1 64, oA 1 64, oA 1 64, oA 1 8, oA 1 6, oA 1 6, oA 1 6, oA 1 6, oA 1 6, oA 1 6, oA 1 6])) rfl rfl rfl rfl rfl (by decide) (by decide) (by unfold W0; simp only [hsz, csz, own_objN, List.length_replicate]) (by decide) rfl ?_
 refine Eval.putfield (H1 := (W0 scr [.inl (oo 2 19 5 9), oA 1 8, oA 1 8, oA 1 4, oA 1 4, oA 1 4, oA 1 4, oA 1 4, oA 1 4, oA 1 64, oA 1 64, oA 1 64, oA 1 8, oA 1 6, oA 1 6, oA 1 6, oA 1 6, oA 1 6, oA 1 6, oA 1 6])) rfl rfl rfl ?_
 refine Eval.aload_n rfl rfl ?_
 refine Eval.iconst (x := 4) rfl rfl ?_
 refine Eval.newarray (z := 315) (N := 4) (a := 21) (H1 := (W0 scr [.inl (oo 2 19 5 9), oA 1 8, oA 1 8, oA 1 4, oA 1 4, oA 1 4, oA 1 4, oA 1 4, oA 1 4, oA 1 64, oA 1 64, oA 1 64, oA 1 8, oA 1 6, oA 1 6, oA 1 6, oA 1 6, oA 1 6, oA 1 6, oA 1 6, oA 1 4])) rfl rfl rfl rfl rfl (by decide) (by decide) (by unfold W0; simp only [hsz, csz, own_objN, List.length_replicate]) (by decide) rfl ?_
 refine Eval.putfield (H1 := (W0 scr [.inl (oo 2 20 4 9), oA 1 8, oA 1 8, oA 1 4, oA 1 4, oA 1 4, oA 1 4, oA 1 4, oA 1 4, oA 1 64, oA 1 64, oA 1 64, oA 1 8, oA 1 6, oA 1 6, oA 1 6, oA 1 6, oA 1 6, oA 1 6, oA 1 6, oA 1 4])) rfl rfl rfl ?_
 refine Eval.aload_n rfl rfl ?_
 refine Eval.bipush (x := 56) rfl rfl ?_
 refine Eval.newarray (z := 319) (N := 56) (a := 22) (H1 := (W0 scr [.inl (oo 2 20 4 9), oA 1 8, oA 1 8, oA 1 4, oA 1 4, oA 1 4, oA 1 4, oA 1 4, oA 1 4, oA 1 64, oA 1 64, oA 1 64, oA 1 8, oA 1 6, oA 1 6, oA 1 6, oA 1 6, oA 1 6, oA 1 6, oA 1 6, oA 1 4, oA 1 56])) rfl rfl rfl rfl rfl (by decide) (by decide) (by unfold W0; simp only [hsz, csz, own_objN, List.length_replicate]) (by decide) rfl ?_
 refine Eval.putfield (H1 := (W0 scr [.inl (oo 2 21 3 9), oA 1 8, oA 1 8, oA 1 4, oA 1 4, oA 1 4, oA 1 4, oA 1 4, oA 1 4, oA 1 64, oA 1 64, oA 1 64, oA 1 8, oA 1 6, oA 1 6, oA 1 6, oA 1 6, oA 1 6, oA 1 6, oA 1 6, oA 1 4, oA 1 56])) rfl rfl rfl ?_
 refine Eval.aload_n rfl rfl ?_
 refine Eval.bipush (x := 7) rfl rfl ?_
 refine Eval.newarray (z := 375) (N := 7) (a := 23) (H1 := (W0 scr [.inl (oo 2 21 3 9), oA 1 8, oA 1 8, oA 1 4, oA 1 4, oA 1 4, oA 1 4, oA 1 4, oA 1 4, oA 1 64, oA 1 64, oA 1 64, oA 1 8, oA 1 6, oA 1 6, oA 1 6, oA 1 6, oA 1 6, oA 1 6, oA 1 6, oA 1 4, oA 1 56, oA 1 7])) rfl rfl rfl rfl rfl (by decide) (by decide) (by unfold W0; simp only [hsz, csz, own_objN, List.length_replicate]) (by decide) rfl ?_
 refine Eval.putfield (H1 := (W0 scr [.inl (oo 2 22 2 9), oA 1 8, oA 1 8, oA 1 4, oA 1 4, oA 1 4, oA 1 4, oA 1 4, oA 1 4, oA 1 64, oA 1 64, oA 1 64, oA 1 8, oA 1 6, oA 1 6, oA 1 6, oA 1 6, oA 1 6, oA 1 6, oA 1 6, oA 1 4, oA 1 56, oA 1 7])) rfl rfl rfl ?_
 refine Eval.aload_n rfl rfl ?_
 refine Eval.bipush (x := 7) rfl rfl ?_
 refine Eval.newarray (z := 382) (N := 7) (a := 24) (H1 := (W0 scr [.inl (oo 2 22 2 9), oA 1 8, oA 1 8, oA 1 4, oA 1 4, oA 1 4, oA 1 4, oA 1 4, oA 1 4, oA 1 64, oA 1 64, oA 1 64, oA 1 8, oA 1 6, oA 1 6, oA 1 6, oA 1 6, oA 1 6, oA 1 6, oA 1 6, oA 1 4, oA 1 56, oA 1 7, oA 1 7])) rfl rfl rfl rfl rfl (by decide) (by decide) (by unfold W0; simp only [hsz, csz, own_objN, List.length_replicate]) (by decide) rfl ?_
 refine Eval.putfield (H1 := (W0 scr [.inl (oo 2 23 1 9), oA 1 8, oA 1 8, oA 1 4, oA 1 4, oA 1 4, oA 1 4, oA 1 4, oA 1 4, oA 1 64, oA 1 64, oA 1 64, oA 1 8, oA 1 6, oA 1 6, oA 1 6, oA 1 6, oA 1 6, oA 1 6, oA 1 6, oA 1 4, oA 1 56, oA 1 7, oA 1 7])) rfl rfl rfl ?_
 refine Eval.aload_n rfl rfl ?_
 refine Eval.bipush (x := 7) rfl rfl ?_
 refine Eval.newarray (z := 389) (N := 7) (a := 25) (H1 := (W0 scr [.inl (oo 2 23 1 9), oA 1 8, oA 1 8, oA 1 4, oA 1 4, oA 1 4, oA 1 4, oA 1 4, oA 1 4, oA 1 64, oA 1 64, oA 1 64, oA 1 8, oA 1 6, oA 1 6, oA 1 6, oA 1 6, oA 1 6, oA 1 6, oA 1 6, oA 1 4, oA 1 56, oA 1 7, oA 1 7, oA 1 7])) rfl rfl rfl rfl rfl (by decide) (by decide) (by unfold W0; simp only [hsz, csz, own_objN, List.length_replicate]) (by decide) rfl ?_
 refine Eval.putfield (H1 := (W0 scr [.inl (oo 2 24 0 9), oA 1 8, oA 1 8, oA 1 4, oA 1 4, oA 1 4, oA 1 4, oA 1 4, oA 1 4, oA 1 64, oA 1 64, oA 1 64, oA 1 8, oA 1 6, oA 1 6, oA 1 6, oA 1 6, oA 1 6, oA 1 6, oA 1 6, oA 1 4, oA 1 56, oA 1 7, oA 1 7, oA 1 7])) rfl rfl rfl ?_
 show Eval own_P 2 189 [some (.ref 1), some (.int v1), some (.int v2), some (.int v3), none, none, none, none] [] (W1 scr Q0 []) out
 exact ev_j_init_b189 scr Q0 v1 v2 v3 h hk
abbrev law_l46_K (scr : List Int32) (res : (Q) ⊕ ((Q) ⊕ (Q))) (out : Option Value × AHeap) : Prop := Sum.elim (fun res => Eval own_P 0 176 [none, none, none, none, none, none, none, none, none] [] (W1 scr res []) out) (fun res => Sum.elim (fun res => Eval own_P 0 198 [none, none, none, none, none, none, none, none, none] [] (W1 scr res []) out) (fun res => Eval own_P 0 225 [none, none, none, none, some (.ref 1), none, none, none, none] [] (W1 scr res []) out) res) res

def j_valid (s : Q) (v1 : Int32) : Int32 := (if v1 < (0:Int32) then ((0:Int32)) else (if v1 < s.f24 then ((1:Int32)) else ((0:Int32))))
set_option maxRecDepth 100000 in
theorem ev_j_valid (R : AHeap) (scr : List Int32) (s : Q) (v1 : Int32) {res : Int32} {out : Option Value × AHeap} (h : j_valid s v1 = res) (hk : out = (some (.int res), (W1 scr s R))) : Eval own_P 5 0 [some (.ref 1), some (.int v1)] [] (W1 scr s R) out := by
 rw [j_valid] at h
 refine Eval.iload_n rfl rfl ?_
 by_cases hc26 : v1 < (0:Int32)
 ·rw [if_pos hc26] at h
  refine Eval.ifT (t := 16) rfl rfl (tlt hc26).1 ?_
  refine Eval.iconst (x := 0) rfl rfl ?_
  subst h
  subst hk
  exact Eval.ret rfl rfl
 ·rw [if_neg hc26] at h
  refine Eval.ifF rfl (flt hc26).1 ?_
  refine Eval.iload_n rfl rfl ?_
  refine Eval.aload_n rfl rfl ?_
  refine Eval.getfield rfl rfl own_g1_nThreads ?_
  by_cases hc27 : v1 < s.f24
  ·rw [if_pos hc27] at h
   refine Eval.icmpF rfl (tlt hc27).2.1 ?_
   refine Eval.iconst (x := 1) rfl rfl ?_
   refine Eval.goto (t := 17) rfl rfl ?_
   subst h
   subst hk
   exact Eval.ret rfl rfl
  ·rw [if_neg hc27] at h
   refine Eval.icmpT (t := 16) rfl rfl (flt hc27).2.1 ?_
   refine Eval.iconst (x := 0) rfl rfl ?_
   subst h
   subst hk
   exact Eval.ret rfl rfl
abbrev j_pending_l4_K (R : AHeap) (scr : List Int32) (s : Q) (res : Int32) (out : Option Value × AHeap) : Prop := Eval own_P 7 35 [none, some (.int res), none] [] (W1 scr s R) out

def j_pending_b29 (go_ : Q → Int32 → Int32 → Option (Int32)) (s : Q) (v1 v2 : Int32) : Option (Int32) := (go_ s v1 (v2 + (1:Int32)))
set_option maxRecDepth 100000 in
theorem ev_j_pending_b29 (R : AHeap) (scr : List Int32) (go_ : Q → Int32 → Int32 → Option (Int32)) (hrec : ∀ (s : Q) (v1 v2 : Int32) {res : Int32} {out : Option Value × AHeap}, go_ s v1 v2 = some res → j_pending_l4_K R scr s res out → Eval own_P 7 4 [some (.ref 1), some (.int v1), some (.int v2)] [] (W1 scr s R) out) (s : Q) (v1 v2 : Int32) {res : Int32} {out : Option Value × AHeap} (h : j_pending_b29 go_ s v1 v2 = some res) (hk : j_pending_l4_K R scr s res out) : Eval own_P 7 29 [some (.ref 1), some (.int v1), some (.int v2)] [] (W1 scr s R) out := by
 rw [j_pending_b29] at h
 refine Eval.iinc (L' := [some (.ref 1), some (.int v1), some (.int (v2 + (1:Int32)))]) rfl rfl rfl ?_
 refine Eval.goto (t := 4) rfl rfl ?_
 exact hrec _ _ _ h hk
def j_pending_l4 : Nat → Q → Int32 → Int32 → Option (Int32)
  | 0, _, _, _ => none
  | n + 1, s, v1, v2 => (if v2 < (4:Int32) then (if v2 < s.f24 then (if inb s.f2.length v2 = true then (j_pending_b29 (j_pending_l4 n) s (if (rd s.f2 v2) = (0:Int32) then v1 else (v1 + (1:Int32))) v2) else none) else (j_pending_b29 (j_pending_l4 n) s v1 v2)) else some (v1))
set_option maxRecDepth 100000 in
theorem ev_j_pending_l4 (R : AHeap) (scr : List Int32) : ∀ (n : Nat) (s : Q) (v1 v2 : Int32) {res : Int32} {out : Option Value × AHeap}, j_pending_l4 n s v1 v2 = some res → j_pending_l4_K R scr s res out → Eval own_P 7 4 [some (.ref 1), some (.int v1), some (.int v2)] [] (W1 scr s R) out := by
 intro n
 induction n with
 | zero => intro _ _ _ res out h hk; cases h
 | succ n hrec =>
  intro s v1 v2 res out h hk
  rw [j_pending_l4] at h
  refine Eval.iload_n rfl rfl ?_
  refine Eval.iconst (x := 4) rfl rfl ?_
  by_cases hc31 : v2 < (4:Int32)
  ·rw [if_pos hc31] at h
   refine Eval.icmpF rfl (tlt hc31).2.1 ?_
   refine Eval.iload_n rfl rfl ?_
   refine Eval.aload_n rfl rfl ?_
   refine Eval.getfield rfl rfl own_g1_nThreads ?_
   by_cases hc33 : v2 < s.f24
   ·rw [if_pos hc33] at h
    refine Eval.icmpF rfl (tlt hc33).2.1 ?_
    refine Eval.aload_n rfl rfl ?_
    refine Eval.getfield rfl rfl own_g1_st ?_
    refine Eval.iload_n rfl rfl ?_
    obtain ⟨hb34, h⟩ := ite_some h
    refine Eval.iaload rfl own_a1_st hb34 ?_
    suffices hJ36 : Eval own_P 7 29 [some (.ref 1), some (.int (if (rd s.f2 v2) = (0:Int32) then v1 else (v1 + (1:Int32)))), some (.int v2)] [] (W1 scr s R) out by
     by_cases hc35 : (rd s.f2 v2) = (0:Int32)
     ·refine Eval.ifT (t := 29) rfl rfl (teq hc35).1 ?_
      exact (Eval.conv hJ36 (by simp only [if_pos hc35] <;> rfl) rfl)
     ·refine Eval.ifF rfl (feq hc35).1 ?_
      refine Eval.iinc (L' := [some (.ref 1), some (.int (v1 + (1:Int32))), some (.int v2)]) rfl rfl rfl ?_
      exact (Eval.conv hJ36 (by simp only [if_neg hc35] <;> rfl) rfl)
    exact ev_j_pending_b29 R scr _ hrec s (if (rd s.f2 v2) = (0:Int32) then v1 else (v1 + (1:Int32))) v2 h hk
   ·rw [if_neg hc33] at h
    refine Eval.icmpT (t := 29) rfl rfl (flt hc33).2.1 ?_
    exact ev_j_pending_b29 R scr _ hrec s v1 v2 h hk
  ·rw [if_neg hc31] at h
   refine Eval.icmpT (t := 35) rfl rfl (flt hc31).2.1 ?_
   cases h
   refine Eval.weak (lw_mk 2 _) ?_
   exact hk
def j_pending (s : Q) : Option (Int32) := ((j_pending_l4 3000 s (0:Int32) (0:Int32)).bind fun p37 => some (p37))
set_option maxRecDepth 100000 in
theorem ev_j_pending (R : AHeap) (scr : List Int32) (s : Q) {res : Int32} {out : Option Value × AHeap} (h : j_pending s = some res) (hk : out = (some (.int res), (W1 scr s R))) : Eval own_P 7 0 [some (.ref 1), none, none] [] (W1 scr s R) out := by
 rw [j_pending] at h
 refine Eval.iconst (x := 0) rfl rfl ?_
 refine Eval.istore_n (L' := [some (.ref 1), some (.int 0), none]) rfl rfl ?_
 refine Eval.iconst (x := 0) rfl rfl ?_
 refine Eval.istore_n (L' := [some (.ref 1), some (.int 0), some (.int 0)]) rfl rfl ?_
 obtain ⟨p37, hq38, h⟩ := bind_some h
 refine ev_j_pending_l4 R scr _ s (0:Int32) (0:Int32) hq38 ?_
 show Eval own_P 7 35 [none, some (.int p37), none] [] (W1 scr s R) out
 refine Eval.iload_n rfl rfl ?_
 cases h
 subst hk
 exact Eval.ret rfl rfl
def j_hasRoom (s : Q) : Option (Int32) := ((j_pending s).bind fun p39 => (if (64:Int32) < ((s.f29 + p39) + (2:Int32)) then some ((0:Int32)) else some ((1:Int32))))
set_option maxRecDepth 100000 in
theorem ev_j_hasRoom (R : AHeap) (scr : List Int32) (s : Q) {res : Int32} {out : Option Value × AHeap} (h : j_hasRoom s = some res) (hk : out = (some (.int res), (W1 scr s R))) : Eval own_P 6 0 [some (.ref 1), none] [] (W1 scr s R) out := by
 rw [j_hasRoom] at h
 refine Eval.aload_n rfl rfl ?_
 obtain ⟨p39, hq40, h⟩ := bind_some h
 refine Eval.callI (rest := []) (x := p39) (H1 := (W1 scr s R)) rfl rfl (ev_j_pending R scr s hq40 rfl) ?_
 refine Eval.istore_n (L' := [some (.ref 1), some (.int p39)]) rfl rfl ?_
 refine Eval.aload_n rfl rfl ?_
 refine Eval.getfield rfl rfl own_g1_histLen ?_
 refine Eval.iload_n rfl rfl ?_
 refine Eval.iadd rfl ?_
 refine Eval.iconst (x := 2) rfl rfl ?_
 refine Eval.iadd rfl ?_
 refine Eval.bipush (x := 64) rfl rfl ?_
 by_cases hc41 : (64:Int32) < ((s.f29 + p39) + (2:Int32))
 ·rw [if_pos hc41] at h
  refine Eval.icmpT (t := 22) rfl rfl (tlt hc41).2.2.1 ?_
  refine Eval.iconst (x := 0) rfl rfl ?_
  cases h
  subst hk
  exact Eval.ret rfl rfl
 ·rw [if_neg hc41] at h
  refine Eval.icmpF rfl (flt hc41).2.2.1 ?_
  refine Eval.iconst (x := 1) rfl rfl ?_
  refine Eval.goto (t := 23) rfl rfl ?_
  cases h
  subst hk
  exact Eval.ret rfl rfl
def j_append (s : Q) (v1 v2 v3 : Int32) : Option (Q) := (if s.f29 < (0:Int32) then some (s) else (if s.f29 < (64:Int32) then (if inb s.f8.length s.f29 = true then (if inb s.f9.length s.f29 = true then (if inb s.f10.length s.f29 = true then some ((Q.mk s.f0 s.f1 s.f2 s.f3 s.f4 s.f5 s.f6 s.f7 (wr s.f8 s.f29 v1) (wr s.f9 s.f29 v2) (wr s.f10 s.f29 v3) s.f11 s.f12 s.f13 s.f14 s.f15 s.f16 s.f17 s.f18 s.f19 s.f20 s.f21 s.f22 s.f23 s.f24 s.f25 s.f26 s.f27 s.f28 (s.f29 + (1:Int32)) s.f30 s.f31 s.f32)) else none) else none) else none) else some (s)))
set_option maxRecDepth 100000 in
theorem ev_j_append (R : AHeap) (scr : List Int32) (s : Q) (v1 v2 v3 : Int32) {res : Q} {out : Option Value × AHeap} (h : j_append s v1 v2 v3 = some res) (hk : out = (none, (W1 scr res R))) : Eval own_P 8 0 [some (.ref 1), some (.int v1), some (.int v2), some (.int v3)] [] (W1 scr s R) out := by
 rw [j_append] at h
 refine Eval.aload_n rfl rfl ?_
 refine Eval.getfield rfl rfl own_g1_histLen ?_
 by_cases hc45 : s.f29 < (0:Int32)
 ·rw [if_pos hc45] at h
  refine Eval.ifT (t := 56) rfl rfl (tlt hc45).1 ?_
  cases h
  subst hk
  exact Eval.ret rfl rfl
 ·rw [if_neg hc45] at h
  refine Eval.ifF rfl (flt hc45).1 ?_
  refine Eval.aload_n rfl rfl ?_
  refine Eval.getfield rfl rfl own_g1_histLen ?_
  refine Eval.bipush (x := 64) rfl rfl ?_
  by_cases hc46 : s.f29 < (64:Int32)
  ·rw [if_pos hc46] at h
   refine Eval.icmpF rfl (tlt hc46).2.1 ?_
   refine Eval.aload_n rfl rfl ?_
   refine Eval.getfield rfl rfl own_g1_evKind ?_
   refine Eval.aload_n rfl rfl ?_
   refine Eval.getfield rfl rfl own_g1_histLen ?_
   refine Eval.iload_n rfl rfl ?_
   obtain ⟨hb47, h⟩ := ite_some h
   refine Eval.iastore rfl rfl own_a1_evKind hb47 own_s1_evKind ?_
   refine Eval.aload_n rfl rfl ?_
   refine Eval.getfield rfl rfl own_g1_evThread ?_
   refine Eval.aload_n rfl rfl ?_
   refine Eval.getfield rfl rfl own_g1_histLen ?_
   refine Eval.iload_n rfl rfl ?_
   obtain ⟨hb48, h⟩ := ite_some h
   refine Eval.iastore rfl rfl own_a1_evThread hb48 own_s1_evThread ?_
   refine Eval.aload_n rfl rfl ?_
   refine Eval.getfield rfl rfl own_g1_evVal ?_
   refine Eval.aload_n rfl rfl ?_
   refine Eval.getfield rfl rfl own_g1_histLen ?_
   refine Eval.iload_n rfl rfl ?_
   obtain ⟨hb49, h⟩ := ite_some h
   refine Eval.iastore rfl rfl own_a1_evVal hb49 own_s1_evVal ?_
   refine Eval.aload_n rfl rfl ?_
   refine Eval.dupR rfl ?_
   refine Eval.getfield rfl rfl own_g1_histLen ?_
   refine Eval.iconst (x := 1) rfl rfl ?_
   refine Eval.iadd rfl ?_
   refine Eval.putfield rfl rfl own_p1_histLen ?_
   cases h
   subst hk
   exact Eval.retH own_mk1 rfl rfl
  ·rw [if_neg hc46] at h
   refine Eval.icmpT (t := 56) rfl rfl (flt hc46).2.1 ?_
   cases h
   subst hk
   exact Eval.ret rfl rfl
def j_startEnqueue (s : Q) (v1 v2 : Int32) : Option (Int32 × Q) := (if (j_valid s v1) = (0:Int32) then some ((0:Int32), s) else (if inb s.f2.length v1 = true then (if (rd s.f2 v1) = (0:Int32) then ((j_hasRoom s).bind fun p42 => (if p42 = (0:Int32) then some ((0:Int32), s) else ((j_append s (1:Int32) v1 v2).bind fun p50 => (if inb p50.f4.length v1 = true then (if inb p50.f2.length v1 = true then some ((1:Int32), (Q.mk p50.f0 p50.f1 (wr p50.f2 v1 (11:Int32)) p50.f3 (wr p50.f4 v1 v2) p50.f5 p50.f6 p50.f7 p50.f8 p50.f9 p50.f10 p50.f11 p50.f12 p50.f13 p50.f14 p50.f15 p50.f16 p50.f17 p50.f18 p50.f19 p50.f20 p50.f21 p50.f22 p50.f23 p50.f24 p50.f25 p50.f26 p50.f27 p50.f28 p50.f29 p50.f30 p50.f31 p50.f32)) else none) else none)))) else some ((0:Int32), s)) else none))
set_option maxRecDepth 100000 in
theorem ev_j_startEnqueue (R : AHeap) (scr : List Int32) (s : Q) (v1 v2 : Int32) {res : Int32 × Q} {out : Option Value × AHeap} (h : j_startEnqueue s v1 v2 = some res) (hk : out = (some (.int res.1), (W1 scr res.2 R))) : Eval own_P 4 0 [some (.ref 1), some (.int v1), some (.int v2)] [] (W1 scr s R) out := by
 rw [j_startEnqueue] at h
 refine Eval.aload_n rfl rfl ?_
 refine Eval.iload_n rfl rfl ?_
 refine Eval.callI (rest := []) (x := (j_valid s v1)) (H1 := (W1 scr s R)) rfl rfl (ev_j_valid R scr s v1 rfl rfl) ?_
 by_cases hc28 : (j_valid s v1) = (0:Int32)
 ·rw [if_pos hc28] at h
  refine Eval.ifT (t := 24) rfl rfl (teq hc28).1 ?_
  refine Eval.iconst (x := 0) rfl rfl ?_
  cases h
  subst hk
  exact Eval.ret rfl rfl
 ·rw [if_neg hc28] at h
  refine Eval.ifF rfl (feq hc28).1 ?_
  refine Eval.aload_n rfl rfl ?_
  refine Eval.getfield rfl rfl own_g1_st ?_
  refine Eval.iload_n rfl rfl ?_
  obtain ⟨hb29, h⟩ := ite_some h
  refine Eval.iaload rfl own_a1_st hb29 ?_
  by_cases hc30 : (rd s.f2 v1) = (0:Int32)
  ·rw [if_pos hc30] at h
   refine Eval.ifF rfl (teq hc30).2 ?_
   refine Eval.aload_n rfl rfl ?_
   obtain ⟨p42, hq43, h⟩ := bind_some h
   refine Eval.callI (rest := []) (x := p42) (H1 := (W1 scr s R)) rfl rfl (ev_j_hasRoom R scr s hq43 rfl) ?_
   by_cases hc44 : p42 = (0:Int32)
   ·rw [if_pos hc44] at h
    refine Eval.ifF rfl (teq hc44).2 ?_
    refine Eval.iconst (x := 0) rfl rfl ?_
    cases h
    subst hk
    exact Eval.ret rfl rfl
   ·rw [if_neg hc44] at h
    refine Eval.ifT (t := 26) rfl rfl (feq hc44).2 ?_
    refine Eval.aload_n rfl rfl ?_
    refine Eval.iconst (x := 1) rfl rfl ?_
    refine Eval.iload_n rfl rfl ?_
    refine Eval.iload_n rfl rfl ?_
    obtain ⟨p50, hq51, h⟩ := bind_some h
    refine Eval.callN (rest := []) (H1 := (W1 scr p50 R)) rfl rfl (ev_j_append R scr s (1:Int32) v1 v2 hq51 rfl) ?_
    refine Eval.aload_n rfl rfl ?_
    refine Eval.getfield rfl rfl own_g1_locV ?_
    refine Eval.iload_n rfl rfl ?_
    refine Eval.iload_n rfl rfl ?_
    obtain ⟨hb53, h⟩ := ite_some h
    refine Eval.iastore rfl rfl own_a1_locV hb53 own_s1_locV ?_
    refine Eval.aload_n rfl rfl ?_
    refine Eval.getfield rfl rfl own_g1_st ?_
    refine Eval.iload_n rfl rfl ?_
    refine Eval.bipush (x := 11) rfl rfl ?_
    obtain ⟨hb54, h⟩ := ite_some h
    refine Eval.iastore rfl rfl own_a1_st hb54 own_s1_st ?_
    refine Eval.iconst (x := 1) rfl rfl ?_
    cases h
    subst hk
    exact Eval.retH own_mk1 rfl rfl
  ·rw [if_neg hc30] at h
   refine Eval.ifT (t := 24) rfl rfl (feq hc30).2 ?_
   refine Eval.iconst (x := 0) rfl rfl ?_
   cases h
   subst hk
   exact Eval.ret rfl rfl
def law_b219 (go_ : Q → List Int32 → Int32 → Int32 → Option ((Q) ⊕ ((Q) ⊕ (Q)))) (s : Q) (scr : List Int32) (v2 v5 : Int32) : Option ((Q) ⊕ ((Q) ⊕ (Q))) := (go_ s scr v2 (v5 + (1:Int32)))
set_option maxRecDepth 100000 in
theorem ev_law_b219 (go_ : Q → List Int32 → Int32 → Int32 → Option ((Q) ⊕ ((Q) ⊕ (Q)))) (hrec : ∀ (s : Q) (scr : List Int32) (v2 v5 : Int32) {res : (Q) ⊕ ((Q) ⊕ (Q))} {out : Option Value × AHeap}, go_ s scr v2 v5 = some res → law_l46_K scr res out → Eval own_P 0 46 [some (.ref 0), none, some (.int v2), none, some (.ref 1), some (.int v5), none, none, none] [] (W1 scr s []) out) (s : Q) (scr : List Int32) (v2 v5 : Int32) {res : (Q) ⊕ ((Q) ⊕ (Q))} {out : Option Value × AHeap} (h : law_b219 go_ s scr v2 v5 = some res) (hk : law_l46_K scr res out) : Eval own_P 0 219 [some (.ref 0), none, some (.int v2), none, some (.ref 1), some (.int v5), none, none, none] [] (W1 scr s []) out := by
 rw [law_b219] at h
 refine Eval.iinc (L' := [some (.ref 0), none, some (.int v2), none, some (.ref 1), some (.int (v5 + (1:Int32))), none, none, none]) rfl rfl rfl ?_
 refine Eval.goto (t := 46) rfl rfl ?_
 exact hrec _ _ _ _ h hk
def j_startDequeue (s : Q) (v1 : Int32) : Option (Int32 × Q) := (if (j_valid s v1) = (0:Int32) then some ((0:Int32), s) else (if inb s.f2.length v1 = true then (if (rd s.f2 v1) = (0:Int32) then ((j_hasRoom s).bind fun p61 => (if p61 = (0:Int32) then some ((0:Int32), s) else ((j_append s (2:Int32) v1 (0:Int32)).bind fun p64 => (if inb p64.f4.length v1 = true then (if inb p64.f2.length v1 = true then some ((1:Int32), (Q.mk p64.f0 p64.f1 (wr p64.f2 v1 (21:Int32)) p64.f3 (wr p64.f4 v1 (0:Int32)) p64.f5 p64.f6 p64.f7 p64.f8 p64.f9 p64.f10 p64.f11 p64.f12 p64.f13 p64.f14 p64.f15 p64.f16 p64.f17 p64.f18 p64.f19 p64.f20 p64.f21 p64.f22 p64.f23 p64.f24 p64.f25 p64.f26 p64.f27 p64.f28 p64.f29 p64.f30 p64.f31 p64.f32)) else none) else none)))) else some ((0:Int32), s)) else none))
set_option maxRecDepth 100000 in
theorem ev_j_startDequeue (R : AHeap) (scr : List Int32) (s : Q) (v1 : Int32) {res : Int32 × Q} {out : Option Value × AHeap} (h : j_startDequeue s v1 = some res) (hk : out = (some (.int res.1), (W1 scr res.2 R))) : Eval own_P 14 0 [some (.ref 1), some (.int v1)] [] (W1 scr s R) out := by
 rw [j_startDequeue] at h
 refine Eval.aload_n rfl rfl ?_
 refine Eval.iload_n rfl rfl ?_
 refine Eval.callI (rest := []) (x := (j_valid s v1)) (H1 := (W1 scr s R)) rfl rfl (ev_j_valid R scr s v1 rfl rfl) ?_
 by_cases hc58 : (j_valid s v1) = (0:Int32)
 ·rw [if_pos hc58] at h
  refine Eval.ifT (t := 24) rfl rfl (teq hc58).1 ?_
  refine Eval.iconst (x := 0) rfl rfl ?_
  cases h
  subst hk
  exact Eval.ret rfl rfl
 ·rw [if_neg hc58] at h
  refine Eval.ifF rfl (feq hc58).1 ?_
  refine Eval.aload_n rfl rfl ?_
  refine Eval.getfield rfl rfl own_g1_st ?_
  refine Eval.iload_n rfl rfl ?_
  obtain ⟨hb59, h⟩ := ite_some h
  refine Eval.iaload rfl own_a1_st hb59 ?_
  by_cases hc60 : (rd s.f2 v1) = (0:Int32)
  ·rw [if_pos hc60] at h
   refine Eval.ifF rfl (teq hc60).2 ?_
   refine Eval.aload_n rfl rfl ?_
   obtain ⟨p61, hq62, h⟩ := bind_some h
   refine Eval.callI (rest := []) (x := p61) (H1 := (W1 scr s R)) rfl rfl (ev_j_hasRoom R scr s hq62 rfl) ?_
   by_cases hc63 : p61 = (0:Int32)
   ·rw [if_pos hc63] at h
    refine Eval.ifF rfl (teq hc63).2 ?_
    refine Eval.iconst (x := 0) rfl rfl ?_
    cases h
    subst hk
    exact Eval.ret rfl rfl
   ·rw [if_neg hc63] at h
    refine Eval.ifT (t := 26) rfl rfl (feq hc63).2 ?_
    refine Eval.aload_n rfl rfl ?_
    refine Eval.iconst (x := 2) rfl rfl ?_
    refine Eval.iload_n rfl rfl ?_
    refine Eval.iconst (x := 0) rfl rfl ?_
    obtain ⟨p64, hq65, h⟩ := bind_some h
    refine Eval.callN (rest := []) (H1 := (W1 scr p64 R)) rfl rfl (ev_j_append R scr s (2:Int32) v1 (0:Int32) hq65 rfl) ?_
    refine Eval.aload_n rfl rfl ?_
    refine Eval.getfield rfl rfl own_g1_locV ?_
    refine Eval.iload_n rfl rfl ?_
    refine Eval.iconst (x := 0) rfl rfl ?_
    obtain ⟨hb67, h⟩ := ite_some h
    refine Eval.iastore rfl rfl own_a1_locV hb67 own_s1_locV ?_
    refine Eval.aload_n rfl rfl ?_
    refine Eval.getfield rfl rfl own_g1_st ?_
    refine Eval.iload_n rfl rfl ?_
    refine Eval.bipush (x := 21) rfl rfl ?_
    obtain ⟨hb68, h⟩ := ite_some h
    refine Eval.iastore rfl rfl own_a1_st hb68 own_s1_st ?_
    refine Eval.iconst (x := 1) rfl rfl ?_
    cases h
    subst hk
    exact Eval.retH own_mk1 rfl rfl
  ·rw [if_neg hc60] at h
   refine Eval.ifT (t := 24) rfl rfl (feq hc60).2 ?_
   refine Eval.iconst (x := 0) rfl rfl ?_
   cases h
   subst hk
   exact Eval.ret rfl rfl
def j_deqStep_b116 (s : Q) (w1 w2 : Int32) : Option (Int32 × Q) := (if inb s.f2.length w1 = true then some ((0:Int32), (Q.mk s.f0 s.f1 (wr s.f2 w1 w2) s.f3 s.f4 s.f5 s.f6 s.f7 s.f8 s.f9 s.f10 s.f11 s.f12 s.f13 s.f14 s.f15 s.f16 s.f17 s.f18 s.f19 s.f20 s.f21 s.f22 s.f23 s.f24 s.f25 s.f26 s.f27 s.f28 s.f29 s.f30 s.f31 s.f32)) else none)
set_option maxRecDepth 100000 in
theorem ev_j_deqStep_b116 (R : AHeap) (scr : List Int32) (s : Q) (w1 w2 : Int32) {res : Int32 × Q} {out : Option Value × AHeap} (h : j_deqStep_b116 s w1 w2 = some res) (hk : out = (some (.int res.1), (W1 scr res.2 R))) : Eval own_P 15 116 [none, none, none, none, none, none] [.int w2, .int w1, .ref 4] (W1 scr s R) out := by
 rw [j_deqStep_b116] at h
 obtain ⟨hb90, h⟩ := ite_some h
 refine Eval.iastore rfl rfl own_a1_st hb90 own_s1_st ?_
 refine Eval.iconst (x := 0) rfl rfl ?_
 cases h
 subst hk
 exact Eval.retH own_mk1 rfl rfl
def j_resKind (v1 : Int32) : Int32 := (if v1 = (2:Int32) then ((4:Int32)) else (if v1 = (3:Int32) then ((5:Int32)) else ((3:Int32))))
set_option maxRecDepth 100000 in
theorem ev_j_resKind (H : AHeap) (a : Nat) (v1 : Int32) {res : Int32} {out : Option Value × AHeap} (h : j_resKind v1 = res) (hk : out = (some (.int res), H)) : Eval own_P 13 0 [some (.ref a), some (.int v1)] [] H out := by
 rw [j_resKind] at h
 refine Eval.iload_n rfl rfl ?_
 refine Eval.iconst (x := 2) rfl rfl ?_
 by_cases hc99 : v1 = (2:Int32)
 ·rw [if_pos hc99] at h
  refine Eval.icmpF rfl (teq hc99).2 ?_
  refine Eval.iconst (x := 4) rfl rfl ?_
  subst h
  subst hk
  exact Eval.ret rfl rfl
 ·rw [if_neg hc99] at h
  refine Eval.icmpT (t := 7) rfl rfl (feq hc99).2 ?_
  refine Eval.iload_n rfl rfl ?_
  refine Eval.iconst (x := 3) rfl rfl ?_
  by_cases hc100 : v1 = (3:Int32)
  ·rw [if_pos hc100] at h
   refine Eval.icmpF rfl (teq hc100).2 ?_
   refine Eval.iconst (x := 5) rfl rfl ?_
   subst h
   subst hk
   exact Eval.ret rfl rfl
  ·rw [if_neg hc100] at h
   refine Eval.icmpT (t := 14) rfl rfl (feq hc100).2 ?_
   refine Eval.iconst (x := 3) rfl rfl ?_
   subst h
   subst hk
   exact Eval.ret rfl rfl
def j_finish (s : Q) (v1 v2 v3 : Int32) : Option (Q) := (if inb s.f5.length v1 = true then (if inb s.f6.length v1 = true then ((j_append (Q.mk s.f0 s.f1 s.f2 s.f3 s.f4 (wr s.f5 v1 v2) (wr s.f6 v1 v3) s.f7 s.f8 s.f9 s.f10 s.f11 s.f12 s.f13 s.f14 s.f15 s.f16 s.f17 s.f18 s.f19 s.f20 s.f21 s.f22 s.f23 s.f24 s.f25 s.f26 s.f27 s.f28 s.f29 s.f30 s.f31 s.f32) (j_resKind v2) v1 v3).bind fun p101 => (if inb p101.f2.length v1 = true then some ((Q.mk p101.f0 p101.f1 (wr p101.f2 v1 (0:Int32)) p101.f3 p101.f4 p101.f5 p101.f6 p101.f7 p101.f8 p101.f9 p101.f10 p101.f11 p101.f12 p101.f13 p101.f14 p101.f15 p101.f16 p101.f17 p101.f18 p101.f19 p101.f20 p101.f21 p101.f22 p101.f23 p101.f24 p101.f25 p101.f26 p101.f27 p101.f28 p101.f29 p101.f30 p101.f31 p101.f32)) else none)) else none) else none)
set_option maxRecDepth 100000 in
theorem ev_j_finish (R : AHeap) (scr : List Int32) (s : Q) (v1 v2 v3 : Int32) {res : Q} {out : Option Value × AHeap} (h : j_finish s v1 v2 v3 = some res) (hk : out = (none, (W1 scr res R))) : Eval own_P 12 0 [some (.ref 1), some (.int v1), some (.int v2), some (.int v3), none] [] (W1 scr s R) out := by
 rw [j_finish] at h
 refine Eval.aload_n rfl rfl ?_
 refine Eval.getfield rfl rfl own_g1_lastSt ?_
 refine Eval.iload_n rfl rfl ?_
 refine Eval.iload_n rfl rfl ?_
 obtain ⟨hb97, h⟩ := ite_some h
 refine Eval.iastore rfl rfl own_a1_lastSt hb97 own_s1_lastSt ?_
 refine Eval.aload_n rfl rfl ?_
 refine Eval.getfield rfl rfl own_g1_lastVal ?_
 refine Eval.iload_n rfl rfl ?_
 refine Eval.iload_n rfl rfl ?_
 obtain ⟨hb98, h⟩ := ite_some h
 refine Eval.iastore rfl rfl own_a1_lastVal hb98 own_s1_lastVal ?_
 refine Eval.aload_n rfl rfl ?_
 refine Eval.iload_n rfl rfl ?_
 refine Eval.callI (rest := []) (x := (j_resKind v2)) (H1 := (C1 scr s.f0 s.f1 s.f2 s.f3 s.f4 (wr s.f5 v1 v2) (wr s.f6 v1 v3) s.f7 s.f8 s.f9 s.f10 s.f11 s.f12 s.f13 s.f14 s.f15 s.f16 s.f17 s.f18 s.f19 s.f20 s.f21 s.f22 s.f23 s.f24 s.f25 s.f26 s.f27 s.f28 s.f29 s.f30 s.f31 s.f32 R)) rfl rfl (ev_j_resKind (C1 scr s.f0 s.f1 s.f2 s.f3 s.f4 (wr s.f5 v1 v2) (wr s.f6 v1 v3) s.f7 s.f8 s.f9 s.f10 s.f11 s.f12 s.f13 s.f14 s.f15 s.f16 s.f17 s.f18 s.f19 s.f20 s.f21 s.f22 s.f23 s.f24 s.f25 s.f26 s.f27 s.f28 s.f29 s.f30 s.f31 s.f32 R) 1 v2 rfl rfl) ?_
 refine Eval.istore (L' := [some (.ref 1), some (.int v1), some (.int v2), some (.int v3), some (.int (j_resKind v2))]) rfl rfl ?_
 refine Eval.aload_n rfl rfl ?_
 refine Eval.iload rfl rfl ?_
 refine Eval.iload_n rfl rfl ?_
 refine Eval.iload_n rfl rfl ?_
 obtain ⟨p101, hq102, h⟩ := bind_some h
 refine Eval.callN (rest := []) (H1 := (W1 scr p101 R)) rfl rfl (Eval.heap own_mk1 (ev_j_append R scr (Q.mk s.f0 s.f1 s.f2 s.f3 s.f4 (wr s.f5 v1 v2) (wr s.f6 v1 v3) s.f7 s.f8 s.f9 s.f10 s.f11 s.f12 s.f13 s.f14 s.f15 s.f16 s.f17 s.f18 s.f19 s.f20 s.f21 s.f22 s.f23 s.f24 s.f25 s.f26 s.f27 s.f28 s.f29 s.f30 s.f31 s.f32) (j_resKind v2) v1 v3 hq102 rfl)) ?_
 refine Eval.aload_n rfl rfl ?_
 refine Eval.getfield rfl rfl own_g1_st ?_
 refine Eval.iload_n rfl rfl ?_
 refine Eval.iconst (x := 0) rfl rfl ?_
 obtain ⟨hb104, h⟩ := ite_some h
 refine Eval.iastore rfl rfl own_a1_st hb104 own_s1_st ?_
 cases h
 subst hk
 exact Eval.retH own_mk1 rfl rfl
def j_deqStep (s : Q) (v1 v2 : Int32) : Option (Int32 × Q) := (if inb s.f3.length v1 = true then (if v2 = (21:Int32) then (if inb s.f3.length v1 = true then (if inb s.f2.length v1 = true then some ((0:Int32), (Q.mk s.f0 s.f1 (wr s.f2 v1 (22:Int32)) (wr s.f3 v1 s.f27) s.f4 s.f5 s.f6 s.f7 s.f8 s.f9 s.f10 s.f11 s.f12 s.f13 s.f14 s.f15 s.f16 s.f17 s.f18 s.f19 s.f20 s.f21 s.f22 s.f23 s.f24 s.f25 s.f26 s.f27 s.f28 s.f29 s.f30 s.f31 s.f32)) else none) else none) else (if v2 = (22:Int32) then (if inb s.f0.length ((rd s.f3 v1) &&& s.f26) = true then (j_deqStep_b116 s v1 (if ((rd s.f0 ((rd s.f3 v1) &&& s.f26)) - ((rd s.f3 v1) + (1:Int32))) = (0:Int32) then (23:Int32) else (if ((rd s.f0 ((rd s.f3 v1) &&& s.f26)) - ((rd s.f3 v1) + (1:Int32))) < (0:Int32) then (24:Int32) else (21:Int32)))) else none) else (if v2 = (23:Int32) then (if s.f27 = (rd s.f3 v1) then (if inb s.f2.length v1 = true then some ((0:Int32), (Q.mk s.f0 s.f1 (wr s.f2 v1 (25:Int32)) s.f3 s.f4 s.f5 s.f6 s.f7 s.f8 s.f9 s.f10 s.f11 s.f12 s.f13 s.f14 s.f15 s.f16 s.f17 s.f18 s.f19 s.f20 s.f21 s.f22 s.f23 s.f24 s.f25 s.f26 ((rd s.f3 v1) + (1:Int32)) s.f28 s.f29 s.f30 s.f31 s.f32)) else none) else (if inb s.f2.length v1 = true then some ((0:Int32), (Q.mk s.f0 s.f1 (wr s.f2 v1 (21:Int32)) s.f3 s.f4 s.f5 s.f6 s.f7 s.f8 s.f9 s.f10 s.f11 s.f12 s.f13 s.f14 s.f15 s.f16 s.f17 s.f18 s.f19 s.f20 s.f21 s.f22 s.f23 s.f24 s.f25 s.f26 s.f27 s.f28 s.f29 s.f30 s.f31 s.f32)) else none)) else (if v2 = (24:Int32) then (if s.f28 = (rd s.f3 v1) then ((j_finish s v1 (3:Int32) (0:Int32)).bind fun p105 => some ((1:Int32), p105)) else (if inb s.f2.length v1 = true then some ((0:Int32), (Q.mk s.f0 s.f1 (wr s.f2 v1 (21:Int32)) s.f3 s.f4 s.f5 s.f6 s.f7 s.f8 s.f9 s.f10 s.f11 s.f12 s.f13 s.f14 s.f15 s.f16 s.f17 s.f18 s.f19 s.f20 s.f21 s.f22 s.f23 s.f24 s.f25 s.f26 s.f27 s.f28 s.f29 s.f30 s.f31 s.f32)) else none)) else (if v2 = (25:Int32) then (if inb s.f1.length ((rd s.f3 v1) &&& s.f26) = true then (if inb s.f4.length v1 = true then (if inb s.f2.length v1 = true then some ((0:Int32), (Q.mk s.f0 s.f1 (wr s.f2 v1 (26:Int32)) s.f3 (wr s.f4 v1 (rd s.f1 ((rd s.f3 v1) &&& s.f26))) s.f5 s.f6 s.f7 s.f8 s.f9 s.f10 s.f11 s.f12 s.f13 s.f14 s.f15 s.f16 s.f17 s.f18 s.f19 s.f20 s.f21 s.f22 s.f23 s.f24 s.f25 s.f26 s.f27 s.f28 s.f29 s.f30 s.f31 s.f32)) else none) else none) else none) else (if v2 = (26:Int32) then (if inb s.f0.length ((rd s.f3 v1) &&& s.f26) = true then (if inb s.f4.length v1 = true then ((j_finish (Q.mk (wr s.f0 ((rd s.f3 v1) &&& s.f26) ((rd s.f3 v1) + s.f25)) s.f1 s.f2 s.f3 s.f4 s.f5 s.f6 s.f7 s.f8 s.f9 s.f10 s.f11 s.f12 s.f13 s.f14 s.f15 s.f16 s.f17 s.f18 s.f19 s.f20 s.f21 s.f22 s.f23 s.f24 s.f25 s.f26 s.f27 s.f28 s.f29 s.f30 s.f31 s.f32) v1 (1:Int32) (rd s.f4 v1)).bind fun p116 => some ((1:Int32), p116)) else none) else none) else some ((0:Int32), s))))))) else none)
set_option maxRecDepth 100000 in
theorem ev_j_deqStep (R : AHeap) (scr : List Int32) (s : Q) (v1 v2 : Int32) {res : Int32 × Q} {out : Option Value × AHeap} (h : j_deqStep s v1 v2 = some res) (hk : out = (some (.int res.1), (W1 scr res.2 R))) : Eval own_P 15 0 [some (.ref 1), some (.int v1), some (.int v2), none, none, none] [] (W1 scr s R) out := by
 rw [j_deqStep] at h
 refine Eval.aload_n rfl rfl ?_
 refine Eval.getfield rfl rfl own_g1_locP ?_
 refine Eval.iload_n rfl rfl ?_
 obtain ⟨hb81, h⟩ := ite_some h
 refine Eval.iaload rfl own_a1_locP hb81 ?_
 refine Eval.istore_n (L' := [some (.ref 1), some (.int v1), some (.int v2), some (.int (rd s.f3 v1)), none, none]) rfl rfl ?_
 refine Eval.iload_n rfl rfl ?_
 refine Eval.aload_n rfl rfl ?_
 refine Eval.getfield rfl rfl own_g1_mask ?_
 refine Eval.iand rfl ?_
 refine Eval.istore (L' := [some (.ref 1), some (.int v1), some (.int v2), some (.int (rd s.f3 v1)), some (.int ((rd s.f3 v1) &&& s.f26)), none]) rfl rfl ?_
 refine Eval.iload_n rfl rfl ?_
 by_cases hc82 : v2 = (21:Int32)
 ·rw [if_pos hc82] at h
  refine Eval.tswIn (t := 56) rfl (by rw [hc82]; rfl) (by rw [hc82]; rfl) rfl ?_
  refine Eval.aload_n rfl rfl ?_
  refine Eval.getfield rfl rfl own_g1_locP ?_
  refine Eval.iload_n rfl rfl ?_
  refine Eval.aload_n rfl rfl ?_
  refine Eval.getfield rfl rfl own_g1_head ?_
  obtain ⟨hb83, h⟩ := ite_some h
  refine Eval.iastore rfl rfl own_a1_locP hb83 own_s1_locP ?_
  refine Eval.aload_n rfl rfl ?_
  refine Eval.getfield rfl rfl own_g1_st ?_
  refine Eval.iload_n rfl rfl ?_
  refine Eval.bipush (x := 22) rfl rfl ?_
  obtain ⟨hb84, h⟩ := ite_some h
  refine Eval.iastore rfl rfl own_a1_st hb84 own_s1_st ?_
  refine Eval.iconst (x := 0) rfl rfl ?_
  cases h
  subst hk
  exact Eval.retH own_mk1 rfl rfl
 rw [if_neg hc82] at h
 by_cases hc85 : v2 = (22:Int32)
 ·rw [if_pos hc85] at h
  refine Eval.tswIn (t := 76) rfl (by rw [hc85]; rfl) (by rw [hc85]; rfl) rfl ?_
  refine Eval.aload_n rfl rfl ?_
  refine Eval.getfield rfl rfl own_g1_seq ?_
  refine Eval.iload rfl rfl ?_
  obtain ⟨hb86, h⟩ := ite_some h
  refine Eval.iaload rfl own_a1_seq hb86 ?_
  refine Eval.iload_n rfl rfl ?_
  refine Eval.iconst (x := 1) rfl rfl ?_
  refine Eval.iadd rfl ?_
  refine Eval.isub rfl ?_
  refine Eval.istore (L' := [some (.ref 1), some (.int v1), some (.int v2), some (.int (rd s.f3 v1)), some (.int ((rd s.f3 v1) &&& s.f26)), some (.int ((rd s.f0 ((rd s.f3 v1) &&& s.f26)) - ((rd s.f3 v1) + (1:Int32))))]) rfl rfl ?_
  refine Eval.aload_n rfl rfl ?_
  refine Eval.getfield rfl rfl own_g1_st ?_
  refine Eval.iload_n rfl rfl ?_
  refine Eval.iload rfl rfl ?_
  suffices hJ89 : Eval own_P 15 116 [none, none, none, none, none, none] [.int (if ((rd s.f0 ((rd s.f3 v1) &&& s.f26)) - ((rd s.f3 v1) + (1:Int32))) = (0:Int32) then (23:Int32) else (if ((rd s.f0 ((rd s.f3 v1) &&& s.f26)) - ((rd s.f3 v1) + (1:Int32))) < (0:Int32) then (24:Int32) else (21:Int32))), .int v1, .ref 4] (W1 scr s R) out by
   by_cases hc87 : ((rd s.f0 ((rd s.f3 v1) &&& s.f26)) - ((rd s.f3 v1) + (1:Int32))) = (0:Int32)
   ·refine Eval.ifF rfl (teq hc87).2 ?_
    refine Eval.bipush (x := 23) rfl rfl ?_
    refine Eval.goto (t := 116) rfl rfl ?_
    refine Eval.weak (lw_mk 0 _) ?_
    exact (Eval.conv hJ89 rfl (by simp only [if_pos hc87]))
   ·refine Eval.ifT (t := 104) rfl rfl (feq hc87).2 ?_
    refine Eval.iload rfl rfl ?_
    by_cases hc88 : ((rd s.f0 ((rd s.f3 v1) &&& s.f26)) - ((rd s.f3 v1) + (1:Int32))) < (0:Int32)
    ·refine Eval.ifF rfl (tlt hc88).2.1 ?_
     refine Eval.bipush (x := 24) rfl rfl ?_
     refine Eval.goto (t := 116) rfl rfl ?_
     refine Eval.weak (lw_mk 0 _) ?_
     exact (Eval.conv hJ89 rfl (by simp only [if_neg hc87, if_pos hc88]))
    ·refine Eval.ifT (t := 114) rfl rfl (flt hc88).2.1 ?_
     refine Eval.bipush (x := 21) rfl rfl ?_
     refine Eval.weak (lw_mk 0 _) ?_
     exact (Eval.conv hJ89 rfl (by simp only [if_neg hc87, if_neg hc88]))
  exact ev_j_deqStep_b116 R scr s v1 (if ((rd s.f0 ((rd s.f3 v1) &&& s.f26)) - ((rd s.f3 v1) + (1:Int32))) = (0:Int32) then (23:Int32) else (if ((rd s.f0 ((rd s.f3 v1) &&& s.f26)) - ((rd s.f3 v1) + (1:Int32))) < (0:Int32) then (24:Int32) else (21:Int32))) h hk
 rw [if_neg hc85] at h
 by_cases hc91 : v2 = (23:Int32)
 ·rw [if_pos hc91] at h
  refine Eval.tswIn (t := 119) rfl (by rw [hc91]; rfl) (by rw [hc91]; rfl) rfl ?_
  refine Eval.aload_n rfl rfl ?_
  refine Eval.getfield rfl rfl own_g1_head ?_
  refine Eval.iload_n rfl rfl ?_
  by_cases hc92 : s.f27 = (rd s.f3 v1)
  ·rw [if_pos hc92] at h
   refine Eval.icmpF rfl (teq hc92).2 ?_
   refine Eval.aload_n rfl rfl ?_
   refine Eval.iload_n rfl rfl ?_
   refine Eval.iconst (x := 1) rfl rfl ?_
   refine Eval.iadd rfl ?_
   refine Eval.putfield rfl rfl own_p1_head ?_
   refine Eval.aload_n rfl rfl ?_
   refine Eval.getfield rfl rfl own_g1_st ?_
   refine Eval.iload_n rfl rfl ?_
   refine Eval.bipush (x := 25) rfl rfl ?_
   obtain ⟨hb93, h⟩ := ite_some h
   refine Eval.iastore rfl rfl own_a1_st hb93 own_s1_st ?_
   refine Eval.goto (t := 153) rfl rfl ?_
   refine Eval.iconst (x := 0) rfl rfl ?_
   cases h
   subst hk
   exact Eval.retH own_mk1 rfl rfl
  ·rw [if_neg hc92] at h
   refine Eval.icmpT (t := 145) rfl rfl (feq hc92).2 ?_
   refine Eval.aload_n rfl rfl ?_
   refine Eval.getfield rfl rfl own_g1_st ?_
   refine Eval.iload_n rfl rfl ?_
   refine Eval.bipush (x := 21) rfl rfl ?_
   obtain ⟨hb94, h⟩ := ite_some h
   refine Eval.iastore rfl rfl own_a1_st hb94 own_s1_st ?_
   refine Eval.iconst (x := 0) rfl rfl ?_
   cases h
   subst hk
   exact Eval.retH own_mk1 rfl rfl
 rw [if_neg hc91] at h
 by_cases hc95 : v2 = (24:Int32)
 ·rw [if_pos hc95] at h
  refine Eval.tswIn (t := 155) rfl (by rw [hc95]; rfl) (by rw [hc95]; rfl) rfl ?_
  refine Eval.aload_n rfl rfl ?_
  refine Eval.getfield rfl rfl own_g1_tail ?_
  refine Eval.iload_n rfl rfl ?_
  by_cases hc96 : s.f28 = (rd s.f3 v1)
  ·rw [if_pos hc96] at h
   refine Eval.icmpF rfl (teq hc96).2 ?_
   refine Eval.aload_n rfl rfl ?_
   refine Eval.iload_n rfl rfl ?_
   refine Eval.iconst (x := 3) rfl rfl ?_
   refine Eval.iconst (x := 0) rfl rfl ?_
   obtain ⟨p105, hq106, h⟩ := bind_some h
   refine Eval.callN (rest := []) (H1 := (W1 scr p105 R)) rfl rfl (ev_j_finish R scr s v1 (3:Int32) (0:Int32) hq106 rfl) ?_
   refine Eval.iconst (x := 1) rfl rfl ?_
   cases h
   subst hk
   exact Eval.ret rfl rfl
  ·rw [if_neg hc96] at h
   refine Eval.icmpT (t := 172) rfl rfl (feq hc96).2 ?_
   refine Eval.aload_n rfl rfl ?_
   refine Eval.getfield rfl rfl own_g1_st ?_
   refine Eval.iload_n rfl rfl ?_
   refine Eval.bipush (x := 21) rfl rfl ?_
   obtain ⟨hb108, h⟩ := ite_some h
   refine Eval.iastore rfl rfl own_a1_st hb108 own_s1_st ?_
   refine Eval.iconst (x := 0) rfl rfl ?_
   cases h
   subst hk
   exact Eval.retH own_mk1 rfl rfl
 rw [if_neg hc95] at h
 by_cases hc109 : v2 = (25:Int32)
 ·rw [if_pos hc109] at h
  refine Eval.tswIn (t := 182) rfl (by rw [hc109]; rfl) (by rw [hc109]; rfl) rfl ?_
  refine Eval.aload_n rfl rfl ?_
  refine Eval.getfield rfl rfl own_g1_locV ?_
  refine Eval.iload_n rfl rfl ?_
  refine Eval.aload_n rfl rfl ?_
  refine Eval.getfield rfl rfl own_g1_val ?_
  refine Eval.iload rfl rfl ?_
  obtain ⟨hb110, h⟩ := ite_some h
  refine Eval.iaload rfl own_a1_val hb110 ?_
  obtain ⟨hb111, h⟩ := ite_some h
  refine Eval.iastore rfl rfl own_a1_locV hb111 own_s1_locV ?_
  refine Eval.aload_n rfl rfl ?_
  refine Eval.getfield rfl rfl own_g1_st ?_
  refine Eval.iload_n rfl rfl ?_
  refine Eval.bipush (x := 26) rfl rfl ?_
  obtain ⟨hb112, h⟩ := ite_some h
  refine Eval.iastore rfl rfl own_a1_st hb112 own_s1_st ?_
  refine Eval.iconst (x := 0) rfl rfl ?_
  cases h
  subst hk
  exact Eval.retH own_mk1 rfl rfl
 rw [if_neg hc109] at h
 by_cases hc113 : v2 = (26:Int32)
 ·rw [if_pos hc113] at h
  refine Eval.tswIn (t := 205) rfl (by rw [hc113]; rfl) (by rw [hc113]; rfl) rfl ?_
  refine Eval.aload_n rfl rfl ?_
  refine Eval.getfield rfl rfl own_g1_seq ?_
  refine Eval.iload rfl rfl ?_
  refine Eval.iload_n rfl rfl ?_
  refine Eval.aload_n rfl rfl ?_
  refine Eval.getfield rfl rfl own_g1_cap ?_
  refine Eval.iadd rfl ?_
  obtain ⟨hb114, h⟩ := ite_some h
  refine Eval.iastore rfl rfl own_a1_seq hb114 own_s1_seq ?_
  refine Eval.aload_n rfl rfl ?_
  refine Eval.iload_n rfl rfl ?_
  refine Eval.iconst (x := 1) rfl rfl ?_
  refine Eval.aload_n rfl rfl ?_
  refine Eval.getfield rfl rfl own_g1_locV ?_
  refine Eval.iload_n rfl rfl ?_
  obtain ⟨hb115, h⟩ := ite_some h
  refine Eval.iaload rfl own_a1_locV hb115 ?_
  obtain ⟨p116, hq117, h⟩ := bind_some h
  refine Eval.callN (rest := []) (H1 := (W1 scr p116 R)) rfl rfl (Eval.heap own_mk1 (ev_j_finish R scr (Q.mk (wr s.f0 ((rd s.f3 v1) &&& s.f26) ((rd s.f3 v1) + s.f25)) s.f1 s.f2 s.f3 s.f4 s.f5 s.f6 s.f7 s.f8 s.f9 s.f10 s.f11 s.f12 s.f13 s.f14 s.f15 s.f16 s.f17 s.f18 s.f19 s.f20 s.f21 s.f22 s.f23 s.f24 s.f25 s.f26 s.f27 s.f28 s.f29 s.f30 s.f31 s.f32) v1 (1:Int32) (rd s.f4 v1) hq117 rfl)) ?_
  refine Eval.iconst (x := 1) rfl rfl ?_
  cases h
  subst hk
  exact Eval.ret rfl rfl
 rw [if_neg hc113] at h
 refine Eval.tswOut (t := 232) rfl (by have e0 : Int32.toInt v2 ≠ 21 := fun q => hc82 (Int32.toInt_inj.mp q); have e1 : Int32.toInt v2 ≠ 22 := fun q => hc85 (Int32.toInt_inj.mp q); have e2 : Int32.toInt v2 ≠ 23 := fun q => hc91 (Int32.toInt_inj.mp q); have e3 : Int32.toInt v2 ≠ 24 := fun q => hc95 (Int32.toInt_inj.mp q); have e4 : Int32.toInt v2 ≠ 25 := fun q => hc109 (Int32.toInt_inj.mp q); have e5 : Int32.toInt v2 ≠ 26 := fun q => hc113 (Int32.toInt_inj.mp q); simp only [Bool.or_eq_true, decide_eq_true_eq]; omega) rfl ?_
 refine Eval.iconst (x := 0) rfl rfl ?_
 cases h
 subst hk
 exact Eval.ret rfl rfl
def j_doStep_b26 (s : Q) (v1 v2 : Int32) : Option (Int32 × Q) := (if v2 < (21:Int32) then some ((0:Int32), s) else (if (26:Int32) < v2 then some ((0:Int32), s) else ((j_deqStep s v1 v2).bind fun p119 => some ((p119.1 &&& 1), p119.2))))
set_option maxRecDepth 100000 in
theorem ev_j_doStep_b26 (R : AHeap) (scr : List Int32) (s : Q) (v1 v2 : Int32) {res : Int32 × Q} {out : Option Value × AHeap} (h : j_doStep_b26 s v1 v2 = some res) (hk : out = (some (.int res.1), (W1 scr res.2 R))) : Eval own_P 10 26 [some (.ref 1), some (.int v1), some (.int v2)] [] (W1 scr s R) out := by
 rw [j_doStep_b26] at h
 refine Eval.iload_n rfl rfl ?_
 refine Eval.bipush (x := 21) rfl rfl ?_
 by_cases hc79 : v2 < (21:Int32)
 ·rw [if_pos hc79] at h
  refine Eval.icmpT (t := 45) rfl rfl (tlt hc79).1 ?_
  refine Eval.iconst (x := 0) rfl rfl ?_
  cases h
  subst hk
  exact Eval.ret rfl rfl
 ·rw [if_neg hc79] at h
  refine Eval.icmpF rfl (flt hc79).1 ?_
  refine Eval.iload_n rfl rfl ?_
  refine Eval.bipush (x := 26) rfl rfl ?_
  by_cases hc80 : (26:Int32) < v2
  ·rw [if_pos hc80] at h
   refine Eval.icmpT (t := 45) rfl rfl (tlt hc80).2.2.1 ?_
   refine Eval.iconst (x := 0) rfl rfl ?_
   cases h
   subst hk
   exact Eval.ret rfl rfl
  ·rw [if_neg hc80] at h
   refine Eval.icmpF rfl (flt hc80).2.2.1 ?_
   refine Eval.aload_n rfl rfl ?_
   refine Eval.iload_n rfl rfl ?_
   refine Eval.iload_n rfl rfl ?_
   obtain ⟨p119, hq120, h⟩ := bind_some h
   refine Eval.callI (rest := []) (x := p119.1) (H1 := (W1 scr p119.2 R)) rfl rfl (ev_j_deqStep R scr s v1 v2 hq120 rfl) ?_
   cases h
   subst hk
   exact Eval.ret rfl rfl
def j_enqStep_b114 (s : Q) (w1 w2 : Int32) : Option (Int32 × Q) := (if inb s.f2.length w1 = true then some ((0:Int32), (Q.mk s.f0 s.f1 (wr s.f2 w1 w2) s.f3 s.f4 s.f5 s.f6 s.f7 s.f8 s.f9 s.f10 s.f11 s.f12 s.f13 s.f14 s.f15 s.f16 s.f17 s.f18 s.f19 s.f20 s.f21 s.f22 s.f23 s.f24 s.f25 s.f26 s.f27 s.f28 s.f29 s.f30 s.f31 s.f32)) else none)
set_option maxRecDepth 100000 in
theorem ev_j_enqStep_b114 (R : AHeap) (scr : List Int32) (s : Q) (w1 w2 : Int32) {res : Int32 × Q} {out : Option Value × AHeap} (h : j_enqStep_b114 s w1 w2 = some res) (hk : out = (some (.int res.1), (W1 scr res.2 R))) : Eval own_P 11 114 [none, none, none, none, none, none] [.int w2, .int w1, .ref 4] (W1 scr s R) out := by
 rw [j_enqStep_b114] at h
 obtain ⟨hb132, h⟩ := ite_some h
 refine Eval.iastore rfl rfl own_a1_st hb132 own_s1_st ?_
 refine Eval.iconst (x := 0) rfl rfl ?_
 cases h
 subst hk
 exact Eval.retH own_mk1 rfl rfl
def j_enqStep (s : Q) (v1 v2 : Int32) : Option (Int32 × Q) := (if inb s.f3.length v1 = true then (if v2 = (11:Int32) then (if inb s.f3.length v1 = true then (if inb s.f2.length v1 = true then some ((0:Int32), (Q.mk s.f0 s.f1 (wr s.f2 v1 (12:Int32)) (wr s.f3 v1 s.f28) s.f4 s.f5 s.f6 s.f7 s.f8 s.f9 s.f10 s.f11 s.f12 s.f13 s.f14 s.f15 s.f16 s.f17 s.f18 s.f19 s.f20 s.f21 s.f22 s.f23 s.f24 s.f25 s.f26 s.f27 s.f28 s.f29 s.f30 s.f31 s.f32)) else none) else none) else (if v2 = (12:Int32) then (if inb s.f0.length ((rd s.f3 v1) &&& s.f26) = true then (j_enqStep_b114 s v1 (if ((rd s.f0 ((rd s.f3 v1) &&& s.f26)) - (rd s.f3 v1)) = (0:Int32) then (13:Int32) else (if ((rd s.f0 ((rd s.f3 v1) &&& s.f26)) - (rd s.f3 v1)) < (0:Int32) then (14:Int32) else (11:Int32)))) else none) else (if v2 = (13:Int32) then (if s.f28 = (rd s.f3 v1) then (if inb s.f2.length v1 = true then some ((0:Int32), (Q.mk s.f0 s.f1 (wr s.f2 v1 (15:Int32)) s.f3 s.f4 s.f5 s.f6 s.f7 s.f8 s.f9 s.f10 s.f11 s.f12 s.f13 s.f14 s.f15 s.f16 s.f17 s.f18 s.f19 s.f20 s.f21 s.f22 s.f23 s.f24 s.f25 s.f26 s.f27 ((rd s.f3 v1) + (1:Int32)) s.f29 s.f30 s.f31 s.f32)) else none) else (if inb s.f2.length v1 = true then some ((0:Int32), (Q.mk s.f0 s.f1 (wr s.f2 v1 (11:Int32)) s.f3 s.f4 s.f5 s.f6 s.f7 s.f8 s.f9 s.f10 s.f11 s.f12 s.f13 s.f14 s.f15 s.f16 s.f17 s.f18 s.f19 s.f20 s.f21 s.f22 s.f23 s.f24 s.f25 s.f26 s.f27 s.f28 s.f29 s.f30 s.f31 s.f32)) else none)) else (if v2 = (14:Int32) then (if ((rd s.f3 v1) - s.f27) = s.f25 then ((j_finish s v1 (2:Int32) (0:Int32)).bind fun p139 => some ((1:Int32), p139)) else (if inb s.f2.length v1 = true then some ((0:Int32), (Q.mk s.f0 s.f1 (wr s.f2 v1 (11:Int32)) s.f3 s.f4 s.f5 s.f6 s.f7 s.f8 s.f9 s.f10 s.f11 s.f12 s.f13 s.f14 s.f15 s.f16 s.f17 s.f18 s.f19 s.f20 s.f21 s.f22 s.f23 s.f24 s.f25 s.f26 s.f27 s.f28 s.f29 s.f30 s.f31 s.f32)) else none)) else (if v2 = (15:Int32) then (if inb s.f4.length v1 = true then (if inb s.f1.length ((rd s.f3 v1) &&& s.f26) = true then (if inb s.f2.length v1 = true then some ((0:Int32), (Q.mk s.f0 (wr s.f1 ((rd s.f3 v1) &&& s.f26) (rd s.f4 v1)) (wr s.f2 v1 (16:Int32)) s.f3 s.f4 s.f5 s.f6 s.f7 s.f8 s.f9 s.f10 s.f11 s.f12 s.f13 s.f14 s.f15 s.f16 s.f17 s.f18 s.f19 s.f20 s.f21 s.f22 s.f23 s.f24 s.f25 s.f26 s.f27 s.f28 s.f29 s.f30 s.f31 s.f32)) else none) else none) else none) else (if v2 = (16:Int32) then (if inb s.f0.length ((rd s.f3 v1) &&& s.f26) = true then ((j_finish (Q.mk (wr s.f0 ((rd s.f3 v1) &&& s.f26) ((rd s.f3 v1) + (1:Int32))) s.f1 s.f2 s.f3 s.f4 s.f5 s.f6 s.f7 s.f8 s.f9 s.f10 s.f11 s.f12 s.f13 s.f14 s.f15 s.f16 s.f17 s.f18 s.f19 s.f20 s.f21 s.f22 s.f23 s.f24 s.f25 s.f26 s.f27 s.f28 s.f29 s.f30 s.f31 s.f32) v1 (1:Int32) (0:Int32)).bind fun p149 => some ((1:Int32), p149)) else none) else some ((0:Int32), s))))))) else none)
set_option maxRecDepth 100000 in
theorem ev_j_enqStep (R : AHeap) (scr : List Int32) (s : Q) (v1 v2 : Int32) {res : Int32 × Q} {out : Option Value × AHeap} (h : j_enqStep s v1 v2 = some res) (hk : out = (some (.int res.1), (W1 scr res.2 R))) : Eval own_P 11 0 [some (.ref 1), some (.int v1), some (.int v2), none, none, none] [] (W1 scr s R) out := by
 rw [j_enqStep] at h
 refine Eval.aload_n rfl rfl ?_
 refine Eval.getfield rfl rfl own_g1_locP ?_
 refine Eval.iload_n rfl rfl ?_
 obtain ⟨hb123, h⟩ := ite_some h
 refine Eval.iaload rfl own_a1_locP hb123 ?_
 refine Eval.istore_n (L' := [some (.ref 1), some (.int v1), some (.int v2), some (.int (rd s.f3 v1)), none, none]) rfl rfl ?_
 refine Eval.iload_n rfl rfl ?_
 refine Eval.aload_n rfl rfl ?_
 refine Eval.getfield rfl rfl own_g1_mask ?_
 refine Eval.iand rfl ?_
 refine Eval.istore (L' := [some (.ref 1), some (.int v1), some (.int v2), some (.int (rd s.f3 v1)), some (.int ((rd s.f3 v1) &&& s.f26)), none]) rfl rfl ?_
 refine Eval.iload_n rfl rfl ?_
 by_cases hc124 : v2 = (11:Int32)
 ·rw [if_pos hc124] at h
  refine Eval.tswIn (t := 56) rfl (by rw [hc124]; rfl) (by rw [hc124]; rfl) rfl ?_
  refine Eval.aload_n rfl rfl ?_
  refine Eval.getfield rfl rfl own_g1_locP ?_
  refine Eval.iload_n rfl rfl ?_
  refine Eval.aload_n rfl rfl ?_
  refine Eval.getfield rfl rfl own_g1_tail ?_
  obtain ⟨hb125, h⟩ := ite_some h
  refine Eval.iastore rfl rfl own_a1_locP hb125 own_s1_locP ?_
  refine Eval.aload_n rfl rfl ?_
  refine Eval.getfield rfl rfl own_g1_st ?_
  refine Eval.iload_n rfl rfl ?_
  refine Eval.bipush (x := 12) rfl rfl ?_
  obtain ⟨hb126, h⟩ := ite_some h
  refine Eval.iastore rfl rfl own_a1_st hb126 own_s1_st ?_
  refine Eval.iconst (x := 0) rfl rfl ?_
  cases h
  subst hk
  exact Eval.retH own_mk1 rfl rfl
 rw [if_neg hc124] at h
 by_cases hc127 : v2 = (12:Int32)
 ·rw [if_pos hc127] at h
  refine Eval.tswIn (t := 76) rfl (by rw [hc127]; rfl) (by rw [hc127]; rfl) rfl ?_
  refine Eval.aload_n rfl rfl ?_
  refine Eval.getfield rfl rfl own_g1_seq ?_
  refine Eval.iload rfl rfl ?_
  obtain ⟨hb128, h⟩ := ite_some h
  refine Eval.iaload rfl own_a1_seq hb128 ?_
  refine Eval.iload_n rfl rfl ?_
  refine Eval.isub rfl ?_
  refine Eval.istore (L' := [some (.ref 1), some (.int v1), some (.int v2), some (.int (rd s.f3 v1)), some (.int ((rd s.f3 v1) &&& s.f26)), some (.int ((rd s.f0 ((rd s.f3 v1) &&& s.f26)) - (rd s.f3 v1)))]) rfl rfl ?_
  refine Eval.aload_n rfl rfl ?_
  refine Eval.getfield rfl rfl own_g1_st ?_
  refine Eval.iload_n rfl rfl ?_
  refine Eval.iload rfl rfl ?_
  suffices hJ131 : Eval own_P 11 114 [none, none, none, none, none, none] [.int (if ((rd s.f0 ((rd s.f3 v1) &&& s.f26)) - (rd s.f3 v1)) = (0:Int32) then (13:Int32) else (if ((rd s.f0 ((rd s.f3 v1) &&& s.f26)) - (rd s.f3 v1)) < (0:Int32) then (14:Int32) else (11:Int32))), .int v1, .ref 4] (W1 scr s R) out by
   by_cases hc129 : ((rd s.f0 ((rd s.f3 v1) &&& s.f26)) - (rd s.f3 v1)) = (0:Int32)
   ·refine Eval.ifF rfl (teq hc129).2 ?_
    refine Eval.bipush (x := 13) rfl rfl ?_
    refine Eval.goto (t := 114) rfl rfl ?_
    refine Eval.weak (lw_mk 0 _) ?_
    exact (Eval.conv hJ131 rfl (by simp only [if_pos hc129]))
   ·refine Eval.ifT (t := 102) rfl rfl (feq hc129).2 ?_
    refine Eval.iload rfl rfl ?_
    by_cases hc130 : ((rd s.f0 ((rd s.f3 v1) &&& s.f26)) - (rd s.f3 v1)) < (0:Int32)
    ·refine Eval.ifF rfl (tlt hc130).2.1 ?_
     refine Eval.bipush (x := 14) rfl rfl ?_
     refine Eval.goto (t := 114) rfl rfl ?_
     refine Eval.weak (lw_mk 0 _) ?_
     exact (Eval.conv hJ131 rfl (by simp only [if_neg hc129, if_pos hc130]))
    ·refine Eval.ifT (t := 112) rfl rfl (flt hc130).2.1 ?_
     refine Eval.bipush (x := 11) rfl rfl ?_
     refine Eval.weak (lw_mk 0 _) ?_
     exact (Eval.conv hJ131 rfl (by simp only [if_neg hc129, if_neg hc130]))
  exact ev_j_enqStep_b114 R scr s v1 (if ((rd s.f0 ((rd s.f3 v1) &&& s.f26)) - (rd s.f3 v1)) = (0:Int32) then (13:Int32) else (if ((rd s.f0 ((rd s.f3 v1) &&& s.f26)) - (rd s.f3 v1)) < (0:Int32) then (14:Int32) else (11:Int32))) h hk
 rw [if_neg hc127] at h
 by_cases hc133 : v2 = (13:Int32)
 ·rw [if_pos hc133] at h
  refine Eval.tswIn (t := 117) rfl (by rw [hc133]; rfl) (by rw [hc133]; rfl) rfl ?_
  refine Eval.aload_n rfl rfl ?_
  refine Eval.getfield rfl rfl own_g1_tail ?_
  refine Eval.iload_n rfl rfl ?_
  by_cases hc134 : s.f28 = (rd s.f3 v1)
  ·rw [if_pos hc134] at h
   refine Eval.icmpF rfl (teq hc134).2 ?_
   refine Eval.aload_n rfl rfl ?_
   refine Eval.iload_n rfl rfl ?_
   refine Eval.iconst (x := 1) rfl rfl ?_
   refine Eval.iadd rfl ?_
   refine Eval.putfield rfl rfl own_p1_tail ?_
   refine Eval.aload_n rfl rfl ?_
   refine Eval.getfield rfl rfl own_g1_st ?_
   refine Eval.iload_n rfl rfl ?_
   refine Eval.bipush (x := 15) rfl rfl ?_
   obtain ⟨hb135, h⟩ := ite_some h
   refine Eval.iastore rfl rfl own_a1_st hb135 own_s1_st ?_
   refine Eval.goto (t := 151) rfl rfl ?_
   refine Eval.iconst (x := 0) rfl rfl ?_
   cases h
   subst hk
   exact Eval.retH own_mk1 rfl rfl
  ·rw [if_neg hc134] at h
   refine Eval.icmpT (t := 143) rfl rfl (feq hc134).2 ?_
   refine Eval.aload_n rfl rfl ?_
   refine Eval.getfield rfl rfl own_g1_st ?_
   refine Eval.iload_n rfl rfl ?_
   refine Eval.bipush (x := 11) rfl rfl ?_
   obtain ⟨hb136, h⟩ := ite_some h
   refine Eval.iastore rfl rfl own_a1_st hb136 own_s1_st ?_
   refine Eval.iconst (x := 0) rfl rfl ?_
   cases h
   subst hk
   exact Eval.retH own_mk1 rfl rfl
 rw [if_neg hc133] at h
 by_cases hc137 : v2 = (14:Int32)
 ·rw [if_pos hc137] at h
  refine Eval.tswIn (t := 153) rfl (by rw [hc137]; rfl) (by rw [hc137]; rfl) rfl ?_
  refine Eval.iload_n rfl rfl ?_
  refine Eval.aload_n rfl rfl ?_
  refine Eval.getfield rfl rfl own_g1_head ?_
  refine Eval.isub rfl ?_
  refine Eval.aload_n rfl rfl ?_
  refine Eval.getfield rfl rfl own_g1_cap ?_
  by_cases hc138 : ((rd s.f3 v1) - s.f27) = s.f25
  ·rw [if_pos hc138] at h
   refine Eval.icmpF rfl (teq hc138).2 ?_
   refine Eval.aload_n rfl rfl ?_
   refine Eval.iload_n rfl rfl ?_
   refine Eval.iconst (x := 2) rfl rfl ?_
   refine Eval.iconst (x := 0) rfl rfl ?_
   obtain ⟨p139, hq140, h⟩ := bind_some h
   refine Eval.callN (rest := []) (H1 := (W1 scr p139 R)) rfl rfl (ev_j_finish R scr s v1 (2:Int32) (0:Int32) hq140 rfl) ?_
   refine Eval.iconst (x := 1) rfl rfl ?_
   cases h
   subst hk
   exact Eval.ret rfl rfl
  ·rw [if_neg hc138] at h
   refine Eval.icmpT (t := 175) rfl rfl (feq hc138).2 ?_
   refine Eval.aload_n rfl rfl ?_
   refine Eval.getfield rfl rfl own_g1_st ?_
   refine Eval.iload_n rfl rfl ?_
   refine Eval.bipush (x := 11) rfl rfl ?_
   obtain ⟨hb142, h⟩ := ite_some h
   refine Eval.iastore rfl rfl own_a1_st hb142 own_s1_st ?_
   refine Eval.iconst (x := 0) rfl rfl ?_
   cases h
   subst hk
   exact Eval.retH own_mk1 rfl rfl
 rw [if_neg hc137] at h
 by_cases hc143 : v2 = (15:Int32)
 ·rw [if_pos hc143] at h
  refine Eval.tswIn (t := 185) rfl (by rw [hc143]; rfl) (by rw [hc143]; rfl) rfl ?_
  refine Eval.aload_n rfl rfl ?_
  refine Eval.getfield rfl rfl own_g1_val ?_
  refine Eval.iload rfl rfl ?_
  refine Eval.aload_n rfl rfl ?_
  refine Eval.getfield rfl rfl own_g1_locV ?_
  refine Eval.iload_n rfl rfl ?_
  obtain ⟨hb144, h⟩ := ite_some h
  refine Eval.iaload rfl own_a1_locV hb144 ?_
  obtain ⟨hb145, h⟩ := ite_some h
  refine Eval.iastore rfl rfl own_a1_val hb145 own_s1_val ?_
  refine Eval.aload_n rfl rfl ?_
  refine Eval.getfield rfl rfl own_g1_st ?_
  refine Eval.iload_n rfl rfl ?_
  refine Eval.bipush (x := 16) rfl rfl ?_
  obtain ⟨hb146, h⟩ := ite_some h
  refine Eval.iastore rfl rfl own_a1_st hb146 own_s1_st ?_
  refine Eval.iconst (x := 0) rfl rfl ?_
  cases h
  subst hk
  exact Eval.retH own_mk1 rfl rfl
 rw [if_neg hc143] at h
 by_cases hc147 : v2 = (16:Int32)
 ·rw [if_pos hc147] at h
  refine Eval.tswIn (t := 208) rfl (by rw [hc147]; rfl) (by rw [hc147]; rfl) rfl ?_
  refine Eval.aload_n rfl rfl ?_
  refine Eval.getfield rfl rfl own_g1_seq ?_
  refine Eval.iload rfl rfl ?_
  refine Eval.iload_n rfl rfl ?_
  refine Eval.iconst (x := 1) rfl rfl ?_
  refine Eval.iadd rfl ?_
  obtain ⟨hb148, h⟩ := ite_some h
  refine Eval.iastore rfl rfl own_a1_seq hb148 own_s1_seq ?_
  refine Eval.aload_n rfl rfl ?_
  refine Eval.iload_n rfl rfl ?_
  refine Eval.iconst (x := 1) rfl rfl ?_
  refine Eval.iconst (x := 0) rfl rfl ?_
  obtain ⟨p149, hq150, h⟩ := bind_some h
  refine Eval.callN (rest := []) (H1 := (W1 scr p149 R)) rfl rfl (Eval.heap own_mk1 (ev_j_finish R scr (Q.mk (wr s.f0 ((rd s.f3 v1) &&& s.f26) ((rd s.f3 v1) + (1:Int32))) s.f1 s.f2 s.f3 s.f4 s.f5 s.f6 s.f7 s.f8 s.f9 s.f10 s.f11 s.f12 s.f13 s.f14 s.f15 s.f16 s.f17 s.f18 s.f19 s.f20 s.f21 s.f22 s.f23 s.f24 s.f25 s.f26 s.f27 s.f28 s.f29 s.f30 s.f31 s.f32) v1 (1:Int32) (0:Int32) hq150 rfl)) ?_
  refine Eval.iconst (x := 1) rfl rfl ?_
  cases h
  subst hk
  exact Eval.ret rfl rfl
 rw [if_neg hc147] at h
 refine Eval.tswOut (t := 227) rfl (by have e0 : Int32.toInt v2 ≠ 11 := fun q => hc124 (Int32.toInt_inj.mp q); have e1 : Int32.toInt v2 ≠ 12 := fun q => hc127 (Int32.toInt_inj.mp q); have e2 : Int32.toInt v2 ≠ 13 := fun q => hc133 (Int32.toInt_inj.mp q); have e3 : Int32.toInt v2 ≠ 14 := fun q => hc137 (Int32.toInt_inj.mp q); have e4 : Int32.toInt v2 ≠ 15 := fun q => hc143 (Int32.toInt_inj.mp q); have e5 : Int32.toInt v2 ≠ 16 := fun q => hc147 (Int32.toInt_inj.mp q); simp only [Bool.or_eq_true, decide_eq_true_eq]; omega) rfl ?_
 refine Eval.iconst (x := 0) rfl rfl ?_
 cases h
 subst hk
 exact Eval.ret rfl rfl
def j_doStep (s : Q) (v1 : Int32) : Option (Int32 × Q) := (if inb s.f2.length v1 = true then (if (rd s.f2 v1) < (11:Int32) then (j_doStep_b26 s v1 (rd s.f2 v1)) else (if (16:Int32) < (rd s.f2 v1) then (j_doStep_b26 s v1 (rd s.f2 v1)) else ((j_enqStep s v1 (rd s.f2 v1)).bind fun p152 => some ((p152.1 &&& 1), p152.2)))) else none)
set_option maxRecDepth 100000 in
theorem ev_j_doStep (R : AHeap) (scr : List Int32) (s : Q) (v1 : Int32) {res : Int32 × Q} {out : Option Value × AHeap} (h : j_doStep s v1 = some res) (hk : out = (some (.int res.1), (W1 scr res.2 R))) : Eval own_P 10 0 [some (.ref 1), some (.int v1), none] [] (W1 scr s R) out := by
 rw [j_doStep] at h
 refine Eval.aload_n rfl rfl ?_
 refine Eval.getfield rfl rfl own_g1_st ?_
 refine Eval.iload_n rfl rfl ?_
 obtain ⟨hb77, h⟩ := ite_some h
 refine Eval.iaload rfl own_a1_st hb77 ?_
 refine Eval.istore_n (L' := [some (.ref 1), some (.int v1), some (.int (rd s.f2 v1))]) rfl rfl ?_
 refine Eval.iload_n rfl rfl ?_
 refine Eval.bipush (x := 11) rfl rfl ?_
 by_cases hc78 : (rd s.f2 v1) < (11:Int32)
 ·rw [if_pos hc78] at h
  refine Eval.icmpT (t := 26) rfl rfl (tlt hc78).1 ?_
  exact ev_j_doStep_b26 R scr s v1 (rd s.f2 v1) h hk
 ·rw [if_neg hc78] at h
  refine Eval.icmpF rfl (flt hc78).1 ?_
  refine Eval.iload_n rfl rfl ?_
  refine Eval.bipush (x := 16) rfl rfl ?_
  by_cases hc122 : (16:Int32) < (rd s.f2 v1)
  ·rw [if_pos hc122] at h
   refine Eval.icmpT (t := 26) rfl rfl (tlt hc122).2.2.1 ?_
   exact ev_j_doStep_b26 R scr s v1 (rd s.f2 v1) h hk
  ·rw [if_neg hc122] at h
   refine Eval.icmpF rfl (flt hc122).2.2.1 ?_
   refine Eval.aload_n rfl rfl ?_
   refine Eval.iload_n rfl rfl ?_
   refine Eval.iload_n rfl rfl ?_
   obtain ⟨p152, hq153, h⟩ := bind_some h
   refine Eval.callI (rest := []) (x := p152.1) (H1 := (W1 scr p152.2 R)) rfl rfl (ev_j_enqStep R scr s v1 (rd s.f2 v1) hq153 rfl) ?_
   cases h
   subst hk
   exact Eval.ret rfl rfl
def j_step (s : Q) (v1 : Int32) : Option (Int32 × Q) := (if (j_valid s v1) = (0:Int32) then some ((-1:Int32), s) else (if inb s.f2.length v1 = true then (if (rd s.f2 v1) = (0:Int32) then some ((0:Int32), s) else (if inb s.f2.length v1 = true then (if (rd s.f2 v1) = (1:Int32) then some ((0:Int32), s) else ((j_doStep s v1).bind fun p155 => (if p155.1 = (0:Int32) then some ((1:Int32), p155.2) else some ((2:Int32), p155.2)))) else none)) else none))
set_option maxRecDepth 100000 in
theorem ev_j_step (R : AHeap) (scr : List Int32) (s : Q) (v1 : Int32) {res : Int32 × Q} {out : Option Value × AHeap} (h : j_step s v1 = some res) (hk : out = (some (.int res.1), (W1 scr res.2 R))) : Eval own_P 9 0 [some (.ref 1), some (.int v1)] [] (W1 scr s R) out := by
 rw [j_step] at h
 refine Eval.aload_n rfl rfl ?_
 refine Eval.iload_n rfl rfl ?_
 refine Eval.callI (rest := []) (x := (j_valid s v1)) (H1 := (W1 scr s R)) rfl rfl (ev_j_valid R scr s v1 rfl rfl) ?_
 by_cases hc72 : (j_valid s v1) = (0:Int32)
 ·rw [if_pos hc72] at h
  refine Eval.ifF rfl (teq hc72).2 ?_
  refine Eval.iconst (x := -1) rfl rfl ?_
  cases h
  subst hk
  exact Eval.ret rfl rfl
 ·rw [if_neg hc72] at h
  refine Eval.ifT (t := 10) rfl rfl (feq hc72).2 ?_
  refine Eval.aload_n rfl rfl ?_
  refine Eval.getfield rfl rfl own_g1_st ?_
  refine Eval.iload_n rfl rfl ?_
  obtain ⟨hb73, h⟩ := ite_some h
  refine Eval.iaload rfl own_a1_st hb73 ?_
  by_cases hc74 : (rd s.f2 v1) = (0:Int32)
  ·rw [if_pos hc74] at h
   refine Eval.ifT (t := 29) rfl rfl (teq hc74).1 ?_
   refine Eval.iconst (x := 0) rfl rfl ?_
   cases h
   subst hk
   exact Eval.ret rfl rfl
  ·rw [if_neg hc74] at h
   refine Eval.ifF rfl (feq hc74).1 ?_
   refine Eval.aload_n rfl rfl ?_
   refine Eval.getfield rfl rfl own_g1_st ?_
   refine Eval.iload_n rfl rfl ?_
   obtain ⟨hb75, h⟩ := ite_some h
   refine Eval.iaload rfl own_a1_st hb75 ?_
   refine Eval.iconst (x := 1) rfl rfl ?_
   by_cases hc76 : (rd s.f2 v1) = (1:Int32)
   ·rw [if_pos hc76] at h
    refine Eval.icmpF rfl (teq hc76).2 ?_
    refine Eval.iconst (x := 0) rfl rfl ?_
    cases h
    subst hk
    exact Eval.ret rfl rfl
   ·rw [if_neg hc76] at h
    refine Eval.icmpT (t := 31) rfl rfl (feq hc76).2 ?_
    refine Eval.aload_n rfl rfl ?_
    refine Eval.iload_n rfl rfl ?_
    obtain ⟨p155, hq156, h⟩ := bind_some h
    refine Eval.callI (rest := []) (x := p155.1) (H1 := (W1 scr p155.2 R)) rfl rfl (ev_j_doStep R scr s v1 hq156 rfl) ?_
    by_cases hc158 : p155.1 = (0:Int32)
    ·rw [if_pos hc158] at h
     refine Eval.ifT (t := 41) rfl rfl (teq hc158).1 ?_
     refine Eval.iconst (x := 1) rfl rfl ?_
     cases h
     subst hk
     exact Eval.ret rfl rfl
    ·rw [if_neg hc158] at h
     refine Eval.ifF rfl (feq hc158).1 ?_
     refine Eval.iconst (x := 2) rfl rfl ?_
     cases h
     subst hk
     exact Eval.ret rfl rfl
def law_b125 (go_ : Q → List Int32 → Int32 → Int32 → Option ((Q) ⊕ ((Q) ⊕ (Q)))) (s : Q) (scr : List Int32) (v2 v5 v8 : Int32) : Option ((Q) ⊕ ((Q) ⊕ (Q))) := ((j_step s v8).bind fun p159 => (law_b219 (go_) p159.2 scr v2 v5))
set_option maxRecDepth 100000 in
theorem ev_law_b125 (go_ : Q → List Int32 → Int32 → Int32 → Option ((Q) ⊕ ((Q) ⊕ (Q)))) (hrec : ∀ (s : Q) (scr : List Int32) (v2 v5 : Int32) {res : (Q) ⊕ ((Q) ⊕ (Q))} {out : Option Value × AHeap}, go_ s scr v2 v5 = some res → law_l46_K scr res out → Eval own_P 0 46 [some (.ref 0), none, some (.int v2), none, some (.ref 1), some (.int v5), none, none, none] [] (W1 scr s []) out) (s : Q) (scr : List Int32) (v2 v5 v8 : Int32) {res : (Q) ⊕ ((Q) ⊕ (Q))} {out : Option Value × AHeap} (h : law_b125 go_ s scr v2 v5 v8 = some res) (hk : law_l46_K scr res out) : Eval own_P 0 125 [some (.ref 0), none, some (.int v2), none, some (.ref 1), some (.int v5), none, none, some (.int v8)] [] (W1 scr s []) out := by
 rw [law_b125] at h
 refine Eval.aload rfl rfl ?_
 refine Eval.iload rfl rfl ?_
 obtain ⟨p159, hq160, h⟩ := bind_some h
 refine Eval.callI (rest := []) (x := p159.1) (H1 := (W1 scr p159.2 [])) rfl rfl (ev_j_step [] scr s v8 hq160 rfl) ?_
 refine Eval.popI rfl ?_
 refine Eval.goto (t := 219) rfl rfl ?_
 refine Eval.weak (lw_mk 53 _) ?_
 exact ev_law_b219 _ hrec p159.2 scr v2 v5 h hk
abbrev j_run_l43_K (R : AHeap) (scr : List Int32) (res : (Q) ⊕ (Q)) (out : Option Value × AHeap) : Prop := Sum.elim (fun res => Eval own_P 17 57 [none, none, none, none, none] [] (W1 scr res R) out) (fun res => Eval own_P 17 65 [none, none, none, none, none] [] (W1 scr res R) out) res

abbrev j_run_l43_N (s : Q) (res : (Q) ⊕ (Q)) : Prop := Sum.elim (fun res => Q.len res = Q.len s) (fun res => Q.len res = Q.len s) res
def j_run_l43 : Nat → Q → Int32 → Int32 → Int32 → Option ((Q) ⊕ (Q))
  | 0, _, _, _, _ => none
  | n + 1, s, v1, v3, v4 => (if v4 < v3 then ((j_doStep s v1).bind fun p169 => (if p169.1 = (0:Int32) then (j_run_l43 n p169.2 v1 v3 (v4 + (1:Int32))) else some (.inl (p169.2)))) else some (.inr (s)))
set_option maxRecDepth 100000 in
theorem ev_j_run_l43 (R : AHeap) (scr : List Int32) : ∀ (n : Nat) (s : Q) (v1 v3 v4 : Int32) {res : (Q) ⊕ (Q)} {out : Option Value × AHeap}, j_run_l43 n s v1 v3 v4 = some res → j_run_l43_K R scr res out → Eval own_P 17 43 [some (.ref 1), some (.int v1), none, some (.int v3), some (.int v4)] [] (W1 scr s R) out := by
 intro n
 induction n with
 | zero => intro _ _ _ _ res out h hk; cases h
 | succ n hrec =>
  intro s v1 v3 v4 res out h hk
  rw [j_run_l43] at h
  refine Eval.iload rfl rfl ?_
  refine Eval.iload_n rfl rfl ?_
  by_cases hc168 : v4 < v3
  ·rw [if_pos hc168] at h
   refine Eval.icmpF rfl (tlt hc168).2.1 ?_
   refine Eval.aload_n rfl rfl ?_
   refine Eval.iload_n rfl rfl ?_
   obtain ⟨p169, hq170, h⟩ := bind_some h
   refine Eval.callI (rest := []) (x := p169.1) (H1 := (W1 scr p169.2 R)) rfl rfl (ev_j_doStep R scr s v1 hq170 rfl) ?_
   by_cases hc172 : p169.1 = (0:Int32)
   ·rw [if_pos hc172] at h
    refine Eval.ifT (t := 59) rfl rfl (teq hc172).1 ?_
    refine Eval.iinc (L' := [some (.ref 1), some (.int v1), none, some (.int v3), some (.int (v4 + (1:Int32)))]) rfl rfl rfl ?_
    refine Eval.goto (t := 43) rfl rfl ?_
    exact hrec _ _ _ _ h hk
   ·rw [if_neg hc172] at h
    refine Eval.ifF rfl (feq hc172).1 ?_
    cases h
    refine Eval.weak (lw_mk 0 _) ?_
    exact hk
  ·rw [if_neg hc168] at h
   refine Eval.icmpT (t := 65) rfl rfl (flt hc168).2.1 ?_
   cases h
   refine Eval.weak (lw_mk 0 _) ?_
   exact hk
def j_run (s : Q) (v1 v2 : Int32) : Option (Int32 × Q) := (if (j_valid s v1) = (0:Int32) then some ((-1:Int32), s) else (if inb s.f2.length v1 = true then (if (rd s.f2 v1) = (0:Int32) then some ((0:Int32), s) else (if inb s.f2.length v1 = true then (if (rd s.f2 v1) = (1:Int32) then some ((0:Int32), s) else ((j_run_l43 3000 s v1 (j_clamp v2 (1:Int32) (64:Int32)) (0:Int32)).bind fun p173 => Sum.elim (fun p175 => some ((2:Int32), p175)) (fun p176 => some ((1:Int32), p176)) p173)) else none)) else none))
set_option maxRecDepth 100000 in
theorem ev_j_run (R : AHeap) (scr : List Int32) (s : Q) (v1 v2 : Int32) {res : Int32 × Q} {out : Option Value × AHeap} (h : j_run s v1 v2 = some res) (hk : out = (some (.int res.1), (W1 scr res.2 R))) : Eval own_P 17 0 [some (.ref 1), some (.int v1), some (.int v2), none, none] [] (W1 scr s R) out := by
 rw [j_run] at h
 refine Eval.aload_n rfl rfl ?_
 refine Eval.iload_n rfl rfl ?_
 refine Eval.iconst (x := 1) rfl rfl ?_
 refine Eval.bipush (x := 64) rfl rfl ?_
 refine Eval.callI (rest := []) (x := (j_clamp v2 (1:Int32) (64:Int32))) (H1 := (W1 scr s R)) rfl rfl (ev_j_clamp (W1 scr s R) 1 v2 (1:Int32) (64:Int32) rfl rfl) ?_
 refine Eval.istore_n (L' := [some (.ref 1), some (.int v1), some (.int v2), some (.int (j_clamp v2 (1:Int32) (64:Int32))), none]) rfl rfl ?_
 refine Eval.aload_n rfl rfl ?_
 refine Eval.iload_n rfl rfl ?_
 refine Eval.callI (rest := []) (x := (j_valid s v1)) (H1 := (W1 scr s R)) rfl rfl (ev_j_valid R scr s v1 rfl rfl) ?_
 by_cases hc163 : (j_valid s v1) = (0:Int32)
 ·rw [if_pos hc163] at h
  refine Eval.ifF rfl (teq hc163).2 ?_
  refine Eval.iconst (x := -1) rfl rfl ?_
  cases h
  subst hk
  exact Eval.ret rfl rfl
 ·rw [if_neg hc163] at h
  refine Eval.ifT (t := 19) rfl rfl (feq hc163).2 ?_
  refine Eval.aload_n rfl rfl ?_
  refine Eval.getfield rfl rfl own_g1_st ?_
  refine Eval.iload_n rfl rfl ?_
  obtain ⟨hb164, h⟩ := ite_some h
  refine Eval.iaload rfl own_a1_st hb164 ?_
  by_cases hc165 : (rd s.f2 v1) = (0:Int32)
  ·rw [if_pos hc165] at h
   refine Eval.ifT (t := 38) rfl rfl (teq hc165).1 ?_
   refine Eval.iconst (x := 0) rfl rfl ?_
   cases h
   subst hk
   exact Eval.ret rfl rfl
  ·rw [if_neg hc165] at h
   refine Eval.ifF rfl (feq hc165).1 ?_
   refine Eval.aload_n rfl rfl ?_
   refine Eval.getfield rfl rfl own_g1_st ?_
   refine Eval.iload_n rfl rfl ?_
   obtain ⟨hb166, h⟩ := ite_some h
   refine Eval.iaload rfl own_a1_st hb166 ?_
   refine Eval.iconst (x := 1) rfl rfl ?_
   by_cases hc167 : (rd s.f2 v1) = (1:Int32)
   ·rw [if_pos hc167] at h
    refine Eval.icmpF rfl (teq hc167).2 ?_
    refine Eval.iconst (x := 0) rfl rfl ?_
    cases h
    subst hk
    exact Eval.ret rfl rfl
   ·rw [if_neg hc167] at h
    refine Eval.icmpT (t := 40) rfl rfl (feq hc167).2 ?_
    refine Eval.iconst (x := 0) rfl rfl ?_
    refine Eval.istore (L' := [some (.ref 1), some (.int v1), some (.int v2), some (.int (j_clamp v2 (1:Int32) (64:Int32))), some (.int 0)]) rfl rfl ?_
    refine Eval.weak (lw_mk 27 _) ?_
    obtain ⟨p173, hq174, h⟩ := bind_some h
    rcases p173 with p175 | p176
    ·dsimp only [Sum.elim] at h
     refine ev_j_run_l43 R scr _ s v1 (j_clamp v2 (1:Int32) (64:Int32)) (0:Int32) hq174 ?_
     show Eval own_P 17 57 [none, none, none, none, none] [] (W1 scr p175 R) out
     refine Eval.iconst (x := 2) rfl rfl ?_
     cases h
     subst hk
     exact Eval.ret rfl rfl
    ·dsimp only [Sum.elim] at h
     refine ev_j_run_l43 R scr _ s v1 (j_clamp v2 (1:Int32) (64:Int32)) (0:Int32) hq174 ?_
     show Eval own_P 17 65 [none, none, none, none, none] [] (W1 scr p176 R) out
     refine Eval.iconst (x := 1) rfl rfl ?_
     cases h
     subst hk
     exact Eval.ret rfl rfl
abbrev j_countInvocations_l4_K (R : AHeap) (scr : List Int32) (s : Q) (res : Int32) (out : Option Value × AHeap) : Prop := Eval own_P 20 47 [none, some (.int res), none] [] (W1 scr s R) out

def j_countInvocations_b41 (go_ : Q → Int32 → Int32 → Option (Int32)) (s : Q) (v1 v2 : Int32) : Option (Int32) := (go_ s v1 (v2 + (1:Int32)))
set_option maxRecDepth 100000 in
theorem ev_j_countInvocations_b41 (R : AHeap) (scr : List Int32) (go_ : Q → Int32 → Int32 → Option (Int32)) (hrec : ∀ (s : Q) (v1 v2 : Int32) {res : Int32} {out : Option Value × AHeap}, go_ s v1 v2 = some res → j_countInvocations_l4_K R scr s res out → Eval own_P 20 4 [some (.ref 1), some (.int v1), some (.int v2)] [] (W1 scr s R) out) (s : Q) (v1 v2 : Int32) {res : Int32} {out : Option Value × AHeap} (h : j_countInvocations_b41 go_ s v1 v2 = some res) (hk : j_countInvocations_l4_K R scr s res out) : Eval own_P 20 41 [some (.ref 1), some (.int v1), some (.int v2)] [] (W1 scr s R) out := by
 rw [j_countInvocations_b41] at h
 refine Eval.iinc (L' := [some (.ref 1), some (.int v1), some (.int (v2 + (1:Int32)))]) rfl rfl rfl ?_
 refine Eval.goto (t := 4) rfl rfl ?_
 exact hrec _ _ _ h hk
def j_countInvocations_b38 (go_ : Q → Int32 → Int32 → Option (Int32)) (s : Q) (v1 v2 : Int32) : Option (Int32) := (j_countInvocations_b41 (go_) s (v1 + (1:Int32)) v2)
set_option maxRecDepth 100000 in
theorem ev_j_countInvocations_b38 (R : AHeap) (scr : List Int32) (go_ : Q → Int32 → Int32 → Option (Int32)) (hrec : ∀ (s : Q) (v1 v2 : Int32) {res : Int32} {out : Option Value × AHeap}, go_ s v1 v2 = some res → j_countInvocations_l4_K R scr s res out → Eval own_P 20 4 [some (.ref 1), some (.int v1), some (.int v2)] [] (W1 scr s R) out) (s : Q) (v1 v2 : Int32) {res : Int32} {out : Option Value × AHeap} (h : j_countInvocations_b38 go_ s v1 v2 = some res) (hk : j_countInvocations_l4_K R scr s res out) : Eval own_P 20 38 [some (.ref 1), some (.int v1), some (.int v2)] [] (W1 scr s R) out := by
 rw [j_countInvocations_b38] at h
 refine Eval.iinc (L' := [some (.ref 1), some (.int (v1 + (1:Int32))), some (.int v2)]) rfl rfl rfl ?_
 exact ev_j_countInvocations_b41 R scr _ hrec s (v1 + (1:Int32)) v2 h hk
def j_countInvocations_l4 : Nat → Q → Int32 → Int32 → Option (Int32)
  | 0, _, _, _ => none
  | n + 1, s, v1, v2 => (if v2 < (64:Int32) then (if v2 < s.f29 then (if inb s.f8.length v2 = true then (if (rd s.f8 v2) = (1:Int32) then (j_countInvocations_b38 (j_countInvocations_l4 n) s v1 v2) else (if inb s.f8.length v2 = true then (j_countInvocations_b41 (j_countInvocations_l4 n) s (if (rd s.f8 v2) = (2:Int32) then (v1 + (1:Int32)) else v1) v2) else none)) else none) else some (v1)) else some (v1))
set_option maxRecDepth 100000 in
theorem ev_j_countInvocations_l4 (R : AHeap) (scr : List Int32) : ∀ (n : Nat) (s : Q) (v1 v2 : Int32) {res : Int32} {out : Option Value × AHeap}, j_countInvocations_l4 n s v1 v2 = some res → j_countInvocations_l4_K R scr s res out → Eval own_P 20 4 [some (.ref 1), some (.int v1), some (.int v2)] [] (W1 scr s R) out := by
 intro n
 induction n with
 | zero => intro _ _ _ res out h hk; cases h
 | succ n hrec =>
  intro s v1 v2 res out h hk
  rw [j_countInvocations_l4] at h
  refine Eval.iload_n rfl rfl ?_
  refine Eval.bipush (x := 64) rfl rfl ?_
  by_cases hc182 : v2 < (64:Int32)
  ·rw [if_pos hc182] at h
   refine Eval.icmpF rfl (tlt hc182).2.1 ?_
   refine Eval.iload_n rfl rfl ?_
   refine Eval.aload_n rfl rfl ?_
   refine Eval.getfield rfl rfl own_g1_histLen ?_
   by_cases hc183 : v2 < s.f29
   ·rw [if_pos hc183] at h
    refine Eval.icmpF rfl (tlt hc183).2.1 ?_
    refine Eval.aload_n rfl rfl ?_
    refine Eval.getfield rfl rfl own_g1_evKind ?_
    refine Eval.iload_n rfl rfl ?_
    obtain ⟨hb184, h⟩ := ite_some h
    refine Eval.iaload rfl own_a1_evKind hb184 ?_
    refine Eval.iconst (x := 1) rfl rfl ?_
    by_cases hc186 : (rd s.f8 v2) = (1:Int32)
    ·rw [if_pos hc186] at h
     refine Eval.icmpT (t := 38) rfl rfl (teq hc186).1 ?_
     exact ev_j_countInvocations_b38 R scr _ hrec s v1 v2 h hk
    ·rw [if_neg hc186] at h
     refine Eval.icmpF rfl (feq hc186).1 ?_
     refine Eval.aload_n rfl rfl ?_
     refine Eval.getfield rfl rfl own_g1_evKind ?_
     refine Eval.iload_n rfl rfl ?_
     obtain ⟨hb187, h⟩ := ite_some h
     refine Eval.iaload rfl own_a1_evKind hb187 ?_
     refine Eval.iconst (x := 2) rfl rfl ?_
     suffices hJ189 : Eval own_P 20 41 [some (.ref 1), some (.int (if (rd s.f8 v2) = (2:Int32) then (v1 + (1:Int32)) else v1)), some (.int v2)] [] (W1 scr s R) out by
      by_cases hc188 : (rd s.f8 v2) = (2:Int32)
      ·refine Eval.icmpF rfl (teq hc188).2 ?_
       refine Eval.iinc (L' := [some (.ref 1), some (.int (v1 + (1:Int32))), some (.int v2)]) rfl rfl rfl ?_
       exact (Eval.conv hJ189 (by simp only [if_pos hc188] <;> rfl) rfl)
      ·refine Eval.icmpT (t := 41) rfl rfl (feq hc188).2 ?_
       exact (Eval.conv hJ189 (by simp only [if_neg hc188] <;> rfl) rfl)
     exact ev_j_countInvocations_b41 R scr _ hrec s (if (rd s.f8 v2) = (2:Int32) then (v1 + (1:Int32)) else v1) v2 h hk
   ·rw [if_neg hc183] at h
    refine Eval.icmpT (t := 47) rfl rfl (flt hc183).2.1 ?_
    cases h
    refine Eval.weak (lw_mk 2 _) ?_
    exact hk
  ·rw [if_neg hc182] at h
   refine Eval.icmpT (t := 47) rfl rfl (flt hc182).2.1 ?_
   cases h
   refine Eval.weak (lw_mk 2 _) ?_
   exact hk
def j_countInvocations (s : Q) : Option (Int32) := ((j_countInvocations_l4 3000 s (0:Int32) (0:Int32)).bind fun p190 => some (p190))
set_option maxRecDepth 100000 in
theorem ev_j_countInvocations (R : AHeap) (scr : List Int32) (s : Q) {res : Int32} {out : Option Value × AHeap} (h : j_countInvocations s = some res) (hk : out = (some (.int res), (W1 scr s R))) : Eval own_P 20 0 [some (.ref 1), none, none] [] (W1 scr s R) out := by
 rw [j_countInvocations] at h
 refine Eval.iconst (x := 0) rfl rfl ?_
 refine Eval.istore_n (L' := [some (.ref 1), some (.int 0), none]) rfl rfl ?_
 refine Eval.iconst (x := 0) rfl rfl ?_
 refine Eval.istore_n (L' := [some (.ref 1), some (.int 0), some (.int 0)]) rfl rfl ?_
 obtain ⟨p190, hq191, h⟩ := bind_some h
 refine ev_j_countInvocations_l4 R scr _ s (0:Int32) (0:Int32) hq191 ?_
 show Eval own_P 20 47 [none, some (.int p190), none] [] (W1 scr s R) out
 refine Eval.iload_n rfl rfl ?_
 cases h
 subst hk
 exact Eval.ret rfl rfl
abbrev j_parseOps_l7_K (R : AHeap) (scr : List Int32) (res : Q) (out : Option Value × AHeap) : Prop := Eval own_P 21 25 [some (.ref 1), none, none] [] (W1 scr res R) out

abbrev j_parseOps_l7_N (s res : Q) : Prop := Q.len res = Q.len s
def j_parseOps_l7 : Nat → Q → Int32 → Option (Q)
  | 0, _, _ => none
  | n + 1, s, v1 => (if v1 < (4:Int32) then (if inb s.f19.length v1 = true then (j_parseOps_l7 n (Q.mk s.f0 s.f1 s.f2 s.f3 s.f4 s.f5 s.f6 s.f7 s.f8 s.f9 s.f10 s.f11 s.f12 s.f13 s.f14 s.f15 s.f16 s.f17 s.f18 (wr s.f19 v1 (-1:Int32)) s.f20 s.f21 s.f22 s.f23 s.f24 s.f25 s.f26 s.f27 s.f28 s.f29 s.f30 s.f31 s.f32) (v1 + (1:Int32))) else none) else some (s))
theorem ln_j_parseOps_l7 : ∀ {n : Nat} {s : Q} {v1 : Int32} {res : Q}, j_parseOps_l7 n s v1 = some res → j_parseOps_l7_N s res := by
  intro n
  induction n with
  | zero => intro _ _ res h; cases h
  | succ n hrec0 =>
    have hrec : ∀ (s : Q) (v1 : Int32) {res : Q}, j_parseOps_l7 n s v1 = some res → j_parseOps_l7_N s res := by intros; apply hrec0; assumption
    intro s v1 res h
    rw [j_parseOps_l7] at h
    by_cases hc195 : v1 < (4:Int32)
    · rw [if_pos hc195] at h
      obtain ⟨hb196, h⟩ := ite_some h
      exact (hrec _ _ h).trans (Eq.trans (show Q.len (Q.mk s.f0 s.f1 s.f2 s.f3 s.f4 s.f5 s.f6 s.f7 s.f8 s.f9 s.f10 s.f11 s.f12 s.f13 s.f14 s.f15 s.f16 s.f17 s.f18 (wr s.f19 v1 (-1:Int32)) s.f20 s.f21 s.f22 s.f23 s.f24 s.f25 s.f26 s.f27 s.f28 s.f29 s.f30 s.f31 s.f32) = Q.len s from own_lenmk.trans (by first | (simp only [len_wr, len_wrL] <;> rfl) | rfl)) rfl)
    · rw [if_neg hc195] at h
      have hr0 := Option.some.inj h
      subst hr0
      show Q.len s = _
      exact rfl
set_option maxRecDepth 100000 in
theorem ev_j_parseOps_l7 (R : AHeap) (scr : List Int32) : ∀ (n : Nat) (s : Q) (v1 : Int32) {res : Q} {out : Option Value × AHeap}, j_parseOps_l7 n s v1 = some res → j_parseOps_l7_K R scr res out → Eval own_P 21 7 [some (.ref 1), some (.int v1), none] [] (W1 scr s R) out := by
 intro n
 induction n with
 | zero => intro _ _ res out h hk; cases h
 | succ n hrec =>
  intro s v1 res out h hk
  rw [j_parseOps_l7] at h
  refine Eval.iload_n rfl rfl ?_
  refine Eval.iconst (x := 4) rfl rfl ?_
  by_cases hc195 : v1 < (4:Int32)
  ·rw [if_pos hc195] at h
   refine Eval.icmpF rfl (tlt hc195).2.1 ?_
   refine Eval.aload_n rfl rfl ?_
   refine Eval.getfield rfl rfl own_g1_openOp ?_
   refine Eval.iload_n rfl rfl ?_
   refine Eval.iconst (x := -1) rfl rfl ?_
   obtain ⟨hb196, h⟩ := ite_some h
   refine Eval.iastore rfl rfl own_a1_openOp hb196 own_s1_openOp ?_
   refine Eval.iinc (L' := [some (.ref 1), some (.int (v1 + (1:Int32))), none]) rfl rfl rfl ?_
   refine Eval.goto (t := 7) rfl rfl ?_
   refine Eval.heap own_mk1 ?_
   exact hrec _ _ h hk
  ·rw [if_neg hc195] at h
   refine Eval.icmpT (t := 25) rfl rfl (flt hc195).2.1 ?_
   cases h
   refine Eval.weak (lw_mk 1 _) ?_
   exact hk
abbrev j_parseOps_l27_K (R : AHeap) (scr : List Int32) (res : Q) (out : Option Value × AHeap) : Prop := Eval own_P 21 101 [none, none, none] [] (W1 scr res R) out

abbrev j_parseOps_l27_N (s res : Q) : Prop := Q.len res = Q.len s
def j_parseOps_b95 (go_ : Q → Int32 → Option (Q)) (s : Q) (v1 : Int32) : Option (Q) := (go_ s (v1 + (1:Int32)))
theorem ln_j_parseOps_b95 {go_ : Q → Int32 → Option (Q)} (hrec : ∀ (s : Q) (v1 : Int32) {res : Q}, go_ s v1 = some res → j_parseOps_l27_N s res) {s : Q} {v1 : Int32} {res : Q} (h : j_parseOps_b95 go_ s v1 = some res) : j_parseOps_l27_N s res := by
  rw [j_parseOps_b95] at h
  exact (hrec _ _ h).trans rfl
set_option maxRecDepth 100000 in
theorem ev_j_parseOps_b95 (R : AHeap) (scr : List Int32) (go_ : Q → Int32 → Option (Q)) (hrec : ∀ (s : Q) (v1 : Int32) {res : Q} {out : Option Value × AHeap}, go_ s v1 = some res → j_parseOps_l27_K R scr res out → Eval own_P 21 27 [some (.ref 1), some (.int v1), none] [] (W1 scr s R) out) (s : Q) (v1 : Int32) {res : Q} {out : Option Value × AHeap} (h : j_parseOps_b95 go_ s v1 = some res) (hk : j_parseOps_l27_K R scr res out) : Eval own_P 21 95 [some (.ref 1), some (.int v1), none] [] (W1 scr s R) out := by
 rw [j_parseOps_b95] at h
 refine Eval.iinc (L' := [some (.ref 1), some (.int (v1 + (1:Int32))), none]) rfl rfl rfl ?_
 refine Eval.goto (t := 27) rfl rfl ?_
 exact hrec _ _ h hk
def j_addOp_b42 (s : Q) (v1 v2 : Int32) (v3 w1 w2 : Int32) : Option (Q) := (if inb s.f12.length w1 = true then (if inb s.f10.length v1 = true then (if inb s.f13.length v3 = true then (if inb s.f14.length v3 = true then (if inb s.f15.length v3 = true then (if inb s.f16.length v3 = true then (if inb s.f17.length v3 = true then (if inb s.f19.length v2 = true then some ((Q.mk s.f0 s.f1 s.f2 s.f3 s.f4 s.f5 s.f6 s.f7 s.f8 s.f9 s.f10 s.f11 (wr s.f12 w1 w2) (wr s.f13 v3 (rd s.f10 v1)) (wr s.f14 v3 v1) (wr s.f15 v3 (-1:Int32)) (wr s.f16 v3 (0:Int32)) (wr s.f17 v3 (0:Int32)) s.f18 (wr s.f19 v2 v3) s.f20 s.f21 s.f22 s.f23 s.f24 s.f25 s.f26 s.f27 s.f28 s.f29 s.f30 (s.f31 + (1:Int32)) s.f32)) else none) else none) else none) else none) else none) else none) else none) else none)
theorem ln_j_addOp_b42 {s : Q} {v1 v2 v3 w1 w2 : Int32} {res : Q} (h : j_addOp_b42 s v1 v2 v3 w1 w2 = some res) : Q.len res = Q.len s := by
  rw [j_addOp_b42] at h
  obtain ⟨hb216, h⟩ := ite_some h
  obtain ⟨hb217, h⟩ := ite_some h
  obtain ⟨hb218, h⟩ := ite_some h
  obtain ⟨hb219, h⟩ := ite_some h
  obtain ⟨hb220, h⟩ := ite_some h
  obtain ⟨hb221, h⟩ := ite_some h
  obtain ⟨hb222, h⟩ := ite_some h
  obtain ⟨hb223, h⟩ := ite_some h
  have hr0 := Option.some.inj h
  subst hr0
  show Q.len (Q.mk s.f0 s.f1 s.f2 s.f3 s.f4 s.f5 s.f6 s.f7 s.f8 s.f9 s.f10 s.f11 (wr s.f12 w1 w2) (wr s.f13 v3 (rd s.f10 v1)) (wr s.f14 v3 v1) (wr s.f15 v3 (-1:Int32)) (wr s.f16 v3 (0:Int32)) (wr s.f17 v3 (0:Int32)) s.f18 (wr s.f19 v2 v3) s.f20 s.f21 s.f22 s.f23 s.f24 s.f25 s.f26 s.f27 s.f28 s.f29 s.f30 (s.f31 + (1:Int32)) s.f32) = _
  exact (Eq.trans (show Q.len (Q.mk s.f0 s.f1 s.f2 s.f3 s.f4 s.f5 s.f6 s.f7 s.f8 s.f9 s.f10 s.f11 (wr s.f12 w1 w2) (wr s.f13 v3 (rd s.f10 v1)) (wr s.f14 v3 v1) (wr s.f15 v3 (-1:Int32)) (wr s.f16 v3 (0:Int32)) (wr s.f17 v3 (0:Int32)) s.f18 (wr s.f19 v2 v3) s.f20 s.f21 s.f22 s.f23 s.f24 s.f25 s.f26 s.f27 s.f28 s.f29 s.f30 (s.f31 + (1:Int32)) s.f32) = Q.len s from own_lenmk.trans (by first | (simp only [len_wr, len_wrL] <;> rfl) | rfl)) rfl)
set_option maxRecDepth 100000 in
theorem ev_j_addOp_b42 (R : AHeap) (scr : List Int32) (s : Q) (v1 v2 : Int32) (v3 w1 w2 : Int32) {res : Q} {out : Option Value × AHeap} (h : j_addOp_b42 s v1 v2 v3 w1 w2 = some res) (hk : out = (none, (W1 scr res R))) : Eval own_P 22 42 [some (.ref 1), some (.int v1), some (.int v2), some (.int v3)] [.int w2, .int w1, .ref 14] (W1 scr s R) out := by
 rw [j_addOp_b42] at h
 obtain ⟨hb216, h⟩ := ite_some h
 refine Eval.iastore rfl rfl own_a1_opKind hb216 own_s1_opKind ?_
 refine Eval.aload_n rfl rfl ?_
 refine Eval.getfield rfl rfl own_g1_opArg ?_
 refine Eval.iload_n rfl rfl ?_
 refine Eval.aload_n rfl rfl ?_
 refine Eval.getfield rfl rfl own_g1_evVal ?_
 refine Eval.iload_n rfl rfl ?_
 obtain ⟨hb217, h⟩ := ite_some h
 refine Eval.iaload rfl own_a1_evVal hb217 ?_
 obtain ⟨hb218, h⟩ := ite_some h
 refine Eval.iastore rfl rfl own_a1_opArg hb218 own_s1_opArg ?_
 refine Eval.aload_n rfl rfl ?_
 refine Eval.getfield rfl rfl own_g1_opInv ?_
 refine Eval.iload_n rfl rfl ?_
 refine Eval.iload_n rfl rfl ?_
 obtain ⟨hb219, h⟩ := ite_some h
 refine Eval.iastore rfl rfl own_a1_opInv hb219 own_s1_opInv ?_
 refine Eval.aload_n rfl rfl ?_
 refine Eval.getfield rfl rfl own_g1_opRes ?_
 refine Eval.iload_n rfl rfl ?_
 refine Eval.iconst (x := -1) rfl rfl ?_
 obtain ⟨hb220, h⟩ := ite_some h
 refine Eval.iastore rfl rfl own_a1_opRes hb220 own_s1_opRes ?_
 refine Eval.aload_n rfl rfl ?_
 refine Eval.getfield rfl rfl own_g1_opStatus ?_
 refine Eval.iload_n rfl rfl ?_
 refine Eval.iconst (x := 0) rfl rfl ?_
 obtain ⟨hb221, h⟩ := ite_some h
 refine Eval.iastore rfl rfl own_a1_opStatus hb221 own_s1_opStatus ?_
 refine Eval.aload_n rfl rfl ?_
 refine Eval.getfield rfl rfl own_g1_opRVal ?_
 refine Eval.iload_n rfl rfl ?_
 refine Eval.iconst (x := 0) rfl rfl ?_
 obtain ⟨hb222, h⟩ := ite_some h
 refine Eval.iastore rfl rfl own_a1_opRVal hb222 own_s1_opRVal ?_
 refine Eval.aload_n rfl rfl ?_
 refine Eval.getfield rfl rfl own_g1_openOp ?_
 refine Eval.iload_n rfl rfl ?_
 refine Eval.iload_n rfl rfl ?_
 obtain ⟨hb223, h⟩ := ite_some h
 refine Eval.iastore rfl rfl own_a1_openOp hb223 own_s1_openOp ?_
 refine Eval.aload_n rfl rfl ?_
 refine Eval.dupR rfl ?_
 refine Eval.getfield rfl rfl own_g1_opCount ?_
 refine Eval.iconst (x := 1) rfl rfl ?_
 refine Eval.iadd rfl ?_
 refine Eval.putfield rfl rfl own_p1_opCount ?_
 cases h
 subst hk
 exact Eval.retH own_mk1 rfl rfl
def j_addOp (s : Q) (v1 v2 : Int32) : Option (Q) := (if s.f31 < (0:Int32) then some (s) else (if s.f31 < (6:Int32) then (if inb s.f8.length v1 = true then (j_addOp_b42 s v1 v2 s.f31 s.f31 (if (rd s.f8 v1) = (1:Int32) then (1:Int32) else (2:Int32))) else none) else some (s)))
theorem ln_j_addOp {s : Q} {v1 v2 : Int32} {res : Q} (h : j_addOp s v1 v2 = some res) : Q.len res = Q.len s := by
  rw [j_addOp] at h
  by_cases hc211 : s.f31 < (0:Int32)
  · rw [if_pos hc211] at h
    have hr0 := Option.some.inj h
    subst hr0
    show Q.len s = _
    exact rfl
  · rw [if_neg hc211] at h
    by_cases hc212 : s.f31 < (6:Int32)
    · rw [if_pos hc212] at h
      obtain ⟨hb213, h⟩ := ite_some h
      exact Eq.trans (ln_j_addOp_b42 h) rfl
    · rw [if_neg hc212] at h
      have hr0 := Option.some.inj h
      subst hr0
      show Q.len s = _
      exact rfl
set_option maxRecDepth 100000 in
theorem ev_j_addOp (R : AHeap) (scr : List Int32) (s : Q) (v1 v2 : Int32) {res : Q} {out : Option Value × AHeap} (h : j_addOp s v1 v2 = some res) (hk : out = (none, (W1 scr res R))) : Eval own_P 22 0 [some (.ref 1), some (.int v1), some (.int v2), none] [] (W1 scr s R) out := by
 rw [j_addOp] at h
 refine Eval.aload_n rfl rfl ?_
 refine Eval.getfield rfl rfl own_g1_opCount ?_
 by_cases hc211 : s.f31 < (0:Int32)
 ·rw [if_pos hc211] at h
  refine Eval.ifT (t := 16) rfl rfl (tlt hc211).1 ?_
  cases h
  subst hk
  exact Eval.ret rfl rfl
 ·rw [if_neg hc211] at h
  refine Eval.ifF rfl (flt hc211).1 ?_
  refine Eval.aload_n rfl rfl ?_
  refine Eval.getfield rfl rfl own_g1_opCount ?_
  refine Eval.bipush (x := 6) rfl rfl ?_
  by_cases hc212 : s.f31 < (6:Int32)
  ·rw [if_pos hc212] at h
   refine Eval.icmpT (t := 17) rfl rfl (tlt hc212).1 ?_
   refine Eval.aload_n rfl rfl ?_
   refine Eval.getfield rfl rfl own_g1_opCount ?_
   refine Eval.istore_n (L' := [some (.ref 1), some (.int v1), some (.int v2), some (.int s.f31)]) rfl rfl ?_
   refine Eval.aload_n rfl rfl ?_
   refine Eval.getfield rfl rfl own_g1_opKind ?_
   refine Eval.iload_n rfl rfl ?_
   refine Eval.aload_n rfl rfl ?_
   refine Eval.getfield rfl rfl own_g1_evKind ?_
   refine Eval.iload_n rfl rfl ?_
   obtain ⟨hb213, h⟩ := ite_some h
   refine Eval.iaload rfl own_a1_evKind hb213 ?_
   refine Eval.iconst (x := 1) rfl rfl ?_
   suffices hJ215 : Eval own_P 22 42 [some (.ref 1), some (.int v1), some (.int v2), some (.int s.f31)] [.int (if (rd s.f8 v1) = (1:Int32) then (1:Int32) else (2:Int32)), .int s.f31, .ref 14] (W1 scr s R) out by
    by_cases hc214 : (rd s.f8 v1) = (1:Int32)
    ·refine Eval.icmpF rfl (teq hc214).2 ?_
     refine Eval.iconst (x := 1) rfl rfl ?_
     refine Eval.goto (t := 42) rfl rfl ?_
     exact (Eval.conv hJ215 rfl (by simp only [if_pos hc214]))
    ·refine Eval.icmpT (t := 41) rfl rfl (feq hc214).2 ?_
     refine Eval.iconst (x := 2) rfl rfl ?_
     exact (Eval.conv hJ215 rfl (by simp only [if_neg hc214]))
   exact ev_j_addOp_b42 R scr s v1 v2 s.f31 s.f31 (if (rd s.f8 v1) = (1:Int32) then (1:Int32) else (2:Int32)) h hk
  ·rw [if_neg hc212] at h
   refine Eval.icmpF rfl (flt hc212).1 ?_
   cases h
   subst hk
   exact Eval.ret rfl rfl
def j_parseOps_b80 (go_ : Q → Int32 → Option (Q)) (s : Q) (v1 v2 : Int32) : Option (Q) := ((j_addOp s v1 v2).bind fun p224 => (j_parseOps_b95 (go_) p224 v1))
theorem ln_j_parseOps_b80 {go_ : Q → Int32 → Option (Q)} (hrec : ∀ (s : Q) (v1 : Int32) {res : Q}, go_ s v1 = some res → j_parseOps_l27_N s res) {s : Q} {v1 v2 : Int32} {res : Q} (h : j_parseOps_b80 go_ s v1 v2 = some res) : j_parseOps_l27_N s res := by
  rw [j_parseOps_b80] at h
  obtain ⟨p224, hq225, h⟩ := bind_some h
  have hl226 := (ln_j_addOp hq225).trans rfl
  exact Eq.trans (ln_j_parseOps_b95 hrec h) hl226
set_option maxRecDepth 100000 in
theorem ev_j_parseOps_b80 (R : AHeap) (scr : List Int32) (go_ : Q → Int32 → Option (Q)) (hrec : ∀ (s : Q) (v1 : Int32) {res : Q} {out : Option Value × AHeap}, go_ s v1 = some res → j_parseOps_l27_K R scr res out → Eval own_P 21 27 [some (.ref 1), some (.int v1), none] [] (W1 scr s R) out) (s : Q) (v1 v2 : Int32) {res : Q} {out : Option Value × AHeap} (h : j_parseOps_b80 go_ s v1 v2 = some res) (hk : j_parseOps_l27_K R scr res out) : Eval own_P 21 80 [some (.ref 1), some (.int v1), some (.int v2)] [] (W1 scr s R) out := by
 rw [j_parseOps_b80] at h
 refine Eval.aload_n rfl rfl ?_
 refine Eval.iload_n rfl rfl ?_
 refine Eval.iload_n rfl rfl ?_
 obtain ⟨p224, hq225, h⟩ := bind_some h
 refine Eval.callN (rest := []) (H1 := (W1 scr p224 R)) rfl rfl (ev_j_addOp R scr s v1 v2 hq225 rfl) ?_
 refine Eval.goto (t := 95) rfl rfl ?_
 refine Eval.weak (lw_mk 3 _) ?_
 exact ev_j_parseOps_b95 R scr _ hrec p224 v1 h hk
def j_closeOp_b59 (s : Q) (v1 v2 : Int32) (v3 w1 w2 : Int32) : Option (Q) := (if inb s.f16.length w1 = true then (if inb s.f10.length v1 = true then (if inb s.f17.length v3 = true then (if inb s.f19.length v2 = true then some ((Q.mk s.f0 s.f1 s.f2 s.f3 s.f4 s.f5 s.f6 s.f7 s.f8 s.f9 s.f10 s.f11 s.f12 s.f13 s.f14 s.f15 (wr s.f16 w1 w2) (wr s.f17 v3 (rd s.f10 v1)) s.f18 (wr s.f19 v2 (-1:Int32)) s.f20 s.f21 s.f22 s.f23 s.f24 s.f25 s.f26 s.f27 s.f28 s.f29 s.f30 s.f31 s.f32)) else none) else none) else none) else none)
theorem ln_j_closeOp_b59 {s : Q} {v1 v2 v3 w1 w2 : Int32} {res : Q} (h : j_closeOp_b59 s v1 v2 v3 w1 w2 = some res) : Q.len res = Q.len s := by
  rw [j_closeOp_b59] at h
  obtain ⟨hb238, h⟩ := ite_some h
  obtain ⟨hb239, h⟩ := ite_some h
  obtain ⟨hb240, h⟩ := ite_some h
  obtain ⟨hb241, h⟩ := ite_some h
  have hr0 := Option.some.inj h
  subst hr0
  show Q.len (Q.mk s.f0 s.f1 s.f2 s.f3 s.f4 s.f5 s.f6 s.f7 s.f8 s.f9 s.f10 s.f11 s.f12 s.f13 s.f14 s.f15 (wr s.f16 w1 w2) (wr s.f17 v3 (rd s.f10 v1)) s.f18 (wr s.f19 v2 (-1:Int32)) s.f20 s.f21 s.f22 s.f23 s.f24 s.f25 s.f26 s.f27 s.f28 s.f29 s.f30 s.f31 s.f32) = _
  exact (Eq.trans (show Q.len (Q.mk s.f0 s.f1 s.f2 s.f3 s.f4 s.f5 s.f6 s.f7 s.f8 s.f9 s.f10 s.f11 s.f12 s.f13 s.f14 s.f15 (wr s.f16 w1 w2) (wr s.f17 v3 (rd s.f10 v1)) s.f18 (wr s.f19 v2 (-1:Int32)) s.f20 s.f21 s.f22 s.f23 s.f24 s.f25 s.f26 s.f27 s.f28 s.f29 s.f30 s.f31 s.f32) = Q.len s from own_lenmk.trans (by first | (simp only [len_wr, len_wrL] <;> rfl) | rfl)) rfl)
set_option maxRecDepth 100000 in
theorem ev_j_closeOp_b59 (R : AHeap) (scr : List Int32) (s : Q) (v1 v2 : Int32) (v3 w1 w2 : Int32) {res : Q} {out : Option Value × AHeap} (h : j_closeOp_b59 s v1 v2 v3 w1 w2 = some res) (hk : out = (none, (W1 scr res R))) : Eval own_P 23 59 [some (.ref 1), some (.int v1), some (.int v2), some (.int v3), none] [.int w2, .int w1, .ref 18] (W1 scr s R) out := by
 rw [j_closeOp_b59] at h
 obtain ⟨hb238, h⟩ := ite_some h
 refine Eval.iastore rfl rfl own_a1_opStatus hb238 own_s1_opStatus ?_
 refine Eval.aload_n rfl rfl ?_
 refine Eval.getfield rfl rfl own_g1_opRVal ?_
 refine Eval.iload_n rfl rfl ?_
 refine Eval.aload_n rfl rfl ?_
 refine Eval.getfield rfl rfl own_g1_evVal ?_
 refine Eval.iload_n rfl rfl ?_
 obtain ⟨hb239, h⟩ := ite_some h
 refine Eval.iaload rfl own_a1_evVal hb239 ?_
 obtain ⟨hb240, h⟩ := ite_some h
 refine Eval.iastore rfl rfl own_a1_opRVal hb240 own_s1_opRVal ?_
 refine Eval.aload_n rfl rfl ?_
 refine Eval.getfield rfl rfl own_g1_openOp ?_
 refine Eval.iload_n rfl rfl ?_
 refine Eval.iconst (x := -1) rfl rfl ?_
 obtain ⟨hb241, h⟩ := ite_some h
 refine Eval.iastore rfl rfl own_a1_openOp hb241 own_s1_openOp ?_
 cases h
 subst hk
 exact Eval.retH own_mk1 rfl rfl
def j_closeOp (s : Q) (v1 v2 : Int32) : Option (Q) := (if inb s.f19.length v2 = true then (if (rd s.f19 v2) < (0:Int32) then some (s) else (if (rd s.f19 v2) < (6:Int32) then (if inb s.f8.length v1 = true then (if inb s.f15.length (rd s.f19 v2) = true then (j_closeOp_b59 (Q.mk s.f0 s.f1 s.f2 s.f3 s.f4 s.f5 s.f6 s.f7 s.f8 s.f9 s.f10 s.f11 s.f12 s.f13 s.f14 (wr s.f15 (rd s.f19 v2) v1) s.f16 s.f17 s.f18 s.f19 s.f20 s.f21 s.f22 s.f23 s.f24 s.f25 s.f26 s.f27 s.f28 s.f29 s.f30 s.f31 s.f32) v1 v2 (rd s.f19 v2) (rd s.f19 v2) (if (rd s.f8 v1) = (4:Int32) then (2:Int32) else (if (rd s.f8 v1) = (5:Int32) then (3:Int32) else (1:Int32)))) else none) else none) else some (s))) else none)
theorem ln_j_closeOp {s : Q} {v1 v2 : Int32} {res : Q} (h : j_closeOp s v1 v2 = some res) : Q.len res = Q.len s := by
  rw [j_closeOp] at h
  obtain ⟨hb230, h⟩ := ite_some h
  by_cases hc231 : (rd s.f19 v2) < (0:Int32)
  · rw [if_pos hc231] at h
    have hr0 := Option.some.inj h
    subst hr0
    show Q.len s = _
    exact rfl
  · rw [if_neg hc231] at h
    by_cases hc232 : (rd s.f19 v2) < (6:Int32)
    · rw [if_pos hc232] at h
      obtain ⟨hb233, h⟩ := ite_some h
      obtain ⟨hb234, h⟩ := ite_some h
      exact Eq.trans (ln_j_closeOp_b59 h) (Eq.trans (show Q.len (Q.mk s.f0 s.f1 s.f2 s.f3 s.f4 s.f5 s.f6 s.f7 s.f8 s.f9 s.f10 s.f11 s.f12 s.f13 s.f14 (wr s.f15 (rd s.f19 v2) v1) s.f16 s.f17 s.f18 s.f19 s.f20 s.f21 s.f22 s.f23 s.f24 s.f25 s.f26 s.f27 s.f28 s.f29 s.f30 s.f31 s.f32) = Q.len s from own_lenmk.trans (by first | (simp only [len_wr, len_wrL] <;> rfl) | rfl)) rfl)
    · rw [if_neg hc232] at h
      have hr0 := Option.some.inj h
      subst hr0
      show Q.len s = _
      exact rfl
set_option maxRecDepth 100000 in
theorem ev_j_closeOp (R : AHeap) (scr : List Int32) (s : Q) (v1 v2 : Int32) {res : Q} {out : Option Value × AHeap} (h : j_closeOp s v1 v2 = some res) (hk : out = (none, (W1 scr res R))) : Eval own_P 23 0 [some (.ref 1), some (.int v1), some (.int v2), none, none] [] (W1 scr s R) out := by
 rw [j_closeOp] at h
 refine Eval.aload_n rfl rfl ?_
 refine Eval.getfield rfl rfl own_g1_openOp ?_
 refine Eval.iload_n rfl rfl ?_
 obtain ⟨hb230, h⟩ := ite_some h
 refine Eval.iaload rfl own_a1_openOp hb230 ?_
 refine Eval.istore_n (L' := [some (.ref 1), some (.int v1), some (.int v2), some (.int (rd s.f19 v2)), none]) rfl rfl ?_
 refine Eval.iload_n rfl rfl ?_
 by_cases hc231 : (rd s.f19 v2) < (0:Int32)
 ·rw [if_pos hc231] at h
  refine Eval.ifT (t := 17) rfl rfl (tlt hc231).1 ?_
  cases h
  subst hk
  exact Eval.ret rfl rfl
 ·rw [if_neg hc231] at h
  refine Eval.ifF rfl (flt hc231).1 ?_
  refine Eval.iload_n rfl rfl ?_
  refine Eval.bipush (x := 6) rfl rfl ?_
  by_cases hc232 : (rd s.f19 v2) < (6:Int32)
  ·rw [if_pos hc232] at h
   refine Eval.icmpT (t := 18) rfl rfl (tlt hc232).1 ?_
   refine Eval.aload_n rfl rfl ?_
   refine Eval.getfield rfl rfl own_g1_evKind ?_
   refine Eval.iload_n rfl rfl ?_
   obtain ⟨hb233, h⟩ := ite_some h
   refine Eval.iaload rfl own_a1_evKind hb233 ?_
   refine Eval.istore (L' := [some (.ref 1), some (.int v1), some (.int v2), some (.int (rd s.f19 v2)), some (.int (rd s.f8 v1))]) rfl rfl ?_
   refine Eval.aload_n rfl rfl ?_
   refine Eval.getfield rfl rfl own_g1_opRes ?_
   refine Eval.iload_n rfl rfl ?_
   refine Eval.iload_n rfl rfl ?_
   obtain ⟨hb234, h⟩ := ite_some h
   refine Eval.iastore rfl rfl own_a1_opRes hb234 own_s1_opRes ?_
   refine Eval.aload_n rfl rfl ?_
   refine Eval.getfield rfl rfl own_g1_opStatus ?_
   refine Eval.iload_n rfl rfl ?_
   refine Eval.iload rfl rfl ?_
   refine Eval.iconst (x := 4) rfl rfl ?_
   suffices hJ237 : Eval own_P 23 59 [some (.ref 1), some (.int v1), some (.int v2), some (.int (rd s.f19 v2)), none] [.int (if (rd s.f8 v1) = (4:Int32) then (2:Int32) else (if (rd s.f8 v1) = (5:Int32) then (3:Int32) else (1:Int32))), .int (rd s.f19 v2), .ref 18] (C1 scr s.f0 s.f1 s.f2 s.f3 s.f4 s.f5 s.f6 s.f7 s.f8 s.f9 s.f10 s.f11 s.f12 s.f13 s.f14 (wr s.f15 (rd s.f19 v2) v1) s.f16 s.f17 s.f18 s.f19 s.f20 s.f21 s.f22 s.f23 s.f24 s.f25 s.f26 s.f27 s.f28 s.f29 s.f30 s.f31 s.f32 R) out by
    by_cases hc235 : (rd s.f8 v1) = (4:Int32)
    ·refine Eval.icmpF rfl (teq hc235).2 ?_
     refine Eval.iconst (x := 2) rfl rfl ?_
     refine Eval.goto (t := 59) rfl rfl ?_
     refine Eval.weak (lw_mk 15 _) ?_
     exact (Eval.conv hJ237 rfl (by simp only [if_pos hc235]))
    ·refine Eval.icmpT (t := 48) rfl rfl (feq hc235).2 ?_
     refine Eval.iload rfl rfl ?_
     refine Eval.iconst (x := 5) rfl rfl ?_
     by_cases hc236 : (rd s.f8 v1) = (5:Int32)
     ·refine Eval.icmpF rfl (teq hc236).2 ?_
      refine Eval.iconst (x := 3) rfl rfl ?_
      refine Eval.goto (t := 59) rfl rfl ?_
      refine Eval.weak (lw_mk 15 _) ?_
      exact (Eval.conv hJ237 rfl (by simp only [if_neg hc235, if_pos hc236]))
     ·refine Eval.icmpT (t := 58) rfl rfl (feq hc236).2 ?_
      refine Eval.iconst (x := 1) rfl rfl ?_
      refine Eval.weak (lw_mk 15 _) ?_
      exact (Eval.conv hJ237 rfl (by simp only [if_neg hc235, if_neg hc236]))
   refine Eval.heap own_mk1 ?_
   exact ev_j_closeOp_b59 R scr (Q.mk s.f0 s.f1 s.f2 s.f3 s.f4 s.f5 s.f6 s.f7 s.f8 s.f9 s.f10 s.f11 s.f12 s.f13 s.f14 (wr s.f15 (rd s.f19 v2) v1) s.f16 s.f17 s.f18 s.f19 s.f20 s.f21 s.f22 s.f23 s.f24 s.f25 s.f26 s.f27 s.f28 s.f29 s.f30 s.f31 s.f32) v1 v2 (rd s.f19 v2) (rd s.f19 v2) (if (rd s.f8 v1) = (4:Int32) then (2:Int32) else (if (rd s.f8 v1) = (5:Int32) then (3:Int32) else (1:Int32))) h hk
  ·rw [if_neg hc232] at h
   refine Eval.icmpF rfl (flt hc232).1 ?_
   cases h
   subst hk
   exact Eval.ret rfl rfl
def j_parseOps_l27 : Nat → Q → Int32 → Option (Q)
  | 0, _, _ => none
  | n + 1, s, v1 => (if v1 < (64:Int32) then (if v1 < s.f29 then (if inb s.f9.length v1 = true then (if (rd s.f9 v1) < (0:Int32) then (j_parseOps_b95 (j_parseOps_l27 n) s v1) else (if (3:Int32) < (rd s.f9 v1) then (j_parseOps_b95 (j_parseOps_l27 n) s v1) else (if inb s.f8.length v1 = true then (if (rd s.f8 v1) = (1:Int32) then (j_parseOps_b80 (j_parseOps_l27 n) s v1 (rd s.f9 v1)) else (if inb s.f8.length v1 = true then (if (rd s.f8 v1) = (2:Int32) then (j_parseOps_b80 (j_parseOps_l27 n) s v1 (rd s.f9 v1)) else ((j_closeOp s v1 (rd s.f9 v1)).bind fun p242 => (j_parseOps_b95 (j_parseOps_l27 n) p242 v1))) else none)) else none))) else none) else some (s)) else some (s))
theorem ln_j_parseOps_l27 : ∀ {n : Nat} {s : Q} {v1 : Int32} {res : Q}, j_parseOps_l27 n s v1 = some res → j_parseOps_l27_N s res := by
  intro n
  induction n with
  | zero => intro _ _ res h; cases h
  | succ n hrec0 =>
    have hrec : ∀ (s : Q) (v1 : Int32) {res : Q}, j_parseOps_l27 n s v1 = some res → j_parseOps_l27_N s res := by intros; apply hrec0; assumption
    intro s v1 res h
    rw [j_parseOps_l27] at h
    by_cases hc200 : v1 < (64:Int32)
    · rw [if_pos hc200] at h
      by_cases hc201 : v1 < s.f29
      · rw [if_pos hc201] at h
        obtain ⟨hb202, h⟩ := ite_some h
        by_cases hc205 : (rd s.f9 v1) < (0:Int32)
        · rw [if_pos hc205] at h
          exact Eq.trans (ln_j_parseOps_b95 hrec h) rfl
        · rw [if_neg hc205] at h
          by_cases hc207 : (3:Int32) < (rd s.f9 v1)
          · rw [if_pos hc207] at h
            exact Eq.trans (ln_j_parseOps_b95 hrec h) rfl
          · rw [if_neg hc207] at h
            obtain ⟨hb208, h⟩ := ite_some h
            by_cases hc210 : (rd s.f8 v1) = (1:Int32)
            · rw [if_pos hc210] at h
              exact Eq.trans (ln_j_parseOps_b80 hrec h) rfl
            · rw [if_neg hc210] at h
              obtain ⟨hb227, h⟩ := ite_some h
              by_cases hc229 : (rd s.f8 v1) = (2:Int32)
              · rw [if_pos hc229] at h
                exact Eq.trans (ln_j_parseOps_b80 hrec h) rfl
              · rw [if_neg hc229] at h
                obtain ⟨p242, hq243, h⟩ := bind_some h
                have hl244 := (ln_j_closeOp hq243).trans rfl
                exact Eq.trans (ln_j_parseOps_b95 hrec h) hl244
      · rw [if_neg hc201] at h
        have hr0 := Option.some.inj h
        subst hr0
        show Q.len s = _
        exact rfl
    · rw [if_neg hc200] at h
      have hr0 := Option.some.inj h
      subst hr0
      show Q.len s = _
      exact rfl
set_option maxRecDepth 100000 in
theorem ev_j_parseOps_l27 (R : AHeap) (scr : List Int32) : ∀ (n : Nat) (s : Q) (v1 : Int32) {res : Q} {out : Option Value × AHeap}, j_parseOps_l27 n s v1 = some res → j_parseOps_l27_K R scr res out → Eval own_P 21 27 [some (.ref 1), some (.int v1), none] [] (W1 scr s R) out := by
 intro n
 induction n with
 | zero => intro _ _ res out h hk; cases h
 | succ n hrec =>
  intro s v1 res out h hk
  rw [j_parseOps_l27] at h
  refine Eval.iload_n rfl rfl ?_
  refine Eval.bipush (x := 64) rfl rfl ?_
  by_cases hc200 : v1 < (64:Int32)
  ·rw [if_pos hc200] at h
   refine Eval.icmpF rfl (tlt hc200).2.1 ?_
   refine Eval.iload_n rfl rfl ?_
   refine Eval.aload_n rfl rfl ?_
   refine Eval.getfield rfl rfl own_g1_histLen ?_
   by_cases hc201 : v1 < s.f29
   ·rw [if_pos hc201] at h
    refine Eval.icmpF rfl (tlt hc201).2.1 ?_
    refine Eval.aload_n rfl rfl ?_
    refine Eval.getfield rfl rfl own_g1_evThread ?_
    refine Eval.iload_n rfl rfl ?_
    obtain ⟨hb202, h⟩ := ite_some h
    refine Eval.iaload rfl own_a1_evThread hb202 ?_
    refine Eval.istore_n (L' := [some (.ref 1), some (.int v1), some (.int (rd s.f9 v1))]) rfl rfl ?_
    refine Eval.iload_n rfl rfl ?_
    by_cases hc205 : (rd s.f9 v1) < (0:Int32)
    ·rw [if_pos hc205] at h
     refine Eval.ifT (t := 95) rfl rfl (tlt hc205).1 ?_
     refine Eval.weak (lw_mk 3 _) ?_
     exact ev_j_parseOps_b95 R scr _ hrec s v1 h hk
    ·rw [if_neg hc205] at h
     refine Eval.ifF rfl (flt hc205).1 ?_
     refine Eval.iload_n rfl rfl ?_
     refine Eval.iconst (x := 3) rfl rfl ?_
     by_cases hc207 : (3:Int32) < (rd s.f9 v1)
     ·rw [if_pos hc207] at h
      refine Eval.icmpF rfl (tlt hc207).2.2.2 ?_
      refine Eval.goto (t := 95) rfl rfl ?_
      refine Eval.weak (lw_mk 3 _) ?_
      exact ev_j_parseOps_b95 R scr _ hrec s v1 h hk
     ·rw [if_neg hc207] at h
      refine Eval.icmpT (t := 60) rfl rfl (flt hc207).2.2.2 ?_
      refine Eval.aload_n rfl rfl ?_
      refine Eval.getfield rfl rfl own_g1_evKind ?_
      refine Eval.iload_n rfl rfl ?_
      obtain ⟨hb208, h⟩ := ite_some h
      refine Eval.iaload rfl own_a1_evKind hb208 ?_
      refine Eval.iconst (x := 1) rfl rfl ?_
      by_cases hc210 : (rd s.f8 v1) = (1:Int32)
      ·rw [if_pos hc210] at h
       refine Eval.icmpT (t := 80) rfl rfl (teq hc210).1 ?_
       exact ev_j_parseOps_b80 R scr _ hrec s v1 (rd s.f9 v1) h hk
      ·rw [if_neg hc210] at h
       refine Eval.icmpF rfl (feq hc210).1 ?_
       refine Eval.aload_n rfl rfl ?_
       refine Eval.getfield rfl rfl own_g1_evKind ?_
       refine Eval.iload_n rfl rfl ?_
       obtain ⟨hb227, h⟩ := ite_some h
       refine Eval.iaload rfl own_a1_evKind hb227 ?_
       refine Eval.iconst (x := 2) rfl rfl ?_
       by_cases hc229 : (rd s.f8 v1) = (2:Int32)
       ·rw [if_pos hc229] at h
        refine Eval.icmpF rfl (teq hc229).2 ?_
        exact ev_j_parseOps_b80 R scr _ hrec s v1 (rd s.f9 v1) h hk
       ·rw [if_neg hc229] at h
        refine Eval.icmpT (t := 89) rfl rfl (feq hc229).2 ?_
        refine Eval.aload_n rfl rfl ?_
        refine Eval.iload_n rfl rfl ?_
        refine Eval.iload_n rfl rfl ?_
        obtain ⟨p242, hq243, h⟩ := bind_some h
        refine Eval.callN (rest := []) (H1 := (W1 scr p242 R)) rfl rfl (ev_j_closeOp R scr s v1 (rd s.f9 v1) hq243 rfl) ?_
        refine Eval.weak (lw_mk 3 _) ?_
        exact ev_j_parseOps_b95 R scr _ hrec p242 v1 h hk
   ·rw [if_neg hc201] at h
    refine Eval.icmpT (t := 101) rfl rfl (flt hc201).2.1 ?_
    cases h
    refine Eval.weak (lw_mk 0 _) ?_
    exact hk
  ·rw [if_neg hc200] at h
   refine Eval.icmpT (t := 101) rfl rfl (flt hc200).2.1 ?_
   cases h
   refine Eval.weak (lw_mk 0 _) ?_
   exact hk
def j_parseOps (s : Q) : Option (Q) := ((j_parseOps_l7 3000 (Q.mk s.f0 s.f1 s.f2 s.f3 s.f4 s.f5 s.f6 s.f7 s.f8 s.f9 s.f10 s.f11 s.f12 s.f13 s.f14 s.f15 s.f16 s.f17 s.f18 s.f19 s.f20 s.f21 s.f22 s.f23 s.f24 s.f25 s.f26 s.f27 s.f28 s.f29 s.f30 (0:Int32) s.f32) (0:Int32)).bind fun p197 => ((j_parseOps_l27 3000 p197 (0:Int32)).bind fun p245 => some (p245)))
theorem ln_j_parseOps {s res : Q} (h : j_parseOps s = some res) : Q.len res = Q.len s := by
  rw [j_parseOps] at h
  obtain ⟨p197, hq198, h⟩ := bind_some h
  have hl199 : Q.len p197 = _ := Eq.trans (ln_j_parseOps_l7 hq198) (Eq.trans (show Q.len (Q.mk s.f0 s.f1 s.f2 s.f3 s.f4 s.f5 s.f6 s.f7 s.f8 s.f9 s.f10 s.f11 s.f12 s.f13 s.f14 s.f15 s.f16 s.f17 s.f18 s.f19 s.f20 s.f21 s.f22 s.f23 s.f24 s.f25 s.f26 s.f27 s.f28 s.f29 s.f30 (0:Int32) s.f32) = Q.len s from own_lenmk.trans (by first | (simp only [len_wr, len_wrL] <;> rfl) | rfl)) rfl)
  obtain ⟨p245, hq246, h⟩ := bind_some h
  have hl247 : Q.len p245 = _ := Eq.trans (ln_j_parseOps_l27 hq246) hl199
  have hr0 := Option.some.inj h
  subst hr0
  show Q.len p245 = _
  exact hl247
set_option maxRecDepth 100000 in
theorem ev_j_parseOps (R : AHeap) (scr : List Int32) (s : Q) {res : Q} {out : Option Value × AHeap} (h : j_parseOps s = some res) (hk : out = (none, (W1 scr res R))) : Eval own_P 21 0 [some (.ref 1), none, none] [] (W1 scr s R) out := by
 rw [j_parseOps] at h
 refine Eval.aload_n rfl rfl ?_
 refine Eval.iconst (x := 0) rfl rfl ?_
 refine Eval.putfield rfl rfl own_p1_opCount ?_
 refine Eval.iconst (x := 0) rfl rfl ?_
 refine Eval.istore_n (L' := [some (.ref 1), some (.int 0), none]) rfl rfl ?_
 refine Eval.heap own_mk1 ?_
 obtain ⟨p197, hq198, h⟩ := bind_some h
 refine ev_j_parseOps_l7 R scr _ (Q.mk s.f0 s.f1 s.f2 s.f3 s.f4 s.f5 s.f6 s.f7 s.f8 s.f9 s.f10 s.f11 s.f12 s.f13 s.f14 s.f15 s.f16 s.f17 s.f18 s.f19 s.f20 s.f21 s.f22 s.f23 s.f24 s.f25 s.f26 s.f27 s.f28 s.f29 s.f30 (0:Int32) s.f32) (0:Int32) hq198 ?_
 show Eval own_P 21 25 [some (.ref 1), none, none] [] (W1 scr p197 R) out
 refine Eval.iconst (x := 0) rfl rfl ?_
 refine Eval.istore_n (L' := [some (.ref 1), some (.int 0), none]) rfl rfl ?_
 obtain ⟨p245, hq246, h⟩ := bind_some h
 refine ev_j_parseOps_l27 R scr _ p197 (0:Int32) hq246 ?_
 show Eval own_P 21 101 [none, none, none] [] (W1 scr p245 R) out
 cases h
 subst hk
 exact Eval.ret rfl rfl
abbrev j_buildPreds_l7_K (R : AHeap) (scr : List Int32) (res : Q) (out : Option Value × AHeap) : Prop := Eval own_P 24 55 [some (.ref 1), none, none] [] (W1 scr res R) out

abbrev j_buildPreds_l7_N (s res : Q) : Prop := Q.len res = Q.len s
def j_buildPreds_b49 (go_ : Q → Int32 → Option (Q)) (s : Q) (v1 : Int32) : Option (Q) := (go_ s (v1 + (1:Int32)))
theorem ln_j_buildPreds_b49 {go_ : Q → Int32 → Option (Q)} (hrec : ∀ (s : Q) (v1 : Int32) {res : Q}, go_ s v1 = some res → j_buildPreds_l7_N s res) {s : Q} {v1 : Int32} {res : Q} (h : j_buildPreds_b49 go_ s v1 = some res) : j_buildPreds_l7_N s res := by
  rw [j_buildPreds_b49] at h
  exact (hrec _ _ h).trans rfl
set_option maxRecDepth 100000 in
theorem ev_j_buildPreds_b49 (R : AHeap) (scr : List Int32) (go_ : Q → Int32 → Option (Q)) (hrec : ∀ (s : Q) (v1 : Int32) {res : Q} {out : Option Value × AHeap}, go_ s v1 = some res → j_buildPreds_l7_K R scr res out → Eval own_P 24 7 [some (.ref 1), some (.int v1), none] [] (W1 scr s R) out) (s : Q) (v1 : Int32) {res : Q} {out : Option Value × AHeap} (h : j_buildPreds_b49 go_ s v1 = some res) (hk : j_buildPreds_l7_K R scr res out) : Eval own_P 24 49 [some (.ref 1), some (.int v1), none] [] (W1 scr s R) out := by
 rw [j_buildPreds_b49] at h
 refine Eval.iinc (L' := [some (.ref 1), some (.int (v1 + (1:Int32))), none]) rfl rfl rfl ?_
 refine Eval.goto (t := 7) rfl rfl ?_
 exact hrec _ _ h hk
def j_buildPreds_l7 : Nat → Q → Int32 → Option (Q)
  | 0, _, _ => none
  | n + 1, s, v1 => (if v1 < (6:Int32) then (if v1 < s.f31 then (if inb s.f18.length v1 = true then (if inb s.f15.length v1 = true then (if (rd s.f15 v1) < (0:Int32) then (j_buildPreds_b49 (j_buildPreds_l7 n) (Q.mk s.f0 s.f1 s.f2 s.f3 s.f4 s.f5 s.f6 s.f7 s.f8 s.f9 s.f10 s.f11 s.f12 s.f13 s.f14 s.f15 s.f16 s.f17 (wr s.f18 v1 (0:Int32)) s.f19 s.f20 s.f21 s.f22 s.f23 s.f24 s.f25 s.f26 s.f27 s.f28 s.f29 s.f30 s.f31 s.f32) v1) else (j_buildPreds_b49 (j_buildPreds_l7 n) (Q.mk s.f0 s.f1 s.f2 s.f3 s.f4 s.f5 s.f6 s.f7 s.f8 s.f9 s.f10 s.f11 s.f12 s.f13 s.f14 s.f15 s.f16 s.f17 (wr s.f18 v1 (0:Int32)) s.f19 s.f20 s.f21 s.f22 s.f23 s.f24 s.f25 s.f26 s.f27 s.f28 s.f29 s.f30 s.f31 (s.f32 ||| (ish (1:Int32) v1))) v1)) else none) else none) else some (s)) else some (s))
theorem ln_j_buildPreds_l7 : ∀ {n : Nat} {s : Q} {v1 : Int32} {res : Q}, j_buildPreds_l7 n s v1 = some res → j_buildPreds_l7_N s res := by
  intro n
  induction n with
  | zero => intro _ _ res h; cases h
  | succ n hrec0 =>
    have hrec : ∀ (s : Q) (v1 : Int32) {res : Q}, j_buildPreds_l7 n s v1 = some res → j_buildPreds_l7_N s res := by intros; apply hrec0; assumption
    intro s v1 res h
    rw [j_buildPreds_l7] at h
    by_cases hc251 : v1 < (6:Int32)
    · rw [if_pos hc251] at h
      by_cases hc252 : v1 < s.f31
      · rw [if_pos hc252] at h
        obtain ⟨hb253, h⟩ := ite_some h
        obtain ⟨hb254, h⟩ := ite_some h
        by_cases hc256 : (rd s.f15 v1) < (0:Int32)
        · rw [if_pos hc256] at h
          exact Eq.trans (ln_j_buildPreds_b49 hrec h) (Eq.trans (show Q.len (Q.mk s.f0 s.f1 s.f2 s.f3 s.f4 s.f5 s.f6 s.f7 s.f8 s.f9 s.f10 s.f11 s.f12 s.f13 s.f14 s.f15 s.f16 s.f17 (wr s.f18 v1 (0:Int32)) s.f19 s.f20 s.f21 s.f22 s.f23 s.f24 s.f25 s.f26 s.f27 s.f28 s.f29 s.f30 s.f31 s.f32) = Q.len s from own_lenmk.trans (by first | (simp only [len_wr, len_wrL] <;> rfl) | rfl)) rfl)
        · rw [if_neg hc256] at h
          exact Eq.trans (ln_j_buildPreds_b49 hrec h) (Eq.trans (show Q.len (Q.mk s.f0 s.f1 s.f2 s.f3 s.f4 s.f5 s.f6 s.f7 s.f8 s.f9 s.f10 s.f11 s.f12 s.f13 s.f14 s.f15 s.f16 s.f17 (wr s.f18 v1 (0:Int32)) s.f19 s.f20 s.f21 s.f22 s.f23 s.f24 s.f25 s.f26 s.f27 s.f28 s.f29 s.f30 s.f31 (s.f32 ||| (ish (1:Int32) v1))) = Q.len s from own_lenmk.trans (by first | (simp only [len_wr, len_wrL] <;> rfl) | rfl)) rfl)
      · rw [if_neg hc252] at h
        have hr0 := Option.some.inj h
        subst hr0
        show Q.len s = _
        exact rfl
    · rw [if_neg hc251] at h
      have hr0 := Option.some.inj h
      subst hr0
      show Q.len s = _
      exact rfl
set_option maxRecDepth 100000 in
theorem ev_j_buildPreds_l7 (R : AHeap) (scr : List Int32) : ∀ (n : Nat) (s : Q) (v1 : Int32) {res : Q} {out : Option Value × AHeap}, j_buildPreds_l7 n s v1 = some res → j_buildPreds_l7_K R scr res out → Eval own_P 24 7 [some (.ref 1), some (.int v1), none] [] (W1 scr s R) out := by
 intro n
 induction n with
 | zero => intro _ _ res out h hk; cases h
 | succ n hrec =>
  intro s v1 res out h hk
  rw [j_buildPreds_l7] at h
  refine Eval.iload_n rfl rfl ?_
  refine Eval.bipush (x := 6) rfl rfl ?_
  by_cases hc251 : v1 < (6:Int32)
  ·rw [if_pos hc251] at h
   refine Eval.icmpF rfl (tlt hc251).2.1 ?_
   refine Eval.iload_n rfl rfl ?_
   refine Eval.aload_n rfl rfl ?_
   refine Eval.getfield rfl rfl own_g1_opCount ?_
   by_cases hc252 : v1 < s.f31
   ·rw [if_pos hc252] at h
    refine Eval.icmpF rfl (tlt hc252).2.1 ?_
    refine Eval.aload_n rfl rfl ?_
    refine Eval.getfield rfl rfl own_g1_predMask ?_
    refine Eval.iload_n rfl rfl ?_
    refine Eval.iconst (x := 0) rfl rfl ?_
    obtain ⟨hb253, h⟩ := ite_some h
    refine Eval.iastore rfl rfl own_a1_predMask hb253 own_s1_predMask ?_
    refine Eval.aload_n rfl rfl ?_
    refine Eval.getfield rfl rfl own_g1_opRes ?_
    refine Eval.iload_n rfl rfl ?_
    obtain ⟨hb254, h⟩ := ite_some h
    refine Eval.iaload rfl own_a1_opRes hb254 ?_
    by_cases hc256 : (rd s.f15 v1) < (0:Int32)
    ·rw [if_pos hc256] at h
     refine Eval.ifT (t := 49) rfl rfl (tlt hc256).1 ?_
     refine Eval.heap own_mk1 ?_
     exact ev_j_buildPreds_b49 R scr _ hrec (Q.mk s.f0 s.f1 s.f2 s.f3 s.f4 s.f5 s.f6 s.f7 s.f8 s.f9 s.f10 s.f11 s.f12 s.f13 s.f14 s.f15 s.f16 s.f17 (wr s.f18 v1 (0:Int32)) s.f19 s.f20 s.f21 s.f22 s.f23 s.f24 s.f25 s.f26 s.f27 s.f28 s.f29 s.f30 s.f31 s.f32) v1 h hk
    ·rw [if_neg hc256] at h
     refine Eval.ifF rfl (flt hc256).1 ?_
     refine Eval.aload_n rfl rfl ?_
     refine Eval.dupR rfl ?_
     refine Eval.getfield rfl rfl own_g1_completeMask ?_
     refine Eval.iconst (x := 1) rfl rfl ?_
     refine Eval.iload_n rfl rfl ?_
     refine Eval.ishl rfl ?_
     refine Eval.ior rfl ?_
     refine Eval.putfield rfl rfl own_p1_completeMask ?_
     refine Eval.heap own_mk1 ?_
     exact ev_j_buildPreds_b49 R scr _ hrec (Q.mk s.f0 s.f1 s.f2 s.f3 s.f4 s.f5 s.f6 s.f7 s.f8 s.f9 s.f10 s.f11 s.f12 s.f13 s.f14 s.f15 s.f16 s.f17 (wr s.f18 v1 (0:Int32)) s.f19 s.f20 s.f21 s.f22 s.f23 s.f24 s.f25 s.f26 s.f27 s.f28 s.f29 s.f30 s.f31 (s.f32 ||| (ish (1:Int32) v1))) v1 h hk
   ·rw [if_neg hc252] at h
    refine Eval.icmpT (t := 55) rfl rfl (flt hc252).2.1 ?_
    cases h
    refine Eval.weak (lw_mk 1 _) ?_
    exact hk
  ·rw [if_neg hc251] at h
   refine Eval.icmpT (t := 55) rfl rfl (flt hc251).2.1 ?_
   cases h
   refine Eval.weak (lw_mk 1 _) ?_
   exact hk
abbrev j_buildPreds_l57_K (R : AHeap) (scr : List Int32) (res : Q) (out : Option Value × AHeap) : Prop := Eval own_P 24 140 [none, none, none] [] (W1 scr res R) out

abbrev j_buildPreds_l57_N (s res : Q) : Prop := Q.len res = Q.len s
abbrev j_buildPreds_l73_K (R : AHeap) (scr : List Int32) (res : Int32 × Q) (out : Option Value × AHeap) : Prop := Eval own_P 24 134 [some (.ref 1), some (.int res.1), none] [] (W1 scr res.2 R) out

abbrev j_buildPreds_l73_N (s : Q) (res : Int32 × Q) : Prop := Q.len res.2 = Q.len s
def j_buildPreds_b128 (go_ : Q → Int32 → Int32 → Option (Int32 × Q)) (s : Q) (v1 v2 : Int32) : Option (Int32 × Q) := (go_ s v1 (v2 + (1:Int32)))
theorem ln_j_buildPreds_b128 {go_ : Q → Int32 → Int32 → Option (Int32 × Q)} (hrec : ∀ (s : Q) (v1 v2 : Int32) {res : Int32 × Q}, go_ s v1 v2 = some res → j_buildPreds_l73_N s res) {s : Q} {v1 v2 : Int32} {res : Int32 × Q} (h : j_buildPreds_b128 go_ s v1 v2 = some res) : j_buildPreds_l73_N s res := by
  rw [j_buildPreds_b128] at h
  exact (hrec _ _ _ h).trans rfl
set_option maxRecDepth 100000 in
theorem ev_j_buildPreds_b128 (R : AHeap) (scr : List Int32) (go_ : Q → Int32 → Int32 → Option (Int32 × Q)) (hrec : ∀ (s : Q) (v1 v2 : Int32) {res : Int32 × Q} {out : Option Value × AHeap}, go_ s v1 v2 = some res → j_buildPreds_l73_K R scr res out → Eval own_P 24 73 [some (.ref 1), some (.int v1), some (.int v2)] [] (W1 scr s R) out) (s : Q) (v1 v2 : Int32) {res : Int32 × Q} {out : Option Value × AHeap} (h : j_buildPreds_b128 go_ s v1 v2 = some res) (hk : j_buildPreds_l73_K R scr res out) : Eval own_P 24 128 [some (.ref 1), some (.int v1), some (.int v2)] [] (W1 scr s R) out := by
 rw [j_buildPreds_b128] at h
 refine Eval.iinc (L' := [some (.ref 1), some (.int v1), some (.int (v2 + (1:Int32)))]) rfl rfl rfl ?_
 refine Eval.goto (t := 73) rfl rfl ?_
 exact hrec _ _ _ h hk
def j_buildPreds_l73 : Nat → Q → Int32 → Int32 → Option (Int32 × Q)
  | 0, _, _, _ => none
  | n + 1, s, v1, v2 => (if v2 < (6:Int32) then (if v2 < s.f31 then (if v2 = v1 then (j_buildPreds_b128 (j_buildPreds_l73 n) s v1 v2) else (if inb s.f15.length v2 = true then (if (rd s.f15 v2) < (0:Int32) then (j_buildPreds_b128 (j_buildPreds_l73 n) s v1 v2) else (if inb s.f15.length v2 = true then (if inb s.f14.length v1 = true then (if (rd s.f15 v2) < (rd s.f14 v1) then (if inb s.f18.length v1 = true then (if inb s.f18.length v1 = true then (j_buildPreds_b128 (j_buildPreds_l73 n) (Q.mk s.f0 s.f1 s.f2 s.f3 s.f4 s.f5 s.f6 s.f7 s.f8 s.f9 s.f10 s.f11 s.f12 s.f13 s.f14 s.f15 s.f16 s.f17 (wr s.f18 v1 ((rd s.f18 v1) ||| (ish (1:Int32) v2))) s.f19 s.f20 s.f21 s.f22 s.f23 s.f24 s.f25 s.f26 s.f27 s.f28 s.f29 s.f30 s.f31 s.f32) v1 v2) else none) else none) else (j_buildPreds_b128 (j_buildPreds_l73 n) s v1 v2)) else none) else none)) else none)) else some (v1, s)) else some (v1, s))
theorem ln_j_buildPreds_l73 : ∀ {n : Nat} {s : Q} {v1 v2 : Int32} {res : Int32 × Q}, j_buildPreds_l73 n s v1 v2 = some res → j_buildPreds_l73_N s res := by
  intro n
  induction n with
  | zero => intro _ _ _ res h; cases h
  | succ n hrec0 =>
    have hrec : ∀ (s : Q) (v1 v2 : Int32) {res : Int32 × Q}, j_buildPreds_l73 n s v1 v2 = some res → j_buildPreds_l73_N s res := by intros; apply hrec0; assumption
    intro s v1 v2 res h
    rw [j_buildPreds_l73] at h
    by_cases hc262 : v2 < (6:Int32)
    · rw [if_pos hc262] at h
      by_cases hc263 : v2 < s.f31
      · rw [if_pos hc263] at h
        by_cases hc265 : v2 = v1
        · rw [if_pos hc265] at h
          exact Eq.trans (ln_j_buildPreds_b128 hrec h) rfl
        · rw [if_neg hc265] at h
          obtain ⟨hb266, h⟩ := ite_some h
          by_cases hc268 : (rd s.f15 v2) < (0:Int32)
          · rw [if_pos hc268] at h
            exact Eq.trans (ln_j_buildPreds_b128 hrec h) rfl
          · rw [if_neg hc268] at h
            obtain ⟨hb269, h⟩ := ite_some h
            obtain ⟨hb270, h⟩ := ite_some h
            by_cases hc272 : (rd s.f15 v2) < (rd s.f14 v1)
            · rw [if_pos hc272] at h
              obtain ⟨hb273, h⟩ := ite_some h
              obtain ⟨hb274, h⟩ := ite_some h
              exact Eq.trans (ln_j_buildPreds_b128 hrec h) (Eq.trans (show Q.len (Q.mk s.f0 s.f1 s.f2 s.f3 s.f4 s.f5 s.f6 s.f7 s.f8 s.f9 s.f10 s.f11 s.f12 s.f13 s.f14 s.f15 s.f16 s.f17 (wr s.f18 v1 ((rd s.f18 v1) ||| (ish (1:Int32) v2))) s.f19 s.f20 s.f21 s.f22 s.f23 s.f24 s.f25 s.f26 s.f27 s.f28 s.f29 s.f30 s.f31 s.f32) = Q.len s from own_lenmk.trans (by first | (simp only [len_wr, len_wrL] <;> rfl) | rfl)) rfl)
            · rw [if_neg hc272] at h
              exact Eq.trans (ln_j_buildPreds_b128 hrec h) rfl
      · rw [if_neg hc263] at h
        have hr0 := Option.some.inj h
        subst hr0
        show Q.len s = _
        exact rfl
    · rw [if_neg hc262] at h
      have hr0 := Option.some.inj h
      subst hr0
      show Q.len s = _
      exact rfl
set_option maxRecDepth 100000 in
theorem ev_j_buildPreds_l73 (R : AHeap) (scr : List Int32) : ∀ (n : Nat) (s : Q) (v1 v2 : Int32) {res : Int32 × Q} {out : Option Value × AHeap}, j_buildPreds_l73 n s v1 v2 = some res → j_buildPreds_l73_K R scr res out → Eval own_P 24 73 [some (.ref 1), some (.int v1), some (.int v2)] [] (W1 scr s R) out := by
 intro n
 induction n with
 | zero => intro _ _ _ res out h hk; cases h
 | succ n hrec =>
  intro s v1 v2 res out h hk
  rw [j_buildPreds_l73] at h
  refine Eval.iload_n rfl rfl ?_
  refine Eval.bipush (x := 6) rfl rfl ?_
  by_cases hc262 : v2 < (6:Int32)
  ·rw [if_pos hc262] at h
   refine Eval.icmpF rfl (tlt hc262).2.1 ?_
   refine Eval.iload_n rfl rfl ?_
   refine Eval.aload_n rfl rfl ?_
   refine Eval.getfield rfl rfl own_g1_opCount ?_
   by_cases hc263 : v2 < s.f31
   ·rw [if_pos hc263] at h
    refine Eval.icmpF rfl (tlt hc263).2.1 ?_
    refine Eval.iload_n rfl rfl ?_
    refine Eval.iload_n rfl rfl ?_
    by_cases hc265 : v2 = v1
    ·rw [if_pos hc265] at h
     refine Eval.icmpT (t := 128) rfl rfl (teq hc265).1 ?_
     exact ev_j_buildPreds_b128 R scr _ hrec s v1 v2 h hk
    ·rw [if_neg hc265] at h
     refine Eval.icmpF rfl (feq hc265).1 ?_
     refine Eval.aload_n rfl rfl ?_
     refine Eval.getfield rfl rfl own_g1_opRes ?_
     refine Eval.iload_n rfl rfl ?_
     obtain ⟨hb266, h⟩ := ite_some h
     refine Eval.iaload rfl own_a1_opRes hb266 ?_
     by_cases hc268 : (rd s.f15 v2) < (0:Int32)
     ·rw [if_pos hc268] at h
      refine Eval.ifT (t := 128) rfl rfl (tlt hc268).1 ?_
      exact ev_j_buildPreds_b128 R scr _ hrec s v1 v2 h hk
     ·rw [if_neg hc268] at h
      refine Eval.ifF rfl (flt hc268).1 ?_
      refine Eval.aload_n rfl rfl ?_
      refine Eval.getfield rfl rfl own_g1_opRes ?_
      refine Eval.iload_n rfl rfl ?_
      obtain ⟨hb269, h⟩ := ite_some h
      refine Eval.iaload rfl own_a1_opRes hb269 ?_
      refine Eval.aload_n rfl rfl ?_
      refine Eval.getfield rfl rfl own_g1_opInv ?_
      refine Eval.iload_n rfl rfl ?_
      obtain ⟨hb270, h⟩ := ite_some h
      refine Eval.iaload rfl own_a1_opInv hb270 ?_
      by_cases hc272 : (rd s.f15 v2) < (rd s.f14 v1)
      ·rw [if_pos hc272] at h
       refine Eval.icmpF rfl (tlt hc272).2.1 ?_
       refine Eval.aload_n rfl rfl ?_
       refine Eval.getfield rfl rfl own_g1_predMask ?_
       refine Eval.iload_n rfl rfl ?_
       refine Eval.dup2 rfl ?_
       obtain ⟨hb273, h⟩ := ite_some h
       refine Eval.iaload rfl own_a1_predMask hb273 ?_
       refine Eval.iconst (x := 1) rfl rfl ?_
       refine Eval.iload_n rfl rfl ?_
       refine Eval.ishl rfl ?_
       refine Eval.ior rfl ?_
       obtain ⟨hb274, h⟩ := ite_some h
       refine Eval.iastore rfl rfl own_a1_predMask hb274 own_s1_predMask ?_
       refine Eval.heap own_mk1 ?_
       exact ev_j_buildPreds_b128 R scr _ hrec (Q.mk s.f0 s.f1 s.f2 s.f3 s.f4 s.f5 s.f6 s.f7 s.f8 s.f9 s.f10 s.f11 s.f12 s.f13 s.f14 s.f15 s.f16 s.f17 (wr s.f18 v1 ((rd s.f18 v1) ||| (ish (1:Int32) v2))) s.f19 s.f20 s.f21 s.f22 s.f23 s.f24 s.f25 s.f26 s.f27 s.f28 s.f29 s.f30 s.f31 s.f32) v1 v2 h hk
      ·rw [if_neg hc272] at h
       refine Eval.icmpT (t := 128) rfl rfl (flt hc272).2.1 ?_
       exact ev_j_buildPreds_b128 R scr _ hrec s v1 v2 h hk
   ·rw [if_neg hc263] at h
    refine Eval.icmpT (t := 134) rfl rfl (flt hc263).2.1 ?_
    cases h
    refine Eval.weak (lw_mk 3 _) ?_
    exact hk
  ·rw [if_neg hc262] at h
   refine Eval.icmpT (t := 134) rfl rfl (flt hc262).2.1 ?_
   cases h
   refine Eval.weak (lw_mk 3 _) ?_
   exact hk
def j_buildPreds_l57 : Nat → Q → Int32 → Option (Q)
  | 0, _, _ => none
  | n + 1, s, v1 => (if v1 < (6:Int32) then (if v1 < s.f31 then ((j_buildPreds_l73 3000 s v1 (0:Int32)).bind fun p275 => (j_buildPreds_l57 n p275.2 (p275.1 + (1:Int32)))) else some (s)) else some (s))
theorem ln_j_buildPreds_l57 : ∀ {n : Nat} {s : Q} {v1 : Int32} {res : Q}, j_buildPreds_l57 n s v1 = some res → j_buildPreds_l57_N s res := by
  intro n
  induction n with
  | zero => intro _ _ res h; cases h
  | succ n hrec0 =>
    have hrec : ∀ (s : Q) (v1 : Int32) {res : Q}, j_buildPreds_l57 n s v1 = some res → j_buildPreds_l57_N s res := by intros; apply hrec0; assumption
    intro s v1 res h
    rw [j_buildPreds_l57] at h
    by_cases hc260 : v1 < (6:Int32)
    · rw [if_pos hc260] at h
      by_cases hc261 : v1 < s.f31
      · rw [if_pos hc261] at h
        obtain ⟨p275, hq276, h⟩ := bind_some h
        have hl277 : Q.len p275.2 = _ := Eq.trans (ln_j_buildPreds_l73 hq276) rfl
        exact (hrec _ _ h).trans hl277
      · rw [if_neg hc261] at h
        have hr0 := Option.some.inj h
        subst hr0
        show Q.len s = _
        exact rfl
    · rw [if_neg hc260] at h
      have hr0 := Option.some.inj h
      subst hr0
      show Q.len s = _
      exact rfl
set_option maxRecDepth 100000 in
theorem ev_j_buildPreds_l57 (R : AHeap) (scr : List Int32) : ∀ (n : Nat) (s : Q) (v1 : Int32) {res : Q} {out : Option Value × AHeap}, j_buildPreds_l57 n s v1 = some res → j_buildPreds_l57_K R scr res out → Eval own_P 24 57 [some (.ref 1), some (.int v1), none] [] (W1 scr s R) out := by
 intro n
 induction n with
 | zero => intro _ _ res out h hk; cases h
 | succ n hrec =>
  intro s v1 res out h hk
  rw [j_buildPreds_l57] at h
  refine Eval.iload_n rfl rfl ?_
  refine Eval.bipush (x := 6) rfl rfl ?_
  by_cases hc260 : v1 < (6:Int32)
  ·rw [if_pos hc260] at h
   refine Eval.icmpF rfl (tlt hc260).2.1 ?_
   refine Eval.iload_n rfl rfl ?_
   refine Eval.aload_n rfl rfl ?_
   refine Eval.getfield rfl rfl own_g1_opCount ?_
   by_cases hc261 : v1 < s.f31
   ·rw [if_pos hc261] at h
    refine Eval.icmpF rfl (tlt hc261).2.1 ?_
    refine Eval.iconst (x := 0) rfl rfl ?_
    refine Eval.istore_n (L' := [some (.ref 1), some (.int v1), some (.int 0)]) rfl rfl ?_
    obtain ⟨p275, hq276, h⟩ := bind_some h
    refine ev_j_buildPreds_l73 R scr _ s v1 (0:Int32) hq276 ?_
    show Eval own_P 24 134 [some (.ref 1), some (.int p275.1), none] [] (W1 scr p275.2 R) out
    refine Eval.iinc (L' := [some (.ref 1), some (.int (p275.1 + (1:Int32))), none]) rfl rfl rfl ?_
    refine Eval.goto (t := 57) rfl rfl ?_
    exact hrec _ _ h hk
   ·rw [if_neg hc261] at h
    refine Eval.icmpT (t := 140) rfl rfl (flt hc261).2.1 ?_
    cases h
    refine Eval.weak (lw_mk 0 _) ?_
    exact hk
  ·rw [if_neg hc260] at h
   refine Eval.icmpT (t := 140) rfl rfl (flt hc260).2.1 ?_
   cases h
   refine Eval.weak (lw_mk 0 _) ?_
   exact hk
def j_buildPreds (s : Q) : Option (Q) := ((j_buildPreds_l7 3000 (Q.mk s.f0 s.f1 s.f2 s.f3 s.f4 s.f5 s.f6 s.f7 s.f8 s.f9 s.f10 s.f11 s.f12 s.f13 s.f14 s.f15 s.f16 s.f17 s.f18 s.f19 s.f20 s.f21 s.f22 s.f23 s.f24 s.f25 s.f26 s.f27 s.f28 s.f29 s.f30 s.f31 (0:Int32)) (0:Int32)).bind fun p257 => ((j_buildPreds_l57 3000 p257 (0:Int32)).bind fun p278 => some (p278)))
theorem ln_j_buildPreds {s res : Q} (h : j_buildPreds s = some res) : Q.len res = Q.len s := by
  rw [j_buildPreds] at h
  obtain ⟨p257, hq258, h⟩ := bind_some h
  have hl259 : Q.len p257 = _ := Eq.trans (ln_j_buildPreds_l7 hq258) (Eq.trans (show Q.len (Q.mk s.f0 s.f1 s.f2 s.f3 s.f4 s.f5 s.f6 s.f7 s.f8 s.f9 s.f10 s.f11 s.f12 s.f13 s.f14 s.f15 s.f16 s.f17 s.f18 s.f19 s.f20 s.f21 s.f22 s.f23 s.f24 s.f25 s.f26 s.f27 s.f28 s.f29 s.f30 s.f31 (0:Int32)) = Q.len s from own_lenmk.trans (by first | (simp only [len_wr, len_wrL] <;> rfl) | rfl)) rfl)
  obtain ⟨p278, hq279, h⟩ := bind_some h
  have hl280 : Q.len p278 = _ := Eq.trans (ln_j_buildPreds_l57 hq279) hl259
  have hr0 := Option.some.inj h
  subst hr0
  show Q.len p278 = _
  exact hl280
set_option maxRecDepth 100000 in
theorem ev_j_buildPreds (R : AHeap) (scr : List Int32) (s : Q) {res : Q} {out : Option Value × AHeap} (h : j_buildPreds s = some res) (hk : out = (none, (W1 scr res R))) : Eval own_P 24 0 [some (.ref 1), none, none] [] (W1 scr s R) out := by
 rw [j_buildPreds] at h
 refine Eval.aload_n rfl rfl ?_
 refine Eval.iconst (x := 0) rfl rfl ?_
 refine Eval.putfield rfl rfl own_p1_completeMask ?_
 refine Eval.iconst (x := 0) rfl rfl ?_
 refine Eval.istore_n (L' := [some (.ref 1), some (.int 0), none]) rfl rfl ?_
 refine Eval.heap own_mk1 ?_
 obtain ⟨p257, hq258, h⟩ := bind_some h
 refine ev_j_buildPreds_l7 R scr _ (Q.mk s.f0 s.f1 s.f2 s.f3 s.f4 s.f5 s.f6 s.f7 s.f8 s.f9 s.f10 s.f11 s.f12 s.f13 s.f14 s.f15 s.f16 s.f17 s.f18 s.f19 s.f20 s.f21 s.f22 s.f23 s.f24 s.f25 s.f26 s.f27 s.f28 s.f29 s.f30 s.f31 (0:Int32)) (0:Int32) hq258 ?_
 show Eval own_P 24 55 [some (.ref 1), none, none] [] (W1 scr p257 R) out
 refine Eval.iconst (x := 0) rfl rfl ?_
 refine Eval.istore_n (L' := [some (.ref 1), some (.int 0), none]) rfl rfl ?_
 obtain ⟨p278, hq279, h⟩ := bind_some h
 refine ev_j_buildPreds_l57 R scr _ p257 (0:Int32) hq279 ?_
 show Eval own_P 24 140 [none, none, none] [] (W1 scr p278 R) out
 cases h
 subst hk
 exact Eval.ret rfl rfl
abbrev j_search_l21_K (R : AHeap) (scr : List Int32) (res : Q) (out : Option Value × AHeap) : Prop := Eval own_P 25 53 [some (.ref 1), none, none, none, none] [] (W1 scr res R) out

abbrev j_search_l21_N (s res : Q) : Prop := Q.len res = Q.len s
def j_search_l21 : Nat → Q → Int32 → Option (Q)
  | 0, _, _ => none
  | n + 1, s, v1 => (if v1 < (8:Int32) then (if v1 < s.f30 then (if inb s.f11.length v1 = true then (if inb s.f20.length v1 = true then (j_search_l21 n (Q.mk s.f0 s.f1 s.f2 s.f3 s.f4 s.f5 s.f6 s.f7 s.f8 s.f9 s.f10 s.f11 s.f12 s.f13 s.f14 s.f15 s.f16 s.f17 s.f18 s.f19 (wr s.f20 v1 (rd s.f11 v1)) s.f21 s.f22 s.f23 s.f24 s.f25 s.f26 s.f27 s.f28 s.f29 s.f30 s.f31 s.f32) (v1 + (1:Int32))) else none) else none) else some (s)) else some (s))
theorem ln_j_search_l21 : ∀ {n : Nat} {s : Q} {v1 : Int32} {res : Q}, j_search_l21 n s v1 = some res → j_search_l21_N s res := by
  intro n
  induction n with
  | zero => intro _ _ res h; cases h
  | succ n hrec0 =>
    have hrec : ∀ (s : Q) (v1 : Int32) {res : Q}, j_search_l21 n s v1 = some res → j_search_l21_N s res := by intros; apply hrec0; assumption
    intro s v1 res h
    rw [j_search_l21] at h
    by_cases hc286 : v1 < (8:Int32)
    · rw [if_pos hc286] at h
      by_cases hc287 : v1 < s.f30
      · rw [if_pos hc287] at h
        obtain ⟨hb288, h⟩ := ite_some h
        obtain ⟨hb289, h⟩ := ite_some h
        exact (hrec _ _ h).trans (Eq.trans (show Q.len (Q.mk s.f0 s.f1 s.f2 s.f3 s.f4 s.f5 s.f6 s.f7 s.f8 s.f9 s.f10 s.f11 s.f12 s.f13 s.f14 s.f15 s.f16 s.f17 s.f18 s.f19 (wr s.f20 v1 (rd s.f11 v1)) s.f21 s.f22 s.f23 s.f24 s.f25 s.f26 s.f27 s.f28 s.f29 s.f30 s.f31 s.f32) = Q.len s from own_lenmk.trans (by first | (simp only [len_wr, len_wrL] <;> rfl) | rfl)) rfl)
      · rw [if_neg hc287] at h
        have hr0 := Option.some.inj h
        subst hr0
        show Q.len s = _
        exact rfl
    · rw [if_neg hc286] at h
      have hr0 := Option.some.inj h
      subst hr0
      show Q.len s = _
      exact rfl
set_option maxRecDepth 100000 in
theorem ev_j_search_l21 (R : AHeap) (scr : List Int32) : ∀ (n : Nat) (s : Q) (v1 : Int32) {res : Q} {out : Option Value × AHeap}, j_search_l21 n s v1 = some res → j_search_l21_K R scr res out → Eval own_P 25 21 [some (.ref 1), some (.int v1), none, none, none] [] (W1 scr s R) out := by
 intro n
 induction n with
 | zero => intro _ _ res out h hk; cases h
 | succ n hrec =>
  intro s v1 res out h hk
  rw [j_search_l21] at h
  refine Eval.iload_n rfl rfl ?_
  refine Eval.bipush (x := 8) rfl rfl ?_
  by_cases hc286 : v1 < (8:Int32)
  ·rw [if_pos hc286] at h
   refine Eval.icmpF rfl (tlt hc286).2.1 ?_
   refine Eval.iload_n rfl rfl ?_
   refine Eval.aload_n rfl rfl ?_
   refine Eval.getfield rfl rfl own_g1_snapLen ?_
   by_cases hc287 : v1 < s.f30
   ·rw [if_pos hc287] at h
    refine Eval.icmpF rfl (tlt hc287).2.1 ?_
    refine Eval.aload_n rfl rfl ?_
    refine Eval.getfield rfl rfl own_g1_qBuf ?_
    refine Eval.iload_n rfl rfl ?_
    refine Eval.aload_n rfl rfl ?_
    refine Eval.getfield rfl rfl own_g1_snap ?_
    refine Eval.iload_n rfl rfl ?_
    obtain ⟨hb288, h⟩ := ite_some h
    refine Eval.iaload rfl own_a1_snap hb288 ?_
    obtain ⟨hb289, h⟩ := ite_some h
    refine Eval.iastore rfl rfl own_a1_qBuf hb289 own_s1_qBuf ?_
    refine Eval.iinc (L' := [some (.ref 1), some (.int (v1 + (1:Int32))), none, none, none]) rfl rfl rfl ?_
    refine Eval.goto (t := 21) rfl rfl ?_
    refine Eval.heap own_mk1 ?_
    exact hrec _ _ h hk
   ·rw [if_neg hc287] at h
    refine Eval.icmpT (t := 53) rfl rfl (flt hc287).2.1 ?_
    cases h
    refine Eval.weak (lw_mk 1 _) ?_
    exact hk
  ·rw [if_neg hc286] at h
   refine Eval.icmpT (t := 53) rfl rfl (flt hc286).2.1 ?_
   cases h
   refine Eval.weak (lw_mk 1 _) ?_
   exact hk
abbrev j_search_l66_K (R : AHeap) (scr : List Int32) (res : (Q) ⊕ ((Q) ⊕ (Q))) (out : Option Value × AHeap) : Prop := Sum.elim (fun res => Eval own_P 25 100 [none, none, none, none, none] [] (W1 scr res R) out) (fun res => Sum.elim (fun res => Eval own_P 25 213 [none, none, none, none, none] [] (W1 scr res R) out) (fun res => Eval own_P 25 221 [none, none, none, none, none] [] (W1 scr res R) out) res) res

abbrev j_search_l66_N (s : Q) (res : (Q) ⊕ ((Q) ⊕ (Q))) : Prop := Sum.elim (fun res => Q.len res = Q.len s) (fun res => Sum.elim (fun res => Q.len res = Q.len s) (fun res => Q.len res = Q.len s) res) res
abbrev j_copyQueue_l25_K (R : AHeap) (scr : List Int32) (res : (Int32 × Int32 × Q) ⊕ (Int32 × Int32 × Q)) (out : Option Value × AHeap) : Prop := Sum.elim (fun res => Eval own_P 28 39 [some (.ref 1), some (.int res.1), none, none, none, none, some (.int res.2.1), none] [] (W1 scr res.2.2 R) out) (fun res => Eval own_P 28 70 [some (.ref 1), some (.int res.1), none, none, none, none, some (.int res.2.1), none] [] (W1 scr res.2.2 R) out) res

abbrev j_copyQueue_l25_N (s : Q) (res : (Int32 × Int32 × Q) ⊕ (Int32 × Int32 × Q)) : Prop := Sum.elim (fun res => Q.len res.2.2 = Q.len s) (fun res => Q.len res.2.2 = Q.len s) res
def j_copyQueue_l25 : Nat → Q → Int32 → Int32 → Int32 → Int32 → Int32 → Int32 → Option ((Int32 × Int32 × Q) ⊕ (Int32 × Int32 × Q))
  | 0, _, _, _, _, _, _, _ => none
  | n + 1, s, v1, v3, v4, v5, v6, v7 => (if v7 < (8:Int32) then (if v7 < v5 then (if inb s.f20.length (v3 + v7) = true then (if inb s.f20.length (v4 + v6) = true then (j_copyQueue_l25 n (Q.mk s.f0 s.f1 s.f2 s.f3 s.f4 s.f5 s.f6 s.f7 s.f8 s.f9 s.f10 s.f11 s.f12 s.f13 s.f14 s.f15 s.f16 s.f17 s.f18 s.f19 (wr s.f20 (v4 + v6) (rd s.f20 (v3 + v7))) s.f21 s.f22 s.f23 s.f24 s.f25 s.f26 s.f27 s.f28 s.f29 s.f30 s.f31 s.f32) v1 v3 v4 v5 (v6 + (1:Int32)) (v7 + (1:Int32))) else none) else none) else some (.inl (v1, v6, s))) else some (.inr (v1, v6, s)))
theorem ln_j_copyQueue_l25 : ∀ {n : Nat} {s : Q} {v1 v3 v4 v5 v6 v7 : Int32} {res : (Int32 × Int32 × Q) ⊕ (Int32 × Int32 × Q)}, j_copyQueue_l25 n s v1 v3 v4 v5 v6 v7 = some res → j_copyQueue_l25_N s res := by
  intro n
  induction n with
  | zero => intro _ _ _ _ _ _ _ res h; cases h
  | succ n hrec0 =>
    have hrec : ∀ (s : Q) (v1 v3 : Int32) (v4 v5 : Int32) (v6 v7 : Int32) {res : (Int32 × Int32 × Q) ⊕ (Int32 × Int32 × Q)}, j_copyQueue_l25 n s v1 v3 v4 v5 v6 v7 = some res → j_copyQueue_l25_N s res := by intros; apply hrec0; assumption
    intro s v1 v3 v4 v5 v6 v7 res h
    rw [j_copyQueue_l25] at h
    by_cases hc315 : v7 < (8:Int32)
    · rw [if_pos hc315] at h
      by_cases hc316 : v7 < v5
      · rw [if_pos hc316] at h
        obtain ⟨hb317, h⟩ := ite_some h
        obtain ⟨hb318, h⟩ := ite_some h
        have hz := hrec _ _ _ _ _ _ _ h
        rcases res with res | res
        · exact Eq.trans hz (Eq.trans (show Q.len (Q.mk s.f0 s.f1 s.f2 s.f3 s.f4 s.f5 s.f6 s.f7 s.f8 s.f9 s.f10 s.f11 s.f12 s.f13 s.f14 s.f15 s.f16 s.f17 s.f18 s.f19 (wr s.f20 (v4 + v6) (rd s.f20 (v3 + v7))) s.f21 s.f22 s.f23 s.f24 s.f25 s.f26 s.f27 s.f28 s.f29 s.f30 s.f31 s.f32) = Q.len s from own_lenmk.trans (by first | (simp only [len_wr, len_wrL] <;> rfl) | rfl)) rfl)
        · exact Eq.trans hz (Eq.trans (show Q.len (Q.mk s.f0 s.f1 s.f2 s.f3 s.f4 s.f5 s.f6 s.f7 s.f8 s.f9 s.f10 s.f11 s.f12 s.f13 s.f14 s.f15 s.f16 s.f17 s.f18 s.f19 (wr s.f20 (v4 + v6) (rd s.f20 (v3 + v7))) s.f21 s.f22 s.f23 s.f24 s.f25 s.f26 s.f27 s.f28 s.f29 s.f30 s.f31 s.f32) = Q.len s from own_lenmk.trans (by first | (simp only [len_wr, len_wrL] <;> rfl) | rfl)) rfl)
      · rw [if_neg hc316] at h
        have hr0 := Option.some.inj h
        subst hr0
        show Q.len s = _
        exact rfl
    · rw [if_neg hc315] at h
      have hr0 := Option.some.inj h
      subst hr0
      show Q.len s = _
      exact rfl
set_option maxRecDepth 100000 in
theorem ev_j_copyQueue_l25 (R : AHeap) (scr : List Int32) : ∀ (n : Nat) (s : Q) (v1 v3 : Int32) (v4 v5 : Int32) (v6 v7 : Int32) {res : (Int32 × Int32 × Q) ⊕ (Int32 × Int32 × Q)} {out : Option Value × AHeap}, j_copyQueue_l25 n s v1 v3 v4 v5 v6 v7 = some res → j_copyQueue_l25_K R scr res out → Eval own_P 28 25 [some (.ref 1), some (.int v1), none, some (.int v3), some (.int v4), some (.int v5), some (.int v6), some (.int v7)] [] (W1 scr s R) out := by
 intro n
 induction n with
 | zero => intro _ _ _ _ _ _ _ res out h hk; cases h
 | succ n hrec =>
  intro s v1 v3 v4 v5 v6 v7 res out h hk
  rw [j_copyQueue_l25] at h
  refine Eval.iload rfl rfl ?_
  refine Eval.bipush (x := 8) rfl rfl ?_
  by_cases hc315 : v7 < (8:Int32)
  ·rw [if_pos hc315] at h
   refine Eval.icmpF rfl (tlt hc315).2.1 ?_
   refine Eval.iload rfl rfl ?_
   refine Eval.iload rfl rfl ?_
   by_cases hc316 : v7 < v5
   ·rw [if_pos hc316] at h
    refine Eval.icmpT (t := 42) rfl rfl (tlt hc316).1 ?_
    refine Eval.aload_n rfl rfl ?_
    refine Eval.getfield rfl rfl own_g1_qBuf ?_
    refine Eval.iload rfl rfl ?_
    refine Eval.iload rfl rfl ?_
    refine Eval.iadd rfl ?_
    refine Eval.aload_n rfl rfl ?_
    refine Eval.getfield rfl rfl own_g1_qBuf ?_
    refine Eval.iload_n rfl rfl ?_
    refine Eval.iload rfl rfl ?_
    refine Eval.iadd rfl ?_
    obtain ⟨hb317, h⟩ := ite_some h
    refine Eval.iaload rfl own_a1_qBuf hb317 ?_
    obtain ⟨hb318, h⟩ := ite_some h
    refine Eval.iastore rfl rfl own_a1_qBuf hb318 own_s1_qBuf ?_
    refine Eval.iinc (L' := [some (.ref 1), some (.int v1), none, some (.int v3), some (.int v4), some (.int v5), some (.int (v6 + (1:Int32))), some (.int v7)]) rfl rfl rfl ?_
    refine Eval.iinc (L' := [some (.ref 1), some (.int v1), none, some (.int v3), some (.int v4), some (.int v5), some (.int (v6 + (1:Int32))), some (.int (v7 + (1:Int32)))]) rfl rfl rfl ?_
    refine Eval.goto (t := 25) rfl rfl ?_
    refine Eval.heap own_mk1 ?_
    exact hrec _ _ _ _ _ _ _ h hk
   ·rw [if_neg hc316] at h
    refine Eval.icmpF rfl (flt hc316).1 ?_
    cases h
    refine Eval.weak (lw_mk 67 _) ?_
    exact hk
  ·rw [if_neg hc315] at h
   refine Eval.icmpT (t := 70) rfl rfl (flt hc315).2.1 ?_
   cases h
   refine Eval.weak (lw_mk 67 _) ?_
   exact hk
def j_copyQueue_b70 (s : Q) (v1 v6 : Int32) : Option (Q) := (if inb s.f21.length (v1 + (1:Int32)) = true then some ((Q.mk s.f0 s.f1 s.f2 s.f3 s.f4 s.f5 s.f6 s.f7 s.f8 s.f9 s.f10 s.f11 s.f12 s.f13 s.f14 s.f15 s.f16 s.f17 s.f18 s.f19 s.f20 (wr s.f21 (v1 + (1:Int32)) v6) s.f22 s.f23 s.f24 s.f25 s.f26 s.f27 s.f28 s.f29 s.f30 s.f31 s.f32)) else none)
theorem ln_j_copyQueue_b70 {s : Q} {v1 v6 : Int32} {res : Q} (h : j_copyQueue_b70 s v1 v6 = some res) : Q.len res = Q.len s := by
  rw [j_copyQueue_b70] at h
  obtain ⟨hb324, h⟩ := ite_some h
  have hr0 := Option.some.inj h
  subst hr0
  show Q.len (Q.mk s.f0 s.f1 s.f2 s.f3 s.f4 s.f5 s.f6 s.f7 s.f8 s.f9 s.f10 s.f11 s.f12 s.f13 s.f14 s.f15 s.f16 s.f17 s.f18 s.f19 s.f20 (wr s.f21 (v1 + (1:Int32)) v6) s.f22 s.f23 s.f24 s.f25 s.f26 s.f27 s.f28 s.f29 s.f30 s.f31 s.f32) = _
  exact (Eq.trans (show Q.len (Q.mk s.f0 s.f1 s.f2 s.f3 s.f4 s.f5 s.f6 s.f7 s.f8 s.f9 s.f10 s.f11 s.f12 s.f13 s.f14 s.f15 s.f16 s.f17 s.f18 s.f19 s.f20 (wr s.f21 (v1 + (1:Int32)) v6) s.f22 s.f23 s.f24 s.f25 s.f26 s.f27 s.f28 s.f29 s.f30 s.f31 s.f32) = Q.len s from own_lenmk.trans (by first | (simp only [len_wr, len_wrL] <;> rfl) | rfl)) rfl)
set_option maxRecDepth 100000 in
theorem ev_j_copyQueue_b70 (R : AHeap) (scr : List Int32) (s : Q) (v1 v6 : Int32) {res : Q} {out : Option Value × AHeap} (h : j_copyQueue_b70 s v1 v6 = some res) (hk : out = (none, (W1 scr res R))) : Eval own_P 28 70 [some (.ref 1), some (.int v1), none, none, none, none, some (.int v6), none] [] (W1 scr s R) out := by
 rw [j_copyQueue_b70] at h
 refine Eval.aload_n rfl rfl ?_
 refine Eval.getfield rfl rfl own_g1_qLen ?_
 refine Eval.iload_n rfl rfl ?_
 refine Eval.iconst (x := 1) rfl rfl ?_
 refine Eval.iadd rfl ?_
 refine Eval.iload rfl rfl ?_
 obtain ⟨hb324, h⟩ := ite_some h
 refine Eval.iastore rfl rfl own_a1_qLen hb324 own_s1_qLen ?_
 cases h
 subst hk
 exact Eval.retH own_mk1 rfl rfl
def j_copyQueue (s : Q) (v1 v2 : Int32) : Option (Q) := (if inb s.f21.length v1 = true then ((j_copyQueue_l25 3000 s v1 (v1 * (8:Int32)) ((v1 * (8:Int32)) + (8:Int32)) (rd s.f21 v1) (0:Int32) v2).bind fun p319 => Sum.elim (fun p321 => (j_copyQueue_b70 p321.2.2 p321.1 p321.2.1)) (fun p322 => (j_copyQueue_b70 p322.2.2 p322.1 p322.2.1)) p319) else none)
theorem ln_j_copyQueue {s : Q} {v1 v2 : Int32} {res : Q} (h : j_copyQueue s v1 v2 = some res) : Q.len res = Q.len s := by
  rw [j_copyQueue] at h
  obtain ⟨hb314, h⟩ := ite_some h
  obtain ⟨p319, hq320, h⟩ := bind_some h
  rcases p319 with p321 | p322
  · dsimp only [Sum.elim] at h
    have hl323 : Q.len p321.2.2 = _ := Eq.trans (ln_j_copyQueue_l25 hq320) rfl
    exact Eq.trans (ln_j_copyQueue_b70 h) hl323
  · dsimp only [Sum.elim] at h
    have hl325 : Q.len p322.2.2 = _ := Eq.trans (ln_j_copyQueue_l25 hq320) rfl
    exact Eq.trans (ln_j_copyQueue_b70 h) hl325
set_option maxRecDepth 100000 in
theorem ev_j_copyQueue (R : AHeap) (scr : List Int32) (s : Q) (v1 v2 : Int32) {res : Q} {out : Option Value × AHeap} (h : j_copyQueue s v1 v2 = some res) (hk : out = (none, (W1 scr res R))) : Eval own_P 28 0 [some (.ref 1), some (.int v1), some (.int v2), none, none, none, none, none] [] (W1 scr s R) out := by
 rw [j_copyQueue] at h
 refine Eval.iload_n rfl rfl ?_
 refine Eval.bipush (x := 8) rfl rfl ?_
 refine Eval.imul rfl ?_
 refine Eval.istore_n (L' := [some (.ref 1), some (.int v1), some (.int v2), some (.int (v1 * (8:Int32))), none, none, none, none]) rfl rfl ?_
 refine Eval.iload_n rfl rfl ?_
 refine Eval.bipush (x := 8) rfl rfl ?_
 refine Eval.iadd rfl ?_
 refine Eval.istore (L' := [some (.ref 1), some (.int v1), some (.int v2), some (.int (v1 * (8:Int32))), some (.int ((v1 * (8:Int32)) + (8:Int32))), none, none, none]) rfl rfl ?_
 refine Eval.aload_n rfl rfl ?_
 refine Eval.getfield rfl rfl own_g1_qLen ?_
 refine Eval.iload_n rfl rfl ?_
 obtain ⟨hb314, h⟩ := ite_some h
 refine Eval.iaload rfl own_a1_qLen hb314 ?_
 refine Eval.istore (L' := [some (.ref 1), some (.int v1), some (.int v2), some (.int (v1 * (8:Int32))), some (.int ((v1 * (8:Int32)) + (8:Int32))), some (.int (rd s.f21 v1)), none, none]) rfl rfl ?_
 refine Eval.iconst (x := 0) rfl rfl ?_
 refine Eval.istore (L' := [some (.ref 1), some (.int v1), some (.int v2), some (.int (v1 * (8:Int32))), some (.int ((v1 * (8:Int32)) + (8:Int32))), some (.int (rd s.f21 v1)), some (.int 0), none]) rfl rfl ?_
 refine Eval.iload_n rfl rfl ?_
 refine Eval.istore (L' := [some (.ref 1), some (.int v1), some (.int v2), some (.int (v1 * (8:Int32))), some (.int ((v1 * (8:Int32)) + (8:Int32))), some (.int (rd s.f21 v1)), some (.int 0), some (.int v2)]) rfl rfl ?_
 refine Eval.weak (lw_mk 251 _) ?_
 obtain ⟨p319, hq320, h⟩ := bind_some h
 rcases p319 with p321 | p322
 ·dsimp only [Sum.elim] at h
  refine ev_j_copyQueue_l25 R scr _ s v1 (v1 * (8:Int32)) ((v1 * (8:Int32)) + (8:Int32)) (rd s.f21 v1) (0:Int32) v2 hq320 ?_
  show Eval own_P 28 39 [some (.ref 1), some (.int p321.1), none, none, none, none, some (.int p321.2.1), none] [] (W1 scr p321.2.2 R) out
  refine Eval.goto (t := 70) rfl rfl ?_
  exact ev_j_copyQueue_b70 R scr p321.2.2 p321.1 p321.2.1 h hk
 ·dsimp only [Sum.elim] at h
  refine ev_j_copyQueue_l25 R scr _ s v1 (v1 * (8:Int32)) ((v1 * (8:Int32)) + (8:Int32)) (rd s.f21 v1) (0:Int32) v2 hq320 ?_
  show Eval own_P 28 70 [some (.ref 1), some (.int p322.1), none, none, none, none, some (.int p322.2.1), none] [] (W1 scr p322.2.2 R) out
  exact ev_j_copyQueue_b70 R scr p322.2.2 p322.1 p322.2.1 h hk
def j_applyEnq_b44 (s : Q) (v1 v2 v4 : Int32) : Option (Int32 × Q) := ((j_copyQueue s v2 (0:Int32)).bind fun p326 => (if v4 = (1:Int32) then (if inb p326.f21.length (v2 + (1:Int32)) = true then (if (rd p326.f21 (v2 + (1:Int32))) < (0:Int32) then some ((1:Int32), p326) else (if (rd p326.f21 (v2 + (1:Int32))) < (8:Int32) then (if inb p326.f13.length v1 = true then (if inb p326.f20.length (((v2 + (1:Int32)) * (8:Int32)) + (rd p326.f21 (v2 + (1:Int32)))) = true then (if inb p326.f21.length (v2 + (1:Int32)) = true then some ((1:Int32), (Q.mk p326.f0 p326.f1 p326.f2 p326.f3 p326.f4 p326.f5 p326.f6 p326.f7 p326.f8 p326.f9 p326.f10 p326.f11 p326.f12 p326.f13 p326.f14 p326.f15 p326.f16 p326.f17 p326.f18 p326.f19 (wr p326.f20 (((v2 + (1:Int32)) * (8:Int32)) + (rd p326.f21 (v2 + (1:Int32)))) (rd p326.f13 v1)) (wr p326.f21 (v2 + (1:Int32)) ((rd p326.f21 (v2 + (1:Int32))) + (1:Int32))) p326.f22 p326.f23 p326.f24 p326.f25 p326.f26 p326.f27 p326.f28 p326.f29 p326.f30 p326.f31 p326.f32)) else none) else none) else none) else some ((1:Int32), p326))) else none) else some ((1:Int32), p326)))
theorem ln_j_applyEnq_b44 {s : Q} {v1 v2 v4 : Int32} {res : Int32 × Q} (h : j_applyEnq_b44 s v1 v2 v4 = some res) : Q.len res.2 = Q.len s := by
  rw [j_applyEnq_b44] at h
  obtain ⟨p326, hq327, h⟩ := bind_some h
  have hl328 := (ln_j_copyQueue hq327).trans rfl
  by_cases hc329 : v4 = (1:Int32)
  · rw [if_pos hc329] at h
    obtain ⟨hb330, h⟩ := ite_some h
    by_cases hc331 : (rd p326.f21 (v2 + (1:Int32))) < (0:Int32)
    · rw [if_pos hc331] at h
      have hr0 := Option.some.inj h
      subst hr0
      show Q.len p326 = _
      exact hl328
    · rw [if_neg hc331] at h
      by_cases hc332 : (rd p326.f21 (v2 + (1:Int32))) < (8:Int32)
      · rw [if_pos hc332] at h
        obtain ⟨hb333, h⟩ := ite_some h
        obtain ⟨hb334, h⟩ := ite_some h
        obtain ⟨hb335, h⟩ := ite_some h
        have hr0 := Option.some.inj h
        subst hr0
        show Q.len (Q.mk p326.f0 p326.f1 p326.f2 p326.f3 p326.f4 p326.f5 p326.f6 p326.f7 p326.f8 p326.f9 p326.f10 p326.f11 p326.f12 p326.f13 p326.f14 p326.f15 p326.f16 p326.f17 p326.f18 p326.f19 (wr p326.f20 (((v2 + (1:Int32)) * (8:Int32)) + (rd p326.f21 (v2 + (1:Int32)))) (rd p326.f13 v1)) (wr p326.f21 (v2 + (1:Int32)) ((rd p326.f21 (v2 + (1:Int32))) + (1:Int32))) p326.f22 p326.f23 p326.f24 p326.f25 p326.f26 p326.f27 p326.f28 p326.f29 p326.f30 p326.f31 p326.f32) = _
        exact (Eq.trans (show Q.len (Q.mk p326.f0 p326.f1 p326.f2 p326.f3 p326.f4 p326.f5 p326.f6 p326.f7 p326.f8 p326.f9 p326.f10 p326.f11 p326.f12 p326.f13 p326.f14 p326.f15 p326.f16 p326.f17 p326.f18 p326.f19 (wr p326.f20 (((v2 + (1:Int32)) * (8:Int32)) + (rd p326.f21 (v2 + (1:Int32)))) (rd p326.f13 v1)) (wr p326.f21 (v2 + (1:Int32)) ((rd p326.f21 (v2 + (1:Int32))) + (1:Int32))) p326.f22 p326.f23 p326.f24 p326.f25 p326.f26 p326.f27 p326.f28 p326.f29 p326.f30 p326.f31 p326.f32) = Q.len p326 from own_lenmk.trans (by first | (simp only [len_wr, len_wrL] <;> rfl) | rfl)) hl328)
      · rw [if_neg hc332] at h
        have hr0 := Option.some.inj h
        subst hr0
        show Q.len p326 = _
        exact hl328
  · rw [if_neg hc329] at h
    have hr0 := Option.some.inj h
    subst hr0
    show Q.len p326 = _
    exact hl328
set_option maxRecDepth 100000 in
theorem ev_j_applyEnq_b44 (R : AHeap) (scr : List Int32) (s : Q) (v1 v2 v4 : Int32) {res : Int32 × Q} {out : Option Value × AHeap} (h : j_applyEnq_b44 s v1 v2 v4 = some res) (hk : out = (some (.int res.1), (W1 scr res.2 R))) : Eval own_P 27 44 [some (.ref 1), some (.int v1), some (.int v2), none, some (.int v4), none] [] (W1 scr s R) out := by
 rw [j_applyEnq_b44] at h
 refine Eval.aload_n rfl rfl ?_
 refine Eval.iload_n rfl rfl ?_
 refine Eval.iconst (x := 0) rfl rfl ?_
 obtain ⟨p326, hq327, h⟩ := bind_some h
 refine Eval.callN (rest := []) (H1 := (W1 scr p326 R)) rfl rfl (ev_j_copyQueue R scr s v2 (0:Int32) hq327 rfl) ?_
 refine Eval.iload rfl rfl ?_
 refine Eval.iconst (x := 1) rfl rfl ?_
 by_cases hc329 : v4 = (1:Int32)
 ·rw [if_pos hc329] at h
  refine Eval.icmpF rfl (teq hc329).2 ?_
  refine Eval.aload_n rfl rfl ?_
  refine Eval.getfield rfl rfl own_g1_qLen ?_
  refine Eval.iload_n rfl rfl ?_
  refine Eval.iconst (x := 1) rfl rfl ?_
  refine Eval.iadd rfl ?_
  obtain ⟨hb330, h⟩ := ite_some h
  refine Eval.iaload rfl own_a1_qLen hb330 ?_
  refine Eval.istore (L' := [some (.ref 1), some (.int v1), some (.int v2), none, some (.int v4), some (.int (rd p326.f21 (v2 + (1:Int32))))]) rfl rfl ?_
  refine Eval.iload rfl rfl ?_
  by_cases hc331 : (rd p326.f21 (v2 + (1:Int32))) < (0:Int32)
  ·rw [if_pos hc331] at h
   refine Eval.ifT (t := 110) rfl rfl (tlt hc331).1 ?_
   refine Eval.iconst (x := 1) rfl rfl ?_
   cases h
   subst hk
   exact Eval.ret rfl rfl
  ·rw [if_neg hc331] at h
   refine Eval.ifF rfl (flt hc331).1 ?_
   refine Eval.iload rfl rfl ?_
   refine Eval.bipush (x := 8) rfl rfl ?_
   by_cases hc332 : (rd p326.f21 (v2 + (1:Int32))) < (8:Int32)
   ·rw [if_pos hc332] at h
    refine Eval.icmpF rfl (tlt hc332).2.1 ?_
    refine Eval.aload_n rfl rfl ?_
    refine Eval.getfield rfl rfl own_g1_qBuf ?_
    refine Eval.iload_n rfl rfl ?_
    refine Eval.iconst (x := 1) rfl rfl ?_
    refine Eval.iadd rfl ?_
    refine Eval.bipush (x := 8) rfl rfl ?_
    refine Eval.imul rfl ?_
    refine Eval.iload rfl rfl ?_
    refine Eval.iadd rfl ?_
    refine Eval.aload_n rfl rfl ?_
    refine Eval.getfield rfl rfl own_g1_opArg ?_
    refine Eval.iload_n rfl rfl ?_
    obtain ⟨hb333, h⟩ := ite_some h
    refine Eval.iaload rfl own_a1_opArg hb333 ?_
    obtain ⟨hb334, h⟩ := ite_some h
    refine Eval.iastore rfl rfl own_a1_qBuf hb334 own_s1_qBuf ?_
    refine Eval.aload_n rfl rfl ?_
    refine Eval.getfield rfl rfl own_g1_qLen ?_
    refine Eval.iload_n rfl rfl ?_
    refine Eval.iconst (x := 1) rfl rfl ?_
    refine Eval.iadd rfl ?_
    refine Eval.iload rfl rfl ?_
    refine Eval.iconst (x := 1) rfl rfl ?_
    refine Eval.iadd rfl ?_
    obtain ⟨hb335, h⟩ := ite_some h
    refine Eval.iastore rfl rfl own_a1_qLen hb335 own_s1_qLen ?_
    refine Eval.iconst (x := 1) rfl rfl ?_
    cases h
    subst hk
    exact Eval.retH own_mk1 rfl rfl
   ·rw [if_neg hc332] at h
    refine Eval.icmpT (t := 110) rfl rfl (flt hc332).2.1 ?_
    refine Eval.iconst (x := 1) rfl rfl ?_
    cases h
    subst hk
    exact Eval.ret rfl rfl
 ·rw [if_neg hc329] at h
  refine Eval.icmpT (t := 110) rfl rfl (feq hc329).2 ?_
  refine Eval.iconst (x := 1) rfl rfl ?_
  cases h
  subst hk
  exact Eval.ret rfl rfl
def j_applyEnq_b20 (s : Q) (v1 v2 w0 : Int32) : Option (Int32 × Q) := (if inb s.f15.length v1 = true then (if (rd s.f15 v1) < (0:Int32) then (j_applyEnq_b44 s v1 v2 w0) else (if inb s.f16.length v1 = true then (if (rd s.f16 v1) = w0 then (j_applyEnq_b44 s v1 v2 w0) else some ((0:Int32), s)) else none)) else none)
theorem ln_j_applyEnq_b20 {s : Q} {v1 v2 w0 : Int32} {res : Int32 × Q} (h : j_applyEnq_b20 s v1 v2 w0 = some res) : Q.len res.2 = Q.len s := by
  rw [j_applyEnq_b20] at h
  obtain ⟨hb312, h⟩ := ite_some h
  by_cases hc313 : (rd s.f15 v1) < (0:Int32)
  · rw [if_pos hc313] at h
    exact Eq.trans (ln_j_applyEnq_b44 h) rfl
  · rw [if_neg hc313] at h
    obtain ⟨hb336, h⟩ := ite_some h
    by_cases hc337 : (rd s.f16 v1) = w0
    · rw [if_pos hc337] at h
      exact Eq.trans (ln_j_applyEnq_b44 h) rfl
    · rw [if_neg hc337] at h
      have hr0 := Option.some.inj h
      subst hr0
      show Q.len s = _
      exact rfl
set_option maxRecDepth 100000 in
theorem ev_j_applyEnq_b20 (R : AHeap) (scr : List Int32) (s : Q) (v1 v2 w0 : Int32) {res : Int32 × Q} {out : Option Value × AHeap} (h : j_applyEnq_b20 s v1 v2 w0 = some res) (hk : out = (some (.int res.1), (W1 scr res.2 R))) : Eval own_P 27 20 [some (.ref 1), some (.int v1), some (.int v2), none, none, none] [.int w0] (W1 scr s R) out := by
 rw [j_applyEnq_b20] at h
 refine Eval.istore (L' := [some (.ref 1), some (.int v1), some (.int v2), none, some (.int w0), none]) rfl rfl ?_
 refine Eval.aload_n rfl rfl ?_
 refine Eval.getfield rfl rfl own_g1_opRes ?_
 refine Eval.iload_n rfl rfl ?_
 obtain ⟨hb312, h⟩ := ite_some h
 refine Eval.iaload rfl own_a1_opRes hb312 ?_
 by_cases hc313 : (rd s.f15 v1) < (0:Int32)
 ·rw [if_pos hc313] at h
  refine Eval.ifT (t := 44) rfl rfl (tlt hc313).1 ?_
  exact ev_j_applyEnq_b44 R scr s v1 v2 w0 h hk
 ·rw [if_neg hc313] at h
  refine Eval.ifF rfl (flt hc313).1 ?_
  refine Eval.aload_n rfl rfl ?_
  refine Eval.getfield rfl rfl own_g1_opStatus ?_
  refine Eval.iload_n rfl rfl ?_
  obtain ⟨hb336, h⟩ := ite_some h
  refine Eval.iaload rfl own_a1_opStatus hb336 ?_
  refine Eval.iload rfl rfl ?_
  by_cases hc337 : (rd s.f16 v1) = w0
  ·rw [if_pos hc337] at h
   refine Eval.icmpT (t := 44) rfl rfl (teq hc337).1 ?_
   exact ev_j_applyEnq_b44 R scr s v1 v2 w0 h hk
  ·rw [if_neg hc337] at h
   refine Eval.icmpF rfl (feq hc337).1 ?_
   refine Eval.iconst (x := 0) rfl rfl ?_
   cases h
   subst hk
   exact Eval.ret rfl rfl
def j_applyEnq (s : Q) (v1 v2 : Int32) : Option (Int32 × Q) := (if inb s.f21.length v2 = true then (j_applyEnq_b20 s v1 v2 (if (rd s.f21 v2) < s.f25 then (1:Int32) else (2:Int32))) else none)
theorem ln_j_applyEnq {s : Q} {v1 v2 : Int32} {res : Int32 × Q} (h : j_applyEnq s v1 v2 = some res) : Q.len res.2 = Q.len s := by
  rw [j_applyEnq] at h
  obtain ⟨hb309, h⟩ := ite_some h
  exact Eq.trans (ln_j_applyEnq_b20 h) rfl
set_option maxRecDepth 100000 in
theorem ev_j_applyEnq (R : AHeap) (scr : List Int32) (s : Q) (v1 v2 : Int32) {res : Int32 × Q} {out : Option Value × AHeap} (h : j_applyEnq s v1 v2 = some res) (hk : out = (some (.int res.1), (W1 scr res.2 R))) : Eval own_P 27 0 [some (.ref 1), some (.int v1), some (.int v2), none, none, none] [] (W1 scr s R) out := by
 rw [j_applyEnq] at h
 refine Eval.aload_n rfl rfl ?_
 refine Eval.getfield rfl rfl own_g1_qLen ?_
 refine Eval.iload_n rfl rfl ?_
 obtain ⟨hb309, h⟩ := ite_some h
 refine Eval.iaload rfl own_a1_qLen hb309 ?_
 refine Eval.istore_n (L' := [some (.ref 1), some (.int v1), some (.int v2), some (.int (rd s.f21 v2)), none, none]) rfl rfl ?_
 refine Eval.iload_n rfl rfl ?_
 refine Eval.aload_n rfl rfl ?_
 refine Eval.getfield rfl rfl own_g1_cap ?_
 suffices hJ311 : Eval own_P 27 20 [some (.ref 1), some (.int v1), some (.int v2), none, none, none] [.int (if (rd s.f21 v2) < s.f25 then (1:Int32) else (2:Int32))] (W1 scr s R) out by
  by_cases hc310 : (rd s.f21 v2) < s.f25
  ·refine Eval.icmpF rfl (tlt hc310).2.1 ?_
   refine Eval.iconst (x := 1) rfl rfl ?_
   refine Eval.goto (t := 20) rfl rfl ?_
   refine Eval.weak (lw_mk 7 _) ?_
   exact (Eval.conv hJ311 rfl (by simp only [if_pos hc310]))
  ·refine Eval.icmpT (t := 19) rfl rfl (flt hc310).2.1 ?_
   refine Eval.iconst (x := 2) rfl rfl ?_
   refine Eval.weak (lw_mk 7 _) ?_
   exact (Eval.conv hJ311 rfl (by simp only [if_neg hc310]))
 exact ev_j_applyEnq_b20 R scr s v1 v2 (if (rd s.f21 v2) < s.f25 then (1:Int32) else (2:Int32)) h hk
def j_applyDeq_b66 (s : Q) (v2 : Int32) : Option (Int32 × Q) := ((j_copyQueue s v2 (1:Int32)).bind fun p348 => some ((1:Int32), p348))
theorem ln_j_applyDeq_b66 {s : Q} {v2 : Int32} {res : Int32 × Q} (h : j_applyDeq_b66 s v2 = some res) : Q.len res.2 = Q.len s := by
  rw [j_applyDeq_b66] at h
  obtain ⟨p348, hq349, h⟩ := bind_some h
  have hl350 := (ln_j_copyQueue hq349).trans rfl
  have hr0 := Option.some.inj h
  subst hr0
  show Q.len p348 = _
  exact hl350
set_option maxRecDepth 100000 in
theorem ev_j_applyDeq_b66 (R : AHeap) (scr : List Int32) (s : Q) (v2 : Int32) {res : Int32 × Q} {out : Option Value × AHeap} (h : j_applyDeq_b66 s v2 = some res) (hk : out = (some (.int res.1), (W1 scr res.2 R))) : Eval own_P 30 66 [some (.ref 1), none, some (.int v2), none, none, none] [] (W1 scr s R) out := by
 rw [j_applyDeq_b66] at h
 refine Eval.aload_n rfl rfl ?_
 refine Eval.iload_n rfl rfl ?_
 refine Eval.iconst (x := 1) rfl rfl ?_
 obtain ⟨p348, hq349, h⟩ := bind_some h
 refine Eval.callN (rest := []) (H1 := (W1 scr p348 R)) rfl rfl (ev_j_copyQueue R scr s v2 (1:Int32) hq349 rfl) ?_
 refine Eval.iconst (x := 1) rfl rfl ?_
 cases h
 subst hk
 exact Eval.ret rfl rfl
def j_applyDeq_b91 (s : Q) (v2 : Int32) : Option (Int32 × Q) := ((j_copyQueue s v2 (0:Int32)).bind fun p356 => some ((1:Int32), p356))
theorem ln_j_applyDeq_b91 {s : Q} {v2 : Int32} {res : Int32 × Q} (h : j_applyDeq_b91 s v2 = some res) : Q.len res.2 = Q.len s := by
  rw [j_applyDeq_b91] at h
  obtain ⟨p356, hq357, h⟩ := bind_some h
  have hl358 := (ln_j_copyQueue hq357).trans rfl
  have hr0 := Option.some.inj h
  subst hr0
  show Q.len p356 = _
  exact hl358
set_option maxRecDepth 100000 in
theorem ev_j_applyDeq_b91 (R : AHeap) (scr : List Int32) (s : Q) (v2 : Int32) {res : Int32 × Q} {out : Option Value × AHeap} (h : j_applyDeq_b91 s v2 = some res) (hk : out = (some (.int res.1), (W1 scr res.2 R))) : Eval own_P 30 91 [some (.ref 1), none, some (.int v2), none, none, none] [] (W1 scr s R) out := by
 rw [j_applyDeq_b91] at h
 refine Eval.aload_n rfl rfl ?_
 refine Eval.iload_n rfl rfl ?_
 refine Eval.iconst (x := 0) rfl rfl ?_
 obtain ⟨p356, hq357, h⟩ := bind_some h
 refine Eval.callN (rest := []) (H1 := (W1 scr p356 R)) rfl rfl (ev_j_copyQueue R scr s v2 (0:Int32) hq357 rfl) ?_
 refine Eval.iconst (x := 1) rfl rfl ?_
 cases h
 subst hk
 exact Eval.ret rfl rfl
def j_applyDeq_b21 (s : Q) (v1 v2 : Int32) (v3 w0 : Int32) : Option (Int32 × Q) := (if (0:Int32) < v3 then (if inb s.f20.length (v2 * (8:Int32)) = true then (if w0 = (0:Int32) then (j_applyDeq_b66 s v2) else (if inb s.f16.length v1 = true then (if (rd s.f16 v1) = (1:Int32) then (if inb s.f17.length v1 = true then (if (rd s.f17 v1) = (rd s.f20 (v2 * (8:Int32))) then (j_applyDeq_b66 s v2) else some ((0:Int32), s)) else none) else some ((0:Int32), s)) else none)) else none) else (if w0 = (0:Int32) then (j_applyDeq_b91 s v2) else (if inb s.f16.length v1 = true then (if (rd s.f16 v1) = (3:Int32) then (j_applyDeq_b91 s v2) else some ((0:Int32), s)) else none)))
theorem ln_j_applyDeq_b21 {s : Q} {v1 v2 v3 w0 : Int32} {res : Int32 × Q} (h : j_applyDeq_b21 s v1 v2 v3 w0 = some res) : Q.len res.2 = Q.len s := by
  rw [j_applyDeq_b21] at h
  by_cases hc345 : (0:Int32) < v3
  · rw [if_pos hc345] at h
    obtain ⟨hb346, h⟩ := ite_some h
    by_cases hc347 : w0 = (0:Int32)
    · rw [if_pos hc347] at h
      exact Eq.trans (ln_j_applyDeq_b66 h) rfl
    · rw [if_neg hc347] at h
      obtain ⟨hb351, h⟩ := ite_some h
      by_cases hc352 : (rd s.f16 v1) = (1:Int32)
      · rw [if_pos hc352] at h
        obtain ⟨hb353, h⟩ := ite_some h
        by_cases hc354 : (rd s.f17 v1) = (rd s.f20 (v2 * (8:Int32)))
        · rw [if_pos hc354] at h
          exact Eq.trans (ln_j_applyDeq_b66 h) rfl
        · rw [if_neg hc354] at h
          have hr0 := Option.some.inj h
          subst hr0
          show Q.len s = _
          exact rfl
      · rw [if_neg hc352] at h
        have hr0 := Option.some.inj h
        subst hr0
        show Q.len s = _
        exact rfl
  · rw [if_neg hc345] at h
    by_cases hc355 : w0 = (0:Int32)
    · rw [if_pos hc355] at h
      exact Eq.trans (ln_j_applyDeq_b91 h) rfl
    · rw [if_neg hc355] at h
      obtain ⟨hb359, h⟩ := ite_some h
      by_cases hc360 : (rd s.f16 v1) = (3:Int32)
      · rw [if_pos hc360] at h
        exact Eq.trans (ln_j_applyDeq_b91 h) rfl
      · rw [if_neg hc360] at h
        have hr0 := Option.some.inj h
        subst hr0
        show Q.len s = _
        exact rfl
set_option maxRecDepth 100000 in
theorem ev_j_applyDeq_b21 (R : AHeap) (scr : List Int32) (s : Q) (v1 v2 : Int32) (v3 w0 : Int32) {res : Int32 × Q} {out : Option Value × AHeap} (h : j_applyDeq_b21 s v1 v2 v3 w0 = some res) (hk : out = (some (.int res.1), (W1 scr res.2 R))) : Eval own_P 30 21 [some (.ref 1), some (.int v1), some (.int v2), some (.int v3), none, none] [.int w0] (W1 scr s R) out := by
 rw [j_applyDeq_b21] at h
 refine Eval.istore (L' := [some (.ref 1), some (.int v1), some (.int v2), some (.int v3), some (.int w0), none]) rfl rfl ?_
 refine Eval.iload_n rfl rfl ?_
 by_cases hc345 : (0:Int32) < v3
 ·rw [if_pos hc345] at h
  refine Eval.ifF rfl (tlt hc345).2.2.2 ?_
  refine Eval.aload_n rfl rfl ?_
  refine Eval.getfield rfl rfl own_g1_qBuf ?_
  refine Eval.iload_n rfl rfl ?_
  refine Eval.bipush (x := 8) rfl rfl ?_
  refine Eval.imul rfl ?_
  obtain ⟨hb346, h⟩ := ite_some h
  refine Eval.iaload rfl own_a1_qBuf hb346 ?_
  refine Eval.istore (L' := [some (.ref 1), some (.int v1), some (.int v2), some (.int v3), some (.int w0), some (.int (rd s.f20 (v2 * (8:Int32))))]) rfl rfl ?_
  refine Eval.iload rfl rfl ?_
  by_cases hc347 : w0 = (0:Int32)
  ·rw [if_pos hc347] at h
   refine Eval.ifT (t := 66) rfl rfl (teq hc347).1 ?_
   refine Eval.weak (lw_mk 5 _) ?_
   exact ev_j_applyDeq_b66 R scr s v2 h hk
  ·rw [if_neg hc347] at h
   refine Eval.ifF rfl (feq hc347).1 ?_
   refine Eval.aload_n rfl rfl ?_
   refine Eval.getfield rfl rfl own_g1_opStatus ?_
   refine Eval.iload_n rfl rfl ?_
   obtain ⟨hb351, h⟩ := ite_some h
   refine Eval.iaload rfl own_a1_opStatus hb351 ?_
   refine Eval.iconst (x := 1) rfl rfl ?_
   by_cases hc352 : (rd s.f16 v1) = (1:Int32)
   ·rw [if_pos hc352] at h
    refine Eval.icmpF rfl (teq hc352).2 ?_
    refine Eval.aload_n rfl rfl ?_
    refine Eval.getfield rfl rfl own_g1_opRVal ?_
    refine Eval.iload_n rfl rfl ?_
    obtain ⟨hb353, h⟩ := ite_some h
    refine Eval.iaload rfl own_a1_opRVal hb353 ?_
    refine Eval.iload rfl rfl ?_
    by_cases hc354 : (rd s.f17 v1) = (rd s.f20 (v2 * (8:Int32)))
    ·rw [if_pos hc354] at h
     refine Eval.icmpT (t := 66) rfl rfl (teq hc354).1 ?_
     refine Eval.weak (lw_mk 5 _) ?_
     exact ev_j_applyDeq_b66 R scr s v2 h hk
    ·rw [if_neg hc354] at h
     refine Eval.icmpF rfl (feq hc354).1 ?_
     refine Eval.iconst (x := 0) rfl rfl ?_
     cases h
     subst hk
     exact Eval.ret rfl rfl
   ·rw [if_neg hc352] at h
    refine Eval.icmpT (t := 64) rfl rfl (feq hc352).2 ?_
    refine Eval.iconst (x := 0) rfl rfl ?_
    cases h
    subst hk
    exact Eval.ret rfl rfl
 ·rw [if_neg hc345] at h
  refine Eval.ifT (t := 74) rfl rfl (flt hc345).2.2.2 ?_
  refine Eval.iload rfl rfl ?_
  by_cases hc355 : w0 = (0:Int32)
  ·rw [if_pos hc355] at h
   refine Eval.ifT (t := 91) rfl rfl (teq hc355).1 ?_
   refine Eval.weak (lw_mk 5 _) ?_
   exact ev_j_applyDeq_b91 R scr s v2 h hk
  ·rw [if_neg hc355] at h
   refine Eval.ifF rfl (feq hc355).1 ?_
   refine Eval.aload_n rfl rfl ?_
   refine Eval.getfield rfl rfl own_g1_opStatus ?_
   refine Eval.iload_n rfl rfl ?_
   obtain ⟨hb359, h⟩ := ite_some h
   refine Eval.iaload rfl own_a1_opStatus hb359 ?_
   refine Eval.iconst (x := 3) rfl rfl ?_
   by_cases hc360 : (rd s.f16 v1) = (3:Int32)
   ·rw [if_pos hc360] at h
    refine Eval.icmpT (t := 91) rfl rfl (teq hc360).1 ?_
    refine Eval.weak (lw_mk 5 _) ?_
    exact ev_j_applyDeq_b91 R scr s v2 h hk
   ·rw [if_neg hc360] at h
    refine Eval.icmpF rfl (feq hc360).1 ?_
    refine Eval.iconst (x := 0) rfl rfl ?_
    cases h
    subst hk
    exact Eval.ret rfl rfl
def j_applyDeq (s : Q) (v1 v2 : Int32) : Option (Int32 × Q) := (if inb s.f21.length v2 = true then (if inb s.f15.length v1 = true then (j_applyDeq_b21 s v1 v2 (rd s.f21 v2) (if (rd s.f15 v1) < (0:Int32) then (0:Int32) else (1:Int32))) else none) else none)
theorem ln_j_applyDeq {s : Q} {v1 v2 : Int32} {res : Int32 × Q} (h : j_applyDeq s v1 v2 = some res) : Q.len res.2 = Q.len s := by
  rw [j_applyDeq] at h
  obtain ⟨hb341, h⟩ := ite_some h
  obtain ⟨hb342, h⟩ := ite_some h
  exact Eq.trans (ln_j_applyDeq_b21 h) rfl
set_option maxRecDepth 100000 in
theorem ev_j_applyDeq (R : AHeap) (scr : List Int32) (s : Q) (v1 v2 : Int32) {res : Int32 × Q} {out : Option Value × AHeap} (h : j_applyDeq s v1 v2 = some res) (hk : out = (some (.int res.1), (W1 scr res.2 R))) : Eval own_P 30 0 [some (.ref 1), some (.int v1), some (.int v2), none, none, none] [] (W1 scr s R) out := by
 rw [j_applyDeq] at h
 refine Eval.aload_n rfl rfl ?_
 refine Eval.getfield rfl rfl own_g1_qLen ?_
 refine Eval.iload_n rfl rfl ?_
 obtain ⟨hb341, h⟩ := ite_some h
 refine Eval.iaload rfl own_a1_qLen hb341 ?_
 refine Eval.istore_n (L' := [some (.ref 1), some (.int v1), some (.int v2), some (.int (rd s.f21 v2)), none, none]) rfl rfl ?_
 refine Eval.aload_n rfl rfl ?_
 refine Eval.getfield rfl rfl own_g1_opRes ?_
 refine Eval.iload_n rfl rfl ?_
 obtain ⟨hb342, h⟩ := ite_some h
 refine Eval.iaload rfl own_a1_opRes hb342 ?_
 suffices hJ344 : Eval own_P 30 21 [some (.ref 1), some (.int v1), some (.int v2), some (.int (rd s.f21 v2)), none, none] [.int (if (rd s.f15 v1) < (0:Int32) then (0:Int32) else (1:Int32))] (W1 scr s R) out by
  by_cases hc343 : (rd s.f15 v1) < (0:Int32)
  ·refine Eval.ifT (t := 20) rfl rfl (tlt hc343).1 ?_
   refine Eval.iconst (x := 0) rfl rfl ?_
   exact (Eval.conv hJ344 rfl (by simp only [if_pos hc343]))
  ·refine Eval.ifF rfl (flt hc343).1 ?_
   refine Eval.iconst (x := 1) rfl rfl ?_
   refine Eval.goto (t := 21) rfl rfl ?_
   exact (Eval.conv hJ344 rfl (by simp only [if_neg hc343]))
 exact ev_j_applyDeq_b21 R scr s v1 v2 (rd s.f21 v2) (if (rd s.f15 v1) < (0:Int32) then (0:Int32) else (1:Int32)) h hk
def j_apply (s : Q) (v1 v2 : Int32) : Option (Int32 × Q) := (if v2 < (0:Int32) then some ((0:Int32), s) else (if (5:Int32) < v2 then some ((0:Int32), s) else (if v1 < (0:Int32) then some ((0:Int32), s) else (if v1 < (6:Int32) then (if inb s.f12.length v1 = true then (if (rd s.f12 v1) = (1:Int32) then ((j_applyEnq s v1 v2).bind fun p338 => some ((p338.1 &&& 1), p338.2)) else ((j_applyDeq s v1 v2).bind fun p361 => some ((p361.1 &&& 1), p361.2))) else none) else some ((0:Int32), s)))))
theorem ln_j_apply {s : Q} {v1 v2 : Int32} {res : Int32 × Q} (h : j_apply s v1 v2 = some res) : Q.len res.2 = Q.len s := by
  rw [j_apply] at h
  by_cases hc303 : v2 < (0:Int32)
  · rw [if_pos hc303] at h
    have hr0 := Option.some.inj h
    subst hr0
    show Q.len s = _
    exact rfl
  · rw [if_neg hc303] at h
    by_cases hc304 : (5:Int32) < v2
    · rw [if_pos hc304] at h
      have hr0 := Option.some.inj h
      subst hr0
      show Q.len s = _
      exact rfl
    · rw [if_neg hc304] at h
      by_cases hc305 : v1 < (0:Int32)
      · rw [if_pos hc305] at h
        have hr0 := Option.some.inj h
        subst hr0
        show Q.len s = _
        exact rfl
      · rw [if_neg hc305] at h
        by_cases hc306 : v1 < (6:Int32)
        · rw [if_pos hc306] at h
          obtain ⟨hb307, h⟩ := ite_some h
          by_cases hc308 : (rd s.f12 v1) = (1:Int32)
          · rw [if_pos hc308] at h
            obtain ⟨p338, hq339, h⟩ := bind_some h
            have hl340 := (ln_j_applyEnq hq339).trans rfl
            have hr0 := Option.some.inj h
            subst hr0
            show Q.len p338.2 = _
            exact hl340
          · rw [if_neg hc308] at h
            obtain ⟨p361, hq362, h⟩ := bind_some h
            have hl363 := (ln_j_applyDeq hq362).trans rfl
            have hr0 := Option.some.inj h
            subst hr0
            show Q.len p361.2 = _
            exact hl363
        · rw [if_neg hc306] at h
          have hr0 := Option.some.inj h
          subst hr0
          show Q.len s = _
          exact rfl
set_option maxRecDepth 100000 in
theorem ev_j_apply (R : AHeap) (scr : List Int32) (s : Q) (v1 v2 : Int32) {res : Int32 × Q} {out : Option Value × AHeap} (h : j_apply s v1 v2 = some res) (hk : out = (some (.int res.1), (W1 scr res.2 R))) : Eval own_P 26 0 [some (.ref 1), some (.int v1), some (.int v2)] [] (W1 scr s R) out := by
 rw [j_apply] at h
 refine Eval.iload_n rfl rfl ?_
 by_cases hc303 : v2 < (0:Int32)
 ·rw [if_pos hc303] at h
  refine Eval.ifT (t := 19) rfl rfl (tlt hc303).1 ?_
  refine Eval.iconst (x := 0) rfl rfl ?_
  cases h
  subst hk
  exact Eval.ret rfl rfl
 ·rw [if_neg hc303] at h
  refine Eval.ifF rfl (flt hc303).1 ?_
  refine Eval.iload_n rfl rfl ?_
  refine Eval.iconst (x := 5) rfl rfl ?_
  by_cases hc304 : (5:Int32) < v2
  ·rw [if_pos hc304] at h
   refine Eval.icmpT (t := 19) rfl rfl (tlt hc304).2.2.1 ?_
   refine Eval.iconst (x := 0) rfl rfl ?_
   cases h
   subst hk
   exact Eval.ret rfl rfl
  ·rw [if_neg hc304] at h
   refine Eval.icmpF rfl (flt hc304).2.2.1 ?_
   refine Eval.iload_n rfl rfl ?_
   by_cases hc305 : v1 < (0:Int32)
   ·rw [if_pos hc305] at h
    refine Eval.ifT (t := 19) rfl rfl (tlt hc305).1 ?_
    refine Eval.iconst (x := 0) rfl rfl ?_
    cases h
    subst hk
    exact Eval.ret rfl rfl
   ·rw [if_neg hc305] at h
    refine Eval.ifF rfl (flt hc305).1 ?_
    refine Eval.iload_n rfl rfl ?_
    refine Eval.bipush (x := 6) rfl rfl ?_
    by_cases hc306 : v1 < (6:Int32)
    ·rw [if_pos hc306] at h
     refine Eval.icmpT (t := 21) rfl rfl (tlt hc306).1 ?_
     refine Eval.aload_n rfl rfl ?_
     refine Eval.getfield rfl rfl own_g1_opKind ?_
     refine Eval.iload_n rfl rfl ?_
     obtain ⟨hb307, h⟩ := ite_some h
     refine Eval.iaload rfl own_a1_opKind hb307 ?_
     refine Eval.iconst (x := 1) rfl rfl ?_
     by_cases hc308 : (rd s.f12 v1) = (1:Int32)
     ·rw [if_pos hc308] at h
      refine Eval.icmpF rfl (teq hc308).2 ?_
      refine Eval.aload_n rfl rfl ?_
      refine Eval.iload_n rfl rfl ?_
      refine Eval.iload_n rfl rfl ?_
      obtain ⟨p338, hq339, h⟩ := bind_some h
      refine Eval.callI (rest := []) (x := p338.1) (H1 := (W1 scr p338.2 R)) rfl rfl (ev_j_applyEnq R scr s v1 v2 hq339 rfl) ?_
      cases h
      subst hk
      exact Eval.ret rfl rfl
     ·rw [if_neg hc308] at h
      refine Eval.icmpT (t := 38) rfl rfl (feq hc308).2 ?_
      refine Eval.aload_n rfl rfl ?_
      refine Eval.iload_n rfl rfl ?_
      refine Eval.iload_n rfl rfl ?_
      obtain ⟨p361, hq362, h⟩ := bind_some h
      refine Eval.callI (rest := []) (x := p361.1) (H1 := (W1 scr p361.2 R)) rfl rfl (ev_j_applyDeq R scr s v1 v2 hq362 rfl) ?_
      cases h
      subst hk
      exact Eval.ret rfl rfl
    ·rw [if_neg hc306] at h
     refine Eval.icmpF rfl (flt hc306).1 ?_
     refine Eval.iconst (x := 0) rfl rfl ?_
     cases h
     subst hk
     exact Eval.ret rfl rfl
def j_search_b215 (go_ : Q → Int32 → Int32 → Int32 → Option ((Q) ⊕ ((Q) ⊕ (Q)))) (s : Q) (v1 v2 v3 : Int32) : Option ((Q) ⊕ ((Q) ⊕ (Q))) := (go_ s v1 v2 (v3 + (1:Int32)))
theorem ln_j_search_b215 {go_ : Q → Int32 → Int32 → Int32 → Option ((Q) ⊕ ((Q) ⊕ (Q)))} (hrec : ∀ (s : Q) (v1 v2 v3 : Int32) {res : (Q) ⊕ ((Q) ⊕ (Q))}, go_ s v1 v2 v3 = some res → j_search_l66_N s res) {s : Q} {v1 v2 v3 : Int32} {res : (Q) ⊕ ((Q) ⊕ (Q))} (h : j_search_b215 go_ s v1 v2 v3 = some res) : j_search_l66_N s res := by
  rw [j_search_b215] at h
  have hz := hrec _ _ _ _ h
  rcases res with res | res
  · exact Eq.trans hz rfl
  · rcases res with res | res
    · exact Eq.trans hz rfl
    · exact Eq.trans hz rfl
set_option maxRecDepth 100000 in
theorem ev_j_search_b215 (R : AHeap) (scr : List Int32) (go_ : Q → Int32 → Int32 → Int32 → Option ((Q) ⊕ ((Q) ⊕ (Q)))) (hrec : ∀ (s : Q) (v1 v2 v3 : Int32) {res : (Q) ⊕ ((Q) ⊕ (Q))} {out : Option Value × AHeap}, go_ s v1 v2 v3 = some res → j_search_l66_K R scr res out → Eval own_P 25 66 [some (.ref 1), some (.int v1), some (.int v2), some (.int v3), none] [] (W1 scr s R) out) (s : Q) (v1 v2 v3 : Int32) {res : (Q) ⊕ ((Q) ⊕ (Q))} {out : Option Value × AHeap} (h : j_search_b215 go_ s v1 v2 v3 = some res) (hk : j_search_l66_K R scr res out) : Eval own_P 25 215 [some (.ref 1), some (.int v1), some (.int v2), some (.int v3), none] [] (W1 scr s R) out := by
 rw [j_search_b215] at h
 refine Eval.iinc (L' := [some (.ref 1), some (.int v1), some (.int v2), some (.int (v3 + (1:Int32))), none]) rfl rfl rfl ?_
 refine Eval.goto (t := 66) rfl rfl ?_
 exact hrec _ _ _ _ h hk
def j_search_b96 (go_ : Q → Int32 → Int32 → Int32 → Option ((Q) ⊕ ((Q) ⊕ (Q)))) (s : Q) (v1 v2 v3 : Int32) : Option ((Q) ⊕ ((Q) ⊕ (Q))) := (if v1 = (0:Int32) then some (.inl (s)) else (if inb s.f23.length (v1 + (-1:Int32)) = true then (j_search_b215 (go_) s (v1 + (-1:Int32)) (v2 &&& ((ish (1:Int32) (rd s.f23 (v1 + (-1:Int32)))) ^^^ (-1:Int32))) v3) else none))
theorem ln_j_search_b96 {go_ : Q → Int32 → Int32 → Int32 → Option ((Q) ⊕ ((Q) ⊕ (Q)))} (hrec : ∀ (s : Q) (v1 v2 v3 : Int32) {res : (Q) ⊕ ((Q) ⊕ (Q))}, go_ s v1 v2 v3 = some res → j_search_l66_N s res) {s : Q} {v1 v2 v3 : Int32} {res : (Q) ⊕ ((Q) ⊕ (Q))} (h : j_search_b96 go_ s v1 v2 v3 = some res) : j_search_l66_N s res := by
  rw [j_search_b96] at h
  by_cases hc371 : v1 = (0:Int32)
  · rw [if_pos hc371] at h
    have hr0 := Option.some.inj h
    subst hr0
    show Q.len s = _
    exact rfl
  · rw [if_neg hc371] at h
    obtain ⟨hb372, h⟩ := ite_some h
    have hz := ln_j_search_b215 hrec h
    rcases res with res | res
    · exact Eq.trans hz rfl
    · rcases res with res | res
      · exact Eq.trans hz rfl
      · exact Eq.trans hz rfl
set_option maxRecDepth 100000 in
theorem ev_j_search_b96 (R : AHeap) (scr : List Int32) (go_ : Q → Int32 → Int32 → Int32 → Option ((Q) ⊕ ((Q) ⊕ (Q)))) (hrec : ∀ (s : Q) (v1 v2 v3 : Int32) {res : (Q) ⊕ ((Q) ⊕ (Q))} {out : Option Value × AHeap}, go_ s v1 v2 v3 = some res → j_search_l66_K R scr res out → Eval own_P 25 66 [some (.ref 1), some (.int v1), some (.int v2), some (.int v3), none] [] (W1 scr s R) out) (s : Q) (v1 v2 v3 : Int32) {res : (Q) ⊕ ((Q) ⊕ (Q))} {out : Option Value × AHeap} (h : j_search_b96 go_ s v1 v2 v3 = some res) (hk : j_search_l66_K R scr res out) : Eval own_P 25 96 [some (.ref 1), some (.int v1), some (.int v2), some (.int v3), none] [] (W1 scr s R) out := by
 rw [j_search_b96] at h
 refine Eval.iload_n rfl rfl ?_
 by_cases hc371 : v1 = (0:Int32)
 ·rw [if_pos hc371] at h
  refine Eval.ifF rfl (teq hc371).2 ?_
  cases h
  refine Eval.weak (lw_mk 0 _) ?_
  exact hk
 ·rw [if_neg hc371] at h
  refine Eval.ifT (t := 102) rfl rfl (feq hc371).2 ?_
  refine Eval.iinc (L' := [some (.ref 1), some (.int (v1 + (-1:Int32))), some (.int v2), some (.int v3), none]) rfl rfl rfl ?_
  refine Eval.iload_n rfl rfl ?_
  refine Eval.iconst (x := 1) rfl rfl ?_
  refine Eval.aload_n rfl rfl ?_
  refine Eval.getfield rfl rfl own_g1_chosen ?_
  refine Eval.iload_n rfl rfl ?_
  obtain ⟨hb372, h⟩ := ite_some h
  refine Eval.iaload rfl own_a1_chosen hb372 ?_
  refine Eval.ishl rfl ?_
  refine Eval.iconst (x := -1) rfl rfl ?_
  refine Eval.ixor rfl ?_
  refine Eval.iand rfl ?_
  refine Eval.istore_n (L' := [some (.ref 1), some (.int (v1 + (-1:Int32))), some (.int (v2 &&& ((ish (1:Int32) (rd s.f23 (v1 + (-1:Int32)))) ^^^ (-1:Int32)))), some (.int v3), none]) rfl rfl ?_
  refine Eval.goto (t := 215) rfl rfl ?_
  exact ev_j_search_b215 R scr _ hrec s (v1 + (-1:Int32)) (v2 &&& ((ish (1:Int32) (rd s.f23 (v1 + (-1:Int32)))) ^^^ (-1:Int32))) v3 h hk
def j_search_l66 : Nat → Q → Int32 → Int32 → Int32 → Option ((Q) ⊕ ((Q) ⊕ (Q)))
  | 0, _, _, _, _ => none
  | n + 1, s, v1, v2, v3 => (if v3 < (200000:Int32) then (if inb s.f22.length v1 = true then (if (rd s.f22 v1) < s.f31 then (if (rd s.f22 v1) < (6:Int32) then (if inb s.f22.length v1 = true then (if (v2 &&& (ish (1:Int32) (rd s.f22 v1))) = (0:Int32) then (if inb s.f18.length (rd s.f22 v1) = true then (if inb s.f18.length (rd s.f22 v1) = true then (if ((rd s.f18 (rd s.f22 v1)) &&& v2) = (rd s.f18 (rd s.f22 v1)) then ((j_apply (Q.mk s.f0 s.f1 s.f2 s.f3 s.f4 s.f5 s.f6 s.f7 s.f8 s.f9 s.f10 s.f11 s.f12 s.f13 s.f14 s.f15 s.f16 s.f17 s.f18 s.f19 s.f20 s.f21 (wr s.f22 v1 ((rd s.f22 v1) + (1:Int32))) s.f23 s.f24 s.f25 s.f26 s.f27 s.f28 s.f29 s.f30 s.f31 s.f32) (rd s.f22 v1) v1).bind fun p364 => (if p364.1 = (0:Int32) then (j_search_b215 (j_search_l66 n) p364.2 v1 v2 v3) else (if inb p364.2.f23.length v1 = true then (if inb p364.2.f22.length (v1 + (1:Int32)) = true then (if ((v2 ||| (ish (1:Int32) (rd s.f22 v1))) &&& p364.2.f32) = p364.2.f32 then some (.inr (.inl ((Q.mk p364.2.f0 p364.2.f1 p364.2.f2 p364.2.f3 p364.2.f4 p364.2.f5 p364.2.f6 p364.2.f7 p364.2.f8 p364.2.f9 p364.2.f10 p364.2.f11 p364.2.f12 p364.2.f13 p364.2.f14 p364.2.f15 p364.2.f16 p364.2.f17 p364.2.f18 p364.2.f19 p364.2.f20 p364.2.f21 (wr p364.2.f22 (v1 + (1:Int32)) (0:Int32)) (wr p364.2.f23 v1 (rd s.f22 v1)) p364.2.f24 p364.2.f25 p364.2.f26 p364.2.f27 p364.2.f28 p364.2.f29 p364.2.f30 p364.2.f31 p364.2.f32)))) else (j_search_b215 (j_search_l66 n) (Q.mk p364.2.f0 p364.2.f1 p364.2.f2 p364.2.f3 p364.2.f4 p364.2.f5 p364.2.f6 p364.2.f7 p364.2.f8 p364.2.f9 p364.2.f10 p364.2.f11 p364.2.f12 p364.2.f13 p364.2.f14 p364.2.f15 p364.2.f16 p364.2.f17 p364.2.f18 p364.2.f19 p364.2.f20 p364.2.f21 (wr p364.2.f22 (v1 + (1:Int32)) (0:Int32)) (wr p364.2.f23 v1 (rd s.f22 v1)) p364.2.f24 p364.2.f25 p364.2.f26 p364.2.f27 p364.2.f28 p364.2.f29 p364.2.f30 p364.2.f31 p364.2.f32) (v1 + (1:Int32)) (v2 ||| (ish (1:Int32) (rd s.f22 v1))) v3)) else none) else none))) else (j_search_b215 (j_search_l66 n) (Q.mk s.f0 s.f1 s.f2 s.f3 s.f4 s.f5 s.f6 s.f7 s.f8 s.f9 s.f10 s.f11 s.f12 s.f13 s.f14 s.f15 s.f16 s.f17 s.f18 s.f19 s.f20 s.f21 (wr s.f22 v1 ((rd s.f22 v1) + (1:Int32))) s.f23 s.f24 s.f25 s.f26 s.f27 s.f28 s.f29 s.f30 s.f31 s.f32) v1 v2 v3)) else none) else none) else (j_search_b215 (j_search_l66 n) (Q.mk s.f0 s.f1 s.f2 s.f3 s.f4 s.f5 s.f6 s.f7 s.f8 s.f9 s.f10 s.f11 s.f12 s.f13 s.f14 s.f15 s.f16 s.f17 s.f18 s.f19 s.f20 s.f21 (wr s.f22 v1 ((rd s.f22 v1) + (1:Int32))) s.f23 s.f24 s.f25 s.f26 s.f27 s.f28 s.f29 s.f30 s.f31 s.f32) v1 v2 v3)) else none) else (j_search_b96 (j_search_l66 n) s v1 v2 v3)) else (j_search_b96 (j_search_l66 n) s v1 v2 v3)) else none) else some (.inr (.inr (s))))
theorem ln_j_search_l66 : ∀ {n : Nat} {s : Q} {v1 v2 v3 : Int32} {res : (Q) ⊕ ((Q) ⊕ (Q))}, j_search_l66 n s v1 v2 v3 = some res → j_search_l66_N s res := by
  intro n
  induction n with
  | zero => intro _ _ _ _ res h; cases h
  | succ n hrec0 =>
    have hrec : ∀ (s : Q) (v1 v2 v3 : Int32) {res : (Q) ⊕ ((Q) ⊕ (Q))}, j_search_l66 n s v1 v2 v3 = some res → j_search_l66_N s res := by intros; apply hrec0; assumption
    intro s v1 v2 v3 res h
    rw [j_search_l66] at h
    by_cases hc294 : v3 < (200000:Int32)
    · rw [if_pos hc294] at h
      obtain ⟨hb295, h⟩ := ite_some h
      by_cases hc296 : (rd s.f22 v1) < s.f31
      · rw [if_pos hc296] at h
        by_cases hc297 : (rd s.f22 v1) < (6:Int32)
        · rw [if_pos hc297] at h
          obtain ⟨hb298, h⟩ := ite_some h
          by_cases hc299 : (v2 &&& (ish (1:Int32) (rd s.f22 v1))) = (0:Int32)
          · rw [if_pos hc299] at h
            obtain ⟨hb300, h⟩ := ite_some h
            obtain ⟨hb301, h⟩ := ite_some h
            by_cases hc302 : ((rd s.f18 (rd s.f22 v1)) &&& v2) = (rd s.f18 (rd s.f22 v1))
            · rw [if_pos hc302] at h
              obtain ⟨p364, hq365, h⟩ := bind_some h
              have hl366 := (ln_j_apply hq365).trans (Eq.trans (show Q.len (Q.mk s.f0 s.f1 s.f2 s.f3 s.f4 s.f5 s.f6 s.f7 s.f8 s.f9 s.f10 s.f11 s.f12 s.f13 s.f14 s.f15 s.f16 s.f17 s.f18 s.f19 s.f20 s.f21 (wr s.f22 v1 ((rd s.f22 v1) + (1:Int32))) s.f23 s.f24 s.f25 s.f26 s.f27 s.f28 s.f29 s.f30 s.f31 s.f32) = Q.len s from own_lenmk.trans (by first | (simp only [len_wr, len_wrL] <;> rfl) | rfl)) rfl)
              by_cases hc367 : p364.1 = (0:Int32)
              · rw [if_pos hc367] at h
                have hz := ln_j_search_b215 hrec h
                rcases res with res | res
                · exact Eq.trans hz hl366
                · rcases res with res | res
                  · exact Eq.trans hz hl366
                  · exact Eq.trans hz hl366
              · rw [if_neg hc367] at h
                obtain ⟨hb368, h⟩ := ite_some h
                obtain ⟨hb369, h⟩ := ite_some h
                by_cases hc370 : ((v2 ||| (ish (1:Int32) (rd s.f22 v1))) &&& p364.2.f32) = p364.2.f32
                · rw [if_pos hc370] at h
                  have hr0 := Option.some.inj h
                  subst hr0
                  show Q.len (Q.mk p364.2.f0 p364.2.f1 p364.2.f2 p364.2.f3 p364.2.f4 p364.2.f5 p364.2.f6 p364.2.f7 p364.2.f8 p364.2.f9 p364.2.f10 p364.2.f11 p364.2.f12 p364.2.f13 p364.2.f14 p364.2.f15 p364.2.f16 p364.2.f17 p364.2.f18 p364.2.f19 p364.2.f20 p364.2.f21 (wr p364.2.f22 (v1 + (1:Int32)) (0:Int32)) (wr p364.2.f23 v1 (rd s.f22 v1)) p364.2.f24 p364.2.f25 p364.2.f26 p364.2.f27 p364.2.f28 p364.2.f29 p364.2.f30 p364.2.f31 p364.2.f32) = _
                  exact (Eq.trans (show Q.len (Q.mk p364.2.f0 p364.2.f1 p364.2.f2 p364.2.f3 p364.2.f4 p364.2.f5 p364.2.f6 p364.2.f7 p364.2.f8 p364.2.f9 p364.2.f10 p364.2.f11 p364.2.f12 p364.2.f13 p364.2.f14 p364.2.f15 p364.2.f16 p364.2.f17 p364.2.f18 p364.2.f19 p364.2.f20 p364.2.f21 (wr p364.2.f22 (v1 + (1:Int32)) (0:Int32)) (wr p364.2.f23 v1 (rd s.f22 v1)) p364.2.f24 p364.2.f25 p364.2.f26 p364.2.f27 p364.2.f28 p364.2.f29 p364.2.f30 p364.2.f31 p364.2.f32) = Q.len p364.2 from own_lenmk.trans (by first | (simp only [len_wr, len_wrL] <;> rfl) | rfl)) hl366)
                · rw [if_neg hc370] at h
                  have hz := ln_j_search_b215 hrec h
                  rcases res with res | res
                  · exact Eq.trans hz (Eq.trans (show Q.len (Q.mk p364.2.f0 p364.2.f1 p364.2.f2 p364.2.f3 p364.2.f4 p364.2.f5 p364.2.f6 p364.2.f7 p364.2.f8 p364.2.f9 p364.2.f10 p364.2.f11 p364.2.f12 p364.2.f13 p364.2.f14 p364.2.f15 p364.2.f16 p364.2.f17 p364.2.f18 p364.2.f19 p364.2.f20 p364.2.f21 (wr p364.2.f22 (v1 + (1:Int32)) (0:Int32)) (wr p364.2.f23 v1 (rd s.f22 v1)) p364.2.f24 p364.2.f25 p364.2.f26 p364.2.f27 p364.2.f28 p364.2.f29 p364.2.f30 p364.2.f31 p364.2.f32) = Q.len p364.2 from own_lenmk.trans (by first | (simp only [len_wr, len_wrL] <;> rfl) | rfl)) hl366)
                  · rcases res with res | res
                    · exact Eq.trans hz (Eq.trans (show Q.len (Q.mk p364.2.f0 p364.2.f1 p364.2.f2 p364.2.f3 p364.2.f4 p364.2.f5 p364.2.f6 p364.2.f7 p364.2.f8 p364.2.f9 p364.2.f10 p364.2.f11 p364.2.f12 p364.2.f13 p364.2.f14 p364.2.f15 p364.2.f16 p364.2.f17 p364.2.f18 p364.2.f19 p364.2.f20 p364.2.f21 (wr p364.2.f22 (v1 + (1:Int32)) (0:Int32)) (wr p364.2.f23 v1 (rd s.f22 v1)) p364.2.f24 p364.2.f25 p364.2.f26 p364.2.f27 p364.2.f28 p364.2.f29 p364.2.f30 p364.2.f31 p364.2.f32) = Q.len p364.2 from own_lenmk.trans (by first | (simp only [len_wr, len_wrL] <;> rfl) | rfl)) hl366)
                    · exact Eq.trans hz (Eq.trans (show Q.len (Q.mk p364.2.f0 p364.2.f1 p364.2.f2 p364.2.f3 p364.2.f4 p364.2.f5 p364.2.f6 p364.2.f7 p364.2.f8 p364.2.f9 p364.2.f10 p364.2.f11 p364.2.f12 p364.2.f13 p364.2.f14 p364.2.f15 p364.2.f16 p364.2.f17 p364.2.f18 p364.2.f19 p364.2.f20 p364.2.f21 (wr p364.2.f22 (v1 + (1:Int32)) (0:Int32)) (wr p364.2.f23 v1 (rd s.f22 v1)) p364.2.f24 p364.2.f25 p364.2.f26 p364.2.f27 p364.2.f28 p364.2.f29 p364.2.f30 p364.2.f31 p364.2.f32) = Q.len p364.2 from own_lenmk.trans (by first | (simp only [len_wr, len_wrL] <;> rfl) | rfl)) hl366)
            · rw [if_neg hc302] at h
              have hz := ln_j_search_b215 hrec h
              rcases res with res | res
              · exact Eq.trans hz (Eq.trans (show Q.len (Q.mk s.f0 s.f1 s.f2 s.f3 s.f4 s.f5 s.f6 s.f7 s.f8 s.f9 s.f10 s.f11 s.f12 s.f13 s.f14 s.f15 s.f16 s.f17 s.f18 s.f19 s.f20 s.f21 (wr s.f22 v1 ((rd s.f22 v1) + (1:Int32))) s.f23 s.f24 s.f25 s.f26 s.f27 s.f28 s.f29 s.f30 s.f31 s.f32) = Q.len s from own_lenmk.trans (by first | (simp only [len_wr, len_wrL] <;> rfl) | rfl)) rfl)
              · rcases res with res | res
                · exact Eq.trans hz (Eq.trans (show Q.len (Q.mk s.f0 s.f1 s.f2 s.f3 s.f4 s.f5 s.f6 s.f7 s.f8 s.f9 s.f10 s.f11 s.f12 s.f13 s.f14 s.f15 s.f16 s.f17 s.f18 s.f19 s.f20 s.f21 (wr s.f22 v1 ((rd s.f22 v1) + (1:Int32))) s.f23 s.f24 s.f25 s.f26 s.f27 s.f28 s.f29 s.f30 s.f31 s.f32) = Q.len s from own_lenmk.trans (by first | (simp only [len_wr, len_wrL] <;> rfl) | rfl)) rfl)
                · exact Eq.trans hz (Eq.trans (show Q.len (Q.mk s.f0 s.f1 s.f2 s.f3 s.f4 s.f5 s.f6 s.f7 s.f8 s.f9 s.f10 s.f11 s.f12 s.f13 s.f14 s.f15 s.f16 s.f17 s.f18 s.f19 s.f20 s.f21 (wr s.f22 v1 ((rd s.f22 v1) + (1:Int32))) s.f23 s.f24 s.f25 s.f26 s.f27 s.f28 s.f29 s.f30 s.f31 s.f32) = Q.len s from own_lenmk.trans (by first | (simp only [len_wr, len_wrL] <;> rfl) | rfl)) rfl)
          · rw [if_neg hc299] at h
            have hz := ln_j_search_b215 hrec h
            rcases res with res | res
            · exact Eq.trans hz (Eq.trans (show Q.len (Q.mk s.f0 s.f1 s.f2 s.f3 s.f4 s.f5 s.f6 s.f7 s.f8 s.f9 s.f10 s.f11 s.f12 s.f13 s.f14 s.f15 s.f16 s.f17 s.f18 s.f19 s.f20 s.f21 (wr s.f22 v1 ((rd s.f22 v1) + (1:Int32))) s.f23 s.f24 s.f25 s.f26 s.f27 s.f28 s.f29 s.f30 s.f31 s.f32) = Q.len s from own_lenmk.trans (by first | (simp only [len_wr, len_wrL] <;> rfl) | rfl)) rfl)
            · rcases res with res | res
              · exact Eq.trans hz (Eq.trans (show Q.len (Q.mk s.f0 s.f1 s.f2 s.f3 s.f4 s.f5 s.f6 s.f7 s.f8 s.f9 s.f10 s.f11 s.f12 s.f13 s.f14 s.f15 s.f16 s.f17 s.f18 s.f19 s.f20 s.f21 (wr s.f22 v1 ((rd s.f22 v1) + (1:Int32))) s.f23 s.f24 s.f25 s.f26 s.f27 s.f28 s.f29 s.f30 s.f31 s.f32) = Q.len s from own_lenmk.trans (by first | (simp only [len_wr, len_wrL] <;> rfl) | rfl)) rfl)
              · exact Eq.trans hz (Eq.trans (show Q.len (Q.mk s.f0 s.f1 s.f2 s.f3 s.f4 s.f5 s.f6 s.f7 s.f8 s.f9 s.f10 s.f11 s.f12 s.f13 s.f14 s.f15 s.f16 s.f17 s.f18 s.f19 s.f20 s.f21 (wr s.f22 v1 ((rd s.f22 v1) + (1:Int32))) s.f23 s.f24 s.f25 s.f26 s.f27 s.f28 s.f29 s.f30 s.f31 s.f32) = Q.len s from own_lenmk.trans (by first | (simp only [len_wr, len_wrL] <;> rfl) | rfl)) rfl)
        · rw [if_neg hc297] at h
          have hz := ln_j_search_b96 hrec h
          rcases res with res | res
          · exact Eq.trans hz rfl
          · rcases res with res | res
            · exact Eq.trans hz rfl
            · exact Eq.trans hz rfl
      · rw [if_neg hc296] at h
        have hz := ln_j_search_b96 hrec h
        rcases res with res | res
        · exact Eq.trans hz rfl
        · rcases res with res | res
          · exact Eq.trans hz rfl
          · exact Eq.trans hz rfl
    · rw [if_neg hc294] at h
      have hr0 := Option.some.inj h
      subst hr0
      show Q.len s = _
      exact rfl
set_option maxRecDepth 100000 in
theorem ev_j_search_l66 (R : AHeap) (scr : List Int32) : ∀ (n : Nat) (s : Q) (v1 v2 v3 : Int32) {res : (Q) ⊕ ((Q) ⊕ (Q))} {out : Option Value × AHeap}, j_search_l66 n s v1 v2 v3 = some res → j_search_l66_K R scr res out → Eval own_P 25 66 [some (.ref 1), some (.int v1), some (.int v2), some (.int v3), none] [] (W1 scr s R) out := by
 intro n
 induction n with
 | zero => intro _ _ _ _ res out h hk; cases h
 | succ n hrec =>
  intro s v1 v2 v3 res out h hk
  rw [j_search_l66] at h
  refine Eval.iload_n rfl rfl ?_
  refine Eval.ldc (x := 200000) rfl rfl ?_
  by_cases hc294 : v3 < (200000:Int32)
  ·rw [if_pos hc294] at h
   refine Eval.icmpF rfl (tlt hc294).2.1 ?_
   refine Eval.aload_n rfl rfl ?_
   refine Eval.getfield rfl rfl own_g1_nextCand ?_
   refine Eval.iload_n rfl rfl ?_
   obtain ⟨hb295, h⟩ := ite_some h
   refine Eval.iaload rfl own_a1_nextCand hb295 ?_
   refine Eval.istore (L' := [some (.ref 1), some (.int v1), some (.int v2), some (.int v3), some (.int (rd s.f22 v1))]) rfl rfl ?_
   refine Eval.iload rfl rfl ?_
   refine Eval.aload_n rfl rfl ?_
   refine Eval.getfield rfl rfl own_g1_opCount ?_
   by_cases hc296 : (rd s.f22 v1) < s.f31
   ·rw [if_pos hc296] at h
    refine Eval.icmpF rfl (tlt hc296).2.1 ?_
    refine Eval.iload rfl rfl ?_
    refine Eval.bipush (x := 6) rfl rfl ?_
    by_cases hc297 : (rd s.f22 v1) < (6:Int32)
    ·rw [if_pos hc297] at h
     refine Eval.icmpT (t := 121) rfl rfl (tlt hc297).1 ?_
     refine Eval.aload_n rfl rfl ?_
     refine Eval.getfield rfl rfl own_g1_nextCand ?_
     refine Eval.iload_n rfl rfl ?_
     refine Eval.iload rfl rfl ?_
     refine Eval.iconst (x := 1) rfl rfl ?_
     refine Eval.iadd rfl ?_
     obtain ⟨hb298, h⟩ := ite_some h
     refine Eval.iastore rfl rfl own_a1_nextCand hb298 own_s1_nextCand ?_
     refine Eval.iload_n rfl rfl ?_
     refine Eval.iconst (x := 1) rfl rfl ?_
     refine Eval.iload rfl rfl ?_
     refine Eval.ishl rfl ?_
     refine Eval.iand rfl ?_
     by_cases hc299 : (v2 &&& (ish (1:Int32) (rd s.f22 v1))) = (0:Int32)
     ·rw [if_pos hc299] at h
      refine Eval.ifF rfl (teq hc299).2 ?_
      refine Eval.aload_n rfl rfl ?_
      refine Eval.getfield rfl rfl own_g1_predMask ?_
      refine Eval.iload rfl rfl ?_
      obtain ⟨hb300, h⟩ := ite_some h
      refine Eval.iaload rfl own_a1_predMask hb300 ?_
      refine Eval.iload_n rfl rfl ?_
      refine Eval.iand rfl ?_
      refine Eval.aload_n rfl rfl ?_
      refine Eval.getfield rfl rfl own_g1_predMask ?_
      refine Eval.iload rfl rfl ?_
      obtain ⟨hb301, h⟩ := ite_some h
      refine Eval.iaload rfl own_a1_predMask hb301 ?_
      by_cases hc302 : ((rd s.f18 (rd s.f22 v1)) &&& v2) = (rd s.f18 (rd s.f22 v1))
      ·rw [if_pos hc302] at h
       refine Eval.icmpT (t := 162) rfl rfl (teq hc302).1 ?_
       refine Eval.aload_n rfl rfl ?_
       refine Eval.iload rfl rfl ?_
       refine Eval.iload_n rfl rfl ?_
       obtain ⟨p364, hq365, h⟩ := bind_some h
       refine Eval.callI (rest := []) (x := p364.1) (H1 := (W1 scr p364.2 R)) rfl rfl (Eval.heap own_mk1 (ev_j_apply R scr (Q.mk s.f0 s.f1 s.f2 s.f3 s.f4 s.f5 s.f6 s.f7 s.f8 s.f9 s.f10 s.f11 s.f12 s.f13 s.f14 s.f15 s.f16 s.f17 s.f18 s.f19 s.f20 s.f21 (wr s.f22 v1 ((rd s.f22 v1) + (1:Int32))) s.f23 s.f24 s.f25 s.f26 s.f27 s.f28 s.f29 s.f30 s.f31 s.f32) (rd s.f22 v1) v1 hq365 rfl)) ?_
       by_cases hc367 : p364.1 = (0:Int32)
       ·rw [if_pos hc367] at h
        refine Eval.ifF rfl (teq hc367).2 ?_
        refine Eval.goto (t := 215) rfl rfl ?_
        refine Eval.weak (lw_mk 15 _) ?_
        exact ev_j_search_b215 R scr _ hrec p364.2 v1 v2 v3 h hk
       ·rw [if_neg hc367] at h
        refine Eval.ifT (t := 175) rfl rfl (feq hc367).2 ?_
        refine Eval.aload_n rfl rfl ?_
        refine Eval.getfield rfl rfl own_g1_chosen ?_
        refine Eval.iload_n rfl rfl ?_
        refine Eval.iload rfl rfl ?_
        obtain ⟨hb368, h⟩ := ite_some h
        refine Eval.iastore rfl rfl own_a1_chosen hb368 own_s1_chosen ?_
        refine Eval.iload_n rfl rfl ?_
        refine Eval.iconst (x := 1) rfl rfl ?_
        refine Eval.iload rfl rfl ?_
        refine Eval.ishl rfl ?_
        refine Eval.ior rfl ?_
        refine Eval.istore_n (L' := [some (.ref 1), some (.int v1), some (.int (v2 ||| (ish (1:Int32) (rd s.f22 v1)))), some (.int v3), some (.int (rd s.f22 v1))]) rfl rfl ?_
        refine Eval.iinc (L' := [some (.ref 1), some (.int (v1 + (1:Int32))), some (.int (v2 ||| (ish (1:Int32) (rd s.f22 v1)))), some (.int v3), some (.int (rd s.f22 v1))]) rfl rfl rfl ?_
        refine Eval.aload_n rfl rfl ?_
        refine Eval.getfield rfl rfl own_g1_nextCand ?_
        refine Eval.iload_n rfl rfl ?_
        refine Eval.iconst (x := 0) rfl rfl ?_
        obtain ⟨hb369, h⟩ := ite_some h
        refine Eval.iastore rfl rfl own_a1_nextCand hb369 own_s1_nextCand ?_
        refine Eval.iload_n rfl rfl ?_
        refine Eval.aload_n rfl rfl ?_
        refine Eval.getfield rfl rfl own_g1_completeMask ?_
        refine Eval.iand rfl ?_
        refine Eval.aload_n rfl rfl ?_
        refine Eval.getfield rfl rfl own_g1_completeMask ?_
        by_cases hc370 : ((v2 ||| (ish (1:Int32) (rd s.f22 v1))) &&& p364.2.f32) = p364.2.f32
        ·rw [if_pos hc370] at h
         refine Eval.icmpF rfl (teq hc370).2 ?_
         cases h
         refine Eval.heap own_mk1 ?_
         refine Eval.weak (lw_mk 0 _) ?_
         exact hk
        ·rw [if_neg hc370] at h
         refine Eval.icmpT (t := 215) rfl rfl (feq hc370).2 ?_
         refine Eval.heap own_mk1 ?_
         refine Eval.weak (lw_mk 15 _) ?_
         exact ev_j_search_b215 R scr _ hrec (Q.mk p364.2.f0 p364.2.f1 p364.2.f2 p364.2.f3 p364.2.f4 p364.2.f5 p364.2.f6 p364.2.f7 p364.2.f8 p364.2.f9 p364.2.f10 p364.2.f11 p364.2.f12 p364.2.f13 p364.2.f14 p364.2.f15 p364.2.f16 p364.2.f17 p364.2.f18 p364.2.f19 p364.2.f20 p364.2.f21 (wr p364.2.f22 (v1 + (1:Int32)) (0:Int32)) (wr p364.2.f23 v1 (rd s.f22 v1)) p364.2.f24 p364.2.f25 p364.2.f26 p364.2.f27 p364.2.f28 p364.2.f29 p364.2.f30 p364.2.f31 p364.2.f32) (v1 + (1:Int32)) (v2 ||| (ish (1:Int32) (rd s.f22 v1))) v3 h hk
      ·rw [if_neg hc302] at h
       refine Eval.icmpF rfl (feq hc302).1 ?_
       refine Eval.goto (t := 215) rfl rfl ?_
       refine Eval.heap own_mk1 ?_
       refine Eval.weak (lw_mk 15 _) ?_
       exact ev_j_search_b215 R scr _ hrec (Q.mk s.f0 s.f1 s.f2 s.f3 s.f4 s.f5 s.f6 s.f7 s.f8 s.f9 s.f10 s.f11 s.f12 s.f13 s.f14 s.f15 s.f16 s.f17 s.f18 s.f19 s.f20 s.f21 (wr s.f22 v1 ((rd s.f22 v1) + (1:Int32))) s.f23 s.f24 s.f25 s.f26 s.f27 s.f28 s.f29 s.f30 s.f31 s.f32) v1 v2 v3 h hk
     ·rw [if_neg hc299] at h
      refine Eval.ifT (t := 215) rfl rfl (feq hc299).2 ?_
      refine Eval.heap own_mk1 ?_
      refine Eval.weak (lw_mk 15 _) ?_
      exact ev_j_search_b215 R scr _ hrec (Q.mk s.f0 s.f1 s.f2 s.f3 s.f4 s.f5 s.f6 s.f7 s.f8 s.f9 s.f10 s.f11 s.f12 s.f13 s.f14 s.f15 s.f16 s.f17 s.f18 s.f19 s.f20 s.f21 (wr s.f22 v1 ((rd s.f22 v1) + (1:Int32))) s.f23 s.f24 s.f25 s.f26 s.f27 s.f28 s.f29 s.f30 s.f31 s.f32) v1 v2 v3 h hk
    ·rw [if_neg hc297] at h
     refine Eval.icmpF rfl (flt hc297).1 ?_
     refine Eval.weak (lw_mk 15 _) ?_
     exact ev_j_search_b96 R scr _ hrec s v1 v2 v3 h hk
   ·rw [if_neg hc296] at h
    refine Eval.icmpT (t := 96) rfl rfl (flt hc296).2.1 ?_
    refine Eval.weak (lw_mk 15 _) ?_
    exact ev_j_search_b96 R scr _ hrec s v1 v2 v3 h hk
  ·rw [if_neg hc294] at h
   refine Eval.icmpT (t := 221) rfl rfl (flt hc294).2.1 ?_
   cases h
   refine Eval.weak (lw_mk 0 _) ?_
   exact hk
def j_search (s : Q) : Option (Int32 × Q) := (if s.f32 = (0:Int32) then some ((1:Int32), s) else (if inb s.f21.length (0:Int32) = true then ((j_search_l21 3000 (Q.mk s.f0 s.f1 s.f2 s.f3 s.f4 s.f5 s.f6 s.f7 s.f8 s.f9 s.f10 s.f11 s.f12 s.f13 s.f14 s.f15 s.f16 s.f17 s.f18 s.f19 s.f20 (wr s.f21 (0:Int32) s.f30) s.f22 s.f23 s.f24 s.f25 s.f26 s.f27 s.f28 s.f29 s.f30 s.f31 s.f32) (0:Int32)).bind fun p290 => (if inb p290.f22.length (0:Int32) = true then ((j_search_l66 200010 (Q.mk p290.f0 p290.f1 p290.f2 p290.f3 p290.f4 p290.f5 p290.f6 p290.f7 p290.f8 p290.f9 p290.f10 p290.f11 p290.f12 p290.f13 p290.f14 p290.f15 p290.f16 p290.f17 p290.f18 p290.f19 p290.f20 p290.f21 (wr p290.f22 (0:Int32) (0:Int32)) p290.f23 p290.f24 p290.f25 p290.f26 p290.f27 p290.f28 p290.f29 p290.f30 p290.f31 p290.f32) (0:Int32) (0:Int32) (0:Int32)).bind fun p373 => Sum.elim (fun p375 => some ((0:Int32), p375)) (fun p376 => Sum.elim (fun p378 => some ((1:Int32), p378)) (fun p379 => some ((0:Int32), p379)) p376) p373) else none)) else none))
theorem ln_j_search {s : Q} {res : Int32 × Q} (h : j_search s = some res) : Q.len res.2 = Q.len s := by
  rw [j_search] at h
  by_cases hc284 : s.f32 = (0:Int32)
  · rw [if_pos hc284] at h
    have hr0 := Option.some.inj h
    subst hr0
    show Q.len s = _
    exact rfl
  · rw [if_neg hc284] at h
    obtain ⟨hb285, h⟩ := ite_some h
    obtain ⟨p290, hq291, h⟩ := bind_some h
    have hl292 : Q.len p290 = _ := Eq.trans (ln_j_search_l21 hq291) (Eq.trans (show Q.len (Q.mk s.f0 s.f1 s.f2 s.f3 s.f4 s.f5 s.f6 s.f7 s.f8 s.f9 s.f10 s.f11 s.f12 s.f13 s.f14 s.f15 s.f16 s.f17 s.f18 s.f19 s.f20 (wr s.f21 (0:Int32) s.f30) s.f22 s.f23 s.f24 s.f25 s.f26 s.f27 s.f28 s.f29 s.f30 s.f31 s.f32) = Q.len s from own_lenmk.trans (by first | (simp only [len_wr, len_wrL] <;> rfl) | rfl)) rfl)
    obtain ⟨hb293, h⟩ := ite_some h
    obtain ⟨p373, hq374, h⟩ := bind_some h
    rcases p373 with p375 | p376
    · dsimp only [Sum.elim] at h
      have hl377 : Q.len p375 = _ := Eq.trans (ln_j_search_l66 hq374) (Eq.trans (show Q.len (Q.mk p290.f0 p290.f1 p290.f2 p290.f3 p290.f4 p290.f5 p290.f6 p290.f7 p290.f8 p290.f9 p290.f10 p290.f11 p290.f12 p290.f13 p290.f14 p290.f15 p290.f16 p290.f17 p290.f18 p290.f19 p290.f20 p290.f21 (wr p290.f22 (0:Int32) (0:Int32)) p290.f23 p290.f24 p290.f25 p290.f26 p290.f27 p290.f28 p290.f29 p290.f30 p290.f31 p290.f32) = Q.len p290 from own_lenmk.trans (by first | (simp only [len_wr, len_wrL] <;> rfl) | rfl)) hl292)
      have hr0 := Option.some.inj h
      subst hr0
      show Q.len p375 = _
      exact hl377
    · dsimp only [Sum.elim] at h
      rcases p376 with p378 | p379
      · dsimp only [Sum.elim] at h
        have hl380 : Q.len p378 = _ := Eq.trans (ln_j_search_l66 hq374) (Eq.trans (show Q.len (Q.mk p290.f0 p290.f1 p290.f2 p290.f3 p290.f4 p290.f5 p290.f6 p290.f7 p290.f8 p290.f9 p290.f10 p290.f11 p290.f12 p290.f13 p290.f14 p290.f15 p290.f16 p290.f17 p290.f18 p290.f19 p290.f20 p290.f21 (wr p290.f22 (0:Int32) (0:Int32)) p290.f23 p290.f24 p290.f25 p290.f26 p290.f27 p290.f28 p290.f29 p290.f30 p290.f31 p290.f32) = Q.len p290 from own_lenmk.trans (by first | (simp only [len_wr, len_wrL] <;> rfl) | rfl)) hl292)
        have hr0 := Option.some.inj h
        subst hr0
        show Q.len p378 = _
        exact hl380
      · dsimp only [Sum.elim] at h
        have hl381 : Q.len p379 = _ := Eq.trans (ln_j_search_l66 hq374) (Eq.trans (show Q.len (Q.mk p290.f0 p290.f1 p290.f2 p290.f3 p290.f4 p290.f5 p290.f6 p290.f7 p290.f8 p290.f9 p290.f10 p290.f11 p290.f12 p290.f13 p290.f14 p290.f15 p290.f16 p290.f17 p290.f18 p290.f19 p290.f20 p290.f21 (wr p290.f22 (0:Int32) (0:Int32)) p290.f23 p290.f24 p290.f25 p290.f26 p290.f27 p290.f28 p290.f29 p290.f30 p290.f31 p290.f32) = Q.len p290 from own_lenmk.trans (by first | (simp only [len_wr, len_wrL] <;> rfl) | rfl)) hl292)
        have hr0 := Option.some.inj h
        subst hr0
        show Q.len p379 = _
        exact hl381
set_option maxRecDepth 100000 in
theorem ev_j_search (R : AHeap) (scr : List Int32) (s : Q) {res : Int32 × Q} {out : Option Value × AHeap} (h : j_search s = some res) (hk : out = (some (.int res.1), (W1 scr res.2 R))) : Eval own_P 25 0 [some (.ref 1), none, none, none, none] [] (W1 scr s R) out := by
 rw [j_search] at h
 refine Eval.aload_n rfl rfl ?_
 refine Eval.getfield rfl rfl own_g1_completeMask ?_
 by_cases hc284 : s.f32 = (0:Int32)
 ·rw [if_pos hc284] at h
  refine Eval.ifF rfl (teq hc284).2 ?_
  refine Eval.iconst (x := 1) rfl rfl ?_
  cases h
  subst hk
  exact Eval.ret rfl rfl
 ·rw [if_neg hc284] at h
  refine Eval.ifT (t := 9) rfl rfl (feq hc284).2 ?_
  refine Eval.aload_n rfl rfl ?_
  refine Eval.getfield rfl rfl own_g1_qLen ?_
  refine Eval.iconst (x := 0) rfl rfl ?_
  refine Eval.aload_n rfl rfl ?_
  refine Eval.getfield rfl rfl own_g1_snapLen ?_
  obtain ⟨hb285, h⟩ := ite_some h
  refine Eval.iastore rfl rfl own_a1_qLen hb285 own_s1_qLen ?_
  refine Eval.iconst (x := 0) rfl rfl ?_
  refine Eval.istore_n (L' := [some (.ref 1), some (.int 0), none, none, none]) rfl rfl ?_
  refine Eval.heap own_mk1 ?_
  obtain ⟨p290, hq291, h⟩ := bind_some h
  refine ev_j_search_l21 R scr _ (Q.mk s.f0 s.f1 s.f2 s.f3 s.f4 s.f5 s.f6 s.f7 s.f8 s.f9 s.f10 s.f11 s.f12 s.f13 s.f14 s.f15 s.f16 s.f17 s.f18 s.f19 s.f20 (wr s.f21 (0:Int32) s.f30) s.f22 s.f23 s.f24 s.f25 s.f26 s.f27 s.f28 s.f29 s.f30 s.f31 s.f32) (0:Int32) hq291 ?_
  show Eval own_P 25 53 [some (.ref 1), none, none, none, none] [] (W1 scr p290 R) out
  refine Eval.iconst (x := 0) rfl rfl ?_
  refine Eval.istore_n (L' := [some (.ref 1), some (.int 0), none, none, none]) rfl rfl ?_
  refine Eval.iconst (x := 0) rfl rfl ?_
  refine Eval.istore_n (L' := [some (.ref 1), some (.int 0), some (.int 0), none, none]) rfl rfl ?_
  refine Eval.aload_n rfl rfl ?_
  refine Eval.getfield rfl rfl own_g1_nextCand ?_
  refine Eval.iconst (x := 0) rfl rfl ?_
  refine Eval.iconst (x := 0) rfl rfl ?_
  obtain ⟨hb293, h⟩ := ite_some h
  refine Eval.iastore rfl rfl own_a1_nextCand hb293 own_s1_nextCand ?_
  refine Eval.iconst (x := 0) rfl rfl ?_
  refine Eval.istore_n (L' := [some (.ref 1), some (.int 0), some (.int 0), some (.int 0), none]) rfl rfl ?_
  refine Eval.heap own_mk1 ?_
  obtain ⟨p373, hq374, h⟩ := bind_some h
  rcases p373 with p375 | p376
  ·dsimp only [Sum.elim] at h
   refine ev_j_search_l66 R scr _ (Q.mk p290.f0 p290.f1 p290.f2 p290.f3 p290.f4 p290.f5 p290.f6 p290.f7 p290.f8 p290.f9 p290.f10 p290.f11 p290.f12 p290.f13 p290.f14 p290.f15 p290.f16 p290.f17 p290.f18 p290.f19 p290.f20 p290.f21 (wr p290.f22 (0:Int32) (0:Int32)) p290.f23 p290.f24 p290.f25 p290.f26 p290.f27 p290.f28 p290.f29 p290.f30 p290.f31 p290.f32) (0:Int32) (0:Int32) (0:Int32) hq374 ?_
   show Eval own_P 25 100 [none, none, none, none, none] [] (W1 scr p375 R) out
   refine Eval.iconst (x := 0) rfl rfl ?_
   cases h
   subst hk
   exact Eval.ret rfl rfl
  ·dsimp only [Sum.elim] at h
   rcases p376 with p378 | p379
   ·dsimp only [Sum.elim] at h
    refine ev_j_search_l66 R scr _ (Q.mk p290.f0 p290.f1 p290.f2 p290.f3 p290.f4 p290.f5 p290.f6 p290.f7 p290.f8 p290.f9 p290.f10 p290.f11 p290.f12 p290.f13 p290.f14 p290.f15 p290.f16 p290.f17 p290.f18 p290.f19 p290.f20 p290.f21 (wr p290.f22 (0:Int32) (0:Int32)) p290.f23 p290.f24 p290.f25 p290.f26 p290.f27 p290.f28 p290.f29 p290.f30 p290.f31 p290.f32) (0:Int32) (0:Int32) (0:Int32) hq374 ?_
    show Eval own_P 25 213 [none, none, none, none, none] [] (W1 scr p378 R) out
    refine Eval.iconst (x := 1) rfl rfl ?_
    cases h
    subst hk
    exact Eval.ret rfl rfl
   ·dsimp only [Sum.elim] at h
    refine ev_j_search_l66 R scr _ (Q.mk p290.f0 p290.f1 p290.f2 p290.f3 p290.f4 p290.f5 p290.f6 p290.f7 p290.f8 p290.f9 p290.f10 p290.f11 p290.f12 p290.f13 p290.f14 p290.f15 p290.f16 p290.f17 p290.f18 p290.f19 p290.f20 p290.f21 (wr p290.f22 (0:Int32) (0:Int32)) p290.f23 p290.f24 p290.f25 p290.f26 p290.f27 p290.f28 p290.f29 p290.f30 p290.f31 p290.f32) (0:Int32) (0:Int32) (0:Int32) hq374 ?_
    show Eval own_P 25 221 [none, none, none, none, none] [] (W1 scr p379 R) out
    refine Eval.iconst (x := 0) rfl rfl ?_
    cases h
    subst hk
    exact Eval.ret rfl rfl
def j_check (s : Q) : Option (Int32 × Q) := ((j_countInvocations s).bind fun p192 => (if (6:Int32) < p192 then some ((-1:Int32), s) else ((j_parseOps s).bind fun p248 => ((j_buildPreds p248).bind fun p281 => ((j_search p281).bind fun p382 => some (p382.1, p382.2))))))
theorem ln_j_check {s : Q} {res : Int32 × Q} (h : j_check s = some res) : Q.len res.2 = Q.len s := by
  rw [j_check] at h
  obtain ⟨p192, hq193, h⟩ := bind_some h
  by_cases hc194 : (6:Int32) < p192
  · rw [if_pos hc194] at h
    have hr0 := Option.some.inj h
    subst hr0
    show Q.len s = _
    exact rfl
  · rw [if_neg hc194] at h
    obtain ⟨p248, hq249, h⟩ := bind_some h
    have hl250 := (ln_j_parseOps hq249).trans rfl
    obtain ⟨p281, hq282, h⟩ := bind_some h
    have hl283 := (ln_j_buildPreds hq282).trans hl250
    obtain ⟨p382, hq383, h⟩ := bind_some h
    have hl384 := (ln_j_search hq383).trans hl283
    have hr0 := Option.some.inj h
    subst hr0
    show Q.len p382.2 = _
    exact hl384
set_option maxRecDepth 100000 in
theorem ev_j_check (R : AHeap) (scr : List Int32) (s : Q) {res : Int32 × Q} {out : Option Value × AHeap} (h : j_check s = some res) (hk : out = (some (.int res.1), (W1 scr res.2 R))) : Eval own_P 19 0 [some (.ref 1), none] [] (W1 scr s R) out := by
 rw [j_check] at h
 refine Eval.aload_n rfl rfl ?_
 obtain ⟨p192, hq193, h⟩ := bind_some h
 refine Eval.callI (rest := []) (x := p192) (H1 := (W1 scr s R)) rfl rfl (ev_j_countInvocations R scr s hq193 rfl) ?_
 refine Eval.istore_n (L' := [some (.ref 1), some (.int p192)]) rfl rfl ?_
 refine Eval.iload_n rfl rfl ?_
 refine Eval.bipush (x := 6) rfl rfl ?_
 by_cases hc194 : (6:Int32) < p192
 ·rw [if_pos hc194] at h
  refine Eval.icmpF rfl (tlt hc194).2.2.2 ?_
  refine Eval.iconst (x := -1) rfl rfl ?_
  cases h
  subst hk
  exact Eval.ret rfl rfl
 ·rw [if_neg hc194] at h
  refine Eval.icmpT (t := 13) rfl rfl (flt hc194).2.2.2 ?_
  refine Eval.aload_n rfl rfl ?_
  obtain ⟨p248, hq249, h⟩ := bind_some h
  refine Eval.callN (rest := []) (H1 := (W1 scr p248 R)) rfl rfl (ev_j_parseOps R scr s hq249 rfl) ?_
  refine Eval.aload_n rfl rfl ?_
  obtain ⟨p281, hq282, h⟩ := bind_some h
  refine Eval.callN (rest := []) (H1 := (W1 scr p281 R)) rfl rfl (ev_j_buildPreds R scr p248 hq282 rfl) ?_
  refine Eval.aload_n rfl rfl ?_
  obtain ⟨p382, hq383, h⟩ := bind_some h
  refine Eval.callI (rest := []) (x := p382.1) (H1 := (W1 scr p382.2 R)) rfl rfl (ev_j_search R scr p281 hq383 rfl) ?_
  cases h
  subst hk
  exact Eval.ret rfl rfl
def h_checkOk (s : Q) : Option (Int32 × Q) := ((j_check s).bind fun p385 => (if p385.1 = (0:Int32) then some ((0:Int32), p385.2) else some ((1:Int32), p385.2)))
set_option maxRecDepth 100000 in
theorem ev_h_checkOk (R : AHeap) (scr : List Int32) (s : Q) {res : Int32 × Q} {out : Option Value × AHeap} (h : h_checkOk s = some res) (hk : out = (some (.int res.1), (W1 scr res.2 R))) : Eval own_P 18 0 [some (.ref 1)] [] (W1 scr s R) out := by
 rw [h_checkOk] at h
 refine Eval.aload_n rfl rfl ?_
 obtain ⟨p385, hq386, h⟩ := bind_some h
 refine Eval.callI (rest := []) (x := p385.1) (H1 := (W1 scr p385.2 R)) rfl rfl (ev_j_check R scr s hq386 rfl) ?_
 by_cases hc388 : p385.1 = (0:Int32)
 ·rw [if_pos hc388] at h
  refine Eval.ifT (t := 11) rfl rfl (teq hc388).1 ?_
  refine Eval.iconst (x := 0) rfl rfl ?_
  cases h
  subst hk
  exact Eval.ret rfl rfl
 ·rw [if_neg hc388] at h
  refine Eval.ifF rfl (feq hc388).1 ?_
  refine Eval.iconst (x := 1) rfl rfl ?_
  refine Eval.goto (t := 12) rfl rfl ?_
  cases h
  subst hk
  exact Eval.ret rfl rfl
abbrev h_settle_l2_K (R : AHeap) (scr : List Int32) (res : Q) (out : Option Value × AHeap) : Prop := Eval own_P 16 35 [none, none, none] [] (W1 scr res R) out

abbrev h_settle_l2_N (s res : Q) : Prop := Q.len res = Q.len s
abbrev h_settle_l10_K (R : AHeap) (scr : List Int32) (res : Int32 × Q) (out : Option Value × AHeap) : Prop := Eval own_P 16 29 [some (.ref 1), some (.int res.1), none] [] (W1 scr res.2 R) out

abbrev h_settle_l10_N (s : Q) (res : Int32 × Q) : Prop := Q.len res.2 = Q.len s
def h_settle_l10 : Nat → Q → Int32 → Int32 → Option (Int32 × Q)
  | 0, _, _, _ => none
  | n + 1, s, v1, v2 => (if v2 < (4:Int32) then ((j_run s v2 (64:Int32)).bind fun p395 => (h_settle_l10 n p395.2 v1 (v2 + (1:Int32)))) else some (v1, s))
set_option maxRecDepth 100000 in
theorem ev_h_settle_l10 (R : AHeap) (scr : List Int32) : ∀ (n : Nat) (s : Q) (v1 v2 : Int32) {res : Int32 × Q} {out : Option Value × AHeap}, h_settle_l10 n s v1 v2 = some res → h_settle_l10_K R scr res out → Eval own_P 16 10 [some (.ref 1), some (.int v1), some (.int v2)] [] (W1 scr s R) out := by
 intro n
 induction n with
 | zero => intro _ _ _ res out h hk; cases h
 | succ n hrec =>
  intro s v1 v2 res out h hk
  rw [h_settle_l10] at h
  refine Eval.iload_n rfl rfl ?_
  refine Eval.iconst (x := 4) rfl rfl ?_
  by_cases hc394 : v2 < (4:Int32)
  ·rw [if_pos hc394] at h
   refine Eval.icmpF rfl (tlt hc394).2.1 ?_
   refine Eval.aload_n rfl rfl ?_
   refine Eval.iload_n rfl rfl ?_
   refine Eval.bipush (x := 64) rfl rfl ?_
   obtain ⟨p395, hq396, h⟩ := bind_some h
   refine Eval.callI (rest := []) (x := p395.1) (H1 := (W1 scr p395.2 R)) rfl rfl (ev_j_run R scr s v2 (64:Int32) hq396 rfl) ?_
   refine Eval.popI rfl ?_
   refine Eval.iinc (L' := [some (.ref 1), some (.int v1), some (.int (v2 + (1:Int32)))]) rfl rfl rfl ?_
   refine Eval.goto (t := 10) rfl rfl ?_
   exact hrec _ _ _ h hk
  ·rw [if_neg hc394] at h
   refine Eval.icmpT (t := 29) rfl rfl (flt hc394).2.1 ?_
   cases h
   refine Eval.weak (lw_mk 3 _) ?_
   exact hk
def h_settle_l2 : Nat → Q → Int32 → Option (Q)
  | 0, _, _ => none
  | n + 1, s, v1 => (if v1 < (8:Int32) then ((h_settle_l10 3000 s v1 (0:Int32)).bind fun p398 => (h_settle_l2 n p398.2 (p398.1 + (1:Int32)))) else some (s))
set_option maxRecDepth 100000 in
theorem ev_h_settle_l2 (R : AHeap) (scr : List Int32) : ∀ (n : Nat) (s : Q) (v1 : Int32) {res : Q} {out : Option Value × AHeap}, h_settle_l2 n s v1 = some res → h_settle_l2_K R scr res out → Eval own_P 16 2 [some (.ref 1), some (.int v1), none] [] (W1 scr s R) out := by
 intro n
 induction n with
 | zero => intro _ _ res out h hk; cases h
 | succ n hrec =>
  intro s v1 res out h hk
  rw [h_settle_l2] at h
  refine Eval.iload_n rfl rfl ?_
  refine Eval.bipush (x := 8) rfl rfl ?_
  by_cases hc393 : v1 < (8:Int32)
  ·rw [if_pos hc393] at h
   refine Eval.icmpF rfl (tlt hc393).2.1 ?_
   refine Eval.iconst (x := 0) rfl rfl ?_
   refine Eval.istore_n (L' := [some (.ref 1), some (.int v1), some (.int 0)]) rfl rfl ?_
   obtain ⟨p398, hq399, h⟩ := bind_some h
   refine ev_h_settle_l10 R scr _ s v1 (0:Int32) hq399 ?_
   show Eval own_P 16 29 [some (.ref 1), some (.int p398.1), none] [] (W1 scr p398.2 R) out
   refine Eval.iinc (L' := [some (.ref 1), some (.int (p398.1 + (1:Int32))), none]) rfl rfl rfl ?_
   refine Eval.goto (t := 2) rfl rfl ?_
   exact hrec _ _ h hk
  ·rw [if_neg hc393] at h
   refine Eval.icmpT (t := 35) rfl rfl (flt hc393).2.1 ?_
   cases h
   refine Eval.weak (lw_mk 0 _) ?_
   exact hk
def h_settle (s : Q) : Option (Q) := ((h_settle_l2 3000 s (0:Int32)).bind fun p401 => some (p401))
set_option maxRecDepth 100000 in
theorem ev_h_settle (R : AHeap) (scr : List Int32) (s : Q) {res : Q} {out : Option Value × AHeap} (h : h_settle s = some res) (hk : out = (none, (W1 scr res R))) : Eval own_P 16 0 [some (.ref 1), none, none] [] (W1 scr s R) out := by
 rw [h_settle] at h
 refine Eval.iconst (x := 0) rfl rfl ?_
 refine Eval.istore_n (L' := [some (.ref 1), some (.int 0), none]) rfl rfl ?_
 obtain ⟨p401, hq402, h⟩ := bind_some h
 refine ev_h_settle_l2 R scr _ s (0:Int32) hq402 ?_
 show Eval own_P 16 35 [none, none, none] [] (W1 scr p401 R) out
 cases h
 subst hk
 exact Eval.ret rfl rfl
abbrev j_clearHistory_l2_K (R : AHeap) (scr : List Int32) (s : Q) (res : (Unit) ⊕ (Unit)) (out : Option Value × AHeap) : Prop := Sum.elim (fun res => Eval own_P 29 24 [none, none, none] [] (W1 scr s R) out) (fun res => Eval own_P 29 32 [some (.ref 1), none, none] [] (W1 scr s R) out) res

def j_clearHistory_b26 (go_ : Q → Int32 → Option ((Unit) ⊕ (Unit))) (s : Q) (v1 : Int32) : Option ((Unit) ⊕ (Unit)) := (go_ s (v1 + (1:Int32)))
set_option maxRecDepth 100000 in
theorem ev_j_clearHistory_b26 (R : AHeap) (scr : List Int32) (go_ : Q → Int32 → Option ((Unit) ⊕ (Unit))) (hrec : ∀ (s : Q) (v1 : Int32) {res : (Unit) ⊕ (Unit)} {out : Option Value × AHeap}, go_ s v1 = some res → j_clearHistory_l2_K R scr s res out → Eval own_P 29 2 [some (.ref 1), some (.int v1), none] [] (W1 scr s R) out) (s : Q) (v1 : Int32) {res : (Unit) ⊕ (Unit)} {out : Option Value × AHeap} (h : j_clearHistory_b26 go_ s v1 = some res) (hk : j_clearHistory_l2_K R scr s res out) : Eval own_P 29 26 [some (.ref 1), some (.int v1), none] [] (W1 scr s R) out := by
 rw [j_clearHistory_b26] at h
 refine Eval.iinc (L' := [some (.ref 1), some (.int (v1 + (1:Int32))), none]) rfl rfl rfl ?_
 refine Eval.goto (t := 2) rfl rfl ?_
 exact hrec _ _ h hk
def j_clearHistory_l2 : Nat → Q → Int32 → Option ((Unit) ⊕ (Unit))
  | 0, _, _ => none
  | n + 1, s, v1 => (if v1 < (4:Int32) then (if v1 < s.f24 then (if inb s.f2.length v1 = true then (if (rd s.f2 v1) = (0:Int32) then (j_clearHistory_b26 (j_clearHistory_l2 n) s v1) else some (.inl ())) else none) else (j_clearHistory_b26 (j_clearHistory_l2 n) s v1)) else some (.inr ()))
set_option maxRecDepth 100000 in
theorem ev_j_clearHistory_l2 (R : AHeap) (scr : List Int32) : ∀ (n : Nat) (s : Q) (v1 : Int32) {res : (Unit) ⊕ (Unit)} {out : Option Value × AHeap}, j_clearHistory_l2 n s v1 = some res → j_clearHistory_l2_K R scr s res out → Eval own_P 29 2 [some (.ref 1), some (.int v1), none] [] (W1 scr s R) out := by
 intro n
 induction n with
 | zero => intro _ _ res out h hk; cases h
 | succ n hrec =>
  intro s v1 res out h hk
  rw [j_clearHistory_l2] at h
  refine Eval.iload_n rfl rfl ?_
  refine Eval.iconst (x := 4) rfl rfl ?_
  by_cases hc409 : v1 < (4:Int32)
  ·rw [if_pos hc409] at h
   refine Eval.icmpF rfl (tlt hc409).2.1 ?_
   refine Eval.iload_n rfl rfl ?_
   refine Eval.aload_n rfl rfl ?_
   refine Eval.getfield rfl rfl own_g1_nThreads ?_
   by_cases hc410 : v1 < s.f24
   ·rw [if_pos hc410] at h
    refine Eval.icmpF rfl (tlt hc410).2.1 ?_
    refine Eval.aload_n rfl rfl ?_
    refine Eval.getfield rfl rfl own_g1_st ?_
    refine Eval.iload_n rfl rfl ?_
    obtain ⟨hb411, h⟩ := ite_some h
    refine Eval.iaload rfl own_a1_st hb411 ?_
    by_cases hc412 : (rd s.f2 v1) = (0:Int32)
    ·rw [if_pos hc412] at h
     refine Eval.ifT (t := 26) rfl rfl (teq hc412).1 ?_
     exact ev_j_clearHistory_b26 R scr _ hrec s v1 h hk
    ·rw [if_neg hc412] at h
     refine Eval.ifF rfl (feq hc412).1 ?_
     cases h
     refine Eval.weak (lw_mk 0 _) ?_
     exact hk
   ·rw [if_neg hc410] at h
    refine Eval.icmpT (t := 26) rfl rfl (flt hc410).2.1 ?_
    exact ev_j_clearHistory_b26 R scr _ hrec s v1 h hk
  ·rw [if_neg hc409] at h
   refine Eval.icmpT (t := 32) rfl rfl (flt hc409).2.1 ?_
   cases h
   refine Eval.weak (lw_mk 1 _) ?_
   exact hk
abbrev j_clearHistory_l54_K (R : AHeap) (scr : List Int32) (res : (Q) ⊕ (Q)) (out : Option Value × AHeap) : Prop := Sum.elim (fun res => Eval own_P 29 65 [none, none, none] [] (W1 scr res R) out) (fun res => Eval own_P 29 106 [none, none, none] [] (W1 scr res R) out) res

abbrev j_clearHistory_l54_N (s : Q) (res : (Q) ⊕ (Q)) : Prop := Sum.elim (fun res => Q.len res = Q.len s) (fun res => Q.len res = Q.len s) res
def j_clearHistory_l54 : Nat → Q → Int32 → Int32 → Option ((Q) ⊕ (Q))
  | 0, _, _, _ => none
  | n + 1, s, v1, v2 => (if v2 < (8:Int32) then (if v2 < v1 then (if inb s.f1.length ((s.f27 + v2) &&& s.f26) = true then (if inb s.f11.length v2 = true then (j_clearHistory_l54 n (Q.mk s.f0 s.f1 s.f2 s.f3 s.f4 s.f5 s.f6 s.f7 s.f8 s.f9 s.f10 (wr s.f11 v2 (rd s.f1 ((s.f27 + v2) &&& s.f26))) s.f12 s.f13 s.f14 s.f15 s.f16 s.f17 s.f18 s.f19 s.f20 s.f21 s.f22 s.f23 s.f24 s.f25 s.f26 s.f27 s.f28 s.f29 (s.f30 + (1:Int32)) s.f31 s.f32) v1 (v2 + (1:Int32))) else none) else none) else some (.inl (s))) else some (.inr (s)))
set_option maxRecDepth 100000 in
theorem ev_j_clearHistory_l54 (R : AHeap) (scr : List Int32) : ∀ (n : Nat) (s : Q) (v1 v2 : Int32) {res : (Q) ⊕ (Q)} {out : Option Value × AHeap}, j_clearHistory_l54 n s v1 v2 = some res → j_clearHistory_l54_K R scr res out → Eval own_P 29 54 [some (.ref 1), some (.int v1), some (.int v2)] [] (W1 scr s R) out := by
 intro n
 induction n with
 | zero => intro _ _ _ res out h hk; cases h
 | succ n hrec =>
  intro s v1 v2 res out h hk
  rw [j_clearHistory_l54] at h
  refine Eval.iload_n rfl rfl ?_
  refine Eval.bipush (x := 8) rfl rfl ?_
  by_cases hc417 : v2 < (8:Int32)
  ·rw [if_pos hc417] at h
   refine Eval.icmpF rfl (tlt hc417).2.1 ?_
   refine Eval.iload_n rfl rfl ?_
   refine Eval.iload_n rfl rfl ?_
   by_cases hc418 : v2 < v1
   ·rw [if_pos hc418] at h
    refine Eval.icmpT (t := 68) rfl rfl (tlt hc418).1 ?_
    refine Eval.aload_n rfl rfl ?_
    refine Eval.getfield rfl rfl own_g1_snap ?_
    refine Eval.iload_n rfl rfl ?_
    refine Eval.aload_n rfl rfl ?_
    refine Eval.getfield rfl rfl own_g1_val ?_
    refine Eval.aload_n rfl rfl ?_
    refine Eval.getfield rfl rfl own_g1_head ?_
    refine Eval.iload_n rfl rfl ?_
    refine Eval.iadd rfl ?_
    refine Eval.aload_n rfl rfl ?_
    refine Eval.getfield rfl rfl own_g1_mask ?_
    refine Eval.iand rfl ?_
    obtain ⟨hb419, h⟩ := ite_some h
    refine Eval.iaload rfl own_a1_val hb419 ?_
    obtain ⟨hb420, h⟩ := ite_some h
    refine Eval.iastore rfl rfl own_a1_snap hb420 own_s1_snap ?_
    refine Eval.aload_n rfl rfl ?_
    refine Eval.dupR rfl ?_
    refine Eval.getfield rfl rfl own_g1_snapLen ?_
    refine Eval.iconst (x := 1) rfl rfl ?_
    refine Eval.iadd rfl ?_
    refine Eval.putfield rfl rfl own_p1_snapLen ?_
    refine Eval.iinc (L' := [some (.ref 1), some (.int v1), some (.int (v2 + (1:Int32)))]) rfl rfl rfl ?_
    refine Eval.goto (t := 54) rfl rfl ?_
    refine Eval.heap own_mk1 ?_
    exact hrec _ _ _ h hk
   ·rw [if_neg hc418] at h
    refine Eval.icmpF rfl (flt hc418).1 ?_
    cases h
    refine Eval.weak (lw_mk 0 _) ?_
    exact hk
  ·rw [if_neg hc417] at h
   refine Eval.icmpT (t := 106) rfl rfl (flt hc417).2.1 ?_
   cases h
   refine Eval.weak (lw_mk 0 _) ?_
   exact hk
def j_clearHistory (s : Q) : Option (Int32 × Q) := ((j_clearHistory_l2 3000 s (0:Int32)).bind fun p413 => Sum.elim (fun p415 => some ((0:Int32), s)) (fun p416 => ((j_clearHistory_l54 3000 (Q.mk s.f0 s.f1 s.f2 s.f3 s.f4 s.f5 s.f6 s.f7 s.f8 s.f9 s.f10 s.f11 s.f12 s.f13 s.f14 s.f15 s.f16 s.f17 s.f18 s.f19 s.f20 s.f21 s.f22 s.f23 s.f24 s.f25 s.f26 s.f27 s.f28 (0:Int32) (0:Int32) s.f31 s.f32) (s.f28 - s.f27) (0:Int32)).bind fun p421 => Sum.elim (fun p423 => some ((1:Int32), p423)) (fun p424 => some ((1:Int32), p424)) p421)) p413)
set_option maxRecDepth 100000 in
theorem ev_j_clearHistory (R : AHeap) (scr : List Int32) (s : Q) {res : Int32 × Q} {out : Option Value × AHeap} (h : j_clearHistory s = some res) (hk : out = (some (.int res.1), (W1 scr res.2 R))) : Eval own_P 29 0 [some (.ref 1), none, none] [] (W1 scr s R) out := by
 rw [j_clearHistory] at h
 refine Eval.iconst (x := 0) rfl rfl ?_
 refine Eval.istore_n (L' := [some (.ref 1), some (.int 0), none]) rfl rfl ?_
 obtain ⟨p413, hq414, h⟩ := bind_some h
 rcases p413 with p415 | p416
 ·dsimp only [Sum.elim] at h
  refine ev_j_clearHistory_l2 R scr _ s (0:Int32) hq414 ?_
  show Eval own_P 29 24 [none, none, none] [] (W1 scr s R) out
  refine Eval.iconst (x := 0) rfl rfl ?_
  cases h
  subst hk
  exact Eval.ret rfl rfl
 ·dsimp only [Sum.elim] at h
  refine ev_j_clearHistory_l2 R scr _ s (0:Int32) hq414 ?_
  show Eval own_P 29 32 [some (.ref 1), none, none] [] (W1 scr s R) out
  refine Eval.aload_n rfl rfl ?_
  refine Eval.iconst (x := 0) rfl rfl ?_
  refine Eval.putfield rfl rfl own_p1_histLen ?_
  refine Eval.aload_n rfl rfl ?_
  refine Eval.getfield rfl rfl own_g1_tail ?_
  refine Eval.aload_n rfl rfl ?_
  refine Eval.getfield rfl rfl own_g1_head ?_
  refine Eval.isub rfl ?_
  refine Eval.istore_n (L' := [some (.ref 1), some (.int (s.f28 - s.f27)), none]) rfl rfl ?_
  refine Eval.aload_n rfl rfl ?_
  refine Eval.iconst (x := 0) rfl rfl ?_
  refine Eval.putfield rfl rfl own_p1_snapLen ?_
  refine Eval.iconst (x := 0) rfl rfl ?_
  refine Eval.istore_n (L' := [some (.ref 1), some (.int (s.f28 - s.f27)), some (.int 0)]) rfl rfl ?_
  refine Eval.heap own_mk1 ?_
  obtain ⟨p421, hq422, h⟩ := bind_some h
  rcases p421 with p423 | p424
  ·dsimp only [Sum.elim] at h
   refine ev_j_clearHistory_l54 R scr _ (Q.mk s.f0 s.f1 s.f2 s.f3 s.f4 s.f5 s.f6 s.f7 s.f8 s.f9 s.f10 s.f11 s.f12 s.f13 s.f14 s.f15 s.f16 s.f17 s.f18 s.f19 s.f20 s.f21 s.f22 s.f23 s.f24 s.f25 s.f26 s.f27 s.f28 (0:Int32) (0:Int32) s.f31 s.f32) (s.f28 - s.f27) (0:Int32) hq422 ?_
   show Eval own_P 29 65 [none, none, none] [] (W1 scr p423 R) out
   refine Eval.goto (t := 106) rfl rfl ?_
   refine Eval.iconst (x := 1) rfl rfl ?_
   cases h
   subst hk
   exact Eval.ret rfl rfl
  ·dsimp only [Sum.elim] at h
   refine ev_j_clearHistory_l54 R scr _ (Q.mk s.f0 s.f1 s.f2 s.f3 s.f4 s.f5 s.f6 s.f7 s.f8 s.f9 s.f10 s.f11 s.f12 s.f13 s.f14 s.f15 s.f16 s.f17 s.f18 s.f19 s.f20 s.f21 s.f22 s.f23 s.f24 s.f25 s.f26 s.f27 s.f28 (0:Int32) (0:Int32) s.f31 s.f32) (s.f28 - s.f27) (0:Int32) hq422 ?_
   show Eval own_P 29 106 [none, none, none] [] (W1 scr p424 R) out
   refine Eval.iconst (x := 1) rfl rfl ?_
   cases h
   subst hk
   exact Eval.ret rfl rfl
def law_l46 : Nat → Q → List Int32 → Int32 → Int32 → Option ((Q) ⊕ ((Q) ⊕ (Q)))
  | 0, _, _, _, _ => none
  | n + 1, s, scr, v2, v5 => (if v5 < (Nat.toInt32 scr.length) then (if inb scr.length v5 = true then (if v2 = (0:Int32) then none else (if ((rd scr v5) &&& (7:Int32)) = (0:Int32) then ((j_startEnqueue s (((ush (rd scr v5) (3:Int32)) &&& (3:Int32)) % v2) (v5 + (1:Int32))).bind fun p55 => (law_b219 (law_l46 n) p55.2 scr v2 v5)) else (if ((rd scr v5) &&& (7:Int32)) = (1:Int32) then ((j_startDequeue s (((ush (rd scr v5) (3:Int32)) &&& (3:Int32)) % v2)).bind fun p69 => (law_b219 (law_l46 n) p69.2 scr v2 v5)) else (if ((rd scr v5) &&& (7:Int32)) = (2:Int32) then (law_b125 (law_l46 n) s scr v2 v5 (((ush (rd scr v5) (3:Int32)) &&& (3:Int32)) % v2)) else (if ((rd scr v5) &&& (7:Int32)) = (3:Int32) then (law_b125 (law_l46 n) s scr v2 v5 (((ush (rd scr v5) (3:Int32)) &&& (3:Int32)) % v2)) else (if ((rd scr v5) &&& (7:Int32)) = (4:Int32) then ((j_run s (((ush (rd scr v5) (3:Int32)) &&& (3:Int32)) % v2) ((1:Int32) + ((ush (rd scr v5) (5:Int32)) &&& (15:Int32)))).bind fun p179 => (law_b219 (law_l46 n) p179.2 scr v2 v5)) else (if ((rd scr v5) &&& (7:Int32)) = (5:Int32) then ((h_checkOk s).bind fun p389 => (if p389.1 = (0:Int32) then some (.inl (p389.2)) else (law_b219 (law_l46 n) p389.2 scr v2 v5))) else (if ((rd scr v5) &&& (7:Int32)) = (6:Int32) then ((h_settle s).bind fun p404 => ((h_checkOk p404).bind fun p406 => (if p406.1 = (0:Int32) then some (.inr (.inl (p406.2))) else ((j_clearHistory p406.2).bind fun p427 => (law_b219 (law_l46 n) p427.2 scr v2 v5))))) else ((j_run s (((ush (rd scr v5) (3:Int32)) &&& (3:Int32)) % v2) (64:Int32)).bind fun p429 => (law_b219 (law_l46 n) p429.2 scr v2 v5)))))))))) else none) else some (.inr (.inr (s))))
set_option maxRecDepth 100000 in
theorem ev_law_l46 : ∀ (n : Nat) (s : Q) (scr : List Int32) (v2 v5 : Int32) {res : (Q) ⊕ ((Q) ⊕ (Q))} {out : Option Value × AHeap}, law_l46 n s scr v2 v5 = some res → law_l46_K scr res out → Eval own_P 0 46 [some (.ref 0), none, some (.int v2), none, some (.ref 1), some (.int v5), none, none, none] [] (W1 scr s []) out := by
 intro n
 induction n with
 | zero => intro _ _ _ _ res out h hk; cases h
 | succ n hrec =>
  intro s scr v2 v5 res out h hk
  rw [law_l46] at h
  refine Eval.iload rfl rfl ?_
  refine Eval.aload_n rfl rfl ?_
  refine Eval.alenI (xs := scr) rfl rfl ?_
  by_cases hc22 : v5 < (Nat.toInt32 scr.length)
  ·rw [if_pos hc22] at h
   refine Eval.icmpF rfl (tlt hc22).2.1 ?_
   refine Eval.aload_n rfl rfl ?_
   refine Eval.iload rfl rfl ?_
   obtain ⟨hb23, h⟩ := ite_some h
   refine Eval.iaload0 (xs := scr) rfl rfl hb23 ?_
   refine Eval.istore (L' := [some (.ref 0), none, some (.int v2), none, some (.ref 1), some (.int v5), some (.int (rd scr v5)), none, none]) rfl rfl ?_
   refine Eval.iload rfl rfl ?_
   refine Eval.bipush (x := 7) rfl rfl ?_
   refine Eval.iand rfl ?_
   refine Eval.istore (L' := [some (.ref 0), none, some (.int v2), none, some (.ref 1), some (.int v5), some (.int (rd scr v5)), some (.int ((rd scr v5) &&& (7:Int32))), none]) rfl rfl ?_
   refine Eval.iload rfl rfl ?_
   refine Eval.iconst (x := 3) rfl rfl ?_
   refine Eval.iushr rfl ?_
   refine Eval.iconst (x := 3) rfl rfl ?_
   refine Eval.iand rfl ?_
   refine Eval.iload_n rfl rfl ?_
   obtain ⟨hz24, h⟩ := ite_none h
   refine Eval.irem rfl hz24 ?_
   refine Eval.istore (L' := [some (.ref 0), none, some (.int v2), none, some (.ref 1), some (.int v5), some (.int (rd scr v5)), some (.int ((rd scr v5) &&& (7:Int32))), some (.int (((ush (rd scr v5) (3:Int32)) &&& (3:Int32)) % v2))]) rfl rfl ?_
   refine Eval.iload rfl rfl ?_
   by_cases hc25 : ((rd scr v5) &&& (7:Int32)) = (0:Int32)
   ·rw [if_pos hc25] at h
    refine Eval.ifF rfl (teq hc25).2 ?_
    refine Eval.aload rfl rfl ?_
    refine Eval.iload rfl rfl ?_
    refine Eval.iload rfl rfl ?_
    refine Eval.iconst (x := 1) rfl rfl ?_
    refine Eval.iadd rfl ?_
    obtain ⟨p55, hq56, h⟩ := bind_some h
    refine Eval.callI (rest := []) (x := p55.1) (H1 := (W1 scr p55.2 [])) rfl rfl (ev_j_startEnqueue [] scr s (((ush (rd scr v5) (3:Int32)) &&& (3:Int32)) % v2) (v5 + (1:Int32)) hq56 rfl) ?_
    refine Eval.popI rfl ?_
    refine Eval.goto (t := 219) rfl rfl ?_
    refine Eval.weak (lw_mk 53 _) ?_
    exact ev_law_b219 _ hrec p55.2 scr v2 v5 h hk
   ·rw [if_neg hc25] at h
    refine Eval.ifT (t := 96) rfl rfl (feq hc25).2 ?_
    refine Eval.iload rfl rfl ?_
    refine Eval.iconst (x := 1) rfl rfl ?_
    by_cases hc57 : ((rd scr v5) &&& (7:Int32)) = (1:Int32)
    ·rw [if_pos hc57] at h
     refine Eval.icmpF rfl (teq hc57).2 ?_
     refine Eval.aload rfl rfl ?_
     refine Eval.iload rfl rfl ?_
     obtain ⟨p69, hq70, h⟩ := bind_some h
     refine Eval.callI (rest := []) (x := p69.1) (H1 := (W1 scr p69.2 [])) rfl rfl (ev_j_startDequeue [] scr s (((ush (rd scr v5) (3:Int32)) &&& (3:Int32)) % v2) hq70 rfl) ?_
     refine Eval.popI rfl ?_
     refine Eval.goto (t := 219) rfl rfl ?_
     refine Eval.weak (lw_mk 53 _) ?_
     exact ev_law_b219 _ hrec p69.2 scr v2 v5 h hk
    ·rw [if_neg hc57] at h
     refine Eval.icmpT (t := 113) rfl rfl (feq hc57).2 ?_
     refine Eval.iload rfl rfl ?_
     refine Eval.iconst (x := 2) rfl rfl ?_
     by_cases hc71 : ((rd scr v5) &&& (7:Int32)) = (2:Int32)
     ·rw [if_pos hc71] at h
      refine Eval.icmpT (t := 125) rfl rfl (teq hc71).1 ?_
      refine Eval.weak (lw_mk 309 _) ?_
      exact ev_law_b125 _ hrec s scr v2 v5 (((ush (rd scr v5) (3:Int32)) &&& (3:Int32)) % v2) h hk
     ·rw [if_neg hc71] at h
      refine Eval.icmpF rfl (feq hc71).1 ?_
      refine Eval.iload rfl rfl ?_
      refine Eval.iconst (x := 3) rfl rfl ?_
      by_cases hc161 : ((rd scr v5) &&& (7:Int32)) = (3:Int32)
      ·rw [if_pos hc161] at h
       refine Eval.icmpF rfl (teq hc161).2 ?_
       refine Eval.weak (lw_mk 309 _) ?_
       exact ev_law_b125 _ hrec s scr v2 v5 (((ush (rd scr v5) (3:Int32)) &&& (3:Int32)) % v2) h hk
      ·rw [if_neg hc161] at h
       refine Eval.icmpT (t := 136) rfl rfl (feq hc161).2 ?_
       refine Eval.iload rfl rfl ?_
       refine Eval.iconst (x := 4) rfl rfl ?_
       by_cases hc162 : ((rd scr v5) &&& (7:Int32)) = (4:Int32)
       ·rw [if_pos hc162] at h
        refine Eval.icmpF rfl (teq hc162).2 ?_
        refine Eval.aload rfl rfl ?_
        refine Eval.iload rfl rfl ?_
        refine Eval.iconst (x := 1) rfl rfl ?_
        refine Eval.iload rfl rfl ?_
        refine Eval.iconst (x := 5) rfl rfl ?_
        refine Eval.iushr rfl ?_
        refine Eval.bipush (x := 15) rfl rfl ?_
        refine Eval.iand rfl ?_
        refine Eval.iadd rfl ?_
        obtain ⟨p179, hq180, h⟩ := bind_some h
        refine Eval.callI (rest := []) (x := p179.1) (H1 := (W1 scr p179.2 [])) rfl rfl (ev_j_run [] scr s (((ush (rd scr v5) (3:Int32)) &&& (3:Int32)) % v2) ((1:Int32) + ((ush (rd scr v5) (5:Int32)) &&& (15:Int32))) hq180 rfl) ?_
        refine Eval.popI rfl ?_
        refine Eval.goto (t := 219) rfl rfl ?_
        refine Eval.weak (lw_mk 53 _) ?_
        exact ev_law_b219 _ hrec p179.2 scr v2 v5 h hk
       ·rw [if_neg hc162] at h
        refine Eval.icmpT (t := 162) rfl rfl (feq hc162).2 ?_
        refine Eval.iload rfl rfl ?_
        refine Eval.iconst (x := 5) rfl rfl ?_
        by_cases hc181 : ((rd scr v5) &&& (7:Int32)) = (5:Int32)
        ·rw [if_pos hc181] at h
         refine Eval.icmpF rfl (teq hc181).2 ?_
         refine Eval.aload rfl rfl ?_
         obtain ⟨p389, hq390, h⟩ := bind_some h
         refine Eval.callI (rest := []) (x := p389.1) (H1 := (W1 scr p389.2 [])) rfl rfl (ev_h_checkOk [] scr s hq390 rfl) ?_
         by_cases hc391 : p389.1 = (0:Int32)
         ·rw [if_pos hc391] at h
          refine Eval.ifF rfl (teq hc391).2 ?_
          cases h
          refine Eval.weak (lw_mk 0 _) ?_
          exact hk
         ·rw [if_neg hc391] at h
          refine Eval.ifT (t := 219) rfl rfl (feq hc391).2 ?_
          refine Eval.weak (lw_mk 53 _) ?_
          exact ev_law_b219 _ hrec p389.2 scr v2 v5 h hk
        ·rw [if_neg hc181] at h
         refine Eval.icmpT (t := 178) rfl rfl (feq hc181).2 ?_
         refine Eval.iload rfl rfl ?_
         refine Eval.bipush (x := 6) rfl rfl ?_
         by_cases hc392 : ((rd scr v5) &&& (7:Int32)) = (6:Int32)
         ·rw [if_pos hc392] at h
          refine Eval.icmpF rfl (teq hc392).2 ?_
          refine Eval.aload rfl rfl ?_
          obtain ⟨p404, hq405, h⟩ := bind_some h
          refine Eval.callN (rest := []) (H1 := (W1 scr p404 [])) rfl rfl (ev_h_settle [] scr s hq405 rfl) ?_
          refine Eval.aload rfl rfl ?_
          obtain ⟨p406, hq407, h⟩ := bind_some h
          refine Eval.callI (rest := []) (x := p406.1) (H1 := (W1 scr p406.2 [])) rfl rfl (ev_h_checkOk [] scr p404 hq407 rfl) ?_
          by_cases hc408 : p406.1 = (0:Int32)
          ·rw [if_pos hc408] at h
           refine Eval.ifF rfl (teq hc408).2 ?_
           cases h
           refine Eval.weak (lw_mk 0 _) ?_
           exact hk
          ·rw [if_neg hc408] at h
           refine Eval.ifT (t := 200) rfl rfl (feq hc408).2 ?_
           refine Eval.aload rfl rfl ?_
           obtain ⟨p427, hq428, h⟩ := bind_some h
           refine Eval.callI (rest := []) (x := p427.1) (H1 := (W1 scr p427.2 [])) rfl rfl (ev_j_clearHistory [] scr p406.2 hq428 rfl) ?_
           refine Eval.popI rfl ?_
           refine Eval.goto (t := 219) rfl rfl ?_
           refine Eval.weak (lw_mk 53 _) ?_
           exact ev_law_b219 _ hrec p427.2 scr v2 v5 h hk
         ·rw [if_neg hc392] at h
          refine Eval.icmpT (t := 209) rfl rfl (feq hc392).2 ?_
          refine Eval.aload rfl rfl ?_
          refine Eval.iload rfl rfl ?_
          refine Eval.bipush (x := 64) rfl rfl ?_
          obtain ⟨p429, hq430, h⟩ := bind_some h
          refine Eval.callI (rest := []) (x := p429.1) (H1 := (W1 scr p429.2 [])) rfl rfl (ev_j_run [] scr s (((ush (rd scr v5) (3:Int32)) &&& (3:Int32)) % v2) (64:Int32) hq430 rfl) ?_
          refine Eval.popI rfl ?_
          refine Eval.weak (lw_mk 53 _) ?_
          exact ev_law_b219 _ hrec p429.2 scr v2 v5 h hk
  ·rw [if_neg hc22] at h
   refine Eval.icmpT (t := 225) rfl rfl (flt hc22).2.1 ?_
   cases h
   refine Eval.weak (lw_mk 16 _) ?_
   exact hk
def law (scr : List Int32) : Option (Int32 × Q) := ((h_cell scr (0:Int32)).bind fun p3 => ((h_cell scr (1:Int32)).bind fun p5 => ((h_cell scr (2:Int32)).bind fun p7 => ((j_init (((p3 &&& (3:Int32)) % (3:Int32)) + (1:Int32)) ((p5 &&& (3:Int32)) + (1:Int32)) (p7 &&& (63:Int32))).bind fun p20 => ((law_l46 3000 p20 scr ((p5 &&& (3:Int32)) + (1:Int32)) (3:Int32)).bind fun p431 => Sum.elim (fun p433 => some ((0:Int32), p433)) (fun p434 => Sum.elim (fun p435 => some ((0:Int32), p435)) (fun p436 => ((h_settle p436).bind fun p437 => ((h_checkOk p437).bind fun p439 => some ((p439.1 &&& 1), p439.2)))) p434) p431)))))
set_option maxRecDepth 100000 in
theorem ev_law (scr : List Int32) {res : Int32 × Q} {out : Option Value × AHeap} (h : law scr = some res) (hk : out = (some (.int res.1), (W1 scr res.2 []))) : Eval own_P 0 0 [some (.ref 0), none, none, none, none, none, none, none, none] [] (W0 scr []) out := by
 rw [law] at h
 refine Eval.aload_n rfl rfl ?_
 refine Eval.iconst (x := 0) rfl rfl ?_
 obtain ⟨p3, hq4, h⟩ := bind_some h
 refine Eval.callI (rest := []) (x := p3) (H1 := (W0 scr [])) rfl rfl (ev_h_cell [] scr (0:Int32) hq4 rfl) ?_
 refine Eval.iconst (x := 3) rfl rfl ?_
 refine Eval.iand rfl ?_
 refine Eval.iconst (x := 3) rfl rfl ?_
 refine Eval.irem rfl (by decide) ?_
 refine Eval.iconst (x := 1) rfl rfl ?_
 refine Eval.iadd rfl ?_
 refine Eval.istore_n (L' := [some (.ref 0), some (.int (((p3 &&& (3:Int32)) % (3:Int32)) + (1:Int32))), none, none, none, none, none, none, none]) rfl rfl ?_
 refine Eval.aload_n rfl rfl ?_
 refine Eval.iconst (x := 1) rfl rfl ?_
 obtain ⟨p5, hq6, h⟩ := bind_some h
 refine Eval.callI (rest := []) (x := p5) (H1 := (W0 scr [])) rfl rfl (ev_h_cell [] scr (1:Int32) hq6 rfl) ?_
 refine Eval.iconst (x := 3) rfl rfl ?_
 refine Eval.iand rfl ?_
 refine Eval.iconst (x := 1) rfl rfl ?_
 refine Eval.iadd rfl ?_
 refine Eval.istore_n (L' := [some (.ref 0), some (.int (((p3 &&& (3:Int32)) % (3:Int32)) + (1:Int32))), some (.int ((p5 &&& (3:Int32)) + (1:Int32))), none, none, none, none, none, none]) rfl rfl ?_
 refine Eval.aload_n rfl rfl ?_
 refine Eval.iconst (x := 2) rfl rfl ?_
 obtain ⟨p7, hq8, h⟩ := bind_some h
 refine Eval.callI (rest := []) (x := p7) (H1 := (W0 scr [])) rfl rfl (ev_h_cell [] scr (2:Int32) hq8 rfl) ?_
 refine Eval.bipush (x := 63) rfl rfl ?_
 refine Eval.iand rfl ?_
 refine Eval.istore_n (L' := [some (.ref 0), some (.int (((p3 &&& (3:Int32)) % (3:Int32)) + (1:Int32))), some (.int ((p5 &&& (3:Int32)) + (1:Int32))), some (.int (p7 &&& (63:Int32))), none, none, none, none, none]) rfl rfl ?_
 refine Eval.new (z := 0) (a := 1) (H1 := (W0 scr [.inl (Prog.fresh own_P)])) rfl rfl rfl (by decide) rfl (by decide) rfl ?_
 refine Eval.dupR rfl ?_
 refine Eval.iload_n rfl rfl ?_
 refine Eval.iload_n rfl rfl ?_
 refine Eval.iload_n rfl rfl ?_
 obtain ⟨p20, hq21, h⟩ := bind_some h
 refine Eval.callN (rest := [.ref 1]) (H1 := (W1 scr p20 [])) rfl rfl (ev_j_init scr (((p3 &&& (3:Int32)) % (3:Int32)) + (1:Int32)) ((p5 &&& (3:Int32)) + (1:Int32)) (p7 &&& (63:Int32)) hq21 rfl) ?_
 refine Eval.astore (L' := [some (.ref 0), some (.int (((p3 &&& (3:Int32)) % (3:Int32)) + (1:Int32))), some (.int ((p5 &&& (3:Int32)) + (1:Int32))), some (.int (p7 &&& (63:Int32))), some (.ref 1), none, none, none, none]) rfl rfl ?_
 refine Eval.iconst (x := 3) rfl rfl ?_
 refine Eval.istore (L' := [some (.ref 0), some (.int (((p3 &&& (3:Int32)) % (3:Int32)) + (1:Int32))), some (.int ((p5 &&& (3:Int32)) + (1:Int32))), some (.int (p7 &&& (63:Int32))), some (.ref 1), some (.int 3), none, none, none]) rfl rfl ?_
 refine Eval.weak (lw_mk 53 _) ?_
 obtain ⟨p431, hq432, h⟩ := bind_some h
 rcases p431 with p433 | p434
 ·dsimp only [Sum.elim] at h
  refine ev_law_l46 _ p20 scr ((p5 &&& (3:Int32)) + (1:Int32)) (3:Int32) hq432 ?_
  show Eval own_P 0 176 [none, none, none, none, none, none, none, none, none] [] (W1 scr p433 []) out
  refine Eval.iconst (x := 0) rfl rfl ?_
  cases h
  subst hk
  exact Eval.ret rfl rfl
 ·dsimp only [Sum.elim] at h
  rcases p434 with p435 | p436
  ·dsimp only [Sum.elim] at h
   refine ev_law_l46 _ p20 scr ((p5 &&& (3:Int32)) + (1:Int32)) (3:Int32) hq432 ?_
   show Eval own_P 0 198 [none, none, none, none, none, none, none, none, none] [] (W1 scr p435 []) out
   refine Eval.iconst (x := 0) rfl rfl ?_
   cases h
   subst hk
   exact Eval.ret rfl rfl
  ·dsimp only [Sum.elim] at h
   refine ev_law_l46 _ p20 scr ((p5 &&& (3:Int32)) + (1:Int32)) (3:Int32) hq432 ?_
   show Eval own_P 0 225 [none, none, none, none, some (.ref 1), none, none, none, none] [] (W1 scr p436 []) out
   refine Eval.aload rfl rfl ?_
   obtain ⟨p437, hq438, h⟩ := bind_some h
   refine Eval.callN (rest := []) (H1 := (W1 scr p437 [])) rfl rfl (ev_h_settle [] scr p436 hq438 rfl) ?_
   refine Eval.aload rfl rfl ?_
   obtain ⟨p439, hq440, h⟩ := bind_some h
   refine Eval.callI (rest := []) (x := p439.1) (H1 := (W1 scr p439.2 [])) rfl rfl (ev_h_checkOk [] scr p437 hq440 rfl) ?_
   cases h
   subst hk
   exact Eval.ret rfl rfl
theorem own_rdc {n : Nat} {c j : Int32} (h : inb n j = true) : rd (List.replicate n c) j = c := by
  have q := rd_at (xs := List.replicate n c) (j := j) (by simpa using h)
  rw [List.getElem?_replicate] at q
  split at q
  · exact (Option.some.inj q).symm
  · cases q
theorem own_n2i {i : Nat} (h : i < 2147483648) : (Int32.ofNat i).toInt = i := by
  rw [Int32.toInt_ofNat']
  simp only [Int32.size, Int.bmod_def]
  omega
theorem own_n2n {i : Nat} (h : i < 2147483648) : (Int32.ofNat i).toNatClampNeg = i := by
  simp only [Int32.toNatClampNeg, own_n2i h]; omega
theorem own_succ (i : Nat) : Int32.ofNat i + 1 = Int32.ofNat (i + 1) := (Int32.ofNat_add i 1).symm
theorem own_inbN {n i : Nat} (h : i < n) (hn : n < 2147483648) : inb n (Int32.ofNat i) = true := inb_iff.mpr (by rw [own_n2i (by omega)]; omega)
theorem own_ltN {i k : Nat} (hi : i < 2147483648) (hk : k < 2147483648) : Int32.ofNat i < Int32.ofNat k ↔ i < k := by
  rw [lt32, own_n2i hi, own_n2i hk]; omega
theorem own_wrA {A r : List Int32} {d x : Int32} {i : Nat} (hi : A.length = i) (h : i < 2147483648) : wr (A ++ d :: r) (Int32.ofNat i) x = A ++ x :: r := by
  unfold wr
  rw [own_n2n h, ← hi]
  simp
theorem own_repS (i : Nat) (c : Int32) (r : List Int32) : List.replicate i c ++ c :: r = List.replicate (i + 1) c ++ r := by
  rw [List.replicate_succ']; simp
theorem own_add {x y : Int32} (h1 : -2147483648 ≤ x.toInt + y.toInt) (h2 : x.toInt + y.toInt < 2147483648) : (x + y).toInt = x.toInt + y.toInt := by
  rw [Int32.toInt_add, Int.bmod_def]
  omega
theorem own_sub {x y : Int32} (h1 : -2147483648 ≤ x.toInt - y.toInt) (h2 : x.toInt - y.toInt < 2147483648) : (x - y).toInt = x.toInt - y.toInt := by
  rw [Int32.toInt_sub, Int.bmod_def]
  omega
theorem own_mul {x y : Int32} (h1 : -2147483648 ≤ x.toInt * y.toInt) (h2 : x.toInt * y.toInt < 2147483648) : (x * y).toInt = x.toInt * y.toInt := by
  rw [Int32.toInt_mul, Int.bmod_def]
  omega
theorem own_eta (s : Q) : Q.mk s.f0 s.f1 s.f2 s.f3 s.f4 s.f5 s.f6 s.f7 s.f8 s.f9 s.f10 s.f11 s.f12 s.f13 s.f14 s.f15 s.f16 s.f17 s.f18 s.f19 s.f20 s.f21 s.f22 s.f23 s.f24 s.f25 s.f26 s.f27 s.f28 s.f29 s.f30 s.f31 s.f32 = s := rfl
theorem own_wrc (n : Nat) (c j : Int32) : wr (List.replicate n c) j c = List.replicate n c := by simp [wr, List.set_replicate_self]

def own_ok {α : Type} (o : Option α) (P : α → Prop) : Prop := ∃ r, o = some r ∧ P r
theorem own_ok_some {α : Type} (x : α) (P : α → Prop) : own_ok (some x) P ↔ P x := by
  constructor
  · rintro ⟨r, h, p⟩; cases h; exact p
  · intro p; exact ⟨x, rfl, p⟩
theorem own_ok_none {α : Type} (P : α → Prop) : own_ok (none : Option α) P ↔ False := by
  constructor
  · rintro ⟨r, h, p⟩; cases h
  · intro p; exact p.elim
theorem own_ok_bind {α β : Type} (o : Option α) (f : α → Option β) (P : β → Prop) : own_ok (o.bind f) P ↔ own_ok o (fun x => own_ok (f x) P) := by
  constructor
  · rintro ⟨r, h, p⟩
    obtain ⟨a, ha, hb⟩ := Option.bind_eq_some_iff.mp h
    exact ⟨a, ha, r, hb, p⟩
  · rintro ⟨a, ha, r, hb, p⟩
    exact ⟨r, Option.bind_eq_some_iff.mpr ⟨a, ha, hb⟩, p⟩
theorem own_ok_ite {α : Type} (c : Prop) [Decidable c] (a b : Option α) (P : α → Prop) : own_ok (if c then a else b) P ↔ (c → own_ok a P) ∧ (¬ c → own_ok b P) := by
  by_cases h : c
  · simp [h]
  · simp [h]
theorem own_mono {α : Type} {o : Option α} {P R : α → Prop} (h : own_ok o P) (m : ∀ x, P x → R x) : own_ok o R := by
  obtain ⟨r, e, p⟩ := h
  exact ⟨r, e, m r p⟩
theorem own_bind {α β : Type} {o : Option α} {f : α → Option β} {P : α → Prop} {R : β → Prop} (h : own_ok o P) (m : ∀ x, P x → own_ok (f x) R) : own_ok (o.bind f) R :=
  (own_ok_bind o f R).mpr (own_mono h m)
theorem own_okE {α : Type} {o : Option α} {r : α} {P : α → Prop} (e : o = some r) (p : P r) : own_ok o P := ⟨r, e, p⟩

theorem own_msk (x m : Int32) (hm : 0 ≤ m.toInt) : 0 ≤ (x &&& m).toInt ∧ (x &&& m).toInt ≤ m.toInt := by
  have a : (x &&& m).toBitVec.toNat ≤ m.toBitVec.toNat := by
    rw [Int32.toBitVec_and, BitVec.toNat_and]
    exact Nat.and_le_right
  have e : (x &&& m).toInt = (x &&& m).toBitVec.toInt := rfl
  have f : m.toInt = m.toBitVec.toInt := rfl
  rw [f, BitVec.toInt_eq_toNat_cond] at hm
  rw [e, f, BitVec.toInt_eq_toNat_cond, BitVec.toInt_eq_toNat_cond]
  have := m.toBitVec.isLt
  split at hm <;> split <;> omega
theorem own_nnN {x : Int32} : 0 ≤ x.toInt ↔ x.toBitVec.toNat < 2 ^ 31 := by
  have e : x.toInt = x.toBitVec.toInt := rfl
  rw [e, BitVec.toInt_eq_toNat_cond]
  have := x.toBitVec.isLt
  split <;> omega
theorem own_or_nn {x y : Int32} (hx : 0 ≤ x.toInt) (hy : 0 ≤ y.toInt) : 0 ≤ (x ||| y).toInt := by
  rw [own_nnN] at *
  rw [Int32.toBitVec_or, BitVec.toNat_or]
  exact Nat.or_lt_two_pow hx hy
theorem own_or0 {x y : Int32} (h : x ||| y = 0) : y = 0 := by
  have q := congrArg Int32.toBitVec h
  rw [Int32.toBitVec_or] at q
  have r := (BitVec.or_eq_zero_iff.mp q).2
  exact Int32.toBitVec_inj.mp r
theorem own_nn1 {x : Int32} (h : 0 ≤ x.toInt) : ¬ x = -1 := by
  intro e; rw [e] at h; exact absurd h (by decide)

theorem own_gw {xs : List Int32} {n i j : Nat} {v : Int32} (hl : xs.length = n) (hn : n ≤ 1000) (hi : i < n) (hj : j < n) : rd (wr xs (Int32.ofNat i) v) (Int32.ofNat j) = if j = i then v else rd xs (Int32.ofNat j) := by
  have ii : inb n (Int32.ofNat i) = true := own_inbN hi (by omega)
  have ij : inb n (Int32.ofNat j) = true := own_inbN hj (by omega)
  by_cases e : j = i
  · subst e; rw [if_pos rfl, rd_wr_same (by rw [hl]; exact ii)]
  · rw [if_neg e, rd_wr_ne (inb_nn ii) (inb_nn ij)]
    intro z
    have := congrArg Int32.toInt z
    rw [own_n2i (by omega), own_n2i (by omega)] at this
    omega
theorem own_eqN {x y : Nat} (hx : x < 2147483648) (hy : y < 2147483648) : Int32.ofNat x = Int32.ofNat y ↔ x = y := by
  rw [eq32, own_n2i hx, own_n2i hy]; omega
theorem own_ltN' {x y : Nat} (hx : x < 2147483648) (hy : y < 2147483648) : Int32.ofNat x < Int32.ofNat y ↔ x < y := by
  rw [lt32, own_n2i hx, own_n2i hy]; omega
def own_u {α : Type} (f : Nat → α) (t : Nat) (x : α) : Nat → α := fun i => if i = t then x else f i
theorem own_u_t {α : Type} (f : Nat → α) (t : Nat) (x : α) : own_u f t x t = x := if_pos rfl
theorem own_u_n {α : Type} {f : Nat → α} {t : Nat} {x : α} {i : Nat} (h : ¬ i = t) : own_u f t x i = f i := if_neg h
theorem own_sub1 (d : Nat) : Int32.ofNat (d + 1) + (-1) = Int32.ofNat d := by
  rw [Int32.ofNat_add, show Int32.ofNat 1 = 1 from rfl]; grind
/-! ## the search's arrays over a base state -/
def own_dd (s : Q) (qb ql nc ch : List Int32) : Q := (((s.s20 qb).s21 ql).s22 nc).s23 ch
theorem own_ddf (s : Q) (qb ql nc ch : List Int32) : (own_dd s qb ql nc ch).f20 = qb ∧ (own_dd s qb ql nc ch).f21 = ql ∧ (own_dd s qb ql nc ch).f22 = nc ∧ (own_dd s qb ql nc ch).f23 = ch ∧ (own_dd s qb ql nc ch).f12 = s.f12 ∧ (own_dd s qb ql nc ch).f13 = s.f13 ∧ (own_dd s qb ql nc ch).f15 = s.f15 ∧ (own_dd s qb ql nc ch).f16 = s.f16 ∧ (own_dd s qb ql nc ch).f17 = s.f17 ∧ (own_dd s qb ql nc ch).f18 = s.f18 ∧ (own_dd s qb ql nc ch).f25 = s.f25 ∧ (own_dd s qb ql nc ch).f31 = s.f31 ∧ (own_dd s qb ql nc ch).f32 = s.f32 := by
  unfold own_dd
  simp only [own_Qa, and_self]
theorem own_ddd (s : Q) (qb ql nc ch qb' ql' nc' ch' : List Int32) : own_dd (own_dd s qb ql nc ch) qb' ql' nc' ch' = own_dd s qb' ql' nc' ch' := by
  unfold own_dd
  simp only [own_Qa]
/-- level i holds the queue q -/
def own_lv (qb ql : List Int32) (i : Nat) (q : List Int32) : Prop := q.length ≤ 8 ∧ rd ql (Int32.ofNat i) = Int32.ofNat q.length ∧ ∀ k, k < q.length → rd qb (Int32.ofNat (8 * i + k)) = q.getD k 0
theorem own_cpl {s : Q} {qb ql nc ch : List Int32} {d sk len : Nat} {v1 : Int32} (hd : d ≤ 5) (hlen : len ≤ 8) (hsk : sk ≤ len) : ∀ (r N k : Nat) (qk : List Int32), len - (sk + k) = r → r < N → sk + k ≤ len → qk.length = 56 → (∀ j, j < k → rd qk (Int32.ofNat (8 * d + 8 + j)) = rd qb (Int32.ofNat (8 * d + sk + j))) → (∀ j, j < 56 → (j < 8 * d + 8 ∨ 8 * d + 16 ≤ j) → rd qk (Int32.ofNat j) = rd qb (Int32.ofNat j)) → ∃ q', (j_copyQueue_l25 N (own_dd s qk ql nc ch) v1 (Int32.ofNat (8 * d)) (Int32.ofNat (8 * d + 8)) (Int32.ofNat len) (Int32.ofNat k) (Int32.ofNat (sk + k)) = some (.inl (v1, Int32.ofNat (len - sk), own_dd s q' ql nc ch)) ∨ j_copyQueue_l25 N (own_dd s qk ql nc ch) v1 (Int32.ofNat (8 * d)) (Int32.ofNat (8 * d + 8)) (Int32.ofNat len) (Int32.ofNat k) (Int32.ofNat (sk + k)) = some (.inr (v1, Int32.ofNat (len - sk), own_dd s q' ql nc ch))) ∧ q'.length = 56 ∧ (∀ j, j < len - sk → rd q' (Int32.ofNat (8 * d + 8 + j)) = rd qb (Int32.ofNat (8 * d + sk + j))) ∧ (∀ j, j < 56 → (j < 8 * d + 8 ∨ 8 * d + 16 ≤ j) → rd q' (Int32.ofNat j) = rd qb (Int32.ofNat j)) := by
  intro r
  induction r with
  | zero =>
    intro N k qk h1 h2 h3 l g1 g2
    obtain ⟨N, rfl⟩ : ∃ m, N = m + 1 := ⟨N - 1, by omega⟩
    have e : sk + k = len := by omega
    have ek : len - sk = k := by omega
    refine ⟨qk, ?_, l, by rw [ek]; exact g1, g2⟩
    rw [ek, e]
    by_cases c : len < 8
    · left
      rw [j_copyQueue_l25, if_pos (show Int32.ofNat len < 8 from (own_ltN' (y := 8) (by omega) (by decide)).mpr c), if_neg (fun q => by have := (own_ltN' (by omega) (by omega)).mp q; omega)]
    · right
      rw [j_copyQueue_l25, if_neg (show ¬ Int32.ofNat len < 8 from fun q => c ((own_ltN' (y := 8) (by omega) (by decide)).mp q))]
  | succ r ih =>
    intro N k qk h1 h2 h3 l g1 g2
    obtain ⟨N, rfl⟩ : ∃ m, N = m + 1 := ⟨N - 1, by omega⟩
    have i1 : Int32.ofNat (8 * d) + Int32.ofNat (sk + k) = Int32.ofNat (8 * d + sk + k) := by rw [← Int32.ofNat_add, show 8 * d + (sk + k) = 8 * d + sk + k by omega]
    have i2 : Int32.ofNat (8 * d + 8) + Int32.ofNat k = Int32.ofNat (8 * d + 8 + k) := (Int32.ofNat_add _ _).symm
    obtain ⟨q', hq, l', a1, a2⟩ := ih N (k + 1) (wr qk (Int32.ofNat (8 * d + 8 + k)) (rd qk (Int32.ofNat (8 * d + sk + k)))) (by omega) (by omega) (by omega) (by rw [len_wr]; exact l) (fun j hj => by
      rw [own_gw l (by decide) (by omega) (by omega)]
      by_cases c : j = k
      · subst c; rw [if_pos rfl, g2 _ (by omega) (by omega)]
      · rw [if_neg (by omega)]; exact g1 j (by omega)) (fun j hj w => by
      rw [own_gw l (by decide) (by omega) hj, if_neg (by omega)]
      exact g2 j hj w)
    refine ⟨q', ?_, l', a1, a2⟩
    have e : j_copyQueue_l25 (N + 1) (own_dd s qk ql nc ch) v1 (Int32.ofNat (8 * d)) (Int32.ofNat (8 * d + 8)) (Int32.ofNat len) (Int32.ofNat k) (Int32.ofNat (sk + k)) = j_copyQueue_l25 N (own_dd s (wr qk (Int32.ofNat (8 * d + 8 + k)) (rd qk (Int32.ofNat (8 * d + sk + k)))) ql nc ch) v1 (Int32.ofNat (8 * d)) (Int32.ofNat (8 * d + 8)) (Int32.ofNat len) (Int32.ofNat (k + 1)) (Int32.ofNat (sk + (k + 1))) := by
      rw [j_copyQueue_l25, if_pos (show Int32.ofNat (sk + k) < 8 from (own_ltN' (y := 8) (by omega) (by decide)).mpr (by omega)), if_pos ((own_ltN' (by omega) (by omega)).mpr (by omega)), i1, i2]
      have f := own_ddf s qk ql nc ch
      rw [f.1, l, if_pos (own_inbN (by omega) (by decide)), if_pos (own_inbN (by omega) (by decide)), own_succ, own_succ, show sk + k + 1 = sk + (k + 1) by omega]
      unfold own_dd
      simp only [own_Qa]
    rw [e]
    exact hq
theorem own_cpy {s : Q} {qb ql nc ch q : List Int32} {d sk : Nat} (hd : d ≤ 5) (lb : qb.length = 56) (ll : ql.length = 7) (hq : own_lv qb ql d q) (hsk : sk ≤ q.length) : ∃ qb' ql', j_copyQueue (own_dd s qb ql nc ch) (Int32.ofNat d) (Int32.ofNat sk) = some (own_dd s qb' ql' nc ch) ∧ qb'.length = 56 ∧ ql'.length = 7 ∧ own_lv qb' ql' (d + 1) (q.drop sk) ∧ (∀ i p, i ≤ d → own_lv qb ql i p → own_lv qb' ql' i p) := by
  obtain ⟨h8, hl, hv⟩ := hq
  have f := own_ddf s qb ql nc ch
  obtain ⟨q', hq', l', a1, a2⟩ := own_cpl (s := s) (qb := qb) (ql := ql) (nc := nc) (ch := ch) (d := d) (sk := sk) (len := q.length) (v1 := Int32.ofNat d) hd h8 hsk (q.length - sk) 3000 0 qb (by omega) (by omega) (by omega) lb (fun j hj => by omega) (fun j _ _ => rfl)
  have e1 : Int32.ofNat d * 8 = Int32.ofNat (8 * d) := by rw [Int32.ofNat_mul, show Int32.ofNat 8 = 8 from rfl, Int32.mul_comm]
  have e2 : Int32.ofNat (8 * d) + 8 = Int32.ofNat (8 * d + 8) := (Int32.ofNat_add _ 8).symm
  rw [show sk + 0 = sk by omega, show Int32.ofNat 0 = 0 from rfl] at hq'
  refine ⟨q', wr ql (Int32.ofNat (d + 1)) (Int32.ofNat (q.length - sk)), ?_, l', by rw [len_wr]; exact ll, ⟨?_, ?_, ?_⟩, ?_⟩
  · unfold j_copyQueue
    have fin : j_copyQueue_b70 (own_dd s q' ql nc ch) (Int32.ofNat d) (Int32.ofNat (q.length - sk)) = some (own_dd s q' (wr ql (Int32.ofNat (d + 1)) (Int32.ofNat (q.length - sk))) nc ch) := by
      unfold j_copyQueue_b70
      have f' := own_ddf s q' ql nc ch
      rw [f'.2.1, ll, own_succ, if_pos (own_inbN (by omega) (by decide))]
      unfold own_dd
      simp only [own_Qa]
    rw [f.2.1, ll, if_pos (own_inbN (by omega) (by decide)), hl, e1, e2]
    rcases hq' with w | w
    · rw [w, Option.bind_some]; exact fin
    · rw [w, Option.bind_some]; exact fin
  · rw [List.length_drop]; omega
  · rw [own_gw ll (by decide) (by omega) (by omega), if_pos rfl, List.length_drop]
  · intro k hk
    rw [List.length_drop] at hk
    rw [show 8 * (d + 1) + k = 8 * d + 8 + k by omega, a1 k hk, show 8 * d + sk + k = 8 * d + (sk + k) by omega, hv (sk + k) (by omega)]
    simp only [List.getD_eq_getElem?_getD, List.getElem?_drop]
  · intro i p hi ⟨p8, pl, pv⟩
    refine ⟨p8, ?_, fun k hk => ?_⟩
    · rw [own_gw ll (by decide) (by omega) (by omega), if_neg (by omega)]; exact pl
    · rw [a2 _ (by omega) (by omega)]; exact pv k hk

def own_appl (C : Nat) (kd ar rs su rv : Nat → Int32) (q : List Int32) (c : Nat) : Option (List Int32) :=
  if kd c = 1 then (if ¬ rs c < 0 ∧ ¬ su c = (if q.length < C then 1 else 2) then none else some (if q.length < C then q ++ [ar c] else q))
  else match q with
    | [] => if ¬ rs c < 0 ∧ ¬ su c = 3 then none else some []
    | x :: r => if ¬ rs c < 0 ∧ (¬ su c = 1 ∨ ¬ rv c = x) then none else some r
def own_TB (s : Q) (n C : Nat) (kd ar rs su rv : Nat → Int32) (pm : Nat → Nat) (cm : Nat) : Prop := (s.f12.length = 6 ∧ s.f13.length = 6 ∧ s.f15.length = 6 ∧ s.f16.length = 6 ∧ s.f17.length = 6 ∧ s.f18.length = 6) ∧ (n ≤ 6 ∧ C ≤ 8) ∧ s.f25 = Int32.ofNat C ∧ s.f31 = Int32.ofNat n ∧ s.f32 = Int32.ofNat cm ∧ ∀ o, o < n → rd s.f12 (Int32.ofNat o) = kd o ∧ rd s.f13 (Int32.ofNat o) = ar o ∧ rd s.f15 (Int32.ofNat o) = rs o ∧ rd s.f16 (Int32.ofNat o) = su o ∧ rd s.f17 (Int32.ofNat o) = rv o ∧ rd s.f18 (Int32.ofNat o) = Int32.ofNat (pm o)
theorem own_apE {s : Q} {n C cm d c : Nat} {kd ar rs su rv : Nat → Int32} {pm : Nat → Nat} {qb ql nc ch q : List Int32} (B : own_TB s n C kd ar rs su rv pm cm) (hd : d ≤ 5) (hc : c < n) (lb : qb.length = 56) (ll : ql.length = 7) (hq : own_lv qb ql d q) (k1 : kd c = 1) : (own_appl C kd ar rs su rv q c = none → j_applyEnq (own_dd s qb ql nc ch) (Int32.ofNat c) (Int32.ofNat d) = some (0, own_dd s qb ql nc ch)) ∧ (∀ q', own_appl C kd ar rs su rv q c = some q' → ∃ qb' ql', j_applyEnq (own_dd s qb ql nc ch) (Int32.ofNat c) (Int32.ofNat d) = some (1, own_dd s qb' ql' nc ch) ∧ qb'.length = 56 ∧ ql'.length = 7 ∧ own_lv qb' ql' (d + 1) q' ∧ (∀ i p, i ≤ d → own_lv qb ql i p → own_lv qb' ql' i p)) := by
  obtain ⟨⟨L1, L2, L3, L4, L5, L6⟩, ⟨n6, C8⟩, eC, eN, eM, T⟩ := B
  obtain ⟨t1, t2, t3, t4, t5, t6⟩ := T c hc
  have f := own_ddf s qb ql nc ch
  have i6 : inb 6 (Int32.ofNat c) = true := own_inbN (by omega) (by decide)
  have i7 : inb 7 (Int32.ofNat d) = true := own_inbN (by omega) (by decide)
  have hl := hq.2.1
  have h8 := hq.1
  unfold own_appl
  rw [if_pos k1]
  have st : (if rd (own_dd s qb ql nc ch).f21 (Int32.ofNat d) < (own_dd s qb ql nc ch).f25 then (1:Int32) else 2) = if q.length < C then 1 else 2 := by
    rw [f.2.1, f.2.2.2.2.2.2.2.2.2.2.1, hl, eC]
    by_cases w : q.length < C
    · rw [if_pos w, if_pos ((own_ltN' (by omega) (by omega)).mpr w)]
    · rw [if_neg w, if_neg (fun z => w ((own_ltN' (by omega) (by omega)).mp z))]
  unfold j_applyEnq j_applyEnq_b20
  rw [st, f.2.1, ll, if_pos i7, f.2.2.2.2.2.2.1, L3, if_pos i6, t3, f.2.2.2.2.2.2.2.1, L4, if_pos i6, t4]
  -- what happens when it is allowed
  obtain ⟨qb1, ql1, e1, lb1, ll1, lv1, fr1⟩ := own_cpy (s := s) (nc := nc) (ch := ch) hd lb ll hq (Nat.zero_le _)
  rw [List.drop_zero] at lv1
  rw [show Int32.ofNat 0 = 0 from rfl] at e1
  have ok : ∃ qb' ql', j_applyEnq_b44 (own_dd s qb ql nc ch) (Int32.ofNat c) (Int32.ofNat d) (if q.length < C then 1 else 2) = some (1, own_dd s qb' ql' nc ch) ∧ qb'.length = 56 ∧ ql'.length = 7 ∧ own_lv qb' ql' (d + 1) (if q.length < C then q ++ [ar c] else q) ∧ (∀ i p, i ≤ d → own_lv qb ql i p → own_lv qb' ql' i p) := by
    unfold j_applyEnq_b44
    rw [e1, Option.bind_some]
    by_cases w : q.length < C
    · rw [if_pos w, if_pos w, if_pos rfl]
      have f1 := own_ddf s qb1 ql1 nc ch
      obtain ⟨l81, l1, v1⟩ := lv1
      have ix : Int32.ofNat (d + 1) * 8 + Int32.ofNat q.length = Int32.ofNat (8 * d + 8 + q.length) := by
        rw [show 8 * d + 8 + q.length = (d + 1) * 8 + q.length by omega, Int32.ofNat_add _ q.length, Int32.ofNat_mul, show Int32.ofNat 8 = 8 from rfl]
      rw [f1.2.1, ll1, own_succ, if_pos (own_inbN (by omega) (by decide)), l1, if_neg (by rw [lt32, own_n2i (by omega)]; simp only [Int32.reduceToInt]; omega), if_pos (show Int32.ofNat q.length < 8 from (own_ltN' (y := 8) (by omega) (by decide)).mpr (by omega)), f1.2.2.2.2.2.1, L2, if_pos i6, t2, f1.1, lb1, ix, if_pos (own_inbN (by omega) (by decide)), if_pos (own_inbN (by omega) (by decide)), own_succ]
      refine ⟨wr qb1 (Int32.ofNat (8 * d + 8 + q.length)) (ar c), wr ql1 (Int32.ofNat (d + 1)) (Int32.ofNat (q.length + 1)), ?_, by rw [len_wr]; exact lb1, by rw [len_wr]; exact ll1, ⟨?_, ?_, ?_⟩, ?_⟩
      · unfold own_dd; simp only [own_Qa]
      · rw [List.length_append, List.length_singleton]; omega
      · rw [own_gw ll1 (by decide) (by omega) (by omega), if_pos rfl, List.length_append, List.length_singleton]
      · intro k hk
        rw [List.length_append, List.length_singleton] at hk
        rw [own_gw lb1 (by decide) (by omega) (by omega)]
        by_cases z : k = q.length
        · subst z
          rw [if_pos (by omega)]
          simp
        · rw [if_neg (by omega), v1 k (by omega)]
          simp only [List.getD_eq_getElem?_getD]
          rw [List.getElem?_append_left (by omega)]
      · intro i p hi hp
        obtain ⟨p8, pl, pv⟩ := fr1 i p hi hp
        refine ⟨p8, ?_, fun k hk => ?_⟩
        · rw [own_gw ll1 (by decide) (by omega) (by omega), if_neg (by omega)]; exact pl
        · rw [own_gw lb1 (by decide) (by omega) (by omega), if_neg (by omega)]; exact pv k hk
    · rw [if_neg w, if_neg w, if_neg (by decide)]
      exact ⟨qb1, ql1, rfl, lb1, ll1, lv1, fr1⟩
  by_cases z : rs c < 0
  · rw [if_pos z, if_neg (fun w => w.1 z)]
    refine ⟨fun w => (Option.some_ne_none _ w).elim, fun q' w => ?_⟩
    rw [← Option.some.inj w]
    exact ok
  · rw [if_neg z]
    by_cases y : su c = if q.length < C then 1 else 2
    · rw [if_pos y, if_neg (fun w => w.2 y)]
      refine ⟨fun w => (Option.some_ne_none _ w).elim, fun q' w => ?_⟩
      rw [← Option.some.inj w]
      exact ok
    · rw [if_neg y, if_pos ⟨z, y⟩]
      exact ⟨fun _ => rfl, fun q' w => (Option.some_ne_none _ w.symm).elim⟩
theorem own_apD {s : Q} {n C cm d c : Nat} {kd ar rs su rv : Nat → Int32} {pm : Nat → Nat} {qb ql nc ch q : List Int32} (B : own_TB s n C kd ar rs su rv pm cm) (hd : d ≤ 5) (hc : c < n) (lb : qb.length = 56) (ll : ql.length = 7) (hq : own_lv qb ql d q) (k1 : ¬ kd c = 1) : (own_appl C kd ar rs su rv q c = none → j_applyDeq (own_dd s qb ql nc ch) (Int32.ofNat c) (Int32.ofNat d) = some (0, own_dd s qb ql nc ch)) ∧ (∀ q', own_appl C kd ar rs su rv q c = some q' → ∃ qb' ql', j_applyDeq (own_dd s qb ql nc ch) (Int32.ofNat c) (Int32.ofNat d) = some (1, own_dd s qb' ql' nc ch) ∧ qb'.length = 56 ∧ ql'.length = 7 ∧ own_lv qb' ql' (d + 1) q' ∧ (∀ i p, i ≤ d → own_lv qb ql i p → own_lv qb' ql' i p)) := by
  obtain ⟨⟨L1, L2, L3, L4, L5, L6⟩, ⟨n6, C8⟩, eC, eN, eM, T⟩ := B
  obtain ⟨t1, t2, t3, t4, t5, t6⟩ := T c hc
  have f := own_ddf s qb ql nc ch
  have i6 : inb 6 (Int32.ofNat c) = true := own_inbN (by omega) (by decide)
  have i7 : inb 7 (Int32.ofNat d) = true := own_inbN (by omega) (by decide)
  have hl := hq.2.1
  have h8 := hq.1
  have e8 : Int32.ofNat d * 8 = Int32.ofNat (8 * d + 0) := by rw [Nat.add_zero, Int32.ofNat_mul, show Int32.ofNat 8 = 8 from rfl, Int32.mul_comm]
  unfold own_appl
  rw [if_neg k1]
  unfold j_applyDeq j_applyDeq_b21 j_applyDeq_b66 j_applyDeq_b91
  rw [f.2.1, ll, if_pos i7, f.2.2.2.2.2.2.1, L3, if_pos i6, t3, hl, f.2.2.2.2.2.2.2.1, L4, if_pos i6, t4, f.1, lb, f.2.2.2.2.2.2.2.2.1, L5, if_pos i6, t5, e8]
  cases q with
  | nil =>
    obtain ⟨qb1, ql1, e1, lb1, ll1, lv1, fr1⟩ := own_cpy (s := s) (nc := nc) (ch := ch) hd lb ll hq (Nat.zero_le _)
    rw [List.drop_zero] at lv1
    rw [show Int32.ofNat 0 = 0 from rfl] at e1
    rw [if_neg (show ¬ 0 < Int32.ofNat ([] : List Int32).length from by decide), if_pos i6, e1]
    by_cases z : rs c < 0
    · rw [if_pos z, if_pos rfl, if_neg (fun w => w.1 z)]
      refine ⟨fun w => (Option.some_ne_none _ w).elim, fun q' w => ?_⟩
      rw [← Option.some.inj w]
      exact ⟨qb1, ql1, rfl, lb1, ll1, lv1, fr1⟩
    · rw [if_neg z, if_neg (show ¬ (1:Int32) = 0 from by decide)]
      by_cases y : su c = 3
      · rw [if_pos y, if_neg (fun w => w.2 y)]
        refine ⟨fun w => (Option.some_ne_none _ w).elim, fun q' w => ?_⟩
        rw [← Option.some.inj w]
        exact ⟨qb1, ql1, rfl, lb1, ll1, lv1, fr1⟩
      · rw [if_neg y, if_pos ⟨z, y⟩]
        exact ⟨fun _ => rfl, fun q' w => (Option.some_ne_none _ w.symm).elim⟩
  | cons x r =>
    obtain ⟨qb1, ql1, e1, lb1, ll1, lv1, fr1⟩ := own_cpy (s := s) (nc := nc) (ch := ch) (sk := 1) hd lb ll hq (by simp)
    rw [show (x :: r).drop 1 = r from rfl] at lv1
    rw [show Int32.ofNat 1 = 1 from rfl] at e1
    have hx : rd qb (Int32.ofNat (8 * d + 0)) = x := hq.2.2 0 (by simp)
    rw [if_pos (show 0 < Int32.ofNat (x :: r).length from (own_ltN' (x := 0) (by decide) (by omega)).mpr (by simp)), if_pos (own_inbN (by omega) (by decide)), hx, e1]
    by_cases z : rs c < 0
    · rw [if_pos z, if_pos rfl]
      simp only [z, not_true_eq_false, false_and, if_false]
      refine ⟨fun w => (Option.some_ne_none _ w).elim, fun q' w => ?_⟩
      rw [← Option.some.inj w]
      exact ⟨qb1, ql1, rfl, lb1, ll1, lv1, fr1⟩
    · rw [if_neg z, if_neg (show ¬ (1:Int32) = 0 from by decide)]
      by_cases y : su c = 1
      · by_cases y2 : rv c = x
        · rw [if_pos y, if_pos y2]
          simp only [y, y2, not_true_eq_false, or_self, and_false, if_false]
          refine ⟨fun w => (Option.some_ne_none _ w).elim, fun q' w => ?_⟩
          rw [← Option.some.inj w]
          exact ⟨qb1, ql1, rfl, lb1, ll1, lv1, fr1⟩
        · rw [if_pos y, if_neg y2]
          simp only [z, y2, not_false_eq_true, or_true, and_self, if_true]
          exact ⟨fun _ => trivial, fun q' w => (Option.some_ne_none _ w.symm).elim⟩
      · rw [if_neg y]
        simp only [z, y, not_false_eq_true, true_or, and_self, if_true]
        exact ⟨fun _ => trivial, fun q' w => (Option.some_ne_none _ w.symm).elim⟩
theorem own_apl {s : Q} {n C cm d c : Nat} {kd ar rs su rv : Nat → Int32} {pm : Nat → Nat} {qb ql nc ch q : List Int32} (B : own_TB s n C kd ar rs su rv pm cm) (hd : d ≤ 5) (hc : c < n) (lb : qb.length = 56) (ll : ql.length = 7) (hq : own_lv qb ql d q) : (own_appl C kd ar rs su rv q c = none → j_apply (own_dd s qb ql nc ch) (Int32.ofNat c) (Int32.ofNat d) = some (0, own_dd s qb ql nc ch)) ∧ (∀ q', own_appl C kd ar rs su rv q c = some q' → ∃ qb' ql', j_apply (own_dd s qb ql nc ch) (Int32.ofNat c) (Int32.ofNat d) = some (1, own_dd s qb' ql' nc ch) ∧ qb'.length = 56 ∧ ql'.length = 7 ∧ own_lv qb' ql' (d + 1) q' ∧ (∀ i p, i ≤ d → own_lv qb ql i p → own_lv qb' ql' i p)) := by
  have B0 := B
  obtain ⟨⟨L1, _⟩, ⟨n6, C8⟩, _, _, _, T⟩ := B
  have t1 := (T c hc).1
  have f := own_ddf s qb ql nc ch
  have i6 : inb 6 (Int32.ofNat c) = true := own_inbN (by omega) (by decide)
  unfold j_apply
  rw [if_neg (by rw [lt32, own_n2i (by omega)]; simp only [Int32.reduceToInt]; omega), if_neg (by rw [lt32, own_n2i (by omega)]; simp only [Int32.reduceToInt]; omega), if_neg (by rw [lt32, own_n2i (by omega)]; simp only [Int32.reduceToInt]; omega), if_pos (by rw [lt32, own_n2i (by omega)]; simp only [Int32.reduceToInt]; omega), f.2.2.2.2.1, L1, if_pos i6, t1]
  by_cases k1 : kd c = 1
  · rw [if_pos k1]
    obtain ⟨a1, a2⟩ := own_apE (nc := nc) (ch := ch) B0 hd hc lb ll hq k1
    refine ⟨fun w => by rw [a1 w, Option.bind_some, show (0:Int32) &&& 1 = 0 from by decide], fun q' w => ?_⟩
    obtain ⟨qb', ql', e, r⟩ := a2 q' w
    exact ⟨qb', ql', by rw [e, Option.bind_some, show (1:Int32) &&& 1 = 1 from by decide], r⟩
  · rw [if_neg k1]
    obtain ⟨a1, a2⟩ := own_apD (nc := nc) (ch := ch) B0 hd hc lb ll hq k1
    refine ⟨fun w => by rw [a1 w, Option.bind_some, show (0:Int32) &&& 1 = 0 from by decide], fun q' w => ?_⟩
    obtain ⟨qb', ql', e, r⟩ := a2 q' w
    exact ⟨qb', ql', by rw [e, Option.bind_some, show (1:Int32) &&& 1 = 1 from by decide], r⟩

def own_T : Nat → Nat
  | 0 => 13699 | 1 => 2282 | 2 => 455 | 3 => 112 | 4 => 35 | 5 => 14 | 6 => 7 | _ => 0
def own_Uc (k M : Nat) : Nat := ((List.range 6).filter (fun c => decide (k ≤ c) && !(M.testBit c))).length
theorem own_bf : ∀ (M : Fin 64) (c : Fin 6), ((Int32.ofNat M.val &&& ish 1 (Int32.ofNat c.val)) = 0 ↔ M.val.testBit c.val = false) ∧ (M.val.testBit c.val = false → (Int32.ofNat M.val ||| ish 1 (Int32.ofNat c.val)) = Int32.ofNat (M.val + 2 ^ c.val) ∧ M.val + 2 ^ c.val < 64 ∧ (Int32.ofNat (M.val + 2 ^ c.val) &&& (ish 1 (Int32.ofNat c.val) ^^^ (-1))) = Int32.ofNat M.val ∧ own_Uc 0 (M.val + 2 ^ c.val) + 1 = own_Uc 0 M.val ∧ own_Uc c.val M.val = own_Uc (c.val + 1) M.val + 1) ∧ (M.val.testBit c.val = true → own_Uc c.val M.val = own_Uc (c.val + 1) M.val) := by decide +kernel
theorem own_bfn {M c : Nat} (hM : M < 64) (hc : c < 6) : ((Int32.ofNat M &&& ish 1 (Int32.ofNat c)) = 0 ↔ M.testBit c = false) ∧ (M.testBit c = false → (Int32.ofNat M ||| ish 1 (Int32.ofNat c)) = Int32.ofNat (M + 2 ^ c) ∧ M + 2 ^ c < 64 ∧ (Int32.ofNat (M + 2 ^ c) &&& (ish 1 (Int32.ofNat c) ^^^ (-1))) = Int32.ofNat M ∧ own_Uc 0 (M + 2 ^ c) + 1 = own_Uc 0 M ∧ own_Uc c M = own_Uc (c + 1) M + 1) ∧ (M.testBit c = true → own_Uc c M = own_Uc (c + 1) M) := own_bf ⟨M, hM⟩ ⟨c, hc⟩
theorem own_an : ∀ (p M : Fin 64), ((Int32.ofNat p.val &&& Int32.ofNat M.val) = Int32.ofNat p.val ↔ p.val &&& M.val = p.val) ∧ ((Int32.ofNat M.val &&& Int32.ofNat p.val) = Int32.ofNat p.val ↔ p.val &&& M.val = p.val) := by decide +kernel
theorem own_ann {p M : Nat} (hp : p < 64) (hM : M < 64) : ((Int32.ofNat p &&& Int32.ofNat M) = Int32.ofNat p ↔ p &&& M = p) ∧ ((Int32.ofNat M &&& Int32.ofNat p) = Int32.ofNat p ↔ p &&& M = p) := own_an ⟨p, hp⟩ ⟨M, hM⟩
def own_tm (NC M : Nat → Nat) (i : Nat) : Nat := (7 - NC i) + own_Uc (NC i) (M i) * own_T (i + 1)
def own_Pp (NC M : Nat → Nat) : Nat → Nat
  | 0 => 0
  | d + 1 => own_Pp NC M d + own_tm NC M d
theorem own_Ppe {NC NC' M M' : Nat → Nat} : ∀ d, (∀ i, i < d → NC' i = NC i ∧ M' i = M i) → own_Pp NC' M' d = own_Pp NC M d
  | 0, _ => rfl
  | d + 1, h => by
    unfold own_Pp own_tm
    rw [own_Ppe d (fun i hi => h i (by omega)), (h d (by omega)).1, (h d (by omega)).2]
def own_DS (qb ql nc ch : List Int32) (d n C : Nat) (M CH NC : Nat → Nat) (QS : Nat → List Int32) : Prop := (qb.length = 56 ∧ ql.length = 7 ∧ nc.length = 7 ∧ ch.length = 7) ∧ d ≤ 6 ∧ (∀ i, i ≤ d → rd nc (Int32.ofNat i) = Int32.ofNat (NC i) ∧ NC i ≤ n ∧ own_lv qb ql i (QS i) ∧ M i < 64 ∧ own_Uc 0 (M i) = 6 - i) ∧ (∀ i, i < d → rd ch (Int32.ofNat i) = Int32.ofNat (CH i) ∧ CH i < n ∧ (M i).testBit (CH i) = false ∧ M (i + 1) = M i + 2 ^ CH i)
/-- a way through the table -/
def own_PT (n C : Nat) (kd ar rs su rv : Nat → Int32) (pm : Nat → Nat) (cm m : Nat) (L LM : Nat → Nat) (LQ : Nat → List Int32) : Prop := (∀ i, i < m → L i < n ∧ (LM i).testBit (L i) = false ∧ pm (L i) &&& LM i = pm (L i) ∧ own_appl C kd ar rs su rv (LQ i) (L i) = some (LQ (i + 1)) ∧ LM (i + 1) = LM i + 2 ^ L i) ∧ cm &&& LM m = cm ∧ cm < 64 ∧ ∀ o, o < n → pm o < 64
theorem own_dfs {s : Q} {n C cm m : Nat} {kd ar rs su rv : Nat → Int32} {pm L LM : Nat → Nat} {LQ : Nat → List Int32} (B : own_TB s n C kd ar rs su rv pm cm) (P : own_PT n C kd ar rs su rv pm cm m L LM LQ) : ∀ (N v d : Nat) (qb ql nc ch : List Int32) (M CH NC : Nat → Nat) (QS : Nat → List Int32), own_DS qb ql nc ch d n C M CH NC QS → own_Pp NC M (d + 1) < N → v + own_Pp NC M (d + 1) ≤ 14000 → (∃ j, j ≤ d ∧ j < m ∧ M j = LM j ∧ QS j = LQ j ∧ NC j ≤ L j) → ∃ qb' ql' nc' ch', j_search_l66 N (own_dd s qb ql nc ch) (Int32.ofNat d) (Int32.ofNat (M d)) (Int32.ofNat v) = some (.inr (.inl (own_dd s qb' ql' nc' ch')))
  | 0, v, d, qb, ql, nc, ch, M, CH, NC, QS, D, h1, h2, G => by omega
  | N + 1, v, d, qb, ql, nc, ch, M, CH, NC, QS, D, h1, h2, G => by
    have D0 := D
    have B0 := B
    obtain ⟨⟨l1, l2, l3, l4⟩, d6, Di, Dc⟩ := D
    obtain ⟨Bl, ⟨n6, C8⟩, eC, eN, eM, Bt⟩ := B
    obtain ⟨Pi, Pc, cm6, pm6⟩ := P
    obtain ⟨j, j1, j2, j3, j4, j5⟩ := G
    obtain ⟨dn, dN, dv, dM, dU⟩ := Di d (Nat.le_refl d)
    have f := own_ddf s qb ql nc ch
    have i7 : inb 7 (Int32.ofNat d) = true := own_inbN (by omega) (by decide)
    have jn := (Pi j j2).1
    rw [j_search_l66, if_pos (show Int32.ofNat v < 200000 from (own_ltN' (y := 200000) (by omega) (by decide)).mpr (by omega)), f.2.2.1, l3, if_pos i7, dn, f.2.2.2.2.2.2.2.2.2.2.2.1, eN]
    by_cases c : NC d < n
    · rw [if_pos ((own_ltN' (by omega) (by omega)).mpr c), if_pos (show Int32.ofNat (NC d) < 6 from (own_ltN' (y := 6) (by omega) (by decide)).mpr (by omega)), if_pos i7]
      obtain ⟨b1, b2, b3⟩ := own_bfn (M := M d) (c := NC d) dM (by omega)
      have i6 : inb 6 (Int32.ofNat (NC d)) = true := own_inbN (by omega) (by decide)
      rw [f.2.2.2.2.2.2.2.2.2.1, Bl.2.2.2.2.2, if_pos i6, if_pos i6, (Bt (NC d) c).2.2.2.2.2, own_succ]
      -- the state with the next candidate
      have e1 : Q.mk (own_dd s qb ql nc ch).f0 (own_dd s qb ql nc ch).f1 (own_dd s qb ql nc ch).f2 (own_dd s qb ql nc ch).f3 (own_dd s qb ql nc ch).f4 (own_dd s qb ql nc ch).f5 (own_dd s qb ql nc ch).f6 (own_dd s qb ql nc ch).f7 (own_dd s qb ql nc ch).f8 (own_dd s qb ql nc ch).f9 (own_dd s qb ql nc ch).f10 (own_dd s qb ql nc ch).f11 (own_dd s qb ql nc ch).f12 (own_dd s qb ql nc ch).f13 (own_dd s qb ql nc ch).f14 (own_dd s qb ql nc ch).f15 (own_dd s qb ql nc ch).f16 (own_dd s qb ql nc ch).f17 s.f18 (own_dd s qb ql nc ch).f19 (own_dd s qb ql nc ch).f20 (own_dd s qb ql nc ch).f21 (wr nc (Int32.ofNat d) (Int32.ofNat (NC d + 1))) (own_dd s qb ql nc ch).f23 (own_dd s qb ql nc ch).f24 (own_dd s qb ql nc ch).f25 (own_dd s qb ql nc ch).f26 (own_dd s qb ql nc ch).f27 (own_dd s qb ql nc ch).f28 (own_dd s qb ql nc ch).f29 (own_dd s qb ql nc ch).f30 (Int32.ofNat n) (own_dd s qb ql nc ch).f32 = own_dd s qb ql (wr nc (Int32.ofNat d) (Int32.ofNat (NC d + 1))) ch := by
        rw [← eN]; unfold own_dd; simp only [own_Qa]
      rw [e1]
      have D1 : own_DS qb ql (wr nc (Int32.ofNat d) (Int32.ofNat (NC d + 1))) ch d n C M CH (own_u NC d (NC d + 1)) QS := by
        refine ⟨⟨l1, l2, by rw [len_wr]; exact l3, l4⟩, d6, fun i hi => ?_, Dc⟩
        obtain ⟨a1, a2, a3⟩ := Di i hi
        rw [own_gw l3 (by decide) (by omega) (by omega)]
        by_cases z : i = d
        · subst z; rw [if_pos rfl, own_u_t]; exact ⟨rfl, by omega, a3⟩
        · rw [if_neg z, own_u_n z]; exact ⟨a1, a2, a3⟩
      have p0 : own_Pp (own_u NC d (NC d + 1)) M d = own_Pp NC M d := own_Ppe d (fun i hi => ⟨own_u_n (by omega), rfl⟩)
      have pT : own_Pp NC M (d + 1) = own_Pp NC M d + ((7 - NC d) + own_Uc (NC d) (M d) * own_T (d + 1)) := rfl
      have pT' : own_Pp (own_u NC d (NC d + 1)) M (d + 1) = own_Pp NC M d + ((7 - (NC d + 1)) + own_Uc (NC d + 1) (M d) * own_T (d + 1)) := by
        show own_Pp (own_u NC d (NC d + 1)) M d + own_tm (own_u NC d (NC d + 1)) M d = _
        rw [p0]; unfold own_tm; rw [own_u_t]
      -- going on at this level
      have cont : own_Pp (own_u NC d (NC d + 1)) M (d + 1) + 1 ≤ own_Pp NC M (d + 1) → (j = d → NC d < L j) → ∃ qb' ql' nc' ch', j_search_b215 (j_search_l66 N) (own_dd s qb ql (wr nc (Int32.ofNat d) (Int32.ofNat (NC d + 1))) ch) (Int32.ofNat d) (Int32.ofNat (M d)) (Int32.ofNat v) = some (.inr (.inl (own_dd s qb' ql' nc' ch'))) := by
        intro w1 w2
        unfold j_search_b215
        rw [own_succ]
        refine own_dfs B0 ⟨Pi, Pc, cm6, pm6⟩ N (v + 1) d qb ql _ ch M CH _ QS D1 (by omega) (by omega) ⟨j, j1, j2, j3, j4, ?_⟩
        by_cases z : j = d
        · rw [z, own_u_t]; have := w2 z; rw [z] at this; omega
        · rw [own_u_n z]; exact j5
      by_cases pl : (M d).testBit (NC d) = true
      · rw [if_neg (fun w => by have := b1.mp w; rw [pl] at this; exact absurd this (by decide))]
        refine cont (by rw [pT, pT', b3 pl]; omega) (fun z => ?_)
        have : ¬ NC d = L j := fun w => by
          have := (Pi j j2).2.1
          rw [← w, ← j3, z, pl] at this
          exact absurd this (by decide)
        rw [z] at j5 this ⊢
        omega
      · have pl' : (M d).testBit (NC d) = false := by cases h : (M d).testBit (NC d) with
          | true => exact absurd h pl
          | false => rfl
        obtain ⟨c1, c2, c3, c4, c5⟩ := b2 pl'
        have d5 : d ≤ 5 := by omega
        rw [if_pos (b1.mpr pl')]
        have pmc := pm6 (NC d) c
        have less : own_Pp (own_u NC d (NC d + 1)) M (d + 1) + 1 + own_T (d + 1) ≤ own_Pp NC M (d + 1) := by
          rw [pT, pT', c5, Nat.add_mul]; omega
        by_cases pr : pm (NC d) &&& M d = pm (NC d)
        · rw [if_pos ((own_ann pmc dM).1.mpr pr)]
          obtain ⟨A1, A2⟩ := own_apl (nc := wr nc (Int32.ofNat d) (Int32.ofNat (NC d + 1))) (ch := ch) B0 d5 c l1 l2 dv
          cases ap : own_appl C kd ar rs su rv (QS d) (NC d) with
          | none =>
            rw [A1 ap, Option.bind_some, if_pos rfl]
            refine cont (by omega) (fun z => ?_)
            have : ¬ NC d = L j := fun w => by
              have := (Pi j j2).2.2.2.1
              rw [← w, ← j4, z, ap] at this
              exact absurd this (by simp)
            rw [z] at j5 this ⊢
            omega
          | some q' =>
            obtain ⟨qb1, ql1, e2, lb1, ll1, lv1, fr1⟩ := A2 q' ap
            rw [e2, Option.bind_some, if_neg (show ¬ (1:Int32) = 0 from by decide)]
            dsimp only
            have f1 := own_ddf s qb1 ql1 (wr nc (Int32.ofNat d) (Int32.ofNat (NC d + 1))) ch
            rw [f1.2.2.2.1, l4, if_pos i7, f1.2.2.1, len_wr, l3, own_succ d, if_pos (own_inbN (by omega) (by decide)), f1.2.2.2.2.2.2.2.2.2.2.2.2, eM, c1]
            have e3 : ∀ nx cx : List Int32, Q.mk (own_dd s qb1 ql1 (wr nc (Int32.ofNat d) (Int32.ofNat (NC d + 1))) ch).f0 (own_dd s qb1 ql1 (wr nc (Int32.ofNat d) (Int32.ofNat (NC d + 1))) ch).f1 (own_dd s qb1 ql1 (wr nc (Int32.ofNat d) (Int32.ofNat (NC d + 1))) ch).f2 (own_dd s qb1 ql1 (wr nc (Int32.ofNat d) (Int32.ofNat (NC d + 1))) ch).f3 (own_dd s qb1 ql1 (wr nc (Int32.ofNat d) (Int32.ofNat (NC d + 1))) ch).f4 (own_dd s qb1 ql1 (wr nc (Int32.ofNat d) (Int32.ofNat (NC d + 1))) ch).f5 (own_dd s qb1 ql1 (wr nc (Int32.ofNat d) (Int32.ofNat (NC d + 1))) ch).f6 (own_dd s qb1 ql1 (wr nc (Int32.ofNat d) (Int32.ofNat (NC d + 1))) ch).f7 (own_dd s qb1 ql1 (wr nc (Int32.ofNat d) (Int32.ofNat (NC d + 1))) ch).f8 (own_dd s qb1 ql1 (wr nc (Int32.ofNat d) (Int32.ofNat (NC d + 1))) ch).f9 (own_dd s qb1 ql1 (wr nc (Int32.ofNat d) (Int32.ofNat (NC d + 1))) ch).f10 (own_dd s qb1 ql1 (wr nc (Int32.ofNat d) (Int32.ofNat (NC d + 1))) ch).f11 (own_dd s qb1 ql1 (wr nc (Int32.ofNat d) (Int32.ofNat (NC d + 1))) ch).f12 (own_dd s qb1 ql1 (wr nc (Int32.ofNat d) (Int32.ofNat (NC d + 1))) ch).f13 (own_dd s qb1 ql1 (wr nc (Int32.ofNat d) (Int32.ofNat (NC d + 1))) ch).f14 (own_dd s qb1 ql1 (wr nc (Int32.ofNat d) (Int32.ofNat (NC d + 1))) ch).f15 (own_dd s qb1 ql1 (wr nc (Int32.ofNat d) (Int32.ofNat (NC d + 1))) ch).f16 (own_dd s qb1 ql1 (wr nc (Int32.ofNat d) (Int32.ofNat (NC d + 1))) ch).f17 (own_dd s qb1 ql1 (wr nc (Int32.ofNat d) (Int32.ofNat (NC d + 1))) ch).f18 (own_dd s qb1 ql1 (wr nc (Int32.ofNat d) (Int32.ofNat (NC d + 1))) ch).f19 (own_dd s qb1 ql1 (wr nc (Int32.ofNat d) (Int32.ofNat (NC d + 1))) ch).f20 (own_dd s qb1 ql1 (wr nc (Int32.ofNat d) (Int32.ofNat (NC d + 1))) ch).f21 nx cx (own_dd s qb1 ql1 (wr nc (Int32.ofNat d) (Int32.ofNat (NC d + 1))) ch).f24 (own_dd s qb1 ql1 (wr nc (Int32.ofNat d) (Int32.ofNat (NC d + 1))) ch).f25 (own_dd s qb1 ql1 (wr nc (Int32.ofNat d) (Int32.ofNat (NC d + 1))) ch).f26 (own_dd s qb1 ql1 (wr nc (Int32.ofNat d) (Int32.ofNat (NC d + 1))) ch).f27 (own_dd s qb1 ql1 (wr nc (Int32.ofNat d) (Int32.ofNat (NC d + 1))) ch).f28 (own_dd s qb1 ql1 (wr nc (Int32.ofNat d) (Int32.ofNat (NC d + 1))) ch).f29 (own_dd s qb1 ql1 (wr nc (Int32.ofNat d) (Int32.ofNat (NC d + 1))) ch).f30 (own_dd s qb1 ql1 (wr nc (Int32.ofNat d) (Int32.ofNat (NC d + 1))) ch).f31 (Int32.ofNat cm) = own_dd s qb1 ql1 nx cx := by
              intro nx cx
              rw [← eM]; unfold own_dd; simp only [own_Qa]
            rw [e3]
            by_cases yes : (Int32.ofNat (M d + 2 ^ NC d) &&& Int32.ofNat cm) = Int32.ofNat cm
            · rw [if_pos yes]; exact ⟨_, _, _, _, rfl⟩
            · rw [if_neg yes]
              unfold j_search_b215
              rw [own_succ v]
              -- the next level
              have D2 : own_DS qb1 ql1 (wr (wr nc (Int32.ofNat d) (Int32.ofNat (NC d + 1))) (Int32.ofNat (d + 1)) 0) (wr ch (Int32.ofNat d) (Int32.ofNat (NC d))) (d + 1) n C (own_u M (d + 1) (M d + 2 ^ NC d)) (own_u CH d (NC d)) (own_u (own_u NC d (NC d + 1)) (d + 1) 0) (own_u QS (d + 1) q') := by
                refine ⟨⟨lb1, ll1, by rw [len_wr, len_wr]; exact l3, by rw [len_wr]; exact l4⟩, by omega, fun i hi => ?_, fun i hi => ?_⟩
                · rw [own_gw (n := 7) (by rw [len_wr]; exact l3) (by decide) (by omega) (by omega)]
                  by_cases z : i = d + 1
                  · subst z
                    rw [if_pos rfl, own_u_t, own_u_t, own_u_t]
                    exact ⟨rfl, by omega, lv1, c2, by omega⟩
                  · obtain ⟨a1, a2, a3, a4, a5⟩ := D1.2.2.1 i (by omega)
                    rw [if_neg z, own_u_n z, own_u_n z, own_u_n z]
                    exact ⟨a1, a2, fr1 i _ (by omega) a3, a4, a5⟩
                · rw [own_gw l4 (by decide) (by omega) (by omega)]
                  by_cases z : i = d
                  · subst z
                    rw [if_pos rfl, own_u_t, own_u_n (show ¬ i = i + 1 by omega), own_u_t]
                    exact ⟨rfl, c, pl', rfl⟩
                  · rw [if_neg z, own_u_n z, own_u_n (show ¬ i = d + 1 by omega), own_u_n (show ¬ i + 1 = d + 1 by omega)]
                    exact Dc i (by omega)
              have p2 : own_Pp (own_u (own_u NC d (NC d + 1)) (d + 1) 0) (own_u M (d + 1) (M d + 2 ^ NC d)) (d + 1) = own_Pp (own_u NC d (NC d + 1)) M (d + 1) := own_Ppe (d + 1) (fun i hi => ⟨own_u_n (by omega), own_u_n (by omega)⟩)
              have p3 : own_Pp (own_u (own_u NC d (NC d + 1)) (d + 1) 0) (own_u M (d + 1) (M d + 2 ^ NC d)) (d + 1 + 1) ≤ own_Pp (own_u NC d (NC d + 1)) M (d + 1) + own_T (d + 1) := by
                show own_Pp _ _ (d + 1) + own_tm _ _ (d + 1) ≤ _
                rw [p2]
                unfold own_tm
                rw [own_u_t, own_u_t]
                have hU : own_Uc 0 (M d + 2 ^ NC d) = 5 - d := by omega
                rw [hU]
                have : ∀ x : Fin 6, 7 - 0 + (5 - x.val) * own_T (x.val + 1 + 1) ≤ own_T (x.val + 1) := by decide
                have := this ⟨d, by omega⟩
                simp only at this
                omega
              have g2 : ∃ j, j ≤ d + 1 ∧ j < m ∧ (own_u M (d + 1) (M d + 2 ^ NC d)) j = LM j ∧ (own_u QS (d + 1) q') j = LQ j ∧ (own_u (own_u NC d (NC d + 1)) (d + 1) 0) j ≤ L j := by
                by_cases z : j = d
                · subst z
                  by_cases w : NC j = L j
                  · obtain ⟨x1, x2, x3, x4, x5⟩ := Pi j j2
                    have hM : M j + 2 ^ NC j = LM (j + 1) := by rw [x5, j3, w]
                    have hm : j + 1 < m := by
                      apply Classical.byContradiction
                      intro h
                      have : m = j + 1 := by omega
                      apply yes
                      rw [hM, ← this]
                      refine (own_ann cm6 ?_).2.mpr Pc
                      rw [this, ← hM]; exact c2
                    refine ⟨j + 1, Nat.le_refl _, hm, by rw [own_u_t]; exact hM, ?_, by rw [own_u_t]; omega⟩
                    rw [own_u_t]
                    rw [← w, ← j4, ap] at x4
                    exact Option.some.inj x4
                  · refine ⟨j, by omega, j2, by rw [own_u_n (by omega)]; exact j3, by rw [own_u_n (by omega)]; exact j4, by rw [own_u_n (by omega), own_u_t]; omega⟩
                · exact ⟨j, by omega, j2, by rw [own_u_n (by omega)]; exact j3, by rw [own_u_n (by omega)]; exact j4, by rw [own_u_n (by omega), own_u_n z]; exact j5⟩
              have := own_dfs B0 ⟨Pi, Pc, cm6, pm6⟩ N (v + 1) (d + 1) qb1 ql1 _ _ _ _ _ _ D2 (by omega) (by omega) g2
              rw [own_u_t] at this
              exact this
        · rw [if_neg (fun w => pr ((own_ann pmc dM).1.mp w))]
          refine cont (by omega) (fun z => ?_)
          have : ¬ NC d = L j := fun w => by
            have := (Pi j j2).2.2.1
            rw [← w, ← j3, z] at this
            exact pr this
          rw [z] at j5 this ⊢
          omega
    · rw [if_neg (fun w => c ((own_ltN' (by omega) (by omega)).mp w))]
      unfold j_search_b96 j_search_b215
      have jd : ¬ j = d := fun w => by rw [w] at j5 jn; omega
      obtain ⟨e, rfl⟩ : ∃ e, d = e + 1 := ⟨d - 1, by omega⟩
      obtain ⟨x1, x2, x3, x4⟩ := Dc e (by omega)
      have i7' : inb 7 (Int32.ofNat e) = true := own_inbN (by omega) (by decide)
      have bb := ((own_bfn (M := M e) (c := CH e) (Di e (by omega)).2.2.2.1 (by omega)).2.1 x3).2.2.1
      rw [if_neg (show ¬ Int32.ofNat (e + 1) = 0 from fun w => by have := (own_eqN (y := 0) (by omega) (by decide)).mp w; omega), own_sub1, f.2.2.2.1, l4, if_pos i7', x1, x4, bb, own_succ]
      have pp : own_Pp NC M (e + 1 + 1) = own_Pp NC M (e + 1) + ((7 - NC (e + 1)) + own_Uc (NC (e + 1)) (M (e + 1)) * own_T (e + 1 + 1)) := rfl
      exact own_dfs B0 ⟨Pi, Pc, cm6, pm6⟩ N (v + 1) e qb ql nc ch M CH NC QS ⟨⟨l1, l2, l3, l4⟩, by omega, fun i hi => Di i (by omega), fun i hi => Dc i (by omega)⟩ (by omega) (by omega) ⟨j, by omega, j2, j3, j4, j5⟩

/-- what a check leaves alone -/
def own_same (s s' : Q) : Prop := (s'.f0 = s.f0 ∧ s'.f1 = s.f1 ∧ s'.f2 = s.f2 ∧ s'.f3 = s.f3 ∧ s'.f4 = s.f4 ∧ s'.f5 = s.f5 ∧ s'.f6 = s.f6 ∧ s'.f7 = s.f7 ∧ s'.f8 = s.f8 ∧ s'.f9 = s.f9 ∧ s'.f10 = s.f10 ∧ s'.f11 = s.f11) ∧ s'.f24 = s.f24 ∧ s'.f25 = s.f25 ∧ s'.f26 = s.f26 ∧ s'.f27 = s.f27 ∧ s'.f28 = s.f28 ∧ s'.f29 = s.f29 ∧ s'.f30 = s.f30
theorem own_same_r (s : Q) : own_same s s := by unfold own_same; simp only [and_self]
theorem own_same_t {p q r : Q} (h : own_same p q) (g : own_same q r) : own_same p r := by
  unfold own_same at *
  simp only [g, h, and_self]
theorem own_same_dd (s : Q) (qb ql nc ch : List Int32) : own_same s (own_dd s qb ql nc ch) := by
  unfold own_same own_dd
  simp only [own_Qa, and_self]
/-- the lengths of the check's own arrays -/
def own_SL (s : Q) : Prop := s.f12.length = 6 ∧ s.f13.length = 6 ∧ s.f14.length = 6 ∧ s.f15.length = 6 ∧ s.f16.length = 6 ∧ s.f17.length = 6 ∧ s.f18.length = 6 ∧ s.f19.length = 4 ∧ s.f20.length = 56 ∧ s.f21.length = 7 ∧ s.f22.length = 7 ∧ s.f23.length = 7
theorem own_SL_dd {s : Q} {qb ql nc ch : List Int32} (h : own_SL s) (h1 : qb.length = 56) (h2 : ql.length = 7) (h3 : nc.length = 7) (h4 : ch.length = 7) : own_SL (own_dd s qb ql nc ch) := by
  unfold own_SL own_dd at *
  simp only [own_Qa, h, h1, h2, h3, h4, and_self]
theorem own_s21 {s : Q} {ql nc ch q0 : List Int32} (h8 : q0.length ≤ 8) (ls : s.f11.length = 8) (el : s.f30 = Int32.ofNat q0.length) (ev : ∀ k, k < q0.length → rd s.f11 (Int32.ofNat k) = q0.getD k 0) : ∀ (r N k : Nat) (qk : List Int32), q0.length - k = r → r < N → k ≤ q0.length → qk.length = 56 → (∀ j, j < k → rd qk (Int32.ofNat j) = q0.getD j 0) → ∃ q', j_search_l21 N (own_dd s qk ql nc ch) (Int32.ofNat k) = some (own_dd s q' ql nc ch) ∧ q'.length = 56 ∧ ∀ j, j < q0.length → rd q' (Int32.ofNat j) = q0.getD j 0 := by
  intro r
  have fs : ∀ qk, (own_dd s qk ql nc ch).f11 = s.f11 ∧ (own_dd s qk ql nc ch).f30 = s.f30 := by
    intro qk; unfold own_dd; simp only [own_Qa, and_self]
  induction r with
  | zero =>
    intro N k qk h1 h2 h3 l g
    obtain ⟨N, rfl⟩ : ∃ m, N = m + 1 := ⟨N - 1, by omega⟩
    have : k = q0.length := by omega
    subst this
    refine ⟨qk, ?_, l, g⟩
    rw [j_search_l21, (fs qk).2, el, if_neg (show ¬ Int32.ofNat q0.length < Int32.ofNat q0.length from fun q => by have := (own_ltN' (by omega) (by omega)).mp q; omega)]
    split <;> rfl
  | succ r ih =>
    intro N k qk h1 h2 h3 l g
    obtain ⟨N, rfl⟩ : ∃ m, N = m + 1 := ⟨N - 1, by omega⟩
    obtain ⟨q', e, l', a⟩ := ih N (k + 1) (wr qk (Int32.ofNat k) (rd s.f11 (Int32.ofNat k))) (by omega) (by omega) (by omega) (by rw [len_wr]; exact l) (fun j hj => by
      rw [own_gw l (by decide) (by omega) (by omega)]
      by_cases c : j = k
      · subst c; rw [if_pos rfl]; exact ev j (by omega)
      · rw [if_neg c]; exact g j (by omega))
    refine ⟨q', ?_, l', a⟩
    have f := own_ddf s qk ql nc ch
    rw [j_search_l21, (fs qk).2, el, if_pos (show Int32.ofNat k < 8 from (own_ltN' (y := 8) (by omega) (by decide)).mpr (by omega)), if_pos ((own_ltN' (by omega) (by omega)).mpr (by omega)), (fs qk).1, ls, if_pos (own_inbN (by omega) (by decide)), f.1, l, if_pos (own_inbN (by omega) (by decide)), own_succ, ← e]
    rw [← el]
    unfold own_dd; simp only [own_Qa]
theorem own_sea {s : Q} {n C cm m : Nat} {kd ar rs su rv : Nat → Int32} {pm L LM : Nat → Nat} {LQ : Nat → List Int32} {q0 : List Int32} (B : own_TB s n C kd ar rs su rv pm cm) (P : own_PT n C kd ar rs su rv pm cm m L LM LQ) (SL : own_SL s) (hM : LM 0 = 0) (hQ : LQ 0 = q0) (hC : q0.length ≤ C) (ls : s.f11.length = 8) (el : s.f30 = Int32.ofNat q0.length) (ev : ∀ k, k < q0.length → rd s.f11 (Int32.ofNat k) = q0.getD k 0) : ∃ s', j_search s = some (1, s') ∧ own_same s s' := by
  have C8 := B.2.1.2
  unfold j_search
  rw [B.2.2.2.2.1]
  by_cases c0 : cm = 0
  · rw [if_pos (by rw [c0]; rfl)]
    exact ⟨s, rfl, own_same_r s⟩
  · have cm6 := P.2.2.1
    rw [if_neg (show ¬ Int32.ofNat cm = 0 from fun w => c0 ((own_eqN (y := 0) (by omega) (by decide)).mp w))]
    have m0 : 0 < m := by
      apply Nat.pos_of_ne_zero
      intro h
      have := P.2.1
      rw [h, hM, Nat.and_zero] at this
      exact c0 this.symm
    obtain ⟨_, _, _, _, _, _, _, _, s1, s2, s3, s4⟩ := SL
    rw [s2, if_pos (show inb 7 0 = true from rfl)]
    have e0 : Q.mk s.f0 s.f1 s.f2 s.f3 s.f4 s.f5 s.f6 s.f7 s.f8 s.f9 s.f10 s.f11 s.f12 s.f13 s.f14 s.f15 s.f16 s.f17 s.f18 s.f19 s.f20 (wr s.f21 0 s.f30) s.f22 s.f23 s.f24 s.f25 s.f26 s.f27 s.f28 s.f29 s.f30 s.f31 (Int32.ofNat cm) = own_dd s s.f20 (wr s.f21 0 s.f30) s.f22 s.f23 := by
      rw [← B.2.2.2.2.1]; unfold own_dd; simp only [own_Qa]
    rw [e0]
    obtain ⟨q', e1, l', a⟩ := own_s21 (s := s) (ql := wr s.f21 0 s.f30) (nc := s.f22) (ch := s.f23) (q0 := q0) (by omega) ls el ev q0.length 3000 0 s.f20 (by omega) (by omega) (by omega) s1 (fun j hj => by omega)
    rw [show Int32.ofNat 0 = 0 from rfl] at e1
    rw [e1, Option.bind_some]
    have f := own_ddf s q' (wr s.f21 0 s.f30) s.f22 s.f23
    have e2 : Q.mk (own_dd s q' (wr s.f21 0 s.f30) s.f22 s.f23).f0 (own_dd s q' (wr s.f21 0 s.f30) s.f22 s.f23).f1 (own_dd s q' (wr s.f21 0 s.f30) s.f22 s.f23).f2 (own_dd s q' (wr s.f21 0 s.f30) s.f22 s.f23).f3 (own_dd s q' (wr s.f21 0 s.f30) s.f22 s.f23).f4 (own_dd s q' (wr s.f21 0 s.f30) s.f22 s.f23).f5 (own_dd s q' (wr s.f21 0 s.f30) s.f22 s.f23).f6 (own_dd s q' (wr s.f21 0 s.f30) s.f22 s.f23).f7 (own_dd s q' (wr s.f21 0 s.f30) s.f22 s.f23).f8 (own_dd s q' (wr s.f21 0 s.f30) s.f22 s.f23).f9 (own_dd s q' (wr s.f21 0 s.f30) s.f22 s.f23).f10 (own_dd s q' (wr s.f21 0 s.f30) s.f22 s.f23).f11 (own_dd s q' (wr s.f21 0 s.f30) s.f22 s.f23).f12 (own_dd s q' (wr s.f21 0 s.f30) s.f22 s.f23).f13 (own_dd s q' (wr s.f21 0 s.f30) s.f22 s.f23).f14 (own_dd s q' (wr s.f21 0 s.f30) s.f22 s.f23).f15 (own_dd s q' (wr s.f21 0 s.f30) s.f22 s.f23).f16 (own_dd s q' (wr s.f21 0 s.f30) s.f22 s.f23).f17 (own_dd s q' (wr s.f21 0 s.f30) s.f22 s.f23).f18 (own_dd s q' (wr s.f21 0 s.f30) s.f22 s.f23).f19 (own_dd s q' (wr s.f21 0 s.f30) s.f22 s.f23).f20 (own_dd s q' (wr s.f21 0 s.f30) s.f22 s.f23).f21 (wr (own_dd s q' (wr s.f21 0 s.f30) s.f22 s.f23).f22 0 0) (own_dd s q' (wr s.f21 0 s.f30) s.f22 s.f23).f23 (own_dd s q' (wr s.f21 0 s.f30) s.f22 s.f23).f24 (own_dd s q' (wr s.f21 0 s.f30) s.f22 s.f23).f25 (own_dd s q' (wr s.f21 0 s.f30) s.f22 s.f23).f26 (own_dd s q' (wr s.f21 0 s.f30) s.f22 s.f23).f27 (own_dd s q' (wr s.f21 0 s.f30) s.f22 s.f23).f28 (own_dd s q' (wr s.f21 0 s.f30) s.f22 s.f23).f29 (own_dd s q' (wr s.f21 0 s.f30) s.f22 s.f23).f30 (own_dd s q' (wr s.f21 0 s.f30) s.f22 s.f23).f31 (own_dd s q' (wr s.f21 0 s.f30) s.f22 s.f23).f32 = own_dd s q' (wr s.f21 0 s.f30) (wr s.f22 0 0) s.f23 := by
      unfold own_dd; simp only [own_Qa]
    rw [e2, f.2.2.1, s3, if_pos (show inb 7 0 = true from rfl)]
    have D : own_DS q' (wr s.f21 0 s.f30) (wr s.f22 0 0) s.f23 0 n C (fun _ => 0) (fun _ => 0) (fun _ => 0) (fun _ => q0) := by
      refine ⟨⟨l', by rw [len_wr]; exact s2, by rw [len_wr]; exact s3, s4⟩, by omega, fun i hi => ?_, fun i hi => by omega⟩
      have : i = 0 := by omega
      subst this
      have r1 : rd (wr s.f22 0 0) 0 = 0 := rd_wr_same (by rw [s3]; rfl) _
      have r2 : rd (wr s.f21 0 s.f30) 0 = s.f30 := rd_wr_same (by rw [s2]; rfl) _
      refine ⟨r1, Nat.zero_le _, ⟨show q0.length ≤ 8 by omega, ?_, fun k hk => ?_⟩, by decide, by decide⟩
      · rw [← el]; exact r2
      · rw [show 8 * 0 + k = k by omega]; exact a k hk
    obtain ⟨qb', ql', nc', ch', e3⟩ := own_dfs B P 200010 0 0 _ _ _ _ _ _ _ _ D (by decide) (by decide) ⟨0, Nat.le_refl 0, m0, hM.symm, hQ.symm, Nat.zero_le _⟩
    rw [show Int32.ofNat 0 = 0 from rfl] at e3
    rw [e3, Option.bind_some]
    exact ⟨_, rfl, own_same_dd _ _ _ _ _⟩

/-! ## histories -/
abbrev own_EV : Type := Nat × Nat × Int32
abbrev own_PS : Type := Nat × (Nat → Nat × Int32 × Nat) × (Nat → Option (Nat × Int32 × Int32)) × (Nat → Option Nat)
def own_stt (k : Nat) : Int32 := if k = 4 then 2 else if k = 5 then 3 else 1
def own_psS (i : Nat) (p : own_PS) (e : own_EV) : own_PS :=
  if e.1 ≤ 2 then (p.1 + 1, own_u p.2.1 p.1 (e.1, e.2.2, i), own_u p.2.2.1 p.1 none, own_u p.2.2.2 e.2.1 (some p.1))
  else match p.2.2.2 e.2.1 with
    | none => p
    | some o => (p.1, p.2.1, own_u p.2.2.1 o (some (i, own_stt e.1, e.2.2)), own_u p.2.2.2 e.2.1 none)
def own_pr (H : Nat → own_EV) : Nat → own_PS
  | 0 => (0, fun _ => (0, 0, 0), fun _ => none, fun _ => none)
  | i + 1 => own_psS i (own_pr H i) (H i)
theorem own_pr_e {H H' : Nat → own_EV} : ∀ i, (∀ j, j < i → H' j = H j) → own_pr H' i = own_pr H i
  | 0, _ => rfl
  | i + 1, h => by
    unfold own_pr
    rw [own_pr_e i (fun j hj => h j (by omega)), h i (by omega)]
theorem own_pr_a (H : Nat → own_EV) (h : Nat) (e : own_EV) : own_pr (own_u H h e) (h + 1) = own_psS h (own_pr H h) e := by
  rw [own_pr, own_u_t, own_pr_e h (fun j hj => own_u_n (by omega))]
theorem own_pr_m (H : Nat → own_EV) (i : Nat) : (own_pr H i).1 ≤ (own_pr H (i + 1)).1 ∧ (own_pr H (i + 1)).1 = (own_pr H i).1 + (if (H i).1 ≤ 2 then 1 else 0) := by
  rw [own_pr]
  unfold own_psS
  by_cases c : (H i).1 ≤ 2
  · rw [if_pos c, if_pos c]; exact ⟨Nat.le_succ _, rfl⟩
  · rw [if_neg c, if_neg c]
    cases (own_pr H i).2.2.2 (H i).2.1 with
    | none => exact ⟨Nat.le_refl _, rfl⟩
    | some o => exact ⟨Nat.le_refl _, rfl⟩
theorem own_pr_mm (H : Nat → own_EV) (i : Nat) : ∀ j, (own_pr H i).1 ≤ (own_pr H (i + j)).1
  | 0 => Nat.le_refl _
  | j + 1 => Nat.le_trans (own_pr_mm H i j) (own_pr_m H (i + j)).1
/-- open operations are in the table -/
theorem own_pr_o (H : Nat → own_EV) : ∀ i t o, (own_pr H i).2.2.2 t = some o → o < (own_pr H i).1
  | 0, t, o, h => by simp [own_pr] at h
  | i + 1, t, o, h => by
    have ih := own_pr_o H i
    rw [own_pr] at h ⊢
    unfold own_psS at h ⊢
    by_cases c : (H i).1 ≤ 2
    · rw [if_pos c] at h ⊢
      dsimp only at h ⊢
      by_cases z : t = (H i).2.1
      · rw [z, own_u_t] at h
        have := Option.some.inj h
        omega
      · rw [own_u_n z] at h
        have := ih t o h
        omega
    · rw [if_neg c] at h ⊢
      cases q : (own_pr H i).2.2.2 (H i).2.1 with
      | none => rw [q] at h; exact ih t o h
      | some x =>
        rw [q] at h
        dsimp only at h ⊢
        by_cases z : t = (H i).2.1
        · rw [z, own_u_t] at h; simp at h
        · rw [own_u_n z] at h; exact ih t o h
/-- the history in the arrays -/
def own_HE (s : Q) (H : Nat → own_EV) (h : Nat) : Prop := (s.f8.length = 64 ∧ s.f9.length = 64 ∧ s.f10.length = 64) ∧ h ≤ 64 ∧ s.f29 = Int32.ofNat h ∧ ∀ i, i < h → rd s.f8 (Int32.ofNat i) = Int32.ofNat (H i).1 ∧ rd s.f9 (Int32.ofNat i) = Int32.ofNat (H i).2.1 ∧ rd s.f10 (Int32.ofNat i) = (H i).2.2 ∧ (1 ≤ (H i).1 ∧ (H i).1 ≤ 5) ∧ (H i).2.1 < 4
theorem own_cil {s : Q} {H : Nat → own_EV} {h : Nat} (E : own_HE s H h) : ∀ (r N i : Nat), h - i = r → r < N → i ≤ h → j_countInvocations_l4 N s (Int32.ofNat (own_pr H i).1) (Int32.ofNat i) = some (Int32.ofNat (own_pr H h).1) := by
  intro r
  obtain ⟨⟨l1, l2, l3⟩, h64, hl, ev⟩ := E
  induction r with
  | zero =>
    intro N i h1 h2 h3
    obtain ⟨N, rfl⟩ : ∃ m, N = m + 1 := ⟨N - 1, by omega⟩
    have : i = h := by omega
    subst this
    rw [j_countInvocations_l4, hl, if_neg (show ¬ Int32.ofNat i < Int32.ofNat i from fun q => by have := (own_ltN' (by omega) (by omega)).mp q; omega)]
    split <;> rfl
  | succ r ih =>
    intro N i h1 h2 h3
    obtain ⟨N, rfl⟩ : ∃ m, N = m + 1 := ⟨N - 1, by omega⟩
    have go := ih N (i + 1) (by omega) (by omega) (by omega)
    obtain ⟨e1, _, _, e4, _⟩ := ev i (by omega)
    have ib : inb 64 (Int32.ofNat i) = true := own_inbN (by omega) (by decide)
    rw [(own_pr_m H i).2] at go
    rw [j_countInvocations_l4, hl, if_pos (show Int32.ofNat i < 64 from (own_ltN' (y := 64) (by omega) (by decide)).mpr (by omega)), if_pos ((own_ltN' (by omega) (by omega)).mpr (by omega)), l1, if_pos ib, if_pos ib, e1]
    unfold j_countInvocations_b38 j_countInvocations_b41
    rw [own_succ, own_succ]
    by_cases c1 : (H i).1 = 1
    · rw [if_pos (by rw [c1]; rfl)]
      rw [if_pos (by omega)] at go
      exact go
    · rw [if_neg (show ¬ Int32.ofNat (H i).1 = 1 from fun q => c1 ((own_eqN (y := 1) (by omega) (by decide)).mp q))]
      by_cases c2 : (H i).1 = 2
      · rw [if_pos (show Int32.ofNat (H i).1 = 2 from by rw [c2]; rfl)]
        rw [if_pos (by omega)] at go
        exact go
      · rw [if_neg (show ¬ Int32.ofNat (H i).1 = 2 from fun q => c2 ((own_eqN (y := 2) (by omega) (by decide)).mp q))]
        rw [if_neg (by omega)] at go
        exact go
theorem own_ci {s : Q} {H : Nat → own_EV} {h : Nat} (E : own_HE s H h) : j_countInvocations s = some (Int32.ofNat (own_pr H h).1) := by
  have h64 := E.2.1
  have := own_cil E h 3000 0 (by omega) (by omega) (by omega)
  unfold j_countInvocations
  rw [show Int32.ofNat (own_pr H 0).1 = 0 from rfl, show Int32.ofNat 0 = 0 from rfl] at this
  rw [this, Option.bind_some]
/-! ## the parse -/
def own_pp (s : Q) (ok oa oi rs os ov oo : List Int32) (oc : Int32) : Q := (((((((s.s12 ok).s13 oa).s14 oi).s15 rs).s16 os).s17 ov).s19 oo).s31 oc
theorem own_ppf (s : Q) (ok oa oi rs os ov oo : List Int32) (oc : Int32) : (own_pp s ok oa oi rs os ov oo oc).f12 = ok ∧ (own_pp s ok oa oi rs os ov oo oc).f13 = oa ∧ (own_pp s ok oa oi rs os ov oo oc).f14 = oi ∧ (own_pp s ok oa oi rs os ov oo oc).f15 = rs ∧ (own_pp s ok oa oi rs os ov oo oc).f16 = os ∧ (own_pp s ok oa oi rs os ov oo oc).f17 = ov ∧ (own_pp s ok oa oi rs os ov oo oc).f19 = oo ∧ (own_pp s ok oa oi rs os ov oo oc).f31 = oc ∧ (own_pp s ok oa oi rs os ov oo oc).f8 = s.f8 ∧ (own_pp s ok oa oi rs os ov oo oc).f9 = s.f9 ∧ (own_pp s ok oa oi rs os ov oo oc).f10 = s.f10 ∧ (own_pp s ok oa oi rs os ov oo oc).f29 = s.f29 := by
  unfold own_pp
  simp only [own_Qa, and_self]
def own_rI (r : Option (Nat × Int32 × Int32)) : Int32 := match r with
  | none => -1
  | some x => Int32.ofNat x.1
def own_rS (r : Option (Nat × Int32 × Int32)) : Int32 := match r with
  | none => 0
  | some x => x.2.1
def own_rV (r : Option (Nat × Int32 × Int32)) : Int32 := match r with
  | none => 0
  | some x => x.2.2
def own_oI (r : Option Nat) : Int32 := match r with
  | none => -1
  | some x => Int32.ofNat x
def own_RA (ok oa oi rs os ov oo : List Int32) (oc : Int32) (p : own_PS) : Prop := (ok.length = 6 ∧ oa.length = 6 ∧ oi.length = 6 ∧ rs.length = 6 ∧ os.length = 6 ∧ ov.length = 6 ∧ oo.length = 4) ∧ oc = Int32.ofNat p.1 ∧ (∀ o, o < p.1 → rd ok (Int32.ofNat o) = Int32.ofNat (p.2.1 o).1 ∧ rd oa (Int32.ofNat o) = (p.2.1 o).2.1 ∧ rd oi (Int32.ofNat o) = Int32.ofNat (p.2.1 o).2.2 ∧ rd rs (Int32.ofNat o) = own_rI (p.2.2.1 o) ∧ rd os (Int32.ofNat o) = own_rS (p.2.2.1 o) ∧ rd ov (Int32.ofNat o) = own_rV (p.2.2.1 o)) ∧ ∀ t, t < 4 → rd oo (Int32.ofNat t) = own_oI (p.2.2.2 t)
theorem own_adO {s : Q} {H : Nat → own_EV} {h i : Nat} {ok oa oi rs os ov oo : List Int32} {oc : Int32} (E : own_HE s H h) (hi : i < h) (A : own_RA ok oa oi rs os ov oo oc (own_pr H i)) (h6 : (own_pr H i).1 < 6) (k2 : (H i).1 ≤ 2) : ∃ ok' oa' oi' rs' os' ov' oo', j_addOp (own_pp s ok oa oi rs os ov oo oc) (Int32.ofNat i) (Int32.ofNat (H i).2.1) = some (own_pp s ok' oa' oi' rs' os' ov' oo' (Int32.ofNat ((own_pr H i).1 + 1))) ∧ own_RA ok' oa' oi' rs' os' ov' oo' (Int32.ofNat ((own_pr H i).1 + 1)) (own_pr H (i + 1)) := by
  obtain ⟨⟨l1, l2, l3⟩, h64, hl, ev⟩ := E
  obtain ⟨e1, e2, e3, e4, e5⟩ := ev i hi
  obtain ⟨⟨a1, a2, a3, a4, a5, a6, a7⟩, ec, At, Ao⟩ := A
  rw [own_pr]
  generalize own_pr H i = p at *
  have f := own_ppf s ok oa oi rs os ov oo oc
  have i6 : inb 6 (Int32.ofNat p.1) = true := own_inbN h6 (by decide)
  have i4 : inb 4 (Int32.ofNat (H i).2.1) = true := own_inbN e5 (by decide)
  have i64 : inb 64 (Int32.ofNat i) = true := own_inbN (by omega) (by decide)
  unfold own_psS
  rw [if_pos k2]
  have kk : (if Int32.ofNat (H i).1 = 1 then (1:Int32) else 2) = Int32.ofNat (H i).1 := by
    have : (H i).1 = 1 ∨ (H i).1 = 2 := by omega
    rcases this with q | q <;> rw [q] <;> rfl
  refine ⟨wr ok (Int32.ofNat p.1) (Int32.ofNat (H i).1), wr oa (Int32.ofNat p.1) (H i).2.2, wr oi (Int32.ofNat p.1) (Int32.ofNat i), wr rs (Int32.ofNat p.1) (-1), wr os (Int32.ofNat p.1) 0, wr ov (Int32.ofNat p.1) 0, wr oo (Int32.ofNat (H i).2.1) (Int32.ofNat p.1), ?_, ⟨⟨by rw [len_wr]; exact a1, by rw [len_wr]; exact a2, by rw [len_wr]; exact a3, by rw [len_wr]; exact a4, by rw [len_wr]; exact a5, by rw [len_wr]; exact a6, by rw [len_wr]; exact a7⟩, rfl, fun o ho => ?_, fun t ht => ?_⟩⟩
  · unfold j_addOp j_addOp_b42
    rw [f.1, f.2.1, f.2.2.1, f.2.2.2.1, f.2.2.2.2.1, f.2.2.2.2.2.1, f.2.2.2.2.2.2.1, f.2.2.2.2.2.2.2.1, f.2.2.2.2.2.2.2.2.1, f.2.2.2.2.2.2.2.2.2.2.1, ec, if_neg (by rw [lt32, own_n2i (by omega)]; simp only [Int32.reduceToInt]; omega), if_pos (by rw [lt32, own_n2i (by omega)]; simp only [Int32.reduceToInt]; omega), l1, if_pos i64, e1, kk, a1, if_pos i6, l3, if_pos i64, e3, a2, if_pos i6, a3, if_pos i6, a4, if_pos i6, a5, if_pos i6, a6, if_pos i6, a7, if_pos i4, own_succ]
    unfold own_pp
    simp only [own_Qa]
  · dsimp only at ho ⊢
    rw [own_gw a1 (by decide) h6 (by omega), own_gw a2 (by decide) h6 (by omega), own_gw a3 (by decide) h6 (by omega), own_gw a4 (by decide) h6 (by omega), own_gw a5 (by decide) h6 (by omega), own_gw a6 (by decide) h6 (by omega)]
    by_cases z : o = p.1
    · subst z
      simp only [if_true, own_u_t]
      exact ⟨trivial, trivial, trivial, rfl, rfl, rfl⟩
    · simp only [if_neg z, own_u_n z]
      exact At o (by omega)
  · dsimp only
    rw [own_gw a7 (by decide) e5 ht]
    by_cases z : t = (H i).2.1
    · subst z; rw [if_pos rfl, own_u_t]; rfl
    · rw [if_neg z, own_u_n z]; exact Ao t ht
theorem own_clo {s : Q} {H : Nat → own_EV} {h i : Nat} {ok oa oi rs os ov oo : List Int32} {oc : Int32} (E : own_HE s H h) (hi : i < h) (A : own_RA ok oa oi rs os ov oo oc (own_pr H i)) (h6 : (own_pr H i).1 ≤ 6) (k2 : ¬ (H i).1 ≤ 2) : ∃ rs' os' ov' oo', j_closeOp (own_pp s ok oa oi rs os ov oo oc) (Int32.ofNat i) (Int32.ofNat (H i).2.1) = some (own_pp s ok oa oi rs' os' ov' oo' oc) ∧ own_RA ok oa oi rs' os' ov' oo' oc (own_pr H (i + 1)) := by
  obtain ⟨⟨l1, l2, l3⟩, h64, hl, ev⟩ := E
  obtain ⟨e1, e2, e3, e4, e5⟩ := ev i hi
  have po := own_pr_o H i
  have A0 := A
  obtain ⟨⟨a1, a2, a3, a4, a5, a6, a7⟩, ec, At, Ao⟩ := A
  rw [own_pr]
  generalize own_pr H i = p at *
  have f := own_ppf s ok oa oi rs os ov oo oc
  have i4 : inb 4 (Int32.ofNat (H i).2.1) = true := own_inbN e5 (by decide)
  have i64 : inb 64 (Int32.ofNat i) = true := own_inbN (by omega) (by decide)
  have ao := Ao _ e5
  unfold own_psS
  rw [if_neg k2]
  unfold j_closeOp j_closeOp_b59
  rw [f.2.2.2.1, f.2.2.2.2.1, f.2.2.2.2.2.1, f.2.2.2.2.2.2.1, f.2.2.2.2.2.2.2.2.1, f.2.2.2.2.2.2.2.2.2.2.1, a7, if_pos i4, ao]
  cases q : p.2.2.2 (H i).2.1 with
  | none =>
    rw [show own_oI none = -1 from rfl, if_pos (by decide)]
    exact ⟨rs, os, ov, oo, rfl, A0⟩
  | some o =>
    have ho := po _ _ q
    have i6 : inb 6 (Int32.ofNat o) = true := own_inbN (by omega) (by decide)
    have kk : (if Int32.ofNat (H i).1 = 4 then (2:Int32) else if Int32.ofNat (H i).1 = 5 then 3 else 1) = own_stt (H i).1 := by
      unfold own_stt
      have : (H i).1 = 3 ∨ (H i).1 = 4 ∨ (H i).1 = 5 := by omega
      rcases this with q | q | q <;> rw [q] <;> rfl
    refine ⟨wr rs (Int32.ofNat o) (Int32.ofNat i), wr os (Int32.ofNat o) (own_stt (H i).1), wr ov (Int32.ofNat o) (H i).2.2, wr oo (Int32.ofNat (H i).2.1) (-1), ?_, ⟨⟨a1, a2, a3, by rw [len_wr]; exact a4, by rw [len_wr]; exact a5, by rw [len_wr]; exact a6, by rw [len_wr]; exact a7⟩, ec, fun x hx => ?_, fun t ht => ?_⟩⟩
    · rw [show own_oI (some o) = Int32.ofNat o from rfl, if_neg (by rw [lt32, own_n2i (by omega)]; simp only [Int32.reduceToInt]; omega), if_pos (by rw [lt32, own_n2i (by omega)]; simp only [Int32.reduceToInt]; omega), l1, if_pos i64, a4, if_pos i6, e1, kk]
      simp only [own_Qa, f, a5, i6, l3, i64, e3, a6, a7, i4, if_true]
      unfold own_pp
      simp only [own_Qa]
    · dsimp only at hx ⊢
      obtain ⟨x1, x2, x3, x4, x5, x6⟩ := At x hx
      rw [own_gw a4 (by decide) (by omega) (by omega), own_gw a5 (by decide) (by omega) (by omega), own_gw a6 (by decide) (by omega) (by omega)]
      by_cases z : x = o
      · subst z
        simp only [if_true, own_u_t]
        exact ⟨x1, x2, x3, rfl, rfl, rfl⟩
      · simp only [if_neg z, own_u_n z]
        exact ⟨x1, x2, x3, x4, x5, x6⟩
    · dsimp only
      rw [own_gw a7 (by decide) e5 ht]
      by_cases z : t = (H i).2.1
      · subst z; rw [if_pos rfl, own_u_t]; rfl
      · rw [if_neg z, own_u_n z]; exact Ao t ht

theorem own_pl {s : Q} {H : Nat → own_EV} {h : Nat} (E : own_HE s H h) (h6 : (own_pr H h).1 ≤ 6) : ∀ (r N i : Nat) (ok oa oi rs os ov oo : List Int32) (oc : Int32), h - i = r → r < N → i ≤ h → own_RA ok oa oi rs os ov oo oc (own_pr H i) → ∃ ok' oa' oi' rs' os' ov' oo' oc', j_parseOps_l27 N (own_pp s ok oa oi rs os ov oo oc) (Int32.ofNat i) = some (own_pp s ok' oa' oi' rs' os' ov' oo' oc') ∧ own_RA ok' oa' oi' rs' os' ov' oo' oc' (own_pr H h) := by
  intro r
  have E0 := E
  obtain ⟨⟨l1, l2, l3⟩, h64, hl, ev⟩ := E
  induction r with
  | zero =>
    intro N i ok oa oi rs os ov oo oc h1 h2 h3 A
    obtain ⟨N, rfl⟩ : ∃ m, N = m + 1 := ⟨N - 1, by omega⟩
    have : i = h := by omega
    subst this
    have f := own_ppf s ok oa oi rs os ov oo oc
    refine ⟨ok, oa, oi, rs, os, ov, oo, oc, ?_, A⟩
    rw [j_parseOps_l27, f.2.2.2.2.2.2.2.2.2.2.2, hl, if_neg (show ¬ Int32.ofNat i < Int32.ofNat i from fun q => by have := (own_ltN' (by omega) (by omega)).mp q; omega)]
    split <;> rfl
  | succ r ih =>
    intro N i ok oa oi rs os ov oo oc h1 h2 h3 A
    obtain ⟨N, rfl⟩ : ∃ m, N = m + 1 := ⟨N - 1, by omega⟩
    have f := own_ppf s ok oa oi rs os ov oo oc
    obtain ⟨e1, e2, e3, e4, e5⟩ := ev i (by omega)
    have i64 : inb 64 (Int32.ofNat i) = true := own_inbN (by omega) (by decide)
    have m1 := own_pr_mm H (i + 1) (h - (i + 1))
    rw [show i + 1 + (h - (i + 1)) = h by omega, (own_pr_m H i).2] at m1
    rw [j_parseOps_l27, f.2.2.2.2.2.2.2.2.2.2.2, hl, if_pos (show Int32.ofNat i < 64 from (own_ltN' (y := 64) (by omega) (by decide)).mpr (by omega)), if_pos ((own_ltN' (by omega) (by omega)).mpr (by omega)), f.2.2.2.2.2.2.2.2.2.1, l2, if_pos i64, e2, if_neg (by rw [lt32, own_n2i (by omega)]; simp only [Int32.reduceToInt]; omega), if_neg (by rw [lt32, own_n2i (by omega)]; simp only [Int32.reduceToInt]; omega), f.2.2.2.2.2.2.2.2.1, l1, if_pos i64, if_pos i64, e1]
    unfold j_parseOps_b80 j_parseOps_b95
    rw [own_succ]
    by_cases k2 : (H i).1 ≤ 2
    · rw [if_pos k2] at m1
      obtain ⟨ok', oa', oi', rs', os', ov', oo', ea, A'⟩ := own_adO E0 (by omega) A (by omega) k2
      have go := ih N (i + 1) ok' oa' oi' rs' os' ov' oo' _ (by omega) (by omega) (by omega) A'
      rw [ea, Option.bind_some]
      have : (H i).1 = 1 ∨ (H i).1 = 2 := by omega
      rcases this with q | q
      · rw [if_pos (show Int32.ofNat (H i).1 = 1 from by rw [q]; rfl)]; exact go
      · rw [if_neg (show ¬ Int32.ofNat (H i).1 = 1 from by rw [q]; decide), if_pos (show Int32.ofNat (H i).1 = 2 from by rw [q]; rfl)]; exact go
    · rw [if_neg k2] at m1
      obtain ⟨rs', os', ov', oo', ea, A'⟩ := own_clo E0 (by omega) A (by omega) k2
      have go := ih N (i + 1) ok oa oi rs' os' ov' oo' oc (by omega) (by omega) (by omega) A'
      rw [if_neg (show ¬ Int32.ofNat (H i).1 = 1 from fun q => by have := (own_eqN (y := 1) (by omega) (by decide)).mp q; omega), if_neg (show ¬ Int32.ofNat (H i).1 = 2 from fun q => by have := (own_eqN (y := 2) (by omega) (by decide)).mp q; omega), ea, Option.bind_some]
      exact go
theorem own_po {s : Q} {ok oa oi rs os ov : List Int32} {oc : Int32} : ∀ (r N k : Nat) (oo : List Int32), 4 - k = r → r < N → k ≤ 4 → oo.length = 4 → (∀ j, j < k → rd oo (Int32.ofNat j) = -1) → ∃ oo', j_parseOps_l7 N (own_pp s ok oa oi rs os ov oo oc) (Int32.ofNat k) = some (own_pp s ok oa oi rs os ov oo' oc) ∧ oo'.length = 4 ∧ ∀ j, j < 4 → rd oo' (Int32.ofNat j) = -1 := by
  intro r
  induction r with
  | zero =>
    intro N k oo h1 h2 h3 l g
    obtain ⟨N, rfl⟩ : ∃ m, N = m + 1 := ⟨N - 1, by omega⟩
    have : k = 4 := by omega
    subst this
    exact ⟨oo, by rw [j_parseOps_l7, if_neg (by decide)], l, g⟩
  | succ r ih =>
    intro N k oo h1 h2 h3 l g
    obtain ⟨N, rfl⟩ : ∃ m, N = m + 1 := ⟨N - 1, by omega⟩
    obtain ⟨oo', e, l', a⟩ := ih N (k + 1) (wr oo (Int32.ofNat k) (-1)) (by omega) (by omega) (by omega) (by rw [len_wr]; exact l) (fun j hj => by
      rw [own_gw l (by decide) (by omega) (by omega)]
      by_cases c : j = k
      · rw [if_pos c]
      · rw [if_neg c]; exact g j (by omega))
    have f := own_ppf s ok oa oi rs os ov oo oc
    refine ⟨oo', ?_, l', a⟩
    rw [j_parseOps_l7, if_pos (show Int32.ofNat k < 4 from (own_ltN' (y := 4) (by omega) (by decide)).mpr (by omega)), f.2.2.2.2.2.2.1, l, if_pos (own_inbN (by omega) (by decide)), own_succ, ← e]
    unfold own_pp
    simp only [own_Qa]
theorem own_par {s : Q} {H : Nat → own_EV} {h : Nat} (SL : own_SL s) (E : own_HE s H h) (h6 : (own_pr H h).1 ≤ 6) : ∃ ok oa oi rs os ov oo oc, j_parseOps s = some (own_pp s ok oa oi rs os ov oo oc) ∧ own_RA ok oa oi rs os ov oo oc (own_pr H h) := by
  obtain ⟨s1, s2, s3, s4, s5, s6, s7, s8, _⟩ := SL
  have h64 := E.2.1
  obtain ⟨oo, e1, l1, a1⟩ := own_po (s := s) (ok := s.f12) (oa := s.f13) (oi := s.f14) (rs := s.f15) (os := s.f16) (ov := s.f17) (oc := 0) 4 3000 0 s.f19 (by omega) (by omega) (by omega) s8 (fun j hj => by omega)
  obtain ⟨ok, oa, oi, rs, os, ov, oo', oc, e2, A⟩ := own_pl E h6 h 3000 0 s.f12 s.f13 s.f14 s.f15 s.f16 s.f17 oo 0 (by omega) (by omega) (by omega) ⟨⟨s1, s2, s3, s4, s5, s6, l1⟩, rfl, fun o ho => absurd ho (Nat.not_lt_zero o), fun t ht => a1 t ht⟩
  refine ⟨ok, oa, oi, rs, os, ov, oo', oc, ?_, A⟩
  unfold j_parseOps
  rw [show Int32.ofNat 0 = 0 from rfl] at e1 e2
  have e0 : Q.mk s.f0 s.f1 s.f2 s.f3 s.f4 s.f5 s.f6 s.f7 s.f8 s.f9 s.f10 s.f11 s.f12 s.f13 s.f14 s.f15 s.f16 s.f17 s.f18 s.f19 s.f20 s.f21 s.f22 s.f23 s.f24 s.f25 s.f26 s.f27 s.f28 s.f29 s.f30 0 s.f32 = own_pp s s.f12 s.f13 s.f14 s.f15 s.f16 s.f17 s.f19 0 := by
    unfold own_pp; simp only [own_Qa]
  rw [e0, e1, Option.bind_some, e2, Option.bind_some]
/-! ## masks -/
def own_mk (f : Nat → Bool) : Nat → Nat
  | 0 => 0
  | i + 1 => if f i then own_mk f i + 2 ^ i else own_mk f i
theorem own_mk_l (f : Nat → Bool) : ∀ i, own_mk f i < 2 ^ i
  | 0 => show 0 < 2 ^ 0 from by decide
  | i + 1 => by
    have := own_mk_l f i
    unfold own_mk
    rw [Nat.pow_succ]
    split <;> omega
theorem own_bt : ∀ (i o : Fin 6) (M : Fin 64), M.val < 2 ^ i.val → (M.val.testBit i.val = false) ∧ (M.val + 2 ^ i.val).testBit o.val = (M.val.testBit o.val || decide (o.val = i.val)) := by decide +kernel
theorem own_p6 {i : Nat} (h : i ≤ 6) : 2 ^ i ≤ 64 := Nat.pow_le_pow_right (n := 2) (by decide) h
theorem own_mk_b (f : Nat → Bool) : ∀ i, i ≤ 6 → ∀ o, o < 6 → (own_mk f i).testBit o = (decide (o < i) && f o)
  | 0, _, o, _ => by simp [own_mk]
  | i + 1, hi, o, ho => by
    have ih := own_mk_b f i (by omega) o ho
    have lt := own_mk_l f i
    have p6 := own_p6 (i := i) (by omega)
    have bt := (own_bt ⟨i, by omega⟩ ⟨o, ho⟩ ⟨own_mk f i, by omega⟩ lt).2
    simp only at bt
    unfold own_mk
    by_cases c : f i = true
    · rw [if_pos c, bt, ih]
      by_cases z : o = i
      · subst z; simp [c]
      · have : (o < i + 1) ↔ o < i := by omega
        simp [z, this]
    · rw [if_neg c, ih]
      by_cases z : o = i
      · subst z
        have : f o = false := by simpa using c
        simp [this]
      · have : (o < i + 1) ↔ o < i := by omega
        simp [this]
theorem own_mk_s {f : Nat → Bool} {i : Nat} (hi : i < 6) (c : f i = true) : (Int32.ofNat (own_mk f i) ||| ish 1 (Int32.ofNat i)) = Int32.ofNat (own_mk f (i + 1)) := by
  have lt := own_mk_l f i
  have p6 := own_p6 (i := i) (by omega)
  have b := (own_bt ⟨i, hi⟩ ⟨0, by decide⟩ ⟨own_mk f i, by omega⟩ lt).1
  simp only at b
  rw [((own_bfn (by omega) hi).2.1 b).1, own_mk, if_pos c]
theorem own_mk_n {f : Nat → Bool} {i : Nat} (c : ¬ f i = true) : own_mk f (i + 1) = own_mk f i := by
  rw [own_mk, if_neg c]

theorem own_pr_r (H : Nat → own_EV) : ∀ i o x, (own_pr H i).2.2.1 o = some x → x.1 < i
  | 0, o, x, h => by simp [own_pr] at h
  | i + 1, o, x, h => by
    have ih := own_pr_r H i
    rw [own_pr] at h
    unfold own_psS at h
    by_cases c : (H i).1 ≤ 2
    · rw [if_pos c] at h
      dsimp only at h
      by_cases z : o = (own_pr H i).1
      · rw [z, own_u_t] at h; simp at h
      · rw [own_u_n z] at h; have := ih o x h; omega
    · rw [if_neg c] at h
      cases q : (own_pr H i).2.2.2 (H i).2.1 with
      | none => rw [q] at h; have := ih o x h; omega
      | some y =>
        rw [q] at h
        dsimp only at h
        by_cases z : o = y
        · rw [z, own_u_t] at h
          have := Option.some.inj h
          rw [← this]; exact Nat.lt_succ_self i
        · rw [own_u_n z] at h; have := ih o x h; omega
theorem own_pr_i (H : Nat → own_EV) : ∀ i o, o < (own_pr H i).1 → ((own_pr H i).2.1 o).2.2 < i
  | 0, o, h => absurd h (Nat.not_lt_zero o)
  | i + 1, o, h => by
    have ih := own_pr_i H i
    rw [own_pr] at h ⊢
    unfold own_psS at h ⊢
    by_cases c : (H i).1 ≤ 2
    · rw [if_pos c] at h ⊢
      dsimp only at h ⊢
      by_cases z : o = (own_pr H i).1
      · rw [z, own_u_t]; exact Nat.lt_succ_self i
      · rw [own_u_n z]; have := ih o (by omega); omega
    · rw [if_neg c] at h ⊢
      cases q : (own_pr H i).2.2.2 (H i).2.1 with
      | none => rw [q] at h; have := ih o h; dsimp only; omega
      | some y => rw [q] at h; have := ih o h; dsimp only; omega
def own_bp (s : Q) (pk : List Int32) (cmv : Int32) : Q := (s.s18 pk).s32 cmv
theorem own_bpf (s : Q) (pk : List Int32) (cmv : Int32) : (own_bp s pk cmv).f18 = pk ∧ (own_bp s pk cmv).f32 = cmv ∧ (own_bp s pk cmv).f15 = s.f15 ∧ (own_bp s pk cmv).f14 = s.f14 ∧ (own_bp s pk cmv).f31 = s.f31 := by
  unfold own_bp
  simp only [own_Qa, and_self]
def own_fc (p : own_PS) (o : Nat) : Bool := (p.2.2.1 o).isSome
def own_fp (p : own_PS) (b a : Nat) : Bool := decide (¬ a = b) && (match p.2.2.1 a with
  | none => false
  | some x => decide (x.1 < (p.2.1 b).2.2))
/-- the table that the masks are built from -/
def own_BT (s : Q) (p : own_PS) : Prop := (s.f15.length = 6 ∧ s.f14.length = 6) ∧ p.1 ≤ 6 ∧ s.f31 = Int32.ofNat p.1 ∧ ∀ o, o < p.1 → rd s.f15 (Int32.ofNat o) = own_rI (p.2.2.1 o) ∧ rd s.f14 (Int32.ofNat o) = Int32.ofNat (p.2.1 o).2.2 ∧ (p.2.1 o).2.2 < 100 ∧ ∀ x, p.2.2.1 o = some x → x.1 < 100
theorem own_rI_n {r : Option (Nat × Int32 × Int32)} (h : ∀ x, r = some x → x.1 < 100) : own_rI r < 0 ↔ r.isSome = false := by
  cases r with
  | none => exact ⟨fun _ => rfl, fun _ => by decide⟩
  | some x =>
    have := h x rfl
    constructor
    · intro q
      exfalso
      rw [show own_rI (some x) = Int32.ofNat x.1 from rfl, lt32, own_n2i (by omega)] at q
      simp only [Int32.reduceToInt] at q
      omega
    · intro q; simp at q
theorem own_bl7 {s : Q} {p : own_PS} (T : own_BT s p) : ∀ (r N i : Nat) (pk : List Int32), p.1 - i = r → r < N → i ≤ p.1 → pk.length = 6 → (∀ j, j < i → rd pk (Int32.ofNat j) = 0) → ∃ pk', j_buildPreds_l7 N (own_bp s pk (Int32.ofNat (own_mk (own_fc p) i))) (Int32.ofNat i) = some (own_bp s pk' (Int32.ofNat (own_mk (own_fc p) p.1))) ∧ pk'.length = 6 ∧ ∀ j, j < p.1 → rd pk' (Int32.ofNat j) = 0 := by
  intro r
  obtain ⟨⟨t1, t2⟩, n6, ec, T⟩ := T
  induction r with
  | zero =>
    intro N i pk h1 h2 h3 l g
    obtain ⟨N, rfl⟩ : ∃ m, N = m + 1 := ⟨N - 1, by omega⟩
    have e : i = p.1 := by omega
    have f := own_bpf s pk (Int32.ofNat (own_mk (own_fc p) i))
    refine ⟨pk, ?_, l, by rw [← e]; exact g⟩
    rw [j_buildPreds_l7, f.2.2.2.2, ec, ← e, if_neg (show ¬ Int32.ofNat i < Int32.ofNat i from fun q => by have := (own_ltN' (by omega) (by omega)).mp q; omega)]
    split <;> rfl
  | succ r ih =>
    intro N i pk h1 h2 h3 l g
    obtain ⟨N, rfl⟩ : ∃ m, N = m + 1 := ⟨N - 1, by omega⟩
    have f := own_bpf s pk (Int32.ofNat (own_mk (own_fc p) i))
    have i6 : inb 6 (Int32.ofNat i) = true := own_inbN (by omega) (by decide)
    obtain ⟨e1, e2, e3, e4⟩ := T i (by omega)
    obtain ⟨pk', e, l', a⟩ := ih N (i + 1) (wr pk (Int32.ofNat i) 0) (by omega) (by omega) (by omega) (by rw [len_wr]; exact l) (fun j hj => by
      rw [own_gw l (by decide) (by omega) (by omega)]
      by_cases c : j = i
      · rw [if_pos c]
      · rw [if_neg c]; exact g j (by omega))
    refine ⟨pk', ?_, l', a⟩
    rw [j_buildPreds_l7, if_pos (show Int32.ofNat i < 6 from (own_ltN' (y := 6) (by omega) (by decide)).mpr (by omega)), f.2.2.2.2, ec, if_pos ((own_ltN' (by omega) (by omega)).mpr (by omega)), f.1, l, if_pos i6, f.2.2.1, t1, if_pos i6, e1]
    unfold j_buildPreds_b49
    rw [own_succ, ← e, ← ec]
    by_cases c : own_fc p i = true
    · rw [if_neg (fun q => by have := (own_rI_n e4).mp q; unfold own_fc at c; rw [this] at c; exact absurd c (by decide)), f.2.1, own_mk_s (by omega) c]
      unfold own_bp
      simp only [own_Qa]
    · have c' : (p.2.2.1 i).isSome = false := by unfold own_fc at c; simpa using c
      rw [if_pos ((own_rI_n e4).mpr c'), own_mk_n c]
      unfold own_bp
      simp only [own_Qa]
theorem own_bl73 {s : Q} {p : own_PS} {b : Nat} {cmv : Int32} (T : own_BT s p) (hb : b < p.1) : ∀ (r N i : Nat) (pk : List Int32), p.1 - i = r → r < N → i ≤ p.1 → pk.length = 6 → rd pk (Int32.ofNat b) = Int32.ofNat (own_mk (own_fp p b) i) → ∃ pk', j_buildPreds_l73 N (own_bp s pk cmv) (Int32.ofNat b) (Int32.ofNat i) = some (Int32.ofNat b, own_bp s pk' cmv) ∧ pk'.length = 6 ∧ rd pk' (Int32.ofNat b) = Int32.ofNat (own_mk (own_fp p b) p.1) ∧ ∀ j, j < 6 → ¬ j = b → rd pk' (Int32.ofNat j) = rd pk (Int32.ofNat j) := by
  intro r
  obtain ⟨⟨t1, t2⟩, n6, ec, T⟩ := T
  induction r with
  | zero =>
    intro N i pk h1 h2 h3 l g
    obtain ⟨N, rfl⟩ : ∃ m, N = m + 1 := ⟨N - 1, by omega⟩
    have e : i = p.1 := by omega
    have f := own_bpf s pk cmv
    refine ⟨pk, ?_, l, by rw [← e]; exact g, fun _ _ _ => rfl⟩
    rw [j_buildPreds_l73, f.2.2.2.2, ec, ← e, if_neg (show ¬ Int32.ofNat i < Int32.ofNat i from fun q => by have := (own_ltN' (by omega) (by omega)).mp q; omega)]
    split <;> rfl
  | succ r ih =>
    intro N i pk h1 h2 h3 l g
    obtain ⟨N, rfl⟩ : ∃ m, N = m + 1 := ⟨N - 1, by omega⟩
    have f := own_bpf s pk cmv
    have i6 : inb 6 (Int32.ofNat i) = true := own_inbN (by omega) (by decide)
    have b6 : inb 6 (Int32.ofNat b) = true := own_inbN (by omega) (by decide)
    obtain ⟨e1, e2, e3, e4⟩ := T i (by omega)
    obtain ⟨d1, d2, d3, d4⟩ := T b hb
    rw [j_buildPreds_l73, if_pos (show Int32.ofNat i < 6 from (own_ltN' (y := 6) (by omega) (by decide)).mpr (by omega)), f.2.2.2.2, ec, if_pos ((own_ltN' (by omega) (by omega)).mpr (by omega)), f.2.2.1, t1, if_pos i6, if_pos i6, f.2.2.2.1, t2, if_pos b6, f.1, l, if_pos b6, if_pos b6, e1, d2]
    unfold j_buildPreds_b128
    rw [own_succ]
    have skip : ¬ own_fp p b i = true → ∃ pk', j_buildPreds_l73 N (own_bp s pk cmv) (Int32.ofNat b) (Int32.ofNat (i + 1)) = some (Int32.ofNat b, own_bp s pk' cmv) ∧ pk'.length = 6 ∧ rd pk' (Int32.ofNat b) = Int32.ofNat (own_mk (own_fp p b) p.1) ∧ ∀ j, j < 6 → ¬ j = b → rd pk' (Int32.ofNat j) = rd pk (Int32.ofNat j) := by
      intro w
      exact ih N (i + 1) pk (by omega) (by omega) (by omega) l (by rw [own_mk_n w]; exact g)
    by_cases z : i = b
    · rw [if_pos (by rw [z])]
      exact skip (by unfold own_fp; simp [z])
    · rw [if_neg (fun q => z ((own_eqN (by omega) (by omega)).mp q))]
      cases q : p.2.2.1 i with
      | none =>
        rw [if_pos (show own_rI none < 0 from by decide)]
        exact skip (by unfold own_fp; rw [q]; simp)
      | some x =>
        have x1 := e4 x q
        rw [show own_rI (some x) = Int32.ofNat x.1 from rfl, if_neg (by rw [lt32, own_n2i (by omega)]; simp only [Int32.reduceToInt]; omega)]
        by_cases y : x.1 < (p.2.1 b).2.2
        · rw [if_pos ((own_ltN' (by omega) (by omega)).mpr y), g]
          have w : own_fp p b i = true := by unfold own_fp; rw [q]; simp [z, y]
          rw [own_mk_s (by omega) w]
          obtain ⟨pk', e, l', a1, a2⟩ := ih N (i + 1) (wr pk (Int32.ofNat b) (Int32.ofNat (own_mk (own_fp p b) (i + 1)))) (by omega) (by omega) (by omega) (by rw [len_wr]; exact l) (by rw [own_gw l (by decide) (by omega) (by omega), if_pos rfl])
          refine ⟨pk', ?_, l', a1, fun j hj nj => by rw [a2 j hj nj, own_gw l (by decide) (by omega) hj, if_neg nj]⟩
          rw [← e, ← ec]
          unfold own_bp
          simp only [own_Qa]
        · rw [if_neg (fun w => y ((own_ltN' (by omega) (by omega)).mp w))]
          exact skip (by unfold own_fp; rw [q]; simp [y])
theorem own_bl57 {s : Q} {p : own_PS} {cmv : Int32} (T : own_BT s p) : ∀ (r N b : Nat) (pk : List Int32), p.1 - b = r → r < N → b ≤ p.1 → pk.length = 6 → (∀ j, j < b → rd pk (Int32.ofNat j) = Int32.ofNat (own_mk (own_fp p j) p.1)) → (∀ j, b ≤ j → j < p.1 → rd pk (Int32.ofNat j) = 0) → ∃ pk', j_buildPreds_l57 N (own_bp s pk cmv) (Int32.ofNat b) = some (own_bp s pk' cmv) ∧ pk'.length = 6 ∧ ∀ j, j < p.1 → rd pk' (Int32.ofNat j) = Int32.ofNat (own_mk (own_fp p j) p.1) := by
  intro r
  have n6 := T.2.1
  have ec := T.2.2.1
  induction r with
  | zero =>
    intro N b pk h1 h2 h3 l g1 g2
    obtain ⟨N, rfl⟩ : ∃ m, N = m + 1 := ⟨N - 1, by omega⟩
    have e : b = p.1 := by omega
    have f := own_bpf s pk cmv
    refine ⟨pk, ?_, l, by rw [← e] at g1 ⊢; exact g1⟩
    rw [j_buildPreds_l57, f.2.2.2.2, ec, ← e, if_neg (show ¬ Int32.ofNat b < Int32.ofNat b from fun q => by have := (own_ltN' (by omega) (by omega)).mp q; omega)]
    split <;> rfl
  | succ r ih =>
    intro N b pk h1 h2 h3 l g1 g2
    obtain ⟨N, rfl⟩ : ∃ m, N = m + 1 := ⟨N - 1, by omega⟩
    have f := own_bpf s pk cmv
    obtain ⟨pk1, e1, l1, a1, a2⟩ := own_bl73 (cmv := cmv) T (show b < p.1 by omega) p.1 3000 0 pk (by omega) (by omega) (by omega) l (by rw [g2 b (by omega) (by omega)]; rfl)
    rw [show Int32.ofNat 0 = 0 from rfl] at e1
    obtain ⟨pk', e, l', a⟩ := ih N (b + 1) pk1 (by omega) (by omega) (by omega) l1 (fun j hj => by
      by_cases c : j = b
      · rw [c]; exact a1
      · rw [a2 j (by omega) c]; exact g1 j (by omega)) (fun j hj hj' => by rw [a2 j (by omega) (by omega)]; exact g2 j (by omega) hj')
    refine ⟨pk', ?_, l', a⟩
    rw [j_buildPreds_l57, if_pos (show Int32.ofNat b < 6 from (own_ltN' (y := 6) (by omega) (by decide)).mpr (by omega)), f.2.2.2.2, ec, if_pos ((own_ltN' (by omega) (by omega)).mpr (by omega)), e1, Option.bind_some, own_succ]
    exact e
theorem own_bpd {s : Q} {p : own_PS} (T : own_BT s p) (lp : s.f18.length = 6) : ∃ pk, j_buildPreds s = some (own_bp s pk (Int32.ofNat (own_mk (own_fc p) p.1))) ∧ pk.length = 6 ∧ ∀ b, b < p.1 → rd pk (Int32.ofNat b) = Int32.ofNat (own_mk (own_fp p b) p.1) := by
  have n6 := T.2.1
  obtain ⟨pk1, e1, l1, a1⟩ := own_bl7 T p.1 3000 0 s.f18 (by omega) (by omega) (by omega) lp (fun j hj => by omega)
  rw [show Int32.ofNat 0 = 0 from rfl, show Int32.ofNat (own_mk (own_fc p) 0) = 0 from rfl] at e1
  obtain ⟨pk, e2, l2, a2⟩ := own_bl57 (cmv := Int32.ofNat (own_mk (own_fc p) p.1)) T p.1 3000 0 pk1 (by omega) (by omega) (by omega) l1 (fun j hj => by omega) (fun j _ hj => a1 j hj)
  rw [show Int32.ofNat 0 = 0 from rfl] at e2
  refine ⟨pk, ?_, l2, a2⟩
  unfold j_buildPreds
  have e0 : Q.mk s.f0 s.f1 s.f2 s.f3 s.f4 s.f5 s.f6 s.f7 s.f8 s.f9 s.f10 s.f11 s.f12 s.f13 s.f14 s.f15 s.f16 s.f17 s.f18 s.f19 s.f20 s.f21 s.f22 s.f23 s.f24 s.f25 s.f26 s.f27 s.f28 s.f29 s.f30 s.f31 0 = own_bp s s.f18 0 := by
    unfold own_bp; simp only [own_Qa]
  rw [e0, e1, Option.bind_some, e2, Option.bind_some]

/-! ## runs in plain words -/
def own_smR (C : Nat) (inf : Nat → Nat × Int32 × Nat) (R : Nat → Int32 × Int32) (q : List Int32) (o : Nat) : Option (List Int32) :=
  if (inf o).1 = 1 then (if q.length < C then (if R o = (1, 0) then some (q ++ [(inf o).2.1]) else none) else (if R o = (2, 0) then some q else none))
  else match q with
    | [] => if R o = (3, 0) then some [] else none
    | x :: r => if R o = (1, x) then some r else none
def own_sim (C : Nat) (inf : Nat → Nat × Int32 × Nat) (R : Nat → Int32 × Int32) : List Int32 → List Nat → Option (List Int32)
  | q, [] => some q
  | q, o :: l => (own_smR C inf R q o).bind fun q' => own_sim C inf R q' l
theorem own_sim_a {C : Nat} {inf : Nat → Nat × Int32 × Nat} {R : Nat → Int32 × Int32} : ∀ (l1 : List Nat) (q : List Int32) (l2 : List Nat), own_sim C inf R q (l1 ++ l2) = (own_sim C inf R q l1).bind fun q' => own_sim C inf R q' l2
  | [], q, l2 => rfl
  | o :: l, q, l2 => by
    show (own_smR C inf R q o).bind _ = ((own_smR C inf R q o).bind _).bind _
    cases own_smR C inf R q o with
    | none => rfl
    | some q' => exact own_sim_a l q' l2
theorem own_sim_e {C : Nat} {inf inf' : Nat → Nat × Int32 × Nat} {R R' : Nat → Int32 × Int32} : ∀ (l : List Nat) (q : List Int32), (∀ o ∈ l, inf' o = inf o ∧ R' o = R o) → own_sim C inf' R' q l = own_sim C inf R q l
  | [], q, _ => rfl
  | o :: l, q, h => by
    have e : own_smR C inf' R' q o = own_smR C inf R q o := by
      unfold own_smR
      rw [(h o (by simp)).1, (h o (by simp)).2]
    show (own_smR C inf' R' q o).bind _ = (own_smR C inf R q o).bind _
    rw [e]
    cases own_smR C inf R q o with
    | none => rfl
    | some q' => exact own_sim_e l q' (fun x hx => h x (by simp [hx]))
def own_ct (V : Nat → Int32) (b : Nat) : Nat → List Int32
  | 0 => []
  | k + 1 => V b :: own_ct V (b + 1) k
theorem own_ct_l (V : Nat → Int32) : ∀ k b, (own_ct V b k).length = k
  | 0, b => rfl
  | k + 1, b => by show (own_ct V (b + 1) k).length + 1 = k + 1; rw [own_ct_l V k (b + 1)]
theorem own_ct_a (V : Nat → Int32) : ∀ k b, own_ct V b (k + 1) = own_ct V b k ++ [V (b + k)]
  | 0, b => rfl
  | k + 1, b => by
    have := own_ct_a V k (b + 1)
    show V b :: own_ct V (b + 1) (k + 1) = V b :: (own_ct V (b + 1) k ++ [V (b + (k + 1))])
    rw [this, show b + 1 + k = b + (k + 1) by omega]
theorem own_ct_e {V W : Nat → Int32} : ∀ k b, (∀ i, b ≤ i → i < b + k → W i = V i) → own_ct W b k = own_ct V b k
  | 0, b, _ => rfl
  | k + 1, b, h => by
    show W b :: own_ct W (b + 1) k = V b :: own_ct V (b + 1) k
    rw [h b (Nat.le_refl b) (by omega), own_ct_e k (b + 1) (fun i h1 h2 => h i (by omega) (by omega))]
theorem own_ct_g (V : Nat → Int32) : ∀ k b i, i < k → (own_ct V b k).getD i 0 = V (b + i)
  | 0, b, i, h => by omega
  | k + 1, b, 0, h => rfl
  | k + 1, b, i + 1, h => by
    have := own_ct_g V k (b + 1) i (by omega)
    show (own_ct V (b + 1) k).getD i 0 = _
    rw [this, show b + 1 + i = b + (i + 1) by omega]
def own_L5 (p : own_PS) (lam : List Nat) (R : Nat → Int32 × Int32) (st : Nat) (lv vp : Int32) (t : Nat) : Prop := (st = 0 ∧ p.2.2.2 t = none) ∨ (¬ st = 0 ∧ ∃ o, p.2.2.2 t = some o ∧ p.2.2.1 o = none ∧ (p.2.1 o).1 = (if st ≤ 16 then 1 else 2) ∧ (st ≤ 16 → (p.2.1 o).2.1 = lv) ∧ ((st = 15 ∨ st = 16) → o ∈ lam ∧ R o = (1, 0)) ∧ ((st = 25 ∨ st = 26) → o ∈ lam ∧ R o = (1, vp)) ∧ (¬ (st = 15 ∨ st = 16 ∨ st = 25 ∨ st = 26) → ¬ o ∈ lam))
/-- the order of the operations so far -/
def own_LI (C N : Nat) (p : own_PS) (q0 : List Int32) (lam : List Nat) (R : Nat → Int32 × Int32) (S P : Nat → Nat) (Lv V : Nat → Int32) (a b : Nat) : Prop :=
  (lam.Nodup ∧ ∀ o ∈ lam, o < p.1) ∧
  own_sim C p.2.1 R q0 lam = some (own_ct V b (a - b)) ∧
  (∀ o x, o < p.1 → p.2.2.1 o = some x → o ∈ lam ∧ R o = x.2) ∧
  (∀ l1 c l2, lam = l1 ++ c :: l2 → ∀ o x, o < p.1 → p.2.2.1 o = some x → x.1 < (p.2.1 c).2.2 → o ∈ l1) ∧
  (∀ t, t < N → own_L5 p lam R (S t) (Lv t) (V (P t)) t) ∧
  (∀ t u o, t < N → u < N → ¬ t = u → p.2.2.2 t = some o → ¬ p.2.2.2 u = some o)
theorem own_bt2 : ∀ (M : Fin 64) (c o : Fin 6), M.val.testBit c.val = false → (M.val + 2 ^ c.val).testBit o.val = (M.val.testBit o.val || decide (o.val = c.val)) := by decide +kernel
theorem own_sub6 : ∀ p M : Fin 64, (∀ o : Fin 6, p.val.testBit o.val = true → M.val.testBit o.val = true) → p.val &&& M.val = p.val := by decide +kernel
def own_LM (L : Nat → Nat) : Nat → Nat
  | 0 => 0
  | i + 1 => own_LM L i + 2 ^ L i
theorem own_lm {lam : List Nat} (nd : lam.Nodup) (b : ∀ o ∈ lam, o < 6) : ∀ i, i ≤ lam.length → own_LM (fun i => lam.getD i 0) i < 64 ∧ ∀ o, o < 6 → (own_LM (fun i => lam.getD i 0) i).testBit o = decide (o ∈ lam.take i)
  | 0, _ => ⟨by show 0 < 64; decide, fun o _ => by show (0 : Nat).testBit o = _; simp⟩
  | i + 1, hi => by
    obtain ⟨h1, h2⟩ := own_lm nd b i (by omega)
    have hl : i < lam.length := by omega
    have e : lam.getD i 0 = lam[i] := by simp [List.getD_eq_getElem?_getD, hl]
    have tk : lam.take (i + 1) = lam.take i ++ [lam[i]] := by rw [List.take_append_getElem]
    have b6 := b lam[i] (List.getElem_mem hl)
    have ni : ¬ lam[i] ∈ lam.take i := by
      have : (lam.take (i + 1)).Nodup := nd.sublist (List.take_sublist _ _)
      rw [tk, List.nodup_append] at this
      intro m
      exact this.2.2 _ m _ (by simp) rfl
    have f : (own_LM (fun i => lam.getD i 0) i).testBit lam[i] = false := by rw [h2 _ b6]; simpa using ni
    have n2 := (own_bfn h1 b6).2.1 f
    show (own_LM (fun i => lam.getD i 0) i + 2 ^ (lam.getD i 0) < 64) ∧ ∀ o, o < 6 → (own_LM (fun i => lam.getD i 0) i + 2 ^ (lam.getD i 0)).testBit o = _
    rw [e]
    refine ⟨n2.2.1, fun o ho => ?_⟩
    have bt := own_bt2 ⟨_, h1⟩ ⟨_, b6⟩ ⟨o, ho⟩ f
    simp only at bt
    rw [bt, h2 o ho, tk, Bool.eq_iff_iff]
    simp only [Bool.or_eq_true, decide_eq_true_eq, List.mem_append, List.mem_singleton]
theorem own_ap_of {C : Nat} {inf : Nat → Nat × Int32 × Nat} {R : Nat → Int32 × Int32} {kd ar rs su rv : Nat → Int32} {q q' : List Int32} {o : Nat} (h : own_smR C inf R q o = some q') (k : kd o = Int32.ofNat (inf o).1) (k2 : (inf o).1 < 100) (ea : ar o = (inf o).2.1) (er : ¬ rs o < 0 → su o = (R o).1 ∧ rv o = (R o).2) : own_appl C kd ar rs su rv q o = some q' := by
  unfold own_smR at h
  unfold own_appl
  by_cases k1 : (inf o).1 = 1
  · rw [if_pos k1] at h
    rw [if_pos (by rw [k, k1]; rfl)]
    by_cases c : q.length < C
    · rw [if_pos c] at h
      simp only [if_pos c]
      by_cases r : R o = (1, 0)
      · rw [if_pos r] at h
        rw [ea, if_neg (fun w => w.2 (by rw [(er w.1).1, r])), ← h]
      · rw [if_neg r] at h; simp at h
    · rw [if_neg c] at h
      simp only [if_neg c]
      by_cases r : R o = (2, 0)
      · rw [if_pos r] at h
        rw [if_neg (fun w => w.2 (by rw [(er w.1).1, r])), ← h]
      · rw [if_neg r] at h; simp at h
  · rw [if_neg k1] at h
    rw [if_neg (show ¬ kd o = 1 from fun w => k1 ((own_eqN (y := 1) (by omega) (by decide)).mp (k.symm.trans w)))]
    cases q with
    | nil =>
      simp only at h ⊢
      by_cases r : R o = (3, 0)
      · rw [if_pos r] at h
        rw [if_neg (fun w => w.2 (by rw [(er w.1).1, r])), ← h]
      · rw [if_neg r] at h; simp at h
    | cons x l =>
      simp only at h ⊢
      by_cases r : R o = (1, x)
      · rw [if_pos r] at h
        rw [if_neg (fun w => by
          have := er w.1
          rw [r] at this
          rcases w.2 with z | z
          · exact z this.1
          · exact z this.2), ← h]
      · rw [if_neg r] at h; simp at h
/-- the way through the table that the order gives -/
theorem own_pt {C N : Nat} {p : own_PS} {q0 : List Int32} {lam : List Nat} {R : Nat → Int32 × Int32} {S P : Nat → Nat} {Lv V : Nat → Int32} {a b : Nat} {kd ar rs su rv : Nat → Int32} (I : own_LI C N p q0 lam R S P Lv V a b) (n6 : p.1 ≤ 6) (hk : ∀ o, o < p.1 → kd o = Int32.ofNat (p.2.1 o).1 ∧ (p.2.1 o).1 < 100 ∧ ar o = (p.2.1 o).2.1 ∧ (¬ rs o < 0 → ∃ x, p.2.2.1 o = some x ∧ su o = x.2.1 ∧ rv o = x.2.2)) : ∃ LQ, LQ 0 = q0 ∧ own_PT p.1 C kd ar rs su rv (fun b => own_mk (own_fp p b) p.1) (own_mk (own_fc p) p.1) lam.length (fun i => lam.getD i 0) (own_LM (fun i => lam.getD i 0)) LQ := by
  obtain ⟨⟨nd, bd⟩, sim, cmp, ord, _, _⟩ := I
  have bd6 : ∀ o ∈ lam, o < 6 := fun o ho => by have := bd o ho; omega
  have lm := own_lm nd bd6
  have pre : ∀ i, i ≤ lam.length → ∃ q, own_sim C p.2.1 R q0 (lam.take i) = some q := by
    intro i hi
    have : own_sim C p.2.1 R q0 (lam.take i ++ lam.drop i) = some (own_ct V b (a - b)) := by rw [List.take_append_drop]; exact sim
    rw [own_sim_a] at this
    cases h : own_sim C p.2.1 R q0 (lam.take i) with
    | none => rw [h] at this; simp at this
    | some q => exact ⟨q, rfl⟩
  refine ⟨fun i => (own_sim C p.2.1 R q0 (lam.take i)).getD [], ?_, fun i hi => ?_, ?_, ?_, fun o ho => ?_⟩
  · show (own_sim C p.2.1 R q0 (lam.take 0)).getD [] = q0
    rw [List.take_zero]; rfl
  · have e : lam.getD i 0 = lam[i] := by simp [List.getD_eq_getElem?_getD, hi]
    have tk : lam.take (i + 1) = lam.take i ++ [lam[i]] := by rw [List.take_append_getElem]
    have ml := List.getElem_mem hi
    have b6 := bd6 _ ml
    have bp := bd _ ml
    obtain ⟨m1, m2⟩ := lm i (by omega)
    have ni : ¬ lam[i] ∈ lam.take i := by
      have : (lam.take (i + 1)).Nodup := nd.sublist (List.take_sublist _ _)
      rw [tk, List.nodup_append] at this
      intro m
      exact this.2.2 _ m _ (by simp) rfl
    refine ⟨by show lam.getD i 0 < p.1; rw [e]; exact bp, by show (own_LM _ i).testBit (lam.getD i 0) = false; rw [e, m2 _ b6]; simpa using ni, ?_, ?_, rfl⟩
    · dsimp only
      rw [e]
      have l6 : own_mk (own_fp p lam[i]) p.1 < 64 := Nat.lt_of_lt_of_le (own_mk_l _ _) (own_p6 n6)
      refine own_sub6 ⟨_, l6⟩ ⟨_, m1⟩ (fun o h => ?_)
      simp only at h ⊢
      rw [own_mk_b _ _ n6 _ o.isLt] at h
      rw [m2 _ o.isLt]
      have ⟨h1, h2⟩ : o.val < p.1 ∧ own_fp p lam[i] o.val = true := by simpa using h
      unfold own_fp at h2
      cases q : p.2.2.1 o.val with
      | none => rw [q] at h2; simp at h2
      | some x =>
        rw [q] at h2
        have h3 : ¬ o.val = lam[i] ∧ x.1 < (p.2.1 lam[i]).2.2 := by simpa using h2
        have sp : lam = lam.take i ++ lam[i] :: lam.drop (i + 1) := by
          conv => lhs; rw [← List.take_append_drop i lam, List.drop_eq_getElem_cons hi]
        have := ord _ _ _ sp o.val x h1 q h3.2
        simpa using this
    · dsimp only
      rw [e]
      obtain ⟨q, hq⟩ := pre i (by omega)
      obtain ⟨q', hq'⟩ := pre (i + 1) (by omega)
      rw [hq, hq']
      rw [tk, own_sim_a, hq, Option.bind_some] at hq'
      have sm : own_smR C p.2.1 R q lam[i] = some q' := by
        have : (own_smR C p.2.1 R q lam[i]).bind (fun q' => own_sim C p.2.1 R q' []) = some q' := hq'
        cases z : own_smR C p.2.1 R q lam[i] with
        | none => rw [z] at this; simp at this
        | some y => rw [z] at this; exact this
      obtain ⟨k1, k2, k3, k4⟩ := hk _ bp
      exact own_ap_of sm k1 k2 k3 (fun w => by
        obtain ⟨x, x1, x2, x3⟩ := k4 w
        have := (cmp _ x bp x1).2
        rw [this]; exact ⟨x2, x3⟩)
  · obtain ⟨m1, m2⟩ := lm lam.length (Nat.le_refl _)
    have l6 : own_mk (own_fc p) p.1 < 64 := Nat.lt_of_lt_of_le (own_mk_l _ _) (own_p6 n6)
    refine own_sub6 ⟨_, l6⟩ ⟨_, m1⟩ (fun o h => ?_)
    simp only at h ⊢
    rw [own_mk_b _ _ n6 _ o.isLt] at h
    rw [m2 _ o.isLt, List.take_length]
    have ⟨h1, h2⟩ : o.val < p.1 ∧ own_fc p o.val = true := by simpa using h
    unfold own_fc at h2
    obtain ⟨x, hx⟩ := Option.isSome_iff_exists.mp h2
    have := (cmp o.val x h1 hx).1
    simpa using this
  · exact Nat.lt_of_lt_of_le (own_mk_l _ _) (own_p6 n6)
  · exact Nat.lt_of_lt_of_le (own_mk_l _ _) (own_p6 n6)

theorem own_pr_k (H : Nat → own_EV) : ∀ i o, o < (own_pr H i).1 → ((own_pr H i).2.1 o).1 ≤ 2
  | 0, o, h => absurd h (Nat.not_lt_zero o)
  | i + 1, o, h => by
    have ih := own_pr_k H i
    rw [own_pr] at h ⊢
    unfold own_psS at h ⊢
    by_cases c : (H i).1 ≤ 2
    · rw [if_pos c] at h ⊢
      dsimp only at h ⊢
      by_cases z : o = (own_pr H i).1
      · rw [z, own_u_t]; exact c
      · rw [own_u_n z]; exact ih o (by omega)
    · rw [if_neg c] at h ⊢
      cases q : (own_pr H i).2.2.2 (H i).2.1 with
      | none => rw [q] at h; exact ih o h
      | some y => rw [q] at h; exact ih o h
theorem own_chk {s : Q} {H : Nat → own_EV} {h C N : Nat} {q0 : List Int32} {lam : List Nat} {R : Nat → Int32 × Int32} {S P : Nat → Nat} {Lv V : Nat → Int32} {a b : Nat} (SL : own_SL s) (E : own_HE s H h) (I : own_LI C N (own_pr H h) q0 lam R S P Lv V a b) (eC : s.f25 = Int32.ofNat C) (C8 : C ≤ 8) (hq : q0.length ≤ C) (ls : s.f11.length = 8) (el : s.f30 = Int32.ofNat q0.length) (ev : ∀ k, k < q0.length → rd s.f11 (Int32.ofNat k) = q0.getD k 0) : ∃ r s', j_check s = some (r, s') ∧ ¬ r = 0 ∧ own_same s s' := by
  have h64 := E.2.1
  have n64 : (own_pr H h).1 ≤ h := by
    have : ∀ i, (own_pr H i).1 ≤ i := by
      intro i
      induction i with
      | zero => exact Nat.le_refl 0
      | succ i ih =>
        have := (own_pr_m H i).2
        split at this <;> omega
    exact this h
  unfold j_check
  rw [own_ci E, Option.bind_some]
  by_cases c : (own_pr H h).1 ≤ 6
  · rw [if_neg (by rw [lt32, own_n2i (by omega)]; simp only [Int32.reduceToInt]; omega)]
    obtain ⟨ok, oa, oi, rs, os, ov, oo, oc, e1, A⟩ := own_par SL E c
    have pr := own_pr_r H h
    have pi := own_pr_i H h
    have pk := own_pr_k H h
    rw [e1, Option.bind_some]
    obtain ⟨⟨a1, a2, a3, a4, a5, a6, a7⟩, ec, At, Ao⟩ := A
    generalize own_pr H h = p at *
    have f := own_ppf s ok oa oi rs os ov oo oc
    have SL0 := SL
    unfold own_SL at SL0
    have SL1 : own_SL (own_pp s ok oa oi rs os ov oo oc) := by
      unfold own_SL own_pp
      simp only [own_Qa, SL0, a1, a2, a3, a4, a5, a6, a7, and_self]
    have T : own_BT (own_pp s ok oa oi rs os ov oo oc) p := by
      refine ⟨⟨by rw [f.2.2.2.1]; exact a4, by rw [f.2.2.1]; exact a3⟩, c, by rw [f.2.2.2.2.2.2.2.1]; exact ec, fun o ho => ?_⟩
      obtain ⟨x1, x2, x3, x4, x5, x6⟩ := At o ho
      rw [f.2.2.2.1, f.2.2.1]
      have := pi o ho
      exact ⟨x4, x3, by omega, fun x hx => by have := pr o x hx; omega⟩
    obtain ⟨pk', e2, l2, b2⟩ := own_bpd T SL1.2.2.2.2.2.2.1
    rw [e2, Option.bind_some]
    obtain ⟨LQ, hQ, PT⟩ := own_pt (kd := fun o => Int32.ofNat (p.2.1 o).1) (ar := fun o => (p.2.1 o).2.1) (rs := fun o => own_rI (p.2.2.1 o)) (su := fun o => own_rS (p.2.2.1 o)) (rv := fun o => own_rV (p.2.2.1 o)) I c (fun o ho => ⟨rfl, by have := pk o ho; omega, rfl, fun w => by
      cases q : p.2.2.1 o with
      | none => rw [q] at w; exact absurd (show own_rI none < 0 from by decide) w
      | some x => exact ⟨x, rfl, rfl, rfl⟩⟩)
    have TB : own_TB (own_bp (own_pp s ok oa oi rs os ov oo oc) pk' (Int32.ofNat (own_mk (own_fc p) p.1))) p.1 C (fun o => Int32.ofNat (p.2.1 o).1) (fun o => (p.2.1 o).2.1) (fun o => own_rI (p.2.2.1 o)) (fun o => own_rS (p.2.2.1 o)) (fun o => own_rV (p.2.2.1 o)) (fun b => own_mk (own_fp p b) p.1) (own_mk (own_fc p) p.1) := by
      unfold own_bp own_pp own_TB
      simp only [own_Qa]
      refine ⟨⟨a1, a2, a4, a5, a6, l2⟩, ⟨c, C8⟩, eC, ec, trivial, fun o ho => ?_⟩
      obtain ⟨x1, x2, x3, x4, x5, x6⟩ := At o ho
      exact ⟨x1, x2, x4, x5, x6, b2 o ho⟩
    have SL2 : own_SL (own_bp (own_pp s ok oa oi rs os ov oo oc) pk' (Int32.ofNat (own_mk (own_fc p) p.1))) := by
      unfold own_SL own_bp own_pp
      simp only [own_Qa, SL0, a1, a2, a3, a4, a5, a6, a7, l2, and_self]
    have sm : own_same s (own_bp (own_pp s ok oa oi rs os ov oo oc) pk' (Int32.ofNat (own_mk (own_fc p) p.1))) := by
      unfold own_same own_bp own_pp
      simp only [own_Qa, and_self]
    obtain ⟨s', e3, sm'⟩ := own_sea TB PT SL2 rfl hQ hq (by rw [sm.1.2.2.2.2.2.2.2.2.2.2.2]; exact ls) (by rw [sm.2.2.2.2.2.2.2]; exact el) (by rw [sm.1.2.2.2.2.2.2.2.2.2.2.2]; exact ev)
    rw [e3, Option.bind_some]
    exact ⟨1, s', rfl, by decide, own_same_t sm sm'⟩
  · rw [if_pos (by rw [lt32, own_n2i (by omega)]; simp only [Int32.reduceToInt]; omega)]
    exact ⟨-1, s, rfl, by decide, own_same_r s⟩

/-! ## the ring in plain words, for any capacity -/
def own_p (z : Int32) (n : Nat) : Int32 := z + Int32.ofNat n
theorem own_p1 (z : Int32) (n k : Nat) : own_p z n + Int32.ofNat k = own_p z (n + k) := by
  unfold own_p
  rw [Int32.add_assoc, ← Int32.ofNat_add]
theorem own_pq {z : Int32} {x y : Nat} (h : x ≤ y) : own_p z x - own_p z y = - Int32.ofNat (y - x) := by
  have e : y = x + (y - x) := by omega
  conv => lhs; rw [e, ← own_p1]
  grind
theorem own_qp {z : Int32} {x y : Nat} (h : x ≤ y) : own_p z y - own_p z x = Int32.ofNat (y - x) := by
  have e : y = x + (y - x) := by omega
  conv => lhs; rw [e, ← own_p1]
  grind
theorem own_pi {z : Int32} {x y : Nat} (hx : x < 1000000) (hy : y < 1000000) (h : own_p z x = own_p z y) : x = y := by
  unfold own_p at h
  have h2 : Int32.ofNat x = Int32.ofNat y := by
    have : (z + Int32.ofNat x) - z = (z + Int32.ofNat y) - z := by rw [h]
    grind
  exact (own_eqN (by omega) (by omega)).mp h2
theorem own_pne {z : Int32} {x y : Nat} (hx : x < 1000000) (hy : y < 1000000) (n : ¬ x = y) : ¬ own_p z x = own_p z y := fun h => n (own_pi hx hy h)
def own_sl (C : Nat) (sl : Nat → Nat) : Prop := (∀ x, sl (x + C) = sl x) ∧ (∀ x y, x < y → y < x + C → ¬ sl x = sl y) ∧ (∀ x, sl x < C) ∧ 2 ≤ C ∧ C ≤ 8
theorem own_far {C : Nat} {sl : Nat → Nat} (hs : own_sl C sl) {x y : Nat} (h : ¬ x = y) (h1 : x < y + C) (h2 : y < x + C) : ¬ sl x = sl y := by
  by_cases c : x < y
  · exact hs.2.1 x y c h2
  · exact fun w => hs.2.1 y x (by omega) h1 w.symm
def own_TT (C : Nat) (sl : Nat → Nat) (z : Int32) (k p : Nat) (v : Int32) (E U : Nat → Int32) (a b : Nat) (V : Nat → Int32) : Prop :=
  (k = 0 ∨ k = 1 ∨ (11 ≤ k ∧ k ≤ 16) ∨ (21 ≤ k ∧ k ≤ 26)) ∧
  (12 ≤ k → k ≤ 14 → p ≤ a) ∧ (k = 13 → p = a → E (sl a) = own_p z a) ∧
  (22 ≤ k → k ≤ 24 → p ≤ b) ∧ (k = 23 → p = b → E (sl b) = own_p z (b + 1)) ∧
  ((k = 15 ∨ k = 16) → b ≤ p ∧ p < a ∧ E (sl p) = own_p z p ∧ v = V p ∧ (k = 16 → U (sl p) = V p)) ∧
  ((k = 25 ∨ k = 26) → a ≤ p + C ∧ p < b ∧ E (sl p) = own_p z (p + 1) ∧ (k = 25 → U (sl p) = V p) ∧ (k = 26 → v = V p))
def own_R (C N : Nat) (sl : Nat → Nat) (z : Int32) (S P : Nat → Nat) (Lv E U : Nat → Int32) (a b : Nat) (V : Nat → Int32) : Prop :=
  (C ≤ b ∧ b ≤ a ∧ a ≤ b + C) ∧ (∀ t, t < N → own_TT C sl z (S t) (P t) (Lv t) E U a b V) ∧
  (∀ t u, t < N → u < N → ¬ t = u → ((S t = 15 ∨ S t = 16) → (S u = 15 ∨ S u = 16) → ¬ P t = P u) ∧ ((S t = 25 ∨ S t = 26) → (S u = 25 ∨ S u = 26) → ¬ P t = P u)) ∧
  (∀ p, b ≤ p → p < a → (∀ t, t < N → (S t = 15 ∨ S t = 16) → ¬ P t = p) → E (sl p) = own_p z (p + 1) ∧ U (sl p) = V p) ∧
  (∀ p, a ≤ p + C → p < b → (∀ t, t < N → (S t = 25 ∨ S t = 26) → ¬ P t = p) → E (sl p) = own_p z (p + C))
theorem own_soft {C N : Nat} {sl : Nat → Nat} {z : Int32} {S P : Nat → Nat} {Lv E U : Nat → Int32} {a b : Nat} {V : Nat → Int32} {t k p : Nat} {v : Int32} (hs : own_sl C sl) (h : own_R C N sl z S P Lv E U a b V) (ht : t < N) (nW : ¬ S t = 15 ∧ ¬ S t = 16 ∧ ¬ S t = 25 ∧ ¬ S t = 26) (kW : ¬ k = 15 ∧ ¬ k = 16 ∧ ¬ k = 25 ∧ ¬ k = 26) (hT : own_TT C sl z k p v E U a b V) :
    own_R C N sl z (own_u S t k) (own_u P t p) (own_u Lv t v) E U a b V := by
  obtain ⟨h1, h2, h3, h4, h5⟩ := h
  have C2 := hs.2.2.2.1
  refine ⟨h1, ?_, ?_, ?_, ?_⟩
  · intro u hu
    by_cases e : u = t
    · subst e; rw [own_u_t, own_u_t, own_u_t]; exact hT
    · rw [own_u_n e, own_u_n e, own_u_n e]; exact h2 u hu
  · intro x y hx hy n
    by_cases e : x = t
    · subst e
      rw [own_u_t]
      exact ⟨fun q => by omega, fun q => by omega⟩
    · by_cases d : y = t
      · subst d
        rw [own_u_t (t := y)]
        exact ⟨fun _ q => by omega, fun _ q => by omega⟩
      · rw [own_u_n e, own_u_n d, own_u_n e, own_u_n d]; exact h3 x y hx hy n
  · intro q q1 q2 q3
    refine h4 q q1 q2 (fun u hu w => ?_)
    have e : ¬ u = t := fun e => by subst e; omega
    have := q3 u hu
    rw [own_u_n e, own_u_n e] at this
    exact this w
  · intro q q1 q2 q3
    refine h5 q q1 q2 (fun u hu w => ?_)
    have e : ¬ u = t := fun e => by subst e; omega
    have := q3 u hu
    rw [own_u_n e, own_u_n e] at this
    exact this w
theorem own_claimE {C N : Nat} {sl : Nat → Nat} {z : Int32} {S P : Nat → Nat} {Lv E U : Nat → Int32} {a b : Nat} {V : Nat → Int32} {t : Nat} (hs : own_sl C sl) (h : own_R C N sl z S P Lv E U a b V) (ht : t < N) (ha : a < 900000) (s : S t = 13) (e : P t = a) :
    own_R C N sl z (own_u S t 15) P Lv E U (a + 1) b (own_u V a (Lv t)) := by
  obtain ⟨h1, h2, h3, h4, h5⟩ := h
  have C2 := hs.2.2.2.1
  have E0 : E (sl a) = own_p z a := (h2 t ht).2.2.1 s e
  have lt : a < b + C := by
    apply Nat.lt_of_not_le
    intro c
    have c : a = b + C := by omega
    have m : sl a = sl b := by rw [c]; exact hs.1 b
    by_cases w : ∀ u, u < N → (S u = 15 ∨ S u = 16) → ¬ P u = b
    · have := (h4 b (by omega) (by omega) w).1
      rw [← m, E0] at this
      exact own_pne (by omega) (by omega) (by omega) this
    · have : ∃ u, u < N ∧ (S u = 15 ∨ S u = 16) ∧ P u = b := by
        apply Classical.byContradiction
        intro q
        exact w (fun u hu wu z => q ⟨u, hu, wu, z⟩)
      obtain ⟨u, hu, wu, pu⟩ := this
      have := ((h2 u hu).2.2.2.2.2.1 wu).2.2.1
      rw [pu, ← m, E0] at this
      exact own_pne (by omega) (by omega) (by omega) this
  have dl : ∀ u, u < N → (S u = 25 ∨ S u = 26) → a + 1 ≤ P u + C := by
    intro u hu w
    obtain ⟨q1, q2, q3, _⟩ := (h2 u hu).2.2.2.2.2.2 w
    apply Nat.le_of_not_lt
    intro c
    have m : sl a = sl (P u) := by rw [show a = P u + C by omega]; exact hs.1 _
    rw [← m, E0] at q3
    exact own_pne (by omega) (by omega) (by omega) q3
  refine ⟨by omega, ?_, ?_, ?_, ?_⟩
  · intro u hu
    by_cases c : u = t
    · subst c
      rw [own_u_t]
      refine ⟨by omega, by omega, by omega, by omega, by omega, fun _ => ⟨by omega, by omega, by rw [e]; exact E0, by rw [e, own_u_t], by omega⟩, by omega⟩
    · rw [own_u_n c]
      obtain ⟨t1, t2, t3, t4, t5, t6, t7⟩ := h2 u hu
      refine ⟨t1, fun x y => by have := t2 x y; omega, fun x y => by have := t2 (by omega) (by omega); omega, t4, t5, fun w => ?_, fun w => ?_⟩
      · obtain ⟨q1, q2, q3, q4, q5⟩ := t6 w
        rw [own_u_n (show ¬ P u = a from by omega)]
        exact ⟨q1, by omega, q3, q4, q5⟩
      · obtain ⟨q1, q2, q3, q4, q5⟩ := t7 w
        rw [own_u_n (show ¬ P u = a from by omega)]
        exact ⟨dl u hu w, q2, q3, q4, q5⟩
  · intro x y hx hy n
    by_cases c : x = t
    · subst c
      rw [own_u_t, own_u_n (show ¬ y = x from fun z => n z.symm)]
      exact ⟨fun _ w => by have := (h2 y hy).2.2.2.2.2.1 w; omega, fun w => by omega⟩
    · by_cases d : y = t
      · subst d
        rw [own_u_t, own_u_n c]
        exact ⟨fun w _ => by have := (h2 x hx).2.2.2.2.2.1 w; omega, fun _ w => by omega⟩
      · rw [own_u_n c, own_u_n d]; exact h3 x y hx hy n
  · intro q q1 q2 q3
    have ne : ¬ q = a := fun z => by
      have := q3 t ht
      rw [own_u_t] at this
      exact this (Or.inl rfl) (by omega)
    rw [own_u_n ne]
    refine h4 q q1 (by omega) (fun u hu w => ?_)
    have c : ¬ u = t := fun c => by subst c; omega
    have := q3 u hu
    rw [own_u_n c] at this
    exact this w
  · intro q q1 q2 q3
    refine h5 q (by omega) q2 (fun u hu w => ?_)
    have c : ¬ u = t := fun c => by subst c; omega
    have := q3 u hu
    rw [own_u_n c] at this
    exact this w
theorem own_claimD {C N : Nat} {sl : Nat → Nat} {z : Int32} {S P : Nat → Nat} {Lv E U : Nat → Int32} {a b : Nat} {V : Nat → Int32} {t : Nat} (hs : own_sl C sl) (h : own_R C N sl z S P Lv E U a b V) (ht : t < N) (ha : a < 900000) (s : S t = 23) (e : P t = b) :
    own_R C N sl z (own_u S t 25) P Lv E U a (b + 1) V := by
  obtain ⟨h1, h2, h3, h4, h5⟩ := h
  have C2 := hs.2.2.2.1
  have E0 : E (sl b) = own_p z (b + 1) := (h2 t ht).2.2.2.2.1 s e
  have lt : b < a := by
    apply Nat.lt_of_not_le
    intro c
    have c : a = b := by omega
    have m : sl (b - C) = sl b := by
      have q := hs.1 (b - C)
      rw [show b - C + C = b by omega] at q
      exact q.symm
    by_cases w : ∀ u, u < N → (S u = 25 ∨ S u = 26) → ¬ P u = b - C
    · have := h5 (b - C) (by omega) (by omega) w
      rw [m, E0] at this
      exact own_pne (by omega) (by omega) (by omega) this
    · have : ∃ u, u < N ∧ (S u = 25 ∨ S u = 26) ∧ P u = b - C := by
        apply Classical.byContradiction
        intro q
        exact w (fun u hu wu z => q ⟨u, hu, wu, z⟩)
      obtain ⟨u, hu, wu, pu⟩ := this
      have := ((h2 u hu).2.2.2.2.2.2 wu).2.2.1
      rw [pu, m, E0] at this
      exact own_pne (by omega) (by omega) (by omega) this
  have en : ∀ u, u < N → (S u = 15 ∨ S u = 16) → ¬ P u = b := by
    intro u hu w z
    have := ((h2 u hu).2.2.2.2.2.1 w).2.2.1
    rw [z, E0] at this
    exact own_pne (by omega) (by omega) (by omega) this
  have U0 := (h4 b (Nat.le_refl b) lt en).2
  refine ⟨by omega, ?_, ?_, ?_, ?_⟩
  · intro u hu
    by_cases c : u = t
    · subst c
      rw [own_u_t]
      refine ⟨by omega, by omega, by omega, by omega, by omega, by omega, fun _ => ⟨by omega, by omega, by rw [e]; exact E0, fun _ => by rw [e]; exact U0, by omega⟩⟩
    · rw [own_u_n c]
      obtain ⟨t1, t2, t3, t4, t5, t6, t7⟩ := h2 u hu
      refine ⟨t1, t2, t3, fun x y => by have := t4 x y; omega, fun x y => by have := t4 (by omega) (by omega); omega, fun w => ?_, fun w => ?_⟩
      · obtain ⟨q1, q2, q3, q4, q5⟩ := t6 w
        have := en u hu w
        exact ⟨by omega, q2, q3, q4, q5⟩
      · obtain ⟨q1, q2, q3, q4, q5⟩ := t7 w
        exact ⟨q1, by omega, q3, q4, q5⟩
  · intro x y hx hy n
    by_cases c : x = t
    · subst c
      rw [own_u_t, own_u_n (show ¬ y = x from fun z => n z.symm)]
      exact ⟨fun w => by omega, fun _ w => by have := (h2 y hy).2.2.2.2.2.2 w; omega⟩
    · by_cases d : y = t
      · subst d
        rw [own_u_t, own_u_n c]
        exact ⟨fun _ w => by omega, fun w _ => by have := (h2 x hx).2.2.2.2.2.2 w; omega⟩
      · rw [own_u_n c, own_u_n d]; exact h3 x y hx hy n
  · intro q q1 q2 q3
    refine h4 q (by omega) q2 (fun u hu w => ?_)
    have c : ¬ u = t := fun c => by subst c; omega
    have := q3 u hu
    rw [own_u_n c] at this
    exact this w
  · intro q q1 q2 q3
    have ne : ¬ q = b := fun z => by
      have := q3 t ht
      rw [own_u_t] at this
      exact this (Or.inl rfl) (by omega)
    refine h5 q q1 (by omega) (fun u hu w => ?_)
    have c : ¬ u = t := fun c => by subst c; omega
    have := q3 u hu
    rw [own_u_n c] at this
    exact this w
theorem own_s15 {C N : Nat} {sl : Nat → Nat} {z : Int32} {S P : Nat → Nat} {Lv E U : Nat → Int32} {a b : Nat} {V : Nat → Int32} {t : Nat} (hs : own_sl C sl) (h : own_R C N sl z S P Lv E U a b V) (ht : t < N) (s : S t = 15) :
    own_R C N sl z (own_u S t 16) P Lv E (own_u U (sl (P t)) (Lv t)) a b V := by
  obtain ⟨h1, h2, h3, h4, h5⟩ := h
  have C2 := hs.2.2.2.1
  obtain ⟨p1, p2, p3, p4, _⟩ := (h2 t ht).2.2.2.2.2.1 (Or.inl s)
  have far : ∀ p, a ≤ p + C → p < a → ¬ p = P t → ¬ sl p = sl (P t) := fun p w1 w2 w3 => own_far hs w3 (by omega) (by omega)
  refine ⟨h1, ?_, ?_, ?_, ?_⟩
  · intro u hu
    by_cases c : u = t
    · subst c
      rw [own_u_t]
      exact ⟨by omega, by omega, by omega, by omega, by omega, fun _ => ⟨p1, p2, p3, p4, fun _ => by rw [own_u_t]; exact p4⟩, by omega⟩
    · rw [own_u_n c]
      obtain ⟨t1, t2, t3, t4, t5, t6, t7⟩ := h2 u hu
      refine ⟨t1, t2, t3, t4, t5, fun w => ?_, fun w => ?_⟩
      · obtain ⟨q1, q2, q3, q4, q5⟩ := t6 w
        have := (h3 u t hu ht c).1 w (Or.inl s)
        rw [own_u_n (far _ (by omega) (by omega) this)]
        exact ⟨q1, q2, q3, q4, q5⟩
      · obtain ⟨q1, q2, q3, q4, q5⟩ := t7 w
        rw [own_u_n (far _ (by omega) (by omega) (by omega))]
        exact ⟨q1, q2, q3, q4, q5⟩
  · intro x y hx hy n
    have g := h3 x y hx hy n
    by_cases c : x = t
    · subst c
      rw [own_u_t, own_u_n (show ¬ y = x from fun z => n z.symm)]
      exact ⟨fun _ w => g.1 (Or.inl s) w, fun w => by omega⟩
    · by_cases d : y = t
      · subst d
        rw [own_u_t, own_u_n c]
        exact ⟨fun w _ => g.1 w (Or.inl s), fun _ w => by omega⟩
      · rw [own_u_n c, own_u_n d]; exact g
  · intro q q1 q2 q3
    have ne : ¬ q = P t := fun z => by
      have := q3 t ht
      rw [own_u_t] at this
      exact this (Or.inr rfl) z.symm
    rw [own_u_n (far _ (by omega) (by omega) ne)]
    refine h4 q q1 q2 (fun u hu w => ?_)
    by_cases c : u = t
    · subst c; exact fun z => ne z.symm
    · have := q3 u hu
      rw [own_u_n c] at this
      exact this w
  · intro q q1 q2 q3
    refine h5 q q1 q2 (fun u hu w => ?_)
    have c : ¬ u = t := fun c => by subst c; omega
    have := q3 u hu
    rw [own_u_n c] at this
    exact this w
theorem own_s16 {C N : Nat} {sl : Nat → Nat} {z : Int32} {S P : Nat → Nat} {Lv E U : Nat → Int32} {a b : Nat} {V : Nat → Int32} {t : Nat} (hs : own_sl C sl) (h : own_R C N sl z S P Lv E U a b V) (ht : t < N) (ha : a < 900000) (s : S t = 16) :
    own_R C N sl z (own_u S t 0) P Lv (own_u E (sl (P t)) (own_p z (P t + 1))) U a b V := by
  obtain ⟨h1, h2, h3, h4, h5⟩ := h
  have C2 := hs.2.2.2.1
  obtain ⟨p1, p2, p3, p4, p5⟩ := (h2 t ht).2.2.2.2.2.1 (Or.inr s)
  have far : ∀ p, a ≤ p + C → p < a → ¬ p = P t → ¬ sl p = sl (P t) := fun p w1 w2 w3 => own_far hs w3 (by omega) (by omega)
  refine ⟨h1, ?_, ?_, ?_, ?_⟩
  · intro u hu
    by_cases c : u = t
    · subst c
      rw [own_u_t]
      exact ⟨by omega, by omega, by omega, by omega, by omega, by omega, by omega⟩
    · rw [own_u_n c]
      obtain ⟨t1, t2, t3, t4, t5, t6, t7⟩ := h2 u hu
      refine ⟨t1, t2, fun x y => ?_, t4, fun x y => ?_, fun w => ?_, fun w => ?_⟩
      · have z := t3 x y
        rw [own_u_n (fun m => by rw [m, p3] at z; exact own_pne (by omega) (by omega) (by omega) z)]
        exact z
      · have z := t5 x y
        rw [own_u_n (fun m => by rw [m, p3] at z; have := own_pi (by omega) (by omega) z; first | omega | exact own_far hs (by omega) (by omega) (by omega) m)]
        exact z
      · obtain ⟨q1, q2, q3, q4, q5⟩ := t6 w
        have := (h3 u t hu ht c).1 w (Or.inr s)
        rw [own_u_n (far _ (by omega) (by omega) this)]
        exact ⟨q1, q2, q3, q4, q5⟩
      · obtain ⟨q1, q2, q3, q4, q5⟩ := t7 w
        rw [own_u_n (far _ (by omega) (by omega) (by omega))]
        exact ⟨q1, q2, q3, q4, q5⟩
  · intro x y hx hy n
    have g := h3 x y hx hy n
    by_cases c : x = t
    · subst c
      rw [own_u_t]
      exact ⟨fun w => by omega, fun w => by omega⟩
    · by_cases d : y = t
      · subst d
        rw [own_u_t, own_u_n c]
        exact ⟨fun _ w => by omega, fun _ w => by omega⟩
      · rw [own_u_n c, own_u_n d]; exact g
  · intro q q1 q2 q3
    by_cases ne : q = P t
    · subst ne
      rw [own_u_t]
      exact ⟨rfl, p5 s⟩
    · rw [own_u_n (far _ (by omega) (by omega) ne)]
      refine h4 q q1 q2 (fun u hu w => ?_)
      by_cases c : u = t
      · subst c; exact fun z => ne z.symm
      · have := q3 u hu
        rw [own_u_n c] at this
        exact this w
  · intro q q1 q2 q3
    rw [own_u_n (far _ (by omega) (by omega) (by omega))]
    refine h5 q q1 q2 (fun u hu w => ?_)
    have c : ¬ u = t := fun c => by subst c; omega
    have := q3 u hu
    rw [own_u_n c] at this
    exact this w
theorem own_s25 {C N : Nat} {sl : Nat → Nat} {z : Int32} {S P : Nat → Nat} {Lv E U : Nat → Int32} {a b : Nat} {V : Nat → Int32} {t : Nat} (hs : own_sl C sl) (h : own_R C N sl z S P Lv E U a b V) (ht : t < N) (s : S t = 25) :
    own_R C N sl z (own_u S t 26) P (own_u Lv t (U (sl (P t)))) E U a b V := by
  obtain ⟨h1, h2, h3, h4, h5⟩ := h
  have C2 := hs.2.2.2.1
  obtain ⟨p1, p2, p3, p4, _⟩ := (h2 t ht).2.2.2.2.2.2 (Or.inl s)
  refine ⟨h1, ?_, ?_, ?_, ?_⟩
  · intro u hu
    by_cases c : u = t
    · subst c
      rw [own_u_t, own_u_t]
      exact ⟨by omega, by omega, by omega, by omega, by omega, by omega, fun _ => ⟨p1, p2, p3, by omega, fun _ => p4 s⟩⟩
    · rw [own_u_n c, own_u_n c]
      exact h2 u hu
  · intro x y hx hy n
    have g := h3 x y hx hy n
    by_cases c : x = t
    · subst c
      rw [own_u_t, own_u_n (show ¬ y = x from fun z => n z.symm)]
      exact ⟨fun w => by omega, fun _ w => g.2 (Or.inl s) w⟩
    · by_cases d : y = t
      · subst d
        rw [own_u_t, own_u_n c]
        exact ⟨fun _ w => by omega, fun w _ => g.2 w (Or.inl s)⟩
      · rw [own_u_n c, own_u_n d]; exact g
  · intro q q1 q2 q3
    refine h4 q q1 q2 (fun u hu w => ?_)
    have c : ¬ u = t := fun c => by subst c; omega
    have := q3 u hu
    rw [own_u_n c] at this
    exact this w
  · intro q q1 q2 q3
    have ne : ¬ q = P t := fun z => by
      have := q3 t ht
      rw [own_u_t] at this
      exact this (Or.inr rfl) z.symm
    refine h5 q q1 q2 (fun u hu w => ?_)
    by_cases c : u = t
    · subst c; exact fun z => ne z.symm
    · have := q3 u hu
      rw [own_u_n c] at this
      exact this w
theorem own_s26 {C N : Nat} {sl : Nat → Nat} {z : Int32} {S P : Nat → Nat} {Lv E U : Nat → Int32} {a b : Nat} {V : Nat → Int32} {t : Nat} (hs : own_sl C sl) (h : own_R C N sl z S P Lv E U a b V) (ht : t < N) (ha : a < 900000) (s : S t = 26) :
    own_R C N sl z (own_u S t 0) P Lv (own_u E (sl (P t)) (own_p z (P t + C))) U a b V := by
  obtain ⟨h1, h2, h3, h4, h5⟩ := h
  have C2 := hs.2.2.2.1
  obtain ⟨p1, p2, p3, p4, p5⟩ := (h2 t ht).2.2.2.2.2.2 (Or.inr s)
  have far : ∀ p, a ≤ p + C → p < a → ¬ p = P t → ¬ sl p = sl (P t) := fun p w1 w2 w3 => own_far hs w3 (by omega) (by omega)
  refine ⟨h1, ?_, ?_, ?_, ?_⟩
  · intro u hu
    by_cases c : u = t
    · subst c
      rw [own_u_t]
      exact ⟨by omega, by omega, by omega, by omega, by omega, by omega, by omega⟩
    · rw [own_u_n c]
      obtain ⟨t1, t2, t3, t4, t5, t6, t7⟩ := h2 u hu
      refine ⟨t1, t2, fun x y => ?_, t4, fun x y => ?_, fun w => ?_, fun w => ?_⟩
      · have z := t3 x y
        rw [own_u_n (fun m => by rw [m, p3] at z; have := own_pi (by omega) (by omega) z; first | omega | exact own_far hs (by omega) (by omega) (by omega) m)]
        exact z
      · have z := t5 x y
        rw [own_u_n (fun m => by rw [m, p3] at z; have := own_pi (by omega) (by omega) z; first | omega | exact own_far hs (by omega) (by omega) (by omega) m)]
        exact z
      · obtain ⟨q1, q2, q3, q4, q5⟩ := t6 w
        rw [own_u_n (far _ (by omega) (by omega) (by omega))]
        exact ⟨q1, q2, q3, q4, q5⟩
      · obtain ⟨q1, q2, q3, q4, q5⟩ := t7 w
        have := (h3 u t hu ht c).2 w (Or.inr s)
        rw [own_u_n (far _ (by omega) (by omega) this)]
        exact ⟨q1, q2, q3, q4, q5⟩
  · intro x y hx hy n
    have g := h3 x y hx hy n
    by_cases c : x = t
    · subst c
      rw [own_u_t]
      exact ⟨fun w => by omega, fun w => by omega⟩
    · by_cases d : y = t
      · subst d
        rw [own_u_t, own_u_n c]
        exact ⟨fun _ w => by omega, fun _ w => by omega⟩
      · rw [own_u_n c, own_u_n d]; exact g
  · intro q q1 q2 q3
    rw [own_u_n (far _ (by omega) (by omega) (by omega))]
    refine h4 q q1 q2 (fun u hu w => ?_)
    have c : ¬ u = t := fun c => by subst c; omega
    have := q3 u hu
    rw [own_u_n c] at this
    exact this w
  · intro q q1 q2 q3
    by_cases ne : q = P t
    · subst ne
      rw [own_u_t]
    · rw [own_u_n (far _ (by omega) (by omega) ne)]
      refine h5 q q1 q2 (fun u hu w => ?_)
      by_cases c : u = t
      · subst c; exact fun z => ne z.symm
      · have := q3 u hu
        rw [own_u_n c] at this
        exact this w

/-! ## how the order grows -/
def own_cl (k : Nat) : Prop := k = 15 ∨ k = 16 ∨ k = 25 ∨ k = 26
theorem own_L5_e {p : own_PS} {lam : List Nat} {R : Nat → Int32 × Int32} {st t : Nat} {lv vp vp' : Int32} (h : own_L5 p lam R st lv vp t) (hv : (st = 25 ∨ st = 26) → vp' = vp) : own_L5 p lam R st lv vp' t := by
  rcases h with h | ⟨h0, o, h1, h2, h3, h4, h5, h6, h7⟩
  · exact Or.inl h
  · exact Or.inr ⟨h0, o, h1, h2, h3, h4, h5, fun w => by rw [hv w]; exact h6 w, h7⟩
def own_LX (C N : Nat) (p : own_PS) (q0 : List Int32) (lam : List Nat) (R : Nat → Int32 × Int32) (S : Nat → Nat) (Lv vp : Nat → Int32) (ct : List Int32) (t o : Nat) : Prop :=
  (lam.Nodup ∧ ∀ o ∈ lam, o < p.1) ∧ own_sim C p.2.1 R q0 lam = some ct ∧
  (∀ o x, o < p.1 → p.2.2.1 o = some x → o ∈ lam ∧ R o = x.2) ∧
  (∀ l1 c l2, lam = l1 ++ c :: l2 → ∀ o x, o < p.1 → p.2.2.1 o = some x → x.1 < (p.2.1 c).2.2 → o ∈ l1) ∧
  (∀ u, u < N → ¬ u = t → own_L5 p lam R (S u) (Lv u) (vp u) u) ∧
  (∀ t u o, t < N → u < N → ¬ t = u → p.2.2.2 t = some o → ¬ p.2.2.2 u = some o) ∧
  p.2.2.2 t = some o ∧ p.2.2.1 o = none ∧ o < p.1
theorem own_op1 {C N : Nat} {p : own_PS} {q0 : List Int32} {lam : List Nat} {R : Nat → Int32 × Int32} {S P : Nat → Nat} {Lv V : Nat → Int32} {a b t : Nat} (I : own_LI C N p q0 lam R S P Lv V a b) (ht : t < N) (s0 : ¬ S t = 0) : ∃ o, p.2.2.2 t = some o ∧ p.2.2.1 o = none ∧ (p.2.1 o).1 = (if S t ≤ 16 then 1 else 2) ∧ (S t ≤ 16 → (p.2.1 o).2.1 = Lv t) ∧ ((S t = 15 ∨ S t = 16) → o ∈ lam ∧ R o = (1, 0)) ∧ ((S t = 25 ∨ S t = 26) → o ∈ lam ∧ R o = (1, V (P t))) ∧ (¬ (S t = 15 ∨ S t = 16 ∨ S t = 25 ∨ S t = 26) → ¬ o ∈ lam) := by
  rcases I.2.2.2.2.1 t ht with h | h
  · exact absurd h.1 s0
  · exact h.2
theorem own_lx1 {C N : Nat} {p : own_PS} {q0 : List Int32} {lam : List Nat} {R : Nat → Int32 × Int32} {S P : Nat → Nat} {Lv V : Nat → Int32} {a b t o : Nat} (I : own_LI C N p q0 lam R S P Lv V a b) (e1 : p.2.2.2 t = some o) (e2 : p.2.2.1 o = none) (e3 : o < p.1) : own_LX C N p q0 lam R S Lv (fun u => V (P u)) (own_ct V b (a - b)) t o :=
  ⟨I.1, I.2.1, I.2.2.1, I.2.2.2.1, fun u hu _ => I.2.2.2.2.1 u hu, I.2.2.2.2.2, e1, e2, e3⟩
theorem own_lx2 {C N : Nat} {p : own_PS} {q0 ct : List Int32} {lam : List Nat} {R : Nat → Int32 × Int32} {S P : Nat → Nat} {Lv V : Nat → Int32} {a b t o : Nat} {r : Int32 × Int32} (I : own_LI C N p q0 lam R S P Lv V a b) (ht : t < N) (e1 : p.2.2.2 t = some o) (e2 : p.2.2.1 o = none) (e3 : o < p.1) (no : ¬ o ∈ lam) (sm : own_smR C p.2.1 (own_u R o r) (own_ct V b (a - b)) o = some ct) : own_LX C N p q0 (lam ++ [o]) (own_u R o r) S Lv (fun u => V (P u)) ct t o := by
  obtain ⟨⟨i1, i2⟩, i3, i4, i5, i6, i7⟩ := I
  have ne : ∀ x ∈ lam, ¬ x = o := fun x hx w => no (by rw [← w]; exact hx)
  refine ⟨⟨?_, fun x hx => ?_⟩, ?_, fun x y hx hy => ?_, fun l1 c l2 e x y hx hy lt => ?_, fun u hu nu => ?_, i7, e1, e2, e3⟩
  · rw [List.nodup_append]
    exact ⟨i1, by simp, fun x hx y hy w => ne x hx (by rw [w]; simpa using hy)⟩
  · rcases List.mem_append.mp hx with w | w
    · exact i2 x w
    · have : x = o := by simpa using w
      rw [this]; exact e3
  · rw [own_sim_a, own_sim_e (inf := p.2.1) (R := R) lam q0 (fun x hx => ⟨rfl, own_u_n (ne x hx)⟩), i3, Option.bind_some]
    show (own_smR C p.2.1 (own_u R o r) _ o).bind _ = _
    rw [sm]; rfl
  · obtain ⟨a1, a2⟩ := i4 x y hx hy
    exact ⟨List.mem_append_left _ a1, by rw [own_u_n (ne x a1)]; exact a2⟩
  · have mx := (i4 x y hx hy).1
    rcases List.append_eq_append_iff.mp e with ⟨a', h1, h2⟩ | ⟨c', h1, h2⟩
    · cases a' with
      | nil =>
        simp at h1 h2
        rw [h1]; exact mx
      | cons z a' =>
        simp at h2
    · cases c' with
      | nil =>
        simp at h1 h2
        rw [← h1]; exact mx
      | cons z c' =>
        have hz := List.cons.inj h2
        rw [← hz.1] at h1
        exact i5 l1 c c' h1 x y hx hy lt
  · rcases i6 u hu with w | ⟨w0, x, w1, w2, w3, w4, w5, w6, w7⟩
    · exact Or.inl w
    · have xo : ¬ x = o := fun z => i7 u t x hu ht nu w1 (by rw [z]; exact e1)
      exact Or.inr ⟨w0, x, w1, w2, w3, w4, fun z => ⟨List.mem_append_left _ (w5 z).1, by rw [own_u_n xo]; exact (w5 z).2⟩, fun z => ⟨List.mem_append_left _ (w6 z).1, by rw [own_u_n xo]; exact (w6 z).2⟩, fun z m => by
        rcases List.mem_append.mp m with v | v
        · exact w7 z v
        · exact xo (by simpa using v)⟩
/-- back to the order, t goes on -/
theorem own_lx4 {C N : Nat} {p : own_PS} {q0 ct : List Int32} {lam : List Nat} {R : Nat → Int32 × Int32} {S S' P' : Nat → Nat} {Lv Lv' V' vp : Nat → Int32} {a' b' t o : Nat} (X : own_LX C N p q0 lam R S Lv vp ct t o) (hc : ct = own_ct V' b' (a' - b')) (ot : ∀ u, u < N → ¬ u = t → S' u = S u ∧ Lv' u = Lv u ∧ ((S u = 25 ∨ S u = 26) → V' (P' u) = vp u)) (h5 : own_L5 p lam R (S' t) (Lv' t) (V' (P' t)) t) : own_LI C N p q0 lam R S' P' Lv' V' a' b' := by
  obtain ⟨x1, x2, x3, x4, x5, x6, _⟩ := X
  refine ⟨x1, by rw [x2, hc], x3, x4, fun u hu => ?_, x6⟩
  by_cases e : u = t
  · rw [e]; exact h5
  · obtain ⟨o1, o2, o3⟩ := ot u hu e
    rw [o1, o2]
    exact own_L5_e (x5 u hu e) o3
/-- back to the order, t answers -/
theorem own_lx3 {C N h k : Nat} {p : own_PS} {q0 ct : List Int32} {lam : List Nat} {R : Nat → Int32 × Int32} {S S' P' : Nat → Nat} {Lv Lv' V' vp : Nat → Int32} {a' b' t o : Nat} {v : Int32} (X : own_LX C N p q0 lam R S Lv vp ct t o) (ht : t < N) (hinv : ∀ c, c < p.1 → (p.2.1 c).2.2 < h) (m : o ∈ lam) (r : R o = (own_stt k, v)) (k2 : ¬ k ≤ 2) (hc : ct = own_ct V' b' (a' - b')) (ot : ∀ u, u < N → ¬ u = t → S' u = S u ∧ Lv' u = Lv u ∧ ((S u = 25 ∨ S u = 26) → V' (P' u) = vp u)) (s0 : S' t = 0) : own_LI C N (own_psS h p (k, t, v)) q0 lam R S' P' Lv' V' a' b' := by
  obtain ⟨⟨x1, x1'⟩, x2, x3, x4, x5, x6, e1, e2, e3⟩ := X
  have ep : own_psS h p (k, t, v) = (p.1, p.2.1, own_u p.2.2.1 o (some (h, own_stt k, v)), own_u p.2.2.2 t none) := by
    unfold own_psS
    rw [if_neg k2]
    dsimp only
    rw [e1]
  rw [ep]
  refine ⟨⟨x1, x1'⟩, by rw [x2, hc], fun x y hx hy => ?_, fun l1 c l2 e x y hx hy lt => ?_, fun u hu => ?_, fun u w x hu hw n h1 h2 => ?_⟩
  · dsimp only at hx hy ⊢
    by_cases z : x = o
    · subst z
      rw [own_u_t] at hy
      rw [← Option.some.inj hy]
      exact ⟨m, r⟩
    · rw [own_u_n z] at hy; exact x3 x y hx hy
  · dsimp only at hx hy lt
    by_cases z : x = o
    · subst z
      rw [own_u_t] at hy
      rw [← Option.some.inj hy] at lt
      have := hinv c (x1' c (by rw [e]; simp))
      dsimp only at lt
      omega
    · rw [own_u_n z] at hy; exact x4 l1 c l2 e x y hx hy lt
  · by_cases z : u = t
    · subst z
      left
      exact ⟨s0, own_u_t _ _ _⟩
    · obtain ⟨o1, o2, o3⟩ := ot u hu z
      rw [o1, o2]
      rcases own_L5_e (x5 u hu z) o3 with w | ⟨w0, x, w1, w2, w3⟩
      · left; exact ⟨w.1, by show own_u p.2.2.2 t none u = none; rw [own_u_n z]; exact w.2⟩
      · right
        have xo : ¬ x = o := fun q => x6 u t x hu ht z w1 (by rw [q]; exact e1)
        refine ⟨w0, x, by show own_u p.2.2.2 t none u = some x; rw [own_u_n z]; exact w1, by show own_u p.2.2.1 o _ x = none; rw [own_u_n xo]; exact w2, w3⟩
  · dsimp only at h1 h2
    by_cases z : u = t
    · rw [z, own_u_t] at h1; simp at h1
    · rw [own_u_n z] at h1
      by_cases y : w = t
      · rw [y, own_u_t] at h2; simp at h2
      · rw [own_u_n y] at h2; exact x6 u w x hu hw n h1 h2
/-- a new operation -/
theorem own_lx5 {C N h k : Nat} {p : own_PS} {q0 : List Int32} {lam : List Nat} {R : Nat → Int32 × Int32} {S P : Nat → Nat} {Lv V : Nat → Int32} {a b t : Nat} {v : Int32} (I : own_LI C N p q0 lam R S P Lv V a b) (ht : t < N) (s0 : S t = 0) (hres : ∀ o x, p.2.2.1 o = some x → x.1 < h) (k2 : k = 1 ∨ k = 2) (hop : ∀ u o, p.2.2.2 u = some o → o < p.1) : own_LI C N (own_psS h p (k, t, v)) q0 lam R (own_u S t (if k = 1 then 11 else 21)) P (own_u Lv t v) V a b := by
  obtain ⟨⟨i1, i2⟩, i3, i4, i5, i6, i7⟩ := I
  have ep : own_psS h p (k, t, v) = (p.1 + 1, own_u p.2.1 p.1 (k, v, h), own_u p.2.2.1 p.1 none, own_u p.2.2.2 t (some p.1)) := by
    unfold own_psS
    rw [if_pos (show (k, t, v).1 ≤ 2 by show k ≤ 2; omega)]
  rw [ep]
  have old : ∀ x ∈ lam, ¬ x = p.1 := fun x hx w => by have := i2 x hx; omega
  refine ⟨⟨i1, fun x hx => by have := i2 x hx; show x < p.1 + 1; omega⟩, ?_, fun x y hx hy => ?_, fun l1 c l2 e x y hx hy lt => ?_, fun u hu => ?_, fun u w x hu hw n h1 h2 => ?_⟩
  · show own_sim C (own_u p.2.1 p.1 (k, v, h)) R q0 lam = _
    rw [own_sim_e (inf := p.2.1) (R := R) lam q0 (fun x hx => ⟨own_u_n (old x hx), rfl⟩), i3]
  · dsimp only at hx hy
    by_cases z : x = p.1
    · rw [z, own_u_t] at hy; simp at hy
    · rw [own_u_n z] at hy; exact i4 x y (by omega) hy
  · dsimp only at hx hy lt
    have mc : c ∈ lam := by rw [e]; simp
    rw [own_u_n (old c mc)] at lt
    by_cases z : x = p.1
    · rw [z, own_u_t] at hy; simp at hy
    · rw [own_u_n z] at hy; exact i5 l1 c l2 e x y (by omega) hy lt
  · by_cases z : u = t
    · subst z
      right
      rw [own_u_t, own_u_t]
      refine ⟨by split <;> omega, p.1, own_u_t _ _ _, own_u_t _ _ _, ?_, fun _ => ?_, fun w => ?_, fun w => ?_, fun _ w => ?_⟩
      · show (own_u p.2.1 p.1 (k, v, h) p.1).1 = _
        rw [own_u_t]
        rcases k2 with q | q <;> subst q <;> rfl
      · show (own_u p.2.1 p.1 (k, v, h) p.1).2.1 = _
        rw [own_u_t]
      · exfalso; revert w; split <;> omega
      · exfalso; revert w; split <;> omega
      · exact old p.1 w rfl
    · rw [own_u_n z, own_u_n z]
      rcases i6 u hu with w | ⟨w0, x, w1, w2, w3, w4⟩
      · left; exact ⟨w.1, by show own_u p.2.2.2 t _ u = none; rw [own_u_n z]; exact w.2⟩
      · right
        have xo : ¬ x = p.1 := fun q => by have := hop u x w1; omega
        refine ⟨w0, x, by show own_u p.2.2.2 t _ u = some x; rw [own_u_n z]; exact w1, by show own_u p.2.2.1 p.1 none x = none; rw [own_u_n xo]; exact w2, by show (own_u p.2.1 p.1 (k, v, h) x).1 = _; rw [own_u_n xo]; exact w3, ?_⟩
        show (S u ≤ 16 → (own_u p.2.1 p.1 (k, v, h) x).2.1 = Lv u) ∧ _
        rw [own_u_n xo]; exact w4
  · dsimp only at h1 h2
    by_cases z : u = t
    · rw [z, own_u_t] at h1
      have := Option.some.inj h1
      by_cases y : w = t
      · exact n (by rw [z, y])
      · rw [own_u_n y] at h2
        have := hop w x h2
        omega
    · rw [own_u_n z] at h1
      by_cases y : w = t
      · rw [y, own_u_t] at h2
        have := Option.some.inj h2
        have := hop u x h1
        omega
      · rw [own_u_n y] at h2; exact i7 u w x hu hw n h1 h2

theorem own_ls {C N : Nat} {p : own_PS} {q0 : List Int32} {lam : List Nat} {R : Nat → Int32 × Int32} {S P : Nat → Nat} {Lv V : Nat → Int32} {a b t k x : Nat} {v : Int32} (I : own_LI C N p q0 lam R S P Lv V a b) (hop : ∀ u o, p.2.2.2 u = some o → o < p.1) (ht : t < N) (s0 : ¬ S t = 0) (k0 : ¬ k = 0) (sc : ¬ own_cl (S t)) (kc : ¬ own_cl k) (sd : S t ≤ 16 ↔ k ≤ 16) (hv : k ≤ 16 → v = Lv t) : own_LI C N p q0 lam R (own_u S t k) (own_u P t x) (own_u Lv t v) V a b := by
  obtain ⟨o, e1, e2, e3, e4, e5, e6, e7⟩ := own_op1 I ht s0
  refine own_lx4 (own_lx1 I e1 e2 (hop t o e1)) rfl (fun u hu n => ⟨own_u_n n, own_u_n n, fun _ => by rw [own_u_n n]⟩) ?_
  rw [own_u_t, own_u_t, own_u_t]
  unfold own_cl at *
  refine Or.inr ⟨k0, o, e1, e2, ?_, fun w => ?_, fun w => absurd (by omega) kc, fun w => absurd (by omega) kc, fun _ => e7 sc⟩
  · rw [e3]
    by_cases c : S t ≤ 16
    · rw [if_pos c, if_pos (sd.mp c)]
    · rw [if_neg c, if_neg (fun w => c (sd.mpr w))]
  · rw [hv w]; exact e4 (sd.mpr w)
theorem own_lc {C N : Nat} {p : own_PS} {q0 : List Int32} {lam : List Nat} {R : Nat → Int32 × Int32} {S P : Nat → Nat} {Lv V : Nat → Int32} {a b t k : Nat} {v : Int32} (I : own_LI C N p q0 lam R S P Lv V a b) (hop : ∀ u o, p.2.2.2 u = some o → o < p.1) (ht : t < N) (hk : (S t = 15 ∧ k = 16 ∧ v = Lv t) ∨ (S t = 25 ∧ k = 26)) : own_LI C N p q0 lam R (own_u S t k) P (own_u Lv t v) V a b := by
  obtain ⟨o, e1, e2, e3, e4, e5, e6, e7⟩ := own_op1 I ht (by omega)
  refine own_lx4 (own_lx1 I e1 e2 (hop t o e1)) rfl (fun u hu n => ⟨own_u_n n, own_u_n n, fun _ => rfl⟩) ?_
  rw [own_u_t, own_u_t]
  rcases hk with ⟨h1, h2, h3⟩ | ⟨h1, h2⟩
  · subst h2
    refine Or.inr ⟨by omega, o, e1, e2, by rw [e3, h1]; rfl, fun _ => by rw [h3]; exact e4 (by omega), fun _ => e5 (Or.inl h1), fun w => by omega, fun w => by omega⟩
  · subst h2
    refine Or.inr ⟨by omega, o, e1, e2, by rw [e3, h1]; rfl, fun w => by omega, fun w => by omega, fun _ => e6 (Or.inl h1), fun w => by omega⟩
theorem own_lE {C N : Nat} {p : own_PS} {q0 : List Int32} {lam : List Nat} {R : Nat → Int32 × Int32} {S P : Nat → Nat} {Lv V : Nat → Int32} {a b t : Nat} (I : own_LI C N p q0 lam R S P Lv V a b) (hop : ∀ u o, p.2.2.2 u = some o → o < p.1) (ht : t < N) (s : S t = 13) (hab : b ≤ a) (hC : a < b + C) (hP : ∀ u, u < N → (S u = 25 ∨ S u = 26) → P u < a) : ∃ lam' R', own_LI C N p q0 lam' R' (own_u S t 15) P Lv (own_u V a (Lv t)) (a + 1) b := by
  obtain ⟨o, e1, e2, e3, e4, e5, e6, e7⟩ := own_op1 I ht (by omega)
  have no : ¬ o ∈ lam := e7 (by omega)
  have l := own_ct_l V (a - b) b
  rw [if_pos (by omega)] at e3
  have sm : own_smR C p.2.1 (own_u R o (1, 0)) (own_ct V b (a - b)) o = some (own_ct V b (a - b) ++ [Lv t]) := by
    unfold own_smR
    rw [if_pos e3, if_pos (by rw [l]; omega), own_u_t, if_pos rfl, e4 (by omega)]
  refine ⟨_, _, own_lx4 (own_lx2 I ht e1 e2 (hop t o e1) no sm) ?_ (fun u hu n => ⟨own_u_n n, rfl, fun w => by rw [own_u_n (by have := hP u hu w; omega)]⟩) ?_⟩
  · rw [show a + 1 - b = (a - b) + 1 by omega, own_ct_a, show b + (a - b) = a by omega, own_u_t, own_ct_e (V := V) (a - b) b (fun i h1 h2 => own_u_n (by omega))]
  · rw [own_u_t]
    exact Or.inr ⟨by omega, o, e1, e2, e3, fun _ => e4 (by omega), fun _ => ⟨by simp, own_u_t _ _ _⟩, fun w => by omega, fun w => by omega⟩
theorem own_lD {C N : Nat} {p : own_PS} {q0 : List Int32} {lam : List Nat} {R : Nat → Int32 × Int32} {S P : Nat → Nat} {Lv V : Nat → Int32} {a b t : Nat} (I : own_LI C N p q0 lam R S P Lv V a b) (hop : ∀ u o, p.2.2.2 u = some o → o < p.1) (ht : t < N) (s : S t = 23) (pe : P t = b) (hab : b < a) : ∃ lam' R', own_LI C N p q0 lam' R' (own_u S t 25) P Lv V a (b + 1) := by
  obtain ⟨o, e1, e2, e3, e4, e5, e6, e7⟩ := own_op1 I ht (by omega)
  have no : ¬ o ∈ lam := e7 (by omega)
  rw [if_neg (by omega)] at e3
  have sm : own_smR C p.2.1 (own_u R o (1, V b)) (own_ct V b (a - b)) o = some (own_ct V (b + 1) (a - (b + 1))) := by
    unfold own_smR
    rw [if_neg (by omega), show a - b = (a - (b + 1)) + 1 by omega]
    show (if own_u R o (1, V b) o = (1, V b) then _ else _) = _
    rw [own_u_t, if_pos rfl]
  refine ⟨_, _, own_lx4 (own_lx2 I ht e1 e2 (hop t o e1) no sm) rfl (fun u hu n => ⟨own_u_n n, rfl, fun w => rfl⟩) ?_⟩
  rw [own_u_t]
  exact Or.inr ⟨by omega, o, e1, e2, by rw [e3]; rfl, fun w => by omega, fun w => by omega, fun _ => ⟨by simp, by rw [own_u_t, pe]⟩, fun w => by omega⟩
theorem own_lF {C N h : Nat} {p : own_PS} {q0 : List Int32} {lam : List Nat} {R : Nat → Int32 × Int32} {S P : Nat → Nat} {Lv V : Nat → Int32} {a b t : Nat} (I : own_LI C N p q0 lam R S P Lv V a b) (hop : ∀ u o, p.2.2.2 u = some o → o < p.1) (hinv : ∀ c, c < p.1 → (p.2.1 c).2.2 < h) (ht : t < N) (s : S t = 14) (hC : a = b + C) : ∃ lam' R', own_LI C N (own_psS h p (4, t, 0)) q0 lam' R' (own_u S t 0) P Lv V a b := by
  obtain ⟨o, e1, e2, e3, e4, e5, e6, e7⟩ := own_op1 I ht (by omega)
  have no : ¬ o ∈ lam := e7 (by omega)
  have l := own_ct_l V (a - b) b
  rw [if_pos (by omega)] at e3
  have sm : own_smR C p.2.1 (own_u R o (2, 0)) (own_ct V b (a - b)) o = some (own_ct V b (a - b)) := by
    unfold own_smR
    rw [if_pos e3, if_neg (by rw [l]; omega), own_u_t, if_pos rfl]
  exact ⟨_, _, own_lx3 (own_lx2 I ht e1 e2 (hop t o e1) no sm) ht hinv (by simp) (by rw [own_u_t]; rfl) (by omega) rfl (fun u hu n => ⟨own_u_n n, rfl, fun w => rfl⟩) (own_u_t _ _ _)⟩
theorem own_lM {C N h : Nat} {p : own_PS} {q0 : List Int32} {lam : List Nat} {R : Nat → Int32 × Int32} {S P : Nat → Nat} {Lv V : Nat → Int32} {a b t : Nat} (I : own_LI C N p q0 lam R S P Lv V a b) (hop : ∀ u o, p.2.2.2 u = some o → o < p.1) (hinv : ∀ c, c < p.1 → (p.2.1 c).2.2 < h) (ht : t < N) (s : S t = 24) (hC : a = b) : ∃ lam' R', own_LI C N (own_psS h p (5, t, 0)) q0 lam' R' (own_u S t 0) P Lv V a b := by
  obtain ⟨o, e1, e2, e3, e4, e5, e6, e7⟩ := own_op1 I ht (by omega)
  have no : ¬ o ∈ lam := e7 (by omega)
  rw [if_neg (by omega)] at e3
  have sm : own_smR C p.2.1 (own_u R o (3, 0)) (own_ct V b (a - b)) o = some (own_ct V b (a - b)) := by
    unfold own_smR
    rw [if_neg (by omega), show a - b = 0 by omega]
    show (if own_u R o (3, 0) o = (3, 0) then _ else _) = _
    rw [own_u_t, if_pos rfl]
    rfl
  exact ⟨_, _, own_lx3 (own_lx2 I ht e1 e2 (hop t o e1) no sm) ht hinv (by simp) (by rw [own_u_t]; rfl) (by omega) rfl (fun u hu n => ⟨own_u_n n, rfl, fun w => rfl⟩) (own_u_t _ _ _)⟩
theorem own_lO {C N h : Nat} {p : own_PS} {q0 : List Int32} {lam : List Nat} {R : Nat → Int32 × Int32} {S P : Nat → Nat} {Lv V : Nat → Int32} {a b t : Nat} {v : Int32} (I : own_LI C N p q0 lam R S P Lv V a b) (hop : ∀ u o, p.2.2.2 u = some o → o < p.1) (hinv : ∀ c, c < p.1 → (p.2.1 c).2.2 < h) (ht : t < N) (hk : (S t = 16 ∧ v = 0) ∨ (S t = 26 ∧ v = V (P t))) : own_LI C N (own_psS h p (3, t, v)) q0 lam R (own_u S t 0) P Lv V a b := by
  obtain ⟨o, e1, e2, e3, e4, e5, e6, e7⟩ := own_op1 I ht (by omega)
  have r : o ∈ lam ∧ R o = (1, v) := by
    rcases hk with ⟨h1, h2⟩ | ⟨h1, h2⟩
    · rw [h2]; exact e5 (Or.inr h1)
    · rw [h2]; exact e6 (Or.inr h1)
  exact own_lx3 (own_lx1 I e1 e2 (hop t o e1)) ht hinv r.1 (by rw [r.2]; rfl) (by omega) rfl (fun u hu n => ⟨own_u_n n, rfl, fun w => rfl⟩) (own_u_t _ _ _)
/-- all rest: a new start -/
theorem own_lC {C N : Nat} {S P : Nat → Nat} {Lv V : Nat → Int32} {a b : Nat} {H : Nat → own_EV} (h : ∀ t, t < N → S t = 0) : own_LI C N (own_pr H 0) (own_ct V b (a - b)) [] (fun _ => (0, 0)) S P Lv V a b :=
  ⟨⟨List.nodup_nil, fun o ho => by simp at ho⟩, rfl, fun o x ho => absurd ho (Nat.not_lt_zero o), fun l1 c l2 e => by simp at e, fun t ht => Or.inl ⟨h t ht, rfl⟩, fun t u o _ _ _ w => by simp [own_pr] at w⟩

/-! ## the object -/
def own_LL (s : Q) : Prop := (s.f0.length = 8 ∧ s.f1.length = 8 ∧ s.f2.length = 4 ∧ s.f3.length = 4 ∧ s.f4.length = 4 ∧ s.f5.length = 4 ∧ s.f6.length = 4 ∧ s.f8.length = 64 ∧ s.f9.length = 64 ∧ s.f10.length = 64 ∧ s.f11.length = 8) ∧ own_SL s
def own_CF (s : Q) (C N : Nat) (sl : Nat → Nat) (z : Int32) : Prop := s.f24 = Int32.ofNat N ∧ s.f25 = Int32.ofNat C ∧ (∀ n, n < 1000000 → own_p z n &&& s.f26 = Int32.ofNat (sl n)) ∧ N ≤ 4 ∧ own_sl C sl
def own_ps (k : Nat) : Prop := (12 ≤ k ∧ k ≤ 16) ∨ (22 ≤ k ∧ k ≤ 26)
def own_K (C N : Nat) (z : Int32) (st lp lv sq vl : List Int32) (hd tl : Int32) (S P : Nat → Nat) (Lv E U : Nat → Int32) (a b : Nat) : Prop :=
  (∀ t, t < N → rd st (Int32.ofNat t) = Int32.ofNat (S t) ∧ rd lv (Int32.ofNat t) = Lv t ∧ (own_ps (S t) → rd lp (Int32.ofNat t) = own_p z (P t))) ∧
  (∀ k, k < C → rd sq (Int32.ofNat k) = E k ∧ rd vl (Int32.ofNat k) = U k) ∧ hd = own_p z b ∧ tl = own_p z a
theorem own_u_id {α : Type} (f : Nat → α) (t : Nat) : own_u f t (f t) = f := by
  funext i
  unfold own_u
  by_cases e : i = t
  · rw [if_pos e, e]
  · rw [if_neg e]
theorem own_K_thr {C N : Nat} {z : Int32} {st lp lv sq vl lp' lv' : List Int32} {hd tl : Int32} {S P : Nat → Nat} {Lv E U : Nat → Int32} {a b t k p : Nat} {v : Int32} (h : own_K C N z st lp lv sq vl hd tl S P Lv E U a b) (ht : t < N) (N4 : N ≤ 4) (l : st.length = 4) (h1 : ∀ u, u < N → ¬ u = t → rd lp' (Int32.ofNat u) = rd lp (Int32.ofNat u) ∧ rd lv' (Int32.ofNat u) = rd lv (Int32.ofNat u)) (h2 : own_ps k → rd lp' (Int32.ofNat t) = own_p z p) (h3 : rd lv' (Int32.ofNat t) = v) :
    own_K C N z (wr st (Int32.ofNat t) (Int32.ofNat k)) lp' lv' sq vl hd tl (own_u S t k) (own_u P t p) (own_u Lv t v) E U a b := by
  obtain ⟨g1, g2, g3, g4⟩ := h
  refine ⟨fun u hu => ?_, g2, g3, g4⟩
  rw [own_gw l (by decide) (by omega) (by omega)]
  by_cases e : u = t
  · subst e
    rw [if_pos rfl, own_u_t, own_u_t, own_u_t]
    exact ⟨rfl, h3, h2⟩
  · rw [if_neg e, own_u_n e, own_u_n e, own_u_n e, (h1 u hu e).1, (h1 u hu e).2]
    exact g1 u hu
theorem own_K_st {C N : Nat} {z : Int32} {st lp lv sq vl : List Int32} {hd tl : Int32} {S P : Nat → Nat} {Lv E U : Nat → Int32} {a b t k : Nat} (h : own_K C N z st lp lv sq vl hd tl S P Lv E U a b) (ht : t < N) (N4 : N ≤ 4) (l : st.length = 4) (h2 : own_ps k → own_ps (S t)) :
    own_K C N z (wr st (Int32.ofNat t) (Int32.ofNat k)) lp lv sq vl hd tl (own_u S t k) P Lv E U a b := by
  have := own_K_thr (lp' := lp) (lv' := lv) (k := k) (p := P t) (v := Lv t) h ht N4 l (fun u _ _ => ⟨rfl, rfl⟩) (fun q => (h.1 t ht).2.2 (h2 q)) (h.1 t ht).2.1
  rw [own_u_id, own_u_id] at this
  exact this
theorem own_K_sq {C N : Nat} {z : Int32} {st lp lv sq vl : List Int32} {hd tl x : Int32} {S P : Nat → Nat} {Lv E U : Nat → Int32} {a b j : Nat} (h : own_K C N z st lp lv sq vl hd tl S P Lv E U a b) (C8 : C ≤ 8) (l : sq.length = 8) (hj : j < C) :
    own_K C N z st lp lv (wr sq (Int32.ofNat j) x) vl hd tl S P Lv (own_u E j x) U a b := by
  obtain ⟨g1, g2, g3, g4⟩ := h
  refine ⟨g1, fun k hk => ?_, g3, g4⟩
  rw [own_gw l (by decide) (by omega) (by omega)]
  by_cases e : k = j
  · subst e
    rw [if_pos rfl, own_u_t]
    exact ⟨rfl, (g2 k hk).2⟩
  · rw [if_neg e, own_u_n e]
    exact g2 k hk
theorem own_K_vl {C N : Nat} {z : Int32} {st lp lv sq vl : List Int32} {hd tl x : Int32} {S P : Nat → Nat} {Lv E U : Nat → Int32} {a b j : Nat} (h : own_K C N z st lp lv sq vl hd tl S P Lv E U a b) (C8 : C ≤ 8) (l : vl.length = 8) (hj : j < C) :
    own_K C N z st lp lv sq (wr vl (Int32.ofNat j) x) hd tl S P Lv E (own_u U j x) a b := by
  obtain ⟨g1, g2, g3, g4⟩ := h
  refine ⟨g1, fun k hk => ?_, g3, g4⟩
  rw [own_gw l (by decide) (by omega) (by omega)]
  by_cases e : k = j
  · subst e
    rw [if_pos rfl, own_u_t]
    exact ⟨(g2 k hk).1, rfl⟩
  · rw [if_neg e, own_u_n e]
    exact g2 k hk
/-- how many are busy -/
def own_pd (S : Nat → Nat) : Nat → Nat
  | 0 => 0
  | k + 1 => own_pd S k + (if S k = 0 then 0 else 1)
theorem own_pd_e {S S' : Nat → Nat} : ∀ n, (∀ i, i < n → (S' i = 0 ↔ S i = 0)) → own_pd S' n = own_pd S n
  | 0, _ => rfl
  | n + 1, h => by
    unfold own_pd
    rw [own_pd_e n (fun i hi => h i (by omega))]
    by_cases c : S n = 0
    · rw [if_pos c, if_pos ((h n (by omega)).mpr c)]
    · rw [if_neg c, if_neg (fun w => c ((h n (by omega)).mp w))]
theorem own_pd_u {S : Nat → Nat} {t k : Nat} : ∀ n, t < n → own_pd (own_u S t k) n + (if S t = 0 then 0 else 1) = own_pd S n + (if k = 0 then 0 else 1)
  | 0, h => absurd h (Nat.not_lt_zero t)
  | n + 1, h => by
    unfold own_pd
    by_cases c : t = n
    · subst c
      rw [own_u_t, own_pd_e (S := S) t (fun i hi => by rw [own_u_n (by omega)])]
      omega
    · have := own_pd_u (S := S) (k := k) n (show t < n by omega)
      rw [own_u_n (show ¬ n = t from fun w => c w.symm)]
      omega
def own_SN (s : Q) (C : Nat) (q0 : List Int32) : Prop := q0.length ≤ C ∧ s.f30 = Int32.ofNat q0.length ∧ ∀ k, k < q0.length → rd s.f11 (Int32.ofNat k) = q0.getD k 0
def own_OI (C N : Nat) (sl : Nat → Nat) (z : Int32) (s : Q) (S : Nat → Nat) (A : Nat) : Prop := own_LL s ∧ own_CF s C N sl z ∧ ∃ P Lv E U a b V H h q0 lam R, own_K C N z s.f2 s.f3 s.f4 s.f0 s.f1 s.f27 s.f28 S P Lv E U a b ∧ own_R C N sl z S P Lv E U a b V ∧ own_LI C N (own_pr H h) q0 lam R S P Lv V a b ∧ own_HE s H h ∧ h + own_pd S N ≤ 64 ∧ own_SN s C q0 ∧ a ≤ A
/-- what a step leaves alone -/
def own_fz (s s' : Q) : Prop := own_LL s' ∧ s'.f24 = s.f24 ∧ s'.f25 = s.f25 ∧ s'.f26 = s.f26 ∧ s'.f11 = s.f11 ∧ s'.f30 = s.f30
theorem own_CF_f {s s' : Q} {C N : Nat} {sl : Nat → Nat} {z : Int32} (h : own_CF s C N sl z) (f : own_fz s s') : own_CF s' C N sl z := by
  unfold own_CF at *
  rw [f.2.1, f.2.2.1, f.2.2.2.1]; exact h
theorem own_as1 {C N : Nat} {sl : Nat → Nat} {z : Int32} {s s' : Q} {S' P' : Nat → Nat} {Lv' E' U' V' : Nat → Int32} {a' b' A h' : Nat} {H' : Nat → own_EV} {q0 : List Int32} {lam' : List Nat} {R' : Nat → Int32 × Int32} (CF : own_CF s C N sl z) (SN : own_SN s C q0) (f : own_fz s s') (K : own_K C N z s'.f2 s'.f3 s'.f4 s'.f0 s'.f1 s'.f27 s'.f28 S' P' Lv' E' U' a' b') (R : own_R C N sl z S' P' Lv' E' U' a' b' V') (I : own_LI C N (own_pr H' h') q0 lam' R' S' P' Lv' V' a' b') (HE : own_HE s' H' h') (pd : h' + own_pd S' N ≤ 64) (ha : a' ≤ A) : own_OI C N sl z s' S' A := by
  refine ⟨f.1, own_CF_f CF f, P', Lv', E', U', a', b', V', H', h', q0, lam', R', K, R, I, HE, pd, ?_, ha⟩
  unfold own_SN at *
  rw [f.2.2.2.2.1, f.2.2.2.2.2]; exact SN
theorem own_HE_f {s s' : Q} {H : Nat → own_EV} {h : Nat} (E : own_HE s H h) (f : s'.f8 = s.f8 ∧ s'.f9 = s.f9 ∧ s'.f10 = s.f10 ∧ s'.f29 = s.f29) : own_HE s' H h := by
  unfold own_HE at *
  rw [f.1, f.2.1, f.2.2.1, f.2.2.2]; exact E
/-- the state after an event is appended -/
def own_ap (s : Q) (k t v : Int32) : Q := (((s.s8 (wr s.f8 s.f29 k)).s9 (wr s.f9 s.f29 t)).s10 (wr s.f10 s.f29 v)).s29 (s.f29 + 1)
theorem own_apd {s : Q} {k t v : Int32} {H : Nat → own_EV} {h : Nat} (E : own_HE s H h) (h6 : h < 64) : j_append s k t v = some (own_ap s k t v) := by
  obtain ⟨⟨l1, l2, l3⟩, _, hh, _⟩ := E
  have ib : inb 64 (Int32.ofNat h) = true := own_inbN h6 (by decide)
  have n0 : ¬ Int32.ofNat h < 0 := by rw [lt32, own_n2i (by omega)]; simp only [Int32.reduceToInt]; omega
  have n6 : Int32.ofNat h < 64 := by rw [lt32, own_n2i (by omega)]; simp only [Int32.reduceToInt]; omega
  unfold j_append
  rw [if_neg (by rw [hh]; exact n0), if_pos (by rw [hh]; exact n6), if_pos (by rw [l1, hh]; exact ib), if_pos (by rw [l2, hh]; exact ib), if_pos (by rw [l3, hh]; exact ib)]
  unfold own_ap
  simp only [own_Qa]
theorem own_HE_ap {s s' : Q} {k t : Nat} {v : Int32} {H : Nat → own_EV} {h : Nat} (E : own_HE s H h) (h6 : h < 64) (hk : 1 ≤ k ∧ k ≤ 5) (ht : t < 4) (f : s'.f8 = wr s.f8 s.f29 (Int32.ofNat k) ∧ s'.f9 = wr s.f9 s.f29 (Int32.ofNat t) ∧ s'.f10 = wr s.f10 s.f29 v ∧ s'.f29 = s.f29 + 1) : own_HE s' (own_u H h (k, t, v)) (h + 1) := by
  obtain ⟨⟨l1, l2, l3⟩, _, hh, ev⟩ := E
  unfold own_HE
  rw [f.1, f.2.1, f.2.2.1, f.2.2.2, hh, own_succ]
  refine ⟨⟨by rw [len_wr]; exact l1, by rw [len_wr]; exact l2, by rw [len_wr]; exact l3⟩, by omega, rfl, fun i hi => ?_⟩
  rw [own_gw l1 (by decide) h6 (by omega), own_gw l2 (by decide) h6 (by omega), own_gw l3 (by decide) h6 (by omega)]
  by_cases c : i = h
  · subst c
    simp only [if_true, own_u_t]
    exact ⟨trivial, trivial, trivial, hk, ht⟩
  · simp only [if_neg c, own_u_n c]
    exact ev i (by omega)
def own_fs (s : Q) (t st v : Int32) : Q := (own_ap ((s.s5 (wr s.f5 t st)).s6 (wr s.f6 t v)) (j_resKind st) t v).s2 (wr s.f2 t 0)
theorem own_fin {s : Q} {t : Nat} {st v : Int32} {H : Nat → own_EV} {h : Nat} (L : own_LL s) (ht : t < 4) (E : own_HE s H h) (h6 : h < 64) : j_finish s (Int32.ofNat t) st v = some (own_fs s (Int32.ofNat t) st v) := by
  have it : inb 4 (Int32.ofNat t) = true := own_inbN ht (by decide)
  have E1 : own_HE ((s.s5 (wr s.f5 (Int32.ofNat t) st)).s6 (wr s.f6 (Int32.ofNat t) v)) H h := own_HE_f E (by simp only [own_Qa, and_self])
  have a1 := own_apd (k := j_resKind st) (t := Int32.ofNat t) (v := v) E1 h6
  have e1 : (s.s5 (wr s.f5 (Int32.ofNat t) st)).s6 (wr s.f6 (Int32.ofNat t) v) = Q.mk s.f0 s.f1 s.f2 s.f3 s.f4 (wr s.f5 (Int32.ofNat t) st) (wr s.f6 (Int32.ofNat t) v) s.f7 s.f8 s.f9 s.f10 s.f11 s.f12 s.f13 s.f14 s.f15 s.f16 s.f17 s.f18 s.f19 s.f20 s.f21 s.f22 s.f23 s.f24 s.f25 s.f26 s.f27 s.f28 s.f29 s.f30 s.f31 s.f32 := by simp only [own_Qa]
  unfold own_fs
  unfold j_finish
  rw [if_pos (by rw [L.1.2.2.2.2.2.1]; exact it), if_pos (by rw [L.1.2.2.2.2.2.2.1]; exact it)]
  rw [e1] at a1 ⊢
  rw [a1, Option.bind_some, if_pos]
  · unfold own_ap
    simp only [own_Qa]
  · unfold own_ap
    simp only [own_Qa]
    rw [L.1.2.2.1]; exact it
theorem own_fz_fs {s : Q} {t st v : Int32} (L : own_LL s) : own_fz s (own_fs s t st v) := by
  obtain ⟨L0, L1⟩ := L
  unfold own_SL at L1
  unfold own_fz own_LL own_SL own_fs own_ap
  simp only [own_Qa, len_wr, L0, L1, and_self]
theorem own_HE_fs {s : Q} {t k : Nat} {st v : Int32} {H : Nat → own_EV} {h : Nat} (E : own_HE s H h) (h6 : h < 64) (hk : 1 ≤ k ∧ k ≤ 5) (ht : t < 4) (ek : j_resKind st = Int32.ofNat k) : own_HE (own_fs s (Int32.ofNat t) st v) (own_u H h (k, t, v)) (h + 1) :=
  own_HE_ap E h6 hk ht (by unfold own_fs own_ap; rw [ek]; simp only [own_Qa, and_self])

theorem own_pd_p {S : Nat → Nat} {t n : Nat} (h : t < n) (s : ¬ S t = 0) : 1 ≤ own_pd S n := by
  have := own_pd_u (S := S) (k := 0) n h
  rw [if_neg s, if_pos rfl] at this
  omega
def own_out (C N : Nat) (sl : Nat → Nat) (z : Int32) (s : Q) (S : Nat → Nat) (A t : Nat) : Prop := ∃ r s' S', j_doStep s (Int32.ofNat t) = some (r, s') ∧ own_OI C N sl z s' S' (A + 1) ∧ ((r = 0 ∧ 11 ≤ S' t) ∨ r = 1)
theorem own_s0 {x y : Int32} (h : x - y = 0) : x = y := by grind
theorem own_d11 {C N : Nat} {sl : Nat → Nat} {z : Int32} {s : Q} {S : Nat → Nat} {A t : Nat} (O : own_OI C N sl z s S A) (ht : t < N) (hA : A < 800000) (e : S t = 11) : own_out C N sl z s S A t := by
  obtain ⟨L, CF, P, Lv, E, U, a, b, V, H, h, q0, lam, R, K, RR, I, HE, pd, SN, ha⟩ := O
  have hop := own_pr_o H h
  have hinv := own_pr_i H h
  have N4 := CF.2.2.2.1
  have hs := CF.2.2.2.2
  have C8 := hs.2.2.2.2
  have C2 := hs.2.2.2.1
  have it : inb 4 (Int32.ofNat t) = true := own_inbN (by omega) (by decide)
  have L0 := L.1
  have L1 := L.2
  unfold own_SL at L1
  have stt : rd s.f2 (Int32.ofNat t) = 11 := by rw [(K.1 t ht).1, e]; rfl
  have T := RR.2.1 t ht
  have b0 := RR.1
  rw [e] at T
  have p1 := own_pd_p ht (show ¬ S t = 0 by omega)
  have pu := fun k => own_pd_u (S := S) (k := k) N ht
  have D : j_doStep s (Int32.ofNat t) = (j_enqStep s (Int32.ofNat t) 11).bind fun p => some (p.1 &&& 1, p.2) := by
    unfold j_doStep
    rw [L0.2.2.1, if_pos it, stt, if_neg (by decide), if_neg (by decide)]
  unfold j_enqStep at D
  rw [L0.2.2.2.1, if_pos it, if_pos rfl] at D
  rw [if_pos it, L0.2.2.1, if_pos it, Option.bind_some, show (0:Int32) &&& 1 = 0 from by decide] at D
  have so := own_soft (k := 12) (p := a) (v := Lv t) hs RR ht (by omega) (by omega) ⟨by omega, by omega, by omega, by omega, by omega, by omega, by omega⟩
  have li := own_ls (k := 12) (x := a) (v := Lv t) I hop ht (by omega) (by omega) (by unfold own_cl; omega) (by unfold own_cl; omega) (by omega) (fun _ => rfl)
  have pk := pu 12
  rw [if_neg (by omega), if_neg (by omega)] at pk
  refine ⟨0, _, _, D, own_as1 (h' := h) (H' := H) CF SN ?_ ?_ so li (own_HE_f HE ?_) (by omega) (by omega), Or.inl ⟨rfl, by rw [own_u_t]; omega⟩⟩
  · unfold own_fz own_LL own_SL; simp only [own_Qa, len_wr, L0, L1, and_self]
  · simp only [own_Qa]
    exact own_K_thr (k := 12) (p := a) (v := Lv t) K ht N4 L0.2.2.1 (fun u hu n => ⟨by rw [own_gw L0.2.2.2.1 (by decide) (by omega) (by omega), if_neg n], rfl⟩) (fun _ => by rw [own_gw L0.2.2.2.1 (by decide) (by omega) (by omega), if_pos rfl]; exact K.2.2.2) (K.1 t ht).2.1
  · simp only [own_Qa, and_self]
theorem own_d21 {C N : Nat} {sl : Nat → Nat} {z : Int32} {s : Q} {S : Nat → Nat} {A t : Nat} (O : own_OI C N sl z s S A) (ht : t < N) (hA : A < 800000) (e : S t = 21) : own_out C N sl z s S A t := by
  obtain ⟨L, CF, P, Lv, E, U, a, b, V, H, h, q0, lam, R, K, RR, I, HE, pd, SN, ha⟩ := O
  have hop := own_pr_o H h
  have hinv := own_pr_i H h
  have N4 := CF.2.2.2.1
  have hs := CF.2.2.2.2
  have C8 := hs.2.2.2.2
  have C2 := hs.2.2.2.1
  have it : inb 4 (Int32.ofNat t) = true := own_inbN (by omega) (by decide)
  have L0 := L.1
  have L1 := L.2
  unfold own_SL at L1
  have stt : rd s.f2 (Int32.ofNat t) = 21 := by rw [(K.1 t ht).1, e]; rfl
  have T := RR.2.1 t ht
  have b0 := RR.1
  rw [e] at T
  have p1 := own_pd_p ht (show ¬ S t = 0 by omega)
  have pu := fun k => own_pd_u (S := S) (k := k) N ht
  have D : j_doStep s (Int32.ofNat t) = (j_deqStep s (Int32.ofNat t) 21).bind fun p => some (p.1 &&& 1, p.2) := by
    unfold j_doStep j_doStep_b26
    rw [L0.2.2.1, if_pos it, stt, if_neg (by decide), if_pos (by decide), if_neg (by decide), if_neg (by decide)]
  unfold j_deqStep at D
  rw [L0.2.2.2.1, if_pos it, if_pos rfl] at D
  rw [if_pos it, L0.2.2.1, if_pos it, Option.bind_some, show (0:Int32) &&& 1 = 0 from by decide] at D
  have so := own_soft (k := 22) (p := b) (v := Lv t) hs RR ht (by omega) (by omega) ⟨by omega, by omega, by omega, by omega, by omega, by omega, by omega⟩
  have li := own_ls (k := 22) (x := b) (v := Lv t) I hop ht (by omega) (by omega) (by unfold own_cl; omega) (by unfold own_cl; omega) (by omega) (fun _ => rfl)
  have pk := pu 22
  rw [if_neg (by omega), if_neg (by omega)] at pk
  refine ⟨0, _, _, D, own_as1 (h' := h) (H' := H) CF SN ?_ ?_ so li (own_HE_f HE ?_) (by omega) (by omega), Or.inl ⟨rfl, by rw [own_u_t]; omega⟩⟩
  · unfold own_fz own_LL own_SL; simp only [own_Qa, len_wr, L0, L1, and_self]
  · simp only [own_Qa]
    exact own_K_thr (k := 22) (p := b) (v := Lv t) K ht N4 L0.2.2.1 (fun u hu n => ⟨by rw [own_gw L0.2.2.2.1 (by decide) (by omega) (by omega), if_neg n], rfl⟩) (fun _ => by rw [own_gw L0.2.2.2.1 (by decide) (by omega) (by omega), if_pos rfl]; exact K.2.2.1) (K.1 t ht).2.1
  · simp only [own_Qa, and_self]
theorem own_d12 {C N : Nat} {sl : Nat → Nat} {z : Int32} {s : Q} {S : Nat → Nat} {A t : Nat} (O : own_OI C N sl z s S A) (ht : t < N) (hA : A < 800000) (e : S t = 12) : own_out C N sl z s S A t := by
  obtain ⟨L, CF, P, Lv, E, U, a, b, V, H, h, q0, lam, R, K, RR, I, HE, pd, SN, ha⟩ := O
  have hop := own_pr_o H h
  have hinv := own_pr_i H h
  have N4 := CF.2.2.2.1
  have hs := CF.2.2.2.2
  have C8 := hs.2.2.2.2
  have C2 := hs.2.2.2.1
  have it : inb 4 (Int32.ofNat t) = true := own_inbN (by omega) (by decide)
  have L0 := L.1
  have L1 := L.2
  unfold own_SL at L1
  have stt : rd s.f2 (Int32.ofNat t) = 12 := by rw [(K.1 t ht).1, e]; rfl
  have T := RR.2.1 t ht
  have b0 := RR.1
  rw [e] at T
  have p1 := own_pd_p ht (show ¬ S t = 0 by omega)
  have pu := fun k => own_pd_u (S := S) (k := k) N ht
  have lpt : rd s.f3 (Int32.ofNat t) = own_p z (P t) := (K.1 t ht).2.2 (by unfold own_ps; omega)
  have pb : P t < 1000000 := by have := T.2.1; have := T.2.2.2.1; omega
  have sb : sl (P t) < C := hs.2.2.1 (P t)
  have D : j_doStep s (Int32.ofNat t) = (j_enqStep s (Int32.ofNat t) 12).bind fun p => some (p.1 &&& 1, p.2) := by
    unfold j_doStep
    rw [L0.2.2.1, if_pos it, stt, if_neg (by decide), if_neg (by decide)]
  unfold j_enqStep at D
  rw [L0.2.2.2.1, if_pos it, if_neg (by decide), if_pos rfl] at D
  rw [lpt, CF.2.2.1 _ pb, L0.1, if_pos (own_inbN (by omega) (by decide)), (K.2.1 _ sb).1] at D
  unfold j_enqStep_b114 at D
  rw [L0.2.2.1, if_pos it, Option.bind_some, show (0:Int32) &&& 1 = 0 from by decide] at D
  by_cases x : E (sl (P t)) - own_p z (P t) = 0
  · rw [if_pos x] at D
    have so := own_soft (k := 13) (p := P t) (v := Lv t) hs RR ht (by omega) (by omega) ⟨by omega, by have := T.2.1; omega, fun _ q => by have y := own_s0 x; rw [q] at y; exact y, by omega, by omega, by omega, by omega⟩
    rw [own_u_id, own_u_id] at so
    have li := own_ls (k := 13) (x := P t) (v := Lv t) I hop ht (by omega) (by omega) (by unfold own_cl; omega) (by unfold own_cl; omega) (by omega) (fun _ => rfl)
    rw [own_u_id, own_u_id] at li
    have pk := pu 13
    rw [if_neg (by omega), if_neg (by omega)] at pk
    refine ⟨0, _, _, D, own_as1 (h' := h) (H' := H) CF SN ?_ ?_ so li (own_HE_f HE ?_) (by omega) (by omega), Or.inl ⟨rfl, by rw [own_u_t]; omega⟩⟩
    · unfold own_fz own_LL own_SL; simp only [own_Qa, len_wr, L0, L1, and_self]
    · simp only [own_Qa]
      exact own_K_st K ht N4 L0.2.2.1 (by unfold own_ps; omega)
    · simp only [own_Qa, and_self]
  · rw [if_neg x] at D
    by_cases y : E (sl (P t)) - own_p z (P t) < 0
    · rw [if_pos y] at D
      have so := own_soft (k := 14) (p := P t) (v := Lv t) hs RR ht (by omega) (by omega) ⟨by omega, by have := T.2.1; omega, by omega, by have := T.2.2.2.1; omega, by omega, by omega, by omega⟩
      rw [own_u_id, own_u_id] at so
      have li := own_ls (k := 14) (x := P t) (v := Lv t) I hop ht (by omega) (by omega) (by unfold own_cl; omega) (by unfold own_cl; omega) (by omega) (fun _ => rfl)
      rw [own_u_id, own_u_id] at li
      have pk := pu 14
      rw [if_neg (by omega), if_neg (by omega)] at pk
      refine ⟨0, _, _, D, own_as1 (h' := h) (H' := H) CF SN ?_ ?_ so li (own_HE_f HE ?_) (by omega) (by omega), Or.inl ⟨rfl, by rw [own_u_t]; omega⟩⟩
      · unfold own_fz own_LL own_SL; simp only [own_Qa, len_wr, L0, L1, and_self]
      · simp only [own_Qa]
        exact own_K_st K ht N4 L0.2.2.1 (by unfold own_ps; omega)
      · simp only [own_Qa, and_self]
    · rw [if_neg y] at D
      have so := own_soft (k := 11) (p := P t) (v := Lv t) hs RR ht (by omega) (by omega) ⟨by omega, by omega, by omega, by omega, by omega, by omega, by omega⟩
      rw [own_u_id, own_u_id] at so
      have li := own_ls (k := 11) (x := P t) (v := Lv t) I hop ht (by omega) (by omega) (by unfold own_cl; omega) (by unfold own_cl; omega) (by omega) (fun _ => rfl)
      rw [own_u_id, own_u_id] at li
      have pk := pu 11
      rw [if_neg (by omega), if_neg (by omega)] at pk
      refine ⟨0, _, _, D, own_as1 (h' := h) (H' := H) CF SN ?_ ?_ so li (own_HE_f HE ?_) (by omega) (by omega), Or.inl ⟨rfl, by rw [own_u_t]; omega⟩⟩
      · unfold own_fz own_LL own_SL; simp only [own_Qa, len_wr, L0, L1, and_self]
      · simp only [own_Qa]
        exact own_K_st K ht N4 L0.2.2.1 (by unfold own_ps; omega)
      · simp only [own_Qa, and_self]
theorem own_d22 {C N : Nat} {sl : Nat → Nat} {z : Int32} {s : Q} {S : Nat → Nat} {A t : Nat} (O : own_OI C N sl z s S A) (ht : t < N) (hA : A < 800000) (e : S t = 22) : own_out C N sl z s S A t := by
  obtain ⟨L, CF, P, Lv, E, U, a, b, V, H, h, q0, lam, R, K, RR, I, HE, pd, SN, ha⟩ := O
  have hop := own_pr_o H h
  have hinv := own_pr_i H h
  have N4 := CF.2.2.2.1
  have hs := CF.2.2.2.2
  have C8 := hs.2.2.2.2
  have C2 := hs.2.2.2.1
  have it : inb 4 (Int32.ofNat t) = true := own_inbN (by omega) (by decide)
  have L0 := L.1
  have L1 := L.2
  unfold own_SL at L1
  have stt : rd s.f2 (Int32.ofNat t) = 22 := by rw [(K.1 t ht).1, e]; rfl
  have T := RR.2.1 t ht
  have b0 := RR.1
  rw [e] at T
  have p1 := own_pd_p ht (show ¬ S t = 0 by omega)
  have pu := fun k => own_pd_u (S := S) (k := k) N ht
  have lpt : rd s.f3 (Int32.ofNat t) = own_p z (P t) := (K.1 t ht).2.2 (by unfold own_ps; omega)
  have pb : P t < 1000000 := by have := T.2.1; have := T.2.2.2.1; omega
  have sb : sl (P t) < C := hs.2.2.1 (P t)
  have D : j_doStep s (Int32.ofNat t) = (j_deqStep s (Int32.ofNat t) 22).bind fun p => some (p.1 &&& 1, p.2) := by
    unfold j_doStep j_doStep_b26
    rw [L0.2.2.1, if_pos it, stt, if_neg (by decide), if_pos (by decide), if_neg (by decide), if_neg (by decide)]
  unfold j_deqStep at D
  rw [L0.2.2.2.1, if_pos it, if_neg (by decide), if_pos rfl] at D
  rw [lpt, CF.2.2.1 _ pb, L0.1, if_pos (own_inbN (by omega) (by decide)), (K.2.1 _ sb).1] at D
  unfold j_deqStep_b116 at D
  rw [L0.2.2.1, if_pos it, Option.bind_some, show (0:Int32) &&& 1 = 0 from by decide] at D
  by_cases x : E (sl (P t)) - (own_p z (P t) + 1) = 0
  · rw [if_pos x] at D
    have so := own_soft (k := 23) (p := P t) (v := Lv t) hs RR ht (by omega) (by omega) ⟨by omega, by omega, by omega, by have := T.2.2.2.1; omega, fun _ q => by have y := own_s0 x; rw [q] at y; rw [y]; exact own_p1 z b 1, by omega, by omega⟩
    rw [own_u_id, own_u_id] at so
    have li := own_ls (k := 23) (x := P t) (v := Lv t) I hop ht (by omega) (by omega) (by unfold own_cl; omega) (by unfold own_cl; omega) (by omega) (fun _ => rfl)
    rw [own_u_id, own_u_id] at li
    have pk := pu 23
    rw [if_neg (by omega), if_neg (by omega)] at pk
    refine ⟨0, _, _, D, own_as1 (h' := h) (H' := H) CF SN ?_ ?_ so li (own_HE_f HE ?_) (by omega) (by omega), Or.inl ⟨rfl, by rw [own_u_t]; omega⟩⟩
    · unfold own_fz own_LL own_SL; simp only [own_Qa, len_wr, L0, L1, and_self]
    · simp only [own_Qa]
      exact own_K_st K ht N4 L0.2.2.1 (by unfold own_ps; omega)
    · simp only [own_Qa, and_self]
  · rw [if_neg x] at D
    by_cases y : E (sl (P t)) - (own_p z (P t) + 1) < 0
    · rw [if_pos y] at D
      have so := own_soft (k := 24) (p := P t) (v := Lv t) hs RR ht (by omega) (by omega) ⟨by omega, by have := T.2.1; omega, by omega, by have := T.2.2.2.1; omega, by omega, by omega, by omega⟩
      rw [own_u_id, own_u_id] at so
      have li := own_ls (k := 24) (x := P t) (v := Lv t) I hop ht (by omega) (by omega) (by unfold own_cl; omega) (by unfold own_cl; omega) (by omega) (fun _ => rfl)
      rw [own_u_id, own_u_id] at li
      have pk := pu 24
      rw [if_neg (by omega), if_neg (by omega)] at pk
      refine ⟨0, _, _, D, own_as1 (h' := h) (H' := H) CF SN ?_ ?_ so li (own_HE_f HE ?_) (by omega) (by omega), Or.inl ⟨rfl, by rw [own_u_t]; omega⟩⟩
      · unfold own_fz own_LL own_SL; simp only [own_Qa, len_wr, L0, L1, and_self]
      · simp only [own_Qa]
        exact own_K_st K ht N4 L0.2.2.1 (by unfold own_ps; omega)
      · simp only [own_Qa, and_self]
    · rw [if_neg y] at D
      have so := own_soft (k := 21) (p := P t) (v := Lv t) hs RR ht (by omega) (by omega) ⟨by omega, by omega, by omega, by omega, by omega, by omega, by omega⟩
      rw [own_u_id, own_u_id] at so
      have li := own_ls (k := 21) (x := P t) (v := Lv t) I hop ht (by omega) (by omega) (by unfold own_cl; omega) (by unfold own_cl; omega) (by omega) (fun _ => rfl)
      rw [own_u_id, own_u_id] at li
      have pk := pu 21
      rw [if_neg (by omega), if_neg (by omega)] at pk
      refine ⟨0, _, _, D, own_as1 (h' := h) (H' := H) CF SN ?_ ?_ so li (own_HE_f HE ?_) (by omega) (by omega), Or.inl ⟨rfl, by rw [own_u_t]; omega⟩⟩
      · unfold own_fz own_LL own_SL; simp only [own_Qa, len_wr, L0, L1, and_self]
      · simp only [own_Qa]
        exact own_K_st K ht N4 L0.2.2.1 (by unfold own_ps; omega)
      · simp only [own_Qa, and_self]
theorem own_d13 {C N : Nat} {sl : Nat → Nat} {z : Int32} {s : Q} {S : Nat → Nat} {A t : Nat} (O : own_OI C N sl z s S A) (ht : t < N) (hA : A < 800000) (e : S t = 13) : own_out C N sl z s S A t := by
  obtain ⟨L, CF, P, Lv, E, U, a, b, V, H, h, q0, lam, R, K, RR, I, HE, pd, SN, ha⟩ := O
  have hop := own_pr_o H h
  have hinv := own_pr_i H h
  have N4 := CF.2.2.2.1
  have hs := CF.2.2.2.2
  have C8 := hs.2.2.2.2
  have C2 := hs.2.2.2.1
  have it : inb 4 (Int32.ofNat t) = true := own_inbN (by omega) (by decide)
  have L0 := L.1
  have L1 := L.2
  unfold own_SL at L1
  have stt : rd s.f2 (Int32.ofNat t) = 13 := by rw [(K.1 t ht).1, e]; rfl
  have T := RR.2.1 t ht
  have b0 := RR.1
  rw [e] at T
  have p1 := own_pd_p ht (show ¬ S t = 0 by omega)
  have pu := fun k => own_pd_u (S := S) (k := k) N ht
  have lpt : rd s.f3 (Int32.ofNat t) = own_p z (P t) := (K.1 t ht).2.2 (by unfold own_ps; omega)
  have pb : P t < 1000000 := by have := T.2.1; have := T.2.2.2.1; omega
  have sb : sl (P t) < C := hs.2.2.1 (P t)
  have D : j_doStep s (Int32.ofNat t) = (j_enqStep s (Int32.ofNat t) 13).bind fun p => some (p.1 &&& 1, p.2) := by
    unfold j_doStep
    rw [L0.2.2.1, if_pos it, stt, if_neg (by decide), if_neg (by decide)]
  unfold j_enqStep at D
  rw [L0.2.2.2.1, if_pos it, if_neg (by decide), if_neg (by decide), if_pos rfl] at D
  rw [L0.2.2.1, lpt] at D
  by_cases x : s.f28 = own_p z (P t)
  · rw [if_pos x, if_pos it, Option.bind_some, show (0:Int32) &&& 1 = 0 from by decide] at D
    have pe : P t = a := (own_pi (by omega) pb (K.2.2.2.symm.trans x)).symm
    have so := own_claimE hs RR ht (by omega) e pe
    obtain ⟨lam', R', li⟩ := own_lE I hop ht e (by omega) (by have := so.1; omega) (fun u hu w => by have := (RR.2.1 u hu).2.2.2.2.2.2 w; omega)
    have pk := pu 15
    rw [if_neg (by omega), if_neg (by omega)] at pk
    refine ⟨0, _, _, D, own_as1 (h' := h) (H' := H) CF SN ?_ ?_ so li (own_HE_f HE ?_) (by omega) (by omega), Or.inl ⟨rfl, by rw [own_u_t]; omega⟩⟩
    · unfold own_fz own_LL own_SL; simp only [own_Qa, len_wr, L0, L1, and_self]
    · simp only [own_Qa]
      have q := own_K_st (k := 15) K ht N4 L0.2.2.1 (by unfold own_ps; omega)
      exact ⟨q.1, q.2.1, q.2.2.1, by rw [pe]; exact own_p1 z a 1⟩
    · simp only [own_Qa, and_self]
  · rw [if_neg x, if_pos it, Option.bind_some, show (0:Int32) &&& 1 = 0 from by decide] at D
    have so := own_soft (k := 11) (p := P t) (v := Lv t) hs RR ht (by omega) (by omega) ⟨by omega, by omega, by omega, by omega, by omega, by omega, by omega⟩
    rw [own_u_id, own_u_id] at so
    have li := own_ls (k := 11) (x := P t) (v := Lv t) I hop ht (by omega) (by omega) (by unfold own_cl; omega) (by unfold own_cl; omega) (by omega) (fun _ => rfl)
    rw [own_u_id, own_u_id] at li
    have pk := pu 11
    rw [if_neg (by omega), if_neg (by omega)] at pk
    refine ⟨0, _, _, D, own_as1 (h' := h) (H' := H) CF SN ?_ ?_ so li (own_HE_f HE ?_) (by omega) (by omega), Or.inl ⟨rfl, by rw [own_u_t]; omega⟩⟩
    · unfold own_fz own_LL own_SL; simp only [own_Qa, len_wr, L0, L1, and_self]
    · simp only [own_Qa]
      exact own_K_st K ht N4 L0.2.2.1 (by unfold own_ps; omega)
    · simp only [own_Qa, and_self]
theorem own_d23 {C N : Nat} {sl : Nat → Nat} {z : Int32} {s : Q} {S : Nat → Nat} {A t : Nat} (O : own_OI C N sl z s S A) (ht : t < N) (hA : A < 800000) (e : S t = 23) : own_out C N sl z s S A t := by
  obtain ⟨L, CF, P, Lv, E, U, a, b, V, H, h, q0, lam, R, K, RR, I, HE, pd, SN, ha⟩ := O
  have hop := own_pr_o H h
  have hinv := own_pr_i H h
  have N4 := CF.2.2.2.1
  have hs := CF.2.2.2.2
  have C8 := hs.2.2.2.2
  have C2 := hs.2.2.2.1
  have it : inb 4 (Int32.ofNat t) = true := own_inbN (by omega) (by decide)
  have L0 := L.1
  have L1 := L.2
  unfold own_SL at L1
  have stt : rd s.f2 (Int32.ofNat t) = 23 := by rw [(K.1 t ht).1, e]; rfl
  have T := RR.2.1 t ht
  have b0 := RR.1
  rw [e] at T
  have p1 := own_pd_p ht (show ¬ S t = 0 by omega)
  have pu := fun k => own_pd_u (S := S) (k := k) N ht
  have lpt : rd s.f3 (Int32.ofNat t) = own_p z (P t) := (K.1 t ht).2.2 (by unfold own_ps; omega)
  have pb : P t < 1000000 := by have := T.2.1; have := T.2.2.2.1; omega
  have sb : sl (P t) < C := hs.2.2.1 (P t)
  have D : j_doStep s (Int32.ofNat t) = (j_deqStep s (Int32.ofNat t) 23).bind fun p => some (p.1 &&& 1, p.2) := by
    unfold j_doStep j_doStep_b26
    rw [L0.2.2.1, if_pos it, stt, if_neg (by decide), if_pos (by decide), if_neg (by decide), if_neg (by decide)]
  unfold j_deqStep at D
  rw [L0.2.2.2.1, if_pos it, if_neg (by decide), if_neg (by decide), if_pos rfl] at D
  rw [L0.2.2.1, lpt] at D
  by_cases x : s.f27 = own_p z (P t)
  · rw [if_pos x, if_pos it, Option.bind_some, show (0:Int32) &&& 1 = 0 from by decide] at D
    have pe : P t = b := (own_pi (by omega) pb (K.2.2.1.symm.trans x)).symm
    have so := own_claimD hs RR ht (by omega) e pe
    obtain ⟨lam', R', li⟩ := own_lD I hop ht e pe (by have := so.1; omega)
    have pk := pu 25
    rw [if_neg (by omega), if_neg (by omega)] at pk
    refine ⟨0, _, _, D, own_as1 (h' := h) (H' := H) CF SN ?_ ?_ so li (own_HE_f HE ?_) (by omega) (by omega), Or.inl ⟨rfl, by rw [own_u_t]; omega⟩⟩
    · unfold own_fz own_LL own_SL; simp only [own_Qa, len_wr, L0, L1, and_self]
    · simp only [own_Qa]
      have q := own_K_st (k := 25) K ht N4 L0.2.2.1 (by unfold own_ps; omega)
      exact ⟨q.1, q.2.1, by rw [pe]; exact own_p1 z b 1, q.2.2.2⟩
    · simp only [own_Qa, and_self]
  · rw [if_neg x, if_pos it, Option.bind_some, show (0:Int32) &&& 1 = 0 from by decide] at D
    have so := own_soft (k := 21) (p := P t) (v := Lv t) hs RR ht (by omega) (by omega) ⟨by omega, by omega, by omega, by omega, by omega, by omega, by omega⟩
    rw [own_u_id, own_u_id] at so
    have li := own_ls (k := 21) (x := P t) (v := Lv t) I hop ht (by omega) (by omega) (by unfold own_cl; omega) (by unfold own_cl; omega) (by omega) (fun _ => rfl)
    rw [own_u_id, own_u_id] at li
    have pk := pu 21
    rw [if_neg (by omega), if_neg (by omega)] at pk
    refine ⟨0, _, _, D, own_as1 (h' := h) (H' := H) CF SN ?_ ?_ so li (own_HE_f HE ?_) (by omega) (by omega), Or.inl ⟨rfl, by rw [own_u_t]; omega⟩⟩
    · unfold own_fz own_LL own_SL; simp only [own_Qa, len_wr, L0, L1, and_self]
    · simp only [own_Qa]
      exact own_K_st K ht N4 L0.2.2.1 (by unfold own_ps; omega)
    · simp only [own_Qa, and_self]
theorem own_d14 {C N : Nat} {sl : Nat → Nat} {z : Int32} {s : Q} {S : Nat → Nat} {A t : Nat} (O : own_OI C N sl z s S A) (ht : t < N) (hA : A < 800000) (e : S t = 14) : own_out C N sl z s S A t := by
  obtain ⟨L, CF, P, Lv, E, U, a, b, V, H, h, q0, lam, R, K, RR, I, HE, pd, SN, ha⟩ := O
  have hop := own_pr_o H h
  have hinv := own_pr_i H h
  have N4 := CF.2.2.2.1
  have hs := CF.2.2.2.2
  have C8 := hs.2.2.2.2
  have C2 := hs.2.2.2.1
  have it : inb 4 (Int32.ofNat t) = true := own_inbN (by omega) (by decide)
  have L0 := L.1
  have L1 := L.2
  unfold own_SL at L1
  have stt : rd s.f2 (Int32.ofNat t) = 14 := by rw [(K.1 t ht).1, e]; rfl
  have T := RR.2.1 t ht
  have b0 := RR.1
  rw [e] at T
  have p1 := own_pd_p ht (show ¬ S t = 0 by omega)
  have pu := fun k => own_pd_u (S := S) (k := k) N ht
  have lpt : rd s.f3 (Int32.ofNat t) = own_p z (P t) := (K.1 t ht).2.2 (by unfold own_ps; omega)
  have pb : P t < 1000000 := by have := T.2.1; have := T.2.2.2.1; omega
  have sb : sl (P t) < C := hs.2.2.1 (P t)
  have D : j_doStep s (Int32.ofNat t) = (j_enqStep s (Int32.ofNat t) 14).bind fun p => some (p.1 &&& 1, p.2) := by
    unfold j_doStep
    rw [L0.2.2.1, if_pos it, stt, if_neg (by decide), if_neg (by decide)]
  unfold j_enqStep at D
  rw [L0.2.2.2.1, if_pos it, if_neg (by decide), if_neg (by decide), if_neg (by decide), if_pos rfl] at D
  have h6 : h < 64 := by omega
  rw [L0.2.2.1, if_pos it, own_fin L (show t < 4 by omega) HE h6, Option.bind_some] at D
  by_cases x : rd s.f3 (Int32.ofNat t) - s.f27 = s.f25
  · rw [if_pos x, Option.bind_some, show (1:Int32) &&& 1 = 1 from by decide] at D
    have so := own_soft (k := 0) (p := P t) (v := Lv t) hs RR ht (by omega) (by omega) ⟨by omega, by omega, by omega, by omega, by omega, by omega, by omega⟩
    rw [own_u_id, own_u_id] at so
    have pa := T.2.1 (by omega) (by omega)
    have bP : b ≤ P t := by
      apply Classical.byContradiction
      intro w
      rw [lpt, K.2.2.1, CF.2.1, own_pq (by omega)] at x
      have y := congrArg Int32.toInt x
      rw [Int32.toInt_neg, own_n2i (by omega), own_n2i (by omega), Int.bmod_def] at y
      omega
    have full : a = b + C := by
      rw [lpt, K.2.2.1, CF.2.1, own_qp bP] at x
      have := (own_eqN (by omega) (by omega)).mp x
      omega
    obtain ⟨lam', R', li⟩ := own_lF I hop hinv ht e full
    rw [← own_pr_a] at li
    have pk := pu 0
    rw [if_neg (by omega), if_pos rfl] at pk
    refine ⟨1, _, _, D, own_as1 CF SN (own_fz_fs L) ?_ so li (own_HE_fs HE h6 (by omega) (by omega) (by decide)) (by omega) (by omega), Or.inr rfl⟩
    unfold own_fs own_ap
    simp only [own_Qa]
    exact own_K_st (k := 0) K ht N4 L0.2.2.1 (by unfold own_ps; omega)
  · rw [if_neg x, Option.bind_some, show (0:Int32) &&& 1 = 0 from by decide] at D
    have so := own_soft (k := 11) (p := P t) (v := Lv t) hs RR ht (by omega) (by omega) ⟨by omega, by omega, by omega, by omega, by omega, by omega, by omega⟩
    rw [own_u_id, own_u_id] at so
    have li := own_ls (k := 11) (x := P t) (v := Lv t) I hop ht (by omega) (by omega) (by unfold own_cl; omega) (by unfold own_cl; omega) (by omega) (fun _ => rfl)
    rw [own_u_id, own_u_id] at li
    have pk := pu 11
    rw [if_neg (by omega), if_neg (by omega)] at pk
    refine ⟨0, _, _, D, own_as1 (h' := h) (H' := H) CF SN ?_ ?_ so li (own_HE_f HE ?_) (by omega) (by omega), Or.inl ⟨rfl, by rw [own_u_t]; omega⟩⟩
    · unfold own_fz own_LL own_SL; simp only [own_Qa, len_wr, L0, L1, and_self]
    · simp only [own_Qa]
      exact own_K_st K ht N4 L0.2.2.1 (by unfold own_ps; omega)
    · simp only [own_Qa, and_self]
theorem own_d24 {C N : Nat} {sl : Nat → Nat} {z : Int32} {s : Q} {S : Nat → Nat} {A t : Nat} (O : own_OI C N sl z s S A) (ht : t < N) (hA : A < 800000) (e : S t = 24) : own_out C N sl z s S A t := by
  obtain ⟨L, CF, P, Lv, E, U, a, b, V, H, h, q0, lam, R, K, RR, I, HE, pd, SN, ha⟩ := O
  have hop := own_pr_o H h
  have hinv := own_pr_i H h
  have N4 := CF.2.2.2.1
  have hs := CF.2.2.2.2
  have C8 := hs.2.2.2.2
  have C2 := hs.2.2.2.1
  have it : inb 4 (Int32.ofNat t) = true := own_inbN (by omega) (by decide)
  have L0 := L.1
  have L1 := L.2
  unfold own_SL at L1
  have stt : rd s.f2 (Int32.ofNat t) = 24 := by rw [(K.1 t ht).1, e]; rfl
  have T := RR.2.1 t ht
  have b0 := RR.1
  rw [e] at T
  have p1 := own_pd_p ht (show ¬ S t = 0 by omega)
  have pu := fun k => own_pd_u (S := S) (k := k) N ht
  have lpt : rd s.f3 (Int32.ofNat t) = own_p z (P t) := (K.1 t ht).2.2 (by unfold own_ps; omega)
  have pb : P t < 1000000 := by have := T.2.1; have := T.2.2.2.1; omega
  have sb : sl (P t) < C := hs.2.2.1 (P t)
  have D : j_doStep s (Int32.ofNat t) = (j_deqStep s (Int32.ofNat t) 24).bind fun p => some (p.1 &&& 1, p.2) := by
    unfold j_doStep j_doStep_b26
    rw [L0.2.2.1, if_pos it, stt, if_neg (by decide), if_pos (by decide), if_neg (by decide), if_neg (by decide)]
  unfold j_deqStep at D
  rw [L0.2.2.2.1, if_pos it, if_neg (by decide), if_neg (by decide), if_neg (by decide), if_pos rfl] at D
  have h6 : h < 64 := by omega
  rw [L0.2.2.1, if_pos it, own_fin L (show t < 4 by omega) HE h6, Option.bind_some] at D
  by_cases x : s.f28 = rd s.f3 (Int32.ofNat t)
  · rw [if_pos x, Option.bind_some, show (1:Int32) &&& 1 = 1 from by decide] at D
    have so := own_soft (k := 0) (p := P t) (v := Lv t) hs RR ht (by omega) (by omega) ⟨by omega, by omega, by omega, by omega, by omega, by omega, by omega⟩
    rw [own_u_id, own_u_id] at so
    have pa := T.2.2.2.1 (by omega) (by omega)
    have full : a = b := by
      rw [lpt, K.2.2.2] at x
      have := own_pi (by omega) pb x
      omega
    obtain ⟨lam', R', li⟩ := own_lM I hop hinv ht e full
    rw [← own_pr_a] at li
    have pk := pu 0
    rw [if_neg (by omega), if_pos rfl] at pk
    refine ⟨1, _, _, D, own_as1 CF SN (own_fz_fs L) ?_ so li (own_HE_fs HE h6 (by omega) (by omega) (by decide)) (by omega) (by omega), Or.inr rfl⟩
    unfold own_fs own_ap
    simp only [own_Qa]
    exact own_K_st (k := 0) K ht N4 L0.2.2.1 (by unfold own_ps; omega)
  · rw [if_neg x, Option.bind_some, show (0:Int32) &&& 1 = 0 from by decide] at D
    have so := own_soft (k := 21) (p := P t) (v := Lv t) hs RR ht (by omega) (by omega) ⟨by omega, by omega, by omega, by omega, by omega, by omega, by omega⟩
    rw [own_u_id, own_u_id] at so
    have li := own_ls (k := 21) (x := P t) (v := Lv t) I hop ht (by omega) (by omega) (by unfold own_cl; omega) (by unfold own_cl; omega) (by omega) (fun _ => rfl)
    rw [own_u_id, own_u_id] at li
    have pk := pu 21
    rw [if_neg (by omega), if_neg (by omega)] at pk
    refine ⟨0, _, _, D, own_as1 (h' := h) (H' := H) CF SN ?_ ?_ so li (own_HE_f HE ?_) (by omega) (by omega), Or.inl ⟨rfl, by rw [own_u_t]; omega⟩⟩
    · unfold own_fz own_LL own_SL; simp only [own_Qa, len_wr, L0, L1, and_self]
    · simp only [own_Qa]
      exact own_K_st K ht N4 L0.2.2.1 (by unfold own_ps; omega)
    · simp only [own_Qa, and_self]
theorem own_d15 {C N : Nat} {sl : Nat → Nat} {z : Int32} {s : Q} {S : Nat → Nat} {A t : Nat} (O : own_OI C N sl z s S A) (ht : t < N) (hA : A < 800000) (e : S t = 15) : own_out C N sl z s S A t := by
  obtain ⟨L, CF, P, Lv, E, U, a, b, V, H, h, q0, lam, R, K, RR, I, HE, pd, SN, ha⟩ := O
  have hop := own_pr_o H h
  have hinv := own_pr_i H h
  have N4 := CF.2.2.2.1
  have hs := CF.2.2.2.2
  have C8 := hs.2.2.2.2
  have C2 := hs.2.2.2.1
  have it : inb 4 (Int32.ofNat t) = true := own_inbN (by omega) (by decide)
  have L0 := L.1
  have L1 := L.2
  unfold own_SL at L1
  have stt : rd s.f2 (Int32.ofNat t) = 15 := by rw [(K.1 t ht).1, e]; rfl
  have T := RR.2.1 t ht
  have b0 := RR.1
  rw [e] at T
  have p1 := own_pd_p ht (show ¬ S t = 0 by omega)
  have pu := fun k => own_pd_u (S := S) (k := k) N ht
  have lpt : rd s.f3 (Int32.ofNat t) = own_p z (P t) := (K.1 t ht).2.2 (by unfold own_ps; omega)
  obtain ⟨p1', p2, p3, p4, p5⟩ := T.2.2.2.2.2.1 (by omega)
  have pb : P t < 1000000 := by omega
  have sb : sl (P t) < C := hs.2.2.1 (P t)
  have D : j_doStep s (Int32.ofNat t) = (j_enqStep s (Int32.ofNat t) 15).bind fun p => some (p.1 &&& 1, p.2) := by
    unfold j_doStep
    rw [L0.2.2.1, if_pos it, stt, if_neg (by decide), if_neg (by decide)]
  unfold j_enqStep at D
  rw [L0.2.2.2.1, if_pos it, if_neg (by decide), if_neg (by decide), if_neg (by decide), if_neg (by decide), if_pos rfl] at D
  rw [L0.2.2.2.2.1, if_pos it, lpt, CF.2.2.1 _ pb, L0.2.1, if_pos (own_inbN (by omega) (by decide)), L0.2.2.1, if_pos it, (K.1 t ht).2.1, Option.bind_some, show (0:Int32) &&& 1 = 0 from by decide] at D
  have so := own_s15 hs RR ht e
  have li := own_lc (k := 16) (v := Lv t) I hop ht (Or.inl ⟨e, rfl, rfl⟩)
  rw [own_u_id] at li
  have pk := pu 16
  rw [if_neg (by omega), if_neg (by omega)] at pk
  refine ⟨0, _, _, D, own_as1 (h' := h) (H' := H) CF SN ?_ ?_ so li (own_HE_f HE ?_) (by omega) (by omega), Or.inl ⟨rfl, by rw [own_u_t]; omega⟩⟩
  · unfold own_fz own_LL own_SL; simp only [own_Qa, len_wr, L0, L1, and_self]
  · simp only [own_Qa]
    exact own_K_vl (own_K_st (k := 16) K ht N4 L0.2.2.1 (by unfold own_ps; omega)) C8 L0.2.1 sb
  · simp only [own_Qa, and_self]
theorem own_d25 {C N : Nat} {sl : Nat → Nat} {z : Int32} {s : Q} {S : Nat → Nat} {A t : Nat} (O : own_OI C N sl z s S A) (ht : t < N) (hA : A < 800000) (e : S t = 25) : own_out C N sl z s S A t := by
  obtain ⟨L, CF, P, Lv, E, U, a, b, V, H, h, q0, lam, R, K, RR, I, HE, pd, SN, ha⟩ := O
  have hop := own_pr_o H h
  have hinv := own_pr_i H h
  have N4 := CF.2.2.2.1
  have hs := CF.2.2.2.2
  have C8 := hs.2.2.2.2
  have C2 := hs.2.2.2.1
  have it : inb 4 (Int32.ofNat t) = true := own_inbN (by omega) (by decide)
  have L0 := L.1
  have L1 := L.2
  unfold own_SL at L1
  have stt : rd s.f2 (Int32.ofNat t) = 25 := by rw [(K.1 t ht).1, e]; rfl
  have T := RR.2.1 t ht
  have b0 := RR.1
  rw [e] at T
  have p1 := own_pd_p ht (show ¬ S t = 0 by omega)
  have pu := fun k => own_pd_u (S := S) (k := k) N ht
  have lpt : rd s.f3 (Int32.ofNat t) = own_p z (P t) := (K.1 t ht).2.2 (by unfold own_ps; omega)
  obtain ⟨p1', p2, p3, p4, p5⟩ := T.2.2.2.2.2.2 (by omega)
  have pb : P t < 1000000 := by omega
  have sb : sl (P t) < C := hs.2.2.1 (P t)
  have D : j_doStep s (Int32.ofNat t) = (j_deqStep s (Int32.ofNat t) 25).bind fun p => some (p.1 &&& 1, p.2) := by
    unfold j_doStep j_doStep_b26
    rw [L0.2.2.1, if_pos it, stt, if_neg (by decide), if_pos (by decide), if_neg (by decide), if_neg (by decide)]
  unfold j_deqStep at D
  rw [L0.2.2.2.1, if_pos it, if_neg (by decide), if_neg (by decide), if_neg (by decide), if_neg (by decide), if_pos rfl] at D
  rw [lpt, CF.2.2.1 _ pb, L0.2.1, if_pos (own_inbN (by omega) (by decide)), L0.2.2.2.2.1, if_pos it, L0.2.2.1, if_pos it, (K.2.1 _ sb).2, Option.bind_some, show (0:Int32) &&& 1 = 0 from by decide] at D
  have so := own_s25 hs RR ht e
  have li := own_lc (k := 26) (v := U (sl (P t))) I hop ht (Or.inr ⟨e, rfl⟩)
  have pk := pu 26
  rw [if_neg (by omega), if_neg (by omega)] at pk
  refine ⟨0, _, _, D, own_as1 (h' := h) (H' := H) CF SN ?_ ?_ so li (own_HE_f HE ?_) (by omega) (by omega), Or.inl ⟨rfl, by rw [own_u_t]; omega⟩⟩
  · unfold own_fz own_LL own_SL; simp only [own_Qa, len_wr, L0, L1, and_self]
  · simp only [own_Qa]
    have q := own_K_thr (lp' := s.f3) (lv' := wr s.f4 (Int32.ofNat t) (U (sl (P t)))) (k := 26) (p := P t) (v := U (sl (P t))) K ht N4 L0.2.2.1 (fun u hu n => ⟨rfl, by rw [own_gw L0.2.2.2.2.1 (by decide) (by omega) (by omega), if_neg n]⟩) (fun _ => lpt) (by rw [own_gw L0.2.2.2.2.1 (by decide) (by omega) (by omega), if_pos rfl])
    rw [own_u_id P t] at q
    exact q
  · simp only [own_Qa, and_self]
theorem own_d16 {C N : Nat} {sl : Nat → Nat} {z : Int32} {s : Q} {S : Nat → Nat} {A t : Nat} (O : own_OI C N sl z s S A) (ht : t < N) (hA : A < 800000) (e : S t = 16) : own_out C N sl z s S A t := by
  obtain ⟨L, CF, P, Lv, E, U, a, b, V, H, h, q0, lam, R, K, RR, I, HE, pd, SN, ha⟩ := O
  have hop := own_pr_o H h
  have hinv := own_pr_i H h
  have N4 := CF.2.2.2.1
  have hs := CF.2.2.2.2
  have C8 := hs.2.2.2.2
  have C2 := hs.2.2.2.1
  have it : inb 4 (Int32.ofNat t) = true := own_inbN (by omega) (by decide)
  have L0 := L.1
  have L1 := L.2
  unfold own_SL at L1
  have stt : rd s.f2 (Int32.ofNat t) = 16 := by rw [(K.1 t ht).1, e]; rfl
  have T := RR.2.1 t ht
  have b0 := RR.1
  rw [e] at T
  have p1 := own_pd_p ht (show ¬ S t = 0 by omega)
  have pu := fun k => own_pd_u (S := S) (k := k) N ht
  have lpt : rd s.f3 (Int32.ofNat t) = own_p z (P t) := (K.1 t ht).2.2 (by unfold own_ps; omega)
  obtain ⟨p1', p2, p3, p4, p5⟩ := T.2.2.2.2.2.1 (by omega)
  have pb : P t < 1000000 := by omega
  have sb : sl (P t) < C := hs.2.2.1 (P t)
  have D : j_doStep s (Int32.ofNat t) = (j_enqStep s (Int32.ofNat t) 16).bind fun p => some (p.1 &&& 1, p.2) := by
    unfold j_doStep
    rw [L0.2.2.1, if_pos it, stt, if_neg (by decide), if_neg (by decide)]
  unfold j_enqStep at D
  rw [L0.2.2.2.1, if_pos it, if_neg (by decide), if_neg (by decide), if_neg (by decide), if_neg (by decide), if_neg (by decide), if_pos rfl] at D
  have h6 : h < 64 := by omega
  rw [lpt, CF.2.2.1 _ pb, L0.1, if_pos (own_inbN (by omega) (by decide))] at D
  rw [show own_p z (P t) + 1 = own_p z (P t + 1) from own_p1 z (P t) 1] at D
  generalize hq : Q.mk (wr s.f0 (Int32.ofNat (sl (P t))) (own_p z (P t + 1))) s.f1 s.f2 s.f3 s.f4 s.f5 s.f6 s.f7 s.f8 s.f9 s.f10 s.f11 s.f12 s.f13 s.f14 s.f15 s.f16 s.f17 s.f18 s.f19 s.f20 s.f21 s.f22 s.f23 s.f24 s.f25 s.f26 s.f27 s.f28 s.f29 s.f30 s.f31 s.f32 = q at D
  have fz : own_fz s q := by rw [← hq]; unfold own_fz own_LL own_SL; simp only [own_Qa, len_wr, L0, L1, and_self]
  have HE' : own_HE q H h := own_HE_f HE (by rw [← hq]; simp only [own_Qa, and_self])
  have CF' := own_CF_f CF fz
  have SN' : own_SN q C q0 := by unfold own_SN at *; rw [fz.2.2.2.2.1, fz.2.2.2.2.2]; exact SN
  rw [own_fin fz.1 (show t < 4 by omega) HE' h6, Option.bind_some, Option.bind_some, show (1:Int32) &&& 1 = 1 from by decide] at D
  have so := own_s16 hs RR ht (by omega) e
  have li := own_lO (v := 0) I hop hinv ht (Or.inl ⟨e, rfl⟩)
  rw [← own_pr_a] at li
  have pk := pu 0
  rw [if_neg (by omega), if_pos rfl] at pk
  refine ⟨1, _, _, D, own_as1 CF' SN' (own_fz_fs fz.1) ?_ so li (own_HE_fs HE' h6 (by omega) (by omega) (by decide)) (by omega) (by omega), Or.inr rfl⟩
  rw [← hq]
  unfold own_fs own_ap
  simp only [own_Qa]
  exact own_K_sq (own_K_st (k := 0) K ht N4 L0.2.2.1 (by unfold own_ps; omega)) C8 L0.1 sb
theorem own_d26 {C N : Nat} {sl : Nat → Nat} {z : Int32} {s : Q} {S : Nat → Nat} {A t : Nat} (O : own_OI C N sl z s S A) (ht : t < N) (hA : A < 800000) (e : S t = 26) : own_out C N sl z s S A t := by
  obtain ⟨L, CF, P, Lv, E, U, a, b, V, H, h, q0, lam, R, K, RR, I, HE, pd, SN, ha⟩ := O
  have hop := own_pr_o H h
  have hinv := own_pr_i H h
  have N4 := CF.2.2.2.1
  have hs := CF.2.2.2.2
  have C8 := hs.2.2.2.2
  have C2 := hs.2.2.2.1
  have it : inb 4 (Int32.ofNat t) = true := own_inbN (by omega) (by decide)
  have L0 := L.1
  have L1 := L.2
  unfold own_SL at L1
  have stt : rd s.f2 (Int32.ofNat t) = 26 := by rw [(K.1 t ht).1, e]; rfl
  have T := RR.2.1 t ht
  have b0 := RR.1
  rw [e] at T
  have p1 := own_pd_p ht (show ¬ S t = 0 by omega)
  have pu := fun k => own_pd_u (S := S) (k := k) N ht
  have lpt : rd s.f3 (Int32.ofNat t) = own_p z (P t) := (K.1 t ht).2.2 (by unfold own_ps; omega)
  obtain ⟨p1', p2, p3, p4, p5⟩ := T.2.2.2.2.2.2 (by omega)
  have pb : P t < 1000000 := by omega
  have sb : sl (P t) < C := hs.2.2.1 (P t)
  have D : j_doStep s (Int32.ofNat t) = (j_deqStep s (Int32.ofNat t) 26).bind fun p => some (p.1 &&& 1, p.2) := by
    unfold j_doStep j_doStep_b26
    rw [L0.2.2.1, if_pos it, stt, if_neg (by decide), if_pos (by decide), if_neg (by decide), if_neg (by decide)]
  unfold j_deqStep at D
  rw [L0.2.2.2.1, if_pos it, if_neg (by decide), if_neg (by decide), if_neg (by decide), if_neg (by decide), if_neg (by decide), if_pos rfl] at D
  have h6 : h < 64 := by omega
  rw [lpt, CF.2.1, CF.2.2.1 _ pb, L0.1, if_pos (own_inbN (by omega) (by decide)), L0.2.2.2.2.1, if_pos it, (K.1 t ht).2.1] at D
  rw [own_p1 z (P t) C, ← CF.2.1] at D
  generalize hq : Q.mk (wr s.f0 (Int32.ofNat (sl (P t))) (own_p z (P t + C))) s.f1 s.f2 s.f3 s.f4 s.f5 s.f6 s.f7 s.f8 s.f9 s.f10 s.f11 s.f12 s.f13 s.f14 s.f15 s.f16 s.f17 s.f18 s.f19 s.f20 s.f21 s.f22 s.f23 s.f24 s.f25 s.f26 s.f27 s.f28 s.f29 s.f30 s.f31 s.f32 = q at D
  have fz : own_fz s q := by rw [← hq]; unfold own_fz own_LL own_SL; simp only [own_Qa, len_wr, L0, L1, and_self]
  have HE' : own_HE q H h := own_HE_f HE (by rw [← hq]; simp only [own_Qa, and_self])
  have CF' := own_CF_f CF fz
  have SN' : own_SN q C q0 := by unfold own_SN at *; rw [fz.2.2.2.2.1, fz.2.2.2.2.2]; exact SN
  rw [own_fin fz.1 (show t < 4 by omega) HE' h6, Option.bind_some, Option.bind_some, show (1:Int32) &&& 1 = 1 from by decide] at D
  have so := own_s26 hs RR ht (by omega) e
  have li := own_lO (v := Lv t) I hop hinv ht (Or.inr ⟨e, p5 rfl⟩)
  rw [← own_pr_a] at li
  have pk := pu 0
  rw [if_neg (by omega), if_pos rfl] at pk
  refine ⟨1, _, _, D, own_as1 CF' SN' (own_fz_fs fz.1) ?_ so li (own_HE_fs HE' h6 (by omega) (by omega) (by decide)) (by omega) (by omega), Or.inr rfl⟩
  rw [← hq]
  unfold own_fs own_ap
  simp only [own_Qa]
  exact own_K_sq (own_K_st (k := 0) K ht N4 L0.2.2.1 (by unfold own_ps; omega)) C8 L0.1 sb
theorem own_do {C N : Nat} {sl : Nat → Nat} {z : Int32} {s : Q} {S : Nat → Nat} {A t : Nat} (O : own_OI C N sl z s S A) (ht : t < N) (hA : A < 800000) (hS : 11 ≤ S t) : own_out C N sl z s S A t := by
  have O0 := O
  obtain ⟨L, CF, P, Lv, E, U, a, b, V, H, h, q0, lam, R, K, RR, _⟩ := O0
  have T := (RR.2.1 t ht).1
  have : S t = 11 ∨ S t = 12 ∨ S t = 13 ∨ S t = 14 ∨ S t = 15 ∨ S t = 16 ∨ S t = 21 ∨ S t = 22 ∨ S t = 23 ∨ S t = 24 ∨ S t = 25 ∨ S t = 26 := by omega
  rcases this with e | e | e | e | e | e | e | e | e | e | e | e
  · exact own_d11 O ht hA e
  · exact own_d12 O ht hA e
  · exact own_d13 O ht hA e
  · exact own_d14 O ht hA e
  · exact own_d15 O ht hA e
  · exact own_d16 O ht hA e
  · exact own_d21 O ht hA e
  · exact own_d22 O ht hA e
  · exact own_d23 O ht hA e
  · exact own_d24 O ht hA e
  · exact own_d25 O ht hA e
  · exact own_d26 O ht hA e

theorem own_OI_m {C N : Nat} {sl : Nat → Nat} {z : Int32} {s : Q} {S : Nat → Nat} {A B : Nat} (O : own_OI C N sl z s S A) (h : A ≤ B) : own_OI C N sl z s S B := by
  obtain ⟨L, CF, P, Lv, E, U, a, b, V, H, h', q0, lam, R, K, RR, I, HE, pd, SN, ha⟩ := O
  exact ⟨L, CF, P, Lv, E, U, a, b, V, H, h', q0, lam, R, K, RR, I, HE, pd, SN, by omega⟩
theorem own_val {C N : Nat} {sl : Nat → Nat} {z : Int32} {s : Q} (CF : own_CF s C N sl z) {t : Nat} (ht : t < 100) : (t < N → j_valid s (Int32.ofNat t) = 1) ∧ (¬ t < N → j_valid s (Int32.ofNat t) = 0) := by
  have N4 := CF.2.2.2.1
  unfold j_valid
  rw [CF.1, if_neg (by rw [lt32, own_n2i (by omega)]; simp only [Int32.reduceToInt]; omega)]
  exact ⟨fun h => by rw [if_pos ((own_ltN' (by omega) (by omega)).mpr h)], fun h => by rw [if_neg (fun q => h ((own_ltN' (by omega) (by omega)).mp q))]⟩
theorem own_pdl {s : Q} {S : Nat → Nat} {N : Nat} (N4 : N ≤ 4) (en : s.f24 = Int32.ofNat N) (l : s.f2.length = 4) (hS : ∀ t, t < N → rd s.f2 (Int32.ofNat t) = Int32.ofNat (S t) ∧ S t < 100) : ∀ (r F i : Nat), 4 - i = r → r < F → i ≤ 4 → j_pending_l4 F s (Int32.ofNat (own_pd S (if i ≤ N then i else N))) (Int32.ofNat i) = some (Int32.ofNat (own_pd S N)) := by
  intro r
  induction r with
  | zero =>
    intro F i h1 h2 h3
    obtain ⟨F, rfl⟩ : ∃ m, F = m + 1 := ⟨F - 1, by omega⟩
    have : i = 4 := by omega
    subst this
    rw [j_pending_l4, if_neg (by decide)]
    by_cases c : 4 ≤ N
    · rw [if_pos c, show N = 4 by omega]
    · rw [if_neg c]
  | succ r ih =>
    intro F i h1 h2 h3
    obtain ⟨F, rfl⟩ : ∃ m, F = m + 1 := ⟨F - 1, by omega⟩
    have go := ih F (i + 1) (by omega) (by omega) (by omega)
    rw [j_pending_l4, if_pos (show Int32.ofNat i < 4 from (own_ltN' (y := 4) (by omega) (by decide)).mpr (by omega)), en]
    unfold j_pending_b29
    rw [own_succ i]
    by_cases c : i < N
    · obtain ⟨e1, e2⟩ := hS i c
      rw [if_pos ((own_ltN' (by omega) (by omega)).mpr c), l, if_pos (own_inbN (by omega) (by decide)), e1, if_pos (show i ≤ N by omega)]
      rw [if_pos (show i + 1 ≤ N by omega), own_pd] at go
      by_cases d : S i = 0
      · rw [if_pos d, Nat.add_zero] at go
        rw [if_pos (by rw [d]; rfl)]; exact go
      · rw [if_neg d] at go
        rw [if_neg (show ¬ Int32.ofNat (S i) = 0 from fun q => d ((own_eqN (y := 0) (by omega) (by decide)).mp q)), own_succ]; exact go
    · rw [if_neg (fun q => c ((own_ltN' (by omega) (by omega)).mp q))]
      rw [if_neg (show ¬ i + 1 ≤ N by omega)] at go
      by_cases d : i ≤ N
      · rw [if_pos d, show i = N by omega]
        rw [show i = N by omega] at go
        exact go
      · rw [if_neg d]; exact go
theorem own_S100 {C N : Nat} {sl : Nat → Nat} {z : Int32} {S P : Nat → Nat} {Lv E U V : Nat → Int32} {a b : Nat} (R : own_R C N sl z S P Lv E U a b V) : ∀ t, t < N → S t < 100 ∧ (S t = 0 ∨ S t = 1 ∨ 11 ≤ S t) := by
  intro t ht
  have := (R.2.1 t ht).1
  omega
theorem own_hro {C N : Nat} {sl : Nat → Nat} {z : Int32} {s : Q} {S P : Nat → Nat} {Lv E U V : Nat → Int32} {a b h : Nat} {H : Nat → own_EV} (L : own_LL s) (CF : own_CF s C N sl z) (K : own_K C N z s.f2 s.f3 s.f4 s.f0 s.f1 s.f27 s.f28 S P Lv E U a b) (R : own_R C N sl z S P Lv E U a b V) (HE : own_HE s H h) : j_hasRoom s = some (if 64 < h + own_pd S N + 2 then 0 else 1) := by
  have N4 := CF.2.2.2.1
  have h64 := HE.2.1
  have k := own_pdl N4 CF.1 L.1.2.2.1 (fun t ht => ⟨(K.1 t ht).1, (own_S100 R t ht).1⟩) 4 3000 0 (by omega) (by omega) (by omega)
  rw [if_pos (Nat.zero_le N), show Int32.ofNat (own_pd S 0) = 0 from rfl, show Int32.ofNat 0 = 0 from rfl] at k
  have pdN : own_pd S N ≤ N := by
    have : ∀ n, own_pd S n ≤ n := by
      intro n
      induction n with
      | zero => exact Nat.le_refl 0
      | succ n ih => unfold own_pd; split <;> omega
    exact this N
  unfold j_hasRoom j_pending
  rw [k, Option.bind_some, Option.bind_some, HE.2.2.1, ← Int32.ofNat_add, show (2:Int32) = Int32.ofNat 2 from rfl, ← Int32.ofNat_add]
  by_cases c : 64 < h + own_pd S N + 2
  · rw [if_pos (show (64:Int32) < Int32.ofNat (h + own_pd S N + 2) from (own_ltN' (x := 64) (by decide) (by omega)).mpr c), if_pos c]
  · rw [if_neg (show ¬ (64:Int32) < Int32.ofNat (h + own_pd S N + 2) from fun q => c ((own_ltN' (x := 64) (by decide) (by omega)).mp q)), if_neg c]
theorem own_SE {C N : Nat} {sl : Nat → Nat} {z : Int32} {s : Q} {S : Nat → Nat} {A t : Nat} {v : Int32} (O : own_OI C N sl z s S A) (ht : t < N) : ∃ r s' S', j_startEnqueue s (Int32.ofNat t) v = some (r, s') ∧ own_OI C N sl z s' S' A := by
  have O0 := O
  obtain ⟨L, CF, P, Lv, E, U, a, b, V, H, h, q0, lam, R, K, RR, I, HE, pd, SN, ha⟩ := O
  have N4 := CF.2.2.2.1
  have hs := CF.2.2.2.2
  have it : inb 4 (Int32.ofNat t) = true := own_inbN (by omega) (by decide)
  have L0 := L.1
  have L1 := L.2
  unfold own_SL at L1
  have s100 := (own_S100 RR t ht).1
  unfold j_startEnqueue
  rw [(own_val CF (show t < 100 by omega)).1 ht, if_neg (by decide), L0.2.2.1, if_pos it, (K.1 t ht).1]
  by_cases c : S t = 0
  · rw [if_pos (by rw [c]; rfl), own_hro L CF K RR HE, Option.bind_some]
    by_cases d : 64 < h + own_pd S N + 2
    · rw [if_pos d, if_pos rfl]; exact ⟨_, _, _, rfl, O0⟩
    · rw [if_neg d, if_neg (by decide), show (1:Int32) = Int32.ofNat 1 from rfl, own_apd HE (show h < 64 by omega), Option.bind_some, if_pos (by unfold own_ap; simp only [own_Qa]; rw [L0.2.2.2.2.1]; exact it), if_pos (by unfold own_ap; simp only [own_Qa]; rw [L0.2.2.1]; exact it)]
      have so := own_soft (k := 11) (p := P t) (v := v) hs RR ht (by omega) (by omega) ⟨by omega, by omega, by omega, by omega, by omega, by omega, by omega⟩
      rw [own_u_id] at so
      have li := own_lx5 (k := 1) (v := v) I ht c (fun o x hx => own_pr_r H h o x hx) (Or.inl rfl) (own_pr_o H h)
      rw [← own_pr_a, if_pos rfl] at li
      have pk := own_pd_u (S := S) (k := 11) N ht
      rw [if_pos c, if_neg (by decide)] at pk
      refine ⟨_, _, _, rfl, own_as1 CF SN ?_ ?_ so li (own_HE_ap (s := s) HE (show h < 64 by omega) (by omega) (show t < 4 by omega) ?_) (by omega) ha⟩
      · unfold own_fz own_LL own_SL own_ap; simp only [own_Qa, len_wr, L0, L1, and_self]
      · unfold own_ap
        simp only [own_Qa]
        have q := own_K_thr (lp' := s.f3) (lv' := wr s.f4 (Int32.ofNat t) v) (k := 11) (p := P t) (v := v) K ht N4 L0.2.2.1 (fun u hu n => ⟨rfl, by rw [own_gw L0.2.2.2.2.1 (by decide) (by omega) (by omega), if_neg n]⟩) (fun w => by unfold own_ps at w; omega) (by rw [own_gw L0.2.2.2.2.1 (by decide) (by omega) (by omega), if_pos rfl])
        rw [own_u_id P t] at q
        exact q
      · unfold own_ap
        simp only [own_Qa, and_self]
  · rw [if_neg (show ¬ Int32.ofNat (S t) = 0 from fun q => c ((own_eqN (y := 0) (by omega) (by decide)).mp q))]
    exact ⟨_, _, _, rfl, O0⟩
theorem own_SD {C N : Nat} {sl : Nat → Nat} {z : Int32} {s : Q} {S : Nat → Nat} {A t : Nat} (O : own_OI C N sl z s S A) (ht : t < N) : ∃ r s' S', j_startDequeue s (Int32.ofNat t) = some (r, s') ∧ own_OI C N sl z s' S' A := by
  have O0 := O
  obtain ⟨L, CF, P, Lv, E, U, a, b, V, H, h, q0, lam, R, K, RR, I, HE, pd, SN, ha⟩ := O
  have N4 := CF.2.2.2.1
  have hs := CF.2.2.2.2
  have it : inb 4 (Int32.ofNat t) = true := own_inbN (by omega) (by decide)
  have L0 := L.1
  have L1 := L.2
  unfold own_SL at L1
  have s100 := (own_S100 RR t ht).1
  unfold j_startDequeue
  rw [(own_val CF (show t < 100 by omega)).1 ht, if_neg (by decide), L0.2.2.1, if_pos it, (K.1 t ht).1]
  by_cases c : S t = 0
  · rw [if_pos (by rw [c]; rfl), own_hro L CF K RR HE, Option.bind_some]
    by_cases d : 64 < h + own_pd S N + 2
    · rw [if_pos d, if_pos rfl]; exact ⟨_, _, _, rfl, O0⟩
    · rw [if_neg d, if_neg (by decide), show (2:Int32) = Int32.ofNat 2 from rfl, own_apd HE (show h < 64 by omega), Option.bind_some, if_pos (by unfold own_ap; simp only [own_Qa]; rw [L0.2.2.2.2.1]; exact it), if_pos (by unfold own_ap; simp only [own_Qa]; rw [L0.2.2.1]; exact it)]
      have so := own_soft (k := 21) (p := P t) (v := 0) hs RR ht (by omega) (by omega) ⟨by omega, by omega, by omega, by omega, by omega, by omega, by omega⟩
      rw [own_u_id] at so
      have li := own_lx5 (k := 2) (v := 0) I ht c (fun o x hx => own_pr_r H h o x hx) (Or.inr rfl) (own_pr_o H h)
      rw [← own_pr_a, if_neg (by decide)] at li
      have pk := own_pd_u (S := S) (k := 21) N ht
      rw [if_pos c, if_neg (by decide)] at pk
      refine ⟨_, _, _, rfl, own_as1 CF SN ?_ ?_ so li (own_HE_ap (s := s) HE (show h < 64 by omega) (by omega) (show t < 4 by omega) ?_) (by omega) ha⟩
      · unfold own_fz own_LL own_SL own_ap; simp only [own_Qa, len_wr, L0, L1, and_self]
      · unfold own_ap
        simp only [own_Qa]
        have q := own_K_thr (lp' := s.f3) (lv' := wr s.f4 (Int32.ofNat t) 0) (k := 21) (p := P t) (v := 0) K ht N4 L0.2.2.1 (fun u hu n => ⟨rfl, by rw [own_gw L0.2.2.2.2.1 (by decide) (by omega) (by omega), if_neg n]⟩) (fun w => by unfold own_ps at w; omega) (by rw [own_gw L0.2.2.2.2.1 (by decide) (by omega) (by omega), if_pos rfl])
        rw [own_u_id P t] at q
        exact q
      · unfold own_ap
        simp only [own_Qa, and_self]
  · rw [if_neg (show ¬ Int32.ofNat (S t) = 0 from fun q => c ((own_eqN (y := 0) (by omega) (by decide)).mp q))]
    exact ⟨_, _, _, rfl, O0⟩
theorem own_ST {C N : Nat} {sl : Nat → Nat} {z : Int32} {s : Q} {S : Nat → Nat} {A t : Nat} (O : own_OI C N sl z s S A) (ht : t < N) (hA : A < 800000) : ∃ r s' S', j_step s (Int32.ofNat t) = some (r, s') ∧ own_OI C N sl z s' S' (A + 1) := by
  have O0 := O
  obtain ⟨L, CF, P, Lv, E, U, a, b, V, H, h, q0, lam, R, K, RR, _⟩ := O
  have N4 := CF.2.2.2.1
  have it : inb 4 (Int32.ofNat t) = true := own_inbN (by omega) (by decide)
  obtain ⟨s100, sc⟩ := own_S100 RR t ht
  unfold j_step
  rw [(own_val CF (show t < 100 by omega)).1 ht, if_neg (by decide), L.1.2.2.1, if_pos it, if_pos it, (K.1 t ht).1]
  rcases sc with c | c | c
  · rw [if_pos (by rw [c]; rfl)]; exact ⟨_, _, _, rfl, own_OI_m O0 (by omega)⟩
  · rw [if_neg (by rw [c]; decide), if_pos (by rw [c]; rfl)]; exact ⟨_, _, _, rfl, own_OI_m O0 (by omega)⟩
  · rw [if_neg (show ¬ Int32.ofNat (S t) = 0 from fun q => by have := (own_eqN (y := 0) (by omega) (by decide)).mp q; omega), if_neg (show ¬ Int32.ofNat (S t) = 1 from fun q => by have := (own_eqN (y := 1) (by omega) (by decide)).mp q; omega)]
    obtain ⟨r, s', S', e, O', _⟩ := own_do O0 ht hA c
    rw [e, Option.bind_some]
    by_cases d : r = 0
    · rw [if_pos d]; exact ⟨_, _, _, rfl, O'⟩
    · rw [if_neg d]; exact ⟨_, _, _, rfl, O'⟩
theorem own_rl {C N : Nat} {sl : Nat → Nat} {z : Int32} {t m : Nat} (ht : t < N) (hm : m ≤ 64) : ∀ (r F i A : Nat) (s : Q) (S : Nat → Nat), m - i = r → r < F → i ≤ m → own_OI C N sl z s S A → A + r < 800000 → 11 ≤ S t → ∃ s' S', (j_run_l43 F s (Int32.ofNat t) (Int32.ofNat m) (Int32.ofNat i) = some (.inl s') ∨ j_run_l43 F s (Int32.ofNat t) (Int32.ofNat m) (Int32.ofNat i) = some (.inr s')) ∧ own_OI C N sl z s' S' (A + r) := by
  intro r
  induction r with
  | zero =>
    intro F i A s S h1 h2 h3 O hA hS
    obtain ⟨F, rfl⟩ : ∃ m, F = m + 1 := ⟨F - 1, by omega⟩
    refine ⟨s, S, Or.inr ?_, O⟩
    rw [j_run_l43, if_neg (fun q => by have := (own_ltN' (by omega) (by omega)).mp q; omega)]
  | succ r ih =>
    intro F i A s S h1 h2 h3 O hA hS
    obtain ⟨F, rfl⟩ : ∃ m, F = m + 1 := ⟨F - 1, by omega⟩
    obtain ⟨x, s', S', e, O', d⟩ := own_do O ht (by omega) hS
    rw [j_run_l43, if_pos ((own_ltN' (by omega) (by omega)).mpr (by omega)), e, Option.bind_some]
    rcases d with ⟨d1, d2⟩ | d
    · rw [if_pos d1, own_succ]
      obtain ⟨s2, S2, e2, O2⟩ := ih F (i + 1) (A + 1) s' S' (by omega) (by omega) (by omega) O' (by omega) d2
      exact ⟨s2, S2, e2, own_OI_m O2 (by omega)⟩
    · rw [if_neg (show ¬ x = 0 from by rw [d]; decide)]
      exact ⟨s', S', Or.inl rfl, own_OI_m O' (by omega)⟩
theorem own_clm (v : Int32) : ∃ m, 1 ≤ m ∧ m ≤ 64 ∧ j_clamp v 1 64 = Int32.ofNat m := by
  unfold j_clamp
  by_cases c : v < 1
  · rw [if_pos c]; exact ⟨1, by omega, by omega, rfl⟩
  · rw [if_neg c]
    by_cases d : 64 < v
    · rw [if_pos d]; exact ⟨64, by omega, by omega, rfl⟩
    · rw [if_neg d]
      rw [lt32] at c d
      simp only [Int32.reduceToInt] at c d
      refine ⟨v.toInt.toNat, by omega, by omega, ?_⟩
      apply Int32.toInt_inj.mp
      rw [own_n2i (by omega)]
      omega
theorem own_RU {C N : Nat} {sl : Nat → Nat} {z : Int32} {s : Q} {S : Nat → Nat} {A t : Nat} {v : Int32} (O : own_OI C N sl z s S A) (ht : t < 100) (hA : A + 64 < 800000) : ∃ r s' S', j_run s (Int32.ofNat t) v = some (r, s') ∧ own_OI C N sl z s' S' (A + 64) := by
  have O0 := O
  obtain ⟨L, CF, P, Lv, E, U, a, b, V, H, h, q0, lam, R, K, RR, _⟩ := O
  have N4 := CF.2.2.2.1
  unfold j_run
  by_cases tN : t < N
  · have it : inb 4 (Int32.ofNat t) = true := own_inbN (by omega) (by decide)
    obtain ⟨s100, sc⟩ := own_S100 RR t tN
    rw [(own_val CF ht).1 tN, if_neg (by decide), L.1.2.2.1, if_pos it, if_pos it, (K.1 t tN).1]
    rcases sc with c | c | c
    · rw [if_pos (by rw [c]; rfl)]; exact ⟨_, _, _, rfl, own_OI_m O0 (by omega)⟩
    · rw [if_neg (by rw [c]; decide), if_pos (by rw [c]; rfl)]; exact ⟨_, _, _, rfl, own_OI_m O0 (by omega)⟩
    · rw [if_neg (show ¬ Int32.ofNat (S t) = 0 from fun q => by have := (own_eqN (y := 0) (by omega) (by decide)).mp q; omega), if_neg (show ¬ Int32.ofNat (S t) = 1 from fun q => by have := (own_eqN (y := 1) (by omega) (by decide)).mp q; omega)]
      obtain ⟨m, m1, m2, em⟩ := own_clm v
      obtain ⟨s', S', e, O'⟩ := own_rl tN m2 m 3000 0 A s S (by omega) (by omega) (by omega) O0 (by omega) c
      rw [show Int32.ofNat 0 = 0 from rfl] at e
      rw [em]
      rcases e with e | e
      · rw [e, Option.bind_some]; exact ⟨_, _, _, rfl, own_OI_m O' (by omega)⟩
      · rw [e, Option.bind_some]; exact ⟨_, _, _, rfl, own_OI_m O' (by omega)⟩
  · rw [(own_val CF ht).2 tN, if_pos rfl]
    exact ⟨_, _, _, rfl, own_OI_m O0 (by omega)⟩

theorem own_OI_s {C N : Nat} {sl : Nat → Nat} {z : Int32} {s s' : Q} {S : Nat → Nat} {A : Nat} (O : own_OI C N sl z s S A) (sm : own_same s s') (SL : own_SL s') : own_OI C N sl z s' S A := by
  obtain ⟨L, CF, P, Lv, E, U, a, b, V, H, h, q0, lam, R, K, RR, I, HE, pd, SN, ha⟩ := O
  obtain ⟨⟨m1, m2, m3, m4, m5, m6, m7, m8, m9, m10, m11, m12⟩, m13, m14, m15, m16, m17, m18, m19⟩ := sm
  refine ⟨⟨?_, SL⟩, ?_, P, Lv, E, U, a, b, V, H, h, q0, lam, R, ?_, RR, I, own_HE_f HE ⟨m9, m10, m11, m18⟩, pd, ?_, ha⟩
  · rw [m1, m2, m3, m4, m5, m6, m7, m9, m10, m11, m12]; exact L.1
  · unfold own_CF at *; rw [m13, m14, m15]; exact CF
  · rw [m1, m2, m3, m4, m5, m16, m17]; exact K
  · unfold own_SN at *; rw [m12, m19]; exact SN
theorem own_CK {C N : Nat} {sl : Nat → Nat} {z : Int32} {s : Q} {S : Nat → Nat} {A : Nat} (O : own_OI C N sl z s S A) : ∃ s', h_checkOk s = some (1, s') ∧ own_OI C N sl z s' S A := by
  have O0 := O
  obtain ⟨L, CF, P, Lv, E, U, a, b, V, H, h, q0, lam, R, K, RR, I, HE, pd, SN, ha⟩ := O
  obtain ⟨r, s', e, n, sm⟩ := own_chk L.2 HE I CF.2.1 CF.2.2.2.2.2.2.2.2 SN.1 L.1.2.2.2.2.2.2.2.2.2.2 SN.2.1 SN.2.2
  unfold h_checkOk
  rw [e, Option.bind_some, if_neg n]
  refine ⟨s', rfl, own_OI_s O0 sm ?_⟩
  have ln := ln_j_check e
  have L1 := L.2
  unfold Q.len at ln
  simp only [List.cons.injEq, and_true] at ln
  unfold own_SL at *
  simp only [ln, L1, and_self]
theorem own_sl10 {C N : Nat} {sl : Nat → Nat} {z v1 : Int32} : ∀ (r F i A : Nat) (s : Q) (S : Nat → Nat), 4 - i = r → r < F → i ≤ 4 → own_OI C N sl z s S A → A + 64 * r < 800000 → ∃ s' S', h_settle_l10 F s v1 (Int32.ofNat i) = some (v1, s') ∧ own_OI C N sl z s' S' (A + 64 * r) := by
  intro r
  induction r with
  | zero =>
    intro F i A s S h1 h2 h3 O hA
    obtain ⟨F, rfl⟩ : ∃ m, F = m + 1 := ⟨F - 1, by omega⟩
    have : i = 4 := by omega
    subst this
    exact ⟨s, S, by rw [h_settle_l10, if_neg (by decide)], O⟩
  | succ r ih =>
    intro F i A s S h1 h2 h3 O hA
    obtain ⟨F, rfl⟩ : ∃ m, F = m + 1 := ⟨F - 1, by omega⟩
    obtain ⟨x, s', S', e, O'⟩ := own_RU (t := i) (v := 64) O (by omega) (by omega)
    obtain ⟨s2, S2, e2, O2⟩ := ih F (i + 1) (A + 64) s' S' (by omega) (by omega) (by omega) O' (by omega)
    refine ⟨s2, S2, ?_, own_OI_m O2 (by omega)⟩
    rw [h_settle_l10, if_pos (show Int32.ofNat i < 4 from (own_ltN' (y := 4) (by omega) (by decide)).mpr (by omega)), e, Option.bind_some, own_succ]
    exact e2
set_option maxRecDepth 20000 in
theorem own_sl2 {C N : Nat} {sl : Nat → Nat} {z : Int32} : ∀ (r F i A : Nat) (s : Q) (S : Nat → Nat), 8 - i = r → r < F → i ≤ 8 → own_OI C N sl z s S A → A + 256 * r < 800000 → ∃ s' S', h_settle_l2 F s (Int32.ofNat i) = some s' ∧ own_OI C N sl z s' S' (A + 256 * r) := by
  intro r
  induction r with
  | zero =>
    intro F i A s S h1 h2 h3 O hA
    obtain ⟨F, rfl⟩ : ∃ m, F = m + 1 := ⟨F - 1, by omega⟩
    have : i = 8 := by omega
    subst this
    exact ⟨s, S, by rw [h_settle_l2, if_neg (by decide)], O⟩
  | succ r ih =>
    intro F i A s S h1 h2 h3 O hA
    obtain ⟨F, rfl⟩ : ∃ m, F = m + 1 := ⟨F - 1, by omega⟩
    have h9 : A + 64 * 4 < 800000 := by
      have : A + 256 * r + 256 < 800000 := by rw [Nat.mul_add] at hA; omega
      omega
    obtain ⟨s', S', e, O'⟩ := own_sl10 (v1 := Int32.ofNat i) 4 3000 0 A s S rfl (by decide) (by decide) O h9
    rw [show Int32.ofNat 0 = 0 from rfl] at e
    obtain ⟨s2, S2, e2, O2⟩ := ih F (i + 1) (A + 256) s' S' (by omega) (by omega) (by omega) (own_OI_m O' (by omega)) (by omega)
    refine ⟨s2, S2, ?_, own_OI_m O2 (by omega)⟩
    rw [h_settle_l2, if_pos (show Int32.ofNat i < 8 from (own_ltN' (y := 8) (by omega) (by decide)).mpr (by omega)), e, Option.bind_some, own_succ]
    exact e2
theorem own_SET {C N : Nat} {sl : Nat → Nat} {z : Int32} {s : Q} {S : Nat → Nat} {A : Nat} (O : own_OI C N sl z s S A) (hA : A + 2048 < 800000) : ∃ s' S', h_settle s = some s' ∧ own_OI C N sl z s' S' (A + 2048) := by
  obtain ⟨s', S', e, O'⟩ := own_sl2 8 3000 0 A s S (by omega) (by omega) (by omega) O (by omega)
  rw [show Int32.ofNat 0 = 0 from rfl] at e
  exact ⟨s', S', by unfold h_settle; rw [e, Option.bind_some], own_OI_m O' (by omega)⟩
theorem own_ch2 {s : Q} {S : Nat → Nat} {N : Nat} (N4 : N ≤ 4) (en : s.f24 = Int32.ofNat N) (l : s.f2.length = 4) (hS : ∀ t, t < N → rd s.f2 (Int32.ofNat t) = Int32.ofNat (S t) ∧ S t < 100) : ∀ (r F i : Nat), 4 - i = r → r < F → i ≤ 4 → (∀ t, t < i → t < N → S t = 0) → j_clearHistory_l2 F s (Int32.ofNat i) = some (.inl ()) ∨ (j_clearHistory_l2 F s (Int32.ofNat i) = some (.inr ()) ∧ ∀ t, t < N → S t = 0) := by
  intro r
  induction r with
  | zero =>
    intro F i h1 h2 h3 g
    obtain ⟨F, rfl⟩ : ∃ m, F = m + 1 := ⟨F - 1, by omega⟩
    have : i = 4 := by omega
    subst this
    exact Or.inr ⟨by rw [j_clearHistory_l2, if_neg (by decide)], fun t ht => g t (by omega) ht⟩
  | succ r ih =>
    intro F i h1 h2 h3 g
    obtain ⟨F, rfl⟩ : ∃ m, F = m + 1 := ⟨F - 1, by omega⟩
    rw [j_clearHistory_l2, if_pos (show Int32.ofNat i < 4 from (own_ltN' (y := 4) (by omega) (by decide)).mpr (by omega)), en]
    unfold j_clearHistory_b26
    rw [own_succ i]
    by_cases c : i < N
    · obtain ⟨e1, e2⟩ := hS i c
      rw [if_pos ((own_ltN' (by omega) (by omega)).mpr c), l, if_pos (own_inbN (by omega) (by decide)), e1]
      by_cases d : S i = 0
      · rw [if_pos (by rw [d]; rfl)]
        exact ih F (i + 1) (by omega) (by omega) (by omega) (fun t h1 h2 => by
          by_cases w : t = i
          · rw [w]; exact d
          · exact g t (by omega) h2)
      · rw [if_neg (show ¬ Int32.ofNat (S i) = 0 from fun q => d ((own_eqN (y := 0) (by omega) (by decide)).mp q))]
        exact Or.inl rfl
    · rw [if_neg (fun q => c ((own_ltN' (by omega) (by omega)).mp q))]
      exact ih F (i + 1) (by omega) (by omega) (by omega) (fun t h1 h2 => g t (by omega) h2)
def own_chs (s : Q) (sn : List Int32) (k : Nat) : Q := ((s.s11 sn).s29 0).s30 (Int32.ofNat k)
theorem own_ch54 {C N : Nat} {sl : Nat → Nat} {z : Int32} {s : Q} {U V : Nat → Int32} {b m : Nat} (CF : own_CF s C N sl z) (lv : s.f1.length = 8) (hv : ∀ k, k < C → rd s.f1 (Int32.ofNat k) = U k) (hd : s.f27 = own_p z b) (hb : b < 900000) (m8 : m ≤ 8) (hU : ∀ i, i < m → U (sl (b + i)) = V (b + i)) : ∀ (r F i : Nat) (sn : List Int32), m - i = r → r < F → i ≤ m → sn.length = 8 → (∀ k, k < i → rd sn (Int32.ofNat k) = V (b + k)) → ∃ sn', (j_clearHistory_l54 F (own_chs s sn i) (Int32.ofNat m) (Int32.ofNat i) = some (.inl (own_chs s sn' m)) ∨ j_clearHistory_l54 F (own_chs s sn i) (Int32.ofNat m) (Int32.ofNat i) = some (.inr (own_chs s sn' m))) ∧ sn'.length = 8 ∧ ∀ k, k < m → rd sn' (Int32.ofNat k) = V (b + k) := by
  intro r
  have hs := CF.2.2.2.2
  have fs : ∀ sn k, (own_chs s sn k).f1 = s.f1 ∧ (own_chs s sn k).f27 = s.f27 ∧ (own_chs s sn k).f26 = s.f26 ∧ (own_chs s sn k).f11 = sn ∧ (own_chs s sn k).f30 = Int32.ofNat k := by
    intro sn k; unfold own_chs; simp only [own_Qa, and_self]
  induction r with
  | zero =>
    intro F i sn h1 h2 h3 l g
    obtain ⟨F, rfl⟩ : ∃ m, F = m + 1 := ⟨F - 1, by omega⟩
    have : i = m := by omega
    subst this
    refine ⟨sn, ?_, l, g⟩
    by_cases c : i < 8
    · left
      rw [j_clearHistory_l54, if_pos (show Int32.ofNat i < 8 from (own_ltN' (y := 8) (by omega) (by decide)).mpr c), if_neg (fun q => by have := (own_ltN' (by omega) (by omega)).mp q; omega)]
    · right
      rw [j_clearHistory_l54, if_neg (show ¬ Int32.ofNat i < 8 from fun q => c ((own_ltN' (y := 8) (by omega) (by decide)).mp q))]
  | succ r ih =>
    intro F i sn h1 h2 h3 l g
    obtain ⟨F, rfl⟩ : ∃ m, F = m + 1 := ⟨F - 1, by omega⟩
    have f := fs sn i
    have sb := hs.2.2.1 (b + i)
    have C8 := hs.2.2.2.2
    obtain ⟨sn', e, l', a⟩ := ih F (i + 1) (wr sn (Int32.ofNat i) (V (b + i))) (by omega) (by omega) (by omega) (by rw [len_wr]; exact l) (fun k hk => by
      rw [own_gw l (by decide) (by omega) (by omega)]
      by_cases c : k = i
      · rw [if_pos c, c]
      · rw [if_neg c]; exact g k (by omega))
    refine ⟨sn', ?_, l', a⟩
    have e1 : j_clearHistory_l54 (F + 1) (own_chs s sn i) (Int32.ofNat m) (Int32.ofNat i) = j_clearHistory_l54 F (own_chs s (wr sn (Int32.ofNat i) (V (b + i))) (i + 1)) (Int32.ofNat m) (Int32.ofNat (i + 1)) := by
      rw [j_clearHistory_l54, if_pos (show Int32.ofNat i < 8 from (own_ltN' (y := 8) (by omega) (by decide)).mpr (by omega)), if_pos ((own_ltN' (by omega) (by omega)).mpr (by omega)), f.1, f.2.1, f.2.2.1, f.2.2.2.1, f.2.2.2.2, hd, own_p1, CF.2.2.1 _ (by omega), lv, if_pos (own_inbN (by omega) (by decide)), l, if_pos (own_inbN (by omega) (by decide)), hv _ sb, hU i (by omega), own_succ, ← hd]
      unfold own_chs
      simp only [own_Qa]
    rw [e1]
    exact e
theorem own_CH {C N : Nat} {sl : Nat → Nat} {z : Int32} {s : Q} {S : Nat → Nat} {A : Nat} (O : own_OI C N sl z s S A) (hA : A < 800000) : ∃ r s' S', j_clearHistory s = some (r, s') ∧ own_OI C N sl z s' S' A := by
  have O0 := O
  obtain ⟨L, CF, P, Lv, E, U, a, b, V, H, h, q0, lam, R, K, RR, I, HE, pd, SN, ha⟩ := O
  have N4 := CF.2.2.2.1
  have hs := CF.2.2.2.2
  have C8 := hs.2.2.2.2
  have b0 := RR.1
  have L0 := L.1
  have L1 := L.2
  unfold own_SL at L1
  have k := own_ch2 N4 CF.1 L0.2.2.1 (fun t ht => ⟨(K.1 t ht).1, (own_S100 RR t ht).1⟩) 4 3000 0 (by omega) (by omega) (by omega) (fun t ht => by omega)
  rw [show Int32.ofNat 0 = 0 from rfl] at k
  unfold j_clearHistory
  rcases k with k | ⟨k, k0⟩
  · rw [k, Option.bind_some]; exact ⟨_, _, _, rfl, O0⟩
  · rw [k, Option.bind_some]
    obtain ⟨sn', e, l', g⟩ := own_ch54 (V := V) (m := a - b) CF L0.2.1 (fun k hk => (K.2.1 k hk).2) K.2.2.1 (by omega) (by omega) (fun i hi => (RR.2.2.2.1 (b + i) (by omega) (by omega) (fun t ht w => by have := k0 t ht; omega)).2) (a - b) 3000 0 s.f11 (by omega) (by omega) (by omega) L0.2.2.2.2.2.2.2.2.2.2 (fun k hk => by omega)
    rw [show Int32.ofNat 0 = 0 from rfl] at e
    have e0 : Q.mk s.f0 s.f1 s.f2 s.f3 s.f4 s.f5 s.f6 s.f7 s.f8 s.f9 s.f10 s.f11 s.f12 s.f13 s.f14 s.f15 s.f16 s.f17 s.f18 s.f19 s.f20 s.f21 s.f22 s.f23 s.f24 s.f25 s.f26 s.f27 s.f28 0 0 s.f31 s.f32 = own_chs s s.f11 0 := by
      unfold own_chs; simp only [own_Qa]; rfl
    have ed : s.f28 - s.f27 = Int32.ofNat (a - b) := by rw [K.2.2.1, K.2.2.2, own_qp (by omega)]
    have O' : own_OI C N sl z (own_chs s sn' (a - b)) S A := by
      refine ⟨?_, ?_, P, Lv, E, U, a, b, V, H, 0, own_ct V b (a - b), [], _, ?_, RR, own_lC k0, ?_, ?_, ⟨?_, ?_, ?_⟩, ha⟩
      · unfold own_LL own_SL own_chs; simp only [own_Qa, L0, L1, l', and_self]
      · unfold own_CF own_chs at *; simp only [own_Qa]; exact CF
      · unfold own_chs; simp only [own_Qa]; exact K
      · unfold own_HE own_chs; simp only [own_Qa]; exact ⟨HE.1, by omega, rfl, fun i hi => by omega⟩
      · omega
      · rw [own_ct_l]; omega
      · rw [own_ct_l]; unfold own_chs; simp only [own_Qa]
      · intro k hk
        rw [own_ct_l] at hk
        rw [own_ct_g V _ _ _ hk]; unfold own_chs; simp only [own_Qa]; exact g k hk
    dsimp only [Sum.elim_inr]
    rw [e0, ed]
    rcases e with e | e
    · rw [e, Option.bind_some]; exact ⟨_, _, _, rfl, O'⟩
    · rw [e, Option.bind_some]; exact ⟨_, _, _, rfl, O'⟩

def own_slf (Z C x : Nat) : Nat := (Z + x) % C
theorem own_slk {C Z : Nat} (hC : C = 2 ∨ C = 4 ∨ C = 8) : own_sl C (own_slf Z C) := by
  rcases hC with e | e | e <;> subst e <;> exact ⟨fun x => by unfold own_slf; omega, fun x y h1 h2 => by unfold own_slf; omega, fun x => by unfold own_slf; omega, by decide, by decide⟩
theorem own_msk2 {C Z n : Nat} (hC : C = 2 ∨ C = 4 ∨ C = 8) (hZ : Z < 2147483648) (hn : n < 1000000) : own_p (Int32.ofNat Z) n &&& (Int32.ofNat C - 1) = Int32.ofNat ((Z + n) % C) := by
  unfold own_p
  rw [← Int32.ofNat_add]
  apply Int32.toBitVec_inj.mp
  apply BitVec.eq_of_toNat_eq
  rw [Int32.toBitVec_and, BitVec.toNat_and]
  have e1 : (Int32.ofNat (Z + n)).toBitVec.toNat = Z + n := by
    show (BitVec.ofNat 32 (Z + n)).toNat = Z + n
    rw [BitVec.toNat_ofNat]; omega
  have e2 : (Int32.ofNat ((Z + n) % C)).toBitVec.toNat = (Z + n) % C := by
    show (BitVec.ofNat 32 ((Z + n) % C)).toNat = (Z + n) % C
    rw [BitVec.toNat_ofNat]
    rcases hC with e | e | e <;> subst e <;> omega
  rw [e1, e2]
  rcases hC with e | e | e <;> subst e
  · rw [show (Int32.ofNat 2 - 1).toBitVec.toNat = 2 ^ 1 - 1 from by decide, Nat.and_two_pow_sub_one_eq_mod]
  · rw [show (Int32.ofNat 4 - 1).toBitVec.toNat = 2 ^ 2 - 1 from by decide, Nat.and_two_pow_sub_one_eq_mod]
  · rw [show (Int32.ofNat 8 - 1).toBitVec.toNat = 2 ^ 3 - 1 from by decide, Nat.and_two_pow_sub_one_eq_mod]
theorem own_i259 {C N : Nat} {sl : Nat → Nat} {z : Int32} {s : Q} (CF : own_CF s C N sl z) : ∀ (r F i : Nat) (sq : List Int32), C - i = r → r < F → i ≤ C → sq.length = 8 → (∀ j, j < i → rd sq (Int32.ofNat (sl (C + j))) = own_p z (C + j)) → ∃ sq', (j_init_l259 F (s.s0 sq) (own_p z C) (Int32.ofNat i) = some (.inl (s.s0 sq')) ∨ j_init_l259 F (s.s0 sq) (own_p z C) (Int32.ofNat i) = some (.inr (s.s0 sq'))) ∧ sq'.length = 8 ∧ ∀ j, j < C → rd sq' (Int32.ofNat (sl (C + j))) = own_p z (C + j) := by
  intro r
  have hs := CF.2.2.2.2
  have C8 := hs.2.2.2.2
  induction r with
  | zero =>
    intro F i sq h1 h2 h3 l g
    obtain ⟨F, rfl⟩ : ∃ m, F = m + 1 := ⟨F - 1, by omega⟩
    have : i = C := by omega
    subst this
    refine ⟨sq, ?_, l, g⟩
    have fc : (s.s0 sq).f25 = s.f25 := by simp only [own_Qa]
    by_cases c : i < 8
    · left
      rw [j_init_l259, fc, CF.2.1, if_pos (show Int32.ofNat i < 8 from (own_ltN' (y := 8) (by omega) (by decide)).mpr c), if_neg (fun q => by have := (own_ltN' (by omega) (by omega)).mp q; omega)]
    · right
      rw [j_init_l259, if_neg (show ¬ Int32.ofNat i < 8 from fun q => c ((own_ltN' (y := 8) (by omega) (by decide)).mp q))]
  | succ r ih =>
    intro F i sq h1 h2 h3 l g
    obtain ⟨F, rfl⟩ : ∃ m, F = m + 1 := ⟨F - 1, by omega⟩
    have fs : (s.s0 sq).f25 = s.f25 ∧ (s.s0 sq).f26 = s.f26 ∧ (s.s0 sq).f0 = sq := by simp only [own_Qa, and_self]
    have sb := hs.2.2.1 (C + i)
    obtain ⟨sq', e, l', a⟩ := ih F (i + 1) (wr sq (Int32.ofNat (sl (C + i))) (own_p z (C + i))) (by omega) (by omega) (by omega) (by rw [len_wr]; exact l) (fun j hj => by
      have sj := hs.2.2.1 (C + j)
      rw [own_gw l (by decide) (by omega) (by omega)]
      by_cases c : j = i
      · rw [if_pos (by rw [c]), c]
      · rw [if_neg (own_far hs (by omega) (by omega) (by omega))]; exact g j (by omega))
    refine ⟨sq', ?_, l', a⟩
    have e1 : j_init_l259 (F + 1) (s.s0 sq) (own_p z C) (Int32.ofNat i) = j_init_l259 F (s.s0 (wr sq (Int32.ofNat (sl (C + i))) (own_p z (C + i)))) (own_p z C) (Int32.ofNat (i + 1)) := by
      rw [j_init_l259, if_pos (show Int32.ofNat i < 8 from (own_ltN' (y := 8) (by omega) (by decide)).mpr (by omega)), fs.1, CF.2.1, if_pos ((own_ltN' (by omega) (by omega)).mpr (by omega)), own_p1, fs.2.1, CF.2.2.1 _ (by omega), fs.2.2, l, if_pos (own_inbN (by omega) (by decide)), own_succ, ← CF.2.1]
      simp only [own_Qa]
    rw [e1]
    exact e
theorem own_ini {c C N org : Nat} (hc : (c = 1 ∧ C = 2) ∨ (c = 2 ∧ C = 4) ∨ (c = 3 ∧ C = 8)) (hN : 1 ≤ N ∧ N ≤ 4) (ho : org < 64) : ∃ s, j_init (Int32.ofNat c) (Int32.ofNat N) (Int32.ofNat org) = some s ∧ own_OI C N (own_slf (2147483584 + org - C) C) (Int32.ofNat (2147483584 + org - C)) s (fun _ => 0) C := by
  have hC : C = 2 ∨ C = 4 ∨ C = 8 := by omega
  have hs : own_sl C (own_slf (2147483584 + org - C) C) := own_slk hC
  have k1 : j_clamp (Int32.ofNat N) 1 4 = Int32.ofNat N := by
    have : ∀ n : Fin 5, 1 ≤ n.val → j_clamp (Int32.ofNat n.val) 1 4 = Int32.ofNat n.val := by decide
    exact this ⟨N, by omega⟩ hN.1
  have k2 : ish 1 (j_clamp (Int32.ofNat c) 1 3) = Int32.ofNat C := by
    rcases hc with ⟨e, f⟩ | ⟨e, f⟩ | ⟨e, f⟩ <;> subst e <;> subst f <;> decide
  have k3 : j_clamp (Int32.ofNat org) 0 63 = Int32.ofNat org := by
    have : ∀ n : Fin 64, j_clamp (Int32.ofNat n.val) 0 63 = Int32.ofNat n.val := by decide
    exact this ⟨org, ho⟩
  have k4 : (2147483584:Int32) + Int32.ofNat org = own_p (Int32.ofNat (2147483584 + org - C)) C := by
    unfold own_p
    rw [← Int32.ofNat_add, show 2147483584 + org - C + C = 2147483584 + org by omega, Int32.ofNat_add]
    rfl
  unfold j_init j_init_b189
  rw [k1, k2, k3, k4]
  generalize hz : own_p (Int32.ofNat (2147483584 + org - C)) C = st
  generalize hq : Q.mk Q0.f0 Q0.f1 Q0.f2 Q0.f3 Q0.f4 Q0.f5 Q0.f6 Q0.f7 Q0.f8 Q0.f9 Q0.f10 Q0.f11 Q0.f12 Q0.f13 Q0.f14 Q0.f15 Q0.f16 Q0.f17 Q0.f18 Q0.f19 Q0.f20 Q0.f21 Q0.f22 Q0.f23 (Int32.ofNat N) (Int32.ofNat C) (Int32.ofNat C - 1) st st Q0.f29 Q0.f30 Q0.f31 Q0.f32 = q
  have CF : own_CF q C N (own_slf (2147483584 + org - C) C) (Int32.ofNat (2147483584 + org - C)) := by
    rw [← hq]
    unfold own_CF
    simp only [own_Qa]
    exact ⟨trivial, trivial, fun n hn => own_msk2 hC (by omega) hn, hN.2, hs⟩
  have f : q.f1 = List.replicate 8 0 ∧ q.f2 = List.replicate 4 0 ∧ q.f3 = List.replicate 4 0 ∧ q.f4 = List.replicate 4 0 ∧ q.f27 = st ∧ q.f28 = st ∧ q.f0 = List.replicate 8 0 ∧ q = q.s0 q.f0 := by rw [← hq]; simp only [own_Qa, and_self]
  have LQ : own_LL q := by
    rw [← hq]
    unfold own_LL own_SL
    simp only [own_Qa, List.length_replicate, and_self]
  obtain ⟨sq', e, l', a⟩ := own_i259 CF C 3000 0 q.f0 (by omega) (by omega) (by omega) (by rw [f.2.2.2.2.2.2.1, List.length_replicate]) (fun j hj => by omega)
  rw [← f.2.2.2.2.2.2.2, hz, show Int32.ofNat 0 = 0 from rfl] at e
  have fin : ∃ s, j_init_b304 (q.s0 sq') = some s ∧ own_OI C N (own_slf (2147483584 + org - C) C) (Int32.ofNat (2147483584 + org - C)) s (fun _ => 0) C := by
    unfold j_init_b304
    have L0 := LQ.1
    have L1 := LQ.2
    unfold own_SL at L1
    refine ⟨_, rfl, ?_, ?_, fun _ => 0, fun _ => 0, fun k => rd sq' (Int32.ofNat k), fun _ => 0, C, C, fun _ => 0, fun _ => (0, 0, 0), 0, [], [], fun _ => (0, 0), ?_, ?_, ?_, ?_, ?_, ?_, Nat.le_refl C⟩
    · unfold own_LL own_SL; simp only [own_Qa, L0, L1, l', and_self]
    · unfold own_CF at *; simp only [own_Qa]; exact CF
    · simp only [own_Qa]
      refine ⟨fun t ht => ⟨?_, ?_, fun w => by unfold own_ps at w; dsimp only at w; omega⟩, fun k hk => ⟨rfl, ?_⟩, ?_, ?_⟩
      · rw [f.2.1, rd_rep]; rfl
      · rw [f.2.2.2.1, rd_rep]
      · rw [f.1, rd_rep]
      · rw [f.2.2.2.2.1, hz]
      · rw [f.2.2.2.2.2.1, hz]
    · refine ⟨by omega, fun t ht => ⟨by dsimp only; omega, by dsimp only; omega, by dsimp only; omega, by dsimp only; omega, by dsimp only; omega, fun w => by dsimp only at w; omega, fun w => by dsimp only at w; omega⟩, fun t u _ _ _ => ⟨fun w => by dsimp only at w; omega, fun w => by dsimp only at w; omega⟩, fun p h1 h2 => by omega, fun p h1 h2 _ => ?_⟩
      have := a p h2
      rw [Nat.add_comm C p, hs.1 p] at this
      exact this
    · have := own_lC (C := C) (N := N) (S := fun _ => 0) (P := fun _ => 0) (Lv := fun _ => 0) (V := fun _ => 0) (a := C) (b := C) (H := fun _ => (0, 0, 0)) (fun t _ => rfl)
      rw [Nat.sub_self] at this
      exact this
    · unfold own_HE; simp only [own_Qa]
      exact ⟨⟨L0.2.2.2.2.2.2.2.1, L0.2.2.2.2.2.2.2.2.1, L0.2.2.2.2.2.2.2.2.2.1⟩, by omega, rfl, fun i hi => by omega⟩
    · have : ∀ n, own_pd (fun _ => 0) n = 0 := by
        intro n
        induction n with
        | zero => rfl
        | succ n ih => unfold own_pd; rw [ih]; rfl
      rw [this]; omega
    · unfold own_SN; simp only [own_Qa]
      exact ⟨Nat.zero_le C, rfl, fun k hk => absurd hk (Nat.not_lt_zero k)⟩
  obtain ⟨s, e2, O⟩ := fin
  rcases e with e | e
  · rw [e, Option.bind_some]; exact ⟨s, e2, O⟩
  · rw [e, Option.bind_some]; exact ⟨s, e2, O⟩
theorem own_t4 {x : Int32} {N : Nat} (hN : 1 ≤ N ∧ N ≤ 4) : ∃ t, t < N ∧ (x &&& 3) % Int32.ofNat N = Int32.ofNat t := by
  have b := own_msk x 3 (by decide)
  simp only [Int32.reduceToInt] at b
  have e : x &&& 3 = Int32.ofNat (x &&& 3).toInt.toNat := by
    apply Int32.toInt_inj.mp
    rw [own_n2i (by omega)]
    omega
  have : ∀ (k : Fin 4) (n : Fin 5), 1 ≤ n.val → Int32.ofNat k.val % Int32.ofNat n.val = Int32.ofNat (k.val % n.val) := by decide
  have := this ⟨(x &&& 3).toInt.toNat, by omega⟩ ⟨N, by omega⟩ hN.1
  simp only at this
  rw [e]
  exact ⟨_, Nat.mod_lt _ (by omega), this⟩
set_option maxRecDepth 20000 in
theorem own_lop {C N : Nat} {sl : Nat → Nat} {z : Int32} {scr : List Int32} (hN : 1 ≤ N ∧ N ≤ 4) (hl : scr.length ≤ 260) : ∀ (r F i A : Nat) (s : Q) (S : Nat → Nat), scr.length - i = r → r < F → own_OI C N sl z s S A → A + 2048 * r < 700000 → i < 1000 → ∃ s' S', law_l46 F s scr (Int32.ofNat N) (Int32.ofNat i) = some (.inr (.inr s')) ∧ own_OI C N sl z s' S' (A + 2048 * r) := by
  intro r
  induction r with
  | zero =>
    intro F i A s S h1 h2 O hA hi
    obtain ⟨F, rfl⟩ : ∃ m, F = m + 1 := ⟨F - 1, by omega⟩
    refine ⟨s, S, ?_, O⟩
    rw [law_l46, if_neg (show ¬ Int32.ofNat i < Int32.ofNat scr.length from fun q => by have := (own_ltN' (by omega) (by omega)).mp q; omega)]
  | succ r ih =>
    intro F i A s S h1 h2 O hA hi
    obtain ⟨F, rfl⟩ : ∃ m, F = m + 1 := ⟨F - 1, by omega⟩
    have go : ∀ s' S', own_OI C N sl z s' S' (A + 2048) → ∃ s2 S2, law_b219 (law_l46 F) s' scr (Int32.ofNat N) (Int32.ofNat i) = some (.inr (.inr s2)) ∧ own_OI C N sl z s2 S2 (A + 2048 * (r + 1)) := by
      intro s' S' O'
      obtain ⟨s2, S2, e2, O2⟩ := ih F (i + 1) (A + 2048) s' S' (by omega) (by omega) O' (by omega) (by omega)
      unfold law_b219
      rw [own_succ]
      exact ⟨s2, S2, e2, own_OI_m O2 (by omega)⟩
    rw [law_l46, if_pos (show Int32.ofNat i < Int32.ofNat scr.length from (own_ltN' (by omega) (by omega)).mpr (by omega)), if_pos (own_inbN (show i < scr.length by omega) (by omega)), if_neg (show ¬ Int32.ofNat N = 0 from fun q => by have := (own_eqN (y := 0) (by omega) (by decide)).mp q; omega)]
    generalize rd scr (Int32.ofNat i) = c
    obtain ⟨t, ht, et⟩ := own_t4 (x := ush c 3) hN
    rw [et]
    unfold law_b125
    by_cases c0 : c &&& 7 = 0
    · rw [if_pos c0]
      obtain ⟨x, s', S', e, O'⟩ := own_SE (v := Int32.ofNat i + 1) O ht
      rw [e, Option.bind_some]; exact go s' S' (own_OI_m O' (by omega))
    rw [if_neg c0]
    by_cases c1 : c &&& 7 = 1
    · rw [if_pos c1]
      obtain ⟨x, s', S', e, O'⟩ := own_SD O ht
      rw [e, Option.bind_some]; exact go s' S' (own_OI_m O' (by omega))
    rw [if_neg c1]
    by_cases c2 : c &&& 7 = 2
    · rw [if_pos c2]
      obtain ⟨x, s', S', e, O'⟩ := own_ST O ht (by omega)
      rw [e, Option.bind_some]; exact go s' S' (own_OI_m O' (by omega))
    rw [if_neg c2]
    by_cases c3 : c &&& 7 = 3
    · rw [if_pos c3]
      obtain ⟨x, s', S', e, O'⟩ := own_ST O ht (by omega)
      rw [e, Option.bind_some]; exact go s' S' (own_OI_m O' (by omega))
    rw [if_neg c3]
    by_cases c4 : c &&& 7 = 4
    · rw [if_pos c4]
      obtain ⟨x, s', S', e, O'⟩ := own_RU (t := t) (v := 1 + (ush c 5 &&& 15)) O (by omega) (by omega)
      rw [e, Option.bind_some]; exact go s' S' (own_OI_m O' (by omega))
    rw [if_neg c4]
    by_cases c5 : c &&& 7 = 5
    · rw [if_pos c5]
      obtain ⟨s', e, O'⟩ := own_CK O
      rw [e, Option.bind_some, if_neg (show ¬ (1:Int32) = 0 from by decide)]
      exact go s' S (own_OI_m O' (by omega))
    rw [if_neg c5]
    by_cases c6 : c &&& 7 = 6
    · rw [if_pos c6]
      obtain ⟨s1, S1, e1, O1⟩ := own_SET O (by omega)
      obtain ⟨s2, e2, O2⟩ := own_CK O1
      obtain ⟨x, s3, S3, e3, O3⟩ := own_CH O2 (by omega)
      rw [e1, Option.bind_some, e2, Option.bind_some, if_neg (show ¬ (1:Int32) = 0 from by decide), e3, Option.bind_some]
      exact go s3 S3 (own_OI_m O3 (by omega))
    rw [if_neg c6]
    obtain ⟨x, s', S', e, O'⟩ := own_RU (t := t) (v := 64) O (by omega) (by omega)
    rw [e, Option.bind_some]; exact go s' S' (own_OI_m O' (by omega))
theorem own_clx {scr : List Int32} {k : Nat} (h : k < 1000) (hl : scr.length ≤ 260) : ∃ p, h_cell scr (Int32.ofNat k) = some p := by
  unfold h_cell
  by_cases c : Int32.ofNat k < Nat.toInt32 scr.length
  · rw [if_pos c]
    have : k < scr.length := (own_ltN' (by omega) (by omega)).mp c
    rw [if_pos (own_inbN this (by omega))]
    exact ⟨_, rfl⟩
  · rw [if_neg c]; exact ⟨_, rfl⟩
theorem own_nat {x : Int32} {m : Nat} (h0 : 0 ≤ x.toInt) (h1 : x.toInt < m) : ∃ n, n < m ∧ x = Int32.ofNat n := by
  have := Int32.toInt_lt x
  refine ⟨x.toInt.toNat, by omega, ?_⟩
  apply Int32.toInt_inj.mp
  rw [own_n2i (by omega)]
  omega
set_option maxRecDepth 20000 in
theorem own_law (scr : List Int32) (hl : scr.length ≤ 260) : (law scr).map (·.1) = some 1 := by
  obtain ⟨p3, h3⟩ := own_clx (scr := scr) (k := 0) (by omega) hl
  obtain ⟨p5, h5⟩ := own_clx (scr := scr) (k := 1) (by omega) hl
  obtain ⟨p7, h7⟩ := own_clx (scr := scr) (k := 2) (by omega) hl
  rw [show Int32.ofNat 0 = 0 from rfl] at h3
  rw [show Int32.ofNat 1 = 1 from rfl] at h5
  rw [show Int32.ofNat 2 = 2 from rfl] at h7
  have b3 := own_msk p3 3 (by decide)
  have b5 := own_msk p5 3 (by decide)
  have b7 := own_msk p7 63 (by decide)
  simp only [Int32.reduceToInt] at b3 b5 b7
  obtain ⟨x3, y3, e3⟩ := own_nat (m := 4) b3.1 (by omega)
  obtain ⟨x5, y5, e5⟩ := own_nat (m := 4) b5.1 (by omega)
  obtain ⟨x7, y7, e7⟩ := own_nat (m := 64) b7.1 (by omega)
  have ec : ∃ c C, ((c = 1 ∧ C = 2) ∨ (c = 2 ∧ C = 4) ∨ (c = 3 ∧ C = 8)) ∧ Int32.ofNat x3 % 3 + 1 = Int32.ofNat c := by
    have : x3 = 0 ∨ x3 = 1 ∨ x3 = 2 ∨ x3 = 3 := by omega
    rcases this with q | q | q | q <;> subst q
    · exact ⟨1, 2, by omega, by decide⟩
    · exact ⟨2, 4, by omega, by decide⟩
    · exact ⟨3, 8, by omega, by decide⟩
    · exact ⟨1, 2, by omega, by decide⟩
  obtain ⟨c, C, hc, ec⟩ := ec
  obtain ⟨s, ei, O⟩ := own_ini (N := x5 + 1) hc (by omega) y7
  unfold law
  rw [h3, Option.bind_some, h5, Option.bind_some, h7, Option.bind_some, e3, e5, e7, ec, own_succ, ei, Option.bind_some]
  obtain ⟨s1, S1, e1, O1⟩ := own_lop (N := x5 + 1) (by omega) hl (scr.length - 3) 3000 3 C s _ rfl (by omega) O (by omega) (by omega)
  rw [show Int32.ofNat 3 = 3 from rfl] at e1
  obtain ⟨s2, S2, e2, O2⟩ := own_SET O1 (by omega)
  obtain ⟨s4, e4, _⟩ := own_CK O2
  rw [e1, Option.bind_some]
  dsimp only [Sum.elim_inr]
  rw [e2, Option.bind_some, e4, Option.bind_some, Option.map_some]
  show some ((1:Int32) &&& 1) = some 1
  rw [show (1:Int32) &&& 1 = 1 from by decide]


theorem fit_of {s : State} (hF : heapFits s = true) : Fit s := fun {y c} hc i hi => by
  obtain ⟨ha, rfl⟩ := Array.getElem?_eq_some_iff.mp hc
  have q := List.all_eq_true.mp ((Array.all_eq_true_iff_forall_mem.mp hF) _ (Array.getElem_mem ha)) i (List.mem_range.mpr hi)
  simpa [Array.getElem?_eq_getElem hi] using q
set_option maxRecDepth 65536 in
set_option maxHeartbeats 4000000 in
theorem comes_1 {Post : Tables → Env → Array Value → State → Outcome → State → Prop} (hpost : ∀ tb e args s v u, (limb_1_1.after args s (.returned v) u = true ∧ limb_1_2.after args s (.returned v) u = true ∧ True) → FrameEnd s (.returned v) u (Jvm.fieldLocs frame_1_writes args s ++ Jvm.arrayLocs frame_1_arrays args s ++ Jvm.staticLocs frame_1_statics s) 64 896 → Post tb e args s (.returned v) u) :
    ArmFor flags0 classFile x code maxLocals ret World_1 tables_1 room_1 Calls_1 rest_1 Pre_1 Post := by
  intro l hfl _ _ p e ha hc hk s m args below hf hA hF happ hP
  obtain ⟨hcalls, hrest, hpre⟩ := hP
  obtain ⟨-, -, -, hnamed, -, -, -, hat⟩ := (Spec.applies_iff hf).mp happ
  obtain ⟨hg, hn⟩ := and_e (Cond.before_iff.mp (show (Jvm.Cond.and given_1 narrow_1).before args s = true from hpre))
  obtain ⟨hcnt, h0⟩ := and_e hg
  obtain ⟨w0, rfl⟩ : ∃ w0 : Value, args = #[w0] := by
    have hs : args.size = 1 := by simpa [Cond.value, given_1] using hcnt
    obtain ⟨L⟩ := args
    match L, hs with
    | [w0], _ => exact ⟨w0, rfl⟩
  have hw := fun d (hd : d ∈ tables_1) => atoms_spec (ws := Jvm.Cond.code x code maxLocals ret :: tables_1) hat d (List.mem_cons_of_mem _ hd)
  obtain ⟨hy1, hy2⟩ := and_e hn
  obtain ⟨a, rfl⟩ : ∃ a, w0 = .ref a := by
    cases w0 <;> first | exact ⟨_, rfl⟩ | (exfalso; simp [Cond.value, Term.eval] at hy1)
  obtain ⟨cl, A⟩ := Arr.start (Z := s) (ty := .int) (show (Term.arg 0).eval #[Value.ref a] s none [] s = some (.ref a) from rfl) hy1
  have hlen : (cl.slots.toList.map intOf).length ≤ 260 := by
    have q := A.fin (Vm.Alike.refl _)
    by_cases hz : cl.slots.size < 2 ^ 31
    · simp only [Cond.value, Term.eval, List.getElem?_toArray, List.getElem?_cons_zero, Option.bind_eq_bind, Option.bind_some, q, hz, if_true, Option.pure_def] at hy2
      have q2 := Int32.le_iff_toInt_le.mp (by simpa using hy2)
      rw [len_toInt hz] at q2
      simp only [List.length_map, Array.length_toList]
      have q3 : (260:Int32).toInt = 260 := rfl
      omega
    · simp [Cond.value, Term.eval, q, hz] at hy2
  have hL := own_law (cl.slots.toList.map intOf) hlen
  obtain ⟨res, hres, hr1⟩ := Option.map_eq_some_iff.mp hL
  obtain ⟨n, hrun⟩ := ev_law (cl.slots.toList.map intOf) hres rfl
  have hr1' : res.1 = 1 := hr1
  rw [hr1'] at hrun
  have hcap := run_cap hrun
  have hcC : own_P.capC = 65 := rfl
  have hcS : own_P.capS = 896 := rfl
  rw [hcC, hcS] at hcap
  have hc1 : (W0 (cl.slots.toList.map intOf) []).length = 1 := rfl
  have hc2 : hsz own_P (W0 (cl.slots.toList.map intOf) []) = 0 := rfl
  have hM := metOf (sound (own_good hw) n) (k := 0) (as := [.ref 0]) (H := (W0 (cl.slots.toList.map intOf) [])) hrun (l := l) (wsC := tables_1) (rm := room_1) own_pn0 rfl (fun h => nomatch h) (by decide) (by decide) (by show _ ≤ 64; omega) (by show _ ≤ 896; omega) (am := [a]) (ws := [.ref a]) (h := s.heap) (n0 := s.heap.size) ⟨_, _, rfl, ⟨a, rfl, rfl⟩, rfl⟩ (Nat.le_of_ble_eq_true rfl) (script_start rfl (fit_of hF) A) (Nat.le_refl _)
  obtain ⟨n, o, h1, h2, h3, w, L, rfl, ⟨N, -, am', -, -, hv⟩, hq⟩ := hM p e ha hc hk s m _ below hf ((Spec.applies_iff_loose hf).mp happ).1 ⟨rfl, State.Warmed39.refl s, rfl⟩ trivial
  obtain ⟨y, rfl, rfl⟩ := hv
  exact ⟨n, _, h1, h2, h3, hpost _ _ _ _ _ _ ⟨Cond.after_iff.mpr rfl, Cond.after_iff.mpr (eq_i res_at (Term.int_eval (1)) rfl), trivial⟩ ⟨hq.1, hq.2.1, (hq.2.2.sift fun y hy => Or.inr (N y hy)).mono (by omega) (by omega)⟩⟩
theorem main_1_1 : Claimed_1_1 := comes_1 fun _ _ _ _ _ _ h hF => ⟨h.1, hF⟩
theorem main_1_2 : Claimed_1_2 := comes_1 fun _ _ _ _ _ _ h hF => ⟨h.2.1, hF⟩
end Jvm.Pilot.@@N@@
namespace Jvm.Pilot.@@N@@
open Jvm Jvm.ClassFile Sem Op Lib Jvm.Free Jvm.Stand Jvm.Pilot.@@N@@.Jvm.D
/-! MADE BY PROGRAM (witnessworld.py) out of the Statement's table words and the real class files: 9 classes; the members and pool entries that the words name. The judged class is class 1, her method 4. -/
namespace start1
open Jvm.ClassFile
def u (s : String) : CpInfo := .utf8 (stringToUtf16 s)
/-- a pool by its gaps: so many unusable entries, then the entry; so many at the end -/
def gap : Nat → List CpInfo → List CpInfo
  | 0, r => r
  | n + 1, r => .unusable :: gap n r
def poolList (es : List (Nat × CpInfo)) (last : Nat) : List CpInfo := es.foldr (fun e r => gap e.1 (e.2 :: r)) (gap last [])
def pool (es : List (Nat × CpInfo)) (last : Nat) : Array CpInfo := ⟨poolList es last⟩
def fileOf (pool : Array CpInfo) (this : Nat) (attrs : Array Attribute := #[]) (ms : Array MethodInfo := #[]) (fl : Nat := 33) (sup : Nat := 0) (ifs : Array Nat := #[]) (fds : Array FieldInfo := #[]) : ClassFile where
  minorVersion := 0
  majorVersion := 65
  constantPool := pool
  accessFlags := fl
  thisClass := this
  superClass := sup
  interfaces := ifs
  fields := fds
  methods := ms
  attributes := attrs
def plain (name : String) (sup : Option ClassId) : Class where
  name := name
  kind := .ordinary
  loader := none
  accessFlags := 33
  super := sup
  interfaces := #[]
  cf := none
  fields := #[]
  methods := #[]
  instanceTypes := #[]
  staticTypes := #[]
  resolved := #[]
  callSites := []
  init := .initialized
  statics := none
  mirror := none

def pool0 : Array CpInfo := pool [(5, u "<init>"), (0, u "()V"), (1, .class_ 10), (1, u "java/lang/Object")] 113

def k0c0 : Code := { maxStack := 0, maxLocals := 1, code := object_method_1_code, exceptionTable := #[], attributes := #[] }
def k0m0 : Method := { name := "<init>", desc := "()V", sig := { parameters := [], returnType := none }, accessFlags := 1, code := some k0c0 }
/-- java/lang/Object -/
def k0 : Class := { plain "java/lang/Object" none with
  accessFlags := 33
  interfaces := #[]
  cf := some (fileOf pool0 8 #[] #[{ accessFlags := 1, nameIndex := 5, descriptorIndex := 6, attributes := #[] }] 33 0 #[] #[])
  fields := #[]
  methods := #[k0m0]
  instanceTypes := #[]
  staticTypes := #[]
  resolved := Array.replicate 124 none
  statics := none }

def pool1 : Array CpInfo := pool [(2, .class_ 4), (1, u "java/lang/Object"), (0, u "<init>"), (0, u "()V"), (0, .methodref 8 9), (0, .class_ 10), (0, .nameAndType 11 12), (0, u "SeqRingQueue"), (0, u "check"), (0, u "()I"), (0, .methodref 8 14), (0, .nameAndType 15 16), (0, u "run"), (0, u "(II)I"), (0, .methodref 18 19), (0, .class_ 20), (0, .nameAndType 21 22), (0, u "SeqRingQueueOwnLaw"), (0, u "cell"), (0, u "([II)I"), (0, .methodref 8 24), (0, .nameAndType 5 25), (0, u "(III)V"), (0, .methodref 8 27), (0, .nameAndType 28 29), (0, u "startEnqueue"), (0, u "(II)Z"), (0, .methodref 8 31), (0, .nameAndType 32 33), (0, u "startDequeue"), (0, u "(I)Z"), (0, .methodref 8 35), (0, .nameAndType 36 37), (0, u "step"), (0, u "(I)I"), (0, .methodref 18 39), (0, .nameAndType 40 41), (0, u "checkOk"), (0, u "(LSeqRingQueue;)Z"), (0, .methodref 18 43), (0, .nameAndType 44 45), (0, u "settle"), (0, u "(LSeqRingQueue;)V"), (0, .methodref 8 47), (0, .nameAndType 48 49), (0, u "clearHistory"), (0, u "()Z"), (3, u "law"), (0, u "([I)Z")] 4

def k1m0 : Method := { name := "<init>", desc := "()V", sig := { parameters := [], returnType := none }, accessFlags := 1, code := none }
def k1c1 : Code := { maxStack := 2, maxLocals := 2, code := method_2_code, exceptionTable := #[], attributes := #[] }
def k1m1 : Method := { name := "cell", desc := "([II)I", sig := { parameters := [(.array .int), .int], returnType := some .int }, accessFlags := 10, code := some k1c1 }
def k1c2 : Code := { maxStack := 1, maxLocals := 1, code := method_3_code, exceptionTable := #[], attributes := #[] }
def k1m2 : Method := { name := "checkOk", desc := "(LSeqRingQueue;)Z", sig := { parameters := [(.object "SeqRingQueue")], returnType := some .boolean }, accessFlags := 10, code := some k1c2 }
def k1c3 : Code := { maxStack := 3, maxLocals := 3, code := method_4_code, exceptionTable := #[], attributes := #[] }
def k1m3 : Method := { name := "settle", desc := "(LSeqRingQueue;)V", sig := { parameters := [(.object "SeqRingQueue")], returnType := none }, accessFlags := 10, code := some k1c3 }
def k1c4 : Code := { maxStack := 5, maxLocals := 9, code := code, exceptionTable := #[], attributes := #[] }
def k1m4 : Method := { name := "law", desc := "([I)Z", sig := { parameters := [(.array .int)], returnType := some .boolean }, accessFlags := 9, code := some k1c4 }
/-- SeqRingQueueOwnLaw -/
def k1 : Class := { plain "SeqRingQueueOwnLaw" (some 0) with
  accessFlags := 49
  interfaces := #[]
  cf := some (fileOf pool1 18 #[] #[{ accessFlags := 1, nameIndex := 5, descriptorIndex := 6, attributes := #[] }, { accessFlags := 10, nameIndex := 21, descriptorIndex := 22, attributes := #[] }, { accessFlags := 10, nameIndex := 40, descriptorIndex := 41, attributes := #[] }, { accessFlags := 10, nameIndex := 44, descriptorIndex := 45, attributes := #[] }, { accessFlags := 9, nameIndex := 53, descriptorIndex := 54, attributes := #[] }] 49 2 #[] #[])
  fields := #[]
  methods := #[k1m0, k1m1, k1m2, k1m3, k1m4]
  instanceTypes := #[]
  staticTypes := #[]
  resolved := Array.replicate 59 none
  statics := none }

def pool2 : Array CpInfo := pool [(1, .methodref 2 3), (0, .class_ 4), (0, .nameAndType 5 6), (0, u "java/lang/Object"), (0, u "<init>"), (0, u "()V"), (0, .fieldref 8 9), (0, .class_ 10), (0, .nameAndType 11 12), (0, u "SeqRingQueue"), (0, u "seq"), (0, u "[I"), (0, .fieldref 8 14), (0, .nameAndType 15 12), (0, u "val"), (0, .fieldref 8 17), (0, .nameAndType 18 12), (0, u "st"), (0, .fieldref 8 20), (0, .nameAndType 21 12), (0, u "locP"), (0, .fieldref 8 23), (0, .nameAndType 24 12), (0, u "locV"), (0, .fieldref 8 26), (0, .nameAndType 27 12), (0, u "lastSt"), (0, .fieldref 8 29), (0, .nameAndType 30 12), (0, u "lastVal"), (0, .fieldref 8 32), (0, .nameAndType 33 12), (0, u "logKind"), (0, .fieldref 8 35), (0, .nameAndType 36 12), (0, u "evKind"), (0, .fieldref 8 38), (0, .nameAndType 39 12), (0, u "evThread"), (0, .fieldref 8 41), (0, .nameAndType 42 12), (0, u "evVal"), (0, .fieldref 8 44), (0, .nameAndType 45 12), (0, u "snap"), (0, .fieldref 8 47), (0, .nameAndType 48 12), (0, u "opKind"), (0, .fieldref 8 50), (0, .nameAndType 51 12), (0, u "opArg"), (0, .fieldref 8 53), (0, .nameAndType 54 12), (0, u "opInv"), (0, .fieldref 8 56), (0, .nameAndType 57 12), (0, u "opRes"), (0, .fieldref 8 59), (0, .nameAndType 60 12), (0, u "opStatus"), (0, .fieldref 8 62), (0, .nameAndType 63 12), (0, u "opRVal"), (0, .fieldref 8 65), (0, .nameAndType 66 12), (0, u "predMask"), (0, .fieldref 8 68), (0, .nameAndType 69 12), (0, u "openOp"), (0, .fieldref 8 71), (0, .nameAndType 72 12), (0, u "qBuf"), (0, .fieldref 8 74), (0, .nameAndType 75 12), (0, u "qLen"), (0, .fieldref 8 77), (0, .nameAndType 78 12), (0, u "nextCand"), (0, .fieldref 8 80), (0, .nameAndType 81 12), (0, u "chosen"), (0, .methodref 8 83), (0, .nameAndType 84 85), (0, u "clamp"), (0, u "(III)I"), (0, .fieldref 8 87), (0, .nameAndType 88 89), (0, u "nThreads"), (0, u "I"), (0, .fieldref 8 91), (0, .nameAndType 92 89), (0, u "cap"), (0, .fieldref 8 94), (0, .nameAndType 95 89), (0, u "mask"), (0, .integer 2147483584), (0, .fieldref 8 98), (0, .nameAndType 99 89), (0, u "head"), (0, .fieldref 8 101), (0, .nameAndType 102 89), (0, u "tail"), (0, .fieldref 8 104), (0, .nameAndType 105 89), (0, u "histLen"), (0, .fieldref 8 107), (0, .nameAndType 108 89), (0, u "snapLen"), (0, .methodref 8 110), (0, .nameAndType 111 112), (0, u "pending"), (0, u "()I"), (0, .methodref 8 114), (0, .nameAndType 115 116), (0, u "valid"), (0, u "(I)Z"), (0, .methodref 8 118), (0, .nameAndType 119 120), (0, u "hasRoom"), (0, u "()Z"), (0, .methodref 8 122), (0, .nameAndType 123 124), (0, u "append"), (0, u "(III)V"), (0, .methodref 8 126), (0, .nameAndType 127 116), (0, u "doStep"), (0, .methodref 8 129), (0, .nameAndType 130 131), (0, u "enqStep"), (0, u "(II)Z"), (0, .methodref 8 133), (0, .nameAndType 134 131), (0, u "deqStep"), (0, .methodref 8 136), (0, .nameAndType 137 124), (0, u "finish"), (0, .methodref 8 139), (0, .nameAndType 140 141), (0, u "resKind"), (0, u "(I)I"), (3, .methodref 8 146), (0, .nameAndType 147 112), (0, u "countInvocations"), (0, .methodref 8 149), (0, .nameAndType 150 6), (0, u "parseOps"), (0, .methodref 8 152), (0, .nameAndType 153 6), (0, u "buildPreds"), (0, .methodref 8 155), (0, .nameAndType 156 112), (0, u "search"), (0, .fieldref 8 158), (0, .nameAndType 159 89), (0, u "opCount"), (0, .methodref 8 161), (0, .nameAndType 162 163), (0, u "addOp"), (0, u "(II)V"), (0, .methodref 8 165), (0, .nameAndType 166 163), (0, u "closeOp"), (0, .fieldref 8 168), (0, .nameAndType 169 89), (0, u "completeMask"), (0, .integer 200000), (0, .methodref 8 172), (0, .nameAndType 173 131), (0, u "apply"), (0, .methodref 8 175), (0, .nameAndType 176 131), (0, u "applyEnq"), (0, .methodref 8 178), (0, .nameAndType 179 131), (0, u "applyDeq"), (0, .methodref 8 181), (0, .nameAndType 182 163), (0, u "copyQueue"), (0, u "REFUSED"), (2, u "IDLE"), (1, u "RUNNING"), (1, u "FINISHED"), (1, u "ENQ"), (0, u "DEQ"), (0, u "NONE"), (0, u "OK"), (0, u "FULL"), (0, u "EMPTY"), (1, u "ST_IDLE"), (0, u "ST_LOGGED"), (0, u "E_LOAD_TAIL"), (1, u "E_LOAD_SEQ"), (1, u "E_CAS"), (1, u "E_LOAD_HEAD"), (1, u "E_STORE_VAL"), (1, u "E_PUBLISH"), (1, u "D_LOAD_HEAD"), (1, u "D_LOAD_SEQ"), (1, u "D_CAS"), (1, u "D_LOAD_TAIL"), (1, u "D_LOAD_VAL"), (1, u "D_RELEASE"), (1, u "EV_INV_ENQ"), (0, u "EV_INV_DEQ"), (0, u "EV_RES_OK"), (0, u "EV_RES_FULL"), (1, u "EV_RES_EMPTY"), (1, u "HISTORY_CAP"), (1, u "CHECK_LIMIT"), (1, u "YES"), (0, u "NO"), (0, u "TOO_LONG"), (3, u "startEnqueue"), (0, u "startDequeue"), (0, u "step"), (0, u "run"), (0, u "(II)I"), (8, u "clearHistory"), (3, u "check")] 2

def k2c0 : Code := { maxStack := 5, maxLocals := 8, code := prog_1_method_1_code, exceptionTable := #[], attributes := #[] }
def k2m0 : Method := { name := "<init>", desc := "(III)V", sig := { parameters := [.int, .int, .int], returnType := none }, accessFlags := 1, code := some k2c0 }
def k2c1 : Code := { maxStack := 2, maxLocals := 4, code := prog_1_method_2_code, exceptionTable := #[], attributes := #[] }
def k2m1 : Method := { name := "clamp", desc := "(III)I", sig := { parameters := [.int, .int, .int], returnType := some .int }, accessFlags := 2, code := some k2c1 }
def k2c2 : Code := { maxStack := 2, maxLocals := 2, code := prog_1_method_3_code, exceptionTable := #[], attributes := #[] }
def k2m2 : Method := { name := "valid", desc := "(I)Z", sig := { parameters := [.int], returnType := some .boolean }, accessFlags := 2, code := some k2c2 }
def k2c3 : Code := { maxStack := 2, maxLocals := 3, code := prog_1_method_4_code, exceptionTable := #[], attributes := #[] }
def k2m3 : Method := { name := "pending", desc := "()I", sig := { parameters := [], returnType := some .int }, accessFlags := 2, code := some k2c3 }
def k2c4 : Code := { maxStack := 2, maxLocals := 2, code := prog_1_method_5_code, exceptionTable := #[], attributes := #[] }
def k2m4 : Method := { name := "hasRoom", desc := "()Z", sig := { parameters := [], returnType := some .boolean }, accessFlags := 2, code := some k2c4 }
def k2c5 : Code := { maxStack := 3, maxLocals := 4, code := prog_1_method_6_code, exceptionTable := #[], attributes := #[] }
def k2m5 : Method := { name := "append", desc := "(III)V", sig := { parameters := [.int, .int, .int], returnType := none }, accessFlags := 2, code := some k2c5 }
def k2c6 : Code := { maxStack := 2, maxLocals := 2, code := prog_1_method_7_code, exceptionTable := #[], attributes := #[] }
def k2m6 : Method := { name := "resKind", desc := "(I)I", sig := { parameters := [.int], returnType := some .int }, accessFlags := 2, code := some k2c6 }
def k2c7 : Code := { maxStack := 4, maxLocals := 3, code := prog_1_method_8_code, exceptionTable := #[], attributes := #[] }
def k2m7 : Method := { name := "startEnqueue", desc := "(II)Z", sig := { parameters := [.int, .int], returnType := some .boolean }, accessFlags := 1, code := some k2c7 }
def k2c8 : Code := { maxStack := 4, maxLocals := 2, code := prog_1_method_9_code, exceptionTable := #[], attributes := #[] }
def k2m8 : Method := { name := "startDequeue", desc := "(I)Z", sig := { parameters := [.int], returnType := some .boolean }, accessFlags := 1, code := some k2c8 }
def k2c9 : Code := { maxStack := 2, maxLocals := 2, code := prog_1_method_10_code, exceptionTable := #[], attributes := #[] }
def k2m9 : Method := { name := "step", desc := "(I)I", sig := { parameters := [.int], returnType := some .int }, accessFlags := 1, code := some k2c9 }
def k2c10 : Code := { maxStack := 4, maxLocals := 5, code := prog_1_method_11_code, exceptionTable := #[], attributes := #[] }
def k2m10 : Method := { name := "run", desc := "(II)I", sig := { parameters := [.int, .int], returnType := some .int }, accessFlags := 1, code := some k2c10 }
def k2c11 : Code := { maxStack := 3, maxLocals := 3, code := prog_1_method_12_code, exceptionTable := #[], attributes := #[] }
def k2m11 : Method := { name := "doStep", desc := "(I)Z", sig := { parameters := [.int], returnType := some .boolean }, accessFlags := 2, code := some k2c11 }
def k2c12 : Code := { maxStack := 4, maxLocals := 6, code := prog_1_method_13_code, exceptionTable := #[], attributes := #[] }
def k2m12 : Method := { name := "enqStep", desc := "(II)Z", sig := { parameters := [.int, .int], returnType := some .boolean }, accessFlags := 2, code := some k2c12 }
def k2c13 : Code := { maxStack := 5, maxLocals := 6, code := prog_1_method_14_code, exceptionTable := #[], attributes := #[] }
def k2m13 : Method := { name := "deqStep", desc := "(II)Z", sig := { parameters := [.int, .int], returnType := some .boolean }, accessFlags := 2, code := some k2c13 }
def k2c14 : Code := { maxStack := 4, maxLocals := 5, code := prog_1_method_15_code, exceptionTable := #[], attributes := #[] }
def k2m14 : Method := { name := "finish", desc := "(III)V", sig := { parameters := [.int, .int, .int], returnType := none }, accessFlags := 2, code := some k2c14 }
def k2c15 : Code := { maxStack := 5, maxLocals := 3, code := prog_1_method_23_code, exceptionTable := #[], attributes := #[] }
def k2m15 : Method := { name := "clearHistory", desc := "()Z", sig := { parameters := [], returnType := some .boolean }, accessFlags := 1, code := some k2c15 }
def k2c16 : Code := { maxStack := 2, maxLocals := 2, code := prog_1_method_27_code, exceptionTable := #[], attributes := #[] }
def k2m16 : Method := { name := "check", desc := "()I", sig := { parameters := [], returnType := some .int }, accessFlags := 1, code := some k2c16 }
def k2c17 : Code := { maxStack := 2, maxLocals := 3, code := prog_1_method_28_code, exceptionTable := #[], attributes := #[] }
def k2m17 : Method := { name := "countInvocations", desc := "()I", sig := { parameters := [], returnType := some .int }, accessFlags := 2, code := some k2c17 }
def k2c18 : Code := { maxStack := 3, maxLocals := 3, code := prog_1_method_29_code, exceptionTable := #[], attributes := #[] }
def k2m18 : Method := { name := "parseOps", desc := "()V", sig := { parameters := [], returnType := none }, accessFlags := 2, code := some k2c18 }
def k2c19 : Code := { maxStack := 4, maxLocals := 4, code := prog_1_method_30_code, exceptionTable := #[], attributes := #[] }
def k2m19 : Method := { name := "addOp", desc := "(II)V", sig := { parameters := [.int, .int], returnType := none }, accessFlags := 2, code := some k2c19 }
def k2c20 : Code := { maxStack := 4, maxLocals := 5, code := prog_1_method_31_code, exceptionTable := #[], attributes := #[] }
def k2m20 : Method := { name := "closeOp", desc := "(II)V", sig := { parameters := [.int, .int], returnType := none }, accessFlags := 2, code := some k2c20 }
def k2c21 : Code := { maxStack := 5, maxLocals := 3, code := prog_1_method_32_code, exceptionTable := #[], attributes := #[] }
def k2m21 : Method := { name := "buildPreds", desc := "()V", sig := { parameters := [], returnType := none }, accessFlags := 2, code := some k2c21 }
def k2c22 : Code := { maxStack := 4, maxLocals := 5, code := prog_1_method_33_code, exceptionTable := #[], attributes := #[] }
def k2m22 : Method := { name := "search", desc := "()I", sig := { parameters := [], returnType := some .int }, accessFlags := 2, code := some k2c22 }
def k2c23 : Code := { maxStack := 3, maxLocals := 3, code := prog_1_method_34_code, exceptionTable := #[], attributes := #[] }
def k2m23 : Method := { name := "apply", desc := "(II)Z", sig := { parameters := [.int, .int], returnType := some .boolean }, accessFlags := 2, code := some k2c23 }
def k2c24 : Code := { maxStack := 4, maxLocals := 6, code := prog_1_method_35_code, exceptionTable := #[], attributes := #[] }
def k2m24 : Method := { name := "applyEnq", desc := "(II)Z", sig := { parameters := [.int, .int], returnType := some .boolean }, accessFlags := 2, code := some k2c24 }
def k2c25 : Code := { maxStack := 3, maxLocals := 6, code := prog_1_method_36_code, exceptionTable := #[], attributes := #[] }
def k2m25 : Method := { name := "applyDeq", desc := "(II)Z", sig := { parameters := [.int, .int], returnType := some .boolean }, accessFlags := 2, code := some k2c25 }
def k2c26 : Code := { maxStack := 5, maxLocals := 8, code := prog_1_method_37_code, exceptionTable := #[], attributes := #[] }
def k2m26 : Method := { name := "copyQueue", desc := "(II)V", sig := { parameters := [.int, .int], returnType := none }, accessFlags := 2, code := some k2c26 }
/-- SeqRingQueue -/
def k2 : Class := { plain "SeqRingQueue" (some 0) with
  accessFlags := 49
  interfaces := #[]
  cf := some (fileOf pool2 8 #[] #[{ accessFlags := 1, nameIndex := 5, descriptorIndex := 124, attributes := #[] }, { accessFlags := 2, nameIndex := 84, descriptorIndex := 85, attributes := #[] }, { accessFlags := 2, nameIndex := 115, descriptorIndex := 116, attributes := #[] }, { accessFlags := 2, nameIndex := 111, descriptorIndex := 112, attributes := #[] }, { accessFlags := 2, nameIndex := 119, descriptorIndex := 120, attributes := #[] }, { accessFlags := 2, nameIndex := 123, descriptorIndex := 124, attributes := #[] }, { accessFlags := 2, nameIndex := 140, descriptorIndex := 141, attributes := #[] }, { accessFlags := 1, nameIndex := 242, descriptorIndex := 131, attributes := #[] }, { accessFlags := 1, nameIndex := 243, descriptorIndex := 116, attributes := #[] }, { accessFlags := 1, nameIndex := 244, descriptorIndex := 141, attributes := #[] }, { accessFlags := 1, nameIndex := 245, descriptorIndex := 246, attributes := #[] }, { accessFlags := 2, nameIndex := 127, descriptorIndex := 116, attributes := #[] }, { accessFlags := 2, nameIndex := 130, descriptorIndex := 131, attributes := #[] }, { accessFlags := 2, nameIndex := 134, descriptorIndex := 131, attributes := #[] }, { accessFlags := 2, nameIndex := 137, descriptorIndex := 124, attributes := #[] }, { accessFlags := 1, nameIndex := 255, descriptorIndex := 120, attributes := #[] }, { accessFlags := 1, nameIndex := 259, descriptorIndex := 112, attributes := #[] }, { accessFlags := 2, nameIndex := 147, descriptorIndex := 112, attributes := #[] }, { accessFlags := 2, nameIndex := 150, descriptorIndex := 6, attributes := #[] }, { accessFlags := 2, nameIndex := 162, descriptorIndex := 163, attributes := #[] }, { accessFlags := 2, nameIndex := 166, descriptorIndex := 163, attributes := #[] }, { accessFlags := 2, nameIndex := 153, descriptorIndex := 6, attributes := #[] }, { accessFlags := 2, nameIndex := 156, descriptorIndex := 112, attributes := #[] }, { accessFlags := 2, nameIndex := 173, descriptorIndex := 131, attributes := #[] }, { accessFlags := 2, nameIndex := 176, descriptorIndex := 131, attributes := #[] }, { accessFlags := 2, nameIndex := 179, descriptorIndex := 131, attributes := #[] }, { accessFlags := 2, nameIndex := 182, descriptorIndex := 163, attributes := #[] }] 49 2 #[] #[{ accessFlags := 25, nameIndex := 183, descriptorIndex := 89, attributes := #[] }, { accessFlags := 25, nameIndex := 186, descriptorIndex := 89, attributes := #[] }, { accessFlags := 25, nameIndex := 188, descriptorIndex := 89, attributes := #[] }, { accessFlags := 25, nameIndex := 190, descriptorIndex := 89, attributes := #[] }, { accessFlags := 25, nameIndex := 192, descriptorIndex := 89, attributes := #[] }, { accessFlags := 25, nameIndex := 193, descriptorIndex := 89, attributes := #[] }, { accessFlags := 25, nameIndex := 194, descriptorIndex := 89, attributes := #[] }, { accessFlags := 25, nameIndex := 195, descriptorIndex := 89, attributes := #[] }, { accessFlags := 25, nameIndex := 196, descriptorIndex := 89, attributes := #[] }, { accessFlags := 25, nameIndex := 197, descriptorIndex := 89, attributes := #[] }, { accessFlags := 25, nameIndex := 199, descriptorIndex := 89, attributes := #[] }, { accessFlags := 25, nameIndex := 200, descriptorIndex := 89, attributes := #[] }, { accessFlags := 25, nameIndex := 201, descriptorIndex := 89, attributes := #[] }, { accessFlags := 25, nameIndex := 203, descriptorIndex := 89, attributes := #[] }, { accessFlags := 25, nameIndex := 205, descriptorIndex := 89, attributes := #[] }, { accessFlags := 25, nameIndex := 207, descriptorIndex := 89, attributes := #[] }, { accessFlags := 25, nameIndex := 209, descriptorIndex := 89, attributes := #[] }, { accessFlags := 25, nameIndex := 211, descriptorIndex := 89, attributes := #[] }, { accessFlags := 25, nameIndex := 213, descriptorIndex := 89, attributes := #[] }, { accessFlags := 25, nameIndex := 215, descriptorIndex := 89, attributes := #[] }, { accessFlags := 25, nameIndex := 217, descriptorIndex := 89, attributes := #[] }, { accessFlags := 25, nameIndex := 219, descriptorIndex := 89, attributes := #[] }, { accessFlags := 25, nameIndex := 221, descriptorIndex := 89, attributes := #[] }, { accessFlags := 25, nameIndex := 223, descriptorIndex := 89, attributes := #[] }, { accessFlags := 25, nameIndex := 225, descriptorIndex := 89, attributes := #[] }, { accessFlags := 25, nameIndex := 226, descriptorIndex := 89, attributes := #[] }, { accessFlags := 25, nameIndex := 227, descriptorIndex := 89, attributes := #[] }, { accessFlags := 25, nameIndex := 228, descriptorIndex := 89, attributes := #[] }, { accessFlags := 25, nameIndex := 230, descriptorIndex := 89, attributes := #[] }, { accessFlags := 25, nameIndex := 232, descriptorIndex := 89, attributes := #[] }, { accessFlags := 25, nameIndex := 234, descriptorIndex := 89, attributes := #[] }, { accessFlags := 25, nameIndex := 236, descriptorIndex := 89, attributes := #[] }, { accessFlags := 25, nameIndex := 237, descriptorIndex := 89, attributes := #[] }, { accessFlags := 25, nameIndex := 238, descriptorIndex := 89, attributes := #[] }, { accessFlags := 2, nameIndex := 92, descriptorIndex := 89, attributes := #[] }, { accessFlags := 2, nameIndex := 95, descriptorIndex := 89, attributes := #[] }, { accessFlags := 2, nameIndex := 88, descriptorIndex := 89, attributes := #[] }, { accessFlags := 2, nameIndex := 99, descriptorIndex := 89, attributes := #[] }, { accessFlags := 2, nameIndex := 102, descriptorIndex := 89, attributes := #[] }, { accessFlags := 2, nameIndex := 11, descriptorIndex := 12, attributes := #[] }, { accessFlags := 2, nameIndex := 15, descriptorIndex := 12, attributes := #[] }, { accessFlags := 2, nameIndex := 18, descriptorIndex := 12, attributes := #[] }, { accessFlags := 2, nameIndex := 21, descriptorIndex := 12, attributes := #[] }, { accessFlags := 2, nameIndex := 24, descriptorIndex := 12, attributes := #[] }, { accessFlags := 2, nameIndex := 27, descriptorIndex := 12, attributes := #[] }, { accessFlags := 2, nameIndex := 30, descriptorIndex := 12, attributes := #[] }, { accessFlags := 2, nameIndex := 33, descriptorIndex := 12, attributes := #[] }, { accessFlags := 2, nameIndex := 36, descriptorIndex := 12, attributes := #[] }, { accessFlags := 2, nameIndex := 39, descriptorIndex := 12, attributes := #[] }, { accessFlags := 2, nameIndex := 42, descriptorIndex := 12, attributes := #[] }, { accessFlags := 2, nameIndex := 105, descriptorIndex := 89, attributes := #[] }, { accessFlags := 2, nameIndex := 45, descriptorIndex := 12, attributes := #[] }, { accessFlags := 2, nameIndex := 108, descriptorIndex := 89, attributes := #[] }, { accessFlags := 2, nameIndex := 48, descriptorIndex := 12, attributes := #[] }, { accessFlags := 2, nameIndex := 51, descriptorIndex := 12, attributes := #[] }, { accessFlags := 2, nameIndex := 54, descriptorIndex := 12, attributes := #[] }, { accessFlags := 2, nameIndex := 57, descriptorIndex := 12, attributes := #[] }, { accessFlags := 2, nameIndex := 60, descriptorIndex := 12, attributes := #[] }, { accessFlags := 2, nameIndex := 63, descriptorIndex := 12, attributes := #[] }, { accessFlags := 2, nameIndex := 66, descriptorIndex := 12, attributes := #[] }, { accessFlags := 2, nameIndex := 69, descriptorIndex := 12, attributes := #[] }, { accessFlags := 2, nameIndex := 72, descriptorIndex := 12, attributes := #[] }, { accessFlags := 2, nameIndex := 75, descriptorIndex := 12, attributes := #[] }, { accessFlags := 2, nameIndex := 78, descriptorIndex := 12, attributes := #[] }, { accessFlags := 2, nameIndex := 81, descriptorIndex := 12, attributes := #[] }, { accessFlags := 2, nameIndex := 159, descriptorIndex := 89, attributes := #[] }, { accessFlags := 2, nameIndex := 169, descriptorIndex := 89, attributes := #[] }])
  fields := #[{ name := "REFUSED", type := .int, accessFlags := 25, slot := 0, constantValue := 0 }, { name := "IDLE", type := .int, accessFlags := 25, slot := 1, constantValue := 0 }, { name := "RUNNING", type := .int, accessFlags := 25, slot := 2, constantValue := 0 }, { name := "FINISHED", type := .int, accessFlags := 25, slot := 3, constantValue := 0 }, { name := "ENQ", type := .int, accessFlags := 25, slot := 4, constantValue := 0 }, { name := "DEQ", type := .int, accessFlags := 25, slot := 5, constantValue := 0 }, { name := "NONE", type := .int, accessFlags := 25, slot := 6, constantValue := 0 }, { name := "OK", type := .int, accessFlags := 25, slot := 7, constantValue := 0 }, { name := "FULL", type := .int, accessFlags := 25, slot := 8, constantValue := 0 }, { name := "EMPTY", type := .int, accessFlags := 25, slot := 9, constantValue := 0 }, { name := "ST_IDLE", type := .int, accessFlags := 25, slot := 10, constantValue := 0 }, { name := "ST_LOGGED", type := .int, accessFlags := 25, slot := 11, constantValue := 0 }, { name := "E_LOAD_TAIL", type := .int, accessFlags := 25, slot := 12, constantValue := 0 }, { name := "E_LOAD_SEQ", type := .int, accessFlags := 25, slot := 13, constantValue := 0 }, { name := "E_CAS", type := .int, accessFlags := 25, slot := 14, constantValue := 0 }, { name := "E_LOAD_HEAD", type := .int, accessFlags := 25, slot := 15, constantValue := 0 }, { name := "E_STORE_VAL", type := .int, accessFlags := 25, slot := 16, constantValue := 0 }, { name := "E_PUBLISH", type := .int, accessFlags := 25, slot := 17, constantValue := 0 }, { name := "D_LOAD_HEAD", type := .int, accessFlags := 25, slot := 18, constantValue := 0 }, { name := "D_LOAD_SEQ", type := .int, accessFlags := 25, slot := 19, constantValue := 0 }, { name := "D_CAS", type := .int, accessFlags := 25, slot := 20, constantValue := 0 }, { name := "D_LOAD_TAIL", type := .int, accessFlags := 25, slot := 21, constantValue := 0 }, { name := "D_LOAD_VAL", type := .int, accessFlags := 25, slot := 22, constantValue := 0 }, { name := "D_RELEASE", type := .int, accessFlags := 25, slot := 23, constantValue := 0 }, { name := "EV_INV_ENQ", type := .int, accessFlags := 25, slot := 24, constantValue := 0 }, { name := "EV_INV_DEQ", type := .int, accessFlags := 25, slot := 25, constantValue := 0 }, { name := "EV_RES_OK", type := .int, accessFlags := 25, slot := 26, constantValue := 0 }, { name := "EV_RES_FULL", type := .int, accessFlags := 25, slot := 27, constantValue := 0 }, { name := "EV_RES_EMPTY", type := .int, accessFlags := 25, slot := 28, constantValue := 0 }, { name := "HISTORY_CAP", type := .int, accessFlags := 25, slot := 29, constantValue := 0 }, { name := "CHECK_LIMIT", type := .int, accessFlags := 25, slot := 30, constantValue := 0 }, { name := "YES", type := .int, accessFlags := 25, slot := 31, constantValue := 0 }, { name := "NO", type := .int, accessFlags := 25, slot := 32, constantValue := 0 }, { name := "TOO_LONG", type := .int, accessFlags := 25, slot := 33, constantValue := 0 }, { name := "cap", type := .int, accessFlags := 2, slot := 0, constantValue := 0 }, { name := "mask", type := .int, accessFlags := 2, slot := 1, constantValue := 0 }, { name := "nThreads", type := .int, accessFlags := 2, slot := 2, constantValue := 0 }, { name := "head", type := .int, accessFlags := 2, slot := 3, constantValue := 0 }, { name := "tail", type := .int, accessFlags := 2, slot := 4, constantValue := 0 }, { name := "seq", type := (.array .int), accessFlags := 2, slot := 5, constantValue := 0 }, { name := "val", type := (.array .int), accessFlags := 2, slot := 6, constantValue := 0 }, { name := "st", type := (.array .int), accessFlags := 2, slot := 7, constantValue := 0 }, { name := "locP", type := (.array .int), accessFlags := 2, slot := 8, constantValue := 0 }, { name := "locV", type := (.array .int), accessFlags := 2, slot := 9, constantValue := 0 }, { name := "lastSt", type := (.array .int), accessFlags := 2, slot := 10, constantValue := 0 }, { name := "lastVal", type := (.array .int), accessFlags := 2, slot := 11, constantValue := 0 }, { name := "logKind", type := (.array .int), accessFlags := 2, slot := 12, constantValue := 0 }, { name := "evKind", type := (.array .int), accessFlags := 2, slot := 13, constantValue := 0 }, { name := "evThread", type := (.array .int), accessFlags := 2, slot := 14, constantValue := 0 }, { name := "evVal", type := (.array .int), accessFlags := 2, slot := 15, constantValue := 0 }, { name := "histLen", type := .int, accessFlags := 2, slot := 16, constantValue := 0 }, { name := "snap", type := (.array .int), accessFlags := 2, slot := 17, constantValue := 0 }, { name := "snapLen", type := .int, accessFlags := 2, slot := 18, constantValue := 0 }, { name := "opKind", type := (.array .int), accessFlags := 2, slot := 19, constantValue := 0 }, { name := "opArg", type := (.array .int), accessFlags := 2, slot := 20, constantValue := 0 }, { name := "opInv", type := (.array .int), accessFlags := 2, slot := 21, constantValue := 0 }, { name := "opRes", type := (.array .int), accessFlags := 2, slot := 22, constantValue := 0 }, { name := "opStatus", type := (.array .int), accessFlags := 2, slot := 23, constantValue := 0 }, { name := "opRVal", type := (.array .int), accessFlags := 2, slot := 24, constantValue := 0 }, { name := "predMask", type := (.array .int), accessFlags := 2, slot := 25, constantValue := 0 }, { name := "openOp", type := (.array .int), accessFlags := 2, slot := 26, constantValue := 0 }, { name := "qBuf", type := (.array .int), accessFlags := 2, slot := 27, constantValue := 0 }, { name := "qLen", type := (.array .int), accessFlags := 2, slot := 28, constantValue := 0 }, { name := "nextCand", type := (.array .int), accessFlags := 2, slot := 29, constantValue := 0 }, { name := "chosen", type := (.array .int), accessFlags := 2, slot := 30, constantValue := 0 }, { name := "opCount", type := .int, accessFlags := 2, slot := 31, constantValue := 0 }, { name := "completeMask", type := .int, accessFlags := 2, slot := 32, constantValue := 0 }]
  methods := #[k2m0, k2m1, k2m2, k2m3, k2m4, k2m5, k2m6, k2m7, k2m8, k2m9, k2m10, k2m11, k2m12, k2m13, k2m14, k2m15, k2m16, k2m17, k2m18, k2m19, k2m20, k2m21, k2m22, k2m23, k2m24, k2m25, k2m26]
  instanceTypes := #[.int, .int, .int, .int, .int, (.array .int), (.array .int), (.array .int), (.array .int), (.array .int), (.array .int), (.array .int), (.array .int), (.array .int), (.array .int), (.array .int), .int, (.array .int), .int, (.array .int), (.array .int), (.array .int), (.array .int), (.array .int), (.array .int), (.array .int), (.array .int), (.array .int), (.array .int), (.array .int), (.array .int), .int, .int]
  staticTypes := #[.int, .int, .int, .int, .int, .int, .int, .int, .int, .int, .int, .int, .int, .int, .int, .int, .int, .int, .int, .int, .int, .int, .int, .int, .int, .int, .int, .int, .int, .int, .int, .int, .int, .int]
  resolved := Array.replicate 262 none
  statics := none }

def pool3 : Array CpInfo := pool [(1, u "java/lang/Cloneable"), (0, .class_ 1), (0, u "java/lang/Object"), (0, .class_ 3)] 3

/-- java/lang/Cloneable -/
def k3 : Class := { plain "java/lang/Cloneable" (some 0) with
  accessFlags := 1537
  interfaces := #[]
  cf := some (fileOf pool3 2 #[] #[] 1537 4 #[] #[])
  fields := #[]
  methods := #[]
  instanceTypes := #[]
  staticTypes := #[]
  resolved := Array.replicate 8 none
  statics := none }

def pool4 : Array CpInfo := pool [(1, u "java/io/Serializable"), (0, .class_ 1), (0, u "java/lang/Object"), (0, .class_ 3)] 3

/-- java/io/Serializable -/
def k4 : Class := { plain "java/io/Serializable" (some 0) with
  accessFlags := 1537
  interfaces := #[]
  cf := some (fileOf pool4 2 #[] #[] 1537 4 #[] #[])
  fields := #[]
  methods := #[]
  instanceTypes := #[]
  staticTypes := #[]
  resolved := Array.replicate 8 none
  statics := none }

/-- the primitive byte -/
def k5 : Class := { plain "byte" none with kind := .primitive 'B', accessFlags := 0x411 }
/-- [B -/
def k6 : Class := { plain "[B" (some 0) with kind := .array 5 .byte, interfaces := #[3, 4], accessFlags := 1041 }

/-- the primitive int -/
def k7 : Class := { plain "int" none with kind := .primitive 'I', accessFlags := 0x411 }
/-- [I -/
def k8 : Class := { plain "[I" (some 0) with kind := .array 7 .int, interfaces := #[3, 4], accessFlags := 1041 }

def heap : Heap := #[{ cls := 8, slots := #[.int 0], vm := .none }]
def classes : Array Class := #[k0, k1, k2, k3, k4, k5, k6, k7, k8]
def interned : List (Array UInt16 × Addr) := []
def slotsUsed : Nat := 1
def theMethod : MethodId := ⟨1, 4⟩
def args0 : Array Value := #[.ref 0]
def aboutOver (below : List Frame) : State where
  vm := { classes := classes, interned := interned.toArray }
  heap := heap
  slotsUsed := slotsUsed
  threads := #[{ frames := .invoking theMethod args0 :: below }]
def below0 : List Frame := [.native { method := ⟨0, 0⟩, args := #[] }]
def about1 : State := aboutOver below0
def p0 : Program := .bare "" "" ""
def e0 : Env := launch0.env 0 0 0
theorem w_frames : about1.frames = Frame.invoking theMethod args0 :: below0 := rfl
set_option maxRecDepth 65536 in
theorem w_args : argsFit about1.vm theMethod args0 = true := by decide +kernel
set_option maxRecDepth 65536 in
theorem w_heap : heapFits about1 = true := by decide +kernel
set_option maxRecDepth 65536 in
theorem w_runnable : about1.curStatus? = some .runnable := by decide +kernel
set_option maxRecDepth 65536 in
theorem w_alone : about1.alone = true := by decide +kernel
set_option maxRecDepth 65536 in
theorem w_named : about1.methodNamed? x = some theMethod := by decide +kernel
set_option maxRecDepth 65536 in
theorem w_hears : about1.hears theMethod below0 = true := by decide +kernel
set_option maxRecDepth 65536 in
theorem w_ripe : about1.ripe theMethod args0 below0 = true := by decide +kernel
theorem w_running : about1.status = .running := rfl
set_option maxRecDepth 65536 in
theorem w_room : about1.hasRoom e0.platform room_1 = true :=
  launch0.hasRoom_least _ room_1 (by decide +kernel) (by decide +kernel) (by decide +kernel) (by decide +kernel) (by decide +kernel) (by decide +kernel)
theorem allAtoms_all (ts : List Jvm.Cond) (a : Array Jvm.Value) (st : Jvm.State) : (allAtoms ts).before a st = ts.all (fun c => c.before a st) := by
  induction ts with
  | nil => rfl
  | cons c t ih =>
    show (Jvm.Cond.and c (allAtoms t)).before a st = _
    rw [Jvm.Cond.before_and, ih, List.all_cons]
def words1 : List Jvm.Cond := Jvm.Cond.code x code maxLocals ret :: tables_1
/-- a 'code' word, met by the world's own term for the bytes: nothing is compared byte by byte -/
theorem code_word {y : MethodName} {bytes : ByteArray} {mx : Nat} {rt : Option FieldType} {a : Array Value} {s : State} {m : MethodId} {meth : Method} {c : Code} (h1 : s.methodNamed? y = some m) (h2 : s.vm.method? m = some meth) (h3 : meth.code = some c) (h4 : c.code = bytes)
    (h5 : (c.maxLocals == mx && c.exceptionTable.isEmpty && decide (c.maxStack ≤ mostOperands) && decide (meth.sig.returnType = rt) && !meth.locks && decide (parseMethodDescriptor y.desc = some meth.sig)) = true) : (Jvm.Cond.code y bytes mx rt).before a s = true := by
  simp only [Bool.and_eq_true, beq_iff_eq, Bool.not_eq_true', decide_eq_true_eq] at h5
  obtain ⟨⟨⟨⟨⟨g1, g2⟩, g3⟩, g4⟩, g5⟩, g6⟩ := h5
  simp [Cond.before, Cond.holds, Cond.value, h1, h2, h3, h4, g1, g2, g3, g4, g5, g6]
def isCode : Jvm.Cond → Bool
  | .code _ _ _ _ => true
  | _ => false
theorem all_split {L : List Jvm.Cond} {P : Jvm.Cond → Bool} (h1 : L.all (fun c => isCode c || P c) = true) (h2 : ∀ c ∈ L.filter isCode, P c = true) : L.all P = true := by
  refine List.all_eq_true.mpr fun c hc => ?_
  have h := List.all_eq_true.mp h1 c hc
  rcases Bool.eq_false_or_eq_true (isCode c) with hi | hi
  · exact h2 c (List.mem_filter.mpr ⟨hc, hi⟩)
  · simpa [hi] using h
set_option maxRecDepth 65536 in
theorem w_c0 : (Jvm.Cond.code x code maxLocals ret).before args0 about1 = true := code_word (m := ⟨1, 4⟩) (meth := k1m4) (c := k1c4) (by decide +kernel) rfl rfl rfl (by decide +kernel)
set_option maxRecDepth 65536 in
theorem w_c1 : (Jvm.Cond.code ({ cls := "SeqRingQueueOwnLaw", name := "cell", desc := "([II)I" } : Jvm.MethodName) method_2_code (2 : Nat) (Option.some Jvm.ClassFile.FieldType.int)).before args0 about1 = true := code_word (m := ⟨1, 1⟩) (meth := k1m1) (c := k1c1) (by decide +kernel) rfl rfl rfl (by decide +kernel)
set_option maxRecDepth 65536 in
theorem w_c2 : (Jvm.Cond.code ({ cls := "SeqRingQueue", name := "<init>", desc := "(III)V" } : Jvm.MethodName) prog_1_method_1_code (8 : Nat) (Option.none : Option Jvm.ClassFile.FieldType)).before args0 about1 = true := code_word (m := ⟨2, 0⟩) (meth := k2m0) (c := k2c0) (by decide +kernel) rfl rfl rfl (by decide +kernel)
set_option maxRecDepth 65536 in
theorem w_c3 : (Jvm.Cond.code ({ cls := "java/lang/Object", name := "<init>", desc := "()V" } : Jvm.MethodName) object_method_1_code (1 : Nat) (Option.none : Option Jvm.ClassFile.FieldType)).before args0 about1 = true := code_word (m := ⟨0, 0⟩) (meth := k0m0) (c := k0c0) (by decide +kernel) rfl rfl rfl (by decide +kernel)
set_option maxRecDepth 65536 in
theorem w_c4 : (Jvm.Cond.code ({ cls := "SeqRingQueue", name := "clamp", desc := "(III)I" } : Jvm.MethodName) prog_1_method_2_code (4 : Nat) (Option.some Jvm.ClassFile.FieldType.int)).before args0 about1 = true := code_word (m := ⟨2, 1⟩) (meth := k2m1) (c := k2c1) (by decide +kernel) rfl rfl rfl (by decide +kernel)
set_option maxRecDepth 65536 in
theorem w_c5 : (Jvm.Cond.code ({ cls := "SeqRingQueue", name := "startEnqueue", desc := "(II)Z" } : Jvm.MethodName) prog_1_method_8_code (3 : Nat) (Option.some Jvm.ClassFile.FieldType.boolean)).before args0 about1 = true := code_word (m := ⟨2, 7⟩) (meth := k2m7) (c := k2c7) (by decide +kernel) rfl rfl rfl (by decide +kernel)
set_option maxRecDepth 65536 in
theorem w_c6 : (Jvm.Cond.code ({ cls := "SeqRingQueue", name := "valid", desc := "(I)Z" } : Jvm.MethodName) prog_1_method_3_code (2 : Nat) (Option.some Jvm.ClassFile.FieldType.boolean)).before args0 about1 = true := code_word (m := ⟨2, 2⟩) (meth := k2m2) (c := k2c2) (by decide +kernel) rfl rfl rfl (by decide +kernel)
set_option maxRecDepth 65536 in
theorem w_c7 : (Jvm.Cond.code ({ cls := "SeqRingQueue", name := "hasRoom", desc := "()Z" } : Jvm.MethodName) prog_1_method_5_code (2 : Nat) (Option.some Jvm.ClassFile.FieldType.boolean)).before args0 about1 = true := code_word (m := ⟨2, 4⟩) (meth := k2m4) (c := k2c4) (by decide +kernel) rfl rfl rfl (by decide +kernel)
set_option maxRecDepth 65536 in
theorem w_c8 : (Jvm.Cond.code ({ cls := "SeqRingQueue", name := "pending", desc := "()I" } : Jvm.MethodName) prog_1_method_4_code (3 : Nat) (Option.some Jvm.ClassFile.FieldType.int)).before args0 about1 = true := code_word (m := ⟨2, 3⟩) (meth := k2m3) (c := k2c3) (by decide +kernel) rfl rfl rfl (by decide +kernel)
set_option maxRecDepth 65536 in
theorem w_c9 : (Jvm.Cond.code ({ cls := "SeqRingQueue", name := "append", desc := "(III)V" } : Jvm.MethodName) prog_1_method_6_code (4 : Nat) (Option.none : Option Jvm.ClassFile.FieldType)).before args0 about1 = true := code_word (m := ⟨2, 5⟩) (meth := k2m5) (c := k2c5) (by decide +kernel) rfl rfl rfl (by decide +kernel)
set_option maxRecDepth 65536 in
theorem w_c10 : (Jvm.Cond.code ({ cls := "SeqRingQueue", name := "step", desc := "(I)I" } : Jvm.MethodName) prog_1_method_10_code (2 : Nat) (Option.some Jvm.ClassFile.FieldType.int)).before args0 about1 = true := code_word (m := ⟨2, 9⟩) (meth := k2m9) (c := k2c9) (by decide +kernel) rfl rfl rfl (by decide +kernel)
set_option maxRecDepth 65536 in
theorem w_c11 : (Jvm.Cond.code ({ cls := "SeqRingQueue", name := "doStep", desc := "(I)Z" } : Jvm.MethodName) prog_1_method_12_code (3 : Nat) (Option.some Jvm.ClassFile.FieldType.boolean)).before args0 about1 = true := code_word (m := ⟨2, 11⟩) (meth := k2m11) (c := k2c11) (by decide +kernel) rfl rfl rfl (by decide +kernel)
set_option maxRecDepth 65536 in
theorem w_c12 : (Jvm.Cond.code ({ cls := "SeqRingQueue", name := "enqStep", desc := "(II)Z" } : Jvm.MethodName) prog_1_method_13_code (6 : Nat) (Option.some Jvm.ClassFile.FieldType.boolean)).before args0 about1 = true := code_word (m := ⟨2, 12⟩) (meth := k2m12) (c := k2c12) (by decide +kernel) rfl rfl rfl (by decide +kernel)
set_option maxRecDepth 65536 in
theorem w_c13 : (Jvm.Cond.code ({ cls := "SeqRingQueue", name := "finish", desc := "(III)V" } : Jvm.MethodName) prog_1_method_15_code (5 : Nat) (Option.none : Option Jvm.ClassFile.FieldType)).before args0 about1 = true := code_word (m := ⟨2, 14⟩) (meth := k2m14) (c := k2c14) (by decide +kernel) rfl rfl rfl (by decide +kernel)
set_option maxRecDepth 65536 in
theorem w_c14 : (Jvm.Cond.code ({ cls := "SeqRingQueue", name := "resKind", desc := "(I)I" } : Jvm.MethodName) prog_1_method_7_code (2 : Nat) (Option.some Jvm.ClassFile.FieldType.int)).before args0 about1 = true := code_word (m := ⟨2, 6⟩) (meth := k2m6) (c := k2c6) (by decide +kernel) rfl rfl rfl (by decide +kernel)
set_option maxRecDepth 65536 in
theorem w_c15 : (Jvm.Cond.code ({ cls := "SeqRingQueue", name := "startDequeue", desc := "(I)Z" } : Jvm.MethodName) prog_1_method_9_code (2 : Nat) (Option.some Jvm.ClassFile.FieldType.boolean)).before args0 about1 = true := code_word (m := ⟨2, 8⟩) (meth := k2m8) (c := k2c8) (by decide +kernel) rfl rfl rfl (by decide +kernel)
set_option maxRecDepth 65536 in
theorem w_c16 : (Jvm.Cond.code ({ cls := "SeqRingQueue", name := "deqStep", desc := "(II)Z" } : Jvm.MethodName) prog_1_method_14_code (6 : Nat) (Option.some Jvm.ClassFile.FieldType.boolean)).before args0 about1 = true := code_word (m := ⟨2, 13⟩) (meth := k2m13) (c := k2c13) (by decide +kernel) rfl rfl rfl (by decide +kernel)
set_option maxRecDepth 65536 in
theorem w_c17 : (Jvm.Cond.code ({ cls := "SeqRingQueueOwnLaw", name := "settle", desc := "(LSeqRingQueue;)V" } : Jvm.MethodName) method_4_code (3 : Nat) (Option.none : Option Jvm.ClassFile.FieldType)).before args0 about1 = true := code_word (m := ⟨1, 3⟩) (meth := k1m3) (c := k1c3) (by decide +kernel) rfl rfl rfl (by decide +kernel)
set_option maxRecDepth 65536 in
theorem w_c18 : (Jvm.Cond.code ({ cls := "SeqRingQueue", name := "run", desc := "(II)I" } : Jvm.MethodName) prog_1_method_11_code (5 : Nat) (Option.some Jvm.ClassFile.FieldType.int)).before args0 about1 = true := code_word (m := ⟨2, 10⟩) (meth := k2m10) (c := k2c10) (by decide +kernel) rfl rfl rfl (by decide +kernel)
set_option maxRecDepth 65536 in
theorem w_c19 : (Jvm.Cond.code ({ cls := "SeqRingQueueOwnLaw", name := "checkOk", desc := "(LSeqRingQueue;)Z" } : Jvm.MethodName) method_3_code (1 : Nat) (Option.some Jvm.ClassFile.FieldType.boolean)).before args0 about1 = true := code_word (m := ⟨1, 2⟩) (meth := k1m2) (c := k1c2) (by decide +kernel) rfl rfl rfl (by decide +kernel)
set_option maxRecDepth 65536 in
theorem w_c20 : (Jvm.Cond.code ({ cls := "SeqRingQueue", name := "check", desc := "()I" } : Jvm.MethodName) prog_1_method_27_code (2 : Nat) (Option.some Jvm.ClassFile.FieldType.int)).before args0 about1 = true := code_word (m := ⟨2, 16⟩) (meth := k2m16) (c := k2c16) (by decide +kernel) rfl rfl rfl (by decide +kernel)
set_option maxRecDepth 65536 in
theorem w_c21 : (Jvm.Cond.code ({ cls := "SeqRingQueue", name := "countInvocations", desc := "()I" } : Jvm.MethodName) prog_1_method_28_code (3 : Nat) (Option.some Jvm.ClassFile.FieldType.int)).before args0 about1 = true := code_word (m := ⟨2, 17⟩) (meth := k2m17) (c := k2c17) (by decide +kernel) rfl rfl rfl (by decide +kernel)
set_option maxRecDepth 65536 in
theorem w_c22 : (Jvm.Cond.code ({ cls := "SeqRingQueue", name := "parseOps", desc := "()V" } : Jvm.MethodName) prog_1_method_29_code (3 : Nat) (Option.none : Option Jvm.ClassFile.FieldType)).before args0 about1 = true := code_word (m := ⟨2, 18⟩) (meth := k2m18) (c := k2c18) (by decide +kernel) rfl rfl rfl (by decide +kernel)
set_option maxRecDepth 65536 in
theorem w_c23 : (Jvm.Cond.code ({ cls := "SeqRingQueue", name := "addOp", desc := "(II)V" } : Jvm.MethodName) prog_1_method_30_code (4 : Nat) (Option.none : Option Jvm.ClassFile.FieldType)).before args0 about1 = true := code_word (m := ⟨2, 19⟩) (meth := k2m19) (c := k2c19) (by decide +kernel) rfl rfl rfl (by decide +kernel)
set_option maxRecDepth 65536 in
theorem w_c24 : (Jvm.Cond.code ({ cls := "SeqRingQueue", name := "closeOp", desc := "(II)V" } : Jvm.MethodName) prog_1_method_31_code (5 : Nat) (Option.none : Option Jvm.ClassFile.FieldType)).before args0 about1 = true := code_word (m := ⟨2, 20⟩) (meth := k2m20) (c := k2c20) (by decide +kernel) rfl rfl rfl (by decide +kernel)
set_option maxRecDepth 65536 in
theorem w_c25 : (Jvm.Cond.code ({ cls := "SeqRingQueue", name := "buildPreds", desc := "()V" } : Jvm.MethodName) prog_1_method_32_code (3 : Nat) (Option.none : Option Jvm.ClassFile.FieldType)).before args0 about1 = true := code_word (m := ⟨2, 21⟩) (meth := k2m21) (c := k2c21) (by decide +kernel) rfl rfl rfl (by decide +kernel)
set_option maxRecDepth 65536 in
theorem w_c26 : (Jvm.Cond.code ({ cls := "SeqRingQueue", name := "search", desc := "()I" } : Jvm.MethodName) prog_1_method_33_code (5 : Nat) (Option.some Jvm.ClassFile.FieldType.int)).before args0 about1 = true := code_word (m := ⟨2, 22⟩) (meth := k2m22) (c := k2c22) (by decide +kernel) rfl rfl rfl (by decide +kernel)
set_option maxRecDepth 65536 in
theorem w_c27 : (Jvm.Cond.code ({ cls := "SeqRingQueue", name := "apply", desc := "(II)Z" } : Jvm.MethodName) prog_1_method_34_code (3 : Nat) (Option.some Jvm.ClassFile.FieldType.boolean)).before args0 about1 = true := code_word (m := ⟨2, 23⟩) (meth := k2m23) (c := k2c23) (by decide +kernel) rfl rfl rfl (by decide +kernel)
set_option maxRecDepth 65536 in
theorem w_c28 : (Jvm.Cond.code ({ cls := "SeqRingQueue", name := "applyEnq", desc := "(II)Z" } : Jvm.MethodName) prog_1_method_35_code (6 : Nat) (Option.some Jvm.ClassFile.FieldType.boolean)).before args0 about1 = true := code_word (m := ⟨2, 24⟩) (meth := k2m24) (c := k2c24) (by decide +kernel) rfl rfl rfl (by decide +kernel)
set_option maxRecDepth 65536 in
theorem w_c29 : (Jvm.Cond.code ({ cls := "SeqRingQueue", name := "copyQueue", desc := "(II)V" } : Jvm.MethodName) prog_1_method_37_code (8 : Nat) (Option.none : Option Jvm.ClassFile.FieldType)).before args0 about1 = true := code_word (m := ⟨2, 26⟩) (meth := k2m26) (c := k2c26) (by decide +kernel) rfl rfl rfl (by decide +kernel)
set_option maxRecDepth 65536 in
theorem w_c30 : (Jvm.Cond.code ({ cls := "SeqRingQueue", name := "clearHistory", desc := "()Z" } : Jvm.MethodName) prog_1_method_23_code (3 : Nat) (Option.some Jvm.ClassFile.FieldType.boolean)).before args0 about1 = true := code_word (m := ⟨2, 15⟩) (meth := k2m15) (c := k2c15) (by decide +kernel) rfl rfl rfl (by decide +kernel)
set_option maxRecDepth 65536 in
theorem w_c31 : (Jvm.Cond.code ({ cls := "SeqRingQueue", name := "applyDeq", desc := "(II)Z" } : Jvm.MethodName) prog_1_method_36_code (6 : Nat) (Option.some Jvm.ClassFile.FieldType.boolean)).before args0 about1 = true := code_word (m := ⟨2, 25⟩) (meth := k2m25) (c := k2c25) (by decide +kernel) rfl rfl rfl (by decide +kernel)
def codes1 : List Jvm.Cond := [Jvm.Cond.code x code maxLocals ret, Jvm.Cond.code ({ cls := "SeqRingQueueOwnLaw", name := "cell", desc := "([II)I" } : Jvm.MethodName) method_2_code (2 : Nat) (Option.some Jvm.ClassFile.FieldType.int), Jvm.Cond.code ({ cls := "SeqRingQueue", name := "<init>", desc := "(III)V" } : Jvm.MethodName) prog_1_method_1_code (8 : Nat) (Option.none : Option Jvm.ClassFile.FieldType), Jvm.Cond.code ({ cls := "java/lang/Object", name := "<init>", desc := "()V" } : Jvm.MethodName) object_method_1_code (1 : Nat) (Option.none : Option Jvm.ClassFile.FieldType), Jvm.Cond.code ({ cls := "SeqRingQueue", name := "clamp", desc := "(III)I" } : Jvm.MethodName) prog_1_method_2_code (4 : Nat) (Option.some Jvm.ClassFile.FieldType.int), Jvm.Cond.code ({ cls := "SeqRingQueue", name := "startEnqueue", desc := "(II)Z" } : Jvm.MethodName) prog_1_method_8_code (3 : Nat) (Option.some Jvm.ClassFile.FieldType.boolean), Jvm.Cond.code ({ cls := "SeqRingQueue", name := "valid", desc := "(I)Z" } : Jvm.MethodName) prog_1_method_3_code (2 : Nat) (Option.some Jvm.ClassFile.FieldType.boolean), Jvm.Cond.code ({ cls := "SeqRingQueue", name := "hasRoom", desc := "()Z" } : Jvm.MethodName) prog_1_method_5_code (2 : Nat) (Option.some Jvm.ClassFile.FieldType.boolean), Jvm.Cond.code ({ cls := "SeqRingQueue", name := "pending", desc := "()I" } : Jvm.MethodName) prog_1_method_4_code (3 : Nat) (Option.some Jvm.ClassFile.FieldType.int), Jvm.Cond.code ({ cls := "SeqRingQueue", name := "append", desc := "(III)V" } : Jvm.MethodName) prog_1_method_6_code (4 : Nat) (Option.none : Option Jvm.ClassFile.FieldType), Jvm.Cond.code ({ cls := "SeqRingQueue", name := "step", desc := "(I)I" } : Jvm.MethodName) prog_1_method_10_code (2 : Nat) (Option.some Jvm.ClassFile.FieldType.int), Jvm.Cond.code ({ cls := "SeqRingQueue", name := "doStep", desc := "(I)Z" } : Jvm.MethodName) prog_1_method_12_code (3 : Nat) (Option.some Jvm.ClassFile.FieldType.boolean), Jvm.Cond.code ({ cls := "SeqRingQueue", name := "enqStep", desc := "(II)Z" } : Jvm.MethodName) prog_1_method_13_code (6 : Nat) (Option.some Jvm.ClassFile.FieldType.boolean), Jvm.Cond.code ({ cls := "SeqRingQueue", name := "finish", desc := "(III)V" } : Jvm.MethodName) prog_1_method_15_code (5 : Nat) (Option.none : Option Jvm.ClassFile.FieldType), Jvm.Cond.code ({ cls := "SeqRingQueue", name := "resKind", desc := "(I)I" } : Jvm.MethodName) prog_1_method_7_code (2 : Nat) (Option.some Jvm.ClassFile.FieldType.int), Jvm.Cond.code ({ cls := "SeqRingQueue", name := "startDequeue", desc := "(I)Z" } : Jvm.MethodName) prog_1_method_9_code (2 : Nat) (Option.some Jvm.ClassFile.FieldType.boolean), Jvm.Cond.code ({ cls := "SeqRingQueue", name := "deqStep", desc := "(II)Z" } : Jvm.MethodName) prog_1_method_14_code (6 : Nat) (Option.some Jvm.ClassFile.FieldType.boolean), Jvm.Cond.code ({ cls := "SeqRingQueueOwnLaw", name := "settle", desc := "(LSeqRingQueue;)V" } : Jvm.MethodName) method_4_code (3 : Nat) (Option.none : Option Jvm.ClassFile.FieldType), Jvm.Cond.code ({ cls := "SeqRingQueue", name := "run", desc := "(II)I" } : Jvm.MethodName) prog_1_method_11_code (5 : Nat) (Option.some Jvm.ClassFile.FieldType.int), Jvm.Cond.code ({ cls := "SeqRingQueueOwnLaw", name := "checkOk", desc := "(LSeqRingQueue;)Z" } : Jvm.MethodName) method_3_code (1 : Nat) (Option.some Jvm.ClassFile.FieldType.boolean), Jvm.Cond.code ({ cls := "SeqRingQueue", name := "check", desc := "()I" } : Jvm.MethodName) prog_1_method_27_code (2 : Nat) (Option.some Jvm.ClassFile.FieldType.int), Jvm.Cond.code ({ cls := "SeqRingQueue", name := "countInvocations", desc := "()I" } : Jvm.MethodName) prog_1_method_28_code (3 : Nat) (Option.some Jvm.ClassFile.FieldType.int), Jvm.Cond.code ({ cls := "SeqRingQueue", name := "parseOps", desc := "()V" } : Jvm.MethodName) prog_1_method_29_code (3 : Nat) (Option.none : Option Jvm.ClassFile.FieldType), Jvm.Cond.code ({ cls := "SeqRingQueue", name := "addOp", desc := "(II)V" } : Jvm.MethodName) prog_1_method_30_code (4 : Nat) (Option.none : Option Jvm.ClassFile.FieldType), Jvm.Cond.code ({ cls := "SeqRingQueue", name := "closeOp", desc := "(II)V" } : Jvm.MethodName) prog_1_method_31_code (5 : Nat) (Option.none : Option Jvm.ClassFile.FieldType), Jvm.Cond.code ({ cls := "SeqRingQueue", name := "buildPreds", desc := "()V" } : Jvm.MethodName) prog_1_method_32_code (3 : Nat) (Option.none : Option Jvm.ClassFile.FieldType), Jvm.Cond.code ({ cls := "SeqRingQueue", name := "search", desc := "()I" } : Jvm.MethodName) prog_1_method_33_code (5 : Nat) (Option.some Jvm.ClassFile.FieldType.int), Jvm.Cond.code ({ cls := "SeqRingQueue", name := "apply", desc := "(II)Z" } : Jvm.MethodName) prog_1_method_34_code (3 : Nat) (Option.some Jvm.ClassFile.FieldType.boolean), Jvm.Cond.code ({ cls := "SeqRingQueue", name := "applyEnq", desc := "(II)Z" } : Jvm.MethodName) prog_1_method_35_code (6 : Nat) (Option.some Jvm.ClassFile.FieldType.boolean), Jvm.Cond.code ({ cls := "SeqRingQueue", name := "copyQueue", desc := "(II)V" } : Jvm.MethodName) prog_1_method_37_code (8 : Nat) (Option.none : Option Jvm.ClassFile.FieldType), Jvm.Cond.code ({ cls := "SeqRingQueue", name := "clearHistory", desc := "()Z" } : Jvm.MethodName) prog_1_method_23_code (3 : Nat) (Option.some Jvm.ClassFile.FieldType.boolean), Jvm.Cond.code ({ cls := "SeqRingQueue", name := "applyDeq", desc := "(II)Z" } : Jvm.MethodName) prog_1_method_36_code (6 : Nat) (Option.some Jvm.ClassFile.FieldType.boolean)]
set_option maxRecDepth 65536 in
theorem codes_eq : words1.filter isCode = codes1 := rfl
theorem w_codes : ∀ c ∈ words1.filter isCode, c.before args0 about1 = true := by
  rw [codes_eq]
  intro c hc
  simp only [codes1, List.mem_cons, List.not_mem_nil, or_false] at hc
  rcases hc with rfl | rfl | rfl | rfl | rfl | rfl | rfl | rfl | rfl | rfl | rfl | rfl | rfl | rfl | rfl | rfl | rfl | rfl | rfl | rfl | rfl | rfl | rfl | rfl | rfl | rfl | rfl | rfl | rfl | rfl | rfl | rfl
  · exact w_c0
  · exact w_c1
  · exact w_c2
  · exact w_c3
  · exact w_c4
  · exact w_c5
  · exact w_c6
  · exact w_c7
  · exact w_c8
  · exact w_c9
  · exact w_c10
  · exact w_c11
  · exact w_c12
  · exact w_c13
  · exact w_c14
  · exact w_c15
  · exact w_c16
  · exact w_c17
  · exact w_c18
  · exact w_c19
  · exact w_c20
  · exact w_c21
  · exact w_c22
  · exact w_c23
  · exact w_c24
  · exact w_c25
  · exact w_c26
  · exact w_c27
  · exact w_c28
  · exact w_c29
  · exact w_c30
  · exact w_c31
set_option maxRecDepth 65536 in
theorem w_t1 : (words1.take 24).all (fun c => isCode c || c.before args0 about1) = true := by decide +kernel
set_option maxRecDepth 65536 in
theorem w_t2 : ((words1.drop 24).take 24).all (fun c => isCode c || c.before args0 about1) = true := by decide +kernel
set_option maxRecDepth 65536 in
theorem w_t3 : (((words1.drop 24).drop 24).take 24).all (fun c => isCode c || c.before args0 about1) = true := by decide +kernel
set_option maxRecDepth 65536 in
theorem w_t4 : ((((words1.drop 24).drop 24).drop 24).take 24).all (fun c => isCode c || c.before args0 about1) = true := by decide +kernel
set_option maxRecDepth 65536 in
theorem w_t5 : (((((words1.drop 24).drop 24).drop 24).drop 24).take 24).all (fun c => isCode c || c.before args0 about1) = true := by decide +kernel
set_option maxRecDepth 65536 in
theorem w_t6 : ((((((words1.drop 24).drop 24).drop 24).drop 24).drop 24).take 24).all (fun c => isCode c || c.before args0 about1) = true := by decide +kernel
set_option maxRecDepth 65536 in
theorem w_t7 : (((((((words1.drop 24).drop 24).drop 24).drop 24).drop 24).drop 24).take 24).all (fun c => isCode c || c.before args0 about1) = true := by decide +kernel
set_option maxRecDepth 65536 in
theorem w_t8 : ((((((((words1.drop 24).drop 24).drop 24).drop 24).drop 24).drop 24).drop 24).take 24).all (fun c => isCode c || c.before args0 about1) = true := by decide +kernel
set_option maxRecDepth 65536 in
theorem w_t9 : ((((((((words1.drop 24).drop 24).drop 24).drop 24).drop 24).drop 24).drop 24).drop 24).all (fun c => isCode c || c.before args0 about1) = true := by decide +kernel
theorem w_tables : (allAtoms (Jvm.Cond.code x code maxLocals ret :: tables_1)).before args0 about1 = true := by
  rw [allAtoms_all]
  show words1.all (fun c => c.before args0 about1) = true
  refine all_split ?_ w_codes
  rw [← List.take_append_drop 24 words1, List.all_append, w_t1, ← List.take_append_drop 24 (words1.drop 24), List.all_append, w_t2, ← List.take_append_drop 24 ((words1.drop 24).drop 24), List.all_append, w_t3, ← List.take_append_drop 24 (((words1.drop 24).drop 24).drop 24), List.all_append, w_t4, ← List.take_append_drop 24 ((((words1.drop 24).drop 24).drop 24).drop 24), List.all_append, w_t5, ← List.take_append_drop 24 (((((words1.drop 24).drop 24).drop 24).drop 24).drop 24), List.all_append, w_t6, ← List.take_append_drop 24 ((((((words1.drop 24).drop 24).drop 24).drop 24).drop 24).drop 24), List.all_append, w_t7, ← List.take_append_drop 24 (((((((words1.drop 24).drop 24).drop 24).drop 24).drop 24).drop 24).drop 24), List.all_append, w_t8, w_t9]
  rfl
set_option maxRecDepth 65536 in
theorem w_rest : rest_1_c.before args0 about1 = true := by decide +kernel
set_option maxRecDepth 65536 in
theorem w_case : (Jvm.Cond.and given_1 narrow_1).before args0 about1 = true := by decide +kernel
theorem w_applies : (headSpec (Jvm.Cond.code x code maxLocals ret :: tables_1) room_1).applies x e0.platform about1 = true :=
  (Spec.applies_iff w_frames).mpr ⟨w_running, w_runnable, w_alone, w_named, w_hears, w_ripe, w_room, w_tables⟩
theorem atStart : AtStart classFile x code maxLocals ret World_1 tables_1 room_1 Calls_1 rest_1 Pre_1 launch0 p0 e0 about1 theMethod args0 below0 :=
  ⟨lists_1, trivial, launch0.admits_env _ _ _, launch0.least_env, fairChoices_fair.cas, fairChoices_fair.clock, w_frames, w_args, w_heap, w_applies, trivial, w_rest, w_case⟩
end start1
theorem witness_1 : WitnessClaimed_1 := ⟨start1.p0, start1.e0, start1.about1, start1.theMethod, start1.args0, start1.below0, start1.atStart⟩
end Jvm.Pilot.@@N@@
