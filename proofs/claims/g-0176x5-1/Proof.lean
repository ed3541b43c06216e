import JvmDerived
import JvmDerived.Pilot.@@N@@Statement
import JvmDerived.Pilot.@@N@@Code
set_option linter.unusedVariables false
set_option linter.unusedSimpArgs false
/-! # A small executor over an abstract heap, and that it is sound for the model (Stand's family). Same text in every claim. -/
namespace Jvm.OwnX
open Sem ClassFile Op Lib Jvm.Stand Jvm.Free Jvm.LawKit Jvm.RoadKit
/-- a cell: an object's fields; an array of ints (0: handed in; 1), booleans (2), bytes (3); an array of longs -/
abbrev ACell := Sum (List Value) (Sum (Nat × List Int32) (List Int64))
abbrev AHeap := List ACell
abbrev ALoc := List (Option Value)
/-- a method: class, maxLocals, how many it pops, what it returns, is it a constructor, frames, locals -/
abbrev MI := Nat × Nat × Nat × Option FieldType × Bool × Nat × Nat
/-- code | methods | method links (kind, callee) | field links | constants | fields (name, descriptor, kind, final) | slots of an object | read-only cells | cells at most | slots at most -/
def Prog : Type := (Nat → Nat → Option (Instr × Nat)) × (Nat → MI) × (Nat → Nat → Option (Nat × Nat)) × (Nat → Nat → Option Nat) × (Nat → Nat → Option Value) × List (String × String × Nat × Bool) × Nat × Nat × Nat × Nat
def Prog.code (P : Prog) : Nat → Nat → Option (Instr × Nat) := P.1
def Prog.mi (P : Prog) : Nat → MI := P.2.1
def Prog.link (P : Prog) : Nat → Nat → Option (Nat × Nat) := P.2.2.1
def Prog.fld (P : Prog) : Nat → Nat → Option Nat := P.2.2.2.1
def Prog.kon (P : Prog) : Nat → Nat → Option Value := P.2.2.2.2.1
def Prog.fields (P : Prog) : List (String × String × Nat × Bool) := P.2.2.2.2.2.1
def Prog.objN (P : Prog) : Nat := P.2.2.2.2.2.2.1
def Prog.ro (P : Prog) : Nat := P.2.2.2.2.2.2.2.1
def Prog.capC (P : Prog) : Nat := P.2.2.2.2.2.2.2.2.1
def Prog.capS (P : Prog) : Nat := P.2.2.2.2.2.2.2.2.2
def Prog.cls (P : Prog) (k : Nat) : Nat := (P.mi k).1
def Prog.maxL (P : Prog) (k : Nat) : Nat := (P.mi k).2.1
def Prog.pops (P : Prog) (k : Nat) : Nat := (P.mi k).2.2.1
def Prog.ret (P : Prog) (k : Nat) : Option FieldType := (P.mi k).2.2.2.1
def Prog.ini (P : Prog) (k : Nat) : Bool := (P.mi k).2.2.2.2.1
def Prog.rf (P : Prog) (k : Nat) : Nat := (P.mi k).2.2.2.2.2.1
def Prog.rl (P : Prog) (k : Nat) : Nat := (P.mi k).2.2.2.2.2.2
def dflt : Nat → Value
  | 0 => .int 0
  | 1 => .int 0
  | 2 => .long 0
  | _ => .null
def Prog.fresh (P : Prog) : List Value := P.fields.map fun f => dflt f.2.2.1
/-- is j a place of an array of n -/
def inb (n : Nat) (j : Int32) : Bool := !(decide (j < 0)) && Nat.ble (j.toNatClampNeg + 1) n
def rd (xs : List Int32) (j : Int32) : Int32 := xs.getD j.toNatClampNeg 0
def wr (xs : List Int32) (j v : Int32) : List Int32 := xs.set j.toNatClampNeg v
def rdL (xs : List Int64) (j : Int32) : Int64 := xs.getD j.toNatClampNeg 0
def wrL (xs : List Int64) (j : Int32) (v : Int64) : List Int64 := xs.set j.toNatClampNeg v
def kill1 (L : ALoc) (i : Nat) : ALoc :=
  match i with
  | 0 => L
  | i + 1 => match L[i]? with
    | some (some (.long _)) => L.set i none
    | _ => L
def lput (L : ALoc) (i : Nat) (v : Value) : Option ALoc := bif Nat.ble (i + 1) L.length then some ((kill1 L i).set i (some v)) else none
def lputL (L : ALoc) (i : Nat) (v : Int64) : Option ALoc := bif Nat.ble (i + 2) L.length then some (((kill1 L i).set i (some (.long v))).set (i + 1) none) else none
def entL : List Value → ALoc
  | [] => []
  | .long v :: r => some (.long v) :: none :: entL r
  | v :: r => some v :: entL r
def pad (n : Nat) (L : ALoc) : ALoc := L ++ List.replicate (n - L.length) none
def entry (P : Prog) (k : Nat) (as : List Value) : ALoc := pad (P.maxL k) (entL as)
def cat (v : Value) : Nat := match v with | .long _ => 2 | _ => 1
def cats : List Value → Nat
  | [] => 0
  | v :: r => cat v + cats r
def okV : Value → Bool
  | .int _ => true | .long _ => true | .ref _ => true | .null => true | _ => false
def csz : Nat → ACell → Nat
  | n, .inl _ => n
  | _, .inr (.inl (0, _)) => 0
  | _, .inr (.inl (_, x)) => x.length
  | _, .inr (.inr x) => x.length
def hsz (P : Prog) : AHeap → Nat
  | [] => 0
  | c :: r => csz P.objN c + hsz P r
/-- how long an instruction is (0: as decode says) -/
def ilen : Instr → Nat
  | .iload _ => 2 | .lload _ => 2 | .aload _ => 2 | .istore _ => 2 | .lstore _ => 2 | .astore _ => 2 | .bipush _ => 2 | .ldc _ => 2 | .newarray _ => 2
  | .iinc _ _ => 3 | .sipush _ => 3 | .goto _ => 3 | .ifCond _ _ => 3 | .if_icmp _ _ => 3 | .getfield _ => 3 | .putfield _ => 3 | .new _ => 3 | .invokespecial _ => 3 | .invokestatic _ => 3 | .invokevirtual _ => 3 | .ldc2_w _ => 3
  | .tableswitch _ _ _ _ => 0
  | _ => 1
def tgt (pc : Nat) (o : Int) : Option Nat := match (pc : Int) + o with | .ofNat n => some n | .negSucc _ => none
def ish (x y : Int32) : Int32 := x <<< (y &&& 31)
def isr (x y : Int32) : Int32 := x >>> (y &&& 31)
def ush (x y : Int32) : Int32 := (x.toUInt32 >>> (y &&& 31).toUInt32).toInt32
def lsh (x : Int64) (y : Int32) : Int64 := x <<< (y &&& 0x3f).toInt64
def lus (x : Int64) (y : Int32) : Int64 := (x.toUInt64 >>> (y &&& 0x3f).toInt64.toUInt64).toInt64
def lcm (x y : Int64) : Int32 := if x > y then 1 else if x = y then 0 else -1
def i8 (x : Int32) : Int32 := x.toInt8.toInt32
def aop : Instr → Option (Int32 → Int32 → Int32)
  | .iadd => some fun x y => x + y
  | .isub => some fun x y => x - y
  | .imul => some fun x y => x * y
  | .iand => some fun x y => x &&& y
  | .ior => some fun x y => x ||| y
  | .ixor => some fun x y => x ^^^ y
  | .ishl => some fun x y => x <<< (y &&& 31)
  | .ishr => some fun x y => x >>> (y &&& 31)
  | .iushr => some fun x y => (x.toUInt32 >>> (y &&& 31).toUInt32).toInt32
  | _ => none
def lop : Instr → Option (Int64 → Int64 → Int64)
  | .ladd => some fun x y => x + y
  | .lsub => some fun x y => x - y
  | .lmul => some fun x y => x * y
  | .land => some fun x y => x &&& y
  | .lor => some fun x y => x ||| y
  | .lxor => some fun x y => x ^^^ y
  | _ => none
def loadI (L : ALoc) (n : Nat) : Option Int32 := match L[n]? with | some (some (.int x)) => some x | _ => none
def loadJ (L : ALoc) (n : Nat) : Option Int64 := match L[n]? with | some (some (.long x)) => some x | _ => none
def loadA (L : ALoc) (n : Nat) : Option Nat := match L[n]? with | some (some (.ref a)) => some a | _ => none
def getC (H : AHeap) (a j : Nat) : Option Value := match H[a]? with | some (.inl fs) => fs[j]? | _ => none
def conv (t : Nat) (v : Value) : Option Value :=
  match t, v with
  | 0, .int x => some (.int x)
  | 1, .int x => some (.int (x &&& 1))
  | 2, .long x => some (.long x)
  | 3, .ref a => some (.ref a)
  | _, _ => none
/-- a step within one frame -/
abbrev St := Nat × ALoc × List Value × AHeap
def atyOf : ArrayType → Option Nat
  | .int => some 1 | .boolean => some 2 | .byte => some 3 | .long => some 4 | _ => none
def newC (t n : Nat) : ACell := match t with | 4 => .inr (.inr (List.replicate n 0)) | t => .inr (.inl (t, List.replicate n 0))
def isObjInit (P : Prog) (k j : Nat) : Bool := match P.link (P.cls k) j with | some (4, _) => true | _ => false
/-- what is stored into an array of that kind -/
def narA (t : Nat) (x : Int32) : Int32 := match t with | 2 => x &&& 1 | 3 => x.toInt8.toInt32 | _ => x
def step (P : Prog) (k : Nat) (i : Instr) (np pc : Nat) (L : ALoc) (S : List Value) (H : AHeap) : Option St :=
  match i with
  | .iload_n n => match loadI L n.val with | some x => some (np, L, .int x :: S, H) | none => none
  | .iload n => match loadI L n with | some x => some (np, L, .int x :: S, H) | none => none
  | .lload_n n => match loadJ L n.val with | some x => some (np, L, .long x :: S, H) | none => none
  | .lload n => match loadJ L n with | some x => some (np, L, .long x :: S, H) | none => none
  | .aload_n n => match loadA L n.val with | some x => some (np, L, .ref x :: S, H) | none => none
  | .aload n => match loadA L n with | some x => some (np, L, .ref x :: S, H) | none => none
  | .istore_n n => match S with | .int x :: r => (match lput L n.val (.int x) with | some L' => some (np, L', r, H) | none => none) | _ => none
  | .istore n => match S with | .int x :: r => (match lput L n (.int x) with | some L' => some (np, L', r, H) | none => none) | _ => none
  | .astore_n n => match S with | .ref x :: r => (match lput L n.val (.ref x) with | some L' => some (np, L', r, H) | none => none) | _ => none
  | .astore n => match S with | .ref x :: r => (match lput L n (.ref x) with | some L' => some (np, L', r, H) | none => none) | _ => none
  | .lstore_n n => match S with | .long x :: r => (match lputL L n.val x with | some L' => some (np, L', r, H) | none => none) | _ => none
  | .lstore n => match S with | .long x :: r => (match lputL L n x with | some L' => some (np, L', r, H) | none => none) | _ => none
  | .iinc n c => match loadI L n with | some x => (match lput L n (.int (x + Int32.ofInt c)) with | some L' => some (np, L', S, H) | none => none) | none => none
  | .iconst c => some (np, L, .int (Int32.ofInt c) :: S, H)
  | .bipush c => some (np, L, .int (Int8.ofInt c).toInt32 :: S, H)
  | .sipush c => some (np, L, .int (Int16.ofInt c).toInt32 :: S, H)
  | .lconst c => some (np, L, .long (Int64.ofNat c) :: S, H)
  | .ldc j => match P.kon (P.cls k) j with | some (.int x) => some (np, L, .int x :: S, H) | _ => none
  | .ldc2_w j => match P.kon (P.cls k) j with | some (.long x) => some (np, L, .long x :: S, H) | _ => none
  | .idiv => match S with | .int y :: .int x :: r => (bif decide (y = 0) then none else some (np, L, .int (x / y) :: r, H)) | _ => none
  | .irem => match S with | .int y :: .int x :: r => (bif decide (y = 0) then none else some (np, L, .int (x % y) :: r, H)) | _ => none
  | .lshl => match S with | .int y :: .long x :: r => some (np, L, .long (x <<< (y &&& 0x3f).toInt64) :: r, H) | _ => none
  | .lushr => match S with | .int y :: .long x :: r => some (np, L, .long ((x.toUInt64 >>> (y &&& 0x3f).toInt64.toUInt64).toInt64) :: r, H) | _ => none
  | .lcmp => match S with | .long y :: .long x :: r => some (np, L, .int (if x > y then 1 else if x = y then 0 else -1) :: r, H) | _ => none
  | .lneg => match S with | .long x :: r => some (np, L, .long (-x) :: r, H) | _ => none
  | .i2l => match S with | .int x :: r => some (np, L, .long x.toInt64 :: r, H) | _ => none
  | .l2i => match S with | .long x :: r => some (np, L, .int x.toInt32 :: r, H) | _ => none
  | .i2b => match S with | .int x :: r => some (np, L, .int x.toInt8.toInt32 :: r, H) | _ => none
  | .dup => match S with | .ref x :: r => some (np, L, .ref x :: .ref x :: r, H) | .int x :: r => some (np, L, .int x :: .int x :: r, H) | _ => none
  | .dup2 => match S with | .int x :: .ref y :: r => some (np, L, .int x :: .ref y :: .int x :: .ref y :: r, H) | _ => none
  | .pop => match S with | .int _ :: r => some (np, L, r, H) | .ref _ :: r => some (np, L, r, H) | _ => none
  | .goto o => match tgt pc o with | some t => some (t, L, S, H) | none => none
  | .ifCond cd o => match S with
    | .int x :: r => (bif if_icmp.holds cd x 0 then (match tgt pc o with | some t => some (t, L, r, H) | none => none) else some (np, L, r, H))
    | _ => none
  | .if_icmp cd o => match S with
    | .int y :: .int x :: r => (bif if_icmp.holds cd x y then (match tgt pc o with | some t => some (t, L, r, H) | none => none) else some (np, L, r, H))
    | _ => none
  | .tableswitch d lo hi offs => match S with
    | .int x :: r => (bif decide (x.toInt < lo) || decide (x.toInt > hi) then (match tgt pc d with | some t => some (t, L, r, H) | none => none)
        else (match offs.toList[(x.toInt - lo).toNat]? with | some o => (match tgt pc o with | some t => some (t, L, r, H) | none => none) | none => none))
    | _ => none
  | .getfield j => match S with
    | .ref a :: r => (match P.fld (P.cls k) j with | some f => (match getC H a f with | some v => some (np, L, v :: r, H) | none => none) | none => none)
    | _ => none
  | .putfield j => match S with
    | v :: .ref a :: r => (match P.fld (P.cls k) j with
      | some f => (match P.fields[f]? with
        | some (_, _, t, fin) => (bif (!fin || P.ini k) && Nat.ble P.ro a then (match conv t v with
          | some v' => (match H[a]? with
            | some (.inl fs) => (bif Nat.ble (f + 1) fs.length then some (np, L, r, H.set a (.inl (fs.set f v'))) else none)
            | _ => none)
          | none => none) else none)
        | none => none)
      | none => none)
    | _ => none
  | .iaload => match S with
    | .int j :: .ref a :: r => (match H[a]? with
      | some (.inr (.inl (1, xs))) => (bif inb xs.length j then some (np, L, .int (rd xs j) :: r, H) else none)
      | some (.inr (.inl (0, xs))) => (bif inb xs.length j then some (np, L, .int (rd xs j) :: r, H) else none)
      | _ => none)
    | _ => none
  | .baload => match S with
    | .int j :: .ref a :: r => (match H[a]? with
      | some (.inr (.inl (2, xs))) => (bif inb xs.length j then some (np, L, .int (rd xs j) :: r, H) else none)
      | some (.inr (.inl (3, xs))) => (bif inb xs.length j then some (np, L, .int (rd xs j) :: r, H) else none)
      | _ => none)
    | _ => none
  | .laload => match S with
    | .int j :: .ref a :: r => (match H[a]? with | some (.inr (.inr xs)) => (bif inb xs.length j then some (np, L, .long (rdL xs j) :: r, H) else none) | _ => none)
    | _ => none
  | .iastore => match S with
    | .int x :: .int j :: .ref a :: r => (bif Nat.ble P.ro a then (match H[a]? with | some (.inr (.inl (1, xs))) => (bif inb xs.length j then some (np, L, r, H.set a (.inr (.inl (1, wr xs j x)))) else none) | _ => none) else none)
    | _ => none
  | .bastore => match S with
    | .int x :: .int j :: .ref a :: r => (bif Nat.ble P.ro a then (match H[a]? with
      | some (.inr (.inl (2, xs))) => (bif inb xs.length j then some (np, L, r, H.set a (.inr (.inl (2, wr xs j (x &&& 1))))) else none)
      | some (.inr (.inl (3, xs))) => (bif inb xs.length j then some (np, L, r, H.set a (.inr (.inl (3, wr xs j x.toInt8.toInt32)))) else none)
      | _ => none) else none)
    | _ => none
  | .lastore => match S with
    | .long x :: .int j :: .ref a :: r => (bif Nat.ble P.ro a then (match H[a]? with | some (.inr (.inr xs)) => (bif inb xs.length j then some (np, L, r, H.set a (.inr (.inr (wrL xs j x)))) else none) | _ => none) else none)
    | _ => none
  | .arraylength => match S with
    | .ref a :: r => (match H[a]? with
      | some (.inr (.inl (_, xs))) => some (np, L, .int xs.length.toInt32 :: r, H)
      | some (.inr (.inr xs)) => some (np, L, .int xs.length.toInt32 :: r, H)
      | _ => none)
    | _ => none
  | .newarray t => match S with
    | .int n :: r => (match atyOf t with | some q => (bif !(decide (n < 0)) && Nat.ble n.toNatClampNeg 60000 && Nat.ble (H.length + 1) P.capC && Nat.ble (hsz P H + n.toNatClampNeg) P.capS then some (np, L, .ref H.length :: r, H ++ [newC q n.toNatClampNeg]) else none) | none => none)
    | _ => none
  | .new j => match P.link (P.cls k) j with | some (5, _) => (bif Nat.ble (H.length + 1) P.capC && Nat.ble (hsz P H + P.objN) P.capS then some (np, L, .ref H.length :: S, H ++ [.inl P.fresh]) else none) | _ => none
  | .invokespecial j => match S with
    | .ref _ :: r => (bif isObjInit P k j && Nat.ble 1 (P.rf k) && Nat.ble (cats r + 12) (P.rl k) then some (np, L, r, H) else none)
    | _ => none
  | i => match S with
    | .int y :: .int x :: r => (match aop i with | some f => some (np, L, .int (f x y) :: r, H) | none => none)
    | .long y :: .long x :: r => (match lop i with | some f => some (np, L, .long (f x y) :: r, H) | none => none)
    | _ => none
/-- what a return hands back -/
def retV (P : Prog) (k : Nat) (i : Instr) (S : List Value) : Option (Option Value) :=
  match i with
  | .return_ => match S, P.ret k with | [], none => some none | _, _ => none
  | .ireturn => match S with
    | .int x :: _ => (match P.ret k with | some .int => some (some (.int x)) | some .boolean => some (some (.int (x &&& 1))) | _ => none)
    | _ => none
  | .lreturn => match S with | .long x :: _ => (match P.ret k with | some .long => some (some (.long x)) | _ => none) | _ => none
  | _ => none
def kindOk : Instr → Nat → Bool
  | .invokestatic _, 0 => true
  | .invokespecial _, 1 => true
  | .invokevirtual _, 2 => true
  | .invokevirtual _, 3 => true
  | _, _ => false
def poolOf : Instr → Option Nat
  | .invokestatic j => some j
  | .invokespecial j => some j
  | .invokevirtual j => some j
  | _ => none
/-- the receiver is there -/
def recvOk (P : Prog) (H : AHeap) (q : Nat) (as : List Value) : Bool :=
  match q with
  | 0 => true
  | _ => match as with
    | .ref a :: _ => (match H[a]? with | some (.inl _) => true | _ => false)
    | _ => false
def callV (P : Prog) (k : Nat) (i : Instr) (S : List Value) (H : AHeap) : Option (Nat × List Value × List Value) :=
  match poolOf i with
  | none => none
  | some j => match P.link (P.cls k) j with
    | none => none
    | some (q, k') =>
      bif kindOk i q && Nat.ble (P.pops k') S.length && Nat.ble (P.rf k' + 1) (P.rf k) && Nat.ble (cats (S.drop (P.pops k')) + (P.maxL k' + 11) + P.rl k') (P.rl k) && recvOk P H q (S.take (P.pops k')).reverse && Nat.ble (entL (S.take (P.pops k')).reverse).length (P.maxL k') then
        some (k', (S.take (P.pops k')).reverse, S.drop (P.pops k'))
      else none
def run (P : Prog) : Nat → Nat → Nat → ALoc → List Value → AHeap → Option (Option Value × AHeap)
  | 0, _, _, _, _, _ => none
  | n + 1, k, pc, L, S, H =>
    match P.code k pc with
    | none => none
    | some (i, np) =>
      match retV P k i S with
      | some v => some (v, H)
      | none =>
        match callV P k i S H with
        | some (k', as, rest) =>
          (match run P n k' 0 (entry P k' as) [] H with
          | some (v, H1) => run P n k np L (v.toList ++ rest) H1
          | none => none)
        | none =>
          (match step P k i np pc L S H with
          | some (pc', L', S', H') => run P n k pc' L' S' H'
          | none => none)
def Eval (P : Prog) (k pc : Nat) (L : ALoc) (S : List Value) (H : AHeap) (out : Option Value × AHeap) : Prop := ∃ n, run P n k pc L S H = some out
end Jvm.OwnX
namespace Jvm.OwnX
open Sem ClassFile Op Lib Jvm.Stand Jvm.Free Jvm.LawKit Jvm.RoadKit
/-! ## values, stacks, local variables -/
def VR (am : List Addr) (v w : Value) : Prop := match v with
  | .ref i => ∃ a, am[i]? = some a ∧ w = .ref a
  | .int x => w = .int x
  | .long x => w = .long x
  | .null => w = .null
  | _ => False
def SR (am : List Addr) : List Value → List Value → Prop
  | [], ws => ws = []
  | v :: vs, ws => ∃ w ws', ws = w :: ws' ∧ VR am v w ∧ SR am vs ws'
def Pre (am am' : List Addr) : Prop := ∀ (i : Nat) (a : Addr), am[i]? = some a → am'[i]? = some a
theorem Pre.refl (am : List Addr) : Pre am am := fun _ _ h => h
theorem Pre.trans {a b c : List Addr} (h : Pre a b) (h' : Pre b c) : Pre a c := fun i x q => h' i x (h i x q)
theorem Pre.app (am : List Addr) (x : Addr) : Pre am (am ++ [x]) := fun i a h => by
  rw [List.getElem?_append_left (List.getElem?_eq_some_iff.mp h).1]; exact h
theorem VR.mono {am am' : List Addr} (h : Pre am am') {v w : Value} (r : VR am v w) : VR am' v w := by
  cases v <;> simp only [VR] at r ⊢ <;> try exact r
  obtain ⟨a, h1, h2⟩ := r; exact ⟨a, h _ _ h1, h2⟩
theorem SR.mono {am am' : List Addr} (h : Pre am am') : ∀ {S ws : List Value}, SR am S ws → SR am' S ws
  | [], _, r => r
  | _ :: _, _, ⟨w, ws', e, r1, r2⟩ => ⟨w, ws', e, r1.mono h, SR.mono h r2⟩
theorem VR.cat {am : List Addr} {v w : Value} (r : VR am v w) : w.category = OwnX.cat v := by
  cases v <;> simp only [VR] at r
  · subst r; rfl
  · subst r; rfl
  · subst r; rfl
  · obtain ⟨a, -, rfl⟩ := r; rfl
theorem SR.cats {am : List Addr} : ∀ {S ws : List Value}, SR am S ws → (ws.map fun v => v.category).sum = OwnX.cats S
  | [], _, r => by cases r; rfl
  | v :: vs, _, ⟨w, ws', e, r1, r2⟩ => by subst e; simp [OwnX.cats, r1.cat, SR.cats r2]
theorem SR.app {am : List Addr} : ∀ {S ws : List Value} (A B : List Value), SR am S ws → S = A ++ B → ∃ x y, ws = x ++ y ∧ SR am A x ∧ SR am B y
  | S, ws, [], B, r, e => ⟨[], ws, rfl, rfl, by rw [show B = S from by simpa using e.symm]; exact r⟩
  | S, ws, v :: A, B, r, e => by
    subst e
    obtain ⟨w, ws', rfl, r1, r2⟩ := r
    obtain ⟨x, y, rfl, h1, h2⟩ := SR.app A B r2 rfl
    exact ⟨w :: x, y, rfl, ⟨w, x, rfl, r1, h1⟩, h2⟩
theorem SR.join {am : List Addr} : ∀ {A x B y : List Value}, SR am A x → SR am B y → SR am (A ++ B) (x ++ y)
  | [], _, _, _, h, h' => by cases h; exact h'
  | _ :: _, _, _, _, ⟨w, ws', e, r1, r2⟩, h' => by subst e; exact ⟨w, _, rfl, r1, SR.join r2 h'⟩
theorem SR.rev {am : List Addr} : ∀ {A x : List Value}, SR am A x → SR am A.reverse x.reverse
  | [], _, h => by cases h; rfl
  | _ :: _, _, ⟨w, ws', e, r1, r2⟩ => by
    subst e
    rw [List.reverse_cons, List.reverse_cons]
    exact SR.join (SR.rev r2) ⟨w, [], rfl, r1, rfl⟩
theorem SR.len {am : List Addr} : ∀ {A x : List Value}, SR am A x → x.length = A.length
  | [], _, h => by cases h; rfl
  | _ :: _, _, ⟨w, ws', e, r1, r2⟩ => by subst e; simp [SR.len r2]
def WFL (l : Array Slot) : Prop := (∀ (i : Nat) w, l[i]? = some (.val w) → w.category = 2 → l[i + 1]? = some .second) ∧ (∀ (i : Nat), l[i]? = some .second → ∃ (j : Nat) (w : Value), i = j + 1 ∧ l[j]? = some (.val w) ∧ w.category = 2)
/-- the places of the variables behind a store of one word -/
def After1 (l l' : Array Slot) (i : Nat) (v : Value) : Prop := ∀ j : Nat, l'[j]? = if j = i then some (.val v) else if j + 1 = i ∧ l[i]? = some .second then some .unset else if j = i + 1 ∧ l[j]? = some .second then some .unset else l[j]?
theorem sib (l : Array Slot) (i j : Nat) (x : Slot) (hi : i < l.size) : (l.setIfInBounds i x)[j]? = if j = i then some x else l[j]? := by
  by_cases h : j = i
  · subst h; simp [hi]
  · simp [Array.getElem?_setIfInBounds_ne (Ne.symm h), h]
theorem store1w {l : Array Slot} {i : Nat} {v : Value} (hw : WFL l) (hi : i < l.size) (hv : v.category = 1) : ∃ l', storeLocals l i v = some l' ∧ l'.size = l.size ∧ After1 l l' i v := by
  have hv2 : ¬ v.category = 2 := by omega
  have hg : l[i]? = some l[i] := Array.getElem?_eq_getElem hi
  cases hq : l[i] with
  | unset =>
    rw [hq] at hg
    refine ⟨l.setIfInBounds i (.val v), by simp [storeLocals, storeSelf, setAt, hg, hq, hi, hv2], by simp, fun j => ?_⟩
    rw [sib _ _ _ _ hi, hg]
    by_cases h : j = i
    · simp [h]
    · simp only [h, if_false, reduceCtorEq, and_false, Option.some.injEq]
      by_cases h2 : j = i + 1 ∧ l[j]? = some .second
      · obtain ⟨j', w, e1, e2, e3⟩ := hw.2 _ h2.2
        have : j' = i := by omega
        subst this; rw [hg] at e2; cases e2
      · simp [h2]
  | second =>
    rw [hq] at hg
    obtain ⟨j0, w, e1, e2, e3⟩ := hw.2 _ hg
    subst e1
    have hj0 : j0 < l.size := by omega
    refine ⟨(l.setIfInBounds j0 .unset).setIfInBounds (j0 + 1) (.val v), by simp [storeLocals, storeSelf, setAt, hg, hq, hi, hv2, hj0], by simp, fun j => ?_⟩
    rw [sib _ _ _ _ (by simpa using hi), sib _ _ _ _ hj0, hg]
    by_cases h : j = j0 + 1
    · simp [h]
    · by_cases h3 : j = j0
      · subst h3; simp
      · have h4 : ¬ (j + 1 = j0 + 1) := by omega
        by_cases h2 : j = j0 + 1 + 1 ∧ l[j]? = some .second
        · obtain ⟨j', w', f1, f2, f3⟩ := hw.2 _ h2.2
          have : j' = j0 + 1 := by omega
          subst this; rw [hg] at f2; cases f2
        · simp [h, h3, h2]
  | val old =>
    rw [hq] at hg
    by_cases hc : old.category = 2
    · have h1 := hw.1 _ _ hg hc
      have h1' := (Array.getElem?_eq_some_iff.mp h1).1
      refine ⟨(l.setIfInBounds (i + 1) .unset).setIfInBounds i (.val v), by simp [storeLocals, storeSelf, setAt, hg, hq, hi, hv2, hc, h1'], by simp, fun j => ?_⟩
      rw [sib _ _ _ _ (by simpa using hi), sib _ _ _ _ h1', hg]
      by_cases h : j = i
      · simp [h]
      · by_cases h3 : j = i + 1
        · subst h3; simp [h1]
        · simp [h, h3]
    · refine ⟨l.setIfInBounds i (.val v), by simp [storeLocals, storeSelf, setAt, hg, hq, hi, hv2, hc], by simp, fun j => ?_⟩
      rw [sib _ _ _ _ hi, hg]
      by_cases h : j = i
      · simp [h]
      · simp only [h, if_false, reduceCtorEq, and_false, Option.some.injEq]
        by_cases h2 : j = i + 1 ∧ l[j]? = some .second
        · obtain ⟨j', w, e1, e2, e3⟩ := hw.2 _ h2.2
          have : j' = i := by omega
          subst this; rw [hg] at e2; cases e2; exact absurd e3 hc
        · simp [h2]
theorem After1.wf {l l' : Array Slot} {i : Nat} {v : Value} (hw : WFL l) (hv : v.category = 1) (A : After1 l l' i v) : WFL l' := by
  refine ⟨fun j w h1 h2 => ?_, fun j h1 => ?_⟩
  · rw [A j] at h1
    by_cases c1 : j = i
    · simp only [c1, if_true, Option.some.injEq, Slot.val.injEq] at h1; subst h1; omega
    · rw [if_neg c1] at h1
      by_cases c2 : j + 1 = i ∧ l[i]? = some .second
      · rw [if_pos c2] at h1; cases h1
      · rw [if_neg c2] at h1
        by_cases c3 : j = i + 1 ∧ l[j]? = some .second
        · rw [if_pos c3] at h1; cases h1
        · rw [if_neg c3] at h1
          have h3 := hw.1 _ _ h1 h2
          rw [A (j + 1)]
          have n1 : ¬ (j + 1 = i) := fun q => c2 ⟨q, q ▸ h3⟩
          have n2 : ¬ (j + 1 + 1 = i ∧ l[i]? = some .second) := fun ⟨q1, q2⟩ => by
            obtain ⟨j', w', f1, f2, f3⟩ := hw.2 _ q2
            have : j' = j + 1 := by omega
            subst this; rw [h3] at f2; cases f2
          have n3 : ¬ (j + 1 = i + 1 ∧ l[j + 1]? = some .second) := fun ⟨q1, _⟩ => c1 (by omega)
          rw [if_neg n1, if_neg n2, if_neg n3]; exact h3
  · rw [A j] at h1
    by_cases c1 : j = i
    · rw [if_pos c1] at h1; cases h1
    · rw [if_neg c1] at h1
      by_cases c2 : j + 1 = i ∧ l[i]? = some .second
      · rw [if_pos c2] at h1; cases h1
      · rw [if_neg c2] at h1
        by_cases c3 : j = i + 1 ∧ l[j]? = some .second
        · rw [if_pos c3] at h1; cases h1
        · rw [if_neg c3] at h1
          obtain ⟨j', w, e1, e2, e3⟩ := hw.2 _ h1
          refine ⟨j', w, e1, ?_, e3⟩
          rw [A j']
          have n1 : ¬ (j' = i) := fun q => c3 ⟨by omega, h1⟩
          have n2 : ¬ (j' + 1 = i ∧ l[i]? = some .second) := fun ⟨q, _⟩ => c1 (by omega)
          have n3 : ¬ (j' = i + 1 ∧ l[j']? = some .second) := fun ⟨_, q⟩ => by rw [e2] at q; cases q
          rw [if_neg n1, if_neg n2, if_neg n3]; exact e2
def lng (o : Option Slot) : Bool := match o with | some (.val w) => decide (w.category = 2) | _ => false
theorem lng_iff (o : Option Slot) : lng o = true ↔ ∃ w, o = some (.val w) ∧ w.category = 2 := by
  unfold lng
  split
  · rename_i w; simp
  · rename_i h; simp; intro w hw; exact absurd hw (h w)
/-- behind a store of a long -/
def After2 (l l' : Array Slot) (i : Nat) (v : Value) : Prop := ∀ j : Nat, l'[j]? = if j = i then some (.val v) else if j = i + 1 then some .second else if j + 1 = i ∧ l[i]? = some .second then some .unset else if j = i + 2 ∧ l[j]? = some .second then some .unset else l[j]?
theorem self2 {l : Array Slot} {i : Nat} {v : Value} (hi : i + 1 < l.size) (hv : v.category = 2) (hz : ∀ w, l[i + 1]? = some (.val w) → w.category = 2 → i + 2 < l.size) :
    ∃ l', storeSelf l i v = some l' ∧ l'.size = l.size ∧ ∀ j : Nat, l'[j]? = if j = i then some (.val v) else if j = i + 1 then some .second else if j = i + 2 ∧ lng l[i + 1]? = true then some .unset else l[j]? := by
  have hi0 : i < l.size := by omega
  have hg : l[i + 1]? = some l[i + 1] := Array.getElem?_eq_getElem hi
  have hne : (l.setIfInBounds i (.val v))[i + 1]? = l[i + 1]? := Array.getElem?_setIfInBounds_ne (by omega)
  have hplain : (∀ w, l[i + 1] = .val w → ¬ w.category = 2) → storeSelf l i v = some ((l.setIfInBounds i (.val v)).setIfInBounds (i + 1) .second) := fun hn => by
    cases hq : l[i + 1] with
    | val w => simp [storeSelf, setAt, hi0, hv, hne, hg, hq, hn _ hq, hi]
    | unset => simp [storeSelf, setAt, hi0, hv, hne, hg, hq, hi]
    | second => simp [storeSelf, setAt, hi0, hv, hne, hg, hq, hi]
  by_cases hx : ∃ w, l[i + 1] = .val w ∧ w.category = 2
  · obtain ⟨w, hw1, hw2⟩ := hx
    have h2 := hz w (by rw [hg, hw1]) hw2
    refine ⟨((l.setIfInBounds i (.val v)).setIfInBounds (i + 2) .unset).setIfInBounds (i + 1) .second, by simp [storeSelf, setAt, hi0, hv, hne, hg, hw1, hw2, hi, h2], by simp, fun j => ?_⟩
    rw [sib _ _ _ _ (by simpa using hi), sib _ _ _ _ (by simpa using h2), sib _ _ _ _ hi0]
    have hE : lng l[i + 1]? = true := (lng_iff _).mpr ⟨w, by rw [hg, hw1], hw2⟩
    by_cases c1 : j = i
    · subst c1; simp
    · by_cases c2 : j = i + 1
      · subst c2; simp
      · by_cases c3 : j = i + 2
        · subst c3; simp [hE]
        · simp [c1, c2, c3]
  · refine ⟨_, hplain fun w h1 h2 => hx ⟨w, h1, h2⟩, by simp, fun j => ?_⟩
    rw [sib _ _ _ _ (by simpa using hi), sib _ _ _ _ hi0]
    have hE : ¬ lng l[i + 1]? = true := fun q => by
      obtain ⟨w, q1, q2⟩ := (lng_iff _).mp q
      exact hx ⟨w, by rw [hg] at q1; exact Option.some.inj q1, q2⟩
    by_cases c1 : j = i
    · subst c1; simp
    · by_cases c2 : j = i + 1
      · subst c2; simp
      · simp [c1, c2, hE]
theorem store2w {l : Array Slot} {i : Nat} {v : Value} (hw : WFL l) (hi : i + 1 < l.size) (hv : v.category = 2) : ∃ l', storeLocals l i v = some l' ∧ l'.size = l.size ∧ After2 l l' i v := by
  have hi0 : i < l.size := by omega
  have hg : l[i]? = some l[i] := Array.getElem?_eq_getElem hi0
  have hz : ∀ w, l[i + 1]? = some (.val w) → w.category = 2 → i + 2 < l.size := fun w q1 q2 => (Array.getElem?_eq_some_iff.mp (hw.1 _ _ q1 q2)).1
  have hsec : ∀ j : Nat, (j = i + 2 ∧ lng l[i + 1]? = true) ↔ (j = i + 2 ∧ l[j]? = some .second) := fun j => by
    constructor
    · rintro ⟨rfl, q⟩
      obtain ⟨w, q1, q2⟩ := (lng_iff _).mp q
      exact ⟨rfl, hw.1 _ _ q1 q2⟩
    · rintro ⟨rfl, q⟩
      obtain ⟨j', w, e1, e2, e3⟩ := hw.2 _ q
      have : j' = i + 1 := by omega
      subst this; exact ⟨rfl, (lng_iff _).mpr ⟨w, e2, e3⟩⟩
  cases hq : l[i] with
  | unset =>
    rw [hq] at hg
    obtain ⟨l', h1, h2, h3⟩ := self2 hi hv hz
    refine ⟨l', by simp [storeLocals, hg, hq, hi0, h1], h2, fun j => ?_⟩
    rw [h3 j, hg]; simp only [hsec, reduceCtorEq, and_false, if_false, Option.some.injEq]
  | second =>
    rw [hq] at hg
    obtain ⟨j0, w, e1, e2, e3⟩ := hw.2 _ hg
    subst e1
    have hj0 : j0 < l.size := by omega
    have hi' : j0 + 1 + 1 < (l.setIfInBounds j0 .unset).size := by simpa using hi
    have hk : ∀ j : Nat, j ≠ j0 → (l.setIfInBounds j0 .unset)[j]? = l[j]? := fun j h => Array.getElem?_setIfInBounds_ne (Ne.symm h)
    obtain ⟨l', h1, h2, h3⟩ := self2 (l := l.setIfInBounds j0 .unset) hi' hv (fun w q1 q2 => by rw [hk _ (by omega)] at q1; simpa using hz w q1 q2)
    refine ⟨l', by simp [storeLocals, setAt, hg, hq, hi0, hj0, h1], by simpa using h2, fun j => ?_⟩
    rw [h3 j, hg, hk (j0 + 1 + 1) (by omega)]; simp only [hsec]
    by_cases c1 : j = j0 + 1
    · simp [c1]
    · by_cases c2 : j = j0 + 1 + 1
      · simp [c2]
      · by_cases c3 : j = j0
        · subst c3; simp [hj0]
        · rw [hk _ c3]
          have : ¬ (j + 1 = j0 + 1) := by omega
          simp [c1, c2, c3]
  | val old =>
    rw [hq] at hg
    by_cases hc : old.category = 2
    · have g1 := hw.1 _ _ hg hc
      have hi' : i + 1 < (l.setIfInBounds (i + 1) .unset).size := by simpa using hi
      have hk : ∀ j : Nat, j ≠ i + 1 → (l.setIfInBounds (i + 1) .unset)[j]? = l[j]? := fun j h => Array.getElem?_setIfInBounds_ne (Ne.symm h)
      have hk1 : (l.setIfInBounds (i + 1) .unset)[i + 1]? = some .unset := by simp [hi]
      obtain ⟨l', h1, h2, h3⟩ := self2 (l := l.setIfInBounds (i + 1) .unset) hi' hv (fun w q1 q2 => by rw [hk1] at q1; cases q1)
      refine ⟨l', by simp [storeLocals, setAt, hg, hq, hi0, hc, hi, h1], by simpa using h2, fun j => ?_⟩
      rw [h3 j, hg, hk1]
      by_cases c1 : j = i
      · simp [c1]
      · by_cases c2 : j = i + 1
        · simp [c2]
        · rw [hk _ c2]
          have c3 : ¬ (j = i + 2 ∧ l[j]? = some .second) := fun ⟨q1, q2⟩ => by
            subst q1
            obtain ⟨j', w, e1, e2, e3⟩ := hw.2 _ q2
            have : j' = i + 1 := by omega
            subst this; rw [g1] at e2; cases e2
          simp [c1, c2, c3, lng]
    · obtain ⟨l', h1, h2, h3⟩ := self2 hi hv hz
      refine ⟨l', by simp [storeLocals, hg, hq, hi0, hc, h1], h2, fun j => ?_⟩
      rw [h3 j, hg]; simp only [hsec, reduceCtorEq, and_false, if_false, Option.some.injEq]
theorem After2.wf {l l' : Array Slot} {i : Nat} {v : Value} (hw : WFL l) (hv : v.category = 2) (A : After2 l l' i v) : WFL l' := by
  refine ⟨fun j w h1 h2 => ?_, fun j h1 => ?_⟩
  · rw [A j] at h1
    by_cases c1 : j = i
    · subst c1; rw [A (j + 1)]; simp
    · rw [if_neg c1] at h1
      by_cases c0 : j = i + 1
      · rw [if_pos c0] at h1; cases h1
      · rw [if_neg c0] at h1
        by_cases c2 : j + 1 = i ∧ l[i]? = some .second
        · rw [if_pos c2] at h1; cases h1
        · rw [if_neg c2] at h1
          by_cases c3 : j = i + 2 ∧ l[j]? = some .second
          · rw [if_pos c3] at h1; cases h1
          · rw [if_neg c3] at h1
            have h3 := hw.1 _ _ h1 h2
            rw [A (j + 1)]
            have n1 : ¬ (j + 1 = i) := fun q => c2 ⟨q, q ▸ h3⟩
            have n0 : ¬ (j + 1 = i + 1) := by omega
            have n2 : ¬ (j + 1 + 1 = i ∧ l[i]? = some .second) := fun ⟨q1, q2⟩ => by
              obtain ⟨j', w', f1, f2, f3⟩ := hw.2 _ q2
              have : j' = j + 1 := by omega
              subst this; rw [h3] at f2; cases f2
            have n3 : ¬ (j + 1 = i + 2 ∧ l[j + 1]? = some .second) := fun ⟨q1, _⟩ => c0 (by omega)
            rw [if_neg n1, if_neg n0, if_neg n2, if_neg n3]; exact h3
  · rw [A j] at h1
    by_cases c1 : j = i
    · rw [if_pos c1] at h1; cases h1
    · rw [if_neg c1] at h1
      by_cases c0 : j = i + 1
      · subst c0; exact ⟨i, v, rfl, by rw [A i]; simp, hv⟩
      · rw [if_neg c0] at h1
        by_cases c2 : j + 1 = i ∧ l[i]? = some .second
        · rw [if_pos c2] at h1; cases h1
        · rw [if_neg c2] at h1
          by_cases c3 : j = i + 2 ∧ l[j]? = some .second
          · rw [if_pos c3] at h1; cases h1
          · rw [if_neg c3] at h1
            obtain ⟨j', w, e1, e2, e3⟩ := hw.2 _ h1
            refine ⟨j', w, e1, ?_, e3⟩
            rw [A j']
            have n1 : ¬ (j' = i) := fun q => c0 (by omega)
            have n0 : ¬ (j' = i + 1) := fun q => c3 ⟨by omega, h1⟩
            have n2 : ¬ (j' + 1 = i ∧ l[i]? = some .second) := fun ⟨q, _⟩ => c1 (by omega)
            have n3 : ¬ (j' = i + 2 ∧ l[j']? = some .second) := fun ⟨_, q⟩ => by rw [e2] at q; cases q
            rw [if_neg n1, if_neg n0, if_neg n2, if_neg n3]; exact e2
def LR (am : List Addr) (L : ALoc) (l : Array Slot) : Prop := L.length = l.size ∧ WFL l ∧ ∀ (i : Nat) v, L[i]? = some (some v) → ∃ w, l[i]? = some (.val w) ∧ VR am v w
theorem LR.mono {am am' : List Addr} (h : Pre am am') {L : ALoc} {l : Array Slot} (r : LR am L l) : LR am' L l :=
  ⟨r.1, r.2.1, fun i v q => by obtain ⟨w, h1, h2⟩ := r.2.2 i v q; exact ⟨w, h1, h2.mono h⟩⟩
theorem kill1_len (L : ALoc) (i : Nat) : (kill1 L i).length = L.length := by
  unfold kill1; split
  · rfl
  · split <;> simp
theorem kill1_get {L : ALoc} {i j : Nat} {v : Value} (h : (kill1 L i)[j]? = some (some v)) : L[j]? = some (some v) ∧ (j + 1 = i → ∀ x, v ≠ .long x) := by
  unfold kill1 at h
  split at h
  · exact ⟨h, fun q => by omega⟩
  · rename_i i
    split at h
    · rename_i x hx
      by_cases e : j = i
      · subst e
        rw [List.getElem?_set] at h
        split at h
        · split at h <;> simp at h
        · omega
      · rw [List.getElem?_set_ne (Ne.symm e)] at h
        exact ⟨h, fun q => absurd (by omega) e⟩
    · rename_i hn
      refine ⟨h, fun q x e => ?_⟩
      have : j = i := by omega
      subst this; subst e; exact hn x h
theorem LR.put {am : List Addr} {L L' : ALoc} {l : Array Slot} {i : Nat} {v w : Value} (r : LR am L l) (h : lput L i v = some L') (hv : VR am v w) (hc : w.category = 1) : ∃ l', storeLocals l i w = some l' ∧ l'.size = l.size ∧ LR am L' l' := by
  unfold lput at h
  cases hb : Nat.ble (i + 1) L.length
  · rw [hb] at h; cases h
  · rw [hb] at h
    have hi : i < L.length := Nat.le_of_ble_eq_true hb
    simp only [cond_true, Option.some.injEq] at h
    obtain ⟨l', h1, h2, h3⟩ := store1w (v := w) r.2.1 (by rw [← r.1]; exact hi) hc
    refine ⟨l', h1, h2, ?_, h3.wf r.2.1 hc, fun j u hu => ?_⟩
    · rw [← h]; simp [kill1_len, r.1, h2]
    · rw [← h, List.getElem?_set] at hu
      rw [h3 j]
      by_cases c : i = j
      · subst c
        simp only [if_true] at hu
        split at hu
        · cases hu; exact ⟨w, by simp, hv⟩
        · cases hu
      · rw [if_neg c] at hu
        obtain ⟨q1, q2⟩ := kill1_get hu
        obtain ⟨w', q3, q4⟩ := r.2.2 j u q1
        have n1 : ¬ (j = i) := fun q => c q.symm
        have n2 : ¬ (j + 1 = i ∧ l[i]? = some .second) := fun ⟨a1, a2⟩ => by
          obtain ⟨j', w2, e1, e2, e3⟩ := r.2.1.2 _ a2
          have : j' = j := by omega
          subst this; rw [q3] at e2; cases e2
          have q5 := q4.cat
          rw [e3] at q5
          cases u <;> simp [OwnX.cat] at q5
          exact q2 a1 _ rfl
        have n3 : ¬ (j = i + 1 ∧ l[j]? = some .second) := fun ⟨_, q⟩ => by rw [q3] at q; cases q
        exact ⟨w', by rw [if_neg n1, if_neg n2, if_neg n3]; exact q3, q4⟩
theorem LR.putL {am : List Addr} {L L' : ALoc} {l : Array Slot} {i : Nat} {x : Int64} (r : LR am L l) (h : lputL L i x = some L') : ∃ l', storeLocals l i (.long x) = some l' ∧ l'.size = l.size ∧ LR am L' l' := by
  unfold lputL at h
  cases hb : Nat.ble (i + 2) L.length
  · rw [hb] at h; cases h
  · rw [hb] at h
    have hi : i + 1 < L.length := Nat.le_of_ble_eq_true hb
    simp only [cond_true, Option.some.injEq] at h
    obtain ⟨l', h1, h2, h3⟩ := store2w (v := .long x) r.2.1 (by rw [← r.1]; exact hi) rfl
    refine ⟨l', h1, h2, ?_, h3.wf r.2.1 rfl, fun j u hu => ?_⟩
    · rw [← h]; simp [kill1_len, r.1, h2]
    · rw [← h, List.getElem?_set] at hu
      rw [h3 j]
      by_cases c0 : i + 1 = j
      · subst c0
        simp only [if_true] at hu
        split at hu <;> cases hu
      · rw [if_neg c0, List.getElem?_set] at hu
        by_cases c : i = j
        · subst c
          simp only [if_true] at hu
          split at hu
          · cases hu; exact ⟨.long x, by simp, rfl⟩
          · cases hu
        · rw [if_neg c] at hu
          obtain ⟨q1, q2⟩ := kill1_get hu
          obtain ⟨w', q3, q4⟩ := r.2.2 j u q1
          have n1 : ¬ (j = i) := fun q => c q.symm
          have n0 : ¬ (j = i + 1) := fun q => c0 q.symm
          have n2 : ¬ (j + 1 = i ∧ l[i]? = some .second) := fun ⟨a1, a2⟩ => by
            obtain ⟨j', w2, e1, e2, e3⟩ := r.2.1.2 _ a2
            have : j' = j := by omega
            subst this; rw [q3] at e2; cases e2
            have q5 := q4.cat
            rw [e3] at q5
            cases u <;> simp [OwnX.cat] at q5
            exact q2 a1 _ rfl
          have n3 : ¬ (j = i + 2 ∧ l[j]? = some .second) := fun ⟨_, q⟩ => by rw [q3] at q; cases q
          exact ⟨w', by rw [if_neg n1, if_neg n0, if_neg n2, if_neg n3]; exact q3, q4⟩
theorem LR.int {am : List Addr} {L : ALoc} {l : Array Slot} {i : Nat} {x : Int32} (r : LR am L l) (h : loadI L i = some x) : l[i]? = some (.val (.int x)) := by
  unfold loadI at h
  split at h
  · rename_i y hy
    cases h
    obtain ⟨w, h1, h2⟩ := r.2.2 _ _ hy
    cases h2; exact h1
  · cases h
theorem LR.long {am : List Addr} {L : ALoc} {l : Array Slot} {i : Nat} {x : Int64} (r : LR am L l) (h : loadJ L i = some x) : l[i]? = some (.val (.long x)) := by
  unfold loadJ at h
  split at h
  · rename_i y hy
    cases h
    obtain ⟨w, h1, h2⟩ := r.2.2 _ _ hy
    cases h2; exact h1
  · cases h
theorem LR.ref {am : List Addr} {L : ALoc} {l : Array Slot} {i x : Nat} (r : LR am L l) (h : loadA L i = some x) : ∃ a, am[x]? = some a ∧ l[i]? = some (.val (.ref a)) := by
  unfold loadA at h
  split at h
  · rename_i y hy
    cases h
    obtain ⟨w, h1, a, h2, rfl⟩ := r.2.2 _ _ hy
    exact ⟨a, h2, h1⟩
  · cases h
end Jvm.OwnX
namespace Jvm.OwnX
open Sem ClassFile Op Lib Jvm.Stand Jvm.Free Jvm.LawKit Jvm.RoadKit
/-! ## the entry's variables -/
def slotsL : List Value → List Slot
  | [] => []
  | v :: r => if v.category = 2 then .val v :: .second :: slotsL r else .val v :: slotsL r
theorem fold_slots : ∀ (ws : List Value) (acc : Array Slot), ws.foldl (fun acc v => if v.category = 2 then (acc.push (.val v)).push .second else acc.push (.val v)) acc = acc ++ (slotsL ws).toArray
  | [], acc => by simp [slotsL]
  | v :: r, acc => by
    rw [List.foldl_cons, fold_slots r]
    by_cases h : v.category = 2
    · simp only [h, if_true, slotsL]; apply Array.ext'; simp
    · simp only [h, if_false, slotsL]; apply Array.ext'; simp
theorem argsToLocals_eq (ws : List Value) (n : Nat) : argsToLocals ws.toArray n = (slotsL ws ++ List.replicate (n - (slotsL ws).length) Slot.unset).toArray := by
  unfold argsToLocals
  have h : Array.foldl (fun acc v => if v.category = 2 then (acc.push (.val v)).push .second else acc.push (.val v)) #[] ws.toArray = (slotsL ws).toArray := by
    rw [List.foldl_toArray, fold_slots]; simp
  simp only [h]
  apply Array.ext'; simp
def WFl (s : List Slot) : Prop := (∀ (i : Nat) (w : Value), s[i]? = some (Slot.val w) → w.category = 2 → s[i + 1]? = some Slot.second) ∧ (∀ (i : Nat), s[i]? = some Slot.second → ∃ (j : Nat) (w : Value), i = j + 1 ∧ s[j]? = some (Slot.val w) ∧ w.category = 2)
theorem WFl.nil : WFl [] := ⟨fun i w h => by simp at h, fun i h => by simp at h⟩
theorem WFl.one {s : List Slot} (h : WFl s) {v : Value} (hv : ¬ v.category = 2) : WFl (.val v :: s) := by
  refine ⟨fun i w h1 h2 => ?_, fun i h1 => ?_⟩
  · cases i with
    | zero => simp at h1; subst h1; exact absurd h2 hv
    | succ i => rw [List.getElem?_cons_succ] at h1 ⊢; exact h.1 _ _ h1 h2
  · cases i with
    | zero => simp at h1
    | succ i =>
      rw [List.getElem?_cons_succ] at h1
      obtain ⟨j, w, rfl, e2, e3⟩ := h.2 _ h1
      exact ⟨j + 1, w, rfl, by rw [List.getElem?_cons_succ]; exact e2, e3⟩
theorem WFl.two {s : List Slot} (h : WFl s) {v : Value} (hv : v.category = 2) : WFl (.val v :: .second :: s) := by
  refine ⟨fun i w h1 h2 => ?_, fun i h1 => ?_⟩
  · match i with
    | 0 => simp
    | 1 => simp at h1
    | i + 2 => simp only [List.getElem?_cons_succ] at h1 ⊢; exact h.1 _ _ h1 h2
  · match i with
    | 0 => simp at h1
    | 1 => exact ⟨0, v, rfl, by simp, hv⟩
    | i + 2 =>
      simp only [List.getElem?_cons_succ] at h1
      obtain ⟨j, w, rfl, e2, e3⟩ := h.2 _ h1
      exact ⟨j + 2, w, rfl, by simp only [List.getElem?_cons_succ]; exact e2, e3⟩
theorem WFl.pad {s : List Slot} (h : WFl s) (n : Nat) : WFl (s ++ List.replicate n Slot.unset) := by
  have hk : ∀ (i : Nat) (x : Slot), (s ++ List.replicate n Slot.unset)[i]? = some x → x ≠ Slot.unset → s[i]? = some x := fun i x q hx => by
    by_cases c : i < s.length
    · rw [List.getElem?_append_left c] at q; exact q
    · rw [List.getElem?_append_right (by omega), List.getElem?_replicate] at q
      split at q
      · cases q; exact absurd rfl hx
      · cases q
  have hl : ∀ (i : Nat) (x : Slot), s[i]? = some x → (s ++ List.replicate n Slot.unset)[i]? = some x := fun i x q => by
    rw [List.getElem?_append_left (List.getElem?_eq_some_iff.mp q).1]; exact q
  refine ⟨fun i w h1 h2 => hl _ _ (h.1 _ _ (hk _ _ h1 (by simp)) h2), fun i h1 => ?_⟩
  obtain ⟨j, w, e1, e2, e3⟩ := h.2 _ (hk _ _ h1 (by simp))
  exact ⟨j, w, e1, hl _ _ e2, e3⟩
theorem slotsL_ok {am : List Addr} : ∀ {as ws : List Value}, SR am as ws → (entL as).length = (slotsL ws).length ∧ WFl (slotsL ws) ∧ ∀ (i : Nat) (v : Value), (entL as)[i]? = some (some v) → ∃ w, (slotsL ws)[i]? = some (Slot.val w) ∧ VR am v w
  | [], _, h => by cases h; exact ⟨rfl, WFl.nil, fun i v q => by simp [entL] at q⟩
  | v :: r, _, ⟨w, ws', e, r1, r2⟩ => by
    subst e
    obtain ⟨i1, i2, i3⟩ := slotsL_ok r2
    have hc := r1.cat
    by_cases h2 : ∃ x, v = .long x
    · obtain ⟨x, rfl⟩ := h2
      have hc2 : w.category = 2 := hc
      refine ⟨by simp [entL, slotsL, hc2, i1], by simp only [slotsL, hc2, if_true]; exact i2.two hc2, fun i u q => ?_⟩
      simp only [slotsL, hc2, if_true, entL] at q ⊢
      match i with
      | 0 => simp at q; subst q; exact ⟨w, by simp, r1⟩
      | 1 => simp at q
      | i + 2 => simp only [List.getElem?_cons_succ] at q ⊢; exact i3 i u q
    · have hv1 : OwnX.cat v = 1 := by cases v <;> first | rfl | (exact absurd ⟨_, rfl⟩ h2)
      have hc2 : ¬ w.category = 2 := by rw [hc, hv1]; decide
      have he : entL (v :: r) = some v :: entL r := by cases v <;> first | rfl | (exact absurd ⟨_, rfl⟩ h2)
      refine ⟨by simp [he, slotsL, hc2, i1], by simp only [slotsL, hc2, if_false]; exact i2.one hc2, fun i u q => ?_⟩
      rw [he] at q
      simp only [slotsL, hc2, if_false]
      match i with
      | 0 => simp at q; subst q; exact ⟨w, by simp, r1⟩
      | i + 1 => simp only [List.getElem?_cons_succ] at q ⊢; exact i3 i u q
theorem LR.entry {am : List Addr} {as ws : List Value} {n : Nat} (h : SR am as ws) (hn : (entL as).length ≤ n) : LR am (pad n (entL as)) (argsToLocals ws.toArray n) := by
  obtain ⟨h1, h2, h3⟩ := slotsL_ok h
  rw [argsToLocals_eq]
  have hw := h2.pad (n - (slotsL ws).length)
  refine ⟨by simp [pad, h1], ⟨fun i w q1 q2 => ?_, fun i q1 => ?_⟩, fun i v q => ?_⟩
  · rw [List.getElem?_toArray] at q1 ⊢; exact hw.1 _ _ q1 q2
  · rw [List.getElem?_toArray] at q1
    obtain ⟨j, w, e1, e2, e3⟩ := hw.2 _ q1
    exact ⟨j, w, e1, by rw [List.getElem?_toArray]; exact e2, e3⟩
  · have hi : i < (entL as).length := by
      by_cases c : i < (entL as).length
      · exact c
      · unfold pad at q
        rw [List.getElem?_append_right (by omega), List.getElem?_replicate] at q
        split at q
        · cases q
        · cases q
    unfold pad at q
    rw [List.getElem?_append_left hi] at q
    obtain ⟨w, e1, e2⟩ := h3 i v q
    exact ⟨w, by rw [List.getElem?_toArray, List.getElem?_append_left (by omega)]; exact e1, e2⟩
theorem entry_size {ws : List Value} {n : Nat} (h : (slotsL ws).length ≤ n) : (argsToLocals ws.toArray n).size = n := by
  rw [argsToLocals_eq]; simp; omega
/-! ## the heap -/
def aty : Nat → FieldType
  | 0 => .int
  | 1 => .int
  | 2 => .boolean
  | 3 => .byte
  | _ => .long
def CR (P : Prog) (C : String) (Z : State) (am : List Addr) (c : ACell) (h : Heap) (a : Addr) : Prop := match c with
  | .inl fs => Exa Z h a C ∧ fs.length = P.fields.length ∧ ∀ (j : Nat) (v : Value) (n d : String) (t : Nat) (f : Bool), fs[j]? = some v → P.fields[j]? = some (n, d, t, f) → ∃ w, VR am v w ∧ Fld Z h a C n d w
  | .inr (.inl (t, xs)) => ∃ cl, Arr Z h a cl (aty t) ∧ cl.slots.size = xs.length ∧ ∀ (j : Nat) (x : Int32), xs[j]? = some x → cl.slots[j]? = some (.int x)
  | .inr (.inr xs) => ∃ cl, Arr Z h a cl .long ∧ cl.slots.size = xs.length ∧ ∀ (j : Nat) (x : Int64), xs[j]? = some x → cl.slots[j]? = some (.long x)
def HR (P : Prog) (C : String) (Z : State) (n0 : Nat) (am : List Addr) (H : AHeap) (h : Heap) : Prop :=
  am.length = H.length ∧ (∀ (i j : Nat) (a : Addr), am[i]? = some a → am[j]? = some a → i = j) ∧ (∀ (i : Nat) (a : Addr), am[i]? = some a → a < h.size ∧ (P.ro ≤ i → n0 ≤ a)) ∧ ∀ (i : Nat) (c : ACell), H[i]? = some c → ∃ a, am[i]? = some a ∧ CR P C Z am c h a
section Heap
variable {P : Prog} {C : String} {Z : State} {n0 : Nat} {am am' : List Addr} {H : AHeap} {h h' : Heap} {a b : Addr} {c : ACell}
theorem CR.ext (E : Ext h h') (hp : Pre am am') (r : CR P C Z am c h a) : CR P C Z am' c h' a := by
  match c, r with
  | .inl fs, ⟨r1, r2, r3⟩ => exact ⟨r1.ext E, r2, fun j v n d t f q1 q2 => by obtain ⟨w, e1, e2⟩ := r3 j v n d t f q1 q2; exact ⟨w, e1.mono hp, e2.ext E⟩⟩
  | .inr (.inl (t, xs)), ⟨cl, r1, r2⟩ => exact ⟨cl, r1.ext E, r2⟩
  | .inr (.inr xs), ⟨cl, r1, r2⟩ => exact ⟨cl, r1.ext E, r2⟩
theorem CR.other {sl : Nat} {v : Value} (W : Wr h h' b sl v) (hne : a ≠ b) (r : CR P C Z am c h a) : CR P C Z am c h' a := by
  match c, r with
  | .inl fs, ⟨r1, r2, r3⟩ => exact ⟨r1.wr W, r2, fun j v n d t f q1 q2 => by obtain ⟨w, e1, e2⟩ := r3 j v n d t f q1 q2; exact ⟨w, e1, e2.other W (Or.inl hne)⟩⟩
  | .inr (.inl (t, xs)), ⟨cl, r1, r2⟩ => exact ⟨cl, r1.other W hne, r2⟩
  | .inr (.inr xs), ⟨cl, r1, r2⟩ => exact ⟨cl, r1.other W hne, r2⟩
/-- a new cell -/
theorem HR.push (E : Ext h h') (r : HR P C Z n0 am H h) (hlt : h.size < h'.size) (hn : n0 ≤ h.size) (hc : CR P C Z (am ++ [h.size]) c h' h.size) : HR P C Z n0 (am ++ [h.size]) (H ++ [c]) h' := by
  obtain ⟨r1, r2, r3, r4⟩ := r
  have hin : ∀ (i : Nat) (x : Addr), (am ++ [h.size])[i]? = some x → (am[i]? = some x ∧ i < am.length) ∨ (i = am.length ∧ x = h.size) := fun i x q => by
    by_cases ci : i < am.length
    · rw [List.getElem?_append_left ci] at q; exact Or.inl ⟨q, ci⟩
    · rw [List.getElem?_append_right (by omega)] at q
      have : i - am.length = 0 := by
        by_cases z : i - am.length = 0
        · exact z
        · rw [List.getElem?_eq_none (by simp; omega)] at q; cases q
      rw [this] at q
      simp at q
      exact Or.inr ⟨by omega, q.symm⟩
  refine ⟨by simp [r1], fun i j x q1 q2 => ?_, fun i x q => ?_, fun i d q => ?_⟩
  · rcases hin i x q1 with ⟨u1, u2⟩ | ⟨u1, u2⟩ <;> rcases hin j x q2 with ⟨v1, v2⟩ | ⟨v1, v2⟩
    · exact r2 _ _ _ u1 v1
    · subst v2; exact absurd (r3 _ _ u1).1 (Nat.lt_irrefl _)
    · subst u2; exact absurd (r3 _ _ v1).1 (Nat.lt_irrefl _)
    · omega
  · rcases hin i x q with ⟨u1, u2⟩ | ⟨u1, u2⟩
    · have := r3 _ _ u1; exact ⟨Nat.lt_of_lt_of_le this.1 E.1, this.2⟩
    · subst u2; exact ⟨hlt, fun _ => hn⟩
  · by_cases ci : i < H.length
    · rw [List.getElem?_append_left ci] at q
      obtain ⟨x, e1, e2⟩ := r4 i d q
      exact ⟨x, Pre.app am _ _ _ e1, e2.ext E (Pre.app am _)⟩
    · rw [List.getElem?_append_right (by omega)] at q
      have : i - H.length = 0 := by
        by_cases z : i - H.length = 0
        · exact z
        · rw [List.getElem?_eq_none (by simp; omega)] at q; cases q
      rw [this] at q
      simp at q; subst q
      have e : i = am.length := by omega
      exact ⟨h.size, by rw [e]; simp, hc⟩
/-- a cell changed in place -/
theorem HR.upd {i sl : Nat} {v : Value} (W : Wr h h' a sl v) (r : HR P C Z n0 am H h) (hi : am[i]? = some a) (hc : CR P C Z am c h' a) : HR P C Z n0 am (H.set i c) h' := by
  obtain ⟨r1, r2, r3, r4⟩ := r
  refine ⟨by simp [r1], r2, fun j x q => by rw [W.size]; exact r3 _ _ q, fun j d q => ?_⟩
  rw [List.getElem?_set] at q
  by_cases e : i = j
  · subst e
    simp only [if_true] at q
    split at q
    · cases q; exact ⟨a, hi, hc⟩
    · cases q
  · rw [if_neg e] at q
    obtain ⟨x, e1, e2⟩ := r4 j d q
    exact ⟨x, e1, e2.other W fun q => e (r2 _ _ _ hi (q ▸ e1))⟩
theorem inb_spec {n : Nat} {j : Int32} (h : inb n j = true) : ¬ (j < 0 ∨ n ≤ j.toNatClampNeg) := by
  simp only [inb, Bool.and_eq_true, Bool.not_eq_true', decide_eq_false_iff_not] at h
  have h2 : j.toNatClampNeg < n := Nat.le_of_ble_eq_true h.2
  rintro (q | q)
  · exact h.1 q
  · omega
theorem inb_lt {n : Nat} {j : Int32} (h : inb n j = true) : j.toNatClampNeg < n := by
  have := inb_spec h; exact Nat.lt_of_not_le fun q => this (Or.inr q)
theorem rd_at {xs : List Int32} {j : Int32} (h : inb xs.length j = true) : xs[j.toNatClampNeg]? = some (rd xs j) := by
  rw [rd, List.getD_eq_getElem?_getD, List.getElem?_eq_getElem (inb_lt h)]; rfl
theorem rdL_at {xs : List Int64} {j : Int32} (h : inb xs.length j = true) : xs[j.toNatClampNeg]? = some (rdL xs j) := by
  rw [rdL, List.getD_eq_getElem?_getD, List.getElem?_eq_getElem (inb_lt h)]; rfl
theorem CR.wrI {t : Nat} {xs : List Int32} {j x : Int32} (W : Wr h h' a j.toNatClampNeg (.int x)) (r : CR P C Z am (.inr (.inl (t, xs))) h a) : CR P C Z am (.inr (.inl (t, wr xs j x))) h' a := by
  obtain ⟨cl, r1, r2, r3⟩ := r
  refine ⟨_, r1.same W, by rw [sz_set, r2]; simp [wr], fun i y q => ?_⟩
  unfold wr at q
  rw [List.getElem?_set] at q
  by_cases e : j.toNatClampNeg = i
  · rw [if_pos e] at q
    split at q
    · cases q; subst e
      have hs : j.toNatClampNeg < cl.slots.size := by omega
      simp [Cell.setSlot, hs]
    · cases q
  · rw [if_neg e] at q
    simp only [Cell.setSlot]
    rw [Array.getElem?_setIfInBounds_ne e]; exact r3 _ _ q
theorem CR.wrJ {xs : List Int64} {j : Int32} {x : Int64} (W : Wr h h' a j.toNatClampNeg (.long x)) (r : CR P C Z am (.inr (.inr xs)) h a) : CR P C Z am (.inr (.inr (wrL xs j x))) h' a := by
  obtain ⟨cl, r1, r2, r3⟩ := r
  refine ⟨_, r1.same W, by rw [sz_set, r2]; simp [wrL], fun i y q => ?_⟩
  unfold wrL at q
  rw [List.getElem?_set] at q
  by_cases e : j.toNatClampNeg = i
  · rw [if_pos e] at q
    split at q
    · cases q; subst e
      have hs : j.toNatClampNeg < cl.slots.size := by omega
      simp [Cell.setSlot, hs]
    · cases q
  · rw [if_neg e] at q
    simp only [Cell.setSlot]
    rw [Array.getElem?_setIfInBounds_ne e]; exact r3 _ _ q
end Heap
/-! ## what the sheet's words must say -/
def tyOk : Nat → FieldType → Bool
  | 0, .int => true
  | 1, .boolean => true
  | 2, .long => true
  | 3, .array _ => true
  | _, _ => false
def rcv (q : Nat) : Nat := match q with | 0 => 0 | _ => 1
def KindOk (P : Prog) (nm : Nat → MethodName) (C : String) (Z : State) (a0 : Array Value) (q k : Nat) : Prop := match q with
  | 0 => (Cond.static (nm k)).before a0 Z = true
  | 1 => (nm k).name = "<init>" ∧ (Cond.instanceMethod (nm k)).before a0 Z = true ∧ P.ret k = none
  | 2 => (Cond.declares (nm k)).before a0 Z = true ∧ (Cond.instanceMethod (nm k)).before a0 Z = true ∧ (Cond.selects C (nm k) (nm k)).before a0 Z = true
  | _ => (nm k).cls = C ∧ (Cond.instanceMethod (nm k)).before a0 Z = true ∧ (Cond.privateMethod (nm k)).before a0 Z = true
def CallOk (P : Prog) (nm : Nat → MethodName) (bc : Nat → ByteArray) (cn : Nat → String) (C : String) (Z : State) (a0 : Array Value) (c j q k : Nat) : Prop :=
  (Cond.methodLink (cn c) j (nm k)).before a0 Z = true ∧ (Cond.code (nm k) (bc k) (P.maxL k) (P.ret k)).before a0 Z = true ∧ (Cond.initialized (nm k).cls).before a0 Z = true ∧
      (∃ ps r, parseMethodDescriptor (nm k).desc = some ⟨ps, r⟩ ∧ P.pops k = ps.length + rcv q) ∧ plainName (nm k).cls = true ∧ ((nm k).cls ≠ "java/lang/invoke/MethodHandle" ∧ (nm k).cls ≠ "java/lang/invoke/VarHandle") ∧ (nm k).cls = cn (P.cls k) ∧ (P.ini k = true → (nm k).name = "<init>" ∧ (nm k).cls = C) ∧ KindOk P nm C Z a0 q k
def LinkOk (P : Prog) (nm : Nat → MethodName) (bc : Nat → ByteArray) (cn : Nat → String) (C : String) (Z : State) (a0 : Array Value) (c j q k : Nat) : Prop := match q with
  | 4 => (Cond.methodLink (cn c) j Lib.objectInit).before a0 Z = true ∧ (Cond.instanceMethod Lib.objectInit).before a0 Z = true ∧ (Cond.code Lib.objectInit ⟨#[0xb1]⟩ 1 none).before a0 Z = true
  | 5 => (Cond.classLink (cn c) j C).before a0 Z = true
  | q => CallOk P nm bc cn C Z a0 c j q k
def KonOk (cn : Nat → String) (Z : State) (a0 : Array Value) (c j : Nat) (v : Value) : Prop := match v with
  | .int x => (Cond.constant (cn c) j x).before a0 Z = true
  | .long x => (Cond.constantLong (cn c) j x).before a0 Z = true
  | _ => False
def Good (P : Prog) (nm : Nat → MethodName) (bc : Nat → ByteArray) (cn : Nat → String) (C : String) (Z : State) (a0 : Array Value) : Prop :=
  (∀ k pc i np, P.code k pc = some (i, np) → ∃ len, decode (bc k) pc = .ok (i, len) ∧ np = pc + len ∧ (ilen i = 0 ∨ len = ilen i)) ∧
  (∀ c j f, P.fld c j = some f → ∃ n d t fin, P.fields[f]? = some (n, d, t, fin) ∧ (Cond.fieldLink (cn c) j C n d).before a0 Z = true) ∧
  (∀ (f : Nat) n d t (fin : Bool), P.fields[f]? = some (n, d, t, fin) → (bif fin then (Cond.laysFinal C C n d).before a0 Z else (Cond.lays C C n d).before a0 Z) = true ∧ ∃ ty, parseFieldDescriptor d = some ty ∧ tyOk t ty = true ∧ defaultValue ty = dflt t) ∧
  (∀ (f g : Nat) n d t (fin : Bool) n' d' t' (fin' : Bool), P.fields[f]? = some (n, d, t, fin) → P.fields[g]? = some (n', d', t', fin') → f ≠ g → n ≠ n') ∧
  (∀ c j v, P.kon c j = some v → KonOk cn Z a0 c j v) ∧
  (Cond.instantiable C P.objN).before a0 Z = true ∧ (Cond.initialized C).before a0 Z = true ∧
  (∀ k pc t np, P.code k pc = some (.newarray t, np) → (Cond.arrayClass (newarray.typeOf t)).before a0 Z = true) ∧
  (∀ c j q k, P.link c j = some (q, k) → LinkOk P nm bc cn C Z a0 c j q k)
end Jvm.OwnX
namespace Jvm.OwnX
open Sem ClassFile Op Lib Jvm.Stand Jvm.Free Jvm.LawKit Jvm.RoadKit
section Sound
variable {p : Program} {l : Launch} {e : Env} {R : Room} {s : State} {m : MethodId} {args : Array Value} {below : List Frame} {meth : Method} {c : Code} {T : State} {locs : List Loc} {cells slots : Nat}
variable {P : Prog} {nm : Nat → MethodName} {bc : Nat → ByteArray} {cn : Nat → String} {C : String} {Z : State} {a0 : Array Value} {n0 : Nat}
/-- where the walk stands behind a step -/
def Behind (p : Program) (l : Launch) (e : Env) (R : Room) (s : State) (m : MethodId) (args : Array Value) (below : List Frame) (meth : Method) (c : Code) (P : Prog) (C : String) (Z : State) (n0 : Nat) (am : List Addr) (cells slots : Nat)
    (T : State) (pc : Nat) (ls : Array Slot) (st : List Value) (pc' : Nat) (L' : ALoc) (S' : List Value) (H' : AHeap) (dc ds : Nat) : Prop :=
  ∃ T' am' ls' st' locs', Stand p l e R s m args below meth c T' locs' (cells + dc) (slots + ds) ∧ LR am' L' ls' ∧ ls'.size = ls.size ∧ SR am' S' st' ∧ HR P C Z n0 am' H' T'.heap ∧ Pre am am' ∧ Fr n0 locs' ∧ n0 ≤ T'.heap.size ∧
    ∀ target, Steps p.tables e below (T'.setTop (mkF m pc' ls' st')) target → Steps p.tables e below (T.setTop (mkF m pc ls st)) target
theorem Behind.plain {am : List Addr} {H : AHeap} {pc pc' : Nat} {L' : ALoc} {S' : List Value} {ls ls' : Array Slot} {st st' : List Value} (X : Stand p l e R s m args below meth c T locs cells slots) (hL : LR am L' ls') (hz : ls'.size = ls.size) (hS : SR am S' st') (hH : HR P C Z n0 am H T.heap) (hF : Fr n0 locs) (hn : n0 ≤ T.heap.size)
    (hs : ∀ target, Steps p.tables e below (T.setTop (mkF m pc' ls' st')) target → Steps p.tables e below (T.setTop (mkF m pc ls st)) target) : Behind p l e R s m args below meth c P C Z n0 am cells slots T pc ls st pc' L' S' H (H.length - H.length) (hsz P H - hsz P H) :=
  ⟨T, am, ls', st', locs, by simpa using X, hL, hz, hS, hH, Pre.refl _, hF, hn, hs⟩
theorem Behind.plain' {T' : State} {am : List Addr} {H : AHeap} {pc pc' : Nat} {L' : ALoc} {S' : List Value} {ls ls' : Array Slot} {st st' : List Value} (X : Stand p l e R s m args below meth c T' locs cells slots) (eT : T'.heap = T.heap) (hL : LR am L' ls') (hz : ls'.size = ls.size) (hS : SR am S' st') (hH : HR P C Z n0 am H T.heap) (hF : Fr n0 locs) (hn : n0 ≤ T.heap.size)
    (hs : ∀ target, Steps p.tables e below (T'.setTop (mkF m pc' ls' st')) target → Steps p.tables e below (T.setTop (mkF m pc ls st)) target) : Behind p l e R s m args below meth c P C Z n0 am cells slots T pc ls st pc' L' S' H (H.length - H.length) (hsz P H - hsz P H) :=
  ⟨T', am, ls', st', locs, by simpa using X, hL, hz, hS, by rw [eT]; exact hH, Pre.refl _, hF, by rw [eT]; exact hn, hs⟩
theorem tgt_spec {pc t : Nat} {o : Int} (h : tgt pc o = some t) : 0 ≤ (pc : Int) + o ∧ ((pc : Int) + o).toNat = t := by
  unfold tgt at h
  split at h
  · rename_i n hn; cases h; rw [hn]; exact ⟨Int.natCast_nonneg _, rfl⟩
  · cases h
theorem hsz_app (P : Prog) : ∀ (H : AHeap) (c : ACell), hsz P (H ++ [c]) = hsz P H + csz P.objN c
  | [], c => by simp [hsz]
  | x :: r, c => by simp only [List.cons_append, hsz, hsz_app P r c]; omega
theorem hsz_append (P : Prog) : ∀ (H T : AHeap), hsz P (H ++ T) = hsz P H + hsz P T
  | [], T => by simp [hsz]
  | x :: r, T => by simp only [List.cons_append, hsz, hsz_append P r T]; omega
theorem hsz_set (P : Prog) : ∀ (H : AHeap) (i : Nat) (c c' : ACell), H[i]? = some c' → csz P.objN c = csz P.objN c' → hsz P (H.set i c) = hsz P H
  | [], i, c, c', h, _ => by simp at h
  | x :: r, 0, c, c', h, e => by simp at h; subst h; simp [hsz, e]
  | x :: r, i + 1, c, c', h, e => by simp only [List.set_cons_succ, hsz]; rw [List.getElem?_cons_succ] at h; rw [hsz_set P r i c c' h e]
/-- a write -/
theorem Behind.write {T' : State} {am : List Addr} {H : AHeap} {i sl : Nat} {cc cc' : ACell} {a : Addr} {w : Value} {h' : Heap} {pc pc' : Nat} {L' : ALoc} {S' : List Value} {ls : Array Slot} {st st' : List Value} (X : Stand p l e R s m args below meth c T' (locs ++ [⟨a, sl⟩]) cells slots) (eT : T'.heap = h') (W : Wr T.heap h' a sl w)
    (hL : LR am L' ls) (hS : SR am S' st') (hH : HR P C Z n0 am H T.heap) (hi : am[i]? = some a) (hro : P.ro ≤ i) (hc' : H[i]? = some cc') (hcs : csz P.objN cc = csz P.objN cc') (hC : CR P C Z am cc h' a) (hF : Fr n0 locs) (hn : n0 ≤ T.heap.size)
    (hs : ∀ target, Steps p.tables e below (T'.setTop (mkF m pc' ls st')) target → Steps p.tables e below (T.setTop (mkF m pc ls st)) target) :
    Behind p l e R s m args below meth c P C Z n0 am cells slots T pc ls st pc' L' S' (H.set i cc) ((H.set i cc).length - H.length) (hsz P (H.set i cc) - hsz P H) := by
  rw [hsz_set P H i cc cc' hc' hcs]
  refine ⟨T', am, ls, st', _, by simpa using X, hL, rfl, hS, by rw [eT]; exact hH.upd W hi hC, Pre.refl _, Fr.snoc X hF ((hH.2.2.1 _ _ hi).2 hro), by rw [eT, W.size]; exact hn, hs⟩
theorem arr_new {am : List Addr} {h h' : Heap} {cA : ClassId} {q : Nat} {n : Int32} {t : ArrayType} (ht : atyOf t = some q) (hn : ¬ n < 0) (A : Arr Z h' h.size (newA cA (newarray.typeOf t) n) (newarray.typeOf t)) : CR P C Z am (newC q n.toNatClampNeg) h' h.size := by
  have key : ∀ {d : Value}, ∀ j, (Array.replicate n.toNatClampNeg d)[j]? = if j < n.toNatClampNeg then some d else none := fun j => by rw [Array.getElem?_replicate]
  cases t <;> simp only [atyOf, Option.some.injEq, reduceCtorEq] at ht <;> subst ht
  · refine ⟨_, A, by simp [newA], fun j x q => ?_⟩
    rw [List.getElem?_replicate] at q
    split at q
    · cases q; simp only [newA]; rw [key, if_pos (by assumption)]; rfl
    · cases q
  · refine ⟨_, A, by simp [newA], fun j x q => ?_⟩
    rw [List.getElem?_replicate] at q
    split at q
    · cases q; simp only [newA]; rw [key, if_pos (by assumption)]; rfl
    · cases q
  · refine ⟨_, A, by simp [newA], fun j x q => ?_⟩
    rw [List.getElem?_replicate] at q
    split at q
    · cases q; simp only [newA]; rw [key, if_pos (by assumption)]; rfl
    · cases q
  · refine ⟨_, A, by simp [newA], fun j x q => ?_⟩
    rw [List.getElem?_replicate] at q
    split at q
    · cases q; simp only [newA]; rw [key, if_pos (by assumption)]; rfl
    · cases q
theorem csz_new {t : ArrayType} {q : Nat} (N n : Nat) (ht : atyOf t = some q) : csz N (newC q n) = n := by
  cases t <;> simp only [atyOf, Option.some.injEq, reduceCtorEq] at ht <;> subst ht <;> simp [newC, csz]
set_option maxHeartbeats 4000000 in
theorem step_sound (G : Good P nm bc cn C Z a0) {k pc np pc' : Nat} {i : Instr} {L L' : ALoc} {S S' : List Value} {H H' : AHeap} (hcode : P.code k pc = some (i, np)) (h : step P k i np pc L S H = some (pc', L', S', H'))
    (X : Stand p l e R s m args below meth c T locs cells slots) (hx : p.tables.exec = Jvm.exec) (hZ : Z.Warmed39 s.vm) (hby : c.code = bc k) (hml : c.maxLocals = P.maxL k) (hown : s.vm.findClass (cn (P.cls k)) = some m.cls) (hini : P.ini k = true → meth.name = "<init>" ∧ cn (P.cls k) = C)
    (hrf : P.rf k ≤ R.frames) (hrl : P.rl k ≤ R.locals) (hcells : cells + (H'.length - H.length) ≤ R.cells) (hslots : slots + (hsz P H' - hsz P H) ≤ R.slots) {am : List Addr} {ls : Array Slot} {st : List Value} (hlz : ls.size = P.maxL k) (hL : LR am L ls) (hS : SR am S st) (hH : HR P C Z n0 am H T.heap) (hF : Fr n0 locs) (hn : n0 ≤ T.heap.size) :
    Behind p l e R s m args below meth c P C Z n0 am cells slots T pc ls st pc' L' S' H' (H'.length - H.length) (hsz P H' - hsz P H) := by
  obtain ⟨G1, G2, G3, G4, G5, G6, G7, G8, G9⟩ := G
  obtain ⟨len, hdec, rfl, hlen⟩ := G1 _ _ _ _ hcode
  have hd : decode c.code pc = .ok (i, len) := by rw [hby]; exact hdec
  cases i
  case iload_n n =>
    simp only [step] at h
    obtain rfl := hlen.resolve_left (by simp [ilen])
    cases hl : loadI L n.val with
    | none => simp [hl] at h
    | some x =>
      simp only [hl, Option.some.injEq, Prod.mk.injEq] at h; obtain ⟨rfl, rfl, rfl, rfl⟩ := h
      exact Behind.plain X hL rfl ⟨_, _, rfl, rfl, hS⟩ hH hF hn fun target hr => XS.iloadN X.here hx rfl (g := mkF m pc ls st) hd (hL.int hl) hr
  case iload n =>
    simp only [step] at h
    obtain rfl := hlen.resolve_left (by simp [ilen])
    cases hl : loadI L n with
    | none => simp [hl] at h
    | some x =>
      simp only [hl, Option.some.injEq, Prod.mk.injEq] at h; obtain ⟨rfl, rfl, rfl, rfl⟩ := h
      exact Behind.plain X hL rfl ⟨_, _, rfl, rfl, hS⟩ hH hF hn fun target hr => XS.iload X.here hx rfl (g := mkF m pc ls st) hd (hL.int hl) hr
  case lload_n n =>
    simp only [step] at h
    obtain rfl := hlen.resolve_left (by simp [ilen])
    cases hl : loadJ L n.val with
    | none => simp [hl] at h
    | some x =>
      simp only [hl, Option.some.injEq, Prod.mk.injEq] at h; obtain ⟨rfl, rfl, rfl, rfl⟩ := h
      exact Behind.plain X hL rfl ⟨_, _, rfl, rfl, hS⟩ hH hF hn fun target hr => XS.lloadN X.here hx rfl (g := mkF m pc ls st) hd (hL.long hl) hr
  case lload n =>
    simp only [step] at h
    obtain rfl := hlen.resolve_left (by simp [ilen])
    cases hl : loadJ L n with
    | none => simp [hl] at h
    | some x =>
      simp only [hl, Option.some.injEq, Prod.mk.injEq] at h; obtain ⟨rfl, rfl, rfl, rfl⟩ := h
      exact Behind.plain X hL rfl ⟨_, _, rfl, rfl, hS⟩ hH hF hn fun target hr => XS.lload X.here hx rfl (g := mkF m pc ls st) hd (hL.long hl) hr
  case aload_n n =>
    simp only [step] at h
    obtain rfl := hlen.resolve_left (by simp [ilen])
    cases hl : loadA L n.val with
    | none => simp [hl] at h
    | some x =>
      simp only [hl, Option.some.injEq, Prod.mk.injEq] at h; obtain ⟨rfl, rfl, rfl, rfl⟩ := h
      obtain ⟨a, ha, hl'⟩ := hL.ref hl
      exact Behind.plain X hL rfl ⟨_, _, rfl, ⟨a, ha, rfl⟩, hS⟩ hH hF hn fun target hr => XS.aloadN X.here hx rfl (g := mkF m pc ls st) hd hl' rfl hr
  case aload n =>
    simp only [step] at h
    obtain rfl := hlen.resolve_left (by simp [ilen])
    cases hl : loadA L n with
    | none => simp [hl] at h
    | some x =>
      simp only [hl, Option.some.injEq, Prod.mk.injEq] at h; obtain ⟨rfl, rfl, rfl, rfl⟩ := h
      obtain ⟨a, ha, hl'⟩ := hL.ref hl
      exact Behind.plain X hL rfl ⟨_, _, rfl, ⟨a, ha, rfl⟩, hS⟩ hH hF hn fun target hr => XS.aload X.here hx rfl (g := mkF m pc ls st) hd hl' rfl hr
  case istore_n n =>
    simp only [step] at h
    obtain rfl := hlen.resolve_left (by simp [ilen])
    split at h
    · rename_i x r
      cases hl : lput L n.val (.int x) with
      | none => simp [hl] at h
      | some L2 =>
        simp only [hl, Option.some.injEq, Prod.mk.injEq] at h; obtain ⟨rfl, rfl, rfl, rfl⟩ := h
        obtain ⟨_, _, rfl, rfl, hr'⟩ := hS
        obtain ⟨l', h1, h2, h3⟩ := hL.put (w := .int x) hl rfl rfl
        exact Behind.plain X h3 h2 hr' hH hF hn fun target hr => XS.istoreN X.here hx rfl (g := mkF m pc ls _) hd rfl h1 hr
    · cases h
  case istore n =>
    simp only [step] at h
    obtain rfl := hlen.resolve_left (by simp [ilen])
    split at h
    · rename_i x r
      cases hl : lput L n (.int x) with
      | none => simp [hl] at h
      | some L2 =>
        simp only [hl, Option.some.injEq, Prod.mk.injEq] at h; obtain ⟨rfl, rfl, rfl, rfl⟩ := h
        obtain ⟨_, _, rfl, rfl, hr'⟩ := hS
        obtain ⟨l', h1, h2, h3⟩ := hL.put (w := .int x) hl rfl rfl
        exact Behind.plain X h3 h2 hr' hH hF hn fun target hr => XS.istore X.here hx rfl (g := mkF m pc ls _) hd rfl h1 hr
    · cases h
  case lstore_n n =>
    simp only [step] at h
    obtain rfl := hlen.resolve_left (by simp [ilen])
    split at h
    · rename_i x r
      cases hl : lputL L n.val x with
      | none => simp [hl] at h
      | some L2 =>
        simp only [hl, Option.some.injEq, Prod.mk.injEq] at h; obtain ⟨rfl, rfl, rfl, rfl⟩ := h
        obtain ⟨_, _, rfl, rfl, hr'⟩ := hS
        obtain ⟨l', h1, h2, h3⟩ := hL.putL hl
        exact Behind.plain X h3 h2 hr' hH hF hn fun target hr => XS.lstoreN X.here hx rfl (g := mkF m pc ls _) hd rfl h1 hr
    · cases h
  case lstore n =>
    simp only [step] at h
    obtain rfl := hlen.resolve_left (by simp [ilen])
    split at h
    · rename_i x r
      cases hl : lputL L n x with
      | none => simp [hl] at h
      | some L2 =>
        simp only [hl, Option.some.injEq, Prod.mk.injEq] at h; obtain ⟨rfl, rfl, rfl, rfl⟩ := h
        obtain ⟨_, _, rfl, rfl, hr'⟩ := hS
        obtain ⟨l', h1, h2, h3⟩ := hL.putL hl
        exact Behind.plain X h3 h2 hr' hH hF hn fun target hr => XS.lstore X.here hx rfl (g := mkF m pc ls _) hd rfl h1 hr
    · cases h
  case astore_n n =>
    simp only [step] at h
    obtain rfl := hlen.resolve_left (by simp [ilen])
    split at h
    · rename_i x r
      cases hl : lput L n.val (.ref x) with
      | none => simp [hl] at h
      | some L2 =>
        simp only [hl, Option.some.injEq, Prod.mk.injEq] at h; obtain ⟨rfl, rfl, rfl, rfl⟩ := h
        obtain ⟨_, _, rfl, ⟨a, ha, rfl⟩, hr'⟩ := hS
        obtain ⟨l', h1, h2, h3⟩ := hL.put (w := .ref a) hl ⟨a, ha, rfl⟩ rfl
        exact Behind.plain X h3 h2 hr' hH hF hn fun target hr => XS.astoreN X.here hx rfl (g := mkF m pc ls _) hd rfl rfl h1 hr
    · cases h
  case astore n =>
    simp only [step] at h
    obtain rfl := hlen.resolve_left (by simp [ilen])
    split at h
    · rename_i x r
      cases hl : lput L n (.ref x) with
      | none => simp [hl] at h
      | some L2 =>
        simp only [hl, Option.some.injEq, Prod.mk.injEq] at h; obtain ⟨rfl, rfl, rfl, rfl⟩ := h
        obtain ⟨_, _, rfl, ⟨a, ha, rfl⟩, hr'⟩ := hS
        obtain ⟨l', h1, h2, h3⟩ := hL.put (w := .ref a) hl ⟨a, ha, rfl⟩ rfl
        exact Behind.plain X h3 h2 hr' hH hF hn fun target hr => XS.astore X.here hx rfl (g := mkF m pc ls _) hd rfl rfl h1 hr
    · cases h
  case iinc n cst =>
    simp only [step] at h
    obtain rfl := hlen.resolve_left (by simp [ilen])
    cases hl : loadI L n with
    | none => simp [hl] at h
    | some x =>
      cases hp : lput L n (.int (x + Int32.ofInt cst)) with
      | none => simp [hl, hp] at h
      | some L2 =>
        simp only [hl, hp, Option.some.injEq, Prod.mk.injEq] at h; obtain ⟨rfl, rfl, rfl, rfl⟩ := h
        obtain ⟨l', h1, h2, h3⟩ := hL.put (w := .int (x + Int32.ofInt cst)) hp rfl rfl
        exact Behind.plain X h3 h2 hS hH hF hn fun target hr => XS.iinc X.here hx rfl (g := mkF m pc ls st) hd (hL.int hl) h1 hr
  case iconst q =>
    simp only [step] at h
    obtain rfl := hlen.resolve_left (by simp [ilen])
    simp only [Option.some.injEq, Prod.mk.injEq] at h; obtain ⟨rfl, rfl, rfl, rfl⟩ := h
    exact Behind.plain X hL rfl ⟨_, _, rfl, rfl, hS⟩ hH hF hn fun target hr => XS.iconst X.here hx rfl (g := mkF m pc ls st) hd hr
  case bipush q =>
    simp only [step] at h
    obtain rfl := hlen.resolve_left (by simp [ilen])
    simp only [Option.some.injEq, Prod.mk.injEq] at h; obtain ⟨rfl, rfl, rfl, rfl⟩ := h
    exact Behind.plain X hL rfl ⟨_, _, rfl, rfl, hS⟩ hH hF hn fun target hr => XS.bipush X.here hx rfl (g := mkF m pc ls st) hd hr
  case sipush q =>
    simp only [step] at h
    obtain rfl := hlen.resolve_left (by simp [ilen])
    simp only [Option.some.injEq, Prod.mk.injEq] at h; obtain ⟨rfl, rfl, rfl, rfl⟩ := h
    exact Behind.plain X hL rfl ⟨_, _, rfl, rfl, hS⟩ hH hF hn fun target hr => XS.sipush X.here hx rfl (g := mkF m pc ls st) hd hr
  case lconst q =>
    simp only [step] at h
    obtain rfl := hlen.resolve_left (by simp [ilen])
    simp only [Option.some.injEq, Prod.mk.injEq] at h; obtain ⟨rfl, rfl, rfl, rfl⟩ := h
    exact Behind.plain X hL rfl ⟨_, _, rfl, rfl, hS⟩ hH hF hn fun target hr => XS.lconst X.here hx rfl (g := mkF m pc ls st) hd hr
  case ldc j =>
    simp only [step] at h
    obtain rfl := hlen.resolve_left (by simp [ilen])
    split at h
    · rename_i x hk
      simp only [Option.some.injEq, Prod.mk.injEq] at h; obtain ⟨rfl, rfl, rfl, rfl⟩ := h
      have w := G5 _ _ _ hk
      exact Behind.plain X hL rfl ⟨_, _, rfl, rfl, hS⟩ hH hF hn fun target hr => X.ldcInt hx hown (mvT hZ w) (g := mkF m pc ls st) rfl hd _ hr
    · cases h
  case ldc2_w j =>
    simp only [step] at h
    obtain rfl := hlen.resolve_left (by simp [ilen])
    split at h
    · rename_i x hk
      simp only [Option.some.injEq, Prod.mk.injEq] at h; obtain ⟨rfl, rfl, rfl, rfl⟩ := h
      have w := G5 _ _ _ hk
      exact Behind.plain X hL rfl ⟨_, _, rfl, rfl, hS⟩ hH hF hn fun target hr => X.ldc2Long hx hown (mvT hZ w) (g := mkF m pc ls st) rfl hd _ hr
    · cases h
  case idiv =>
    simp only [step] at h
    obtain rfl := hlen.resolve_left (by simp [ilen])
    split at h
    · rename_i y x r
      by_cases hy : y = 0
      · simp [hy] at h
      · simp only [hy, decide_false, cond_false, Option.some.injEq, Prod.mk.injEq] at h; obtain ⟨rfl, rfl, rfl, rfl⟩ := h
        obtain ⟨_, _, rfl, rfl, _, _, rfl, rfl, hr'⟩ := hS
        exact Behind.plain X hL rfl ⟨_, _, rfl, rfl, hr'⟩ hH hF hn fun target hr => XS.idiv X.here hx rfl (g := mkF m pc ls _) hd rfl hy hr
    · cases h
  case irem =>
    simp only [step] at h
    obtain rfl := hlen.resolve_left (by simp [ilen])
    split at h
    · rename_i y x r
      by_cases hy : y = 0
      · simp [hy] at h
      · simp only [hy, decide_false, cond_false, Option.some.injEq, Prod.mk.injEq] at h; obtain ⟨rfl, rfl, rfl, rfl⟩ := h
        obtain ⟨_, _, rfl, rfl, _, _, rfl, rfl, hr'⟩ := hS
        exact Behind.plain X hL rfl ⟨_, _, rfl, rfl, hr'⟩ hH hF hn fun target hr => iremM X hx rfl (g := mkF m pc ls _) hd rfl hy hr
    · cases h
  case lshl =>
    simp only [step] at h
    obtain rfl := hlen.resolve_left (by simp [ilen])
    split at h
    · rename_i y x r
      simp only [Option.some.injEq, Prod.mk.injEq] at h; obtain ⟨rfl, rfl, rfl, rfl⟩ := h
      obtain ⟨_, _, rfl, rfl, _, _, rfl, rfl, hr'⟩ := hS
      exact Behind.plain X hL rfl ⟨_, _, rfl, rfl, hr'⟩ hH hF hn fun target hr => XS.lshl X.here hx rfl (g := mkF m pc ls _) hd rfl hr
    · cases h
  case lushr =>
    simp only [step] at h
    obtain rfl := hlen.resolve_left (by simp [ilen])
    split at h
    · rename_i y x r
      simp only [Option.some.injEq, Prod.mk.injEq] at h; obtain ⟨rfl, rfl, rfl, rfl⟩ := h
      obtain ⟨_, _, rfl, rfl, _, _, rfl, rfl, hr'⟩ := hS
      exact Behind.plain X hL rfl ⟨_, _, rfl, rfl, hr'⟩ hH hF hn fun target hr => XS.lushr X.here hx rfl (g := mkF m pc ls _) hd rfl hr
    · cases h
  case lcmp =>
    simp only [step] at h
    obtain rfl := hlen.resolve_left (by simp [ilen])
    split at h
    · rename_i y x r
      simp only [Option.some.injEq, Prod.mk.injEq] at h; obtain ⟨rfl, rfl, rfl, rfl⟩ := h
      obtain ⟨_, _, rfl, rfl, _, _, rfl, rfl, hr'⟩ := hS
      exact Behind.plain X hL rfl ⟨_, _, rfl, rfl, hr'⟩ hH hF hn fun target hr => XS.lcmp X.here hx rfl (g := mkF m pc ls _) hd rfl hr
    · cases h
  case lneg =>
    simp only [step] at h
    obtain rfl := hlen.resolve_left (by simp [ilen])
    split at h
    · rename_i x r
      simp only [Option.some.injEq, Prod.mk.injEq] at h; obtain ⟨rfl, rfl, rfl, rfl⟩ := h
      obtain ⟨_, _, rfl, rfl, hr'⟩ := hS
      exact Behind.plain X hL rfl ⟨_, _, rfl, rfl, hr'⟩ hH hF hn fun target hr => XS.lneg X.here hx rfl (g := mkF m pc ls _) hd rfl hr
    · cases h
  case i2l =>
    simp only [step] at h
    obtain rfl := hlen.resolve_left (by simp [ilen])
    split at h
    · rename_i x r
      simp only [Option.some.injEq, Prod.mk.injEq] at h; obtain ⟨rfl, rfl, rfl, rfl⟩ := h
      obtain ⟨_, _, rfl, rfl, hr'⟩ := hS
      exact Behind.plain X hL rfl ⟨_, _, rfl, rfl, hr'⟩ hH hF hn fun target hr => XS.i2l X.here hx rfl (g := mkF m pc ls _) hd rfl hr
    · cases h
  case l2i =>
    simp only [step] at h
    obtain rfl := hlen.resolve_left (by simp [ilen])
    split at h
    · rename_i x r
      simp only [Option.some.injEq, Prod.mk.injEq] at h; obtain ⟨rfl, rfl, rfl, rfl⟩ := h
      obtain ⟨_, _, rfl, rfl, hr'⟩ := hS
      exact Behind.plain X hL rfl ⟨_, _, rfl, rfl, hr'⟩ hH hF hn fun target hr => XS.l2i X.here hx rfl (g := mkF m pc ls _) hd rfl hr
    · cases h
  case i2b =>
    simp only [step] at h
    obtain rfl := hlen.resolve_left (by simp [ilen])
    split at h
    · rename_i x r
      simp only [Option.some.injEq, Prod.mk.injEq] at h; obtain ⟨rfl, rfl, rfl, rfl⟩ := h
      obtain ⟨_, _, rfl, rfl, hr'⟩ := hS
      exact Behind.plain X hL rfl ⟨_, _, rfl, rfl, hr'⟩ hH hF hn fun target hr => XS.i2b X.here hx rfl (g := mkF m pc ls _) hd rfl hr
    · cases h
  case dup =>
    simp only [step] at h
    obtain rfl := hlen.resolve_left (by simp [ilen])
    split at h
    · rename_i x r
      simp only [Option.some.injEq, Prod.mk.injEq] at h; obtain ⟨rfl, rfl, rfl, rfl⟩ := h
      obtain ⟨_, _, rfl, ⟨a, ha, rfl⟩, hr'⟩ := hS
      exact Behind.plain X hL rfl ⟨_, _, rfl, ⟨a, ha, rfl⟩, _, _, rfl, ⟨a, ha, rfl⟩, hr'⟩ hH hF hn fun target hr => XS.dup X.here hx rfl (g := mkF m pc ls _) hd rfl rfl hr
    · rename_i x r
      simp only [Option.some.injEq, Prod.mk.injEq] at h; obtain ⟨rfl, rfl, rfl, rfl⟩ := h
      obtain ⟨_, _, rfl, rfl, hr'⟩ := hS
      exact Behind.plain X hL rfl ⟨_, _, rfl, rfl, _, _, rfl, rfl, hr'⟩ hH hF hn fun target hr => XS.dup X.here hx rfl (g := mkF m pc ls _) hd rfl rfl hr
    · cases h
  case dup2 =>
    simp only [step] at h
    obtain rfl := hlen.resolve_left (by simp [ilen])
    split at h
    · rename_i x y r
      simp only [Option.some.injEq, Prod.mk.injEq] at h; obtain ⟨rfl, rfl, rfl, rfl⟩ := h
      obtain ⟨_, _, rfl, rfl, _, _, rfl, ⟨a, ha, rfl⟩, hr'⟩ := hS
      exact Behind.plain X hL rfl ⟨_, _, rfl, rfl, _, _, rfl, ⟨a, ha, rfl⟩, _, _, rfl, rfl, _, _, rfl, ⟨a, ha, rfl⟩, hr'⟩ hH hF hn fun target hr => XT.dup2 X.here hx rfl (g := mkF m pc ls _) hd rfl rfl rfl hr
    · cases h
  case pop =>
    simp only [step] at h
    obtain rfl := hlen.resolve_left (by simp [ilen])
    split at h
    · rename_i x r
      simp only [Option.some.injEq, Prod.mk.injEq] at h; obtain ⟨rfl, rfl, rfl, rfl⟩ := h
      obtain ⟨_, _, rfl, rfl, hr'⟩ := hS
      exact Behind.plain X hL rfl hr' hH hF hn fun target hr => XS.pop X.here hx rfl (g := mkF m pc ls _) hd rfl rfl hr
    · rename_i x r
      simp only [Option.some.injEq, Prod.mk.injEq] at h; obtain ⟨rfl, rfl, rfl, rfl⟩ := h
      obtain ⟨_, _, rfl, ⟨a, ha, rfl⟩, hr'⟩ := hS
      exact Behind.plain X hL rfl hr' hH hF hn fun target hr => XS.pop X.here hx rfl (g := mkF m pc ls _) hd rfl rfl hr
    · cases h
  case goto o =>
    simp only [step] at h
    obtain rfl := hlen.resolve_left (by simp [ilen])
    cases ht : tgt pc o with
    | none => simp [ht] at h
    | some t =>
      simp only [ht, Option.some.injEq, Prod.mk.injEq] at h; obtain ⟨rfl, rfl, rfl, rfl⟩ := h
      exact Behind.plain X hL rfl hS hH hF hn fun target hr => XS.goto X.here hx rfl (g := mkF m pc ls st) (pc0 := pc) rfl hd (tgt_spec ht).1 (tgt_spec ht).2 hr
  case ifCond cd o =>
    simp only [step] at h
    obtain rfl := hlen.resolve_left (by simp [ilen])
    split at h
    · rename_i x r
      obtain ⟨_, _, rfl, rfl, hr'⟩ := hS
      cases hc : if_icmp.holds cd x 0
      · simp only [hc, cond_false, Option.some.injEq, Prod.mk.injEq] at h; obtain ⟨rfl, rfl, rfl, rfl⟩ := h
        exact Behind.plain X hL rfl hr' hH hF hn fun target hr => XS.ifNo X.here hx rfl (g := mkF m pc ls _) hd rfl ((if0 _ _).trans hc) hr
      · cases ht : tgt pc o with
        | none => simp [hc, ht] at h
        | some t =>
          simp only [hc, ht, cond_true, Option.some.injEq, Prod.mk.injEq] at h; obtain ⟨rfl, rfl, rfl, rfl⟩ := h
          exact Behind.plain X hL rfl hr' hH hF hn fun target hr => XS.ifYes X.here hx rfl (g := mkF m pc ls _) (pc0 := pc) rfl hd rfl ((if0 _ _).trans hc) (tgt_spec ht).1 (tgt_spec ht).2 hr
    · cases h
  case if_icmp cd o =>
    simp only [step] at h
    obtain rfl := hlen.resolve_left (by simp [ilen])
    split at h
    · rename_i y x r
      obtain ⟨_, _, rfl, rfl, _, _, rfl, rfl, hr'⟩ := hS
      cases hc : if_icmp.holds cd x y
      · simp only [hc, cond_false, Option.some.injEq, Prod.mk.injEq] at h; obtain ⟨rfl, rfl, rfl, rfl⟩ := h
        exact Behind.plain X hL rfl hr' hH hF hn fun target hr => XS.icmpNo X.here hx rfl (g := mkF m pc ls _) hd rfl hc hr
      · cases ht : tgt pc o with
        | none => simp [hc, ht] at h
        | some t =>
          simp only [hc, ht, cond_true, Option.some.injEq, Prod.mk.injEq] at h; obtain ⟨rfl, rfl, rfl, rfl⟩ := h
          exact Behind.plain X hL rfl hr' hH hF hn fun target hr => XS.icmpYes X.here hx rfl (g := mkF m pc ls _) (pc0 := pc) rfl hd rfl hc (tgt_spec ht).1 (tgt_spec ht).2 hr
    · cases h
  case tableswitch d lo hi offs =>
    simp only [step] at h
    split at h
    · rename_i x r
      obtain ⟨_, _, rfl, rfl, hr'⟩ := hS
      by_cases ho : x.toInt < lo ∨ x.toInt > hi
      · have ho' : (decide (x.toInt < lo) || decide (x.toInt > hi)) = true := by simpa using ho
        cases ht : tgt pc d with
        | none => simp [ho', ht] at h
        | some t =>
          simp only [ho', ht, cond_true, Option.some.injEq, Prod.mk.injEq] at h; obtain ⟨rfl, rfl, rfl, rfl⟩ := h
          exact Behind.plain X hL rfl hr' hH hF hn fun target hr => XS.tswOut X.here hx rfl (g := mkF m pc ls _) (pc0 := pc) rfl hd rfl ho (tgt_spec ht).1 (tgt_spec ht).2 hr
      · have ho' : (decide (x.toInt < lo) || decide (x.toInt > hi)) = false := by simpa using ho
        cases hq : offs.toList[(x.toInt - lo).toNat]? with
        | none => simp [ho', hq] at h
        | some o =>
          cases ht : tgt pc o with
          | none => simp [ho', hq, ht] at h
          | some t =>
            simp only [ho', hq, ht, cond_false, Option.some.injEq, Prod.mk.injEq] at h; obtain ⟨rfl, rfl, rfl, rfl⟩ := h
            exact Behind.plain X hL rfl hr' hH hF hn fun target hr => XS.tswIn X.here hx rfl (g := mkF m pc ls _) (pc0 := pc) rfl hd rfl ho (by rw [← Array.getElem?_toList]; exact hq) (tgt_spec ht).1 (tgt_spec ht).2 hr
    · cases h
  case getfield j =>
    simp only [step] at h
    obtain rfl := hlen.resolve_left (by simp [ilen])
    split at h
    · rename_i a r
      obtain ⟨_, _, rfl, ⟨b, hb, rfl⟩, hr'⟩ := hS
      cases hf : P.fld (P.cls k) j with
      | none => simp [hf] at h
      | some f =>
        cases hg : getC H a f with
        | none => simp [hf, hg] at h
        | some v =>
          simp only [hf, hg, Option.some.injEq, Prod.mk.injEq] at h; obtain ⟨rfl, rfl, rfl, rfl⟩ := h
          obtain ⟨n, d, t, fin, g1, g2⟩ := G2 _ _ _ hf
          unfold getC at hg
          split at hg
          · rename_i fs hfs
            obtain ⟨b', e1, e2, e3, e4⟩ := hH.2.2.2 _ _ hfs
            cases hb.symm.trans e1
            obtain ⟨w, e5, e6⟩ := e4 _ _ _ _ _ _ hg g1
            obtain ⟨T2, X2, e7, s2⟩ := getF X hx hZ hown (host := "") (Or.inl g2) Via.refl rfl e6 (g := mkF m pc ls _) rfl rfl hd
            exact Behind.plain' X2 e7 hL rfl ⟨w, _, rfl, e5, hr'⟩ hH hF hn s2
          · cases hg
    · cases h
  case putfield j =>
    simp only [step] at h
    obtain rfl := hlen.resolve_left (by simp [ilen])
    split at h
    · rename_i v a r
      obtain ⟨w0, _, rfl, hv0, _, _, rfl, ⟨b, hb, rfl⟩, hr'⟩ := hS
      cases hf : P.fld (P.cls k) j with
      | none => simp [hf] at h
      | some f =>
        obtain ⟨n, d, t, fin, g1, g2⟩ := G2 _ _ _ hf
        simp only [hf, g1] at h
        cases hq : (!fin || P.ini k) && Nat.ble P.ro a
        · simp [hq] at h
        · simp only [hq, cond_true] at h
          cases hv : conv t v with
          | none => simp [hv] at h
          | some v' =>
            simp only [hv] at h
            split at h
            · rename_i fs hfs
              cases hz : Nat.ble (f + 1) fs.length
              · simp [hz] at h
              · simp only [hz, cond_true, Option.some.injEq, Prod.mk.injEq] at h; obtain ⟨rfl, rfl, rfl, rfl⟩ := h
                obtain ⟨b', e1, e2, e3, e4⟩ := hH.2.2.2 _ _ hfs
                cases hb.symm.trans e1
                simp only [Bool.and_eq_true, Bool.or_eq_true, Bool.not_eq_true'] at hq
                have hro : P.ro ≤ a := Nat.le_of_ble_eq_true hq.2
                have hfl : f < fs.length := Nat.le_of_ble_eq_true hz
                obtain ⟨l1, ty, l2, l3, l4⟩ := G3 _ _ _ _ _ g1
                obtain ⟨w, hw, hnw, hfw⟩ : ∃ w, VR am v' w ∧ narrow ty w0 = w ∧ fits ty w = true := by
                  unfold conv at hv
                  split at hv
                  · cases hv; cases hv0; cases ty <;> simp only [tyOk, Bool.false_eq_true] at l3; exact ⟨_, rfl, rfl, rfl⟩
                  · cases hv; cases hv0; cases ty <;> simp only [tyOk, Bool.false_eq_true] at l3; exact ⟨_, rfl, rfl, fits_nar_bool _⟩
                  · cases hv; cases hv0; cases ty <;> simp only [tyOk, Bool.false_eq_true] at l3; exact ⟨_, rfl, rfl, rfl⟩
                  · cases hv; obtain ⟨z, hz1, rfl⟩ := hv0; cases ty <;> simp only [tyOk, Bool.false_eq_true] at l3; exact ⟨_, ⟨z, hz1, rfl⟩, rfl, rfl⟩
                  · cases hv
                obtain ⟨old, o1, o2⟩ := e4 f _ _ _ _ _ (List.getElem?_eq_getElem hfl) g1
                have hfin : (Cond.lays C C n d).before a0 Z = true ∨ ((Cond.laysFinal C C n d).before a0 Z = true ∧ cn (P.cls k) = C ∧ meth.name = "<init>") := by
                  cases fin
                  · exact Or.inl l1
                  · obtain ⟨q1, q2⟩ := hini (by simpa using hq.1); exact Or.inr ⟨l1, q2, q1⟩
                obtain ⟨T2, h2, X2, e7, W2, s2⟩ := putFN X hx hZ hown g2 Via.refl rfl o2 e2 hfin G6 l2 hnw hfw (g := mkF m pc ls _) rfl rfl hd
                refine Behind.write (T' := T2) X2 e7 W2 hL hr' hH hb hro hfs rfl ?_ hF hn s2
                refine ⟨e2.wr W2, by rw [List.length_set]; exact e3, fun j' u n' d' t' f' q1 q2 => ?_⟩
                rw [List.getElem?_set] at q1
                by_cases ej : f = j'
                · subst ej
                  rw [if_pos rfl, if_pos hfl] at q1
                  cases q1
                  rw [g1] at q2; cases q2
                  exact ⟨w, hw, o2.same W2⟩
                · rw [if_neg ej] at q1
                  obtain ⟨w', y1, y2⟩ := e4 _ _ _ _ _ _ q1 q2
                  obtain ⟨l1', ty', l2', -, -⟩ := G3 _ _ _ _ _ q2
                  have hl1 : Laid Z a0 C C n d := by cases fin; exact Or.inl l1; exact Or.inr l1
                  have hl2 : Laid Z a0 C C n' d' := by cases f'; exact Or.inl l1'; exact Or.inr l1'
                  exact ⟨w', y1, y2.other W2 (Or.inr (slot_ne hl2 hl1 (G4 _ _ _ _ _ _ _ _ _ _ q2 g1 (Ne.symm ej)) l2' l2))⟩
            · cases h
    · cases h
  case iaload =>
    simp only [step] at h
    obtain rfl := hlen.resolve_left (by simp [ilen])
    split at h
    · rename_i j a r
      obtain ⟨_, _, rfl, rfl, _, _, rfl, ⟨b, hb, rfl⟩, hr'⟩ := hS
      split at h
      · rename_i xs hxs
        cases hj : inb xs.length j
        · simp [hj] at h
        · simp only [hj, cond_true, Option.some.injEq, Prod.mk.injEq] at h; obtain ⟨rfl, rfl, rfl, rfl⟩ := h
          obtain ⟨b', e1, cl, A1, A2, A3⟩ := hH.2.2.2 _ _ hxs
          cases hb.symm.trans e1
          have hin := inb_spec hj
          rw [← A2] at hin
          exact Behind.plain X hL rfl ⟨_, _, rfl, rfl, hr'⟩ hH hF hn fun target hr => X.iaload hx A1.1 (State.isArrayOf_alike hZ.alike A1.2.1) A1.2.2 hin (A3 _ _ (rd_at hj)) (g := mkF m pc ls _) rfl rfl hd _ hr
      · rename_i xs hxs
        cases hj : inb xs.length j
        · simp [hj] at h
        · simp only [hj, cond_true, Option.some.injEq, Prod.mk.injEq] at h; obtain ⟨rfl, rfl, rfl, rfl⟩ := h
          obtain ⟨b', e1, cl, A1, A2, A3⟩ := hH.2.2.2 _ _ hxs
          cases hb.symm.trans e1
          have hin := inb_spec hj
          rw [← A2] at hin
          exact Behind.plain X hL rfl ⟨_, _, rfl, rfl, hr'⟩ hH hF hn fun target hr => X.iaload hx A1.1 (State.isArrayOf_alike hZ.alike A1.2.1) A1.2.2 hin (A3 _ _ (rd_at hj)) (g := mkF m pc ls _) rfl rfl hd _ hr
      · cases h
    · cases h
  case baload =>
    simp only [step] at h
    obtain rfl := hlen.resolve_left (by simp [ilen])
    split at h
    · rename_i j a r
      obtain ⟨_, _, rfl, rfl, _, _, rfl, ⟨b, hb, rfl⟩, hr'⟩ := hS
      split at h
      · rename_i xs hxs
        cases hj : inb xs.length j
        · simp [hj] at h
        · simp only [hj, cond_true, Option.some.injEq, Prod.mk.injEq] at h; obtain ⟨rfl, rfl, rfl, rfl⟩ := h
          obtain ⟨b', e1, cl, A1, A2, A3⟩ := hH.2.2.2 _ _ hxs
          cases hb.symm.trans e1
          have hin := inb_spec hj
          rw [← A2] at hin
          exact Behind.plain X hL rfl ⟨_, _, rfl, rfl, hr'⟩ hH hF hn fun target hr => X.baloadBooleans hx A1.1 (State.isArrayOf_alike hZ.alike A1.2.1) A1.2.2 hin (A3 _ _ (rd_at hj)) (g := mkF m pc ls _) rfl rfl hd _ hr
      · rename_i xs hxs
        cases hj : inb xs.length j
        · simp [hj] at h
        · simp only [hj, cond_true, Option.some.injEq, Prod.mk.injEq] at h; obtain ⟨rfl, rfl, rfl, rfl⟩ := h
          obtain ⟨b', e1, cl, A1, A2, A3⟩ := hH.2.2.2 _ _ hxs
          cases hb.symm.trans e1
          have hin := inb_spec hj
          rw [← A2] at hin
          exact Behind.plain X hL rfl ⟨_, _, rfl, rfl, hr'⟩ hH hF hn fun target hr => X.baloadBytes hx A1.1 (State.isArrayOf_alike hZ.alike A1.2.1) A1.2.2 hin (A3 _ _ (rd_at hj)) (g := mkF m pc ls _) rfl rfl hd _ hr
      · cases h
    · cases h
  case laload =>
    simp only [step] at h
    obtain rfl := hlen.resolve_left (by simp [ilen])
    split at h
    · rename_i j a r
      obtain ⟨_, _, rfl, rfl, _, _, rfl, ⟨b, hb, rfl⟩, hr'⟩ := hS
      split at h
      · rename_i xs hxs
        cases hj : inb xs.length j
        · simp [hj] at h
        · simp only [hj, cond_true, Option.some.injEq, Prod.mk.injEq] at h; obtain ⟨rfl, rfl, rfl, rfl⟩ := h
          obtain ⟨b', e1, cl, A1, A2, A3⟩ := hH.2.2.2 _ _ hxs
          cases hb.symm.trans e1
          have hin := inb_spec hj
          rw [← A2] at hin
          exact Behind.plain X hL rfl ⟨_, _, rfl, rfl, hr'⟩ hH hF hn fun target hr => X.laload hx A1.1 (State.isArrayOf_alike hZ.alike A1.2.1) A1.2.2 hin (A3 _ _ (rdL_at hj)) (g := mkF m pc ls _) rfl rfl hd _ hr
      · cases h
    · cases h
  case iastore =>
    simp only [step] at h
    obtain rfl := hlen.resolve_left (by simp [ilen])
    split at h
    · rename_i x j a r
      obtain ⟨_, _, rfl, rfl, _, _, rfl, rfl, _, _, rfl, ⟨b, hb, rfl⟩, hr'⟩ := hS
      cases hq : Nat.ble P.ro a
      · simp [hq] at h
      · simp only [hq, cond_true] at h
        have hro : P.ro ≤ a := Nat.le_of_ble_eq_true hq
        split at h
        · rename_i xs hxs
          cases hj : inb xs.length j
          · simp [hj] at h
          · simp only [hj, cond_true, Option.some.injEq, Prod.mk.injEq] at h; obtain ⟨rfl, rfl, rfl, rfl⟩ := h
            obtain ⟨b', e1, hcr⟩ := hH.2.2.2 _ _ hxs
            cases hb.symm.trans e1
            have hcr0 := hcr
            obtain ⟨cl, A1, A2, A3⟩ := hcr0
            have hin := inb_spec hj
            rw [← A2] at hin
            obtain ⟨T2, h2, X2, e7, W2, s2⟩ := stI X hx hZ rfl A1 hin (g := mkF m pc ls _) rfl rfl hd
            exact Behind.write (T' := T2) X2 e7 W2 hL hr' hH hb hro hxs (by simp [csz, wr, wrL]) (CR.wrI W2 hcr) hF hn s2
        · cases h
    · cases h
  case bastore =>
    simp only [step] at h
    obtain rfl := hlen.resolve_left (by simp [ilen])
    split at h
    · rename_i x j a r
      obtain ⟨_, _, rfl, rfl, _, _, rfl, rfl, _, _, rfl, ⟨b, hb, rfl⟩, hr'⟩ := hS
      cases hq : Nat.ble P.ro a
      · simp [hq] at h
      · simp only [hq, cond_true] at h
        have hro : P.ro ≤ a := Nat.le_of_ble_eq_true hq
        split at h
        · rename_i xs hxs
          cases hj : inb xs.length j
          · simp [hj] at h
          · simp only [hj, cond_true, Option.some.injEq, Prod.mk.injEq] at h; obtain ⟨rfl, rfl, rfl, rfl⟩ := h
            obtain ⟨b', e1, hcr⟩ := hH.2.2.2 _ _ hxs
            cases hb.symm.trans e1
            have hcr0 := hcr
            obtain ⟨cl, A1, A2, A3⟩ := hcr0
            have hin := inb_spec hj
            rw [← A2] at hin
            obtain ⟨T2, h2, X2, e7, W2, s2⟩ := stZ X hx hZ rfl A1 hin (g := mkF m pc ls _) rfl rfl hd
            exact Behind.write (T' := T2) X2 e7 W2 hL hr' hH hb hro hxs (by simp [csz, wr, wrL]) (CR.wrI W2 hcr) hF hn s2
        · rename_i xs hxs
          cases hj : inb xs.length j
          · simp [hj] at h
          · simp only [hj, cond_true, Option.some.injEq, Prod.mk.injEq] at h; obtain ⟨rfl, rfl, rfl, rfl⟩ := h
            obtain ⟨b', e1, hcr⟩ := hH.2.2.2 _ _ hxs
            cases hb.symm.trans e1
            have hcr0 := hcr
            obtain ⟨cl, A1, A2, A3⟩ := hcr0
            have hin := inb_spec hj
            rw [← A2] at hin
            obtain ⟨T2, h2, X2, e7, W2, s2⟩ := stB X hx hZ rfl A1 hin (g := mkF m pc ls _) rfl rfl hd
            exact Behind.write (T' := T2) X2 e7 W2 hL hr' hH hb hro hxs (by simp [csz, wr, wrL]) (CR.wrI W2 hcr) hF hn s2
        · cases h
    · cases h
  case lastore =>
    simp only [step] at h
    obtain rfl := hlen.resolve_left (by simp [ilen])
    split at h
    · rename_i x j a r
      obtain ⟨_, _, rfl, rfl, _, _, rfl, rfl, _, _, rfl, ⟨b, hb, rfl⟩, hr'⟩ := hS
      cases hq : Nat.ble P.ro a
      · simp [hq] at h
      · simp only [hq, cond_true] at h
        have hro : P.ro ≤ a := Nat.le_of_ble_eq_true hq
        split at h
        · rename_i xs hxs
          cases hj : inb xs.length j
          · simp [hj] at h
          · simp only [hj, cond_true, Option.some.injEq, Prod.mk.injEq] at h; obtain ⟨rfl, rfl, rfl, rfl⟩ := h
            obtain ⟨b', e1, hcr⟩ := hH.2.2.2 _ _ hxs
            cases hb.symm.trans e1
            have hcr0 := hcr
            obtain ⟨cl, A1, A2, A3⟩ := hcr0
            have hin := inb_spec hj
            rw [← A2] at hin
            obtain ⟨T2, h2, X2, e7, W2, s2⟩ := stJ X hx hZ rfl A1 hin (g := mkF m pc ls _) rfl rfl hd
            exact Behind.write (T' := T2) X2 e7 W2 hL hr' hH hb hro hxs (by simp [csz, wr, wrL]) (CR.wrJ W2 hcr) hF hn s2
        · cases h
    · cases h
  case arraylength =>
    simp only [step] at h
    obtain rfl := hlen.resolve_left (by simp [ilen])
    split at h
    · rename_i a r
      obtain ⟨_, _, rfl, ⟨b, hb, rfl⟩, hr'⟩ := hS
      split at h
      · rename_i t xs hxs
        simp only [Option.some.injEq, Prod.mk.injEq] at h; obtain ⟨rfl, rfl, rfl, rfl⟩ := h
        obtain ⟨b', e1, cl, A1, A2, A3⟩ := hH.2.2.2 _ _ hxs
        cases hb.symm.trans e1
        exact Behind.plain X hL rfl ⟨_, _, rfl, rfl, hr'⟩ hH hF hn fun target hr => X.arraylength hx A1.1 (State.isArrayOf_alike hZ.alike A1.2.1) (g := mkF m pc ls _) rfl rfl hd _ (by rw [A2]; exact hr)
      · rename_i xs hxs
        simp only [Option.some.injEq, Prod.mk.injEq] at h; obtain ⟨rfl, rfl, rfl, rfl⟩ := h
        obtain ⟨b', e1, cl, A1, A2, A3⟩ := hH.2.2.2 _ _ hxs
        cases hb.symm.trans e1
        exact Behind.plain X hL rfl ⟨_, _, rfl, rfl, hr'⟩ hH hF hn fun target hr => X.arraylength hx A1.1 (State.isArrayOf_alike hZ.alike A1.2.1) (g := mkF m pc ls _) rfl rfl hd _ (by rw [A2]; exact hr)
      · cases h
    · cases h
  case newarray t =>
    simp only [step] at h
    obtain rfl := hlen.resolve_left (by simp [ilen])
    split at h
    · rename_i n r
      obtain ⟨_, _, rfl, rfl, hr'⟩ := hS
      cases ht : atyOf t with
      | none => simp [ht] at h
      | some q =>
        simp only [ht] at h
        cases hq : (!(decide (n < 0)) && Nat.ble n.toNatClampNeg 60000 && Nat.ble (H.length + 1) P.capC && Nat.ble (hsz P H + n.toNatClampNeg) P.capS)
        · simp [hq] at h
        · simp only [hq, cond_true, Option.some.injEq, Prod.mk.injEq] at h; obtain ⟨rfl, rfl, rfl, rfl⟩ := h
          simp only [Bool.and_eq_true, Bool.not_eq_true', decide_eq_false_iff_not] at hq
          have hcap : n.toNatClampNeg ≤ 60000 := Nat.le_of_ble_eq_true hq.1.1.2
          have hq1 := hq.1.1.1
          have d1 : (H ++ [newC q n.toNatClampNeg]).length - H.length = 1 := by simp
          have d2 : hsz P (H ++ [newC q n.toNatClampNeg]) - hsz P H = n.toNatClampNeg := by rw [hsz_app, csz_new _ _ ht]; omega
          rw [d1] at hcells ⊢; rw [d2] at hslots ⊢
          obtain ⟨T2, h2, cA, X2, e7, E2, A2, s2⟩ := newP X hx hZ (G8 _ _ _ _ hcode) rfl (g := mkF m pc ls _) rfl hd rfl hq1 (cap := n.toNatClampNeg) (Nat.le_refl _) (by omega) hcells hslots
          have hlt : T.heap.size < h2.size := A2.lt
          have hm' := hH.1
          refine ⟨T2, am ++ [T.heap.size], ls, _, locs, X2, hL.mono (Pre.app _ _), rfl, ⟨_, _, rfl, ⟨T.heap.size, by rw [← hm']; simp, rfl⟩, hr'.mono (Pre.app _ _)⟩, by rw [e7]; exact hH.push E2 hlt hn (arr_new ht hq1 A2), Pre.app _ _, hF, by rw [e7]; omega, s2⟩
    · cases h
  case new j =>
    simp only [step] at h
    obtain rfl := hlen.resolve_left (by simp [ilen])
    split at h
    · rename_i q hk
      rw [Bool.cond_eq_ite] at h
      split at h
      case isFalse => cases h
      simp only [Option.some.injEq, Prod.mk.injEq] at h; obtain ⟨rfl, rfl, rfl, rfl⟩ := h
      have w := G9 _ _ _ _ hk
      have d1 : (H ++ [Sum.inl P.fresh]).length - H.length = 1 := by simp
      have d2 : hsz P (H ++ [Sum.inl P.fresh]) - hsz P H = P.objN := by rw [hsz_app]; simp [csz]
      rw [d1] at hcells ⊢; rw [d2] at hslots ⊢
      obtain ⟨T2, h2, X2, e7, E2, A2, D2, -, s2⟩ := newO X hx hZ hown w G6 G7 rfl (g := mkF m pc ls st) rfl hd hcells hslots
      have hlt : T.heap.size < h2.size := A2.lt
      have hm' := hH.1
      refine ⟨T2, am ++ [T.heap.size], ls, _, locs, X2, hL.mono (Pre.app _ _), rfl, ⟨_, _, rfl, ⟨T.heap.size, by rw [← hm']; simp, rfl⟩, hS.mono (Pre.app _ _)⟩, ?_, Pre.app _ _, hF, by rw [e7]; omega, s2⟩
      rw [e7]
      refine hH.push E2 hlt hn ⟨A2, by simp [Prog.fresh], fun j' v n d t f q1 q2 => ?_⟩
      obtain ⟨l1, ty, l2, l3, l4⟩ := G3 _ _ _ _ _ q2
      have hl1 : Laid Z a0 C C n d := by cases f; exact Or.inl l1; exact Or.inr l1
      have hv : v = dflt t := by rw [Prog.fresh, List.getElem?_map, q2] at q1; simpa using q1.symm
      subst hv
      refine ⟨defaultValue ty, ?_, D2 hl1 l2⟩
      rw [l4]; unfold dflt; split <;> rfl
    · cases h
  case invokespecial j =>
    simp only [step] at h
    obtain rfl := hlen.resolve_left (by simp [ilen])
    split at h
    · rename_i a r
      obtain ⟨_, _, rfl, ⟨b, hb, rfl⟩, hr'⟩ := hS
      cases hq : isObjInit P k j && Nat.ble 1 (P.rf k) && Nat.ble (cats r + 12) (P.rl k)
      · simp [hq] at h
      · simp only [hq, cond_true, Option.some.injEq, Prod.mk.injEq] at h; obtain ⟨rfl, rfl, rfl, rfl⟩ := h
        simp only [Bool.and_eq_true] at hq
        have h1 : 1 ≤ P.rf k := Nat.le_of_ble_eq_true hq.1.2
        have h2 : cats r + 12 ≤ P.rl k := Nat.le_of_ble_eq_true hq.2
        have h3 := hq.1.1
        unfold isObjInit at h3
        split at h3
        · rename_i kk hk
          obtain ⟨w1, w2, w3⟩ := G9 _ _ _ _ hk
          obtain ⟨T2, X2, e7, s2⟩ := initO X hx hZ hown w1 w2 w3 rfl (g := mkF m pc ls _) rfl (by rw [hml]; exact hlz) rfl hd (by omega) (W := cats r) (by rw [hr'.cats]; show 2 * 0 + _ ≤ _; omega) (by omega)
          exact Behind.plain' X2 e7 hL rfl hr' hH hF hn s2
        · cases h3
    · cases h
  case iadd =>
    simp only [step] at h
    obtain rfl := hlen.resolve_left (by simp [ilen])
    split at h
    · rename_i y x r
      simp only [aop, Option.some.injEq, Prod.mk.injEq] at h; obtain ⟨rfl, rfl, rfl, rfl⟩ := h
      obtain ⟨_, _, rfl, rfl, _, _, rfl, rfl, hr'⟩ := hS
      exact Behind.plain X hL rfl ⟨_, _, rfl, rfl, hr'⟩ hH hF hn fun target hr => XS.iadd X.here hx rfl (g := mkF m pc ls _) hd rfl hr
    · simp [lop] at h
    · cases h
  case isub =>
    simp only [step] at h
    obtain rfl := hlen.resolve_left (by simp [ilen])
    split at h
    · rename_i y x r
      simp only [aop, Option.some.injEq, Prod.mk.injEq] at h; obtain ⟨rfl, rfl, rfl, rfl⟩ := h
      obtain ⟨_, _, rfl, rfl, _, _, rfl, rfl, hr'⟩ := hS
      exact Behind.plain X hL rfl ⟨_, _, rfl, rfl, hr'⟩ hH hF hn fun target hr => XS.isub X.here hx rfl (g := mkF m pc ls _) hd rfl hr
    · simp [lop] at h
    · cases h
  case imul =>
    simp only [step] at h
    obtain rfl := hlen.resolve_left (by simp [ilen])
    split at h
    · rename_i y x r
      simp only [aop, Option.some.injEq, Prod.mk.injEq] at h; obtain ⟨rfl, rfl, rfl, rfl⟩ := h
      obtain ⟨_, _, rfl, rfl, _, _, rfl, rfl, hr'⟩ := hS
      exact Behind.plain X hL rfl ⟨_, _, rfl, rfl, hr'⟩ hH hF hn fun target hr => XS.imul X.here hx rfl (g := mkF m pc ls _) hd rfl hr
    · simp [lop] at h
    · cases h
  case iand =>
    simp only [step] at h
    obtain rfl := hlen.resolve_left (by simp [ilen])
    split at h
    · rename_i y x r
      simp only [aop, Option.some.injEq, Prod.mk.injEq] at h; obtain ⟨rfl, rfl, rfl, rfl⟩ := h
      obtain ⟨_, _, rfl, rfl, _, _, rfl, rfl, hr'⟩ := hS
      exact Behind.plain X hL rfl ⟨_, _, rfl, rfl, hr'⟩ hH hF hn fun target hr => XS.iand X.here hx rfl (g := mkF m pc ls _) hd rfl hr
    · simp [lop] at h
    · cases h
  case ior =>
    simp only [step] at h
    obtain rfl := hlen.resolve_left (by simp [ilen])
    split at h
    · rename_i y x r
      simp only [aop, Option.some.injEq, Prod.mk.injEq] at h; obtain ⟨rfl, rfl, rfl, rfl⟩ := h
      obtain ⟨_, _, rfl, rfl, _, _, rfl, rfl, hr'⟩ := hS
      exact Behind.plain X hL rfl ⟨_, _, rfl, rfl, hr'⟩ hH hF hn fun target hr => XS.ior X.here hx rfl (g := mkF m pc ls _) hd rfl hr
    · simp [lop] at h
    · cases h
  case ixor =>
    simp only [step] at h
    obtain rfl := hlen.resolve_left (by simp [ilen])
    split at h
    · rename_i y x r
      simp only [aop, Option.some.injEq, Prod.mk.injEq] at h; obtain ⟨rfl, rfl, rfl, rfl⟩ := h
      obtain ⟨_, _, rfl, rfl, _, _, rfl, rfl, hr'⟩ := hS
      exact Behind.plain X hL rfl ⟨_, _, rfl, rfl, hr'⟩ hH hF hn fun target hr => XS.ixor X.here hx rfl (g := mkF m pc ls _) hd rfl hr
    · simp [lop] at h
    · cases h
  case ishl =>
    simp only [step] at h
    obtain rfl := hlen.resolve_left (by simp [ilen])
    split at h
    · rename_i y x r
      simp only [aop, Option.some.injEq, Prod.mk.injEq] at h; obtain ⟨rfl, rfl, rfl, rfl⟩ := h
      obtain ⟨_, _, rfl, rfl, _, _, rfl, rfl, hr'⟩ := hS
      exact Behind.plain X hL rfl ⟨_, _, rfl, rfl, hr'⟩ hH hF hn fun target hr => XS.ishl X.here hx rfl (g := mkF m pc ls _) hd rfl hr
    · simp [lop] at h
    · cases h
  case ishr =>
    simp only [step] at h
    obtain rfl := hlen.resolve_left (by simp [ilen])
    split at h
    · rename_i y x r
      simp only [aop, Option.some.injEq, Prod.mk.injEq] at h; obtain ⟨rfl, rfl, rfl, rfl⟩ := h
      obtain ⟨_, _, rfl, rfl, _, _, rfl, rfl, hr'⟩ := hS
      exact Behind.plain X hL rfl ⟨_, _, rfl, rfl, hr'⟩ hH hF hn fun target hr => XS.ishr X.here hx rfl (g := mkF m pc ls _) hd rfl hr
    · simp [lop] at h
    · cases h
  case iushr =>
    simp only [step] at h
    obtain rfl := hlen.resolve_left (by simp [ilen])
    split at h
    · rename_i y x r
      simp only [aop, Option.some.injEq, Prod.mk.injEq] at h; obtain ⟨rfl, rfl, rfl, rfl⟩ := h
      obtain ⟨_, _, rfl, rfl, _, _, rfl, rfl, hr'⟩ := hS
      exact Behind.plain X hL rfl ⟨_, _, rfl, rfl, hr'⟩ hH hF hn fun target hr => XS.iushr X.here hx rfl (g := mkF m pc ls _) hd rfl hr
    · simp [lop] at h
    · cases h
  case ladd =>
    simp only [step] at h
    obtain rfl := hlen.resolve_left (by simp [ilen])
    split at h
    · simp [aop] at h
    · rename_i y x r
      simp only [lop, Option.some.injEq, Prod.mk.injEq] at h; obtain ⟨rfl, rfl, rfl, rfl⟩ := h
      obtain ⟨_, _, rfl, rfl, _, _, rfl, rfl, hr'⟩ := hS
      exact Behind.plain X hL rfl ⟨_, _, rfl, rfl, hr'⟩ hH hF hn fun target hr => XS.ladd X.here hx rfl (g := mkF m pc ls _) hd rfl hr
    · cases h
  case lsub =>
    simp only [step] at h
    obtain rfl := hlen.resolve_left (by simp [ilen])
    split at h
    · simp [aop] at h
    · rename_i y x r
      simp only [lop, Option.some.injEq, Prod.mk.injEq] at h; obtain ⟨rfl, rfl, rfl, rfl⟩ := h
      obtain ⟨_, _, rfl, rfl, _, _, rfl, rfl, hr'⟩ := hS
      exact Behind.plain X hL rfl ⟨_, _, rfl, rfl, hr'⟩ hH hF hn fun target hr => XS.lsub X.here hx rfl (g := mkF m pc ls _) hd rfl hr
    · cases h
  case lmul =>
    simp only [step] at h
    obtain rfl := hlen.resolve_left (by simp [ilen])
    split at h
    · simp [aop] at h
    · rename_i y x r
      simp only [lop, Option.some.injEq, Prod.mk.injEq] at h; obtain ⟨rfl, rfl, rfl, rfl⟩ := h
      obtain ⟨_, _, rfl, rfl, _, _, rfl, rfl, hr'⟩ := hS
      exact Behind.plain X hL rfl ⟨_, _, rfl, rfl, hr'⟩ hH hF hn fun target hr => XS.lmul X.here hx rfl (g := mkF m pc ls _) hd rfl hr
    · cases h
  case land =>
    simp only [step] at h
    obtain rfl := hlen.resolve_left (by simp [ilen])
    split at h
    · simp [aop] at h
    · rename_i y x r
      simp only [lop, Option.some.injEq, Prod.mk.injEq] at h; obtain ⟨rfl, rfl, rfl, rfl⟩ := h
      obtain ⟨_, _, rfl, rfl, _, _, rfl, rfl, hr'⟩ := hS
      exact Behind.plain X hL rfl ⟨_, _, rfl, rfl, hr'⟩ hH hF hn fun target hr => XS.land X.here hx rfl (g := mkF m pc ls _) hd rfl hr
    · cases h
  case lor =>
    simp only [step] at h
    obtain rfl := hlen.resolve_left (by simp [ilen])
    split at h
    · simp [aop] at h
    · rename_i y x r
      simp only [lop, Option.some.injEq, Prod.mk.injEq] at h; obtain ⟨rfl, rfl, rfl, rfl⟩ := h
      obtain ⟨_, _, rfl, rfl, _, _, rfl, rfl, hr'⟩ := hS
      exact Behind.plain X hL rfl ⟨_, _, rfl, rfl, hr'⟩ hH hF hn fun target hr => XS.lor X.here hx rfl (g := mkF m pc ls _) hd rfl hr
    · cases h
  case lxor =>
    simp only [step] at h
    obtain rfl := hlen.resolve_left (by simp [ilen])
    split at h
    · simp [aop] at h
    · rename_i y x r
      simp only [lop, Option.some.injEq, Prod.mk.injEq] at h; obtain ⟨rfl, rfl, rfl, rfl⟩ := h
      obtain ⟨_, _, rfl, rfl, _, _, rfl, rfl, hr'⟩ := hS
      exact Behind.plain X hL rfl ⟨_, _, rfl, rfl, hr'⟩ hH hF hn fun target hr => XS.lxor X.here hx rfl (g := mkF m pc ls _) hd rfl hr
    · cases h
  all_goals (exfalso; simp only [step] at h; split at h <;> simp [aop, lop] at h)
end Sound
end Jvm.OwnX
namespace Jvm.OwnX
open Sem ClassFile Op Lib Jvm.Stand Jvm.Free Jvm.LawKit Jvm.RoadKit
set_option maxHeartbeats 4000000 in
theorem step_grow {P : Prog} {k pc np pc' : Nat} {i : Instr} {L L' : ALoc} {S S' : List Value} {H H' : AHeap} (h : step P k i np pc L S H = some (pc', L', S', H')) : H.length ≤ H'.length ∧ hsz P H ≤ hsz P H' := by
  cases i <;> simp only [step, Bool.cond_eq_ite] at h
  all_goals (repeat' (split at h))
  all_goals first
    | (cases h; done)
    | (simp only [Option.some.injEq, Prod.mk.injEq] at h; obtain ⟨-, -, -, rfl⟩ := h; exact ⟨Nat.le_refl _, Nat.le_refl _⟩)
    | (simp only [Option.some.injEq, Prod.mk.injEq] at h; obtain ⟨-, -, -, rfl⟩ := h; exact ⟨by simp, by rw [hsz_app]; omega⟩)
    | (simp only [Option.some.injEq, Prod.mk.injEq] at h; obtain ⟨-, -, -, rfl⟩ := h; exact ⟨by simp, Nat.le_of_eq (hsz_set P _ _ _ _ (by assumption) (by simp [csz, wr, wrL])).symm⟩)
set_option maxHeartbeats 4000000 in
theorem step_cap {P : Prog} {k pc np pc' : Nat} {i : Instr} {L L' : ALoc} {S S' : List Value} {H H' : AHeap} (h : step P k i np pc L S H = some (pc', L', S', H')) : (H'.length ≤ H.length ∨ H'.length ≤ P.capC) ∧ (hsz P H' ≤ hsz P H ∨ hsz P H' ≤ P.capS) := by
  cases i <;> simp only [step, Bool.cond_eq_ite] at h
  case newarray t =>
    split at h
    · split at h
      · rename_i q ht
        split at h
        · rename_i hq
          simp only [Option.some.injEq, Prod.mk.injEq] at h; obtain ⟨-, -, -, rfl⟩ := h
          simp only [Bool.and_eq_true] at hq
          have h1 := Nat.le_of_ble_eq_true hq.1.2
          have h2 := Nat.le_of_ble_eq_true hq.2
          exact ⟨Or.inr (by simpa using h1), Or.inr (by rw [hsz_app, csz_new _ _ ht]; exact h2)⟩
        · cases h
      · cases h
    · cases h
  case new j =>
    split at h
    · split at h
      · rename_i hq
        simp only [Option.some.injEq, Prod.mk.injEq] at h; obtain ⟨-, -, -, rfl⟩ := h
        simp only [Bool.and_eq_true] at hq
        have h1 := Nat.le_of_ble_eq_true hq.1
        have h2 := Nat.le_of_ble_eq_true hq.2
        exact ⟨Or.inr (by simpa using h1), Or.inr (by rw [hsz_app]; exact h2)⟩
      · cases h
    · cases h
  all_goals (repeat' (split at h))
  all_goals first
    | (cases h; done)
    | (simp only [Option.some.injEq, Prod.mk.injEq] at h; obtain ⟨-, -, -, rfl⟩ := h; exact ⟨Or.inl (Nat.le_refl _), Or.inl (Nat.le_refl _)⟩)
    | (simp only [Option.some.injEq, Prod.mk.injEq] at h; obtain ⟨-, -, -, rfl⟩ := h; exact ⟨Or.inl (by simp), Or.inl (Nat.le_of_eq (hsz_set P _ _ _ _ (by assumption) (by simp [csz, wr, wrL])))⟩)
theorem run_cap {P : Prog} : ∀ {n k pc : Nat} {L : ALoc} {S : List Value} {H : AHeap} {v : Option Value} {H' : AHeap}, run P n k pc L S H = some (v, H') → (H'.length ≤ H.length ∨ H'.length ≤ P.capC) ∧ (hsz P H' ≤ hsz P H ∨ hsz P H' ≤ P.capS)
  | 0, k, pc, L, S, H, v, H', h => by simp [run] at h
  | n + 1, k, pc, L, S, H, v, H', h => by
    rw [run] at h
    split at h
    · cases h
    · split at h
      · cases h; exact ⟨Or.inl (Nat.le_refl _), Or.inl (Nat.le_refl _)⟩
      · split at h
        · split at h
          · rename_i h1
            have g1 := run_cap h1
            have g2 := run_cap h
            omega
          · cases h
        · split at h
          · rename_i h1
            have g1 := step_cap h1
            have g2 := run_cap h
            omega
          · cases h
theorem run_grow {P : Prog} : ∀ {n k pc : Nat} {L : ALoc} {S : List Value} {H : AHeap} {v : Option Value} {H' : AHeap}, run P n k pc L S H = some (v, H') → H.length ≤ H'.length ∧ hsz P H ≤ hsz P H'
  | 0, k, pc, L, S, H, v, H', h => by simp [run] at h
  | n + 1, k, pc, L, S, H, v, H', h => by
    rw [run] at h
    split at h
    · cases h
    · split at h
      · cases h; exact ⟨Nat.le_refl _, Nat.le_refl _⟩
      · split at h
        · split at h
          · rename_i h1
            have g1 := run_grow h1
            have g2 := run_grow h
            omega
          · cases h
        · split at h
          · rename_i h1
            have g1 := step_grow h1
            have g2 := run_grow h
            omega
          · cases h
def OVR (am : List Addr) (v w : Option Value) : Prop := match v with
  | none => w = none
  | some x => ∃ y, w = some y ∧ VR am x y
theorem callV_spec {P : Prog} {k k' : Nat} {i : Instr} {S as rest : List Value} {H : AHeap} (h : callV P k i S H = some (k', as, rest)) :
    ∃ j q, poolOf i = some j ∧ P.link (P.cls k) j = some (q, k') ∧ kindOk i q = true ∧ S = as.reverse ++ rest ∧ as.length = P.pops k' ∧ P.rf k' + 1 ≤ P.rf k ∧ cats rest + (P.maxL k' + 11) + P.rl k' ≤ P.rl k ∧ recvOk P H q as = true ∧ (entL as).length ≤ P.maxL k' := by
  unfold callV at h
  split at h
  · cases h
  · rename_i j hj
    split at h
    · cases h
    · rename_i q k'' hk
      rw [Bool.cond_eq_ite] at h
      split at h
      · rename_i hc
        simp only [Option.some.injEq, Prod.mk.injEq] at h
        obtain ⟨rfl, rfl, rfl⟩ := h
        simp only [Bool.and_eq_true] at hc
        obtain ⟨⟨⟨⟨⟨c1, c2⟩, c3⟩, c4⟩, c5⟩, c6⟩ := hc
        have c2' := Nat.le_of_ble_eq_true c2
        exact ⟨j, q, hj, hk, c1, by rw [List.reverse_reverse, List.take_append_drop], by simp [c2'], Nat.le_of_ble_eq_true c3, Nat.le_of_ble_eq_true c4, c5, Nat.le_of_ble_eq_true c6⟩
      · cases h
theorem linkOk_call {P : Prog} {nm : Nat → MethodName} {bc : Nat → ByteArray} {cn : Nat → String} {C : String} {Z : State} {a0 : Array Value} {c j q k : Nat} (h4 : q ≠ 4) (h5 : q ≠ 5) (h : LinkOk P nm bc cn C Z a0 c j q k) : CallOk P nm bc cn C Z a0 c j q k := by
  unfold LinkOk at h
  split at h
  · exact absurd rfl h4
  · exact absurd rfl h5
  · exact h
theorem recv_spec {P : Prog} {H : AHeap} {q : Nat} {as : List Value} (h0 : q ≠ 0) (h : recvOk P H q as = true) : ∃ a r fs, as = .ref a :: r ∧ H[a]? = some (.inl fs) := by
  unfold recvOk at h
  split at h
  · exact absurd rfl h0
  · split at h
    · split at h
      · rename_i fs hfs
        exact ⟨_, _, fs, rfl, hfs⟩
      · cases h
    · cases h
theorem retV_spec {P : Prog} {k : Nat} {i : Instr} {S : List Value} {v : Option Value} (h : retV P k i S = some v) :
    (i = .return_ ∧ S = [] ∧ P.ret k = none ∧ v = none) ∨ (∃ x r, i = .ireturn ∧ S = .int x :: r ∧ P.ret k = some .int ∧ v = some (.int x)) ∨ (∃ x r, i = .ireturn ∧ S = .int x :: r ∧ P.ret k = some .boolean ∧ v = some (.int (x &&& 1))) ∨ (∃ x r, i = .lreturn ∧ S = .long x :: r ∧ P.ret k = some .long ∧ v = some (.long x)) := by
  unfold retV at h
  split at h
  · split at h
    · rename_i hr; cases h; exact Or.inl ⟨rfl, rfl, hr, rfl⟩
    · cases h
  · split at h
    · split at h
      · rename_i hr; cases h; exact Or.inr (Or.inl ⟨_, _, rfl, rfl, hr, rfl⟩)
      · rename_i hr; cases h; exact Or.inr (Or.inr (Or.inl ⟨_, _, rfl, rfl, hr, rfl⟩))
      · cases h
    · cases h
  · split at h
    · split at h
      · rename_i hr; cases h; exact Or.inr (Or.inr (Or.inr ⟨_, _, rfl, rfl, hr, rfl⟩))
      · cases h
    · cases h
  · cases h
/-- what a callee's contract says behind it -/
def QC (P : Prog) (C : String) (Z : State) (n0 : Nat) (am : List Addr) (v : Option Value) (H1 : AHeap) (w : Option Value) (h' : Heap) (Lc : List Loc) : Prop := Fr n0 Lc ∧ n0 ≤ h'.size ∧ ∃ am', Pre am am' ∧ HR P C Z n0 am' H1 h' ∧ OVR am' v w
/-- the frame's theorem, for one amount of fuel -/
def SoundAt (P : Prog) (nm : Nat → MethodName) (bc : Nat → ByteArray) (cn : Nat → String) (C : String) (Z : State) (n : Nat) : Prop :=
  ∀ (k pc : Nat) (L : ALoc) (S : List Value) (H : AHeap) (v : Option Value) (H' : AHeap), run P n k pc L S H = some (v, H') →
  ∀ {p : Program} {l : Launch} {e : Env} {R : Room} {s : State} {m : MethodId} {args : Array Value} {below : List Frame} {meth : Method} {c : Code} {T : State} {locs : List Loc} {cells slots n0 : Nat} {am : List Addr} {ls : Array Slot} {st : List Value},
    Stand p l e R s m args below meth c T locs cells slots → p.tables.exec = Jvm.exec → Z.Warmed39 s.vm → c.code = bc k → c.maxLocals = P.maxL k → meth.sig.returnType = P.ret k → s.vm.findClass (cn (P.cls k)) = some m.cls → (P.ini k = true → meth.name = "<init>" ∧ cn (P.cls k) = C) →
    P.rf k ≤ R.frames → P.rl k ≤ R.locals → cells + (H'.length - H.length) ≤ R.cells → slots + (hsz P H' - hsz P H) ≤ R.slots → ls.size = P.maxL k → LR am L ls → SR am S st → HR P C Z n0 am H T.heap → Fr n0 locs → n0 ≤ T.heap.size →
    ∃ T' am' locs' w, Stand p l e R s m args below meth c T' locs' (cells + (H'.length - H.length)) (slots + (hsz P H' - hsz P H)) ∧ HR P C Z n0 am' H' T'.heap ∧ Pre am am' ∧ Fr n0 locs' ∧ OVR am' v w ∧ n0 ≤ T'.heap.size ∧ (P.ret k = none → w = none) ∧
      ∀ fs, (∀ (f : JFrame) (acts : List Action), f.method = m → f.locked = none → f.entered = [] → (doReturn e (T'.setTop f) acts w).1 = T'.setFrames fs) → Steps p.tables e below (T.setTop (mkF m pc ls st)) (T'.setFrames fs)
section Met
variable {P : Prog} {nm : Nat → MethodName} {bc : Nat → ByteArray} {cn : Nat → String} {C : String} {Z : State} {a0 : Array Value}
theorem metOf {n k : Nat} {as : List Value} {H H1 : AHeap} {v : Option Value} (IH : SoundAt P nm bc cn C Z n) (hrun : run P n k 0 (entry P k as) [] H = some (v, H1)) {l : Launch} {wsC : List Cond} {rm : Room} (hpl : plainName (nm k).cls = true) (hcls : (nm k).cls = cn (P.cls k)) (hini : P.ini k = true → (nm k).name = "<init>" ∧ (nm k).cls = C)
    (hrf : P.rf k ≤ rm.frames) (hrl : P.rl k ≤ rm.locals) (hrc : H1.length - H.length ≤ rm.cells) (hrs : hsz P H1 - hsz P H ≤ rm.slots) {am : List Addr} {ws : List Value} {h : Heap} {n0 : Nat} (hS : SR am as ws) (hE : (entL as).length ≤ P.maxL k) (hH : HR P C Z n0 am H h) (hn : n0 ≤ h.size) :
    MetFree l (nm k) (head1 (Cond.code (nm k) (bc k) (P.maxL k) (P.ret k) :: wsC) rm) (fun a U => a = ws.toArray ∧ Z.Warmed39 U.vm ∧ U.heap = h) (fun _ _ _ _ _ => True)
      (fun _ U o U' => ∃ w Lc, o = .returned w ∧ QC P C Z n0 am v H1 w U'.heap Lc ∧ FrameEnd U o U' Lc (H1.length - H.length) (hsz P H1 - hsz P H)) := by
  refine MetFree.of_bodySF (plainFor_of_name hpl) hisR ?_
  intro p e s m args below meth c s₁ Bd hml0 hP hK
  obtain ⟨rfl, hZ, hh⟩ := hP
  have hown : s.vm.findClass (nm k).cls = some m.cls := findClass_of_methodNamed Bd.named
  have hnm := (name_of_methodNamed Bd.named Bd.method).1
  have X0 : Stand p l e rm s m ws.toArray below meth c s₁ [] 0 0 := Stand.of_body Bd
  have e0 : s₁.heap = h := by rw [← hh, Bd.state]; rfl
  have hsl := (slotsL_ok hS).1
  obtain ⟨T', am', locs', w, X', h1, h2, h3, h4, h5, h6, h7⟩ := IH k 0 _ _ _ _ _ hrun X0 Bd.exec hZ Bd.bytes hml0 Bd.returns (by rw [← hcls]; exact hown) (fun q => ⟨by rw [hnm]; exact (hini q).1, by rw [← hcls]; exact (hini q).2⟩) hrf hrl (by omega) (by omega) (entry_size (ws := ws) (n := P.maxL k) (by omega)) (LR.entry hS hE) (st := []) rfl (by rw [e0]; exact hH) (Fr.nil n0) (by rw [e0]; exact hn)
  obtain ⟨fs, hr, hrun', hended, hW, hsame⟩ := X'.leave (v := w) (fun q => h6 (by rw [← Bd.returns]; exact q))
  exact ⟨_, _, h7 fs hr, hrun', hended, w, locs', rfl, ⟨h3, h5, am', h2, h1, h4⟩, ⟨_, rfl⟩, hW, hsame.mono (by omega) (by omega)⟩
variable {p : Program} {l : Launch} {e : Env} {R : Room} {s : State} {m : MethodId} {args : Array Value} {below : List Frame} {meth : Method} {c : Code} {T : State} {locs : List Loc} {cells slots n0 : Nat}
theorem call_sound (G : Good P nm bc cn C Z a0) {n k k' pc np : Nat} {i : Instr} {S as rest : List Value} {H H1 : AHeap} {v : Option Value} (IH : SoundAt P nm bc cn C Z n) (hcode : P.code k pc = some (i, np)) (hcall : callV P k i S H = some (k', as, rest)) (hrun : run P n k' 0 (entry P k' as) [] H = some (v, H1))
    (X : Stand p l e R s m args below meth c T locs cells slots) (hx : p.tables.exec = Jvm.exec) (hZ : Z.Warmed39 s.vm) (hby : c.code = bc k) (hml : c.maxLocals = P.maxL k) (hown : s.vm.findClass (cn (P.cls k)) = some m.cls)
    (hrf : P.rf k ≤ R.frames) (hrl : P.rl k ≤ R.locals) (hcells : cells + (H1.length - H.length) ≤ R.cells) (hslots : slots + (hsz P H1 - hsz P H) ≤ R.slots) {am : List Addr} {ls : Array Slot} {st : List Value} (hlz : ls.size = P.maxL k) (hS : SR am S st) (hH : HR P C Z n0 am H T.heap) (hn : n0 ≤ T.heap.size) :
    ∃ T2 w Lc z, np = pc + 3 ∧ Stand p l e R s m args below meth c T2 (locs ++ Lc) (cells + (H1.length - H.length)) (slots + (hsz P H1 - hsz P H)) ∧ QC P C Z n0 am v H1 w T2.heap Lc ∧ SR am rest z ∧
      ∀ target, Steps p.tables e below (T2.setTop (mkF m (pc + 3) ls (w.toList ++ z))) target → Steps p.tables e below (T.setTop (mkF m pc ls st)) target := by
  obtain ⟨j, q, hj, hk, hkind, rfl, hlen, c3, c4, c5, c6⟩ := callV_spec hcall
  obtain ⟨G1, -, -, -, -, G6, -, -, G9⟩ := G
  obtain ⟨len, hdec, rfl, hlen'⟩ := G1 _ _ _ _ hcode
  have hd : decode c.code pc = .ok (i, len) := by rw [hby]; exact hdec
  obtain ⟨y, z, rfl, hy, hz⟩ := SR.app _ _ hS rfl
  have hws : SR am as y.reverse := by have := hy.rev; rwa [List.reverse_reverse] at this
  have hcz := hz.cats
  have lk := G9 _ _ _ _ hk
  have hq4 : q ≠ 4 := fun q4 => by subst q4; cases i <;> simp [kindOk] at hkind
  have hq5 : q ≠ 5 := fun q5 => by subst q5; cases i <;> simp [kindOk] at hkind
  have lk' : CallOk P nm bc cn C Z a0 (P.cls k) j q k' := linkOk_call hq4 hq5 lk
  obtain ⟨w1, w2, w3, ⟨ps, r, w4, w5⟩, w6, w7, w8, w9, w10⟩ := lk'
  have hM := metOf IH hrun (l := l) (wsC := []) (rm := ({ frames := P.rf k', cells := H1.length - H.length, slots := hsz P H1 - hsz P H, locals := P.rl k' } : Room)) w6 w8 w9 (Nat.le_refl _) (Nat.le_refl _) (Nat.le_refl _) (Nat.le_refl _) hws c6 hH hn
  have hB := backOf (R := R) (p := p) (e := e) (below := below) (args := args) (s := s) (len := 3) (W := cats rest) hM hZ w2 w3 (by show P.rf k' + 1 ≤ _; omega) (by show cats rest + (P.maxL k' + 11) + P.rl k' ≤ _; omega)
  have hyl : y.reverse.length = as.length := hws.len
  have recv : q ≠ 0 → ∃ a r' b ws', as = .ref a :: r' ∧ y.reverse = .ref b :: ws' ∧ Exa Z T.heap b C := fun h0 => by
    obtain ⟨a, r', fs, rfl, hfs⟩ := recv_spec h0 c5
    obtain ⟨_, ws', e1, ⟨b, hb, rfl⟩, -⟩ := hws
    obtain ⟨b', f1, f2, -⟩ := hH.2.2.2 _ _ hfs
    cases hb.symm.trans f1
    exact ⟨a, r', b, ws', rfl, e1, f2⟩
  cases i <;> simp only [poolOf, Option.some.injEq, reduceCtorEq] at hj
  case invokestatic j' =>
    subst hj
    obtain rfl : len = 3 := hlen'.resolve_left (by simp [ilen])
    obtain rfl : q = 0 := by
      match q, hkind with
      | 0, _ => rfl
    obtain ⟨w, _, ⟨T2, L2, k2, n2⟩, -, X2, ⟨Lc, hQ, l1, l2, l3⟩, st2⟩ := Jvm.LawKit.callS X hx (y := nm k') hown (mvT hZ w1) (mvT hZ w10) (mvT hZ w3) (mvT hZ w2) w7 hB (g := mkF m pc ls (y ++ z)) rfl (by rw [hml]; exact hlz) (argsL := y.reverse) (rest := z) (lenOf w4 (by rw [hyl, hlen, w5]; rfl)) (by simp) (by rw [hcz]; show 2 * 0 + _ ≤ _; omega) hd (fun _ _ => ⟨rfl, rfl, hcells, hslots⟩)
    dsimp only [Pt.U, Pt.locs, Pt.cells, Pt.slots] at X2 l1 l2 l3 st2 hQ
    subst l1 l2 l3
    exact ⟨T2, w, Lc, z, rfl, X2, hQ, hz, st2⟩
  case invokespecial j' =>
    subst hj
    obtain rfl : len = 3 := hlen'.resolve_left (by simp [ilen])
    obtain rfl : q = 1 := by
      match q, hkind with
      | 1, _ => rfl
    obtain ⟨a, r', b, ws', ea, ey, hEx⟩ := recv (by decide)
    obtain ⟨w11, w12, w13⟩ := w10
    have ey' : y = ws'.reverse ++ [.ref b] := by rw [← List.reverse_reverse y, ey]; simp
    rw [ey] at hB
    have hl : ws'.length = ps.length := by rw [ey, hlen, w5] at hyl; simpa [rcv] using hyl
    obtain ⟨w, _, ⟨T2, L2, k2, n2⟩, -, X2, ⟨Lc, hQ, l1, l2, l3⟩, st2⟩ := X.specialBack hx (y := nm k') w11 hown (mvT hZ w1) (mvT hZ w12) (bytes := bc k') (maxL := P.maxL k') (mvT hZ (by rw [w13] at w2; exact w2)) w7 hB (g := mkF m pc ls (y ++ z)) rfl (by rw [hml]; exact hlz) (Steps.refl _) (a := b) (argsL := ws') (rest := z) (lenOf w4 hl) (by rw [ey']; simp) (by rw [hcz]; show 2 * 0 + _ ≤ _; omega) hd (fun _ _ => ⟨rfl, rfl, hcells, hslots⟩)
    dsimp only [Pt.U, Pt.locs, Pt.cells, Pt.slots] at X2 l1 l2 l3 st2 hQ
    subst l1 l2 l3
    exact ⟨T2, w, Lc, z, rfl, X2, hQ, hz, fun target hr => st2.trans hr⟩
  case invokevirtual j' =>
    subst hj
    obtain rfl : len = 3 := hlen'.resolve_left (by simp [ilen])
    have hq : q = 2 ∨ q = 3 := by
      match q, hkind with
      | 2, _ => exact Or.inl rfl
      | 3, _ => exact Or.inr rfl
    obtain ⟨a, r', b, ws', ea, ey, hEx⟩ := recv (by omega)
    have ey' : y = ws'.reverse ++ [.ref b] := by rw [← List.reverse_reverse y, ey]; simp
    rw [ey] at hB
    rcases hq with rfl | rfl
    · obtain ⟨w11, w12, w13⟩ := w10
      have hl : ws'.length = ps.length := by rw [ey, hlen, w5] at hyl; simpa [rcv] using hyl
      obtain ⟨cq, kq, qa, qb, qc⟩ := isOf hZ rfl hEx
      obtain ⟨w, _, ⟨T2, L2, k2, n2⟩, -, X2, ⟨Lc, hQ, l1, l2, l3⟩, st2⟩ := X.virtualBack hx (y := nm k') (z := nm k') hown (mvT hZ w1) (mvT hZ w11) (notFace_of_selects (args := #[]) (mvT hZ w13)) (mvT hZ w13) (mvT hZ w12) w7 hB qa qc (g := mkF m pc ls (y ++ z)) rfl (by rw [hml]; exact hlz) (Steps.refl _) (argsL := ws') (rest := z) (lenOf w4 hl) (by rw [ey']; simp) (by rw [hcz]; show 2 * 0 + _ ≤ _; omega) hd (fun _ _ => ⟨rfl, rfl, hcells, hslots⟩)
      dsimp only [Pt.U, Pt.locs, Pt.cells, Pt.slots] at X2 l1 l2 l3 st2 hQ
      subst l1 l2 l3
      exact ⟨T2, w, Lc, z, rfl, X2, hQ, hz, fun target hr => st2.trans hr⟩
    · obtain ⟨w11, w12, w13⟩ := w10
      have hl : ws'.length = ps.length := by rw [ey, hlen, w5] at hyl; simpa [rcv] using hyl
      obtain ⟨cq, q1, q2⟩ := hEx.cell
      obtain ⟨cC, kC, i1, i2, i3, i4, -⟩ := Cond.instantiable_spec (mvT hZ G6 : (Cond.instantiable C P.objN).before #[] s = true)
      have hpriv : s.PrivateAt (nm k') := Cond.privateMethod_at (mvP hZ w13 (args := #[]))
      have hsel : (Cond.selects (nm k').cls (nm k') (nm k')).before args s = true := selects_self_of_private (by rw [w11]; exact i1) i2 (by simpa using (Bool.or_eq_false_iff.mp i4).1) hpriv (mvT hZ w12) w7
      obtain ⟨w, _, ⟨T2, L2, k2, n2⟩, -, X2, ⟨Lc, hQ, l1, l2, l3⟩, st2⟩ := X.privateBack hx (y := nm k') hown (mvT hZ w1) (mvT hZ w12) hsel hpriv (mvT hZ w2) w7 hB (g := mkF m pc ls (y ++ z)) rfl (by rw [hml]; exact hlz) (Steps.refl _) (a := b) q1 q2 (argsL := ws') (rest := z) (lenOf w4 hl) (by rw [ey']; simp) (by rw [hcz]; show 2 * 0 + _ ≤ _; omega) hd (fun _ _ => ⟨rfl, rfl, hcells, hslots⟩)
      dsimp only [Pt.U, Pt.locs, Pt.cells, Pt.slots] at X2 l1 l2 l3 st2 hQ
      subst l1 l2 l3
      exact ⟨T2, w, Lc, z, rfl, X2, hQ, hz, fun target hr => st2.trans hr⟩
theorem ret_sound (G : Good P nm bc cn C Z a0) {k pc np : Nat} {i : Instr} {S : List Value} {v : Option Value} (hcode : P.code k pc = some (i, np)) (h : retV P k i S = some v)
    (X : Stand p l e R s m args below meth c T locs cells slots) (hx : p.tables.exec = Jvm.exec) (hby : c.code = bc k) (hret : meth.sig.returnType = P.ret k) {am : List Addr} {ls : Array Slot} {st : List Value} (hS : SR am S st) :
    ∃ w, OVR am v w ∧ (P.ret k = none → w = none) ∧ ∀ fs, (∀ (f : JFrame) (acts : List Action), f.method = m → f.locked = none → f.entered = [] → (doReturn e (T.setTop f) acts w).1 = T.setFrames fs) → Steps p.tables e below (T.setTop (mkF m pc ls st)) (T.setFrames fs) := by
  obtain ⟨G1, -⟩ := G
  obtain ⟨len, hdec, rfl, hlen⟩ := G1 _ _ _ _ hcode
  have hd : decode c.code pc = .ok (i, len) := by rw [hby]; exact hdec
  rcases retV_spec h with ⟨rfl, rfl, hr, rfl⟩ | ⟨x, r, rfl, rfl, hr, rfl⟩ | ⟨x, r, rfl, rfl, hr, rfl⟩ | ⟨x, r, rfl, rfl, hr, rfl⟩
  · obtain rfl : len = 1 := hlen.resolve_left (by simp [ilen])
    cases hS
    exact ⟨none, rfl, fun _ => rfl, fun fs hl => X.returnOut hx (hret.trans hr) hd hl⟩
  · obtain rfl : len = 1 := hlen.resolve_left (by simp [ilen])
    obtain ⟨_, _, rfl, rfl, hr'⟩ := hS
    exact ⟨some (.int x), ⟨_, rfl, rfl⟩, (fun q => by rw [hr] at q; cases q), fun fs hl => retOut X hx (hret.trans hr) rfl (Or.inl ⟨rfl, Or.inl rfl, x, rfl⟩) hd hl⟩
  · obtain rfl : len = 1 := hlen.resolve_left (by simp [ilen])
    obtain ⟨_, _, rfl, rfl, hr'⟩ := hS
    exact ⟨some (.int (x &&& 1)), ⟨_, rfl, rfl⟩, (fun q => by rw [hr] at q; cases q), fun fs hl => retN X hx (hret.trans hr) (Or.inl rfl) hd hl⟩
  · obtain rfl : len = 1 := hlen.resolve_left (by simp [ilen])
    obtain ⟨_, _, rfl, rfl, hr'⟩ := hS
    exact ⟨some (.long x), ⟨_, rfl, rfl⟩, (fun q => by rw [hr] at q; cases q), fun fs hl => retOut X hx (hret.trans hr) rfl (Or.inr (Or.inl ⟨rfl, rfl, x, rfl⟩)) hd hl⟩
theorem SR.opt {am : List Addr} {v w : Option Value} {S st : List Value} (h : OVR am v w) (hS : SR am S st) : SR am (v.toList ++ S) (w.toList ++ st) := by
  cases v with
  | none => cases h; exact hS
  | some x => obtain ⟨y, rfl, h1⟩ := h; exact ⟨y, st, rfl, h1, hS⟩
theorem sound (G : Good P nm bc cn C Z a0) : ∀ n, SoundAt P nm bc cn C Z n
  | 0 => fun k pc L S H v H' h => by simp [run] at h
  | n + 1 => fun k pc L S H v H' h => by
    have IH := sound G n
    intro p l e R s m args below meth c T locs cells slots n0 am ls st X hx hZ hby hml hret hown hini hrf hrl hcells hslots hlz hL hS hH hF hn
    rw [run] at h
    split at h
    · cases h
    · rename_i i np hcode
      split at h
      · rename_i v' hv
        cases h
        obtain ⟨w, h1, h2, h3⟩ := ret_sound G hcode hv X hx hby hret (ls := ls) hS
        exact ⟨T, am, locs, w, by simpa using X, hH, Pre.refl _, hF, h1, hn, h2, h3⟩
      · split at h
        · rename_i k' as rest hcall
          split at h
          · rename_i v1 H1 hr1
            have g1 := run_grow hr1
            have g2 := run_grow h
            obtain ⟨T2, w, Lc, z, rfl, X2, ⟨q1, q2, am2, q3, q4, q5⟩, hz, st2⟩ := call_sound G IH hcode hcall hr1 X hx hZ hby hml hown hrf hrl (by omega) (by omega) (ls := ls) hlz hS hH hn
            obtain ⟨T', am', locs', w', X', f1, f2, f3, f4, f5, f6, f7⟩ := IH k _ _ _ _ _ _ h X2 hx hZ hby hml hret hown hini hrf hrl (by omega) (by omega) hlz (hL.mono q3) (SR.opt q5 (hz.mono q3)) q4 (Fr.app hF q1) q2
            refine ⟨T', am', locs', w', ?_, f1, q3.trans f2, f3, f4, f5, f6, fun fs hl => st2 _ (f7 fs hl)⟩
            have a1 : cells + (H1.length - H.length) + (H'.length - H1.length) = cells + (H'.length - H.length) := by omega
            have a2 : slots + (hsz P H1 - hsz P H) + (hsz P H' - hsz P H1) = slots + (hsz P H' - hsz P H) := by omega
            rw [a1, a2] at X'; exact X'
          · cases h
        · split at h
          · rename_i pc1 L1 S1 H1 hs1
            have g1 := step_grow hs1
            have g2 := run_grow h
            obtain ⟨T2, am2, ls2, st2, locs2, X2, b1, b2, b3, b4, b5, b6, b7, b8⟩ := step_sound G hcode hs1 X hx hZ hby hml hown hini hrf hrl (by omega) (by omega) hlz hL hS hH hF hn
            obtain ⟨T', am', locs', w', X', f1, f2, f3, f4, f5, f6, f7⟩ := IH k _ _ _ _ _ _ h X2 hx hZ hby hml hret hown hini hrf hrl (by omega) (by omega) (b2.trans hlz) b1 b3 b4 b6 b7
            refine ⟨T', am', locs', w', ?_, f1, b5.trans f2, f3, f4, f5, f6, fun fs hl => b8 _ (f7 fs hl)⟩
            have a1 : cells + (H1.length - H.length) + (H'.length - H1.length) = cells + (H'.length - H.length) := by omega
            have a2 : slots + (hsz P H1 - hsz P H) + (hsz P H' - hsz P H1) = slots + (hsz P H' - hsz P H) := by omega
            rw [a1, a2] at X'; exact X'
          · cases h
end Met
end Jvm.OwnX
namespace Jvm.OwnX
open Sem ClassFile Op Lib Jvm.Stand Jvm.Free Jvm.LawKit Jvm.RoadKit
theorem run_succ {P : Prog} : ∀ (n : Nat) {k pc : Nat} {L : ALoc} {S : List Value} {H : AHeap} {out : Option Value × AHeap}, run P n k pc L S H = some out → run P (n + 1) k pc L S H = some out
  | 0, k, pc, L, S, H, out, h => by simp [run] at h
  | n + 1, k, pc, L, S, H, out, h => by
    rw [run] at h
    rw [run]
    split at h
    · cases h
    · rename_i i np hc
      try simp only [hc]
      split at h
      · rename_i v hv
        try simp only [hv]
        exact h
      · rename_i hv
        try simp only [hv]
        split at h
        · rename_i k' as rest hcall
          try simp only [hcall]
          split at h
          · rename_i v1 H1 h1
            rw [run_succ n h1]; exact run_succ n h
          · cases h
        · rename_i hcall
          try simp only [hcall]
          split at h
          · rename_i pc1 L1 S1 H1 h1
            try simp only [h1]
            exact run_succ n h
          · cases h
theorem run_le {P : Prog} {n m k pc : Nat} {L : ALoc} {S : List Value} {H : AHeap} {out : Option Value × AHeap} (hm : n ≤ m) (h : run P n k pc L S H = some out) : run P m k pc L S H = some out := by
  induction hm with
  | refl => exact h
  | step _ ih => exact run_succ _ ih
section Rules
variable {P : Prog} {k pc np : Nat} {L L' : ALoc} {S r : List Value} {H : AHeap} {out : Option Value × AHeap}
theorem Eval.of_step {i : Instr} {pc' : Nat} {S' : List Value} {H' : AHeap} (hc : P.code k pc = some (i, np)) (h1 : retV P k i S = none) (h2 : callV P k i S H = none) (h3 : step P k i np pc L S H = some (pc', L', S', H')) (h : Eval P k pc' L' S' H' out) : Eval P k pc L S H out := by
  obtain ⟨n, h⟩ := h
  exact ⟨n + 1, by rw [run]; simp only [hc, h1, h2, h3]; exact h⟩
theorem Eval.call {i : Instr} {k' : Nat} {as rest : List Value} {v : Option Value} {H1 : AHeap} (hc : P.code k pc = some (i, np)) (h2 : callV P k i S H = some (k', as, rest)) (he : Eval P k' 0 (entry P k' as) [] H (v, H1)) (h : Eval P k np L (v.toList ++ rest) H1 out) : Eval P k pc L S H out := by
  obtain ⟨n, he⟩ := he
  obtain ⟨m, h⟩ := h
  have h1 : retV P k i S = none := by
    unfold callV at h2
    cases i <;> simp only [poolOf, reduceCtorEq] at h2 <;> rfl
  exact ⟨n + m + 1, by rw [run]; simp only [hc, h1, h2]; rw [run_le (Nat.le_add_right n m) he]; exact run_le (Nat.le_add_left m n) h⟩
theorem Eval.ret {i : Instr} {v : Option Value} (hc : P.code k pc = some (i, np)) (h1 : retV P k i S = some v) : Eval P k pc L S H (v, H) := ⟨1, by rw [run]; simp only [hc, h1]⟩
theorem Eval.eq {out' : Option Value × AHeap} (h : Eval P k pc L S H out') (e : out' = out) : Eval P k pc L S H out := e ▸ h
theorem Eval.iload_n {n : Fin 4} {x : Int32} (hc : P.code k pc = some (.iload_n n, np)) (hl : loadI L n.val = some x) (h : Eval P k np L (.int x :: S) H out) : Eval P k pc L S H out := Eval.of_step hc rfl rfl (by simp only [step, hl]) h
theorem Eval.iload {n : Nat} {x : Int32} (hc : P.code k pc = some (.iload n, np)) (hl : loadI L n = some x) (h : Eval P k np L (.int x :: S) H out) : Eval P k pc L S H out := Eval.of_step hc rfl rfl (by simp only [step, hl]) h
theorem Eval.lload_n {n : Fin 4} {x : Int64} (hc : P.code k pc = some (.lload_n n, np)) (hl : loadJ L n.val = some x) (h : Eval P k np L (.long x :: S) H out) : Eval P k pc L S H out := Eval.of_step hc rfl rfl (by simp only [step, hl]) h
theorem Eval.lload {n : Nat} {x : Int64} (hc : P.code k pc = some (.lload n, np)) (hl : loadJ L n = some x) (h : Eval P k np L (.long x :: S) H out) : Eval P k pc L S H out := Eval.of_step hc rfl rfl (by simp only [step, hl]) h
theorem Eval.aload_n {n : Fin 4} {x : Nat} (hc : P.code k pc = some (.aload_n n, np)) (hl : loadA L n.val = some x) (h : Eval P k np L (.ref x :: S) H out) : Eval P k pc L S H out := Eval.of_step hc rfl rfl (by simp only [step, hl]) h
theorem Eval.aload {n x : Nat} (hc : P.code k pc = some (.aload n, np)) (hl : loadA L n = some x) (h : Eval P k np L (.ref x :: S) H out) : Eval P k pc L S H out := Eval.of_step hc rfl rfl (by simp only [step, hl]) h
theorem Eval.istore_n {n : Fin 4} {x : Int32} (hc : P.code k pc = some (.istore_n n, np)) (hl : lput L n.val (.int x) = some L') (h : Eval P k np L' r H out) : Eval P k pc L (.int x :: r) H out := Eval.of_step hc rfl rfl (by simp only [step, hl]) h
theorem Eval.istore {n : Nat} {x : Int32} (hc : P.code k pc = some (.istore n, np)) (hl : lput L n (.int x) = some L') (h : Eval P k np L' r H out) : Eval P k pc L (.int x :: r) H out := Eval.of_step hc rfl rfl (by simp only [step, hl]) h
theorem Eval.astore_n {n : Fin 4} {x : Nat} (hc : P.code k pc = some (.astore_n n, np)) (hl : lput L n.val (.ref x) = some L') (h : Eval P k np L' r H out) : Eval P k pc L (.ref x :: r) H out := Eval.of_step hc rfl rfl (by simp only [step, hl]) h
theorem Eval.astore {n x : Nat} (hc : P.code k pc = some (.astore n, np)) (hl : lput L n (.ref x) = some L') (h : Eval P k np L' r H out) : Eval P k pc L (.ref x :: r) H out := Eval.of_step hc rfl rfl (by simp only [step, hl]) h
theorem Eval.lstore_n {n : Fin 4} {x : Int64} (hc : P.code k pc = some (.lstore_n n, np)) (hl : lputL L n.val x = some L') (h : Eval P k np L' r H out) : Eval P k pc L (.long x :: r) H out := Eval.of_step hc rfl rfl (by simp only [step, hl]) h
theorem Eval.lstore {n : Nat} {x : Int64} (hc : P.code k pc = some (.lstore n, np)) (hl : lputL L n x = some L') (h : Eval P k np L' r H out) : Eval P k pc L (.long x :: r) H out := Eval.of_step hc rfl rfl (by simp only [step, hl]) h
theorem Eval.iinc {n : Nat} {c : Int} {x : Int32} (hc : P.code k pc = some (.iinc n c, np)) (hl : loadI L n = some x) (hp : lput L n (.int (x + Int32.ofInt c)) = some L') (h : Eval P k np L' S H out) : Eval P k pc L S H out := Eval.of_step hc rfl rfl (by simp only [step, hl, hp]) h
theorem Eval.iconst {c : Int} {x : Int32} (hc : P.code k pc = some (.iconst c, np)) (hx : Int32.ofInt c = x) (h : Eval P k np L (.int x :: S) H out) : Eval P k pc L S H out := Eval.of_step hc rfl rfl (by subst hx; rfl) h
theorem Eval.bipush {c : Int} {x : Int32} (hc : P.code k pc = some (.bipush c, np)) (hx : (Int8.ofInt c).toInt32 = x) (h : Eval P k np L (.int x :: S) H out) : Eval P k pc L S H out := Eval.of_step hc rfl rfl (by subst hx; rfl) h
theorem Eval.sipush {c : Int} {x : Int32} (hc : P.code k pc = some (.sipush c, np)) (hx : (Int16.ofInt c).toInt32 = x) (h : Eval P k np L (.int x :: S) H out) : Eval P k pc L S H out := Eval.of_step hc rfl rfl (by subst hx; rfl) h
theorem Eval.lconst {c : Fin 2} {x : Int64} (hc : P.code k pc = some (.lconst c, np)) (hx : Int64.ofNat c = x) (h : Eval P k np L (.long x :: S) H out) : Eval P k pc L S H out := Eval.of_step hc rfl rfl (by subst hx; rfl) h
theorem Eval.ldc {j : Nat} {x : Int32} (hc : P.code k pc = some (.ldc j, np)) (hx : P.kon (P.cls k) j = some (.int x)) (h : Eval P k np L (.int x :: S) H out) : Eval P k pc L S H out := Eval.of_step hc rfl rfl (by simp only [step, hx]) h
theorem Eval.ldc2_w {j : Nat} {x : Int64} (hc : P.code k pc = some (.ldc2_w j, np)) (hx : P.kon (P.cls k) j = some (.long x)) (h : Eval P k np L (.long x :: S) H out) : Eval P k pc L S H out := Eval.of_step hc rfl rfl (by simp only [step, hx]) h
theorem Eval.idiv {x y : Int32} (hc : P.code k pc = some (.idiv, np)) (hy : ¬ y = 0) (h : Eval P k np L (.int (x / y) :: r) H out) : Eval P k pc L (.int y :: .int x :: r) H out := Eval.of_step hc rfl rfl (by simp [step, hy]) h
theorem Eval.irem {x y : Int32} (hc : P.code k pc = some (.irem, np)) (hy : ¬ y = 0) (h : Eval P k np L (.int (x % y) :: r) H out) : Eval P k pc L (.int y :: .int x :: r) H out := Eval.of_step hc rfl rfl (by simp [step, hy]) h
theorem Eval.iadd {x y : Int32} (hc : P.code k pc = some (.iadd, np))  (h : Eval P k np L (.int (x + y) :: r) H out) : Eval P k pc L (.int y :: .int x :: r) H out := Eval.of_step hc rfl rfl (by rfl) h
theorem Eval.isub {x y : Int32} (hc : P.code k pc = some (.isub, np))  (h : Eval P k np L (.int (x - y) :: r) H out) : Eval P k pc L (.int y :: .int x :: r) H out := Eval.of_step hc rfl rfl (by rfl) h
theorem Eval.imul {x y : Int32} (hc : P.code k pc = some (.imul, np))  (h : Eval P k np L (.int (x * y) :: r) H out) : Eval P k pc L (.int y :: .int x :: r) H out := Eval.of_step hc rfl rfl (by rfl) h
theorem Eval.iand {x y : Int32} (hc : P.code k pc = some (.iand, np))  (h : Eval P k np L (.int (x &&& y) :: r) H out) : Eval P k pc L (.int y :: .int x :: r) H out := Eval.of_step hc rfl rfl (by rfl) h
theorem Eval.ior {x y : Int32} (hc : P.code k pc = some (.ior, np))  (h : Eval P k np L (.int (x ||| y) :: r) H out) : Eval P k pc L (.int y :: .int x :: r) H out := Eval.of_step hc rfl rfl (by rfl) h
theorem Eval.ixor {x y : Int32} (hc : P.code k pc = some (.ixor, np))  (h : Eval P k np L (.int (x ^^^ y) :: r) H out) : Eval P k pc L (.int y :: .int x :: r) H out := Eval.of_step hc rfl rfl (by rfl) h
theorem Eval.ishl {x y : Int32} (hc : P.code k pc = some (.ishl, np))  (h : Eval P k np L (.int (ish x y) :: r) H out) : Eval P k pc L (.int y :: .int x :: r) H out := Eval.of_step hc rfl rfl (by rfl) h
theorem Eval.ishr {x y : Int32} (hc : P.code k pc = some (.ishr, np))  (h : Eval P k np L (.int (isr x y) :: r) H out) : Eval P k pc L (.int y :: .int x :: r) H out := Eval.of_step hc rfl rfl (by rfl) h
theorem Eval.iushr {x y : Int32} (hc : P.code k pc = some (.iushr, np))  (h : Eval P k np L (.int (ush x y) :: r) H out) : Eval P k pc L (.int y :: .int x :: r) H out := Eval.of_step hc rfl rfl (by rfl) h
theorem Eval.ladd {x y : Int64} (hc : P.code k pc = some (.ladd, np))  (h : Eval P k np L (.long (x + y) :: r) H out) : Eval P k pc L (.long y :: .long x :: r) H out := Eval.of_step hc rfl rfl (by rfl) h
theorem Eval.lsub {x y : Int64} (hc : P.code k pc = some (.lsub, np))  (h : Eval P k np L (.long (x - y) :: r) H out) : Eval P k pc L (.long y :: .long x :: r) H out := Eval.of_step hc rfl rfl (by rfl) h
theorem Eval.lmul {x y : Int64} (hc : P.code k pc = some (.lmul, np))  (h : Eval P k np L (.long (x * y) :: r) H out) : Eval P k pc L (.long y :: .long x :: r) H out := Eval.of_step hc rfl rfl (by rfl) h
theorem Eval.land {x y : Int64} (hc : P.code k pc = some (.land, np))  (h : Eval P k np L (.long (x &&& y) :: r) H out) : Eval P k pc L (.long y :: .long x :: r) H out := Eval.of_step hc rfl rfl (by rfl) h
theorem Eval.lor {x y : Int64} (hc : P.code k pc = some (.lor, np))  (h : Eval P k np L (.long (x ||| y) :: r) H out) : Eval P k pc L (.long y :: .long x :: r) H out := Eval.of_step hc rfl rfl (by rfl) h
theorem Eval.lxor {x y : Int64} (hc : P.code k pc = some (.lxor, np))  (h : Eval P k np L (.long (x ^^^ y) :: r) H out) : Eval P k pc L (.long y :: .long x :: r) H out := Eval.of_step hc rfl rfl (by rfl) h
theorem Eval.lshl {x : Int64} {y : Int32} (hc : P.code k pc = some (.lshl, np))  (h : Eval P k np L (.long (lsh x y) :: r) H out) : Eval P k pc L (.int y :: .long x :: r) H out := Eval.of_step hc rfl rfl (by rfl) h
theorem Eval.lushr {x : Int64} {y : Int32} (hc : P.code k pc = some (.lushr, np))  (h : Eval P k np L (.long (lus x y) :: r) H out) : Eval P k pc L (.int y :: .long x :: r) H out := Eval.of_step hc rfl rfl (by rfl) h
theorem Eval.lcmp {x y : Int64} (hc : P.code k pc = some (.lcmp, np))  (h : Eval P k np L (.int (lcm x y) :: r) H out) : Eval P k pc L (.long y :: .long x :: r) H out := Eval.of_step hc rfl rfl (by rfl) h
theorem Eval.lneg {x : Int64} (hc : P.code k pc = some (.lneg, np))  (h : Eval P k np L (.long (-x) :: r) H out) : Eval P k pc L (.long x :: r) H out := Eval.of_step hc rfl rfl (by rfl) h
theorem Eval.i2l {x : Int32} (hc : P.code k pc = some (.i2l, np))  (h : Eval P k np L (.long x.toInt64 :: r) H out) : Eval P k pc L (.int x :: r) H out := Eval.of_step hc rfl rfl (by rfl) h
theorem Eval.l2i {x : Int64} (hc : P.code k pc = some (.l2i, np))  (h : Eval P k np L (.int x.toInt32 :: r) H out) : Eval P k pc L (.long x :: r) H out := Eval.of_step hc rfl rfl (by rfl) h
theorem Eval.i2b {x : Int32} (hc : P.code k pc = some (.i2b, np))  (h : Eval P k np L (.int (i8 x) :: r) H out) : Eval P k pc L (.int x :: r) H out := Eval.of_step hc rfl rfl (by rfl) h
theorem Eval.dupR {x : Nat} (hc : P.code k pc = some (.dup, np))  (h : Eval P k np L (.ref x :: .ref x :: r) H out) : Eval P k pc L (.ref x :: r) H out := Eval.of_step hc rfl rfl (by rfl) h
theorem Eval.dupI {x : Int32} (hc : P.code k pc = some (.dup, np))  (h : Eval P k np L (.int x :: .int x :: r) H out) : Eval P k pc L (.int x :: r) H out := Eval.of_step hc rfl rfl (by rfl) h
theorem Eval.dup2 {x : Int32} {y : Nat} (hc : P.code k pc = some (.dup2, np))  (h : Eval P k np L (.int x :: .ref y :: .int x :: .ref y :: r) H out) : Eval P k pc L (.int x :: .ref y :: r) H out := Eval.of_step hc rfl rfl (by rfl) h
theorem Eval.popI {x : Int32} (hc : P.code k pc = some (.pop, np))  (h : Eval P k np L r H out) : Eval P k pc L (.int x :: r) H out := Eval.of_step hc rfl rfl (by rfl) h
theorem Eval.popR {x : Nat} (hc : P.code k pc = some (.pop, np))  (h : Eval P k np L r H out) : Eval P k pc L (.ref x :: r) H out := Eval.of_step hc rfl rfl (by rfl) h
theorem Eval.goto {o : Int} {t : Nat} (hc : P.code k pc = some (.goto o, np)) (ht : tgt pc o = some t) (h : Eval P k t L S H out) : Eval P k pc L S H out := Eval.of_step hc rfl rfl (by simp only [step, ht]) h
theorem Eval.ifT {cd : ClassFile.Cond} {o : Int} {t : Nat} {x : Int32} (hc : P.code k pc = some (.ifCond cd o, np)) (ht : tgt pc o = some t) (hb : if_icmp.holds cd x 0 = true) (h : Eval P k t L r H out) : Eval P k pc L (.int x :: r) H out := Eval.of_step hc rfl rfl (by simp only [step, ht, hb, cond_true]) h
theorem Eval.ifF {cd : ClassFile.Cond} {o : Int} {x : Int32} (hc : P.code k pc = some (.ifCond cd o, np)) (hb : if_icmp.holds cd x 0 = false) (h : Eval P k np L r H out) : Eval P k pc L (.int x :: r) H out := Eval.of_step hc rfl rfl (by simp only [step, hb, cond_false]) h
theorem Eval.icmpT {cd : ClassFile.Cond} {o : Int} {t : Nat} {x y : Int32} (hc : P.code k pc = some (.if_icmp cd o, np)) (ht : tgt pc o = some t) (hb : if_icmp.holds cd x y = true) (h : Eval P k t L r H out) : Eval P k pc L (.int y :: .int x :: r) H out := Eval.of_step hc rfl rfl (by simp only [step, ht, hb, cond_true]) h
theorem Eval.icmpF {cd : ClassFile.Cond} {o : Int} {x y : Int32} (hc : P.code k pc = some (.if_icmp cd o, np)) (hb : if_icmp.holds cd x y = false) (h : Eval P k np L r H out) : Eval P k pc L (.int y :: .int x :: r) H out := Eval.of_step hc rfl rfl (by simp only [step, hb, cond_false]) h
theorem Eval.tswIn {d lo hi o : Int} {offs : Array Int} {t : Nat} {x : Int32} (hc : P.code k pc = some (.tableswitch d lo hi offs, np)) (h1 : (decide (x.toInt < lo) || decide (x.toInt > hi)) = false) (h2 : offs.toList[(x.toInt - lo).toNat]? = some o) (ht : tgt pc o = some t) (h : Eval P k t L r H out) : Eval P k pc L (.int x :: r) H out := Eval.of_step hc rfl rfl (by simp only [step, h1, h2, ht, cond_false]) h
theorem Eval.tswOut {d lo hi : Int} {offs : Array Int} {t : Nat} {x : Int32} (hc : P.code k pc = some (.tableswitch d lo hi offs, np)) (h1 : (decide (x.toInt < lo) || decide (x.toInt > hi)) = true) (ht : tgt pc d = some t) (h : Eval P k t L r H out) : Eval P k pc L (.int x :: r) H out := Eval.of_step hc rfl rfl (by simp only [step, h1, ht, cond_true]) h
theorem Eval.getfield {j f a : Nat} {v : Value} (hc : P.code k pc = some (.getfield j, np)) (hf : P.fld (P.cls k) j = some f) (hg : getC H a f = some v) (h : Eval P k np L (v :: r) H out) : Eval P k pc L (.ref a :: r) H out := Eval.of_step hc rfl rfl (by simp only [step, hf, hg]) h
/-- the heap with a field written -/
def putC (P : Prog) (k : Nat) (H : AHeap) (a f : Nat) (v : Value) : Option AHeap := match P.fields[f]? with
  | some (_, _, t, fin) => (bif (!fin || P.ini k) && Nat.ble P.ro a then (match conv t v with
    | some v' => (match H[a]? with
      | some (.inl fs) => (bif Nat.ble (f + 1) fs.length then some (H.set a (.inl (fs.set f v'))) else none)
      | _ => none)
    | none => none) else none)
  | none => none
theorem putC_spec {P : Prog} {k a f : Nat} {v : Value} {H H1 : AHeap} (hp : putC P k H a f v = some H1) : ∃ n d t fin v' fs, P.fields[f]? = some (n, d, t, fin) ∧ ((!fin || P.ini k) && Nat.ble P.ro a) = true ∧ conv t v = some v' ∧ H[a]? = some (.inl fs) ∧ Nat.ble (f + 1) fs.length = true ∧ H1 = H.set a (.inl (fs.set f v')) := by
  unfold putC at hp
  simp only [Bool.cond_eq_ite] at hp
  split at hp
  · rename_i n d t fin hq
    split at hp
    · rename_i hc
      split at hp
      · rename_i v' hv
        split at hp
        · rename_i fs hfs
          split at hp
          · rename_i hz
            cases hp; exact ⟨n, d, t, fin, v', fs, hq, hc, hv, hfs, hz, rfl⟩
          · cases hp
        · cases hp
      · cases hp
    · cases hp
  · cases hp
theorem step_put {j f a : Nat} {v : Value} {H1 : AHeap} (hf : P.fld (P.cls k) j = some f) (hp : putC P k H a f v = some H1) : step P k (.putfield j) np pc L (v :: .ref a :: r) H = some (np, L, r, H1) := by
  obtain ⟨n, d, t, fin, v', fs, h1, h2, h3, h4, h5, rfl⟩ := putC_spec hp
  simp only [step, hf, h1, h2, h3, h4, h5, cond_true]
theorem Eval.putfield {j f a : Nat} {v : Value} {H1 : AHeap} (hc : P.code k pc = some (.putfield j, np)) (hf : P.fld (P.cls k) j = some f) (hp : putC P k H a f v = some H1) (h : Eval P k np L r H1 out) : Eval P k pc L (v :: .ref a :: r) H out := Eval.of_step hc rfl rfl (step_put hf hp) h
theorem Eval.iaload0 {a : Nat} {j : Int32} {xs : List Int32} (hc : P.code k pc = some (.iaload, np)) (ha : H[a]? = some (.inr (.inl (0, xs)))) (hj : inb xs.length j = true) (h : Eval P k np L (.int (rd xs j) :: r) H out) : Eval P k pc L (.int j :: .ref a :: r) H out := Eval.of_step hc rfl rfl (by simp only [step, ha, hj, cond_true]) h
theorem Eval.iaload {a : Nat} {j : Int32} {xs : List Int32} (hc : P.code k pc = some (.iaload, np)) (ha : H[a]? = some (.inr (.inl (1, xs)))) (hj : inb xs.length j = true) (h : Eval P k np L (.int (rd xs j) :: r) H out) : Eval P k pc L (.int j :: .ref a :: r) H out := Eval.of_step hc rfl rfl (by simp only [step, ha, hj, cond_true]) h
theorem Eval.baloadZ {a : Nat} {j : Int32} {xs : List Int32} (hc : P.code k pc = some (.baload, np)) (ha : H[a]? = some (.inr (.inl (2, xs)))) (hj : inb xs.length j = true) (h : Eval P k np L (.int (rd xs j) :: r) H out) : Eval P k pc L (.int j :: .ref a :: r) H out := Eval.of_step hc rfl rfl (by simp only [step, ha, hj, cond_true]) h
theorem Eval.baloadB {a : Nat} {j : Int32} {xs : List Int32} (hc : P.code k pc = some (.baload, np)) (ha : H[a]? = some (.inr (.inl (3, xs)))) (hj : inb xs.length j = true) (h : Eval P k np L (.int (rd xs j) :: r) H out) : Eval P k pc L (.int j :: .ref a :: r) H out := Eval.of_step hc rfl rfl (by simp only [step, ha, hj, cond_true]) h
theorem Eval.laload {a : Nat} {j : Int32} {xs : List Int64} (hc : P.code k pc = some (.laload, np)) (ha : H[a]? = some (.inr (.inr xs))) (hj : inb xs.length j = true) (h : Eval P k np L (.long (rdL xs j) :: r) H out) : Eval P k pc L (.int j :: .ref a :: r) H out := Eval.of_step hc rfl rfl (by simp only [step, ha, hj, cond_true]) h
theorem Eval.iastore {a : Nat} {j x : Int32} {xs : List Int32} {H1 : AHeap} (hc : P.code k pc = some (.iastore, np)) (hro : Nat.ble P.ro a = true) (ha : H[a]? = some (.inr (.inl (1, xs)))) (hj : inb xs.length j = true) (hH : H.set a (.inr (.inl (1, wr xs j x))) = H1) (h : Eval P k np L r H1 out) : Eval P k pc L (.int x :: .int j :: .ref a :: r) H out := Eval.of_step hc rfl rfl (by subst hH; simp only [step, hro, ha, hj, cond_true]; try rfl) h
theorem Eval.bastoreZ {a : Nat} {j x : Int32} {xs : List Int32} {H1 : AHeap} (hc : P.code k pc = some (.bastore, np)) (hro : Nat.ble P.ro a = true) (ha : H[a]? = some (.inr (.inl (2, xs)))) (hj : inb xs.length j = true) (hH : H.set a (.inr (.inl (2, wr xs j (x &&& 1)))) = H1) (h : Eval P k np L r H1 out) : Eval P k pc L (.int x :: .int j :: .ref a :: r) H out := Eval.of_step hc rfl rfl (by subst hH; simp only [step, hro, ha, hj, cond_true]; try rfl) h
theorem Eval.bastoreB {a : Nat} {j x : Int32} {xs : List Int32} {H1 : AHeap} (hc : P.code k pc = some (.bastore, np)) (hro : Nat.ble P.ro a = true) (ha : H[a]? = some (.inr (.inl (3, xs)))) (hj : inb xs.length j = true) (hH : H.set a (.inr (.inl (3, wr xs j (i8 x)))) = H1) (h : Eval P k np L r H1 out) : Eval P k pc L (.int x :: .int j :: .ref a :: r) H out := Eval.of_step hc rfl rfl (by subst hH; simp only [step, hro, ha, hj, cond_true]; try rfl) h
theorem Eval.lastore {a : Nat} {j : Int32} {x : Int64} {xs : List Int64} {H1 : AHeap} (hc : P.code k pc = some (.lastore, np)) (hro : Nat.ble P.ro a = true) (ha : H[a]? = some (.inr (.inr xs))) (hj : inb xs.length j = true) (hH : H.set a (.inr (.inr (wrL xs j x))) = H1) (h : Eval P k np L r H1 out) : Eval P k pc L (.long x :: .int j :: .ref a :: r) H out := Eval.of_step hc rfl rfl (by subst hH; simp only [step, hro, ha, hj, cond_true]; try rfl) h
theorem Eval.alenI {a t : Nat} {xs : List Int32} (hc : P.code k pc = some (.arraylength, np)) (ha : H[a]? = some (.inr (.inl (t, xs)))) (h : Eval P k np L (.int xs.length.toInt32 :: r) H out) : Eval P k pc L (.ref a :: r) H out := Eval.of_step hc rfl rfl (by simp only [step, ha]) h
theorem Eval.newarray {t : ArrayType} {n : Int32} {q a z N : Nat} {H1 : AHeap} (hc : P.code k pc = some (.newarray t, np)) (hla : H.length = a) (ht : atyOf t = some q) (hn : decide (n < 0) = false) (hN : n.toNatClampNeg = N) (hb : N ≤ 60000) (hC : a + 1 ≤ P.capC) (hz : hsz P H = z) (hS : z + N ≤ P.capS) (hH : H ++ [newC q N] = H1) (h : Eval P k np L (.ref a :: r) H1 out) : Eval P k pc L (.int n :: r) H out := by
  subst hla hN hz
  have hq : (!(decide (n < 0)) && Nat.ble n.toNatClampNeg 60000 && Nat.ble (H.length + 1) P.capC && Nat.ble (hsz P H + n.toNatClampNeg) P.capS) = true := by
    simp only [hn, Bool.not_false, Bool.true_and, Bool.and_eq_true]
    exact ⟨⟨Nat.ble_eq_true_of_le hb, Nat.ble_eq_true_of_le hC⟩, Nat.ble_eq_true_of_le hS⟩
  exact Eval.of_step hc rfl rfl (by simp only [step, ht, hq, cond_true, hH]) h
theorem Eval.new {j q a z : Nat} {H1 : AHeap} (hc : P.code k pc = some (.new j, np)) (hla : H.length = a) (ht : P.link (P.cls k) j = some (5, q)) (hC : a + 1 ≤ P.capC) (hz : hsz P H = z) (hS : z + P.objN ≤ P.capS) (hH : H ++ [.inl P.fresh] = H1) (h : Eval P k np L (.ref a :: S) H1 out) : Eval P k pc L S H out := by
  subst hla hz
  have hq : (Nat.ble (H.length + 1) P.capC && Nat.ble (hsz P H + P.objN) P.capS) = true := by
    simp only [Bool.and_eq_true]
    exact ⟨Nat.ble_eq_true_of_le hC, Nat.ble_eq_true_of_le hS⟩
  exact Eval.of_step hc rfl rfl (by simp only [step, ht, hq, cond_true, hH]) h
theorem Eval.objInit {j a : Nat} (hc : P.code k pc = some (.invokespecial j, np)) (hq : (isObjInit P k j && Nat.ble 1 (P.rf k) && Nat.ble (cats r + 12) (P.rl k)) = true) (h : Eval P k np L r H out) : Eval P k pc L (.ref a :: r) H out := by
  refine Eval.of_step hc rfl ?_ (by simp only [step, hq, cond_true]) h
  simp only [Bool.and_eq_true] at hq
  have h3 := hq.1.1
  unfold isObjInit at h3
  split at h3
  · rename_i kk hk
    simp [callV, poolOf, hk, kindOk]
  · cases h3
/-- the left knows at least what the right knows -/
def lw : ALoc → ALoc → Prop
  | [], b => b = []
  | a :: r, b => ∃ x r', b = x :: r' ∧ (x = none ∨ x = a) ∧ lw r r'
theorem lw.refl : ∀ L : ALoc, lw L L
  | [] => rfl
  | a :: r => ⟨a, r, rfl, Or.inr rfl, lw.refl r⟩
def mkL : Nat → ALoc → ALoc
  | _, [] => []
  | m, a :: r => (match Nat.mod m 2 with | 0 => none | _ => a) :: mkL (Nat.div m 2) r
theorem lw_mk : ∀ (m : Nat) (L : ALoc), lw L (mkL m L)
  | _, [] => rfl
  | m, a :: r => ⟨_, _, rfl, by cases h : Nat.mod m 2 with
    | zero => exact Or.inl rfl
    | succ k => exact Or.inr rfl, lw_mk (Nat.div m 2) r⟩
theorem lw.spec : ∀ {L L' : ALoc}, lw L L' → L.length = L'.length ∧ ∀ (i : Nat) v, L'[i]? = some (some v) → L[i]? = some (some v)
  | [], _, h => by cases h; exact ⟨rfl, fun i v q => by simp at q⟩
  | a :: r, _, ⟨x, r', e, h1, h2⟩ => by
    subst e
    obtain ⟨i1, i2⟩ := lw.spec h2
    refine ⟨by simp [i1], fun i v q => ?_⟩
    cases i with
    | zero =>
      simp only [List.getElem?_cons_zero, Option.some.injEq] at q ⊢
      rcases h1 with rfl | rfl
      · cases q
      · exact q
    | succ i => rw [List.getElem?_cons_succ] at q ⊢; exact i2 i v q
theorem lw.of : ∀ {L L' : ALoc}, L.length = L'.length → (∀ (i : Nat) v, L'[i]? = some (some v) → L[i]? = some (some v)) → lw L L'
  | [], L', h, _ => by cases L' with
    | nil => rfl
    | cons _ _ => simp at h
  | a :: r, L', h, q => by
    cases L' with
    | nil => simp at h
    | cons x r' =>
      refine ⟨x, r', rfl, ?_, lw.of (by simpa using h) fun i v e => ?_⟩
      · cases x with
        | none => exact Or.inl rfl
        | some v => have := q 0 v rfl; simp at this; exact Or.inr this.symm
      · have := q (i + 1) v (by rw [List.getElem?_cons_succ]; exact e); rwa [List.getElem?_cons_succ] at this
theorem lw.kill {L L' : ALoc} (h : lw L L') (i : Nat) : lw (kill1 L i) (kill1 L' i) := by
  obtain ⟨h1, h2⟩ := h.spec
  refine lw.of (by rw [kill1_len, kill1_len, h1]) fun j v q => ?_
  obtain ⟨q1, q2⟩ := kill1_get q
  have q3 := h2 _ _ q1
  unfold kill1
  split
  · exact q3
  · rename_i i
    split
    · rename_i x hx
      by_cases e : i = j
      · subst e; rw [hx] at q3; cases q3; exact absurd rfl (q2 rfl x)
      · rw [List.getElem?_set_ne e]; exact q3
    · exact q3
theorem lw.set {L L' : ALoc} (h : lw L L') (i : Nat) (x : Option Value) : lw (L.set i x) (L'.set i x) := by
  obtain ⟨h1, h2⟩ := h.spec
  refine lw.of (by simp [h1]) fun j v q => ?_
  rw [List.getElem?_set] at q ⊢
  split at q
  · rename_i e
    rw [if_pos e, h1]; exact q
  · rename_i e
    rw [if_neg e]; exact h2 _ _ q
theorem lw.put {L L' L1 : ALoc} (h : lw L L') {i : Nat} {v : Value} (hp : lput L' i v = some L1) : ∃ L2, lput L i v = some L2 ∧ lw L2 L1 := by
  unfold lput at hp ⊢
  rw [h.spec.1]
  rw [Bool.cond_eq_ite] at hp ⊢
  split at hp
  · rename_i hc
    cases hp; exact ⟨_, if_pos hc, (h.kill i).set i _⟩
  · cases hp
theorem lw.putL {L L' L1 : ALoc} (h : lw L L') {i : Nat} {v : Int64} (hp : lputL L' i v = some L1) : ∃ L2, lputL L i v = some L2 ∧ lw L2 L1 := by
  unfold lputL at hp ⊢
  rw [h.spec.1]
  rw [Bool.cond_eq_ite] at hp ⊢
  split at hp
  · rename_i hc
    cases hp; exact ⟨_, if_pos hc, ((h.kill i).set i _).set (i + 1) _⟩
  · cases hp
theorem lw.loadI {L L' : ALoc} (h : lw L L') {i : Nat} {x : Int32} (q : OwnX.loadI L' i = some x) : OwnX.loadI L i = some x := by
  unfold OwnX.loadI at q ⊢
  split at q
  · rename_i y hy
    rw [h.spec.2 _ _ hy]; exact q
  · cases q
theorem lw.loadJ {L L' : ALoc} (h : lw L L') {i : Nat} {x : Int64} (q : OwnX.loadJ L' i = some x) : OwnX.loadJ L i = some x := by
  unfold OwnX.loadJ at q ⊢
  split at q
  · rename_i y hy
    rw [h.spec.2 _ _ hy]; exact q
  · cases q
theorem lw.loadA {L L' : ALoc} (h : lw L L') {i x : Nat} (q : OwnX.loadA L' i = some x) : OwnX.loadA L i = some x := by
  unfold OwnX.loadA at q ⊢
  split at q
  · rename_i y hy
    rw [h.spec.2 _ _ hy]; exact q
  · cases q
set_option maxHeartbeats 4000000 in
theorem step_weak {i : Instr} {pc' : Nat} {S' : List Value} {H' : AHeap} {L1 : ALoc} (hw : lw L L') (h : step P k i np pc L' S H = some (pc', L1, S', H')) : ∃ L2, step P k i np pc L S H = some (pc', L2, S', H') ∧ lw L2 L1 := by
  cases i
  case iload_n n =>
    simp only [step] at h ⊢
    split at h
    · rename_i x hx
      rw [hw.loadI hx]; cases h; exact ⟨L, rfl, hw⟩
    · cases h
  case iload n =>
    simp only [step] at h ⊢
    split at h
    · rename_i x hx
      rw [hw.loadI hx]; cases h; exact ⟨L, rfl, hw⟩
    · cases h
  case lload_n n =>
    simp only [step] at h ⊢
    split at h
    · rename_i x hx
      rw [hw.loadJ hx]; cases h; exact ⟨L, rfl, hw⟩
    · cases h
  case lload n =>
    simp only [step] at h ⊢
    split at h
    · rename_i x hx
      rw [hw.loadJ hx]; cases h; exact ⟨L, rfl, hw⟩
    · cases h
  case aload_n n =>
    simp only [step] at h ⊢
    split at h
    · rename_i x hx
      rw [hw.loadA hx]; cases h; exact ⟨L, rfl, hw⟩
    · cases h
  case aload n =>
    simp only [step] at h ⊢
    split at h
    · rename_i x hx
      rw [hw.loadA hx]; cases h; exact ⟨L, rfl, hw⟩
    · cases h
  case istore_n n =>
    simp only [step] at h ⊢
    split at h
    · split at h
      · rename_i L3 hx
        obtain ⟨L2, e1, e2⟩ := hw.put hx
        cases h; exact ⟨L2, by simp only [e1], e2⟩
      · cases h
    · cases h
  case istore n =>
    simp only [step] at h ⊢
    split at h
    · split at h
      · rename_i L3 hx
        obtain ⟨L2, e1, e2⟩ := hw.put hx
        cases h; exact ⟨L2, by simp only [e1], e2⟩
      · cases h
    · cases h
  case astore_n n =>
    simp only [step] at h ⊢
    split at h
    · split at h
      · rename_i L3 hx
        obtain ⟨L2, e1, e2⟩ := hw.put hx
        cases h; exact ⟨L2, by simp only [e1], e2⟩
      · cases h
    · cases h
  case astore n =>
    simp only [step] at h ⊢
    split at h
    · split at h
      · rename_i L3 hx
        obtain ⟨L2, e1, e2⟩ := hw.put hx
        cases h; exact ⟨L2, by simp only [e1], e2⟩
      · cases h
    · cases h
  case lstore_n n =>
    simp only [step] at h ⊢
    split at h
    · split at h
      · rename_i L3 hx
        obtain ⟨L2, e1, e2⟩ := hw.putL hx
        cases h; exact ⟨L2, by simp only [e1], e2⟩
      · cases h
    · cases h
  case lstore n =>
    simp only [step] at h ⊢
    split at h
    · split at h
      · rename_i L3 hx
        obtain ⟨L2, e1, e2⟩ := hw.putL hx
        cases h; exact ⟨L2, by simp only [e1], e2⟩
      · cases h
    · cases h
  case iinc n c =>
    simp only [step] at h ⊢
    split at h
    · rename_i x hx
      rw [hw.loadI hx]
      split at h
      · rename_i L3 hp
        obtain ⟨L2, e1, e2⟩ := hw.put hp
        cases h; exact ⟨L2, by simp only [e1], e2⟩
      · cases h
    · cases h
  all_goals
    simp only [step, Bool.cond_eq_ite] at h ⊢
    repeat' (split at h)
  all_goals first
    | (cases h; done)
    | (simp only [Option.some.injEq, Prod.mk.injEq] at h; obtain ⟨rfl, rfl, rfl, rfl⟩ := h; refine ⟨L, ?_, hw⟩; first | rfl | (simp only [*, if_true, if_false]; done) | (simp [*]; done))
theorem run_weak : ∀ (n : Nat) {pc : Nat} {L L' : ALoc} {S : List Value} {H : AHeap} {out : Option Value × AHeap}, lw L L' → run P n k pc L' S H = some out → run P n k pc L S H = some out
  | 0, _, _, _, _, _, _, _, h => by simp [run] at h
  | n + 1, pc, L, L', S, H, out, hw, h => by
    rw [run] at h
    rw [run]
    split at h
    · cases h
    · rename_i i np hc
      try simp only [hc]
      split at h
      · rename_i v hv
        try simp only [hv]
        exact h
      · rename_i hv
        try simp only [hv]
        split at h
        · rename_i k' as rest hcall
          try simp only [hcall]
          split at h
          · rename_i v1 H1 h1
            try simp only [h1]
            exact run_weak n hw h
          · cases h
        · rename_i hcall
          try simp only [hcall]
          split at h
          · rename_i pc1 L1 S1 H1 h1
            obtain ⟨L2, e1, e2⟩ := step_weak hw h1
            simp only [e1]; exact run_weak n e2 h
          · cases h
theorem Eval.weak (hw : lw L L') (h : Eval P k pc L' S H out) : Eval P k pc L S H out := by
  obtain ⟨n, h⟩ := h
  exact ⟨n, run_weak n hw h⟩
end Rules
end Jvm.OwnX
namespace Jvm.OwnX
open Sem ClassFile Op Lib Jvm.Stand Jvm.Free Jvm.LawKit Jvm.RoadKit
/-! ## tables as lists -/
def findC : List (Nat × Instr × Nat) → Nat → Option (Instr × Nat)
  | [], _ => none
  | (q, x) :: r, pc => bif Nat.beq q pc then some x else findC r pc
abbrev CodeL := List (ByteArray × List (List (Nat × Instr × Nat)))
def codeAt (cs : CodeL) (k pc : Nat) : Option (Instr × Nat) := match cs[k]? with
  | some (_, ch) => (match ch[pc / 32]? with | some c => findC c pc | none => none)
  | none => none
def bcOf (cs : CodeL) (k : Nat) : ByteArray := match cs[k]? with | some (b, _) => b | none => ⟨#[]⟩
def okI (b : ByteArray) (e : Nat × Instr × Nat) : Bool := match decode b e.1 with
  | .ok (i, len) => decide (i = e.2.1) && Nat.beq (e.1 + len) e.2.2 && (Nat.beq (ilen i) 0 || Nat.beq len (ilen i))
  | _ => false
def okCs (cs : CodeL) : Bool := cs.all fun m => m.2.all fun c => c.all (okI m.1)
def tyCs (ty : ArrayType → Bool) (cs : CodeL) : Bool := cs.all fun m => m.2.all fun c => c.all fun e => match e.2.1 with | .newarray t => ty t | _ => true
theorem findC_mem : ∀ {l : List (Nat × Instr × Nat)} {pc : Nat} {x : Instr × Nat}, findC l pc = some x → (pc, x) ∈ l
  | [], pc, x, h => by cases h
  | (q, y) :: r, pc, x, h => by
    unfold findC at h
    cases hb : Nat.beq q pc
    · rw [hb] at h; exact List.mem_cons_of_mem _ (findC_mem h)
    · rw [hb] at h; cases h
      have : q = pc := Nat.eq_of_beq_eq_true hb
      subst this; exact List.mem_cons_self ..
theorem codeAt_mem {cs : CodeL} {k pc : Nat} {x : Instr × Nat} (h : codeAt cs k pc = some x) : ∃ m ∈ cs, bcOf cs k = m.1 ∧ ∃ c ∈ m.2, (pc, x) ∈ c := by
  unfold codeAt at h
  split at h
  · rename_i b ch hk
    split at h
    · rename_i c hc
      exact ⟨(b, ch), List.mem_of_getElem? hk, by simp [bcOf, hk], c, List.mem_of_getElem? hc, findC_mem h⟩
    · cases h
  · cases h
theorem code_ok {cs : CodeL} (h : okCs cs = true) {k pc : Nat} {i : Instr} {np : Nat} (hc : codeAt cs k pc = some (i, np)) : ∃ len, decode (bcOf cs k) pc = .ok (i, len) ∧ np = pc + len ∧ (ilen i = 0 ∨ len = ilen i) := by
  obtain ⟨m, h1, h2, c, h3, h4⟩ := codeAt_mem hc
  have q := List.all_eq_true.mp (List.all_eq_true.mp (List.all_eq_true.mp h m h1) c h3) _ h4
  unfold okI at q
  rw [h2]
  split at q
  · rename_i i' len hd
    simp only [Bool.and_eq_true, Bool.or_eq_true, decide_eq_true_eq] at q
    obtain ⟨⟨rfl, q2⟩, q3⟩ := q
    refine ⟨len, hd, (Nat.eq_of_beq_eq_true q2).symm, q3.elim (fun z => Or.inl (Nat.eq_of_beq_eq_true z)) fun z => Or.inr (Nat.eq_of_beq_eq_true z)⟩
  · cases q
theorem code_ty {ty : ArrayType → Bool} {cs : CodeL} (h : tyCs ty cs = true) {k pc : Nat} {t : ArrayType} {np : Nat} (hc : codeAt cs k pc = some (.newarray t, np)) : ty t = true := by
  obtain ⟨m, h1, h2, c, h3, h4⟩ := codeAt_mem hc
  exact List.all_eq_true.mp (List.all_eq_true.mp (List.all_eq_true.mp h m h1) c h3) _ h4
def lookT {α : Type} : List (Nat × Nat × α) → Nat → Nat → Option α
  | [], _, _ => none
  | (c', j', x) :: r, c, j => bif Nat.beq j' j && Nat.beq c' c then some x else lookT r c j
theorem lookT_mem {α : Type} : ∀ {l : List (Nat × Nat × α)} {c j : Nat} {x : α}, lookT l c j = some x → (c, j, x) ∈ l
  | [], c, j, x, h => by cases h
  | (c', j', y) :: r, c, j, x, h => by
    unfold lookT at h
    cases hb : (Nat.beq j' j && Nat.beq c' c)
    · rw [hb] at h; exact List.mem_cons_of_mem _ (lookT_mem h)
    · rw [hb] at h; cases h
      simp only [Bool.and_eq_true] at hb
      have h1 : j' = j := Nat.eq_of_beq_eq_true hb.1
      have h2 : c' = c := Nat.eq_of_beq_eq_true hb.2
      subst h1 h2; exact List.mem_cons_self ..
def AllP {α : Type} (p : α → Prop) : List α → Prop
  | [] => True
  | a :: r => p a ∧ AllP p r
theorem AllP.mem {α : Type} {p : α → Prop} : ∀ {l : List α}, AllP p l → ∀ a ∈ l, p a
  | [], _, a, h => nomatch h
  | _ :: _, ⟨h1, h2⟩, a, h => (List.mem_cons.mp h).elim (fun e => e ▸ h1) (AllP.mem h2 a)
def FldOk (P : Prog) (cn : Nat → String) (C : String) (Z : State) (a0 : Array Value) (e : Nat × Nat × Nat) : Prop := ∃ n d t fin, P.fields[e.2.2]? = some (n, d, t, fin) ∧ (Cond.fieldLink (cn e.1) e.2.1 C n d).before a0 Z = true
def FieldOk (C : String) (Z : State) (a0 : Array Value) (e : String × String × Nat × Bool) : Prop := (bif e.2.2.2 then (Cond.laysFinal C C e.1 e.2.1).before a0 Z else (Cond.lays C C e.1 e.2.1).before a0 Z) = true ∧ ∃ ty, parseFieldDescriptor e.2.1 = some ty ∧ tyOk e.2.2.1 ty = true ∧ defaultValue ty = dflt e.2.2.1
theorem good_of {cs : CodeL} {mi : Nat → MI} {links : List (Nat × Nat × Nat × Nat)} {flds : List (Nat × Nat × Nat)} {kons : List (Nat × Nat × Value)} {fields : List (String × String × Nat × Bool)} {objN ro cc cS : Nat} {nm : Nat → MethodName} {cn : Nat → String} {C : String} {Z : State} {a0 : Array Value} {ty : ArrayType → Bool} {P : Prog}
    (hP : P = (codeAt cs, mi, lookT links, lookT flds, lookT kons, fields, objN, ro, cc, cS)) (h1 : okCs cs = true) (h2 : AllP (FldOk P cn C Z a0) flds) (h3 : AllP (FieldOk C Z a0) fields) (h4 : (fields.map (·.1)).Nodup) (h5 : AllP (fun e => KonOk cn Z a0 e.1 e.2.1 e.2.2) kons)
    (h6 : (Cond.instantiable C objN).before a0 Z = true) (h7 : (Cond.initialized C).before a0 Z = true) (h8 : tyCs ty cs = true) (h8' : ∀ t, ty t = true → (Cond.arrayClass (newarray.typeOf t)).before a0 Z = true) (h9 : AllP (fun e => LinkOk P nm (bcOf cs) cn C Z a0 e.1 e.2.1 e.2.2.1 e.2.2.2) links) : Good P nm (bcOf cs) cn C Z a0 := by
  subst hP
  refine ⟨fun k pc i np h => code_ok h1 h, fun c j f h => h2.mem _ (lookT_mem h), fun f n d t fin h => h3.mem _ (List.mem_of_getElem? h), fun f g n d t fin n' d' t' fin' q1 q2 ne e => ?_, fun c j v h => h5.mem _ (lookT_mem h), h6, h7, fun k pc t np h => h8' _ (code_ty h8 h), fun c j q k h => h9.mem _ (lookT_mem h)⟩
  subst e
  have e1 : (fields.map (·.1))[f]? = some n := by rw [List.getElem?_map]; exact congrArg (Option.map (·.1)) q1
  have e2 : (fields.map (·.1))[g]? = some n := by rw [List.getElem?_map]; exact congrArg (Option.map (·.1)) q2
  exact ne ((List.getElem?_inj (List.getElem?_eq_some_iff.mp e1).1 h4).mp (e1.trans e2.symm))
/-! ## what the walks of functions use -/
theorem ite_some {α : Type} {c : Prop} [Decidable c] {a : Option α} {r : α} (h : (if c then a else none) = some r) : c ∧ a = some r := by
  by_cases hc : c
  · rw [if_pos hc] at h; exact ⟨hc, h⟩
  · rw [if_neg hc] at h; cases h
theorem ite_none {α : Type} {c : Prop} [Decidable c] {a : Option α} {r : α} (h : (if c then none else a) = some r) : ¬ c ∧ a = some r := by
  by_cases hc : c
  · rw [if_pos hc] at h; cases h
  · rw [if_neg hc] at h; exact ⟨hc, h⟩
theorem bind_some {α β : Type} {o : Option α} {f : α → Option β} {r : β} (h : o.bind f = some r) : ∃ a, o = some a ∧ f a = some r := Option.bind_eq_some_iff.mp h
section Calls
variable {P : Prog} {k pc np : Nat} {L L' : ALoc} {S S' : List Value} {H H1 : AHeap} {out : Option Value × AHeap} {i : Instr} {k' : Nat} {as rest : List Value}
theorem Eval.callI {x : Int32} (hc : P.code k pc = some (i, np)) (h2 : callV P k i S H = some (k', as, rest)) (he : Eval P k' 0 (entry P k' as) [] H (some (.int x), H1)) (h : Eval P k np L (.int x :: rest) H1 out) : Eval P k pc L S H out := Eval.call hc h2 he h
theorem Eval.callJ {x : Int64} (hc : P.code k pc = some (i, np)) (h2 : callV P k i S H = some (k', as, rest)) (he : Eval P k' 0 (entry P k' as) [] H (some (.long x), H1)) (h : Eval P k np L (.long x :: rest) H1 out) : Eval P k pc L S H out := Eval.call hc h2 he h
theorem Eval.callN (hc : P.code k pc = some (i, np)) (h2 : callV P k i S H = some (k', as, rest)) (he : Eval P k' 0 (entry P k' as) [] H (none, H1)) (h : Eval P k np L rest H1 out) : Eval P k pc L S H out := Eval.call hc h2 he h
theorem Eval.conv (h : Eval P k pc L S H out) (e1 : L = L') (e2 : S = S') : Eval P k pc L' S' H out := e1 ▸ e2 ▸ h
theorem Eval.heap {H' : AHeap} (e : H' = H) (h : Eval P k pc L S H' out) : Eval P k pc L S H out := e ▸ h
theorem Eval.retH {H' : AHeap} {v : Option Value} (e : H' = H) (hc : P.code k pc = some (i, np)) (h1 : retV P k i S = some v) : Eval P k pc L S H (v, H') := e ▸ Eval.ret hc h1
end Calls
end Jvm.OwnX
namespace Jvm.OwnX
open Sem ClassFile Op Lib Jvm.Stand Jvm.Free Jvm.LawKit Jvm.RoadKit
theorem HR.none (P : Prog) (C : String) (Z : State) (n0 : Nat) (h : Heap) : HR P C Z n0 [] [] h := ⟨rfl, fun i j a q => by simp at q, fun i a q => by simp at q, fun i c q => by simp at q⟩
def intOf : Value → Int32
  | .int x => x
  | _ => 0
theorem script_start {P : Prog} {C : String} {s : State} {a : Addr} {c : Cell} (hro : P.ro = 1) (hf : Fit s) (A : Arr s s.heap a c .int) : HR P C s s.heap.size [a] [.inr (.inl (0, c.slots.toList.map intOf))] s.heap := by
  have hlt := (Array.getElem?_eq_some_iff.mp A.1).1
  have hint : ∀ i (hi : i < c.slots.size), ∃ x, c.slots[i] = .int x := fun i hi => by
    have q := hf A.1 hi
    obtain ⟨hs, k, hk, comp, hkind⟩ := A.2.1
    have e : s.slotType? c.cls c.vm i = some .int := by
      cases hq : c.vm <;> first | exact absurd hq (hs _) | simp [State.slotType?, hk, hkind]
    have q2 : fits .int c.slots[i] = true := by simpa [State.fitsSlot, e] using q
    exact fit_I q2 (Or.inl rfl)
  refine ⟨rfl, fun i j x q1 q2 => ?_, fun i x q => ?_, fun i d q => ?_⟩
  · cases i with
    | zero => cases j with
      | zero => rfl
      | succ j => simp at q2
    | succ i => simp at q1
  · cases i with
    | zero => simp at q; subst q; exact ⟨hlt, fun h => by rw [hro] at h; omega⟩
    | succ i => simp at q
  · cases i with
    | zero =>
      simp at q; subst q
      refine ⟨a, rfl, c, A, by simp, fun j x hx => ?_⟩
      rw [List.getElem?_map] at hx
      obtain ⟨v, hv, rfl⟩ := Option.map_eq_some_iff.mp hx
      rw [Array.getElem?_toList] at hv
      obtain ⟨hj, rfl⟩ := Array.getElem?_eq_some_iff.mp hv
      obtain ⟨x, e⟩ := hint j hj
      rw [Array.getElem?_eq_getElem hj, e]; rfl
    | succ i => simp at q
end Jvm.OwnX
namespace Jvm.OwnX
/-! ## plain facts on the functions' words -/
theorem len_wr (xs : List Int32) (j v : Int32) : (wr xs j v).length = xs.length := by simp [wr]
theorem len_wrL (xs : List Int64) (j : Int32) (v : Int64) : (wrL xs j v).length = xs.length := by simp [wrL]
theorem rd_wr_same {xs : List Int32} {j : Int32} (h : inb xs.length j = true) (v : Int32) : rd (wr xs j v) j = v := by
  have := inb_lt h
  simp [rd, wr, List.getD_eq_getElem?_getD, this]
theorem rdL_wrL_same {xs : List Int64} {j : Int32} (h : inb xs.length j = true) (v : Int64) : rdL (wrL xs j v) j = v := by
  have := inb_lt h
  simp [rdL, wrL, List.getD_eq_getElem?_getD, this]
theorem nat_inj {i j : Int32} (hi : ¬ i < 0) (hj : ¬ j < 0) (h : i.toNatClampNeg = j.toNatClampNeg) : i = j := by
  apply Int32.toInt_inj.mp
  simp only [Int32.lt_iff_toInt_lt, Int32.toNatClampNeg, Int32.reduceToInt] at hi hj h; omega
theorem inb_nn {n : Nat} {j : Int32} (h : inb n j = true) : ¬ j < 0 := fun q => inb_spec h (Or.inl q)
theorem rd_wr_ne {xs : List Int32} {i j : Int32} (hi : ¬ i < 0) (hj : ¬ j < 0) (h : i ≠ j) (v : Int32) : rd (wr xs i v) j = rd xs j := by
  have : i.toNatClampNeg ≠ j.toNatClampNeg := fun q => h (nat_inj hi hj q)
  simp [rd, wr, List.getD_eq_getElem?_getD, List.getElem?_set_ne this]
theorem rdL_wrL_ne {xs : List Int64} {i j : Int32} (hi : ¬ i < 0) (hj : ¬ j < 0) (h : i ≠ j) (v : Int64) : rdL (wrL xs i v) j = rdL xs j := by
  have : i.toNatClampNeg ≠ j.toNatClampNeg := fun q => h (nat_inj hi hj q)
  simp [rdL, wrL, List.getD_eq_getElem?_getD, List.getElem?_set_ne this]
theorem rd_rep (n : Nat) (j : Int32) : rd (List.replicate n 0) j = 0 := by
  simp only [rd, List.getD_eq_getElem?_getD, List.getElem?_replicate]; split <;> rfl
theorem rdL_rep (n : Nat) (j : Int32) : rdL (List.replicate n 0) j = 0 := by
  simp only [rdL, List.getD_eq_getElem?_getD, List.getElem?_replicate]; split <;> rfl
theorem inb_iff {n : Nat} {j : Int32} : inb n j = true ↔ 0 ≤ j.toInt ∧ j.toInt < n := by
  simp only [inb, Bool.and_eq_true, Bool.not_eq_true', decide_eq_false_iff_not, Int32.lt_iff_toInt_lt, Int32.reduceToInt]
  constructor
  · rintro ⟨h1, h2⟩
    have h3 := Nat.le_of_ble_eq_true h2
    simp only [Int32.toNatClampNeg] at h3
    omega
  · rintro ⟨h1, h2⟩
    refine ⟨by omega, Nat.ble_eq_true_of_le ?_⟩
    simp only [Int32.toNatClampNeg]; omega
theorem lt32 {x y : Int32} : x < y ↔ x.toInt < y.toInt := Int32.lt_iff_toInt_lt
theorem eq32 {x y : Int32} : x = y ↔ x.toInt = y.toInt := Int32.toInt_inj.symm
end Jvm.OwnX
namespace Jvm.Pilot.@@N@@
open Jvm Jvm.ClassFile Sem Op Lib Jvm.Free Jvm.Stand Jvm.LawKit Jvm.RoadKit Bundle Jvm.Pilot.@@N@@.Jvm.D Jvm.OwnX
/-! # tables (printed by gen.py out of the claim's listing and sheet) -/
def oo (a k n m : Nat) : List Value := (List.range k).map (fun j => Value.ref (a + j)) ++ (List.replicate n Value.null ++ List.replicate m (Value.int 0))
abbrev oA (t n : Nat) : ACell := .inr (.inl (t, List.replicate n 0))
set_option maxHeartbeats 4000000 in
set_option maxRecDepth 100000 in
def own_cs : CodeL := [
  (code, [
    [(0, .new 7, 3), (3, .dup, 4), (4, .iload_n 0, 5), (5, .iconst 2, 6), (6, .iload_n 1, 7), (7, .invokespecial 9, 10), (10, .astore 4, 12), (12, .iconst 1, 13), (13, .istore 5, 15), (15, .iconst 2, 16), (16, .istore 6, 18), (18, .aload 4, 20), (20, .iconst 0, 21), (21, .iload_n 2, 22), (22, .invokevirtual 12, 25), (25, .istore 7, 27), (27, .aload 4, 29), (29, .iconst 0, 30), (30, .invokevirtual 16, 33)],
    [(33, .istore 8, 35), (35, .iload 7, 37), (37, .ifCond .eq 14, 40), (40, .iload 8, 42), (42, .iload 5, 44), (44, .if_icmp .ne 7, 47), (47, .iconst 1, 48), (48, .goto 4, 51), (51, .iconst 0, 52), (52, .istore 7, 54), (54, .aload 4, 56), (56, .iconst 0, 57), (57, .invokevirtual 16, 60), (60, .istore 8, 62), (62, .iload 7, 64)],
    [(64, .ifCond .eq 14, 67), (67, .iload 8, 69), (69, .iload 5, 71), (71, .if_icmp .ne 7, 74), (74, .iconst 1, 75), (75, .goto 4, 78), (78, .iconst 0, 79), (79, .istore 7, 81), (81, .aload 4, 83), (83, .iconst 0, 84), (84, .invokevirtual 16, 87), (87, .istore 8, 89), (89, .iload 7, 91), (91, .ifCond .eq 14, 94), (94, .iload 8, 96)],
    [(96, .iload 5, 98), (98, .if_icmp .ne 7, 101), (101, .iconst 1, 102), (102, .goto 4, 105), (105, .iconst 0, 106), (106, .istore 7, 108), (108, .aload 4, 110), (110, .iconst 0, 111), (111, .invokevirtual 20, 114), (114, .istore 8, 116), (116, .iload 7, 118), (118, .ifCond .eq 14, 121), (121, .iload 8, 123), (123, .bipush 15, 125), (125, .if_icmp .ne 7, 128)],
    [(128, .iconst 1, 129), (129, .goto 4, 132), (132, .iconst 0, 133), (133, .istore 7, 135), (135, .aload 4, 137), (137, .iconst 1, 138), (138, .invokevirtual 23, 141), (141, .istore 9, 143), (143, .iload 7, 145), (145, .ifCond .eq 12, 148), (148, .iload 9, 150), (150, .ifCond .eq 7, 153), (153, .iconst 1, 154), (154, .goto 4, 157), (157, .iconst 0, 158), (158, .istore 7, 160)],
    [(160, .aload 4, 162), (162, .iconst 1, 163), (163, .invokevirtual 16, 166), (166, .istore 8, 168), (168, .iload 7, 170), (170, .ifCond .eq 14, 173), (173, .iload 8, 175), (175, .iload 5, 177), (177, .if_icmp .ne 7, 180), (180, .iconst 1, 181), (181, .goto 4, 184), (184, .iconst 0, 185), (185, .istore 7, 187), (187, .aload 4, 189), (189, .iconst 1, 190), (190, .invokevirtual 16, 193)],
    [(193, .istore 8, 195), (195, .iload 7, 197), (197, .ifCond .eq 14, 200), (200, .iload 8, 202), (202, .iload 5, 204), (204, .if_icmp .ne 7, 207), (207, .iconst 1, 208), (208, .goto 4, 211), (211, .iconst 0, 212), (212, .istore 7, 214), (214, .aload 4, 216), (216, .iconst 1, 217), (217, .invokevirtual 16, 220), (220, .istore 8, 222), (222, .iload 7, 224)],
    [(224, .ifCond .eq 14, 227), (227, .iload 8, 229), (229, .iload 5, 231), (231, .if_icmp .ne 7, 234), (234, .iconst 1, 235), (235, .goto 4, 238), (238, .iconst 0, 239), (239, .istore 7, 241), (241, .aload 4, 243), (243, .iconst 1, 244), (244, .invokevirtual 20, 247), (247, .istore 8, 249), (249, .iload 7, 251), (251, .ifCond .eq 14, 254), (254, .iload 8, 256)],
    [(256, .bipush 21, 258), (258, .if_icmp .ne 7, 261), (261, .iconst 1, 262), (262, .goto 4, 265), (265, .iconst 0, 266), (266, .istore 7, 268), (268, .aload 4, 270), (270, .invokevirtual 27, 273), (273, .istore 8, 275), (275, .iload 7, 277), (277, .ifCond .eq 13, 280), (280, .iload 8, 282), (282, .iconst (-1), 283), (283, .if_icmp .ne 7, 286), (286, .iconst 1, 287), (287, .goto 4, 290)],
    [(290, .iconst 0, 291), (291, .istore 7, 293), (293, .aload 4, 295), (295, .iconst 0, 296), (296, .bipush 64, 298), (298, .invokevirtual 31, 301), (301, .istore 8, 303), (303, .iload 7, 305), (305, .ifCond .eq 14, 308), (308, .iload 8, 310), (310, .iload 6, 312), (312, .if_icmp .ne 7, 315), (315, .iconst 1, 316), (316, .goto 4, 319), (319, .iconst 0, 320)],
    [(320, .istore 7, 322), (322, .aload 4, 324), (324, .iconst 1, 325), (325, .bipush 64, 327), (327, .invokevirtual 31, 330), (330, .istore 8, 332), (332, .iload 7, 334), (334, .ifCond .eq 14, 337), (337, .iload 8, 339), (339, .iload 6, 341), (341, .if_icmp .ne 7, 344), (344, .iconst 1, 345), (345, .goto 4, 348), (348, .iconst 0, 349), (349, .istore 7, 351), (351, .aload 4, 353)],
    [(353, .iconst 0, 354), (354, .invokevirtual 35, 357), (357, .istore 8, 359), (359, .iload 7, 361), (361, .ifCond .eq 13, 364), (364, .iload 8, 366), (366, .iconst 1, 367), (367, .if_icmp .ne 7, 370), (370, .iconst 1, 371), (371, .goto 4, 374), (374, .iconst 0, 375), (375, .istore 7, 377), (377, .aload 4, 379), (379, .iconst 0, 380), (380, .invokevirtual 38, 383), (383, .istore 8, 385)],
    [(385, .iload 7, 387), (387, .ifCond .eq 12, 390), (390, .iload 8, 392), (392, .ifCond .ne 7, 395), (395, .iconst 1, 396), (396, .goto 4, 399), (399, .iconst 0, 400), (400, .istore 7, 402), (402, .aload 4, 404), (404, .iconst 1, 405), (405, .invokevirtual 35, 408), (408, .istore 8, 410), (410, .iload 7, 412), (412, .ifCond .eq 13, 415), (415, .iload 8, 417)],
    [(417, .iconst 1, 418), (418, .if_icmp .ne 7, 421), (421, .iconst 1, 422), (422, .goto 4, 425), (425, .iconst 0, 426), (426, .istore 7, 428), (428, .aload 4, 430), (430, .iconst 1, 431), (431, .invokevirtual 38, 434), (434, .istore 8, 436), (436, .iload 7, 438), (438, .ifCond .eq 13, 441), (441, .iload 8, 443), (443, .iload_n 2, 444), (444, .if_icmp .ne 7, 447), (447, .iconst 1, 448)],
    [(448, .goto 4, 451), (451, .iconst 0, 452), (452, .istore 7, 454), (454, .aload 4, 456), (456, .iconst 0, 457), (457, .iload_n 3, 458), (458, .invokevirtual 12, 461), (461, .istore 10, 463), (463, .iload 7, 465), (465, .ifCond .eq 12, 468), (468, .iload 10, 470), (470, .ifCond .eq 7, 473), (473, .iconst 1, 474), (474, .goto 4, 477), (477, .iconst 0, 478), (478, .istore 7, 480)],
    [(480, .aload 4, 482), (482, .iconst 0, 483), (483, .bipush 64, 485), (485, .invokevirtual 31, 488), (488, .istore 8, 490), (490, .iload 7, 492), (492, .ifCond .eq 14, 495), (495, .iload 8, 497), (497, .iload 6, 499), (499, .if_icmp .ne 7, 502), (502, .iconst 1, 503), (503, .goto 4, 506), (506, .iconst 0, 507), (507, .istore 7, 509), (509, .aload 4, 511), (511, .invokevirtual 27, 514)],
    [(514, .istore 8, 516), (516, .iload 7, 518), (518, .ifCond .eq 13, 521), (521, .iload 8, 523), (523, .iconst 1, 524), (524, .if_icmp .ne 7, 527), (527, .iconst 1, 528), (528, .goto 4, 531), (531, .iconst 0, 532), (532, .istore 7, 534), (534, .aload 4, 536), (536, .iconst 0, 537), (537, .invokevirtual 41, 540), (540, .istore 8, 542), (542, .iload 7, 544)],
    [(544, .ifCond .eq 13, 547), (547, .iload 8, 549), (549, .iload_n 3, 550), (550, .if_icmp .ne 7, 553), (553, .iconst 1, 554), (554, .goto 4, 557), (557, .iconst 0, 558), (558, .istore 7, 560), (560, .aload 4, 562), (562, .invokevirtual 44, 565), (565, .istore 8, 567), (567, .iload 7, 569), (569, .ifCond .eq 14, 572), (572, .iload 8, 574), (574, .bipush 6, 576)],
    [(576, .if_icmp .ne 7, 579), (579, .iconst 1, 580), (580, .goto 4, 583), (583, .iconst 0, 584), (584, .istore 7, 586), (586, .bipush 16, 588), (588, .istore 11, 590), (590, .bipush 32, 592), (592, .istore 12, 594), (594, .bipush 48, 596), (596, .istore 13, 598), (598, .aload 4, 600), (600, .iconst 0, 601), (601, .invokevirtual 47, 604), (604, .istore 8, 606), (606, .iload 7, 608)],
    [(608, .ifCond .eq 16, 611), (611, .iload 8, 613), (613, .iload 11, 615), (615, .iconst 0, 616), (616, .iadd, 617), (617, .if_icmp .ne 7, 620), (620, .iconst 1, 621), (621, .goto 4, 624), (624, .iconst 0, 625), (625, .istore 7, 627), (627, .aload 4, 629), (629, .iconst 0, 630), (630, .invokevirtual 50, 633), (633, .istore 8, 635), (635, .iload 7, 637), (637, .ifCond .eq 13, 640)],
    [(640, .iload 8, 642), (642, .iload_n 2, 643), (643, .if_icmp .ne 7, 646), (646, .iconst 1, 647), (647, .goto 4, 650), (650, .iconst 0, 651), (651, .istore 7, 653), (653, .aload 4, 655), (655, .iconst 1, 656), (656, .invokevirtual 47, 659), (659, .istore 8, 661), (661, .iload 7, 663), (663, .ifCond .eq 16, 666), (666, .iload 8, 668), (668, .iload 12, 670), (670, .iconst 1, 671), (671, .iadd, 672)],
    [(672, .if_icmp .ne 7, 675), (675, .iconst 1, 676), (676, .goto 4, 679), (679, .iconst 0, 680), (680, .istore 7, 682), (682, .aload 4, 684), (684, .iconst 1, 685), (685, .invokevirtual 50, 688), (688, .istore 8, 690), (690, .iload 7, 692), (692, .ifCond .eq 12, 695), (695, .iload 8, 697), (697, .ifCond .ne 7, 700), (700, .iconst 1, 701), (701, .goto 4, 704)],
    [(704, .iconst 0, 705), (705, .istore 7, 707), (707, .aload 4, 709), (709, .iconst 2, 710), (710, .invokevirtual 47, 713), (713, .istore 8, 715), (715, .iload 7, 717), (717, .ifCond .eq 16, 720), (720, .iload 8, 722), (722, .iload 13, 724), (724, .iconst 0, 725), (725, .iadd, 726), (726, .if_icmp .ne 7, 729), (729, .iconst 1, 730), (730, .goto 4, 733), (733, .iconst 0, 734), (734, .istore 7, 736)],
    [(736, .aload 4, 738), (738, .iconst 2, 739), (739, .invokevirtual 50, 742), (742, .istore 8, 744), (744, .iload 7, 746), (746, .ifCond .eq 12, 749), (749, .iload 8, 751), (751, .ifCond .ne 7, 754), (754, .iconst 1, 755), (755, .goto 4, 758), (758, .iconst 0, 759), (759, .istore 7, 761), (761, .aload 4, 763), (763, .iconst 3, 764), (764, .invokevirtual 47, 767), (767, .istore 8, 769)],
    [(769, .iload 7, 771), (771, .ifCond .eq 16, 774), (774, .iload 8, 776), (776, .iload 13, 778), (778, .iconst 1, 779), (779, .iadd, 780), (780, .if_icmp .ne 7, 783), (783, .iconst 1, 784), (784, .goto 4, 787), (787, .iconst 0, 788), (788, .istore 7, 790), (790, .aload 4, 792), (792, .iconst 3, 793), (793, .invokevirtual 50, 796), (796, .istore 8, 798), (798, .iload 7, 800)],
    [(800, .ifCond .eq 13, 803), (803, .iload 8, 805), (805, .iload_n 2, 806), (806, .if_icmp .ne 7, 809), (809, .iconst 1, 810), (810, .goto 4, 813), (813, .iconst 0, 814), (814, .istore 7, 816), (816, .aload 4, 818), (818, .iconst 4, 819), (819, .invokevirtual 47, 822), (822, .istore 8, 824), (824, .iload 7, 826), (826, .ifCond .eq 16, 829), (829, .iload 8, 831), (831, .iload 11, 833)],
    [(833, .iconst 0, 834), (834, .iadd, 835), (835, .if_icmp .ne 7, 838), (838, .iconst 1, 839), (839, .goto 4, 842), (842, .iconst 0, 843), (843, .istore 7, 845), (845, .aload 4, 847), (847, .iconst 4, 848), (848, .invokevirtual 50, 851), (851, .istore 8, 853), (853, .iload 7, 855), (855, .ifCond .eq 13, 858), (858, .iload 8, 860), (860, .iload_n 3, 861), (861, .if_icmp .ne 7, 864)],
    [(864, .iconst 1, 865), (865, .goto 4, 868), (868, .iconst 0, 869), (869, .istore 7, 871), (871, .aload 4, 873), (873, .iconst 5, 874), (874, .invokevirtual 47, 877), (877, .istore 8, 879), (879, .iload 7, 881), (881, .ifCond .eq 16, 884), (884, .iload 8, 886), (886, .iload 13, 888), (888, .iconst 0, 889), (889, .iadd, 890), (890, .if_icmp .ne 7, 893), (893, .iconst 1, 894), (894, .goto 4, 897)],
    [(897, .iconst 0, 898), (898, .istore 7, 900), (900, .aload 4, 902), (902, .iconst 5, 903), (903, .invokevirtual 50, 906), (906, .istore 8, 908), (908, .iload 7, 910), (910, .ifCond .eq 12, 913), (913, .iload 8, 915), (915, .ifCond .ne 7, 918), (918, .iconst 1, 919), (919, .goto 4, 922), (922, .iconst 0, 923), (923, .istore 7, 925), (925, .aload 4, 927), (927, .invokevirtual 53, 930)],
    [(930, .istore 8, 932), (932, .iload 7, 934), (934, .ifCond .eq 13, 937), (937, .iload 8, 939), (939, .iconst 1, 940), (940, .if_icmp .ne 7, 943), (943, .iconst 1, 944), (944, .goto 4, 947), (947, .iconst 0, 948), (948, .istore 7, 950), (950, .iload 7, 952), (952, .ireturn, 953)]]),
  (prog_1_method_1_code, [
    [(0, .aload_n 0, 1), (1, .invokespecial 1, 4), (4, .aload_n 0, 5), (5, .bipush 8, 7), (7, .newarray .int, 9), (9, .putfield 7, 12), (12, .aload_n 0, 13), (13, .bipush 8, 15), (15, .newarray .int, 17), (17, .putfield 13, 20), (20, .aload_n 0, 21), (21, .iconst 4, 22), (22, .newarray .int, 24), (24, .putfield 16, 27), (27, .aload_n 0, 28), (28, .iconst 4, 29), (29, .newarray .int, 31), (31, .putfield 19, 34)],
    [(34, .aload_n 0, 35), (35, .iconst 4, 36), (36, .newarray .int, 38), (38, .putfield 22, 41), (41, .aload_n 0, 42), (42, .iconst 4, 43), (43, .newarray .int, 45), (45, .putfield 25, 48), (48, .aload_n 0, 49), (49, .iconst 4, 50), (50, .newarray .int, 52), (52, .putfield 28, 55), (55, .aload_n 0, 56), (56, .iconst 4, 57), (57, .newarray .int, 59), (59, .putfield 31, 62), (62, .aload_n 0, 63), (63, .bipush 64, 65)],
    [(65, .newarray .int, 67), (67, .putfield 34, 70), (70, .aload_n 0, 71), (71, .bipush 64, 73), (73, .newarray .int, 75), (75, .putfield 37, 78), (78, .aload_n 0, 79), (79, .bipush 64, 81), (81, .newarray .int, 83), (83, .putfield 40, 86), (86, .aload_n 0, 87), (87, .bipush 8, 89), (89, .newarray .int, 91), (91, .putfield 43, 94), (94, .aload_n 0, 95), (95, .bipush 6, 97)],
    [(97, .newarray .int, 99), (99, .putfield 46, 102), (102, .aload_n 0, 103), (103, .bipush 6, 105), (105, .newarray .int, 107), (107, .putfield 49, 110), (110, .aload_n 0, 111), (111, .bipush 6, 113), (113, .newarray .int, 115), (115, .putfield 52, 118), (118, .aload_n 0, 119), (119, .bipush 6, 121), (121, .newarray .int, 123), (123, .putfield 55, 126), (126, .aload_n 0, 127), (127, .bipush 6, 129)],
    [(129, .newarray .int, 131), (131, .putfield 58, 134), (134, .aload_n 0, 135), (135, .bipush 6, 137), (137, .newarray .int, 139), (139, .putfield 61, 142), (142, .aload_n 0, 143), (143, .bipush 6, 145), (145, .newarray .int, 147), (147, .putfield 64, 150), (150, .aload_n 0, 151), (151, .iconst 4, 152), (152, .newarray .int, 154), (154, .putfield 67, 157), (157, .aload_n 0, 158), (158, .bipush 56, 160)],
    [(160, .newarray .int, 162), (162, .putfield 70, 165), (165, .aload_n 0, 166), (166, .bipush 7, 168), (168, .newarray .int, 170), (170, .putfield 73, 173), (173, .aload_n 0, 174), (174, .bipush 7, 176), (176, .newarray .int, 178), (178, .putfield 76, 181), (181, .aload_n 0, 182), (182, .bipush 7, 184), (184, .newarray .int, 186), (186, .putfield 79, 189), (189, .aload_n 0, 190), (190, .iload_n 1, 191), (191, .iconst 1, 192)],
    [(192, .iconst 3, 193), (193, .invokevirtual 82, 196), (196, .istore 4, 198), (198, .aload_n 0, 199), (199, .aload_n 0, 200), (200, .iload_n 2, 201), (201, .iconst 1, 202), (202, .iconst 4, 203), (203, .invokevirtual 82, 206), (206, .putfield 86, 209), (209, .aload_n 0, 210), (210, .iload_n 3, 211), (211, .iconst 0, 212), (212, .bipush 63, 214), (214, .invokevirtual 82, 217), (217, .istore 5, 219), (219, .aload_n 0, 220), (220, .iconst 1, 221), (221, .iload 4, 223), (223, .ishl, 224)],
    [(224, .putfield 90, 227), (227, .aload_n 0, 228), (228, .aload_n 0, 229), (229, .getfield 90, 232), (232, .iconst 1, 233), (233, .isub, 234), (234, .putfield 93, 237), (237, .ldc 96, 239), (239, .iload 5, 241), (241, .iadd, 242), (242, .istore 6, 244), (244, .aload_n 0, 245), (245, .iload 6, 247), (247, .putfield 97, 250), (250, .aload_n 0, 251), (251, .iload 6, 253), (253, .putfield 100, 256)],
    [(256, .iconst 0, 257), (257, .istore 7, 259), (259, .iload 7, 261), (261, .bipush 8, 263), (263, .if_icmp .ge 41, 266), (266, .iload 7, 268), (268, .aload_n 0, 269), (269, .getfield 90, 272), (272, .if_icmp .lt 6, 275), (275, .goto 29, 278), (278, .aload_n 0, 279), (279, .getfield 7, 282), (282, .iload 6, 284), (284, .iload 7, 286), (286, .iadd, 287), (287, .aload_n 0, 288)],
    [(288, .getfield 93, 291), (291, .iand, 292), (292, .iload 6, 294), (294, .iload 7, 296), (296, .iadd, 297), (297, .iastore, 298), (298, .iinc 7 1, 301), (301, .goto (-42), 304), (304, .aload_n 0, 305), (305, .iconst 0, 306), (306, .putfield 103, 309), (309, .aload_n 0, 310), (310, .iconst 0, 311), (311, .putfield 106, 314), (314, .return_, 315)]]),
  (prog_1_method_2_code, [
    [(0, .iload_n 1, 1), (1, .iload_n 2, 2), (2, .if_icmp .ge 5, 5), (5, .iload_n 2, 6), (6, .ireturn, 7), (7, .iload_n 1, 8), (8, .iload_n 3, 9), (9, .if_icmp .le 5, 12), (12, .iload_n 3, 13), (13, .ireturn, 14), (14, .iload_n 1, 15), (15, .ireturn, 16)]]),
  (prog_1_method_8_code, [
    [(0, .aload_n 0, 1), (1, .iload_n 1, 2), (2, .invokevirtual 113, 5), (5, .ifCond .eq 19, 8), (8, .aload_n 0, 9), (9, .getfield 16, 12), (12, .iload_n 1, 13), (13, .iaload, 14), (14, .ifCond .ne 10, 17), (17, .aload_n 0, 18), (18, .invokevirtual 117, 21), (21, .ifCond .ne 5, 24), (24, .iconst 0, 25), (25, .ireturn, 26), (26, .aload_n 0, 27), (27, .iconst 1, 28), (28, .iload_n 1, 29), (29, .iload_n 2, 30), (30, .invokevirtual 121, 33)],
    [(33, .aload_n 0, 34), (34, .getfield 22, 37), (37, .iload_n 1, 38), (38, .iload_n 2, 39), (39, .iastore, 40), (40, .aload_n 0, 41), (41, .getfield 16, 44), (44, .iload_n 1, 45), (45, .bipush 11, 47), (47, .iastore, 48), (48, .iconst 1, 49), (49, .ireturn, 50)]]),
  (prog_1_method_3_code, [
    [(0, .iload_n 1, 1), (1, .ifCond .lt 15, 4), (4, .iload_n 1, 5), (5, .aload_n 0, 6), (6, .getfield 86, 9), (9, .if_icmp .ge 7, 12), (12, .iconst 1, 13), (13, .goto 4, 16), (16, .iconst 0, 17), (17, .ireturn, 18)]]),
  (prog_1_method_5_code, [
    [(0, .aload_n 0, 1), (1, .invokevirtual 109, 4), (4, .istore_n 1, 5), (5, .aload_n 0, 6), (6, .getfield 103, 9), (9, .iload_n 1, 10), (10, .iadd, 11), (11, .iconst 2, 12), (12, .iadd, 13), (13, .bipush 64, 15), (15, .if_icmp .gt 7, 18), (18, .iconst 1, 19), (19, .goto 4, 22), (22, .iconst 0, 23), (23, .ireturn, 24)]]),
  (prog_1_method_4_code, [
    [(0, .iconst 0, 1), (1, .istore_n 1, 2), (2, .iconst 0, 3), (3, .istore_n 2, 4), (4, .iload_n 2, 5), (5, .iconst 4, 6), (6, .if_icmp .ge 29, 9), (9, .iload_n 2, 10), (10, .aload_n 0, 11), (11, .getfield 86, 14), (14, .if_icmp .ge 15, 17), (17, .aload_n 0, 18), (18, .getfield 16, 21), (21, .iload_n 2, 22), (22, .iaload, 23), (23, .ifCond .eq 6, 26), (26, .iinc 1 1, 29), (29, .iinc 2 1, 32)],
    [(32, .goto (-28), 35), (35, .iload_n 1, 36), (36, .ireturn, 37)]]),
  (prog_1_method_6_code, [
    [(0, .aload_n 0, 1), (1, .getfield 103, 4), (4, .ifCond .lt 52, 7), (7, .aload_n 0, 8), (8, .getfield 103, 11), (11, .bipush 64, 13), (13, .if_icmp .ge 43, 16), (16, .aload_n 0, 17), (17, .getfield 34, 20), (20, .aload_n 0, 21), (21, .getfield 103, 24), (24, .iload_n 1, 25), (25, .iastore, 26), (26, .aload_n 0, 27), (27, .getfield 37, 30), (30, .aload_n 0, 31), (31, .getfield 103, 34)],
    [(34, .iload_n 2, 35), (35, .iastore, 36), (36, .aload_n 0, 37), (37, .getfield 40, 40), (40, .aload_n 0, 41), (41, .getfield 103, 44), (44, .iload_n 3, 45), (45, .iastore, 46), (46, .aload_n 0, 47), (47, .dup, 48), (48, .getfield 103, 51), (51, .iconst 1, 52), (52, .iadd, 53), (53, .putfield 103, 56), (56, .return_, 57)]]),
  (prog_1_method_10_code, [
    [(0, .aload_n 0, 1), (1, .iload_n 1, 2), (2, .invokevirtual 113, 5), (5, .ifCond .ne 5, 8), (8, .iconst (-1), 9), (9, .ireturn, 10), (10, .aload_n 0, 11), (11, .getfield 16, 14), (14, .iload_n 1, 15), (15, .iaload, 16), (16, .ifCond .eq 13, 19), (19, .aload_n 0, 20), (20, .getfield 16, 23), (23, .iload_n 1, 24), (24, .iaload, 25), (25, .iconst 1, 26), (26, .if_icmp .ne 5, 29), (29, .iconst 0, 30), (30, .ireturn, 31), (31, .aload_n 0, 32)],
    [(32, .iload_n 1, 33), (33, .invokevirtual 125, 36), (36, .ifCond .eq 5, 39), (39, .iconst 2, 40), (40, .ireturn, 41), (41, .iconst 1, 42), (42, .ireturn, 43)]]),
  (prog_1_method_12_code, [
    [(0, .aload_n 0, 1), (1, .getfield 16, 4), (4, .iload_n 1, 5), (5, .iaload, 6), (6, .istore_n 2, 7), (7, .iload_n 2, 8), (8, .bipush 11, 10), (10, .if_icmp .lt 16, 13), (13, .iload_n 2, 14), (14, .bipush 16, 16), (16, .if_icmp .gt 10, 19), (19, .aload_n 0, 20), (20, .iload_n 1, 21), (21, .iload_n 2, 22), (22, .invokevirtual 128, 25), (25, .ireturn, 26), (26, .iload_n 2, 27), (27, .bipush 21, 29), (29, .if_icmp .lt 16, 32)],
    [(32, .iload_n 2, 33), (33, .bipush 26, 35), (35, .if_icmp .gt 10, 38), (38, .aload_n 0, 39), (39, .iload_n 1, 40), (40, .iload_n 2, 41), (41, .invokevirtual 132, 44), (44, .ireturn, 45), (45, .iconst 0, 46), (46, .ireturn, 47)]]),
  (prog_1_method_13_code, [
    [(0, .aload_n 0, 1), (1, .getfield 19, 4), (4, .iload_n 1, 5), (5, .iaload, 6), (6, .istore_n 3, 7), (7, .iload_n 3, 8), (8, .aload_n 0, 9), (9, .getfield 93, 12), (12, .iand, 13), (13, .istore 4, 15), (15, .iload_n 2, 16), (16, .tableswitch 211 11 16 #[40, 60, 101, 137, 169, 192], 56)],
    [(56, .aload_n 0, 57), (57, .getfield 19, 60), (60, .iload_n 1, 61), (61, .aload_n 0, 62), (62, .getfield 100, 65)],
    [(65, .iastore, 66), (66, .aload_n 0, 67), (67, .getfield 16, 70), (70, .iload_n 1, 71), (71, .bipush 12, 73), (73, .iastore, 74), (74, .iconst 0, 75), (75, .ireturn, 76), (76, .aload_n 0, 77), (77, .getfield 7, 80), (80, .iload 4, 82), (82, .iaload, 83), (83, .iload_n 3, 84), (84, .isub, 85), (85, .istore 5, 87), (87, .aload_n 0, 88), (88, .getfield 16, 91), (91, .iload_n 1, 92), (92, .iload 5, 94), (94, .ifCond .ne 8, 97)],
    [(97, .bipush 13, 99), (99, .goto 15, 102), (102, .iload 5, 104), (104, .ifCond .ge 8, 107), (107, .bipush 14, 109), (109, .goto 5, 112), (112, .bipush 11, 114), (114, .iastore, 115), (115, .iconst 0, 116), (116, .ireturn, 117), (117, .aload_n 0, 118), (118, .getfield 100, 121), (121, .iload_n 3, 122), (122, .if_icmp .ne 21, 125), (125, .aload_n 0, 126), (126, .iload_n 3, 127), (127, .iconst 1, 128)],
    [(128, .iadd, 129), (129, .putfield 100, 132), (132, .aload_n 0, 133), (133, .getfield 16, 136), (136, .iload_n 1, 137), (137, .bipush 15, 139), (139, .iastore, 140), (140, .goto 11, 143), (143, .aload_n 0, 144), (144, .getfield 16, 147), (147, .iload_n 1, 148), (148, .bipush 11, 150), (150, .iastore, 151), (151, .iconst 0, 152), (152, .ireturn, 153), (153, .iload_n 3, 154), (154, .aload_n 0, 155), (155, .getfield 97, 158), (158, .isub, 159), (159, .aload_n 0, 160)],
    [(160, .getfield 90, 163), (163, .if_icmp .ne 12, 166), (166, .aload_n 0, 167), (167, .iload_n 1, 168), (168, .iconst 2, 169), (169, .iconst 0, 170), (170, .invokevirtual 135, 173), (173, .iconst 1, 174), (174, .ireturn, 175), (175, .aload_n 0, 176), (176, .getfield 16, 179), (179, .iload_n 1, 180), (180, .bipush 11, 182), (182, .iastore, 183), (183, .iconst 0, 184), (184, .ireturn, 185), (185, .aload_n 0, 186), (186, .getfield 13, 189), (189, .iload 4, 191), (191, .aload_n 0, 192)],
    [(192, .getfield 22, 195), (195, .iload_n 1, 196), (196, .iaload, 197), (197, .iastore, 198), (198, .aload_n 0, 199), (199, .getfield 16, 202), (202, .iload_n 1, 203), (203, .bipush 16, 205), (205, .iastore, 206), (206, .iconst 0, 207), (207, .ireturn, 208), (208, .aload_n 0, 209), (209, .getfield 7, 212), (212, .iload 4, 214), (214, .iload_n 3, 215), (215, .iconst 1, 216), (216, .iadd, 217), (217, .iastore, 218), (218, .aload_n 0, 219), (219, .iload_n 1, 220), (220, .iconst 1, 221), (221, .iconst 0, 222), (222, .invokevirtual 135, 225)],
    [(225, .iconst 1, 226), (226, .ireturn, 227), (227, .iconst 0, 228), (228, .ireturn, 229)]]),
  (prog_1_method_16_code, [
    [(0, .aload_n 0, 1), (1, .iload_n 1, 2), (2, .invokevirtual 113, 5), (5, .ifCond .eq 12, 8), (8, .aload_n 0, 9), (9, .getfield 16, 12), (12, .iload_n 1, 13), (13, .iaload, 14), (14, .goto 4, 17), (17, .iconst (-1), 18), (18, .ireturn, 19)]]),
  (prog_1_method_9_code, [
    [(0, .aload_n 0, 1), (1, .iload_n 1, 2), (2, .invokevirtual 113, 5), (5, .ifCond .eq 19, 8), (8, .aload_n 0, 9), (9, .getfield 16, 12), (12, .iload_n 1, 13), (13, .iaload, 14), (14, .ifCond .ne 10, 17), (17, .aload_n 0, 18), (18, .invokevirtual 117, 21), (21, .ifCond .ne 5, 24), (24, .iconst 0, 25), (25, .ireturn, 26), (26, .aload_n 0, 27), (27, .iconst 2, 28), (28, .iload_n 1, 29), (29, .iconst 0, 30), (30, .invokevirtual 121, 33)],
    [(33, .aload_n 0, 34), (34, .getfield 22, 37), (37, .iload_n 1, 38), (38, .iconst 0, 39), (39, .iastore, 40), (40, .aload_n 0, 41), (41, .getfield 16, 44), (44, .iload_n 1, 45), (45, .bipush 21, 47), (47, .iastore, 48), (48, .iconst 1, 49), (49, .ireturn, 50)]]),
  (prog_1_method_14_code, [
    [(0, .aload_n 0, 1), (1, .getfield 19, 4), (4, .iload_n 1, 5), (5, .iaload, 6), (6, .istore_n 3, 7), (7, .iload_n 3, 8), (8, .aload_n 0, 9), (9, .getfield 93, 12), (12, .iand, 13), (13, .istore 4, 15), (15, .iload_n 2, 16), (16, .tableswitch 216 21 26 #[40, 60, 103, 139, 166, 189], 56)],
    [(56, .aload_n 0, 57), (57, .getfield 19, 60), (60, .iload_n 1, 61), (61, .aload_n 0, 62), (62, .getfield 97, 65)],
    [(65, .iastore, 66), (66, .aload_n 0, 67), (67, .getfield 16, 70), (70, .iload_n 1, 71), (71, .bipush 22, 73), (73, .iastore, 74), (74, .iconst 0, 75), (75, .ireturn, 76), (76, .aload_n 0, 77), (77, .getfield 7, 80), (80, .iload 4, 82), (82, .iaload, 83), (83, .iload_n 3, 84), (84, .iconst 1, 85), (85, .iadd, 86), (86, .isub, 87), (87, .istore 5, 89), (89, .aload_n 0, 90), (90, .getfield 16, 93), (93, .iload_n 1, 94), (94, .iload 5, 96)],
    [(96, .ifCond .ne 8, 99), (99, .bipush 23, 101), (101, .goto 15, 104), (104, .iload 5, 106), (106, .ifCond .ge 8, 109), (109, .bipush 24, 111), (111, .goto 5, 114), (114, .bipush 21, 116), (116, .iastore, 117), (117, .iconst 0, 118), (118, .ireturn, 119), (119, .aload_n 0, 120), (120, .getfield 97, 123), (123, .iload_n 3, 124), (124, .if_icmp .ne 21, 127), (127, .aload_n 0, 128)],
    [(128, .iload_n 3, 129), (129, .iconst 1, 130), (130, .iadd, 131), (131, .putfield 97, 134), (134, .aload_n 0, 135), (135, .getfield 16, 138), (138, .iload_n 1, 139), (139, .bipush 25, 141), (141, .iastore, 142), (142, .goto 11, 145), (145, .aload_n 0, 146), (146, .getfield 16, 149), (149, .iload_n 1, 150), (150, .bipush 21, 152), (152, .iastore, 153), (153, .iconst 0, 154), (154, .ireturn, 155), (155, .aload_n 0, 156), (156, .getfield 100, 159), (159, .iload_n 3, 160)],
    [(160, .if_icmp .ne 12, 163), (163, .aload_n 0, 164), (164, .iload_n 1, 165), (165, .iconst 3, 166), (166, .iconst 0, 167), (167, .invokevirtual 135, 170), (170, .iconst 1, 171), (171, .ireturn, 172), (172, .aload_n 0, 173), (173, .getfield 16, 176), (176, .iload_n 1, 177), (177, .bipush 21, 179), (179, .iastore, 180), (180, .iconst 0, 181), (181, .ireturn, 182), (182, .aload_n 0, 183), (183, .getfield 22, 186), (186, .iload_n 1, 187), (187, .aload_n 0, 188), (188, .getfield 13, 191), (191, .iload 4, 193)],
    [(193, .iaload, 194), (194, .iastore, 195), (195, .aload_n 0, 196), (196, .getfield 16, 199), (199, .iload_n 1, 200), (200, .bipush 26, 202), (202, .iastore, 203), (203, .iconst 0, 204), (204, .ireturn, 205), (205, .aload_n 0, 206), (206, .getfield 7, 209), (209, .iload 4, 211), (211, .iload_n 3, 212), (212, .aload_n 0, 213), (213, .getfield 90, 216), (216, .iadd, 217), (217, .iastore, 218), (218, .aload_n 0, 219), (219, .iload_n 1, 220), (220, .iconst 1, 221), (221, .aload_n 0, 222), (222, .getfield 22, 225)],
    [(225, .iload_n 1, 226), (226, .iaload, 227), (227, .invokevirtual 135, 230), (230, .iconst 1, 231), (231, .ireturn, 232), (232, .iconst 0, 233), (233, .ireturn, 234)]]),
  (prog_1_method_19_code, [
    [(0, .iconst 0, 1), (1, .istore_n 1, 2), (2, .iload_n 1, 3), (3, .iconst 4, 4), (4, .if_icmp .ge 41, 7), (7, .iload_n 1, 8), (8, .aload_n 0, 9), (9, .getfield 86, 12), (12, .if_icmp .ge 27, 15), (15, .aload_n 0, 16), (16, .getfield 16, 19), (19, .iload_n 1, 20), (20, .iaload, 21), (21, .bipush 11, 23), (23, .if_icmp .lt 16, 26), (26, .aload_n 0, 27), (27, .getfield 16, 30), (30, .iload_n 1, 31), (31, .iaload, 32)],
    [(32, .bipush 26, 34), (34, .if_icmp .gt 5, 37), (37, .iconst (-1), 38), (38, .ireturn, 39), (39, .iinc 1 1, 42), (42, .goto (-40), 45), (45, .aload_n 0, 46), (46, .getfield 100, 49), (49, .aload_n 0, 50), (50, .getfield 97, 53), (53, .isub, 54), (54, .ireturn, 55)]]),
  (prog_1_method_11_code, [
    [(0, .aload_n 0, 1), (1, .iload_n 2, 2), (2, .iconst 1, 3), (3, .bipush 64, 5), (5, .invokevirtual 82, 8), (8, .istore_n 3, 9), (9, .aload_n 0, 10), (10, .iload_n 1, 11), (11, .invokevirtual 113, 14), (14, .ifCond .ne 5, 17), (17, .iconst (-1), 18), (18, .ireturn, 19), (19, .aload_n 0, 20), (20, .getfield 16, 23), (23, .iload_n 1, 24), (24, .iaload, 25), (25, .ifCond .eq 13, 28), (28, .aload_n 0, 29), (29, .getfield 16, 32)],
    [(32, .iload_n 1, 33), (33, .iaload, 34), (34, .iconst 1, 35), (35, .if_icmp .ne 5, 38), (38, .iconst 0, 39), (39, .ireturn, 40), (40, .iconst 0, 41), (41, .istore 4, 43), (43, .iload 4, 45), (45, .iload_n 3, 46), (46, .if_icmp .ge 19, 49), (49, .aload_n 0, 50), (50, .iload_n 1, 51), (51, .invokevirtual 125, 54), (54, .ifCond .eq 5, 57), (57, .iconst 2, 58), (58, .ireturn, 59), (59, .iinc 4 1, 62), (62, .goto (-19), 65)],
    [(65, .iconst 1, 66), (66, .ireturn, 67)]]),
  (prog_1_method_15_code, [
    [(0, .aload_n 0, 1), (1, .getfield 25, 4), (4, .iload_n 1, 5), (5, .iload_n 2, 6), (6, .iastore, 7), (7, .aload_n 0, 8), (8, .getfield 28, 11), (11, .iload_n 1, 12), (12, .iload_n 3, 13), (13, .iastore, 14), (14, .aload_n 0, 15), (15, .iload_n 2, 16), (16, .invokevirtual 138, 19), (19, .istore 4, 21), (21, .aload_n 0, 22), (22, .iload 4, 24), (24, .iload_n 1, 25), (25, .iload_n 3, 26), (26, .invokevirtual 121, 29), (29, .aload_n 0, 30), (30, .getfield 16, 33)],
    [(33, .iload_n 1, 34), (34, .iconst 0, 35), (35, .iastore, 36), (36, .return_, 37)]]),
  (prog_1_method_7_code, [
    [(0, .iload_n 1, 1), (1, .iconst 2, 2), (2, .if_icmp .ne 5, 5), (5, .iconst 4, 6), (6, .ireturn, 7), (7, .iload_n 1, 8), (8, .iconst 3, 9), (9, .if_icmp .ne 5, 12), (12, .iconst 5, 13), (13, .ireturn, 14), (14, .iconst 3, 15), (15, .ireturn, 16)]]),
  (prog_1_method_17_code, [
    [(0, .aload_n 0, 1), (1, .iload_n 1, 2), (2, .invokevirtual 113, 5), (5, .ifCond .eq 12, 8), (8, .aload_n 0, 9), (9, .getfield 25, 12), (12, .iload_n 1, 13), (13, .iaload, 14), (14, .goto 4, 17), (17, .iconst (-1), 18), (18, .ireturn, 19)]]),
  (prog_1_method_18_code, [
    [(0, .aload_n 0, 1), (1, .iload_n 1, 2), (2, .invokevirtual 113, 5), (5, .ifCond .eq 12, 8), (8, .aload_n 0, 9), (9, .getfield 28, 12), (12, .iload_n 1, 13), (13, .iaload, 14), (14, .goto 4, 17), (17, .iconst 0, 18), (18, .ireturn, 19)]]),
  (prog_1_method_20_code, [
    [(0, .aload_n 0, 1), (1, .invokevirtual 142, 4), (4, .istore_n 2, 5), (5, .iload_n 2, 6), (6, .ifCond .lt 29, 9), (9, .iload_n 1, 10), (10, .ifCond .lt 25, 13), (13, .iload_n 1, 14), (14, .iload_n 2, 15), (15, .if_icmp .ge 20, 18), (18, .aload_n 0, 19), (19, .getfield 13, 22), (22, .aload_n 0, 23), (23, .getfield 97, 26), (26, .iload_n 1, 27), (27, .iadd, 28), (28, .aload_n 0, 29), (29, .getfield 93, 32)],
    [(32, .iand, 33), (33, .iaload, 34), (34, .ireturn, 35), (35, .iconst 0, 36), (36, .ireturn, 37)]]),
  (prog_1_method_24_code, [
    [(0, .aload_n 0, 1), (1, .getfield 103, 4), (4, .ireturn, 5)]]),
  (prog_1_method_25_code, [
    [(0, .iload_n 1, 1), (1, .ifCond .lt 34, 4), (4, .iload_n 1, 5), (5, .aload_n 0, 6), (6, .getfield 103, 9), (9, .if_icmp .ge 26, 12), (12, .iload_n 1, 13), (13, .bipush 64, 15), (15, .if_icmp .ge 20, 18), (18, .aload_n 0, 19), (19, .getfield 34, 22), (22, .iload_n 1, 23), (23, .iaload, 24), (24, .bipush 16, 26), (26, .imul, 27), (27, .aload_n 0, 28), (28, .getfield 37, 31), (31, .iload_n 1, 32)],
    [(32, .iaload, 33), (33, .iadd, 34), (34, .ireturn, 35), (35, .iconst 0, 36), (36, .ireturn, 37)]]),
  (prog_1_method_26_code, [
    [(0, .iload_n 1, 1), (1, .ifCond .lt 24, 4), (4, .iload_n 1, 5), (5, .aload_n 0, 6), (6, .getfield 103, 9), (9, .if_icmp .ge 16, 12), (12, .iload_n 1, 13), (13, .bipush 64, 15), (15, .if_icmp .ge 10, 18), (18, .aload_n 0, 19), (19, .getfield 40, 22), (22, .iload_n 1, 23), (23, .iaload, 24), (24, .ireturn, 25), (25, .iconst 0, 26), (26, .ireturn, 27)]]),
  (prog_1_method_27_code, [
    [(0, .aload_n 0, 1), (1, .invokevirtual 145, 4), (4, .istore_n 1, 5), (5, .iload_n 1, 6), (6, .bipush 6, 8), (8, .if_icmp .le 5, 11), (11, .iconst (-1), 12), (12, .ireturn, 13), (13, .aload_n 0, 14), (14, .invokevirtual 148, 17), (17, .aload_n 0, 18), (18, .invokevirtual 151, 21), (21, .aload_n 0, 22), (22, .invokevirtual 154, 25), (25, .ireturn, 26)]]),
  (prog_1_method_28_code, [
    [(0, .iconst 0, 1), (1, .istore_n 1, 2), (2, .iconst 0, 3), (3, .istore_n 2, 4), (4, .iload_n 2, 5), (5, .bipush 64, 7), (7, .if_icmp .ge 40, 10), (10, .iload_n 2, 11), (11, .aload_n 0, 12), (12, .getfield 103, 15), (15, .if_icmp .ge 32, 18), (18, .aload_n 0, 19), (19, .getfield 34, 22), (22, .iload_n 2, 23), (23, .iaload, 24), (24, .iconst 1, 25), (25, .if_icmp .eq 13, 28), (28, .aload_n 0, 29), (29, .getfield 34, 32)],
    [(32, .iload_n 2, 33), (33, .iaload, 34), (34, .iconst 2, 35), (35, .if_icmp .ne 6, 38), (38, .iinc 1 1, 41), (41, .iinc 2 1, 44), (44, .goto (-40), 47), (47, .iload_n 1, 48), (48, .ireturn, 49)]]),
  (prog_1_method_29_code, [
    [(0, .aload_n 0, 1), (1, .iconst 0, 2), (2, .putfield 157, 5), (5, .iconst 0, 6), (6, .istore_n 1, 7), (7, .iload_n 1, 8), (8, .iconst 4, 9), (9, .if_icmp .ge 16, 12), (12, .aload_n 0, 13), (13, .getfield 67, 16), (16, .iload_n 1, 17), (17, .iconst (-1), 18), (18, .iastore, 19), (19, .iinc 1 1, 22), (22, .goto (-15), 25), (25, .iconst 0, 26), (26, .istore_n 1, 27), (27, .iload_n 1, 28), (28, .bipush 64, 30), (30, .if_icmp .ge 71, 33)],
    [(33, .iload_n 1, 34), (34, .aload_n 0, 35), (35, .getfield 103, 38), (38, .if_icmp .ge 63, 41), (41, .aload_n 0, 42), (42, .getfield 37, 45), (45, .iload_n 1, 46), (46, .iaload, 47), (47, .istore_n 2, 48), (48, .iload_n 2, 49), (49, .ifCond .lt 46, 52), (52, .iload_n 2, 53), (53, .iconst 3, 54), (54, .if_icmp .le 6, 57), (57, .goto 38, 60), (60, .aload_n 0, 61), (61, .getfield 34, 64)],
    [(64, .iload_n 1, 65), (65, .iaload, 66), (66, .iconst 1, 67), (67, .if_icmp .eq 13, 70), (70, .aload_n 0, 71), (71, .getfield 34, 74), (74, .iload_n 1, 75), (75, .iaload, 76), (76, .iconst 2, 77), (77, .if_icmp .ne 12, 80), (80, .aload_n 0, 81), (81, .iload_n 1, 82), (82, .iload_n 2, 83), (83, .invokevirtual 160, 86), (86, .goto 9, 89), (89, .aload_n 0, 90), (90, .iload_n 1, 91), (91, .iload_n 2, 92), (92, .invokevirtual 164, 95), (95, .iinc 1 1, 98)],
    [(98, .goto (-71), 101), (101, .return_, 102)]]),
  (prog_1_method_30_code, [
    [(0, .aload_n 0, 1), (1, .getfield 157, 4), (4, .ifCond .lt 12, 7), (7, .aload_n 0, 8), (8, .getfield 157, 11), (11, .bipush 6, 13), (13, .if_icmp .lt 4, 16), (16, .return_, 17), (17, .aload_n 0, 18), (18, .getfield 157, 21), (21, .istore_n 3, 22), (22, .aload_n 0, 23), (23, .getfield 46, 26), (26, .iload_n 3, 27), (27, .aload_n 0, 28), (28, .getfield 34, 31), (31, .iload_n 1, 32)],
    [(32, .iaload, 33), (33, .iconst 1, 34), (34, .if_icmp .ne 7, 37), (37, .iconst 1, 38), (38, .goto 4, 41), (41, .iconst 2, 42), (42, .iastore, 43), (43, .aload_n 0, 44), (44, .getfield 49, 47), (47, .iload_n 3, 48), (48, .aload_n 0, 49), (49, .getfield 40, 52), (52, .iload_n 1, 53), (53, .iaload, 54), (54, .iastore, 55), (55, .aload_n 0, 56), (56, .getfield 52, 59), (59, .iload_n 3, 60), (60, .iload_n 1, 61), (61, .iastore, 62), (62, .aload_n 0, 63), (63, .getfield 55, 66)],
    [(66, .iload_n 3, 67), (67, .iconst (-1), 68), (68, .iastore, 69), (69, .aload_n 0, 70), (70, .getfield 58, 73), (73, .iload_n 3, 74), (74, .iconst 0, 75), (75, .iastore, 76), (76, .aload_n 0, 77), (77, .getfield 61, 80), (80, .iload_n 3, 81), (81, .iconst 0, 82), (82, .iastore, 83), (83, .aload_n 0, 84), (84, .getfield 67, 87), (87, .iload_n 2, 88), (88, .iload_n 3, 89), (89, .iastore, 90), (90, .aload_n 0, 91), (91, .dup, 92), (92, .getfield 157, 95), (95, .iconst 1, 96)],
    [(96, .iadd, 97), (97, .putfield 157, 100), (100, .return_, 101)]]),
  (prog_1_method_31_code, [
    [(0, .aload_n 0, 1), (1, .getfield 67, 4), (4, .iload_n 2, 5), (5, .iaload, 6), (6, .istore_n 3, 7), (7, .iload_n 3, 8), (8, .ifCond .lt 9, 11), (11, .iload_n 3, 12), (12, .bipush 6, 14), (14, .if_icmp .lt 4, 17), (17, .return_, 18), (18, .aload_n 0, 19), (19, .getfield 34, 22), (22, .iload_n 1, 23), (23, .iaload, 24), (24, .istore 4, 26), (26, .aload_n 0, 27), (27, .getfield 55, 30), (30, .iload_n 3, 31), (31, .iload_n 1, 32)],
    [(32, .iastore, 33), (33, .aload_n 0, 34), (34, .getfield 58, 37), (37, .iload_n 3, 38), (38, .iload 4, 40), (40, .iconst 4, 41), (41, .if_icmp .ne 7, 44), (44, .iconst 2, 45), (45, .goto 14, 48), (48, .iload 4, 50), (50, .iconst 5, 51), (51, .if_icmp .ne 7, 54), (54, .iconst 3, 55), (55, .goto 4, 58), (58, .iconst 1, 59), (59, .iastore, 60), (60, .aload_n 0, 61), (61, .getfield 61, 64)],
    [(64, .iload_n 3, 65), (65, .aload_n 0, 66), (66, .getfield 40, 69), (69, .iload_n 1, 70), (70, .iaload, 71), (71, .iastore, 72), (72, .aload_n 0, 73), (73, .getfield 67, 76), (76, .iload_n 2, 77), (77, .iconst (-1), 78), (78, .iastore, 79), (79, .return_, 80)]]),
  (prog_1_method_32_code, [
    [(0, .aload_n 0, 1), (1, .iconst 0, 2), (2, .putfield 167, 5), (5, .iconst 0, 6), (6, .istore_n 1, 7), (7, .iload_n 1, 8), (8, .bipush 6, 10), (10, .if_icmp .ge 45, 13), (13, .iload_n 1, 14), (14, .aload_n 0, 15), (15, .getfield 157, 18), (18, .if_icmp .ge 37, 21), (21, .aload_n 0, 22), (22, .getfield 64, 25), (25, .iload_n 1, 26), (26, .iconst 0, 27), (27, .iastore, 28), (28, .aload_n 0, 29), (29, .getfield 55, 32)],
    [(32, .iload_n 1, 33), (33, .iaload, 34), (34, .ifCond .lt 15, 37), (37, .aload_n 0, 38), (38, .dup, 39), (39, .getfield 167, 42), (42, .iconst 1, 43), (43, .iload_n 1, 44), (44, .ishl, 45), (45, .ior, 46), (46, .putfield 167, 49), (49, .iinc 1 1, 52), (52, .goto (-45), 55), (55, .iconst 0, 56), (56, .istore_n 1, 57), (57, .iload_n 1, 58), (58, .bipush 6, 60), (60, .if_icmp .ge 80, 63), (63, .iload_n 1, 64)],
    [(64, .aload_n 0, 65), (65, .getfield 157, 68), (68, .if_icmp .ge 72, 71), (71, .iconst 0, 72), (72, .istore_n 2, 73), (73, .iload_n 2, 74), (74, .bipush 6, 76), (76, .if_icmp .ge 58, 79), (79, .iload_n 2, 80), (80, .aload_n 0, 81), (81, .getfield 157, 84), (84, .if_icmp .ge 50, 87), (87, .iload_n 2, 88), (88, .iload_n 1, 89), (89, .if_icmp .eq 39, 92), (92, .aload_n 0, 93), (93, .getfield 55, 96)],
    [(96, .iload_n 2, 97), (97, .iaload, 98), (98, .ifCond .lt 30, 101), (101, .aload_n 0, 102), (102, .getfield 55, 105), (105, .iload_n 2, 106), (106, .iaload, 107), (107, .aload_n 0, 108), (108, .getfield 52, 111), (111, .iload_n 1, 112), (112, .iaload, 113), (113, .if_icmp .ge 15, 116), (116, .aload_n 0, 117), (117, .getfield 64, 120), (120, .iload_n 1, 121), (121, .dup2, 122), (122, .iaload, 123), (123, .iconst 1, 124), (124, .iload_n 2, 125), (125, .ishl, 126), (126, .ior, 127), (127, .iastore, 128)],
    [(128, .iinc 2 1, 131), (131, .goto (-58), 134), (134, .iinc 1 1, 137), (137, .goto (-80), 140), (140, .return_, 141)]]),
  (prog_1_method_33_code, [
    [(0, .aload_n 0, 1), (1, .getfield 167, 4), (4, .ifCond .ne 5, 7), (7, .iconst 1, 8), (8, .ireturn, 9), (9, .aload_n 0, 10), (10, .getfield 73, 13), (13, .iconst 0, 14), (14, .aload_n 0, 15), (15, .getfield 106, 18), (18, .iastore, 19), (19, .iconst 0, 20), (20, .istore_n 1, 21), (21, .iload_n 1, 22), (22, .bipush 8, 24), (24, .if_icmp .ge 29, 27), (27, .iload_n 1, 28), (28, .aload_n 0, 29), (29, .getfield 106, 32)],
    [(32, .if_icmp .ge 21, 35), (35, .aload_n 0, 36), (36, .getfield 70, 39), (39, .iload_n 1, 40), (40, .aload_n 0, 41), (41, .getfield 43, 44), (44, .iload_n 1, 45), (45, .iaload, 46), (46, .iastore, 47), (47, .iinc 1 1, 50), (50, .goto (-29), 53), (53, .iconst 0, 54), (54, .istore_n 1, 55), (55, .iconst 0, 56), (56, .istore_n 2, 57), (57, .aload_n 0, 58), (58, .getfield 76, 61), (61, .iconst 0, 62), (62, .iconst 0, 63), (63, .iastore, 64)],
    [(64, .iconst 0, 65), (65, .istore_n 3, 66), (66, .iload_n 3, 67), (67, .ldc 170, 69), (69, .if_icmp .ge 152, 72), (72, .aload_n 0, 73), (73, .getfield 76, 76), (76, .iload_n 1, 77), (77, .iaload, 78), (78, .istore 4, 80), (80, .iload 4, 82), (82, .aload_n 0, 83), (83, .getfield 157, 86), (86, .if_icmp .ge 10, 89), (89, .iload 4, 91), (91, .bipush 6, 93), (93, .if_icmp .lt 28, 96)],
    [(96, .iload_n 1, 97), (97, .ifCond .ne 5, 100), (100, .iconst 0, 101), (101, .ireturn, 102), (102, .iinc 1 (-1), 105), (105, .iload_n 2, 106), (106, .iconst 1, 107), (107, .aload_n 0, 108), (108, .getfield 79, 111), (111, .iload_n 1, 112), (112, .iaload, 113), (113, .ishl, 114), (114, .iconst (-1), 115), (115, .ixor, 116), (116, .iand, 117), (117, .istore_n 2, 118), (118, .goto 97, 121), (121, .aload_n 0, 122), (122, .getfield 76, 125), (125, .iload_n 1, 126), (126, .iload 4, 128)],
    [(128, .iconst 1, 129), (129, .iadd, 130), (130, .iastore, 131), (131, .iload_n 2, 132), (132, .iconst 1, 133), (133, .iload 4, 135), (135, .ishl, 136), (136, .iand, 137), (137, .ifCond .ne 78, 140), (140, .aload_n 0, 141), (141, .getfield 64, 144), (144, .iload 4, 146), (146, .iaload, 147), (147, .iload_n 2, 148), (148, .iand, 149), (149, .aload_n 0, 150), (150, .getfield 64, 153), (153, .iload 4, 155), (155, .iaload, 156), (156, .if_icmp .eq 6, 159), (159, .goto 56, 162)],
    [(162, .aload_n 0, 163), (163, .iload 4, 165), (165, .iload_n 1, 166), (166, .invokevirtual 171, 169), (169, .ifCond .ne 6, 172), (172, .goto 43, 175), (175, .aload_n 0, 176), (176, .getfield 79, 179), (179, .iload_n 1, 180), (180, .iload 4, 182), (182, .iastore, 183), (183, .iload_n 2, 184), (184, .iconst 1, 185), (185, .iload 4, 187), (187, .ishl, 188), (188, .ior, 189), (189, .istore_n 2, 190), (190, .iinc 1 1, 193)],
    [(193, .aload_n 0, 194), (194, .getfield 76, 197), (197, .iload_n 1, 198), (198, .iconst 0, 199), (199, .iastore, 200), (200, .iload_n 2, 201), (201, .aload_n 0, 202), (202, .getfield 167, 205), (205, .iand, 206), (206, .aload_n 0, 207), (207, .getfield 167, 210), (210, .if_icmp .ne 5, 213), (213, .iconst 1, 214), (214, .ireturn, 215), (215, .iinc 3 1, 218), (218, .goto (-152), 221), (221, .iconst 0, 222), (222, .ireturn, 223)]]),
  (prog_1_method_34_code, [
    [(0, .iload_n 2, 1), (1, .ifCond .lt 18, 4), (4, .iload_n 2, 5), (5, .iconst 5, 6), (6, .if_icmp .gt 13, 9), (9, .iload_n 1, 10), (10, .ifCond .lt 9, 13), (13, .iload_n 1, 14), (14, .bipush 6, 16), (16, .if_icmp .lt 5, 19), (19, .iconst 0, 20), (20, .ireturn, 21), (21, .aload_n 0, 22), (22, .getfield 46, 25), (25, .iload_n 1, 26), (26, .iaload, 27), (27, .iconst 1, 28), (28, .if_icmp .ne 10, 31), (31, .aload_n 0, 32)],
    [(32, .iload_n 1, 33), (33, .iload_n 2, 34), (34, .invokevirtual 174, 37), (37, .ireturn, 38), (38, .aload_n 0, 39), (39, .iload_n 1, 40), (40, .iload_n 2, 41), (41, .invokevirtual 177, 44), (44, .ireturn, 45)]]),
  (prog_1_method_35_code, [
    [(0, .aload_n 0, 1), (1, .getfield 73, 4), (4, .iload_n 2, 5), (5, .iaload, 6), (6, .istore_n 3, 7), (7, .iload_n 3, 8), (8, .aload_n 0, 9), (9, .getfield 90, 12), (12, .if_icmp .ge 7, 15), (15, .iconst 1, 16), (16, .goto 4, 19), (19, .iconst 2, 20), (20, .istore 4, 22), (22, .aload_n 0, 23), (23, .getfield 55, 26), (26, .iload_n 1, 27), (27, .iaload, 28), (28, .ifCond .lt 16, 31), (31, .aload_n 0, 32)],
    [(32, .getfield 58, 35), (35, .iload_n 1, 36), (36, .iaload, 37), (37, .iload 4, 39), (39, .if_icmp .eq 5, 42), (42, .iconst 0, 43), (43, .ireturn, 44), (44, .aload_n 0, 45), (45, .iload_n 2, 46), (46, .iconst 0, 47), (47, .invokevirtual 180, 50), (50, .iload 4, 52), (52, .iconst 1, 53), (53, .if_icmp .ne 57, 56), (56, .aload_n 0, 57), (57, .getfield 73, 60), (60, .iload_n 2, 61), (61, .iconst 1, 62), (62, .iadd, 63), (63, .iaload, 64)],
    [(64, .istore 5, 66), (66, .iload 5, 68), (68, .ifCond .lt 42, 71), (71, .iload 5, 73), (73, .bipush 8, 75), (75, .if_icmp .ge 35, 78), (78, .aload_n 0, 79), (79, .getfield 70, 82), (82, .iload_n 2, 83), (83, .iconst 1, 84), (84, .iadd, 85), (85, .bipush 8, 87), (87, .imul, 88), (88, .iload 5, 90), (90, .iadd, 91), (91, .aload_n 0, 92), (92, .getfield 49, 95), (95, .iload_n 1, 96)],
    [(96, .iaload, 97), (97, .iastore, 98), (98, .aload_n 0, 99), (99, .getfield 73, 102), (102, .iload_n 2, 103), (103, .iconst 1, 104), (104, .iadd, 105), (105, .iload 5, 107), (107, .iconst 1, 108), (108, .iadd, 109), (109, .iastore, 110), (110, .iconst 1, 111), (111, .ireturn, 112)]]),
  (prog_1_method_37_code, [
    [(0, .iload_n 1, 1), (1, .bipush 8, 3), (3, .imul, 4), (4, .istore_n 3, 5), (5, .iload_n 3, 6), (6, .bipush 8, 8), (8, .iadd, 9), (9, .istore 4, 11), (11, .aload_n 0, 12), (12, .getfield 73, 15), (15, .iload_n 1, 16), (16, .iaload, 17), (17, .istore 5, 19), (19, .iconst 0, 20), (20, .istore 6, 22), (22, .iload_n 2, 23), (23, .istore 7, 25), (25, .iload 7, 27), (27, .bipush 8, 29), (29, .if_icmp .ge 41, 32)],
    [(32, .iload 7, 34), (34, .iload 5, 36), (36, .if_icmp .lt 6, 39), (39, .goto 31, 42), (42, .aload_n 0, 43), (43, .getfield 70, 46), (46, .iload 4, 48), (48, .iload 6, 50), (50, .iadd, 51), (51, .aload_n 0, 52), (52, .getfield 70, 55), (55, .iload_n 3, 56), (56, .iload 7, 58), (58, .iadd, 59), (59, .iaload, 60), (60, .iastore, 61), (61, .iinc 6 1, 64)],
    [(64, .iinc 7 1, 67), (67, .goto (-42), 70), (70, .aload_n 0, 71), (71, .getfield 73, 74), (74, .iload_n 1, 75), (75, .iconst 1, 76), (76, .iadd, 77), (77, .iload 6, 79), (79, .iastore, 80), (80, .return_, 81)]]),
  (prog_1_method_36_code, [
    [(0, .aload_n 0, 1), (1, .getfield 73, 4), (4, .iload_n 2, 5), (5, .iaload, 6), (6, .istore_n 3, 7), (7, .aload_n 0, 8), (8, .getfield 55, 11), (11, .iload_n 1, 12), (12, .iaload, 13), (13, .ifCond .lt 7, 16), (16, .iconst 1, 17), (17, .goto 4, 20), (20, .iconst 0, 21), (21, .istore 4, 23), (23, .iload_n 3, 24), (24, .ifCond .le 50, 27), (27, .aload_n 0, 28), (28, .getfield 70, 31), (31, .iload_n 2, 32)],
    [(32, .bipush 8, 34), (34, .imul, 35), (35, .iaload, 36), (36, .istore 5, 38), (38, .iload 4, 40), (40, .ifCond .eq 26, 43), (43, .aload_n 0, 44), (44, .getfield 58, 47), (47, .iload_n 1, 48), (48, .iaload, 49), (49, .iconst 1, 50), (50, .if_icmp .ne 14, 53), (53, .aload_n 0, 54), (54, .getfield 61, 57), (57, .iload_n 1, 58), (58, .iaload, 59), (59, .iload 5, 61), (61, .if_icmp .eq 5, 64)],
    [(64, .iconst 0, 65), (65, .ireturn, 66), (66, .aload_n 0, 67), (67, .iload_n 2, 68), (68, .iconst 1, 69), (69, .invokevirtual 180, 72), (72, .iconst 1, 73), (73, .ireturn, 74), (74, .iload 4, 76), (76, .ifCond .eq 15, 79), (79, .aload_n 0, 80), (80, .getfield 58, 83), (83, .iload_n 1, 84), (84, .iaload, 85), (85, .iconst 3, 86), (86, .if_icmp .eq 5, 89), (89, .iconst 0, 90), (90, .ireturn, 91), (91, .aload_n 0, 92), (92, .iload_n 2, 93), (93, .iconst 0, 94), (94, .invokevirtual 180, 97)],
    [(97, .iconst 1, 98), (98, .ireturn, 99)]])]
def own_mis : List MI := [(0, 14, 4, some .boolean, false, 8, 192), (1, 8, 4, none, true, 1, 16), (1, 4, 4, some .int, false, 0, 0), (1, 3, 3, some .boolean, false, 2, 27), (1, 2, 2, some .boolean, false, 0, 0), (1, 2, 1, some .boolean, false, 1, 14), (1, 3, 1, some .int, false, 0, 0), (1, 4, 4, none, false, 0, 0), (1, 2, 2, some .int, false, 4, 62), (1, 3, 2, some .boolean, false, 3, 48), (1, 6, 3, some .boolean, false, 2, 31), (1, 2, 2, some .int, false, 1, 13), (1, 2, 2, some .boolean, false, 2, 27), (1, 6, 3, some .boolean, false, 2, 31), (1, 2, 1, some .int, false, 0, 0), (1, 5, 3, some .int, false, 4, 62), (1, 5, 4, none, false, 1, 15), (1, 2, 2, some .int, false, 0, 0), (1, 2, 2, some .int, false, 1, 13), (1, 2, 2, some .int, false, 1, 13), (1, 3, 2, some .int, false, 1, 13), (1, 1, 1, some .int, false, 0, 0), (1, 2, 2, some .int, false, 0, 0), (1, 2, 2, some .int, false, 0, 0), (1, 2, 1, some .int, false, 4, 66), (1, 3, 1, some .int, false, 0, 0), (1, 3, 1, none, false, 1, 16), (1, 4, 3, none, false, 0, 0), (1, 5, 3, none, false, 0, 0), (1, 3, 1, none, false, 0, 0), (1, 5, 1, some .int, false, 3, 50), (1, 3, 3, some .boolean, false, 2, 36), (1, 6, 3, some .boolean, false, 1, 19), (1, 8, 3, none, false, 0, 0), (1, 6, 3, some .boolean, false, 1, 19)]
def own_links : List (Nat × Nat × Nat × Nat) := [(0, 9, 1, 1), (1, 1, 4, 0), (1, 82, 3, 2), (0, 12, 2, 3), (1, 113, 3, 4), (1, 117, 3, 5), (1, 109, 3, 6), (1, 121, 3, 7), (0, 16, 2, 8), (1, 125, 3, 9), (1, 128, 3, 10), (0, 20, 2, 11), (0, 23, 2, 12), (1, 132, 3, 13), (0, 27, 2, 14), (0, 31, 2, 15), (1, 135, 3, 16), (1, 138, 3, 17), (0, 35, 2, 18), (0, 38, 2, 19), (0, 41, 2, 20), (1, 142, 2, 14), (0, 44, 2, 21), (0, 47, 2, 22), (0, 50, 2, 23), (0, 53, 2, 24), (1, 145, 3, 25), (1, 148, 3, 26), (1, 160, 3, 27), (1, 164, 3, 28), (1, 151, 3, 29), (1, 154, 3, 30), (1, 171, 3, 31), (1, 174, 3, 32), (1, 180, 3, 33), (1, 177, 3, 34), (0, 7, 5, 0)]
def own_flds : List (Nat × Nat × Nat) := [(1, 7, 0), (1, 13, 1), (1, 16, 2), (1, 19, 3), (1, 22, 4), (1, 25, 5), (1, 28, 6), (1, 31, 7), (1, 34, 8), (1, 37, 9), (1, 40, 10), (1, 43, 11), (1, 46, 12), (1, 49, 13), (1, 52, 14), (1, 55, 15), (1, 58, 16), (1, 61, 17), (1, 64, 18), (1, 67, 19), (1, 70, 20), (1, 73, 21), (1, 76, 22), (1, 79, 23), (1, 86, 24), (1, 90, 25), (1, 93, 26), (1, 97, 27), (1, 100, 28), (1, 103, 29), (1, 106, 30), (1, 157, 31), (1, 167, 32)]
def own_kons : List (Nat × Nat × Value) := [(1, 96, .int (2147483584)), (1, 170, .int (200000))]
def own_fields : List (String × String × Nat × Bool) := [("seq", "[I", 3, false), ("val", "[I", 3, false), ("st", "[I", 3, false), ("locP", "[I", 3, false), ("locV", "[I", 3, false), ("lastSt", "[I", 3, false), ("lastVal", "[I", 3, false), ("logKind", "[I", 3, false), ("evKind", "[I", 3, false), ("evThread", "[I", 3, false), ("evVal", "[I", 3, false), ("snap", "[I", 3, false), ("opKind", "[I", 3, false), ("opArg", "[I", 3, false), ("opInv", "[I", 3, false), ("opRes", "[I", 3, false), ("opStatus", "[I", 3, false), ("opRVal", "[I", 3, false), ("predMask", "[I", 3, false), ("openOp", "[I", 3, false), ("qBuf", "[I", 3, false), ("qLen", "[I", 3, false), ("nextCand", "[I", 3, false), ("chosen", "[I", 3, false), ("nThreads", "I", 0, false), ("cap", "I", 0, false), ("mask", "I", 0, false), ("head", "I", 0, false), ("tail", "I", 0, false), ("histLen", "I", 0, false), ("snapLen", "I", 0, false), ("opCount", "I", 0, false), ("completeMask", "I", 0, false)]
def own_P : Prog := (codeAt own_cs, fun k => own_mis.getD k (0, 0, 0, none, false, 0, 0), lookT own_links, lookT own_flds, lookT own_kons, own_fields, 33, 0, 64, 896)
def own_nms : List MethodName := [⟨"SeqRingQueueL3", "law", "(IIII)Z"⟩, ⟨"SeqRingQueue", "<init>", "(III)V"⟩, ⟨"SeqRingQueue", "clamp", "(III)I"⟩, ⟨"SeqRingQueue", "startEnqueue", "(II)Z"⟩, ⟨"SeqRingQueue", "valid", "(I)Z"⟩, ⟨"SeqRingQueue", "hasRoom", "()Z"⟩, ⟨"SeqRingQueue", "pending", "()I"⟩, ⟨"SeqRingQueue", "append", "(III)V"⟩, ⟨"SeqRingQueue", "step", "(I)I"⟩, ⟨"SeqRingQueue", "doStep", "(I)Z"⟩, ⟨"SeqRingQueue", "enqStep", "(II)Z"⟩, ⟨"SeqRingQueue", "state", "(I)I"⟩, ⟨"SeqRingQueue", "startDequeue", "(I)Z"⟩, ⟨"SeqRingQueue", "deqStep", "(II)Z"⟩, ⟨"SeqRingQueue", "contentCount", "()I"⟩, ⟨"SeqRingQueue", "run", "(II)I"⟩, ⟨"SeqRingQueue", "finish", "(III)V"⟩, ⟨"SeqRingQueue", "resKind", "(I)I"⟩, ⟨"SeqRingQueue", "lastStatus", "(I)I"⟩, ⟨"SeqRingQueue", "lastValue", "(I)I"⟩, ⟨"SeqRingQueue", "contentAt", "(I)I"⟩, ⟨"SeqRingQueue", "historyLength", "()I"⟩, ⟨"SeqRingQueue", "historyEvent", "(I)I"⟩, ⟨"SeqRingQueue", "historyValue", "(I)I"⟩, ⟨"SeqRingQueue", "check", "()I"⟩, ⟨"SeqRingQueue", "countInvocations", "()I"⟩, ⟨"SeqRingQueue", "parseOps", "()V"⟩, ⟨"SeqRingQueue", "addOp", "(II)V"⟩, ⟨"SeqRingQueue", "closeOp", "(II)V"⟩, ⟨"SeqRingQueue", "buildPreds", "()V"⟩, ⟨"SeqRingQueue", "search", "()I"⟩, ⟨"SeqRingQueue", "apply", "(II)Z"⟩, ⟨"SeqRingQueue", "applyEnq", "(II)Z"⟩, ⟨"SeqRingQueue", "copyQueue", "(II)V"⟩, ⟨"SeqRingQueue", "applyDeq", "(II)Z"⟩]
def own_nm (k : Nat) : MethodName := own_nms.getD k ⟨"", "", ""⟩
def own_cn (c : Nat) : String := match c with | 0 => "SeqRingQueueL3" | _ => "SeqRingQueue"
theorem own_pn0 : plainName "SeqRingQueueL3" = true := by first | (simp [plainName, overriddenIn]; done) | decide +kernel
theorem own_pn1 : plainName "SeqRingQueue" = true := by first | (simp [plainName, overriddenIn]; done) | decide +kernel
theorem own_ne0 : "SeqRingQueueL3" ≠ "java/lang/invoke/MethodHandle" ∧ "SeqRingQueueL3" ≠ "java/lang/invoke/VarHandle" := by decide
theorem own_ne1 : "SeqRingQueue" ≠ "java/lang/invoke/MethodHandle" ∧ "SeqRingQueue" ≠ "java/lang/invoke/VarHandle" := by decide
theorem own_pd0 : parseMethodDescriptor "(III)V" = some ⟨[.int, .int, .int], none⟩ := by decide +kernel
theorem own_pd1 : parseMethodDescriptor "(III)I" = some ⟨[.int, .int, .int], some .int⟩ := by decide +kernel
theorem own_pd2 : parseMethodDescriptor "(II)Z" = some ⟨[.int, .int], some .boolean⟩ := by decide +kernel
theorem own_pd3 : parseMethodDescriptor "(I)Z" = some ⟨[.int], some .boolean⟩ := by decide +kernel
theorem own_pd4 : parseMethodDescriptor "()Z" = some ⟨[], some .boolean⟩ := by decide +kernel
theorem own_pd5 : parseMethodDescriptor "()I" = some ⟨[], some .int⟩ := by decide +kernel
theorem own_pd6 : parseMethodDescriptor "(I)I" = some ⟨[.int], some .int⟩ := by decide +kernel
theorem own_pd7 : parseMethodDescriptor "(II)I" = some ⟨[.int, .int], some .int⟩ := by decide +kernel
theorem own_pd8 : parseMethodDescriptor "()V" = some ⟨[], none⟩ := by decide +kernel
theorem own_pd9 : parseMethodDescriptor "(II)V" = some ⟨[.int, .int], none⟩ := by decide +kernel
def own_kcm : ByteArray × List (List (Nat × Instr × Nat)) := own_cs.headD (⟨#[]⟩, [])
def own_kcn : CodeL := own_cs.drop 1
theorem own_kca {α : Type} {f : α → Bool} {l : List α} (n : Nat) (h1 : (l.take n).all f = true) (h2 : (l.drop n).all f = true) : l.all f = true := by
  rw [← List.take_append_drop n l, List.all_append, h1, h2]; rfl
set_option maxRecDepth 100000 in
theorem own_kc0_0 : ((own_kcm.2.take 8).all fun c => c.all (okI own_kcm.1)) = true := by decide +kernel
set_option maxRecDepth 100000 in
theorem own_kc0_1 : (((own_kcm.2.drop 8).take 8).all fun c => c.all (okI own_kcm.1)) = true := by decide +kernel
set_option maxRecDepth 100000 in
theorem own_kc0_2 : ((((own_kcm.2.drop 8).drop 8).take 8).all fun c => c.all (okI own_kcm.1)) = true := by decide +kernel
set_option maxRecDepth 100000 in
theorem own_kc0_3 : ((((own_kcm.2.drop 8).drop 8).drop 8).all fun c => c.all (okI own_kcm.1)) = true := by decide +kernel
set_option maxRecDepth 100000 in
theorem own_kcz : okCs own_kcn = true := by decide +kernel
theorem own_kc0 : (own_kcm.2.all fun c => c.all (okI own_kcm.1)) = true := (own_kca 8 own_kc0_0 (own_kca 8 own_kc0_1 (own_kca 8 own_kc0_2 own_kc0_3)))
theorem own_kch {α : Type} (d : α) : ∀ l : List α, ¬ l.length = 0 → l = l.headD d :: l.drop 1
  | [], h => absurd rfl h
  | a :: r, _ => rfl
theorem own_okcs : okCs own_cs = true := by
  have e : own_cs = own_kcm :: own_kcn := own_kch (⟨#[]⟩, []) own_cs (Nat.succ_ne_zero _)
  have h := own_kcz
  have g := own_kc0
  unfold okCs at h ⊢
  rw [e]
  generalize own_kcm = a at g ⊢
  generalize own_kcn = b at h ⊢
  rw [List.all_cons, g, Bool.true_and]
  exact h
def own_ty (t : ArrayType) : Bool := decide (t = .int)
theorem own_tyok : tyCs own_ty own_cs = true := by decide +kernel
theorem own_nodup : (own_fields.map (·.1)).Nodup := by decide +kernel
set_option maxRecDepth 100000 in
set_option maxHeartbeats 4000000 in
theorem own_good {Z : State} {a0 : Array Value} (hw : ∀ d ∈ tables_1, d.before a0 Z = true) : Good own_P own_nm (bcOf own_cs) own_cn "SeqRingQueue" Z a0 := by
  refine good_of (ty := own_ty) rfl own_okcs ?_ ?_ own_nodup ?_ (hw _ (List.mem_of_getElem? (i := 1) rfl)) (hw _ (List.mem_of_getElem? (i := 2) rfl)) own_tyok ?_ ?_
  · exact ⟨⟨_, _, _, _, rfl, (hw _ (List.mem_of_getElem? (i := 10) rfl))⟩,
      ⟨_, _, _, _, rfl, (hw _ (List.mem_of_getElem? (i := 12) rfl))⟩,
      ⟨_, _, _, _, rfl, (hw _ (List.mem_of_getElem? (i := 14) rfl))⟩,
      ⟨_, _, _, _, rfl, (hw _ (List.mem_of_getElem? (i := 16) rfl))⟩,
      ⟨_, _, _, _, rfl, (hw _ (List.mem_of_getElem? (i := 18) rfl))⟩,
      ⟨_, _, _, _, rfl, (hw _ (List.mem_of_getElem? (i := 20) rfl))⟩,
      ⟨_, _, _, _, rfl, (hw _ (List.mem_of_getElem? (i := 22) rfl))⟩,
      ⟨_, _, _, _, rfl, (hw _ (List.mem_of_getElem? (i := 24) rfl))⟩,
      ⟨_, _, _, _, rfl, (hw _ (List.mem_of_getElem? (i := 26) rfl))⟩,
      ⟨_, _, _, _, rfl, (hw _ (List.mem_of_getElem? (i := 28) rfl))⟩,
      ⟨_, _, _, _, rfl, (hw _ (List.mem_of_getElem? (i := 30) rfl))⟩,
      ⟨_, _, _, _, rfl, (hw _ (List.mem_of_getElem? (i := 32) rfl))⟩,
      ⟨_, _, _, _, rfl, (hw _ (List.mem_of_getElem? (i := 34) rfl))⟩,
      ⟨_, _, _, _, rfl, (hw _ (List.mem_of_getElem? (i := 36) rfl))⟩,
      ⟨_, _, _, _, rfl, (hw _ (List.mem_of_getElem? (i := 38) rfl))⟩,
      ⟨_, _, _, _, rfl, (hw _ (List.mem_of_getElem? (i := 40) rfl))⟩,
      ⟨_, _, _, _, rfl, (hw _ (List.mem_of_getElem? (i := 42) rfl))⟩,
      ⟨_, _, _, _, rfl, (hw _ (List.mem_of_getElem? (i := 44) rfl))⟩,
      ⟨_, _, _, _, rfl, (hw _ (List.mem_of_getElem? (i := 46) rfl))⟩,
      ⟨_, _, _, _, rfl, (hw _ (List.mem_of_getElem? (i := 48) rfl))⟩,
      ⟨_, _, _, _, rfl, (hw _ (List.mem_of_getElem? (i := 50) rfl))⟩,
      ⟨_, _, _, _, rfl, (hw _ (List.mem_of_getElem? (i := 52) rfl))⟩,
      ⟨_, _, _, _, rfl, (hw _ (List.mem_of_getElem? (i := 54) rfl))⟩,
      ⟨_, _, _, _, rfl, (hw _ (List.mem_of_getElem? (i := 56) rfl))⟩,
      ⟨_, _, _, _, rfl, (hw _ (List.mem_of_getElem? (i := 62) rfl))⟩,
      ⟨_, _, _, _, rfl, (hw _ (List.mem_of_getElem? (i := 64) rfl))⟩,
      ⟨_, _, _, _, rfl, (hw _ (List.mem_of_getElem? (i := 66) rfl))⟩,
      ⟨_, _, _, _, rfl, (hw _ (List.mem_of_getElem? (i := 69) rfl))⟩,
      ⟨_, _, _, _, rfl, (hw _ (List.mem_of_getElem? (i := 71) rfl))⟩,
      ⟨_, _, _, _, rfl, (hw _ (List.mem_of_getElem? (i := 73) rfl))⟩,
      ⟨_, _, _, _, rfl, (hw _ (List.mem_of_getElem? (i := 75) rfl))⟩,
      ⟨_, _, _, _, rfl, (hw _ (List.mem_of_getElem? (i := 187) rfl))⟩,
      ⟨_, _, _, _, rfl, (hw _ (List.mem_of_getElem? (i := 201) rfl))⟩,
      trivial⟩
  · exact ⟨⟨(hw _ (List.mem_of_getElem? (i := 11) rfl)), .array .int, by decide, rfl, rfl⟩,
      ⟨(hw _ (List.mem_of_getElem? (i := 13) rfl)), .array .int, by decide, rfl, rfl⟩,
      ⟨(hw _ (List.mem_of_getElem? (i := 15) rfl)), .array .int, by decide, rfl, rfl⟩,
      ⟨(hw _ (List.mem_of_getElem? (i := 17) rfl)), .array .int, by decide, rfl, rfl⟩,
      ⟨(hw _ (List.mem_of_getElem? (i := 19) rfl)), .array .int, by decide, rfl, rfl⟩,
      ⟨(hw _ (List.mem_of_getElem? (i := 21) rfl)), .array .int, by decide, rfl, rfl⟩,
      ⟨(hw _ (List.mem_of_getElem? (i := 23) rfl)), .array .int, by decide, rfl, rfl⟩,
      ⟨(hw _ (List.mem_of_getElem? (i := 25) rfl)), .array .int, by decide, rfl, rfl⟩,
      ⟨(hw _ (List.mem_of_getElem? (i := 27) rfl)), .array .int, by decide, rfl, rfl⟩,
      ⟨(hw _ (List.mem_of_getElem? (i := 29) rfl)), .array .int, by decide, rfl, rfl⟩,
      ⟨(hw _ (List.mem_of_getElem? (i := 31) rfl)), .array .int, by decide, rfl, rfl⟩,
      ⟨(hw _ (List.mem_of_getElem? (i := 33) rfl)), .array .int, by decide, rfl, rfl⟩,
      ⟨(hw _ (List.mem_of_getElem? (i := 35) rfl)), .array .int, by decide, rfl, rfl⟩,
      ⟨(hw _ (List.mem_of_getElem? (i := 37) rfl)), .array .int, by decide, rfl, rfl⟩,
      ⟨(hw _ (List.mem_of_getElem? (i := 39) rfl)), .array .int, by decide, rfl, rfl⟩,
      ⟨(hw _ (List.mem_of_getElem? (i := 41) rfl)), .array .int, by decide, rfl, rfl⟩,
      ⟨(hw _ (List.mem_of_getElem? (i := 43) rfl)), .array .int, by decide, rfl, rfl⟩,
      ⟨(hw _ (List.mem_of_getElem? (i := 45) rfl)), .array .int, by decide, rfl, rfl⟩,
      ⟨(hw _ (List.mem_of_getElem? (i := 47) rfl)), .array .int, by decide, rfl, rfl⟩,
      ⟨(hw _ (List.mem_of_getElem? (i := 49) rfl)), .array .int, by decide, rfl, rfl⟩,
      ⟨(hw _ (List.mem_of_getElem? (i := 51) rfl)), .array .int, by decide, rfl, rfl⟩,
      ⟨(hw _ (List.mem_of_getElem? (i := 53) rfl)), .array .int, by decide, rfl, rfl⟩,
      ⟨(hw _ (List.mem_of_getElem? (i := 55) rfl)), .array .int, by decide, rfl, rfl⟩,
      ⟨(hw _ (List.mem_of_getElem? (i := 57) rfl)), .array .int, by decide, rfl, rfl⟩,
      ⟨(hw _ (List.mem_of_getElem? (i := 63) rfl)), .int, by decide, rfl, rfl⟩,
      ⟨(hw _ (List.mem_of_getElem? (i := 65) rfl)), .int, by decide, rfl, rfl⟩,
      ⟨(hw _ (List.mem_of_getElem? (i := 67) rfl)), .int, by decide, rfl, rfl⟩,
      ⟨(hw _ (List.mem_of_getElem? (i := 70) rfl)), .int, by decide, rfl, rfl⟩,
      ⟨(hw _ (List.mem_of_getElem? (i := 72) rfl)), .int, by decide, rfl, rfl⟩,
      ⟨(hw _ (List.mem_of_getElem? (i := 74) rfl)), .int, by decide, rfl, rfl⟩,
      ⟨(hw _ (List.mem_of_getElem? (i := 76) rfl)), .int, by decide, rfl, rfl⟩,
      ⟨(hw _ (List.mem_of_getElem? (i := 188) rfl)), .int, by decide, rfl, rfl⟩,
      ⟨(hw _ (List.mem_of_getElem? (i := 202) rfl)), .int, by decide, rfl, rfl⟩,
      trivial⟩
  · exact ⟨(hw _ (List.mem_of_getElem? (i := 68) rfl)),
      (hw _ (List.mem_of_getElem? (i := 207) rfl)),
      trivial⟩
  · intro t ht
    simp only [own_ty, Bool.or_eq_true, decide_eq_true_eq] at ht
    subst ht
    exact (hw _ (List.mem_of_getElem? (i := 9) rfl))
  · exact ⟨⟨(hw _ (List.mem_of_getElem? (i := 3) rfl)), (hw _ (List.mem_of_getElem? (i := 5) rfl)), (hw _ (List.mem_of_getElem? (i := 2) rfl)), ⟨_, _, own_pd0, rfl⟩, own_pn1, own_ne1, rfl, (fun _ => ⟨rfl, rfl⟩), ⟨rfl, (hw _ (List.mem_of_getElem? (i := 4) rfl)), rfl⟩⟩,
      ⟨(hw _ (List.mem_of_getElem? (i := 6) rfl)), (hw _ (List.mem_of_getElem? (i := 7) rfl)), (hw _ (List.mem_of_getElem? (i := 8) rfl))⟩,
      ⟨(hw _ (List.mem_of_getElem? (i := 58) rfl)), (hw _ (List.mem_of_getElem? (i := 61) rfl)), (hw _ (List.mem_of_getElem? (i := 2) rfl)), ⟨_, _, own_pd1, rfl⟩, own_pn1, own_ne1, rfl, (fun h => nomatch h), ⟨rfl, (hw _ (List.mem_of_getElem? (i := 59) rfl)), (hw _ (List.mem_of_getElem? (i := 60) rfl))⟩⟩,
      ⟨(hw _ (List.mem_of_getElem? (i := 77) rfl)), (hw _ (List.mem_of_getElem? (i := 81) rfl)), (hw _ (List.mem_of_getElem? (i := 2) rfl)), ⟨_, _, own_pd2, rfl⟩, own_pn1, own_ne1, rfl, (fun h => nomatch h), ⟨(hw _ (List.mem_of_getElem? (i := 78) rfl)), (hw _ (List.mem_of_getElem? (i := 79) rfl)), (hw _ (List.mem_of_getElem? (i := 80) rfl))⟩⟩,
      ⟨(hw _ (List.mem_of_getElem? (i := 82) rfl)), (hw _ (List.mem_of_getElem? (i := 85) rfl)), (hw _ (List.mem_of_getElem? (i := 2) rfl)), ⟨_, _, own_pd3, rfl⟩, own_pn1, own_ne1, rfl, (fun h => nomatch h), ⟨rfl, (hw _ (List.mem_of_getElem? (i := 83) rfl)), (hw _ (List.mem_of_getElem? (i := 84) rfl))⟩⟩,
      ⟨(hw _ (List.mem_of_getElem? (i := 86) rfl)), (hw _ (List.mem_of_getElem? (i := 89) rfl)), (hw _ (List.mem_of_getElem? (i := 2) rfl)), ⟨_, _, own_pd4, rfl⟩, own_pn1, own_ne1, rfl, (fun h => nomatch h), ⟨rfl, (hw _ (List.mem_of_getElem? (i := 87) rfl)), (hw _ (List.mem_of_getElem? (i := 88) rfl))⟩⟩,
      ⟨(hw _ (List.mem_of_getElem? (i := 90) rfl)), (hw _ (List.mem_of_getElem? (i := 93) rfl)), (hw _ (List.mem_of_getElem? (i := 2) rfl)), ⟨_, _, own_pd5, rfl⟩, own_pn1, own_ne1, rfl, (fun h => nomatch h), ⟨rfl, (hw _ (List.mem_of_getElem? (i := 91) rfl)), (hw _ (List.mem_of_getElem? (i := 92) rfl))⟩⟩,
      ⟨(hw _ (List.mem_of_getElem? (i := 94) rfl)), (hw _ (List.mem_of_getElem? (i := 97) rfl)), (hw _ (List.mem_of_getElem? (i := 2) rfl)), ⟨_, _, own_pd0, rfl⟩, own_pn1, own_ne1, rfl, (fun h => nomatch h), ⟨rfl, (hw _ (List.mem_of_getElem? (i := 95) rfl)), (hw _ (List.mem_of_getElem? (i := 96) rfl))⟩⟩,
      ⟨(hw _ (List.mem_of_getElem? (i := 98) rfl)), (hw _ (List.mem_of_getElem? (i := 102) rfl)), (hw _ (List.mem_of_getElem? (i := 2) rfl)), ⟨_, _, own_pd6, rfl⟩, own_pn1, own_ne1, rfl, (fun h => nomatch h), ⟨(hw _ (List.mem_of_getElem? (i := 99) rfl)), (hw _ (List.mem_of_getElem? (i := 100) rfl)), (hw _ (List.mem_of_getElem? (i := 101) rfl))⟩⟩,
      ⟨(hw _ (List.mem_of_getElem? (i := 103) rfl)), (hw _ (List.mem_of_getElem? (i := 106) rfl)), (hw _ (List.mem_of_getElem? (i := 2) rfl)), ⟨_, _, own_pd3, rfl⟩, own_pn1, own_ne1, rfl, (fun h => nomatch h), ⟨rfl, (hw _ (List.mem_of_getElem? (i := 104) rfl)), (hw _ (List.mem_of_getElem? (i := 105) rfl))⟩⟩,
      ⟨(hw _ (List.mem_of_getElem? (i := 107) rfl)), (hw _ (List.mem_of_getElem? (i := 110) rfl)), (hw _ (List.mem_of_getElem? (i := 2) rfl)), ⟨_, _, own_pd2, rfl⟩, own_pn1, own_ne1, rfl, (fun h => nomatch h), ⟨rfl, (hw _ (List.mem_of_getElem? (i := 108) rfl)), (hw _ (List.mem_of_getElem? (i := 109) rfl))⟩⟩,
      ⟨(hw _ (List.mem_of_getElem? (i := 111) rfl)), (hw _ (List.mem_of_getElem? (i := 115) rfl)), (hw _ (List.mem_of_getElem? (i := 2) rfl)), ⟨_, _, own_pd6, rfl⟩, own_pn1, own_ne1, rfl, (fun h => nomatch h), ⟨(hw _ (List.mem_of_getElem? (i := 112) rfl)), (hw _ (List.mem_of_getElem? (i := 113) rfl)), (hw _ (List.mem_of_getElem? (i := 114) rfl))⟩⟩,
      ⟨(hw _ (List.mem_of_getElem? (i := 116) rfl)), (hw _ (List.mem_of_getElem? (i := 120) rfl)), (hw _ (List.mem_of_getElem? (i := 2) rfl)), ⟨_, _, own_pd3, rfl⟩, own_pn1, own_ne1, rfl, (fun h => nomatch h), ⟨(hw _ (List.mem_of_getElem? (i := 117) rfl)), (hw _ (List.mem_of_getElem? (i := 118) rfl)), (hw _ (List.mem_of_getElem? (i := 119) rfl))⟩⟩,
      ⟨(hw _ (List.mem_of_getElem? (i := 121) rfl)), (hw _ (List.mem_of_getElem? (i := 124) rfl)), (hw _ (List.mem_of_getElem? (i := 2) rfl)), ⟨_, _, own_pd2, rfl⟩, own_pn1, own_ne1, rfl, (fun h => nomatch h), ⟨rfl, (hw _ (List.mem_of_getElem? (i := 122) rfl)), (hw _ (List.mem_of_getElem? (i := 123) rfl))⟩⟩,
      ⟨(hw _ (List.mem_of_getElem? (i := 125) rfl)), (hw _ (List.mem_of_getElem? (i := 129) rfl)), (hw _ (List.mem_of_getElem? (i := 2) rfl)), ⟨_, _, own_pd5, rfl⟩, own_pn1, own_ne1, rfl, (fun h => nomatch h), ⟨(hw _ (List.mem_of_getElem? (i := 126) rfl)), (hw _ (List.mem_of_getElem? (i := 127) rfl)), (hw _ (List.mem_of_getElem? (i := 128) rfl))⟩⟩,
      ⟨(hw _ (List.mem_of_getElem? (i := 130) rfl)), (hw _ (List.mem_of_getElem? (i := 134) rfl)), (hw _ (List.mem_of_getElem? (i := 2) rfl)), ⟨_, _, own_pd7, rfl⟩, own_pn1, own_ne1, rfl, (fun h => nomatch h), ⟨(hw _ (List.mem_of_getElem? (i := 131) rfl)), (hw _ (List.mem_of_getElem? (i := 132) rfl)), (hw _ (List.mem_of_getElem? (i := 133) rfl))⟩⟩,
      ⟨(hw _ (List.mem_of_getElem? (i := 135) rfl)), (hw _ (List.mem_of_getElem? (i := 138) rfl)), (hw _ (List.mem_of_getElem? (i := 2) rfl)), ⟨_, _, own_pd0, rfl⟩, own_pn1, own_ne1, rfl, (fun h => nomatch h), ⟨rfl, (hw _ (List.mem_of_getElem? (i := 136) rfl)), (hw _ (List.mem_of_getElem? (i := 137) rfl))⟩⟩,
      ⟨(hw _ (List.mem_of_getElem? (i := 139) rfl)), (hw _ (List.mem_of_getElem? (i := 142) rfl)), (hw _ (List.mem_of_getElem? (i := 2) rfl)), ⟨_, _, own_pd6, rfl⟩, own_pn1, own_ne1, rfl, (fun h => nomatch h), ⟨rfl, (hw _ (List.mem_of_getElem? (i := 140) rfl)), (hw _ (List.mem_of_getElem? (i := 141) rfl))⟩⟩,
      ⟨(hw _ (List.mem_of_getElem? (i := 143) rfl)), (hw _ (List.mem_of_getElem? (i := 147) rfl)), (hw _ (List.mem_of_getElem? (i := 2) rfl)), ⟨_, _, own_pd6, rfl⟩, own_pn1, own_ne1, rfl, (fun h => nomatch h), ⟨(hw _ (List.mem_of_getElem? (i := 144) rfl)), (hw _ (List.mem_of_getElem? (i := 145) rfl)), (hw _ (List.mem_of_getElem? (i := 146) rfl))⟩⟩,
      ⟨(hw _ (List.mem_of_getElem? (i := 148) rfl)), (hw _ (List.mem_of_getElem? (i := 152) rfl)), (hw _ (List.mem_of_getElem? (i := 2) rfl)), ⟨_, _, own_pd6, rfl⟩, own_pn1, own_ne1, rfl, (fun h => nomatch h), ⟨(hw _ (List.mem_of_getElem? (i := 149) rfl)), (hw _ (List.mem_of_getElem? (i := 150) rfl)), (hw _ (List.mem_of_getElem? (i := 151) rfl))⟩⟩,
      ⟨(hw _ (List.mem_of_getElem? (i := 153) rfl)), (hw _ (List.mem_of_getElem? (i := 157) rfl)), (hw _ (List.mem_of_getElem? (i := 2) rfl)), ⟨_, _, own_pd6, rfl⟩, own_pn1, own_ne1, rfl, (fun h => nomatch h), ⟨(hw _ (List.mem_of_getElem? (i := 154) rfl)), (hw _ (List.mem_of_getElem? (i := 155) rfl)), (hw _ (List.mem_of_getElem? (i := 156) rfl))⟩⟩,
      ⟨(hw _ (List.mem_of_getElem? (i := 158) rfl)), (hw _ (List.mem_of_getElem? (i := 129) rfl)), (hw _ (List.mem_of_getElem? (i := 2) rfl)), ⟨_, _, own_pd5, rfl⟩, own_pn1, own_ne1, rfl, (fun h => nomatch h), ⟨(hw _ (List.mem_of_getElem? (i := 126) rfl)), (hw _ (List.mem_of_getElem? (i := 127) rfl)), (hw _ (List.mem_of_getElem? (i := 128) rfl))⟩⟩,
      ⟨(hw _ (List.mem_of_getElem? (i := 159) rfl)), (hw _ (List.mem_of_getElem? (i := 163) rfl)), (hw _ (List.mem_of_getElem? (i := 2) rfl)), ⟨_, _, own_pd5, rfl⟩, own_pn1, own_ne1, rfl, (fun h => nomatch h), ⟨(hw _ (List.mem_of_getElem? (i := 160) rfl)), (hw _ (List.mem_of_getElem? (i := 161) rfl)), (hw _ (List.mem_of_getElem? (i := 162) rfl))⟩⟩,
      ⟨(hw _ (List.mem_of_getElem? (i := 164) rfl)), (hw _ (List.mem_of_getElem? (i := 168) rfl)), (hw _ (List.mem_of_getElem? (i := 2) rfl)), ⟨_, _, own_pd6, rfl⟩, own_pn1, own_ne1, rfl, (fun h => nomatch h), ⟨(hw _ (List.mem_of_getElem? (i := 165) rfl)), (hw _ (List.mem_of_getElem? (i := 166) rfl)), (hw _ (List.mem_of_getElem? (i := 167) rfl))⟩⟩,
      ⟨(hw _ (List.mem_of_getElem? (i := 169) rfl)), (hw _ (List.mem_of_getElem? (i := 173) rfl)), (hw _ (List.mem_of_getElem? (i := 2) rfl)), ⟨_, _, own_pd6, rfl⟩, own_pn1, own_ne1, rfl, (fun h => nomatch h), ⟨(hw _ (List.mem_of_getElem? (i := 170) rfl)), (hw _ (List.mem_of_getElem? (i := 171) rfl)), (hw _ (List.mem_of_getElem? (i := 172) rfl))⟩⟩,
      ⟨(hw _ (List.mem_of_getElem? (i := 174) rfl)), (hw _ (List.mem_of_getElem? (i := 178) rfl)), (hw _ (List.mem_of_getElem? (i := 2) rfl)), ⟨_, _, own_pd5, rfl⟩, own_pn1, own_ne1, rfl, (fun h => nomatch h), ⟨(hw _ (List.mem_of_getElem? (i := 175) rfl)), (hw _ (List.mem_of_getElem? (i := 176) rfl)), (hw _ (List.mem_of_getElem? (i := 177) rfl))⟩⟩,
      ⟨(hw _ (List.mem_of_getElem? (i := 179) rfl)), (hw _ (List.mem_of_getElem? (i := 182) rfl)), (hw _ (List.mem_of_getElem? (i := 2) rfl)), ⟨_, _, own_pd5, rfl⟩, own_pn1, own_ne1, rfl, (fun h => nomatch h), ⟨rfl, (hw _ (List.mem_of_getElem? (i := 180) rfl)), (hw _ (List.mem_of_getElem? (i := 181) rfl))⟩⟩,
      ⟨(hw _ (List.mem_of_getElem? (i := 183) rfl)), (hw _ (List.mem_of_getElem? (i := 186) rfl)), (hw _ (List.mem_of_getElem? (i := 2) rfl)), ⟨_, _, own_pd8, rfl⟩, own_pn1, own_ne1, rfl, (fun h => nomatch h), ⟨rfl, (hw _ (List.mem_of_getElem? (i := 184) rfl)), (hw _ (List.mem_of_getElem? (i := 185) rfl))⟩⟩,
      ⟨(hw _ (List.mem_of_getElem? (i := 189) rfl)), (hw _ (List.mem_of_getElem? (i := 192) rfl)), (hw _ (List.mem_of_getElem? (i := 2) rfl)), ⟨_, _, own_pd9, rfl⟩, own_pn1, own_ne1, rfl, (fun h => nomatch h), ⟨rfl, (hw _ (List.mem_of_getElem? (i := 190) rfl)), (hw _ (List.mem_of_getElem? (i := 191) rfl))⟩⟩,
      ⟨(hw _ (List.mem_of_getElem? (i := 193) rfl)), (hw _ (List.mem_of_getElem? (i := 196) rfl)), (hw _ (List.mem_of_getElem? (i := 2) rfl)), ⟨_, _, own_pd9, rfl⟩, own_pn1, own_ne1, rfl, (fun h => nomatch h), ⟨rfl, (hw _ (List.mem_of_getElem? (i := 194) rfl)), (hw _ (List.mem_of_getElem? (i := 195) rfl))⟩⟩,
      ⟨(hw _ (List.mem_of_getElem? (i := 197) rfl)), (hw _ (List.mem_of_getElem? (i := 200) rfl)), (hw _ (List.mem_of_getElem? (i := 2) rfl)), ⟨_, _, own_pd8, rfl⟩, own_pn1, own_ne1, rfl, (fun h => nomatch h), ⟨rfl, (hw _ (List.mem_of_getElem? (i := 198) rfl)), (hw _ (List.mem_of_getElem? (i := 199) rfl))⟩⟩,
      ⟨(hw _ (List.mem_of_getElem? (i := 203) rfl)), (hw _ (List.mem_of_getElem? (i := 206) rfl)), (hw _ (List.mem_of_getElem? (i := 2) rfl)), ⟨_, _, own_pd5, rfl⟩, own_pn1, own_ne1, rfl, (fun h => nomatch h), ⟨rfl, (hw _ (List.mem_of_getElem? (i := 204) rfl)), (hw _ (List.mem_of_getElem? (i := 205) rfl))⟩⟩,
      ⟨(hw _ (List.mem_of_getElem? (i := 208) rfl)), (hw _ (List.mem_of_getElem? (i := 211) rfl)), (hw _ (List.mem_of_getElem? (i := 2) rfl)), ⟨_, _, own_pd2, rfl⟩, own_pn1, own_ne1, rfl, (fun h => nomatch h), ⟨rfl, (hw _ (List.mem_of_getElem? (i := 209) rfl)), (hw _ (List.mem_of_getElem? (i := 210) rfl))⟩⟩,
      ⟨(hw _ (List.mem_of_getElem? (i := 212) rfl)), (hw _ (List.mem_of_getElem? (i := 215) rfl)), (hw _ (List.mem_of_getElem? (i := 2) rfl)), ⟨_, _, own_pd2, rfl⟩, own_pn1, own_ne1, rfl, (fun h => nomatch h), ⟨rfl, (hw _ (List.mem_of_getElem? (i := 213) rfl)), (hw _ (List.mem_of_getElem? (i := 214) rfl))⟩⟩,
      ⟨(hw _ (List.mem_of_getElem? (i := 216) rfl)), (hw _ (List.mem_of_getElem? (i := 219) rfl)), (hw _ (List.mem_of_getElem? (i := 2) rfl)), ⟨_, _, own_pd9, rfl⟩, own_pn1, own_ne1, rfl, (fun h => nomatch h), ⟨rfl, (hw _ (List.mem_of_getElem? (i := 217) rfl)), (hw _ (List.mem_of_getElem? (i := 218) rfl))⟩⟩,
      ⟨(hw _ (List.mem_of_getElem? (i := 220) rfl)), (hw _ (List.mem_of_getElem? (i := 223) rfl)), (hw _ (List.mem_of_getElem? (i := 2) rfl)), ⟨_, _, own_pd2, rfl⟩, own_pn1, own_ne1, rfl, (fun h => nomatch h), ⟨rfl, (hw _ (List.mem_of_getElem? (i := 221) rfl)), (hw _ (List.mem_of_getElem? (i := 222) rfl))⟩⟩,
      (hw _ (List.mem_of_getElem? (i := 0) rfl)),
      trivial⟩
/-! # the object's state -/
def Q : Type := List Int32 × List Int32 × List Int32 × List Int32 × List Int32 × List Int32 × List Int32 × List Int32 × List Int32 × List Int32 × List Int32 × List Int32 × List Int32 × List Int32 × List Int32 × List Int32 × List Int32 × List Int32 × List Int32 × List Int32 × List Int32 × List Int32 × List Int32 × List Int32 × Int32 × Int32 × Int32 × Int32 × Int32 × Int32 × Int32 × Int32 × Int32
def Q.f0 (s : Q) : List Int32 := s.1
def Q.f1 (s : Q) : List Int32 := s.2.1
def Q.f2 (s : Q) : List Int32 := s.2.2.1
def Q.f3 (s : Q) : List Int32 := s.2.2.2.1
def Q.f4 (s : Q) : List Int32 := s.2.2.2.2.1
def Q.f5 (s : Q) : List Int32 := s.2.2.2.2.2.1
def Q.f6 (s : Q) : List Int32 := s.2.2.2.2.2.2.1
def Q.f7 (s : Q) : List Int32 := s.2.2.2.2.2.2.2.1
def Q.f8 (s : Q) : List Int32 := s.2.2.2.2.2.2.2.2.1
def Q.f9 (s : Q) : List Int32 := s.2.2.2.2.2.2.2.2.2.1
def Q.f10 (s : Q) : List Int32 := s.2.2.2.2.2.2.2.2.2.2.1
def Q.f11 (s : Q) : List Int32 := s.2.2.2.2.2.2.2.2.2.2.2.1
def Q.f12 (s : Q) : List Int32 := s.2.2.2.2.2.2.2.2.2.2.2.2.1
def Q.f13 (s : Q) : List Int32 := s.2.2.2.2.2.2.2.2.2.2.2.2.2.1
def Q.f14 (s : Q) : List Int32 := s.2.2.2.2.2.2.2.2.2.2.2.2.2.2.1
def Q.f15 (s : Q) : List Int32 := s.2.2.2.2.2.2.2.2.2.2.2.2.2.2.2.1
def Q.f16 (s : Q) : List Int32 := s.2.2.2.2.2.2.2.2.2.2.2.2.2.2.2.2.1
def Q.f17 (s : Q) : List Int32 := s.2.2.2.2.2.2.2.2.2.2.2.2.2.2.2.2.2.1
def Q.f18 (s : Q) : List Int32 := s.2.2.2.2.2.2.2.2.2.2.2.2.2.2.2.2.2.2.1
def Q.f19 (s : Q) : List Int32 := s.2.2.2.2.2.2.2.2.2.2.2.2.2.2.2.2.2.2.2.1
def Q.f20 (s : Q) : List Int32 := s.2.2.2.2.2.2.2.2.2.2.2.2.2.2.2.2.2.2.2.2.1
def Q.f21 (s : Q) : List Int32 := s.2.2.2.2.2.2.2.2.2.2.2.2.2.2.2.2.2.2.2.2.2.1
def Q.f22 (s : Q) : List Int32 := s.2.2.2.2.2.2.2.2.2.2.2.2.2.2.2.2.2.2.2.2.2.2.1
def Q.f23 (s : Q) : List Int32 := s.2.2.2.2.2.2.2.2.2.2.2.2.2.2.2.2.2.2.2.2.2.2.2.1
def Q.f24 (s : Q) : Int32 := s.2.2.2.2.2.2.2.2.2.2.2.2.2.2.2.2.2.2.2.2.2.2.2.2.1
def Q.f25 (s : Q) : Int32 := s.2.2.2.2.2.2.2.2.2.2.2.2.2.2.2.2.2.2.2.2.2.2.2.2.2.1
def Q.f26 (s : Q) : Int32 := s.2.2.2.2.2.2.2.2.2.2.2.2.2.2.2.2.2.2.2.2.2.2.2.2.2.2.1
def Q.f27 (s : Q) : Int32 := s.2.2.2.2.2.2.2.2.2.2.2.2.2.2.2.2.2.2.2.2.2.2.2.2.2.2.2.1
def Q.f28 (s : Q) : Int32 := s.2.2.2.2.2.2.2.2.2.2.2.2.2.2.2.2.2.2.2.2.2.2.2.2.2.2.2.2.1
def Q.f29 (s : Q) : Int32 := s.2.2.2.2.2.2.2.2.2.2.2.2.2.2.2.2.2.2.2.2.2.2.2.2.2.2.2.2.2.1
def Q.f30 (s : Q) : Int32 := s.2.2.2.2.2.2.2.2.2.2.2.2.2.2.2.2.2.2.2.2.2.2.2.2.2.2.2.2.2.2.1
def Q.f31 (s : Q) : Int32 := s.2.2.2.2.2.2.2.2.2.2.2.2.2.2.2.2.2.2.2.2.2.2.2.2.2.2.2.2.2.2.2.1
def Q.f32 (s : Q) : Int32 := s.2.2.2.2.2.2.2.2.2.2.2.2.2.2.2.2.2.2.2.2.2.2.2.2.2.2.2.2.2.2.2.2
def Q0 : Q := (List.replicate 8 0, List.replicate 8 0, List.replicate 4 0, List.replicate 4 0, List.replicate 4 0, List.replicate 4 0, List.replicate 4 0, List.replicate 4 0, List.replicate 64 0, List.replicate 64 0, List.replicate 64 0, List.replicate 8 0, List.replicate 6 0, List.replicate 6 0, List.replicate 6 0, List.replicate 6 0, List.replicate 6 0, List.replicate 6 0, List.replicate 6 0, List.replicate 4 0, List.replicate 56 0, List.replicate 7 0, List.replicate 7 0, List.replicate 7 0, (0:Int32), (0:Int32), (0:Int32), (0:Int32), (0:Int32), (0:Int32), (0:Int32), (0:Int32), (0:Int32))
def Q.mk (q0 q1 q2 q3 q4 q5 q6 q7 q8 q9 q10 q11 q12 q13 q14 q15 q16 q17 q18 q19 q20 q21 q22 q23 : List Int32) (q24 q25 : Int32) (q26 q27 : Int32) (q28 q29 : Int32) (q30 q31 q32 : Int32) : Q := (q0, q1, q2, q3, q4, q5, q6, q7, q8, q9, q10, q11, q12, q13, q14, q15, q16, q17, q18, q19, q20, q21, q22, q23, q24, q25, q26, q27, q28, q29, q30, q31, q32)
def Q.s0 (s : Q) (x : List Int32) : Q := Q.mk x s.f1 s.f2 s.f3 s.f4 s.f5 s.f6 s.f7 s.f8 s.f9 s.f10 s.f11 s.f12 s.f13 s.f14 s.f15 s.f16 s.f17 s.f18 s.f19 s.f20 s.f21 s.f22 s.f23 s.f24 s.f25 s.f26 s.f27 s.f28 s.f29 s.f30 s.f31 s.f32
def Q.s1 (s : Q) (x : List Int32) : Q := Q.mk s.f0 x s.f2 s.f3 s.f4 s.f5 s.f6 s.f7 s.f8 s.f9 s.f10 s.f11 s.f12 s.f13 s.f14 s.f15 s.f16 s.f17 s.f18 s.f19 s.f20 s.f21 s.f22 s.f23 s.f24 s.f25 s.f26 s.f27 s.f28 s.f29 s.f30 s.f31 s.f32
def Q.s2 (s : Q) (x : List Int32) : Q := Q.mk s.f0 s.f1 x s.f3 s.f4 s.f5 s.f6 s.f7 s.f8 s.f9 s.f10 s.f11 s.f12 s.f13 s.f14 s.f15 s.f16 s.f17 s.f18 s.f19 s.f20 s.f21 s.f22 s.f23 s.f24 s.f25 s.f26 s.f27 s.f28 s.f29 s.f30 s.f31 s.f32
def Q.s3 (s : Q) (x : List Int32) : Q := Q.mk s.f0 s.f1 s.f2 x s.f4 s.f5 s.f6 s.f7 s.f8 s.f9 s.f10 s.f11 s.f12 s.f13 s.f14 s.f15 s.f16 s.f17 s.f18 s.f19 s.f20 s.f21 s.f22 s.f23 s.f24 s.f25 s.f26 s.f27 s.f28 s.f29 s.f30 s.f31 s.f32
def Q.s4 (s : Q) (x : List Int32) : Q := Q.mk s.f0 s.f1 s.f2 s.f3 x s.f5 s.f6 s.f7 s.f8 s.f9 s.f10 s.f11 s.f12 s.f13 s.f14 s.f15 s.f16 s.f17 s.f18 s.f19 s.f20 s.f21 s.f22 s.f23 s.f24 s.f25 s.f26 s.f27 s.f28 s.f29 s.f30 s.f31 s.f32
def Q.s5 (s : Q) (x : List Int32) : Q := Q.mk s.f0 s.f1 s.f2 s.f3 s.f4 x s.f6 s.f7 s.f8 s.f9 s.f10 s.f11 s.f12 s.f13 s.f14 s.f15 s.f16 s.f17 s.f18 s.f19 s.f20 s.f21 s.f22 s.f23 s.f24 s.f25 s.f26 s.f27 s.f28 s.f29 s.f30 s.f31 s.f32
def Q.s6 (s : Q) (x : List Int32) : Q := Q.mk s.f0 s.f1 s.f2 s.f3 s.f4 s.f5 x s.f7 s.f8 s.f9 s.f10 s.f11 s.f12 s.f13 s.f14 s.f15 s.f16 s.f17 s.f18 s.f19 s.f20 s.f21 s.f22 s.f23 s.f24 s.f25 s.f26 s.f27 s.f28 s.f29 s.f30 s.f31 s.f32
def Q.s7 (s : Q) (x : List Int32) : Q := Q.mk s.f0 s.f1 s.f2 s.f3 s.f4 s.f5 s.f6 x s.f8 s.f9 s.f10 s.f11 s.f12 s.f13 s.f14 s.f15 s.f16 s.f17 s.f18 s.f19 s.f20 s.f21 s.f22 s.f23 s.f24 s.f25 s.f26 s.f27 s.f28 s.f29 s.f30 s.f31 s.f32
def Q.s8 (s : Q) (x : List Int32) : Q := Q.mk s.f0 s.f1 s.f2 s.f3 s.f4 s.f5 s.f6 s.f7 x s.f9 s.f10 s.f11 s.f12 s.f13 s.f14 s.f15 s.f16 s.f17 s.f18 s.f19 s.f20 s.f21 s.f22 s.f23 s.f24 s.f25 s.f26 s.f27 s.f28 s.f29 s.f30 s.f31 s.f32
def Q.s9 (s : Q) (x : List Int32) : Q := Q.mk s.f0 s.f1 s.f2 s.f3 s.f4 s.f5 s.f6 s.f7 s.f8 x s.f10 s.f11 s.f12 s.f13 s.f14 s.f15 s.f16 s.f17 s.f18 s.f19 s.f20 s.f21 s.f22 s.f23 s.f24 s.f25 s.f26 s.f27 s.f28 s.f29 s.f30 s.f31 s.f32
def Q.s10 (s : Q) (x : List Int32) : Q := Q.mk s.f0 s.f1 s.f2 s.f3 s.f4 s.f5 s.f6 s.f7 s.f8 s.f9 x s.f11 s.f12 s.f13 s.f14 s.f15 s.f16 s.f17 s.f18 s.f19 s.f20 s.f21 s.f22 s.f23 s.f24 s.f25 s.f26 s.f27 s.f28 s.f29 s.f30 s.f31 s.f32
def Q.s11 (s : Q) (x : List Int32) : Q := Q.mk s.f0 s.f1 s.f2 s.f3 s.f4 s.f5 s.f6 s.f7 s.f8 s.f9 s.f10 x s.f12 s.f13 s.f14 s.f15 s.f16 s.f17 s.f18 s.f19 s.f20 s.f21 s.f22 s.f23 s.f24 s.f25 s.f26 s.f27 s.f28 s.f29 s.f30 s.f31 s.f32
def Q.s12 (s : Q) (x : List Int32) : Q := Q.mk s.f0 s.f1 s.f2 s.f3 s.f4 s.f5 s.f6 s.f7 s.f8 s.f9 s.f10 s.f11 x s.f13 s.f14 s.f15 s.f16 s.f17 s.f18 s.f19 s.f20 s.f21 s.f22 s.f23 s.f24 s.f25 s.f26 s.f27 s.f28 s.f29 s.f30 s.f31 s.f32
def Q.s13 (s : Q) (x : List Int32) : Q := Q.mk s.f0 s.f1 s.f2 s.f3 s.f4 s.f5 s.f6 s.f7 s.f8 s.f9 s.f10 s.f11 s.f12 x s.f14 s.f15 s.f16 s.f17 s.f18 s.f19 s.f20 s.f21 s.f22 s.f23 s.f24 s.f25 s.f26 s.f27 s.f28 s.f29 s.f30 s.f31 s.f32
def Q.s14 (s : Q) (x : List Int32) : Q := Q.mk s.f0 s.f1 s.f2 s.f3 s.f4 s.f5 s.f6 s.f7 s.f8 s.f9 s.f10 s.f11 s.f12 s.f13 x s.f15 s.f16 s.f17 s.f18 s.f19 s.f20 s.f21 s.f22 s.f23 s.f24 s.f25 s.f26 s.f27 s.f28 s.f29 s.f30 s.f31 s.f32
def Q.s15 (s : Q) (x : List Int32) : Q := Q.mk s.f0 s.f1 s.f2 s.f3 s.f4 s.f5 s.f6 s.f7 s.f8 s.f9 s.f10 s.f11 s.f12 s.f13 s.f14 x s.f16 s.f17 s.f18 s.f19 s.f20 s.f21 s.f22 s.f23 s.f24 s.f25 s.f26 s.f27 s.f28 s.f29 s.f30 s.f31 s.f32
def Q.s16 (s : Q) (x : List Int32) : Q := Q.mk s.f0 s.f1 s.f2 s.f3 s.f4 s.f5 s.f6 s.f7 s.f8 s.f9 s.f10 s.f11 s.f12 s.f13 s.f14 s.f15 x s.f17 s.f18 s.f19 s.f20 s.f21 s.f22 s.f23 s.f24 s.f25 s.f26 s.f27 s.f28 s.f29 s.f30 s.f31 s.f32
def Q.s17 (s : Q) (x : List Int32) : Q := Q.mk s.f0 s.f1 s.f2 s.f3 s.f4 s.f5 s.f6 s.f7 s.f8 s.f9 s.f10 s.f11 s.f12 s.f13 s.f14 s.f15 s.f16 x s.f18 s.f19 s.f20 s.f21 s.f22 s.f23 s.f24 s.f25 s.f26 s.f27 s.f28 s.f29 s.f30 s.f31 s.f32
def Q.s18 (s : Q) (x : List Int32) : Q := Q.mk s.f0 s.f1 s.f2 s.f3 s.f4 s.f5 s.f6 s.f7 s.f8 s.f9 s.f10 s.f11 s.f12 s.f13 s.f14 s.f15 s.f16 s.f17 x s.f19 s.f20 s.f21 s.f22 s.f23 s.f24 s.f25 s.f26 s.f27 s.f28 s.f29 s.f30 s.f31 s.f32
def Q.s19 (s : Q) (x : List Int32) : Q := Q.mk s.f0 s.f1 s.f2 s.f3 s.f4 s.f5 s.f6 s.f7 s.f8 s.f9 s.f10 s.f11 s.f12 s.f13 s.f14 s.f15 s.f16 s.f17 s.f18 x s.f20 s.f21 s.f22 s.f23 s.f24 s.f25 s.f26 s.f27 s.f28 s.f29 s.f30 s.f31 s.f32
def Q.s20 (s : Q) (x : List Int32) : Q := Q.mk s.f0 s.f1 s.f2 s.f3 s.f4 s.f5 s.f6 s.f7 s.f8 s.f9 s.f10 s.f11 s.f12 s.f13 s.f14 s.f15 s.f16 s.f17 s.f18 s.f19 x s.f21 s.f22 s.f23 s.f24 s.f25 s.f26 s.f27 s.f28 s.f29 s.f30 s.f31 s.f32
def Q.s21 (s : Q) (x : List Int32) : Q := Q.mk s.f0 s.f1 s.f2 s.f3 s.f4 s.f5 s.f6 s.f7 s.f8 s.f9 s.f10 s.f11 s.f12 s.f13 s.f14 s.f15 s.f16 s.f17 s.f18 s.f19 s.f20 x s.f22 s.f23 s.f24 s.f25 s.f26 s.f27 s.f28 s.f29 s.f30 s.f31 s.f32
def Q.s22 (s : Q) (x : List Int32) : Q := Q.mk s.f0 s.f1 s.f2 s.f3 s.f4 s.f5 s.f6 s.f7 s.f8 s.f9 s.f10 s.f11 s.f12 s.f13 s.f14 s.f15 s.f16 s.f17 s.f18 s.f19 s.f20 s.f21 x s.f23 s.f24 s.f25 s.f26 s.f27 s.f28 s.f29 s.f30 s.f31 s.f32
def Q.s23 (s : Q) (x : List Int32) : Q := Q.mk s.f0 s.f1 s.f2 s.f3 s.f4 s.f5 s.f6 s.f7 s.f8 s.f9 s.f10 s.f11 s.f12 s.f13 s.f14 s.f15 s.f16 s.f17 s.f18 s.f19 s.f20 s.f21 s.f22 x s.f24 s.f25 s.f26 s.f27 s.f28 s.f29 s.f30 s.f31 s.f32
def Q.s24 (s : Q) (x : Int32) : Q := Q.mk s.f0 s.f1 s.f2 s.f3 s.f4 s.f5 s.f6 s.f7 s.f8 s.f9 s.f10 s.f11 s.f12 s.f13 s.f14 s.f15 s.f16 s.f17 s.f18 s.f19 s.f20 s.f21 s.f22 s.f23 x s.f25 s.f26 s.f27 s.f28 s.f29 s.f30 s.f31 s.f32
def Q.s25 (s : Q) (x : Int32) : Q := Q.mk s.f0 s.f1 s.f2 s.f3 s.f4 s.f5 s.f6 s.f7 s.f8 s.f9 s.f10 s.f11 s.f12 s.f13 s.f14 s.f15 s.f16 s.f17 s.f18 s.f19 s.f20 s.f21 s.f22 s.f23 s.f24 x s.f26 s.f27 s.f28 s.f29 s.f30 s.f31 s.f32
def Q.s26 (s : Q) (x : Int32) : Q := Q.mk s.f0 s.f1 s.f2 s.f3 s.f4 s.f5 s.f6 s.f7 s.f8 s.f9 s.f10 s.f11 s.f12 s.f13 s.f14 s.f15 s.f16 s.f17 s.f18 s.f19 s.f20 s.f21 s.f22 s.f23 s.f24 s.f25 x s.f27 s.f28 s.f29 s.f30 s.f31 s.f32
def Q.s27 (s : Q) (x : Int32) : Q := Q.mk s.f0 s.f1 s.f2 s.f3 s.f4 s.f5 s.f6 s.f7 s.f8 s.f9 s.f10 s.f11 s.f12 s.f13 s.f14 s.f15 s.f16 s.f17 s.f18 s.f19 s.f20 s.f21 s.f22 s.f23 s.f24 s.f25 s.f26 x s.f28 s.f29 s.f30 s.f31 s.f32
def Q.s28 (s : Q) (x : Int32) : Q := Q.mk s.f0 s.f1 s.f2 s.f3 s.f4 s.f5 s.f6 s.f7 s.f8 s.f9 s.f10 s.f11 s.f12 s.f13 s.f14 s.f15 s.f16 s.f17 s.f18 s.f19 s.f20 s.f21 s.f22 s.f23 s.f24 s.f25 s.f26 s.f27 x s.f29 s.f30 s.f31 s.f32
def Q.s29 (s : Q) (x : Int32) : Q := Q.mk s.f0 s.f1 s.f2 s.f3 s.f4 s.f5 s.f6 s.f7 s.f8 s.f9 s.f10 s.f11 s.f12 s.f13 s.f14 s.f15 s.f16 s.f17 s.f18 s.f19 s.f20 s.f21 s.f22 s.f23 s.f24 s.f25 s.f26 s.f27 s.f28 x s.f30 s.f31 s.f32
def Q.s30 (s : Q) (x : Int32) : Q := Q.mk s.f0 s.f1 s.f2 s.f3 s.f4 s.f5 s.f6 s.f7 s.f8 s.f9 s.f10 s.f11 s.f12 s.f13 s.f14 s.f15 s.f16 s.f17 s.f18 s.f19 s.f20 s.f21 s.f22 s.f23 s.f24 s.f25 s.f26 s.f27 s.f28 s.f29 x s.f31 s.f32
def Q.s31 (s : Q) (x : Int32) : Q := Q.mk s.f0 s.f1 s.f2 s.f3 s.f4 s.f5 s.f6 s.f7 s.f8 s.f9 s.f10 s.f11 s.f12 s.f13 s.f14 s.f15 s.f16 s.f17 s.f18 s.f19 s.f20 s.f21 s.f22 s.f23 s.f24 s.f25 s.f26 s.f27 s.f28 s.f29 s.f30 x s.f32
def Q.s32 (s : Q) (x : Int32) : Q := Q.mk s.f0 s.f1 s.f2 s.f3 s.f4 s.f5 s.f6 s.f7 s.f8 s.f9 s.f10 s.f11 s.f12 s.f13 s.f14 s.f15 s.f16 s.f17 s.f18 s.f19 s.f20 s.f21 s.f22 s.f23 s.f24 s.f25 s.f26 s.f27 s.f28 s.f29 s.f30 s.f31 x
section own_vs
variable {q0 q1 q2 q3 q4 q5 q6 q7 q8 q9 q10 q11 q12 q13 q14 q15 q16 q17 q18 q19 q20 q21 q22 q23 : List Int32} {q24 q25 q26 q27 q28 q29 q30 q31 q32 : Int32} {R : AHeap}
theorem own_f_seq : (Q.mk q0 q1 q2 q3 q4 q5 q6 q7 q8 q9 q10 q11 q12 q13 q14 q15 q16 q17 q18 q19 q20 q21 q22 q23 q24 q25 q26 q27 q28 q29 q30 q31 q32).f0 = q0 := by have _h := trivial; exact rfl
theorem own_f_val : (Q.mk q0 q1 q2 q3 q4 q5 q6 q7 q8 q9 q10 q11 q12 q13 q14 q15 q16 q17 q18 q19 q20 q21 q22 q23 q24 q25 q26 q27 q28 q29 q30 q31 q32).f1 = q1 := by have _h := trivial; exact rfl
theorem own_f_st : (Q.mk q0 q1 q2 q3 q4 q5 q6 q7 q8 q9 q10 q11 q12 q13 q14 q15 q16 q17 q18 q19 q20 q21 q22 q23 q24 q25 q26 q27 q28 q29 q30 q31 q32).f2 = q2 := by have _h := trivial; exact rfl
theorem own_f_locP : (Q.mk q0 q1 q2 q3 q4 q5 q6 q7 q8 q9 q10 q11 q12 q13 q14 q15 q16 q17 q18 q19 q20 q21 q22 q23 q24 q25 q26 q27 q28 q29 q30 q31 q32).f3 = q3 := by have _h := trivial; exact rfl
theorem own_f_locV : (Q.mk q0 q1 q2 q3 q4 q5 q6 q7 q8 q9 q10 q11 q12 q13 q14 q15 q16 q17 q18 q19 q20 q21 q22 q23 q24 q25 q26 q27 q28 q29 q30 q31 q32).f4 = q4 := by have _h := trivial; exact rfl
theorem own_f_lastSt : (Q.mk q0 q1 q2 q3 q4 q5 q6 q7 q8 q9 q10 q11 q12 q13 q14 q15 q16 q17 q18 q19 q20 q21 q22 q23 q24 q25 q26 q27 q28 q29 q30 q31 q32).f5 = q5 := by have _h := trivial; exact rfl
theorem own_f_lastVal : (Q.mk q0 q1 q2 q3 q4 q5 q6 q7 q8 q9 q10 q11 q12 q13 q14 q15 q16 q17 q18 q19 q20 q21 q22 q23 q24 q25 q26 q27 q28 q29 q30 q31 q32).f6 = q6 := by have _h := trivial; exact rfl
theorem own_f_logKind : (Q.mk q0 q1 q2 q3 q4 q5 q6 q7 q8 q9 q10 q11 q12 q13 q14 q15 q16 q17 q18 q19 q20 q21 q22 q23 q24 q25 q26 q27 q28 q29 q30 q31 q32).f7 = q7 := by have _h := trivial; exact rfl
theorem own_f_evKind : (Q.mk q0 q1 q2 q3 q4 q5 q6 q7 q8 q9 q10 q11 q12 q13 q14 q15 q16 q17 q18 q19 q20 q21 q22 q23 q24 q25 q26 q27 q28 q29 q30 q31 q32).f8 = q8 := by have _h := trivial; exact rfl
theorem own_f_evThread : (Q.mk q0 q1 q2 q3 q4 q5 q6 q7 q8 q9 q10 q11 q12 q13 q14 q15 q16 q17 q18 q19 q20 q21 q22 q23 q24 q25 q26 q27 q28 q29 q30 q31 q32).f9 = q9 := by have _h := trivial; exact rfl
theorem own_f_evVal : (Q.mk q0 q1 q2 q3 q4 q5 q6 q7 q8 q9 q10 q11 q12 q13 q14 q15 q16 q17 q18 q19 q20 q21 q22 q23 q24 q25 q26 q27 q28 q29 q30 q31 q32).f10 = q10 := by have _h := trivial; exact rfl
theorem own_f_snap : (Q.mk q0 q1 q2 q3 q4 q5 q6 q7 q8 q9 q10 q11 q12 q13 q14 q15 q16 q17 q18 q19 q20 q21 q22 q23 q24 q25 q26 q27 q28 q29 q30 q31 q32).f11 = q11 := by have _h := trivial; exact rfl
theorem own_f_opKind : (Q.mk q0 q1 q2 q3 q4 q5 q6 q7 q8 q9 q10 q11 q12 q13 q14 q15 q16 q17 q18 q19 q20 q21 q22 q23 q24 q25 q26 q27 q28 q29 q30 q31 q32).f12 = q12 := by have _h := trivial; exact rfl
theorem own_f_opArg : (Q.mk q0 q1 q2 q3 q4 q5 q6 q7 q8 q9 q10 q11 q12 q13 q14 q15 q16 q17 q18 q19 q20 q21 q22 q23 q24 q25 q26 q27 q28 q29 q30 q31 q32).f13 = q13 := by have _h := trivial; exact rfl
theorem own_f_opInv : (Q.mk q0 q1 q2 q3 q4 q5 q6 q7 q8 q9 q10 q11 q12 q13 q14 q15 q16 q17 q18 q19 q20 q21 q22 q23 q24 q25 q26 q27 q28 q29 q30 q31 q32).f14 = q14 := by have _h := trivial; exact rfl
theorem own_f_opRes : (Q.mk q0 q1 q2 q3 q4 q5 q6 q7 q8 q9 q10 q11 q12 q13 q14 q15 q16 q17 q18 q19 q20 q21 q22 q23 q24 q25 q26 q27 q28 q29 q30 q31 q32).f15 = q15 := by have _h := trivial; exact rfl
theorem own_f_opStatus : (Q.mk q0 q1 q2 q3 q4 q5 q6 q7 q8 q9 q10 q11 q12 q13 q14 q15 q16 q17 q18 q19 q20 q21 q22 q23 q24 q25 q26 q27 q28 q29 q30 q31 q32).f16 = q16 := by have _h := trivial; exact rfl
theorem own_f_opRVal : (Q.mk q0 q1 q2 q3 q4 q5 q6 q7 q8 q9 q10 q11 q12 q13 q14 q15 q16 q17 q18 q19 q20 q21 q22 q23 q24 q25 q26 q27 q28 q29 q30 q31 q32).f17 = q17 := by have _h := trivial; exact rfl
theorem own_f_predMask : (Q.mk q0 q1 q2 q3 q4 q5 q6 q7 q8 q9 q10 q11 q12 q13 q14 q15 q16 q17 q18 q19 q20 q21 q22 q23 q24 q25 q26 q27 q28 q29 q30 q31 q32).f18 = q18 := by have _h := trivial; exact rfl
theorem own_f_openOp : (Q.mk q0 q1 q2 q3 q4 q5 q6 q7 q8 q9 q10 q11 q12 q13 q14 q15 q16 q17 q18 q19 q20 q21 q22 q23 q24 q25 q26 q27 q28 q29 q30 q31 q32).f19 = q19 := by have _h := trivial; exact rfl
theorem own_f_qBuf : (Q.mk q0 q1 q2 q3 q4 q5 q6 q7 q8 q9 q10 q11 q12 q13 q14 q15 q16 q17 q18 q19 q20 q21 q22 q23 q24 q25 q26 q27 q28 q29 q30 q31 q32).f20 = q20 := by have _h := trivial; exact rfl
theorem own_f_qLen : (Q.mk q0 q1 q2 q3 q4 q5 q6 q7 q8 q9 q10 q11 q12 q13 q14 q15 q16 q17 q18 q19 q20 q21 q22 q23 q24 q25 q26 q27 q28 q29 q30 q31 q32).f21 = q21 := by have _h := trivial; exact rfl
theorem own_f_nextCand : (Q.mk q0 q1 q2 q3 q4 q5 q6 q7 q8 q9 q10 q11 q12 q13 q14 q15 q16 q17 q18 q19 q20 q21 q22 q23 q24 q25 q26 q27 q28 q29 q30 q31 q32).f22 = q22 := by have _h := trivial; exact rfl
theorem own_f_chosen : (Q.mk q0 q1 q2 q3 q4 q5 q6 q7 q8 q9 q10 q11 q12 q13 q14 q15 q16 q17 q18 q19 q20 q21 q22 q23 q24 q25 q26 q27 q28 q29 q30 q31 q32).f23 = q23 := by have _h := trivial; exact rfl
theorem own_f_nThreads : (Q.mk q0 q1 q2 q3 q4 q5 q6 q7 q8 q9 q10 q11 q12 q13 q14 q15 q16 q17 q18 q19 q20 q21 q22 q23 q24 q25 q26 q27 q28 q29 q30 q31 q32).f24 = q24 := by have _h := trivial; exact rfl
theorem own_f_cap : (Q.mk q0 q1 q2 q3 q4 q5 q6 q7 q8 q9 q10 q11 q12 q13 q14 q15 q16 q17 q18 q19 q20 q21 q22 q23 q24 q25 q26 q27 q28 q29 q30 q31 q32).f25 = q25 := by have _h := trivial; exact rfl
theorem own_f_mask : (Q.mk q0 q1 q2 q3 q4 q5 q6 q7 q8 q9 q10 q11 q12 q13 q14 q15 q16 q17 q18 q19 q20 q21 q22 q23 q24 q25 q26 q27 q28 q29 q30 q31 q32).f26 = q26 := by have _h := trivial; exact rfl
theorem own_f_head : (Q.mk q0 q1 q2 q3 q4 q5 q6 q7 q8 q9 q10 q11 q12 q13 q14 q15 q16 q17 q18 q19 q20 q21 q22 q23 q24 q25 q26 q27 q28 q29 q30 q31 q32).f27 = q27 := by have _h := trivial; exact rfl
theorem own_f_tail : (Q.mk q0 q1 q2 q3 q4 q5 q6 q7 q8 q9 q10 q11 q12 q13 q14 q15 q16 q17 q18 q19 q20 q21 q22 q23 q24 q25 q26 q27 q28 q29 q30 q31 q32).f28 = q28 := by have _h := trivial; exact rfl
theorem own_f_histLen : (Q.mk q0 q1 q2 q3 q4 q5 q6 q7 q8 q9 q10 q11 q12 q13 q14 q15 q16 q17 q18 q19 q20 q21 q22 q23 q24 q25 q26 q27 q28 q29 q30 q31 q32).f29 = q29 := by have _h := trivial; exact rfl
theorem own_f_snapLen : (Q.mk q0 q1 q2 q3 q4 q5 q6 q7 q8 q9 q10 q11 q12 q13 q14 q15 q16 q17 q18 q19 q20 q21 q22 q23 q24 q25 q26 q27 q28 q29 q30 q31 q32).f30 = q30 := by have _h := trivial; exact rfl
theorem own_f_opCount : (Q.mk q0 q1 q2 q3 q4 q5 q6 q7 q8 q9 q10 q11 q12 q13 q14 q15 q16 q17 q18 q19 q20 q21 q22 q23 q24 q25 q26 q27 q28 q29 q30 q31 q32).f31 = q31 := by have _h := trivial; exact rfl
theorem own_f_completeMask : (Q.mk q0 q1 q2 q3 q4 q5 q6 q7 q8 q9 q10 q11 q12 q13 q14 q15 q16 q17 q18 q19 q20 q21 q22 q23 q24 q25 q26 q27 q28 q29 q30 q31 q32).f32 = q32 := by have _h := trivial; exact rfl
theorem own_e_seq (s : Q) (x : List Int32) : s.s0 x = Q.mk x s.f1 s.f2 s.f3 s.f4 s.f5 s.f6 s.f7 s.f8 s.f9 s.f10 s.f11 s.f12 s.f13 s.f14 s.f15 s.f16 s.f17 s.f18 s.f19 s.f20 s.f21 s.f22 s.f23 s.f24 s.f25 s.f26 s.f27 s.f28 s.f29 s.f30 s.f31 s.f32 := by have _h := trivial; exact rfl
theorem own_e_val (s : Q) (x : List Int32) : s.s1 x = Q.mk s.f0 x s.f2 s.f3 s.f4 s.f5 s.f6 s.f7 s.f8 s.f9 s.f10 s.f11 s.f12 s.f13 s.f14 s.f15 s.f16 s.f17 s.f18 s.f19 s.f20 s.f21 s.f22 s.f23 s.f24 s.f25 s.f26 s.f27 s.f28 s.f29 s.f30 s.f31 s.f32 := by have _h := trivial; exact rfl
theorem own_e_st (s : Q) (x : List Int32) : s.s2 x = Q.mk s.f0 s.f1 x s.f3 s.f4 s.f5 s.f6 s.f7 s.f8 s.f9 s.f10 s.f11 s.f12 s.f13 s.f14 s.f15 s.f16 s.f17 s.f18 s.f19 s.f20 s.f21 s.f22 s.f23 s.f24 s.f25 s.f26 s.f27 s.f28 s.f29 s.f30 s.f31 s.f32 := by have _h := trivial; exact rfl
theorem own_e_locP (s : Q) (x : List Int32) : s.s3 x = Q.mk s.f0 s.f1 s.f2 x s.f4 s.f5 s.f6 s.f7 s.f8 s.f9 s.f10 s.f11 s.f12 s.f13 s.f14 s.f15 s.f16 s.f17 s.f18 s.f19 s.f20 s.f21 s.f22 s.f23 s.f24 s.f25 s.f26 s.f27 s.f28 s.f29 s.f30 s.f31 s.f32 := by have _h := trivial; exact rfl
theorem own_e_locV (s : Q) (x : List Int32) : s.s4 x = Q.mk s.f0 s.f1 s.f2 s.f3 x s.f5 s.f6 s.f7 s.f8 s.f9 s.f10 s.f11 s.f12 s.f13 s.f14 s.f15 s.f16 s.f17 s.f18 s.f19 s.f20 s.f21 s.f22 s.f23 s.f24 s.f25 s.f26 s.f27 s.f28 s.f29 s.f30 s.f31 s.f32 := by have _h := trivial; exact rfl
theorem own_e_lastSt (s : Q) (x : List Int32) : s.s5 x = Q.mk s.f0 s.f1 s.f2 s.f3 s.f4 x s.f6 s.f7 s.f8 s.f9 s.f10 s.f11 s.f12 s.f13 s.f14 s.f15 s.f16 s.f17 s.f18 s.f19 s.f20 s.f21 s.f22 s.f23 s.f24 s.f25 s.f26 s.f27 s.f28 s.f29 s.f30 s.f31 s.f32 := by have _h := trivial; exact rfl
theorem own_e_lastVal (s : Q) (x : List Int32) : s.s6 x = Q.mk s.f0 s.f1 s.f2 s.f3 s.f4 s.f5 x s.f7 s.f8 s.f9 s.f10 s.f11 s.f12 s.f13 s.f14 s.f15 s.f16 s.f17 s.f18 s.f19 s.f20 s.f21 s.f22 s.f23 s.f24 s.f25 s.f26 s.f27 s.f28 s.f29 s.f30 s.f31 s.f32 := by have _h := trivial; exact rfl
theorem own_e_logKind (s : Q) (x : List Int32) : s.s7 x = Q.mk s.f0 s.f1 s.f2 s.f3 s.f4 s.f5 s.f6 x s.f8 s.f9 s.f10 s.f11 s.f12 s.f13 s.f14 s.f15 s.f16 s.f17 s.f18 s.f19 s.f20 s.f21 s.f22 s.f23 s.f24 s.f25 s.f26 s.f27 s.f28 s.f29 s.f30 s.f31 s.f32 := by have _h := trivial; exact rfl
theorem own_e_evKind (s : Q) (x : List Int32) : s.s8 x = Q.mk s.f0 s.f1 s.f2 s.f3 s.f4 s.f5 s.f6 s.f7 x s.f9 s.f10 s.f11 s.f12 s.f13 s.f14 s.f15 s.f16 s.f17 s.f18 s.f19 s.f20 s.f21 s.f22 s.f23 s.f24 s.f25 s.f26 s.f27 s.f28 s.f29 s.f30 s.f31 s.f32 := by have _h := trivial; exact rfl
theorem own_e_evThread (s : Q) (x : List Int32) : s.s9 x = Q.mk s.f0 s.f1 s.f2 s.f3 s.f4 s.f5 s.f6 s.f7 s.f8 x s.f10 s.f11 s.f12 s.f13 s.f14 s.f15 s.f16 s.f17 s.f18 s.f19 s.f20 s.f21 s.f22 s.f23 s.f24 s.f25 s.f26 s.f27 s.f28 s.f29 s.f30 s.f31 s.f32 := by have _h := trivial; exact rfl
theorem own_e_evVal (s : Q) (x : List Int32) : s.s10 x = Q.mk s.f0 s.f1 s.f2 s.f3 s.f4 s.f5 s.f6 s.f7 s.f8 s.f9 x s.f11 s.f12 s.f13 s.f14 s.f15 s.f16 s.f17 s.f18 s.f19 s.f20 s.f21 s.f22 s.f23 s.f24 s.f25 s.f26 s.f27 s.f28 s.f29 s.f30 s.f31 s.f32 := by have _h := trivial; exact rfl
theorem own_e_snap (s : Q) (x : List Int32) : s.s11 x = Q.mk s.f0 s.f1 s.f2 s.f3 s.f4 s.f5 s.f6 s.f7 s.f8 s.f9 s.f10 x s.f12 s.f13 s.f14 s.f15 s.f16 s.f17 s.f18 s.f19 s.f20 s.f21 s.f22 s.f23 s.f24 s.f25 s.f26 s.f27 s.f28 s.f29 s.f30 s.f31 s.f32 := by have _h := trivial; exact rfl
theorem own_e_opKind (s : Q) (x : List Int32) : s.s12 x = Q.mk s.f0 s.f1 s.f2 s.f3 s.f4 s.f5 s.f6 s.f7 s.f8 s.f9 s.f10 s.f11 x s.f13 s.f14 s.f15 s.f16 s.f17 s.f18 s.f19 s.f20 s.f21 s.f22 s.f23 s.f24 s.f25 s.f26 s.f27 s.f28 s.f29 s.f30 s.f31 s.f32 := by have _h := trivial; exact rfl
theorem own_e_opArg (s : Q) (x : List Int32) : s.s13 x = Q.mk s.f0 s.f1 s.f2 s.f3 s.f4 s.f5 s.f6 s.f7 s.f8 s.f9 s.f10 s.f11 s.f12 x s.f14 s.f15 s.f16 s.f17 s.f18 s.f19 s.f20 s.f21 s.f22 s.f23 s.f24 s.f25 s.f26 s.f27 s.f28 s.f29 s.f30 s.f31 s.f32 := by have _h := trivial; exact rfl
theorem own_e_opInv (s : Q) (x : List Int32) : s.s14 x = Q.mk s.f0 s.f1 s.f2 s.f3 s.f4 s.f5 s.f6 s.f7 s.f8 s.f9 s.f10 s.f11 s.f12 s.f13 x s.f15 s.f16 s.f17 s.f18 s.f19 s.f20 s.f21 s.f22 s.f23 s.f24 s.f25 s.f26 s.f27 s.f28 s.f29 s.f30 s.f31 s.f32 := by have _h := trivial; exact rfl
theorem own_e_opRes (s : Q) (x : List Int32) : s.s15 x = Q.mk s.f0 s.f1 s.f2 s.f3 s.f4 s.f5 s.f6 s.f7 s.f8 s.f9 s.f10 s.f11 s.f12 s.f13 s.f14 x s.f16 s.f17 s.f18 s.f19 s.f20 s.f21 s.f22 s.f23 s.f24 s.f25 s.f26 s.f27 s.f28 s.f29 s.f30 s.f31 s.f32 := by have _h := trivial; exact rfl
theorem own_e_opStatus (s : Q) (x : List Int32) : s.s16 x = Q.mk s.f0 s.f1 s.f2 s.f3 s.f4 s.f5 s.f6 s.f7 s.f8 s.f9 s.f10 s.f11 s.f12 s.f13 s.f14 s.f15 x s.f17 s.f18 s.f19 s.f20 s.f21 s.f22 s.f23 s.f24 s.f25 s.f26 s.f27 s.f28 s.f29 s.f30 s.f31 s.f32 := by have _h := trivial; exact rfl
theorem own_e_opRVal (s : Q) (x : List Int32) : s.s17 x = Q.mk s.f0 s.f1 s.f2 s.f3 s.f4 s.f5 s.f6 s.f7 s.f8 s.f9 s.f10 s.f11 s.f12 s.f13 s.f14 s.f15 s.f16 x s.f18 s.f19 s.f20 s.f21 s.f22 s.f23 s.f24 s.f25 s.f26 s.f27 s.f28 s.f29 s.f30 s.f31 s.f32 := by have _h := trivial; exact rfl
theorem own_e_predMask (s : Q) (x : List Int32) : s.s18 x = Q.mk s.f0 s.f1 s.f2 s.f3 s.f4 s.f5 s.f6 s.f7 s.f8 s.f9 s.f10 s.f11 s.f12 s.f13 s.f14 s.f15 s.f16 s.f17 x s.f19 s.f20 s.f21 s.f22 s.f23 s.f24 s.f25 s.f26 s.f27 s.f28 s.f29 s.f30 s.f31 s.f32 := by have _h := trivial; exact rfl
theorem own_e_openOp (s : Q) (x : List Int32) : s.s19 x = Q.mk s.f0 s.f1 s.f2 s.f3 s.f4 s.f5 s.f6 s.f7 s.f8 s.f9 s.f10 s.f11 s.f12 s.f13 s.f14 s.f15 s.f16 s.f17 s.f18 x s.f20 s.f21 s.f22 s.f23 s.f24 s.f25 s.f26 s.f27 s.f28 s.f29 s.f30 s.f31 s.f32 := by have _h := trivial; exact rfl
theorem own_e_qBuf (s : Q) (x : List Int32) : s.s20 x = Q.mk s.f0 s.f1 s.f2 s.f3 s.f4 s.f5 s.f6 s.f7 s.f8 s.f9 s.f10 s.f11 s.f12 s.f13 s.f14 s.f15 s.f16 s.f17 s.f18 s.f19 x s.f21 s.f22 s.f23 s.f24 s.f25 s.f26 s.f27 s.f28 s.f29 s.f30 s.f31 s.f32 := by have _h := trivial; exact rfl
theorem own_e_qLen (s : Q) (x : List Int32) : s.s21 x = Q.mk s.f0 s.f1 s.f2 s.f3 s.f4 s.f5 s.f6 s.f7 s.f8 s.f9 s.f10 s.f11 s.f12 s.f13 s.f14 s.f15 s.f16 s.f17 s.f18 s.f19 s.f20 x s.f22 s.f23 s.f24 s.f25 s.f26 s.f27 s.f28 s.f29 s.f30 s.f31 s.f32 := by have _h := trivial; exact rfl
theorem own_e_nextCand (s : Q) (x : List Int32) : s.s22 x = Q.mk s.f0 s.f1 s.f2 s.f3 s.f4 s.f5 s.f6 s.f7 s.f8 s.f9 s.f10 s.f11 s.f12 s.f13 s.f14 s.f15 s.f16 s.f17 s.f18 s.f19 s.f20 s.f21 x s.f23 s.f24 s.f25 s.f26 s.f27 s.f28 s.f29 s.f30 s.f31 s.f32 := by have _h := trivial; exact rfl
theorem own_e_chosen (s : Q) (x : List Int32) : s.s23 x = Q.mk s.f0 s.f1 s.f2 s.f3 s.f4 s.f5 s.f6 s.f7 s.f8 s.f9 s.f10 s.f11 s.f12 s.f13 s.f14 s.f15 s.f16 s.f17 s.f18 s.f19 s.f20 s.f21 s.f22 x s.f24 s.f25 s.f26 s.f27 s.f28 s.f29 s.f30 s.f31 s.f32 := by have _h := trivial; exact rfl
theorem own_e_nThreads (s : Q) (x : Int32) : s.s24 x = Q.mk s.f0 s.f1 s.f2 s.f3 s.f4 s.f5 s.f6 s.f7 s.f8 s.f9 s.f10 s.f11 s.f12 s.f13 s.f14 s.f15 s.f16 s.f17 s.f18 s.f19 s.f20 s.f21 s.f22 s.f23 x s.f25 s.f26 s.f27 s.f28 s.f29 s.f30 s.f31 s.f32 := by have _h := trivial; exact rfl
theorem own_e_cap (s : Q) (x : Int32) : s.s25 x = Q.mk s.f0 s.f1 s.f2 s.f3 s.f4 s.f5 s.f6 s.f7 s.f8 s.f9 s.f10 s.f11 s.f12 s.f13 s.f14 s.f15 s.f16 s.f17 s.f18 s.f19 s.f20 s.f21 s.f22 s.f23 s.f24 x s.f26 s.f27 s.f28 s.f29 s.f30 s.f31 s.f32 := by have _h := trivial; exact rfl
theorem own_e_mask (s : Q) (x : Int32) : s.s26 x = Q.mk s.f0 s.f1 s.f2 s.f3 s.f4 s.f5 s.f6 s.f7 s.f8 s.f9 s.f10 s.f11 s.f12 s.f13 s.f14 s.f15 s.f16 s.f17 s.f18 s.f19 s.f20 s.f21 s.f22 s.f23 s.f24 s.f25 x s.f27 s.f28 s.f29 s.f30 s.f31 s.f32 := by have _h := trivial; exact rfl
theorem own_e_head (s : Q) (x : Int32) : s.s27 x = Q.mk s.f0 s.f1 s.f2 s.f3 s.f4 s.f5 s.f6 s.f7 s.f8 s.f9 s.f10 s.f11 s.f12 s.f13 s.f14 s.f15 s.f16 s.f17 s.f18 s.f19 s.f20 s.f21 s.f22 s.f23 s.f24 s.f25 s.f26 x s.f28 s.f29 s.f30 s.f31 s.f32 := by have _h := trivial; exact rfl
theorem own_e_tail (s : Q) (x : Int32) : s.s28 x = Q.mk s.f0 s.f1 s.f2 s.f3 s.f4 s.f5 s.f6 s.f7 s.f8 s.f9 s.f10 s.f11 s.f12 s.f13 s.f14 s.f15 s.f16 s.f17 s.f18 s.f19 s.f20 s.f21 s.f22 s.f23 s.f24 s.f25 s.f26 s.f27 x s.f29 s.f30 s.f31 s.f32 := by have _h := trivial; exact rfl
theorem own_e_histLen (s : Q) (x : Int32) : s.s29 x = Q.mk s.f0 s.f1 s.f2 s.f3 s.f4 s.f5 s.f6 s.f7 s.f8 s.f9 s.f10 s.f11 s.f12 s.f13 s.f14 s.f15 s.f16 s.f17 s.f18 s.f19 s.f20 s.f21 s.f22 s.f23 s.f24 s.f25 s.f26 s.f27 s.f28 x s.f30 s.f31 s.f32 := by have _h := trivial; exact rfl
theorem own_e_snapLen (s : Q) (x : Int32) : s.s30 x = Q.mk s.f0 s.f1 s.f2 s.f3 s.f4 s.f5 s.f6 s.f7 s.f8 s.f9 s.f10 s.f11 s.f12 s.f13 s.f14 s.f15 s.f16 s.f17 s.f18 s.f19 s.f20 s.f21 s.f22 s.f23 s.f24 s.f25 s.f26 s.f27 s.f28 s.f29 x s.f31 s.f32 := by have _h := trivial; exact rfl
theorem own_e_opCount (s : Q) (x : Int32) : s.s31 x = Q.mk s.f0 s.f1 s.f2 s.f3 s.f4 s.f5 s.f6 s.f7 s.f8 s.f9 s.f10 s.f11 s.f12 s.f13 s.f14 s.f15 s.f16 s.f17 s.f18 s.f19 s.f20 s.f21 s.f22 s.f23 s.f24 s.f25 s.f26 s.f27 s.f28 s.f29 s.f30 x s.f32 := by have _h := trivial; exact rfl
theorem own_e_completeMask (s : Q) (x : Int32) : s.s32 x = Q.mk s.f0 s.f1 s.f2 s.f3 s.f4 s.f5 s.f6 s.f7 s.f8 s.f9 s.f10 s.f11 s.f12 s.f13 s.f14 s.f15 s.f16 s.f17 s.f18 s.f19 s.f20 s.f21 s.f22 s.f23 s.f24 s.f25 s.f26 s.f27 s.f28 s.f29 s.f30 s.f31 x := by have _h := trivial; exact rfl
theorem own_z_seq : Q0.f0 = List.replicate 8 0 := by have _h := trivial; exact rfl
theorem own_z_val : Q0.f1 = List.replicate 8 0 := by have _h := trivial; exact rfl
theorem own_z_st : Q0.f2 = List.replicate 4 0 := by have _h := trivial; exact rfl
theorem own_z_locP : Q0.f3 = List.replicate 4 0 := by have _h := trivial; exact rfl
theorem own_z_locV : Q0.f4 = List.replicate 4 0 := by have _h := trivial; exact rfl
theorem own_z_lastSt : Q0.f5 = List.replicate 4 0 := by have _h := trivial; exact rfl
theorem own_z_lastVal : Q0.f6 = List.replicate 4 0 := by have _h := trivial; exact rfl
theorem own_z_logKind : Q0.f7 = List.replicate 4 0 := by have _h := trivial; exact rfl
theorem own_z_evKind : Q0.f8 = List.replicate 64 0 := by have _h := trivial; exact rfl
theorem own_z_evThread : Q0.f9 = List.replicate 64 0 := by have _h := trivial; exact rfl
theorem own_z_evVal : Q0.f10 = List.replicate 64 0 := by have _h := trivial; exact rfl
theorem own_z_snap : Q0.f11 = List.replicate 8 0 := by have _h := trivial; exact rfl
theorem own_z_opKind : Q0.f12 = List.replicate 6 0 := by have _h := trivial; exact rfl
theorem own_z_opArg : Q0.f13 = List.replicate 6 0 := by have _h := trivial; exact rfl
theorem own_z_opInv : Q0.f14 = List.replicate 6 0 := by have _h := trivial; exact rfl
theorem own_z_opRes : Q0.f15 = List.replicate 6 0 := by have _h := trivial; exact rfl
theorem own_z_opStatus : Q0.f16 = List.replicate 6 0 := by have _h := trivial; exact rfl
theorem own_z_opRVal : Q0.f17 = List.replicate 6 0 := by have _h := trivial; exact rfl
theorem own_z_predMask : Q0.f18 = List.replicate 6 0 := by have _h := trivial; exact rfl
theorem own_z_openOp : Q0.f19 = List.replicate 4 0 := by have _h := trivial; exact rfl
theorem own_z_qBuf : Q0.f20 = List.replicate 56 0 := by have _h := trivial; exact rfl
theorem own_z_qLen : Q0.f21 = List.replicate 7 0 := by have _h := trivial; exact rfl
theorem own_z_nextCand : Q0.f22 = List.replicate 7 0 := by have _h := trivial; exact rfl
theorem own_z_chosen : Q0.f23 = List.replicate 7 0 := by have _h := trivial; exact rfl
theorem own_z_nThreads : Q0.f24 = (0:Int32) := by have _h := trivial; exact rfl
theorem own_z_cap : Q0.f25 = (0:Int32) := by have _h := trivial; exact rfl
theorem own_z_mask : Q0.f26 = (0:Int32) := by have _h := trivial; exact rfl
theorem own_z_head : Q0.f27 = (0:Int32) := by have _h := trivial; exact rfl
theorem own_z_tail : Q0.f28 = (0:Int32) := by have _h := trivial; exact rfl
theorem own_z_histLen : Q0.f29 = (0:Int32) := by have _h := trivial; exact rfl
theorem own_z_snapLen : Q0.f30 = (0:Int32) := by have _h := trivial; exact rfl
theorem own_z_opCount : Q0.f31 = (0:Int32) := by have _h := trivial; exact rfl
theorem own_z_completeMask : Q0.f32 = (0:Int32) := by have _h := trivial; exact rfl
def own_Qa := And.intro @own_f_seq (And.intro @own_e_seq (And.intro @own_z_seq (And.intro @own_f_val (And.intro @own_e_val (And.intro @own_z_val (And.intro @own_f_st (And.intro @own_e_st (And.intro @own_z_st (And.intro @own_f_locP (And.intro @own_e_locP (And.intro @own_z_locP (And.intro @own_f_locV (And.intro @own_e_locV (And.intro @own_z_locV (And.intro @own_f_lastSt (And.intro @own_e_lastSt (And.intro @own_z_lastSt (And.intro @own_f_lastVal (And.intro @own_e_lastVal (And.intro @own_z_lastVal (And.intro @own_f_logKind (And.intro @own_e_logKind (And.intro @own_z_logKind (And.intro @own_f_evKind (And.intro @own_e_evKind (And.intro @own_z_evKind (And.intro @own_f_evThread (And.intro @own_e_evThread (And.intro @own_z_evThread (And.intro @own_f_evVal (And.intro @own_e_evVal (And.intro @own_z_evVal (And.intro @own_f_snap (And.intro @own_e_snap (And.intro @own_z_snap (And.intro @own_f_opKind (And.intro @own_e_opKind (And.intro @own_z_opKind (And.intro @own_f_opArg (And.intro @own_e_opArg (And.intro @own_z_opArg (And.intro @own_f_opInv (And.intro @own_e_opInv (And.intro @own_z_opInv (And.intro @own_f_opRes (And.intro @own_e_opRes (And.intro @own_z_opRes (And.intro @own_f_opStatus (And.intro @own_e_opStatus (And.intro @own_z_opStatus (And.intro @own_f_opRVal (And.intro @own_e_opRVal (And.intro @own_z_opRVal (And.intro @own_f_predMask (And.intro @own_e_predMask (And.intro @own_z_predMask (And.intro @own_f_openOp (And.intro @own_e_openOp (And.intro @own_z_openOp (And.intro @own_f_qBuf (And.intro @own_e_qBuf (And.intro @own_z_qBuf (And.intro @own_f_qLen (And.intro @own_e_qLen (And.intro @own_z_qLen (And.intro @own_f_nextCand (And.intro @own_e_nextCand (And.intro @own_z_nextCand (And.intro @own_f_chosen (And.intro @own_e_chosen (And.intro @own_z_chosen (And.intro @own_f_nThreads (And.intro @own_e_nThreads (And.intro @own_z_nThreads (And.intro @own_f_cap (And.intro @own_e_cap (And.intro @own_z_cap (And.intro @own_f_mask (And.intro @own_e_mask (And.intro @own_z_mask (And.intro @own_f_head (And.intro @own_e_head (And.intro @own_z_head (And.intro @own_f_tail (And.intro @own_e_tail (And.intro @own_z_tail (And.intro @own_f_histLen (And.intro @own_e_histLen (And.intro @own_z_histLen (And.intro @own_f_snapLen (And.intro @own_e_snapLen (And.intro @own_z_snapLen (And.intro @own_f_opCount (And.intro @own_e_opCount (And.intro @own_z_opCount (And.intro @own_f_completeMask (And.intro @own_e_completeMask (@own_z_completeMask))))))))))))))))))))))))))))))))))))))))))))))))))))))))))))))))))))))))))))))))))))))))))))))))))
abbrev W0 (R : AHeap) : AHeap := R
def own_cells1 (q0 q1 q2 q3 q4 q5 q6 q7 q8 q9 q10 q11 q12 q13 q14 q15 q16 q17 q18 q19 q20 q21 q22 q23 : List Int32) (q24 q25 : Int32) (q26 q27 : Int32) (q28 q29 : Int32) (q30 q31 q32 : Int32) (R : AHeap) : AHeap := .inl [.ref 1, .ref 2, .ref 3, .ref 4, .ref 5, .ref 6, .ref 7, .ref 8, .ref 9, .ref 10, .ref 11, .ref 12, .ref 13, .ref 14, .ref 15, .ref 16, .ref 17, .ref 18, .ref 19, .ref 20, .ref 21, .ref 22, .ref 23, .ref 24, .int q24, .int q25, .int q26, .int q27, .int q28, .int q29, .int q30, .int q31, .int q32] ::
  .inr (.inl (1, q0)) ::
  .inr (.inl (1, q1)) ::
  .inr (.inl (1, q2)) ::
  .inr (.inl (1, q3)) ::
  .inr (.inl (1, q4)) ::
  .inr (.inl (1, q5)) ::
  .inr (.inl (1, q6)) ::
  .inr (.inl (1, q7)) ::
  .inr (.inl (1, q8)) ::
  .inr (.inl (1, q9)) ::
  .inr (.inl (1, q10)) ::
  .inr (.inl (1, q11)) ::
  .inr (.inl (1, q12)) ::
  .inr (.inl (1, q13)) ::
  .inr (.inl (1, q14)) ::
  .inr (.inl (1, q15)) ::
  .inr (.inl (1, q16)) ::
  .inr (.inl (1, q17)) ::
  .inr (.inl (1, q18)) ::
  .inr (.inl (1, q19)) ::
  .inr (.inl (1, q20)) ::
  .inr (.inl (1, q21)) ::
  .inr (.inl (1, q22)) ::
  .inr (.inl (1, q23)) ::
  R
def C1 (q0 q1 q2 q3 q4 q5 q6 q7 q8 q9 q10 q11 q12 q13 q14 q15 q16 q17 q18 q19 q20 q21 q22 q23 : List Int32) (q24 q25 : Int32) (q26 q27 : Int32) (q28 q29 : Int32) (q30 q31 q32 : Int32) (R : AHeap) : AHeap := own_cells1 q0 q1 q2 q3 q4 q5 q6 q7 q8 q9 q10 q11 q12 q13 q14 q15 q16 q17 q18 q19 q20 q21 q22 q23 q24 q25 q26 q27 q28 q29 q30 q31 q32 R
abbrev W1 (s : Q) (R : AHeap) : AHeap := C1 s.f0 s.f1 s.f2 s.f3 s.f4 s.f5 s.f6 s.f7 s.f8 s.f9 s.f10 s.f11 s.f12 s.f13 s.f14 s.f15 s.f16 s.f17 s.f18 s.f19 s.f20 s.f21 s.f22 s.f23 s.f24 s.f25 s.f26 s.f27 s.f28 s.f29 s.f30 s.f31 s.f32 R
theorem own_g1_seq : getC (C1 q0 q1 q2 q3 q4 q5 q6 q7 q8 q9 q10 q11 q12 q13 q14 q15 q16 q17 q18 q19 q20 q21 q22 q23 q24 q25 q26 q27 q28 q29 q30 q31 q32 R) 0 0 = some (.ref 1) := rfl
theorem own_a1_seq : (C1 q0 q1 q2 q3 q4 q5 q6 q7 q8 q9 q10 q11 q12 q13 q14 q15 q16 q17 q18 q19 q20 q21 q22 q23 q24 q25 q26 q27 q28 q29 q30 q31 q32 R)[1]? = some (.inr (.inl (1, q0))) := rfl
theorem own_s1_seq {x : List Int32} : (C1 q0 q1 q2 q3 q4 q5 q6 q7 q8 q9 q10 q11 q12 q13 q14 q15 q16 q17 q18 q19 q20 q21 q22 q23 q24 q25 q26 q27 q28 q29 q30 q31 q32 R).set 1 (.inr (.inl (1, x))) = (C1 x q1 q2 q3 q4 q5 q6 q7 q8 q9 q10 q11 q12 q13 q14 q15 q16 q17 q18 q19 q20 q21 q22 q23 q24 q25 q26 q27 q28 q29 q30 q31 q32 R) := rfl
theorem own_g1_val : getC (C1 q0 q1 q2 q3 q4 q5 q6 q7 q8 q9 q10 q11 q12 q13 q14 q15 q16 q17 q18 q19 q20 q21 q22 q23 q24 q25 q26 q27 q28 q29 q30 q31 q32 R) 0 1 = some (.ref 2) := rfl
theorem own_a1_val : (C1 q0 q1 q2 q3 q4 q5 q6 q7 q8 q9 q10 q11 q12 q13 q14 q15 q16 q17 q18 q19 q20 q21 q22 q23 q24 q25 q26 q27 q28 q29 q30 q31 q32 R)[2]? = some (.inr (.inl (1, q1))) := rfl
theorem own_s1_val {x : List Int32} : (C1 q0 q1 q2 q3 q4 q5 q6 q7 q8 q9 q10 q11 q12 q13 q14 q15 q16 q17 q18 q19 q20 q21 q22 q23 q24 q25 q26 q27 q28 q29 q30 q31 q32 R).set 2 (.inr (.inl (1, x))) = (C1 q0 x q2 q3 q4 q5 q6 q7 q8 q9 q10 q11 q12 q13 q14 q15 q16 q17 q18 q19 q20 q21 q22 q23 q24 q25 q26 q27 q28 q29 q30 q31 q32 R) := rfl
theorem own_g1_st : getC (C1 q0 q1 q2 q3 q4 q5 q6 q7 q8 q9 q10 q11 q12 q13 q14 q15 q16 q17 q18 q19 q20 q21 q22 q23 q24 q25 q26 q27 q28 q29 q30 q31 q32 R) 0 2 = some (.ref 3) := rfl
theorem own_a1_st : (C1 q0 q1 q2 q3 q4 q5 q6 q7 q8 q9 q10 q11 q12 q13 q14 q15 q16 q17 q18 q19 q20 q21 q22 q23 q24 q25 q26 q27 q28 q29 q30 q31 q32 R)[3]? = some (.inr (.inl (1, q2))) := rfl
theorem own_s1_st {x : List Int32} : (C1 q0 q1 q2 q3 q4 q5 q6 q7 q8 q9 q10 q11 q12 q13 q14 q15 q16 q17 q18 q19 q20 q21 q22 q23 q24 q25 q26 q27 q28 q29 q30 q31 q32 R).set 3 (.inr (.inl (1, x))) = (C1 q0 q1 x q3 q4 q5 q6 q7 q8 q9 q10 q11 q12 q13 q14 q15 q16 q17 q18 q19 q20 q21 q22 q23 q24 q25 q26 q27 q28 q29 q30 q31 q32 R) := rfl
theorem own_g1_locP : getC (C1 q0 q1 q2 q3 q4 q5 q6 q7 q8 q9 q10 q11 q12 q13 q14 q15 q16 q17 q18 q19 q20 q21 q22 q23 q24 q25 q26 q27 q28 q29 q30 q31 q32 R) 0 3 = some (.ref 4) := rfl
theorem own_a1_locP : (C1 q0 q1 q2 q3 q4 q5 q6 q7 q8 q9 q10 q11 q12 q13 q14 q15 q16 q17 q18 q19 q20 q21 q22 q23 q24 q25 q26 q27 q28 q29 q30 q31 q32 R)[4]? = some (.inr (.inl (1, q3))) := rfl
theorem own_s1_locP {x : List Int32} : (C1 q0 q1 q2 q3 q4 q5 q6 q7 q8 q9 q10 q11 q12 q13 q14 q15 q16 q17 q18 q19 q20 q21 q22 q23 q24 q25 q26 q27 q28 q29 q30 q31 q32 R).set 4 (.inr (.inl (1, x))) = (C1 q0 q1 q2 x q4 q5 q6 q7 q8 q9 q10 q11 q12 q13 q14 q15 q16 q17 q18 q19 q20 q21 q22 q23 q24 q25 q26 q27 q28 q29 q30 q31 q32 R) := rfl
theorem own_g1_locV : getC (C1 q0 q1 q2 q3 q4 q5 q6 q7 q8 q9 q10 q11 q12 q13 q14 q15 q16 q17 q18 q19 q20 q21 q22 q23 q24 q25 q26 q27 q28 q29 q30 q31 q32 R) 0 4 = some (.ref 5) := rfl
theorem own_a1_locV : (C1 q0 q1 q2 q3 q4 q5 q6 q7 q8 q9 q10 q11 q12 q13 q14 q15 q16 q17 q18 q19 q20 q21 q22 q23 q24 q25 q26 q27 q28 q29 q30 q31 q32 R)[5]? = some (.inr (.inl (1, q4))) := rfl
theorem own_s1_locV {x : List Int32} : (C1 q0 q1 q2 q3 q4 q5 q6 q7 q8 q9 q10 q11 q12 q13 q14 q15 q16 q17 q18 q19 q20 q21 q22 q23 q24 q25 q26 q27 q28 q29 q30 q31 q32 R).set 5 (.inr (.inl (1, x))) = (C1 q0 q1 q2 q3 x q5 q6 q7 q8 q9 q10 q11 q12 q13 q14 q15 q16 q17 q18 q19 q20 q21 q22 q23 q24 q25 q26 q27 q28 q29 q30 q31 q32 R) := rfl
theorem own_g1_lastSt : getC (C1 q0 q1 q2 q3 q4 q5 q6 q7 q8 q9 q10 q11 q12 q13 q14 q15 q16 q17 q18 q19 q20 q21 q22 q23 q24 q25 q26 q27 q28 q29 q30 q31 q32 R) 0 5 = some (.ref 6) := rfl
theorem own_a1_lastSt : (C1 q0 q1 q2 q3 q4 q5 q6 q7 q8 q9 q10 q11 q12 q13 q14 q15 q16 q17 q18 q19 q20 q21 q22 q23 q24 q25 q26 q27 q28 q29 q30 q31 q32 R)[6]? = some (.inr (.inl (1, q5))) := rfl
theorem own_s1_lastSt {x : List Int32} : (C1 q0 q1 q2 q3 q4 q5 q6 q7 q8 q9 q10 q11 q12 q13 q14 q15 q16 q17 q18 q19 q20 q21 q22 q23 q24 q25 q26 q27 q28 q29 q30 q31 q32 R).set 6 (.inr (.inl (1, x))) = (C1 q0 q1 q2 q3 q4 x q6 q7 q8 q9 q10 q11 q12 q13 q14 q15 q16 q17 q18 q19 q20 q21 q22 q23 q24 q25 q26 q27 q28 q29 q30 q31 q32 R) := rfl
theorem own_g1_lastVal : getC (C1 q0 q1 q2 q3 q4 q5 q6 q7 q8 q9 q10 q11 q12 q13 q14 q15 q16 q17 q18 q19 q20 q21 q22 q23 q24 q25 q26 q27 q28 q29 q30 q31 q32 R) 0 6 = some (.ref 7) := rfl
theorem own_a1_lastVal : (C1 q0 q1 q2 q3 q4 q5 q6 q7 q8 q9 q10 q11 q12 q13 q14 q15 q16 q17 q18 q19 q20 q21 q22 q23 q24 q25 q26 q27 q28 q29 q30 q31 q32 R)[7]? = some (.inr (.inl (1, q6))) := rfl
theorem own_s1_lastVal {x : List Int32} : (C1 q0 q1 q2 q3 q4 q5 q6 q7 q8 q9 q10 q11 q12 q13 q14 q15 q16 q17 q18 q19 q20 q21 q22 q23 q24 q25 q26 q27 q28 q29 q30 q31 q32 R).set 7 (.inr (.inl (1, x))) = (C1 q0 q1 q2 q3 q4 q5 x q7 q8 q9 q10 q11 q12 q13 q14 q15 q16 q17 q18 q19 q20 q21 q22 q23 q24 q25 q26 q27 q28 q29 q30 q31 q32 R) := rfl
theorem own_g1_logKind : getC (C1 q0 q1 q2 q3 q4 q5 q6 q7 q8 q9 q10 q11 q12 q13 q14 q15 q16 q17 q18 q19 q20 q21 q22 q23 q24 q25 q26 q27 q28 q29 q30 q31 q32 R) 0 7 = some (.ref 8) := rfl
theorem own_a1_logKind : (C1 q0 q1 q2 q3 q4 q5 q6 q7 q8 q9 q10 q11 q12 q13 q14 q15 q16 q17 q18 q19 q20 q21 q22 q23 q24 q25 q26 q27 q28 q29 q30 q31 q32 R)[8]? = some (.inr (.inl (1, q7))) := rfl
theorem own_s1_logKind {x : List Int32} : (C1 q0 q1 q2 q3 q4 q5 q6 q7 q8 q9 q10 q11 q12 q13 q14 q15 q16 q17 q18 q19 q20 q21 q22 q23 q24 q25 q26 q27 q28 q29 q30 q31 q32 R).set 8 (.inr (.inl (1, x))) = (C1 q0 q1 q2 q3 q4 q5 q6 x q8 q9 q10 q11 q12 q13 q14 q15 q16 q17 q18 q19 q20 q21 q22 q23 q24 q25 q26 q27 q28 q29 q30 q31 q32 R) := rfl
theorem own_g1_evKind : getC (C1 q0 q1 q2 q3 q4 q5 q6 q7 q8 q9 q10 q11 q12 q13 q14 q15 q16 q17 q18 q19 q20 q21 q22 q23 q24 q25 q26 q27 q28 q29 q30 q31 q32 R) 0 8 = some (.ref 9) := rfl
theorem own_a1_evKind : (C1 q0 q1 q2 q3 q4 q5 q6 q7 q8 q9 q10 q11 q12 q13 q14 q15 q16 q17 q18 q19 q20 q21 q22 q23 q24 q25 q26 q27 q28 q29 q30 q31 q32 R)[9]? = some (.inr (.inl (1, q8))) := rfl
theorem own_s1_evKind {x : List Int32} : (C1 q0 q1 q2 q3 q4 q5 q6 q7 q8 q9 q10 q11 q12 q13 q14 q15 q16 q17 q18 q19 q20 q21 q22 q23 q24 q25 q26 q27 q28 q29 q30 q31 q32 R).set 9 (.inr (.inl (1, x))) = (C1 q0 q1 q2 q3 q4 q5 q6 q7 x q9 q10 q11 q12 q13 q14 q15 q16 q17 q18 q19 q20 q21 q22 q23 q24 q25 q26 q27 q28 q29 q30 q31 q32 R) := rfl
theorem own_g1_evThread : getC (C1 q0 q1 q2 q3 q4 q5 q6 q7 q8 q9 q10 q11 q12 q13 q14 q15 q16 q17 q18 q19 q20 q21 q22 q23 q24 q25 q26 q27 q28 q29 q30 q31 q32 R) 0 9 = some (.ref 10) := rfl
theorem own_a1_evThread : (C1 q0 q1 q2 q3 q4 q5 q6 q7 q8 q9 q10 q11 q12 q13 q14 q15 q16 q17 q18 q19 q20 q21 q22 q23 q24 q25 q26 q27 q28 q29 q30 q31 q32 R)[10]? = some (.inr (.inl (1, q9))) := rfl
theorem own_s1_evThread {x : List Int32} : (C1 q0 q1 q2 q3 q4 q5 q6 q7 q8 q9 q10 q11 q12 q13 q14 q15 q16 q17 q18 q19 q20 q21 q22 q23 q24 q25 q26 q27 q28 q29 q30 q31 q32 R).set 10 (.inr (.inl (1, x))) = (C1 q0 q1 q2 q3 q4 q5 q6 q7 q8 x q10 q11 q12 q13 q14 q15 q16 q17 q18 q19 q20 q21 q22 q23 q24 q25 q26 q27 q28 q29 q30 q31 q32 R) := rfl
theorem own_g1_evVal : getC (C1 q0 q1 q2 q3 q4 q5 q6 q7 q8 q9 q10 q11 q12 q13 q14 q15 q16 q17 q18 q19 q20 q21 q22 q23 q24 q25 q26 q27 q28 q29 q30 q31 q32 R) 0 10 = some (.ref 11) := rfl
theorem own_a1_evVal : (C1 q0 q1 q2 q3 q4 q5 q6 q7 q8 q9 q10 q11 q12 q13 q14 q15 q16 q17 q18 q19 q20 q21 q22 q23 q24 q25 q26 q27 q28 q29 q30 q31 q32 R)[11]? = some (.inr (.inl (1, q10))) := rfl
theorem own_s1_evVal {x : List Int32} : (C1 q0 q1 q2 q3 q4 q5 q6 q7 q8 q9 q10 q11 q12 q13 q14 q15 q16 q17 q18 q19 q20 q21 q22 q23 q24 q25 q26 q27 q28 q29 q30 q31 q32 R).set 11 (.inr (.inl (1, x))) = (C1 q0 q1 q2 q3 q4 q5 q6 q7 q8 q9 x q11 q12 q13 q14 q15 q16 q17 q18 q19 q20 q21 q22 q23 q24 q25 q26 q27 q28 q29 q30 q31 q32 R) := rfl
theorem own_g1_snap : getC (C1 q0 q1 q2 q3 q4 q5 q6 q7 q8 q9 q10 q11 q12 q13 q14 q15 q16 q17 q18 q19 q20 q21 q22 q23 q24 q25 q26 q27 q28 q29 q30 q31 q32 R) 0 11 = some (.ref 12) := rfl
theorem own_a1_snap : (C1 q0 q1 q2 q3 q4 q5 q6 q7 q8 q9 q10 q11 q12 q13 q14 q15 q16 q17 q18 q19 q20 q21 q22 q23 q24 q25 q26 q27 q28 q29 q30 q31 q32 R)[12]? = some (.inr (.inl (1, q11))) := rfl
theorem own_s1_snap {x : List Int32} : (C1 q0 q1 q2 q3 q4 q5 q6 q7 q8 q9 q10 q11 q12 q13 q14 q15 q16 q17 q18 q19 q20 q21 q22 q23 q24 q25 q26 q27 q28 q29 q30 q31 q32 R).set 12 (.inr (.inl (1, x))) = (C1 q0 q1 q2 q3 q4 q5 q6 q7 q8 q9 q10 x q12 q13 q14 q15 q16 q17 q18 q19 q20 q21 q22 q23 q24 q25 q26 q27 q28 q29 q30 q31 q32 R) := rfl
theorem own_g1_opKind : getC (C1 q0 q1 q2 q3 q4 q5 q6 q7 q8 q9 q10 q11 q12 q13 q14 q15 q16 q17 q18 q19 q20 q21 q22 q23 q24 q25 q26 q27 q28 q29 q30 q31 q32 R) 0 12 = some (.ref 13) := rfl
theorem own_a1_opKind : (C1 q0 q1 q2 q3 q4 q5 q6 q7 q8 q9 q10 q11 q12 q13 q14 q15 q16 q17 q18 q19 q20 q21 q22 q23 q24 q25 q26 q27 q28 q29 q30 q31 q32 R)[13]? = some (.inr (.inl (1, q12))) := rfl
theorem own_s1_opKind {x : List Int32} : (C1 q0 q1 q2 q3 q4 q5 q6 q7 q8 q9 q10 q11 q12 q13 q14 q15 q16 q17 q18 q19 q20 q21 q22 q23 q24 q25 q26 q27 q28 q29 q30 q31 q32 R).set 13 (.inr (.inl (1, x))) = (C1 q0 q1 q2 q3 q4 q5 q6 q7 q8 q9 q10 q11 x q13 q14 q15 q16 q17 q18 q19 q20 q21 q22 q23 q24 q25 q26 q27 q28 q29 q30 q31 q32 R) := rfl
theorem own_g1_opArg : getC (C1 q0 q1 q2 q3 q4 q5 q6 q7 q8 q9 q10 q11 q12 q13 q14 q15 q16 q17 q18 q19 q20 q21 q22 q23 q24 q25 q26 q27 q28 q29 q30 q31 q32 R) 0 13 = some (.ref 14) := rfl
theorem own_a1_opArg : (C1 q0 q1 q2 q3 q4 q5 q6 q7 q8 q9 q10 q11 q12 q13 q14 q15 q16 q17 q18 q19 q20 q21 q22 q23 q24 q25 q26 q27 q28 q29 q30 q31 q32 R)[14]? = some (.inr (.inl (1, q13))) := rfl
theorem own_s1_opArg {x : List Int32} : (C1 q0 q1 q2 q3 q4 q5 q6 q7 q8 q9 q10 q11 q12 q13 q14 q15 q16 q17 q18 q19 q20 q21 q22 q23 q24 q25 q26 q27 q28 q29 q30 q31 q32 R).set 14 (.inr (.inl (1, x))) = (C1 q0 q1 q2 q3 q4 q5 q6 q7 q8 q9 q10 q11 q12 x q14 q15 q16 q17 q18 q19 q20 q21 q22 q23 q24 q25 q26 q27 q28 q29 q30 q31 q32 R) := rfl
theorem own_g1_opInv : getC (C1 q0 q1 q2 q3 q4 q5 q6 q7 q8 q9 q10 q11 q12 q13 q14 q15 q16 q17 q18 q19 q20 q21 q22 q23 q24 q25 q26 q27 q28 q29 q30 q31 q32 R) 0 14 = some (.ref 15) := rfl
theorem own_a1_opInv : (C1 q0 q1 q2 q3 q4 q5 q6 q7 q8 q9 q10 q11 q12 q13 q14 q15 q16 q17 q18 q19 q20 q21 q22 q23 q24 q25 q26 q27 q28 q29 q30 q31 q32 R)[15]? = some (.inr (.inl (1, q14))) := rfl
theorem own_s1_opInv {x : List Int32} : (C1 q0 q1 q2 q3 q4 q5 q6 q7 q8 q9 q10 q11 q12 q13 q14 q15 q16 q17 q18 q19 q20 q21 q22 q23 q24 q25 q26 q27 q28 q29 q30 q31 q32 R).set 15 (.inr (.inl (1, x))) = (C1 q0 q1 q2 q3 q4 q5 q6 q7 q8 q9 q10 q11 q12 q13 x q15 q16 q17 q18 q19 q20 q21 q22 q23 q24 q25 q26 q27 q28 q29 q30 q31 q32 R) := rfl
theorem own_g1_opRes : getC (C1 q0 q1 q2 q3 q4 q5 q6 q7 q8 q9 q10 q11 q12 q13 q14 q15 q16 q17 q18 q19 q20 q21 q22 q23 q24 q25 q26 q27 q28 q29 q30 q31 q32 R) 0 15 = some (.ref 16) := rfl
theorem own_a1_opRes : (C1 q0 q1 q2 q3 q4 q5 q6 q7 q8 q9 q10 q11 q12 q13 q14 q15 q16 q17 q18 q19 q20 q21 q22 q23 q24 q25 q26 q27 q28 q29 q30 q31 q32 R)[16]? = some (.inr (.inl (1, q15))) := rfl
theorem own_s1_opRes {x : List Int32} : (C1 q0 q1 q2 q3 q4 q5 q6 q7 q8 q9 q10 q11 q12 q13 q14 q15 q16 q17 q18 q19 q20 q21 q22 q23 q24 q25 q26 q27 q28 q29 q30 q31 q32 R).set 16 (.inr (.inl (1, x))) = (C1 q0 q1 q2 q3 q4 q5 q6 q7 q8 q9 q10 q11 q12 q13 q14 x q16 q17 q18 q19 q20 q21 q22 q23 q24 q25 q26 q27 q28 q29 q30 q31 q32 R) := rfl
theorem own_g1_opStatus : getC (C1 q0 q1 q2 q3 q4 q5 q6 q7 q8 q9 q10 q11 q12 q13 q14 q15 q16 q17 q18 q19 q20 q21 q22 q23 q24 q25 q26 q27 q28 q29 q30 q31 q32 R) 0 16 = some (.ref 17) := rfl
theorem own_a1_opStatus : (C1 q0 q1 q2 q3 q4 q5 q6 q7 q8 q9 q10 q11 q12 q13 q14 q15 q16 q17 q18 q19 q20 q21 q22 q23 q24 q25 q26 q27 q28 q29 q30 q31 q32 R)[17]? = some (.inr (.inl (1, q16))) := rfl
theorem own_s1_opStatus {x : List Int32} : (C1 q0 q1 q2 q3 q4 q5 q6 q7 q8 q9 q10 q11 q12 q13 q14 q15 q16 q17 q18 q19 q20 q21 q22 q23 q24 q25 q26 q27 q28 q29 q30 q31 q32 R).set 17 (.inr (.inl (1, x))) = (C1 q0 q1 q2 q3 q4 q5 q6 q7 q8 q9 q10 q11 q12 q13 q14 q15 x q17 q18 q19 q20 q21 q22 q23 q24 q25 q26 q27 q28 q29 q30 q31 q32 R) := rfl
theorem own_g1_opRVal : getC (C1 q0 q1 q2 q3 q4 q5 q6 q7 q8 q9 q10 q11 q12 q13 q14 q15 q16 q17 q18 q19 q20 q21 q22 q23 q24 q25 q26 q27 q28 q29 q30 q31 q32 R) 0 17 = some (.ref 18) := rfl
theorem own_a1_opRVal : (C1 q0 q1 q2 q3 q4 q5 q6 q7 q8 q9 q10 q11 q12 q13 q14 q15 q16 q17 q18 q19 q20 q21 q22 q23 q24 q25 q26 q27 q28 q29 q30 q31 q32 R)[18]? = some (.inr (.inl (1, q17))) := rfl
theorem own_s1_opRVal {x : List Int32} : (C1 q0 q1 q2 q3 q4 q5 q6 q7 q8 q9 q10 q11 q12 q13 q14 q15 q16 q17 q18 q19 q20 q21 q22 q23 q24 q25 q26 q27 q28 q29 q30 q31 q32 R).set 18 (.inr (.inl (1, x))) = (C1 q0 q1 q2 q3 q4 q5 q6 q7 q8 q9 q10 q11 q12 q13 q14 q15 q16 x q18 q19 q20 q21 q22 q23 q24 q25 q26 q27 q28 q29 q30 q31 q32 R) := rfl
theorem own_g1_predMask : getC (C1 q0 q1 q2 q3 q4 q5 q6 q7 q8 q9 q10 q11 q12 q13 q14 q15 q16 q17 q18 q19 q20 q21 q22 q23 q24 q25 q26 q27 q28 q29 q30 q31 q32 R) 0 18 = some (.ref 19) := rfl
theorem own_a1_predMask : (C1 q0 q1 q2 q3 q4 q5 q6 q7 q8 q9 q10 q11 q12 q13 q14 q15 q16 q17 q18 q19 q20 q21 q22 q23 q24 q25 q26 q27 q28 q29 q30 q31 q32 R)[19]? = some (.inr (.inl (1, q18))) := rfl
theorem own_s1_predMask {x : List Int32} : (C1 q0 q1 q2 q3 q4 q5 q6 q7 q8 q9 q10 q11 q12 q13 q14 q15 q16 q17 q18 q19 q20 q21 q22 q23 q24 q25 q26 q27 q28 q29 q30 q31 q32 R).set 19 (.inr (.inl (1, x))) = (C1 q0 q1 q2 q3 q4 q5 q6 q7 q8 q9 q10 q11 q12 q13 q14 q15 q16 q17 x q19 q20 q21 q22 q23 q24 q25 q26 q27 q28 q29 q30 q31 q32 R) := rfl
theorem own_g1_openOp : getC (C1 q0 q1 q2 q3 q4 q5 q6 q7 q8 q9 q10 q11 q12 q13 q14 q15 q16 q17 q18 q19 q20 q21 q22 q23 q24 q25 q26 q27 q28 q29 q30 q31 q32 R) 0 19 = some (.ref 20) := rfl
theorem own_a1_openOp : (C1 q0 q1 q2 q3 q4 q5 q6 q7 q8 q9 q10 q11 q12 q13 q14 q15 q16 q17 q18 q19 q20 q21 q22 q23 q24 q25 q26 q27 q28 q29 q30 q31 q32 R)[20]? = some (.inr (.inl (1, q19))) := rfl
theorem own_s1_openOp {x : List Int32} : (C1 q0 q1 q2 q3 q4 q5 q6 q7 q8 q9 q10 q11 q12 q13 q14 q15 q16 q17 q18 q19 q20 q21 q22 q23 q24 q25 q26 q27 q28 q29 q30 q31 q32 R).set 20 (.inr (.inl (1, x))) = (C1 q0 q1 q2 q3 q4 q5 q6 q7 q8 q9 q10 q11 q12 q13 q14 q15 q16 q17 q18 x q20 q21 q22 q23 q24 q25 q26 q27 q28 q29 q30 q31 q32 R) := rfl
theorem own_g1_qBuf : getC (C1 q0 q1 q2 q3 q4 q5 q6 q7 q8 q9 q10 q11 q12 q13 q14 q15 q16 q17 q18 q19 q20 q21 q22 q23 q24 q25 q26 q27 q28 q29 q30 q31 q32 R) 0 20 = some (.ref 21) := rfl
theorem own_a1_qBuf : (C1 q0 q1 q2 q3 q4 q5 q6 q7 q8 q9 q10 q11 q12 q13 q14 q15 q16 q17 q18 q19 q20 q21 q22 q23 q24 q25 q26 q27 q28 q29 q30 q31 q32 R)[21]? = some (.inr (.inl (1, q20))) := rfl
theorem own_s1_qBuf {x : List Int32} : (C1 q0 q1 q2 q3 q4 q5 q6 q7 q8 q9 q10 q11 q12 q13 q14 q15 q16 q17 q18 q19 q20 q21 q22 q23 q24 q25 q26 q27 q28 q29 q30 q31 q32 R).set 21 (.inr (.inl (1, x))) = (C1 q0 q1 q2 q3 q4 q5 q6 q7 q8 q9 q10 q11 q12 q13 q14 q15 q16 q17 q18 q19 x q21 q22 q23 q24 q25 q26 q27 q28 q29 q30 q31 q32 R) := rfl
theorem own_g1_qLen : getC (C1 q0 q1 q2 q3 q4 q5 q6 q7 q8 q9 q10 q11 q12 q13 q14 q15 q16 q17 q18 q19 q20 q21 q22 q23 q24 q25 q26 q27 q28 q29 q30 q31 q32 R) 0 21 = some (.ref 22) := rfl
theorem own_a1_qLen : (C1 q0 q1 q2 q3 q4 q5 q6 q7 q8 q9 q10 q11 q12 q13 q14 q15 q16 q17 q18 q19 q20 q21 q22 q23 q24 q25 q26 q27 q28 q29 q30 q31 q32 R)[22]? = some (.inr (.inl (1, q21))) := rfl
theorem own_s1_qLen {x : List Int32} : (C1 q0 q1 q2 q3 q4 q5 q6 q7 q8 q9 q10 q11 q12 q13 q14 q15 q16 q17 q18 q19 q20 q21 q22 q23 q24 q25 q26 q27 q28 q29 q30 q31 q32 R).set 22 (.inr (.inl (1, x))) = (C1 q0 q1 q2 q3 q4 q5 q6 q7 q8 q9 q10 q11 q12 q13 q14 q15 q16 q17 q18 q19 q20 x q22 q23 q24 q25 q26 q27 q28 q29 q30 q31 q32 R) := rfl
theorem own_g1_nextCand : getC (C1 q0 q1 q2 q3 q4 q5 q6 q7 q8 q9 q10 q11 q12 q13 q14 q15 q16 q17 q18 q19 q20 q21 q22 q23 q24 q25 q26 q27 q28 q29 q30 q31 q32 R) 0 22 = some (.ref 23) := rfl
theorem own_a1_nextCand : (C1 q0 q1 q2 q3 q4 q5 q6 q7 q8 q9 q10 q11 q12 q13 q14 q15 q16 q17 q18 q19 q20 q21 q22 q23 q24 q25 q26 q27 q28 q29 q30 q31 q32 R)[23]? = some (.inr (.inl (1, q22))) := rfl
theorem own_s1_nextCand {x : List Int32} : (C1 q0 q1 q2 q3 q4 q5 q6 q7 q8 q9 q10 q11 q12 q13 q14 q15 q16 q17 q18 q19 q20 q21 q22 q23 q24 q25 q26 q27 q28 q29 q30 q31 q32 R).set 23 (.inr (.inl (1, x))) = (C1 q0 q1 q2 q3 q4 q5 q6 q7 q8 q9 q10 q11 q12 q13 q14 q15 q16 q17 q18 q19 q20 q21 x q23 q24 q25 q26 q27 q28 q29 q30 q31 q32 R) := rfl
theorem own_g1_chosen : getC (C1 q0 q1 q2 q3 q4 q5 q6 q7 q8 q9 q10 q11 q12 q13 q14 q15 q16 q17 q18 q19 q20 q21 q22 q23 q24 q25 q26 q27 q28 q29 q30 q31 q32 R) 0 23 = some (.ref 24) := rfl
theorem own_a1_chosen : (C1 q0 q1 q2 q3 q4 q5 q6 q7 q8 q9 q10 q11 q12 q13 q14 q15 q16 q17 q18 q19 q20 q21 q22 q23 q24 q25 q26 q27 q28 q29 q30 q31 q32 R)[24]? = some (.inr (.inl (1, q23))) := rfl
theorem own_s1_chosen {x : List Int32} : (C1 q0 q1 q2 q3 q4 q5 q6 q7 q8 q9 q10 q11 q12 q13 q14 q15 q16 q17 q18 q19 q20 q21 q22 q23 q24 q25 q26 q27 q28 q29 q30 q31 q32 R).set 24 (.inr (.inl (1, x))) = (C1 q0 q1 q2 q3 q4 q5 q6 q7 q8 q9 q10 q11 q12 q13 q14 q15 q16 q17 q18 q19 q20 q21 q22 x q24 q25 q26 q27 q28 q29 q30 q31 q32 R) := rfl
theorem own_g1_nThreads : getC (C1 q0 q1 q2 q3 q4 q5 q6 q7 q8 q9 q10 q11 q12 q13 q14 q15 q16 q17 q18 q19 q20 q21 q22 q23 q24 q25 q26 q27 q28 q29 q30 q31 q32 R) 0 24 = some (.int q24) := rfl
theorem own_p1_nThreads {k : Nat} {x : Int32} : putC own_P k (C1 q0 q1 q2 q3 q4 q5 q6 q7 q8 q9 q10 q11 q12 q13 q14 q15 q16 q17 q18 q19 q20 q21 q22 q23 q24 q25 q26 q27 q28 q29 q30 q31 q32 R) 0 24 (.int x) = some (C1 q0 q1 q2 q3 q4 q5 q6 q7 q8 q9 q10 q11 q12 q13 q14 q15 q16 q17 q18 q19 q20 q21 q22 q23 x q25 q26 q27 q28 q29 q30 q31 q32 R) := rfl
theorem own_g1_cap : getC (C1 q0 q1 q2 q3 q4 q5 q6 q7 q8 q9 q10 q11 q12 q13 q14 q15 q16 q17 q18 q19 q20 q21 q22 q23 q24 q25 q26 q27 q28 q29 q30 q31 q32 R) 0 25 = some (.int q25) := rfl
theorem own_p1_cap {k : Nat} {x : Int32} : putC own_P k (C1 q0 q1 q2 q3 q4 q5 q6 q7 q8 q9 q10 q11 q12 q13 q14 q15 q16 q17 q18 q19 q20 q21 q22 q23 q24 q25 q26 q27 q28 q29 q30 q31 q32 R) 0 25 (.int x) = some (C1 q0 q1 q2 q3 q4 q5 q6 q7 q8 q9 q10 q11 q12 q13 q14 q15 q16 q17 q18 q19 q20 q21 q22 q23 q24 x q26 q27 q28 q29 q30 q31 q32 R) := rfl
theorem own_g1_mask : getC (C1 q0 q1 q2 q3 q4 q5 q6 q7 q8 q9 q10 q11 q12 q13 q14 q15 q16 q17 q18 q19 q20 q21 q22 q23 q24 q25 q26 q27 q28 q29 q30 q31 q32 R) 0 26 = some (.int q26) := rfl
theorem own_p1_mask {k : Nat} {x : Int32} : putC own_P k (C1 q0 q1 q2 q3 q4 q5 q6 q7 q8 q9 q10 q11 q12 q13 q14 q15 q16 q17 q18 q19 q20 q21 q22 q23 q24 q25 q26 q27 q28 q29 q30 q31 q32 R) 0 26 (.int x) = some (C1 q0 q1 q2 q3 q4 q5 q6 q7 q8 q9 q10 q11 q12 q13 q14 q15 q16 q17 q18 q19 q20 q21 q22 q23 q24 q25 x q27 q28 q29 q30 q31 q32 R) := rfl
theorem own_g1_head : getC (C1 q0 q1 q2 q3 q4 q5 q6 q7 q8 q9 q10 q11 q12 q13 q14 q15 q16 q17 q18 q19 q20 q21 q22 q23 q24 q25 q26 q27 q28 q29 q30 q31 q32 R) 0 27 = some (.int q27) := rfl
theorem own_p1_head {k : Nat} {x : Int32} : putC own_P k (C1 q0 q1 q2 q3 q4 q5 q6 q7 q8 q9 q10 q11 q12 q13 q14 q15 q16 q17 q18 q19 q20 q21 q22 q23 q24 q25 q26 q27 q28 q29 q30 q31 q32 R) 0 27 (.int x) = some (C1 q0 q1 q2 q3 q4 q5 q6 q7 q8 q9 q10 q11 q12 q13 q14 q15 q16 q17 q18 q19 q20 q21 q22 q23 q24 q25 q26 x q28 q29 q30 q31 q32 R) := rfl
theorem own_g1_tail : getC (C1 q0 q1 q2 q3 q4 q5 q6 q7 q8 q9 q10 q11 q12 q13 q14 q15 q16 q17 q18 q19 q20 q21 q22 q23 q24 q25 q26 q27 q28 q29 q30 q31 q32 R) 0 28 = some (.int q28) := rfl
theorem own_p1_tail {k : Nat} {x : Int32} : putC own_P k (C1 q0 q1 q2 q3 q4 q5 q6 q7 q8 q9 q10 q11 q12 q13 q14 q15 q16 q17 q18 q19 q20 q21 q22 q23 q24 q25 q26 q27 q28 q29 q30 q31 q32 R) 0 28 (.int x) = some (C1 q0 q1 q2 q3 q4 q5 q6 q7 q8 q9 q10 q11 q12 q13 q14 q15 q16 q17 q18 q19 q20 q21 q22 q23 q24 q25 q26 q27 x q29 q30 q31 q32 R) := rfl
theorem own_g1_histLen : getC (C1 q0 q1 q2 q3 q4 q5 q6 q7 q8 q9 q10 q11 q12 q13 q14 q15 q16 q17 q18 q19 q20 q21 q22 q23 q24 q25 q26 q27 q28 q29 q30 q31 q32 R) 0 29 = some (.int q29) := rfl
theorem own_p1_histLen {k : Nat} {x : Int32} : putC own_P k (C1 q0 q1 q2 q3 q4 q5 q6 q7 q8 q9 q10 q11 q12 q13 q14 q15 q16 q17 q18 q19 q20 q21 q22 q23 q24 q25 q26 q27 q28 q29 q30 q31 q32 R) 0 29 (.int x) = some (C1 q0 q1 q2 q3 q4 q5 q6 q7 q8 q9 q10 q11 q12 q13 q14 q15 q16 q17 q18 q19 q20 q21 q22 q23 q24 q25 q26 q27 q28 x q30 q31 q32 R) := rfl
theorem own_g1_snapLen : getC (C1 q0 q1 q2 q3 q4 q5 q6 q7 q8 q9 q10 q11 q12 q13 q14 q15 q16 q17 q18 q19 q20 q21 q22 q23 q24 q25 q26 q27 q28 q29 q30 q31 q32 R) 0 30 = some (.int q30) := rfl
theorem own_p1_snapLen {k : Nat} {x : Int32} : putC own_P k (C1 q0 q1 q2 q3 q4 q5 q6 q7 q8 q9 q10 q11 q12 q13 q14 q15 q16 q17 q18 q19 q20 q21 q22 q23 q24 q25 q26 q27 q28 q29 q30 q31 q32 R) 0 30 (.int x) = some (C1 q0 q1 q2 q3 q4 q5 q6 q7 q8 q9 q10 q11 q12 q13 q14 q15 q16 q17 q18 q19 q20 q21 q22 q23 q24 q25 q26 q27 q28 q29 x q31 q32 R) := rfl
theorem own_g1_opCount : getC (C1 q0 q1 q2 q3 q4 q5 q6 q7 q8 q9 q10 q11 q12 q13 q14 q15 q16 q17 q18 q19 q20 q21 q22 q23 q24 q25 q26 q27 q28 q29 q30 q31 q32 R) 0 31 = some (.int q31) := rfl
theorem own_p1_opCount {k : Nat} {x : Int32} : putC own_P k (C1 q0 q1 q2 q3 q4 q5 q6 q7 q8 q9 q10 q11 q12 q13 q14 q15 q16 q17 q18 q19 q20 q21 q22 q23 q24 q25 q26 q27 q28 q29 q30 q31 q32 R) 0 31 (.int x) = some (C1 q0 q1 q2 q3 q4 q5 q6 q7 q8 q9 q10 q11 q12 q13 q14 q15 q16 q17 q18 q19 q20 q21 q22 q23 q24 q25 q26 q27 q28 q29 q30 x q32 R) := rfl
theorem own_g1_completeMask : getC (C1 q0 q1 q2 q3 q4 q5 q6 q7 q8 q9 q10 q11 q12 q13 q14 q15 q16 q17 q18 q19 q20 q21 q22 q23 q24 q25 q26 q27 q28 q29 q30 q31 q32 R) 0 32 = some (.int q32) := rfl
theorem own_p1_completeMask {k : Nat} {x : Int32} : putC own_P k (C1 q0 q1 q2 q3 q4 q5 q6 q7 q8 q9 q10 q11 q12 q13 q14 q15 q16 q17 q18 q19 q20 q21 q22 q23 q24 q25 q26 q27 q28 q29 q30 q31 q32 R) 0 32 (.int x) = some (C1 q0 q1 q2 q3 q4 q5 q6 q7 q8 q9 q10 q11 q12 q13 q14 q15 q16 q17 q18 q19 q20 q21 q22 q23 q24 q25 q26 q27 q28 q29 q30 q31 x R) := rfl
end own_vs
def Q.len (s : Q) : List Nat := [s.f0.length, s.f1.length, s.f2.length, s.f3.length, s.f4.length, s.f5.length, s.f6.length, s.f7.length, s.f8.length, s.f9.length, s.f10.length, s.f11.length, s.f12.length, s.f13.length, s.f14.length, s.f15.length, s.f16.length, s.f17.length, s.f18.length, s.f19.length, s.f20.length, s.f21.length, s.f22.length, s.f23.length]
theorem own_lenmk {q0 q1 q2 q3 q4 q5 q6 q7 q8 q9 q10 q11 q12 q13 q14 q15 q16 q17 q18 q19 q20 q21 q22 q23 : List Int32} {q24 q25 q26 q27 q28 q29 q30 q31 q32 : Int32} : (Q.mk q0 q1 q2 q3 q4 q5 q6 q7 q8 q9 q10 q11 q12 q13 q14 q15 q16 q17 q18 q19 q20 q21 q22 q23 q24 q25 q26 q27 q28 q29 q30 q31 q32).len = [q0.length, q1.length, q2.length, q3.length, q4.length, q5.length, q6.length, q7.length, q8.length, q9.length, q10.length, q11.length, q12.length, q13.length, q14.length, q15.length, q16.length, q17.length, q18.length, q19.length, q20.length, q21.length, q22.length, q23.length] := by have _h := trivial; exact rfl
theorem own_objN : own_P.objN = 33 := rfl
theorem own_mk1 {q0 q1 q2 q3 q4 q5 q6 q7 q8 q9 q10 q11 q12 q13 q14 q15 q16 q17 q18 q19 q20 q21 q22 q23 : List Int32} {q24 q25 q26 q27 q28 q29 q30 q31 q32 : Int32} {R : AHeap} : W1 (Q.mk q0 q1 q2 q3 q4 q5 q6 q7 q8 q9 q10 q11 q12 q13 q14 q15 q16 q17 q18 q19 q20 q21 q22 q23 q24 q25 q26 q27 q28 q29 q30 q31 q32) R = C1 q0 q1 q2 q3 q4 q5 q6 q7 q8 q9 q10 q11 q12 q13 q14 q15 q16 q17 q18 q19 q20 q21 q22 q23 q24 q25 q26 q27 q28 q29 q30 q31 q32 R := rfl
def j_clamp (v1 v2 v3 : Int32) : Int32 := (if v1 < v2 then (v2) else (if v3 < v1 then (v3) else (v1)))
set_option maxRecDepth 100000 in
theorem ev_j_clamp (H : AHeap) (a : Nat) (v1 v2 v3 : Int32) {res : Int32} {out : Option Value × AHeap} (h : j_clamp v1 v2 v3 = res) (hk : out = (some (.int res), H)) : Eval own_P 2 0 [some (.ref a), some (.int v1), some (.int v2), some (.int v3)] [] H out := by
 rw [j_clamp] at h
 refine Eval.iload_n rfl rfl ?_
 refine Eval.iload_n rfl rfl ?_
 by_cases hc1 : v1 < v2
 ·rw [if_pos hc1] at h
  refine Eval.icmpF rfl (tlt hc1).2.1 ?_
  refine Eval.iload_n rfl rfl ?_
  subst h
  subst hk
  exact Eval.ret rfl rfl
 ·rw [if_neg hc1] at h
  refine Eval.icmpT (t := 7) rfl rfl (flt hc1).2.1 ?_
  refine Eval.iload_n rfl rfl ?_
  refine Eval.iload_n rfl rfl ?_
  by_cases hc2 : v3 < v1
  ·rw [if_pos hc2] at h
   refine Eval.icmpF rfl (tlt hc2).2.2.2 ?_
   refine Eval.iload_n rfl rfl ?_
   subst h
   subst hk
   exact Eval.ret rfl rfl
  ·rw [if_neg hc2] at h
   refine Eval.icmpT (t := 14) rfl rfl (flt hc2).2.2.2 ?_
   refine Eval.iload_n rfl rfl ?_
   subst h
   subst hk
   exact Eval.ret rfl rfl
abbrev j_init_l259_K (res : (Q) ⊕ (Q)) (out : Option Value × AHeap) : Prop := Sum.elim (fun res => Eval own_P 1 275 [some (.ref 0), none, none, none, none, none, none, none] [] (W1 res []) out) (fun res => Eval own_P 1 304 [some (.ref 0), none, none, none, none, none, none, none] [] (W1 res []) out) res

abbrev j_init_l259_N (s : Q) (res : (Q) ⊕ (Q)) : Prop := Sum.elim (fun res => Q.len res = Q.len s) (fun res => Q.len res = Q.len s) res
def j_init_l259 : Nat → Q → Int32 → Int32 → Option ((Q) ⊕ (Q))
  | 0, _, _, _ => none
  | n + 1, s, v6, v7 => (if v7 < (8:Int32) then (if v7 < s.f25 then (if inb s.f0.length ((v6 + v7) &&& s.f26) = true then (j_init_l259 n (Q.mk (wr s.f0 ((v6 + v7) &&& s.f26) (v6 + v7)) s.f1 s.f2 s.f3 s.f4 s.f5 s.f6 s.f7 s.f8 s.f9 s.f10 s.f11 s.f12 s.f13 s.f14 s.f15 s.f16 s.f17 s.f18 s.f19 s.f20 s.f21 s.f22 s.f23 s.f24 s.f25 s.f26 s.f27 s.f28 s.f29 s.f30 s.f31 s.f32) v6 (v7 + (1:Int32))) else none) else some (.inl (s))) else some (.inr (s)))
set_option maxRecDepth 100000 in
theorem ev_j_init_l259 : ∀ (n : Nat) (s : Q) (v6 v7 : Int32) {res : (Q) ⊕ (Q)} {out : Option Value × AHeap}, j_init_l259 n s v6 v7 = some res → j_init_l259_K res out → Eval own_P 1 259 [some (.ref 0), none, none, none, none, none, some (.int v6), some (.int v7)] [] (W1 s []) out := by
 intro n
 induction n with
 | zero => intro _ _ _ res out h hk; cases h
 | succ n hrec =>
  intro s v6 v7 res out h hk
  rw [j_init_l259] at h
  refine Eval.iload rfl rfl ?_
  refine Eval.bipush (x := 8) rfl rfl ?_
  by_cases hc3 : v7 < (8:Int32)
  ·rw [if_pos hc3] at h
   refine Eval.icmpF rfl (tlt hc3).2.1 ?_
   refine Eval.iload rfl rfl ?_
   refine Eval.aload_n rfl rfl ?_
   refine Eval.getfield rfl rfl own_g1_cap ?_
   by_cases hc4 : v7 < s.f25
   ·rw [if_pos hc4] at h
    refine Eval.icmpT (t := 278) rfl rfl (tlt hc4).1 ?_
    refine Eval.aload_n rfl rfl ?_
    refine Eval.getfield rfl rfl own_g1_seq ?_
    refine Eval.iload rfl rfl ?_
    refine Eval.iload rfl rfl ?_
    refine Eval.iadd rfl ?_
    refine Eval.aload_n rfl rfl ?_
    refine Eval.getfield rfl rfl own_g1_mask ?_
    refine Eval.iand rfl ?_
    refine Eval.iload rfl rfl ?_
    refine Eval.iload rfl rfl ?_
    refine Eval.iadd rfl ?_
    obtain ⟨hb5, h⟩ := ite_some h
    refine Eval.iastore rfl rfl own_a1_seq hb5 own_s1_seq ?_
    refine Eval.iinc (L' := [some (.ref 0), none, none, none, none, none, some (.int v6), some (.int (v7 + (1:Int32)))]) rfl rfl rfl ?_
    refine Eval.goto (t := 259) rfl rfl ?_
    refine Eval.heap own_mk1 ?_
    exact hrec _ _ _ h hk
   ·rw [if_neg hc4] at h
    refine Eval.icmpF rfl (flt hc4).1 ?_
    cases h
    refine Eval.weak (lw_mk 1 _) ?_
    exact hk
  ·rw [if_neg hc3] at h
   refine Eval.icmpT (t := 304) rfl rfl (flt hc3).2.1 ?_
   cases h
   refine Eval.weak (lw_mk 1 _) ?_
   exact hk
def j_init_b304 (s : Q) : Option (Q) := some ((Q.mk s.f0 s.f1 s.f2 s.f3 s.f4 s.f5 s.f6 s.f7 s.f8 s.f9 s.f10 s.f11 s.f12 s.f13 s.f14 s.f15 s.f16 s.f17 s.f18 s.f19 s.f20 s.f21 s.f22 s.f23 s.f24 s.f25 s.f26 s.f27 s.f28 (0:Int32) (0:Int32) s.f31 s.f32))
set_option maxRecDepth 100000 in
theorem ev_j_init_b304 (s : Q) {res : Q} {out : Option Value × AHeap} (h : j_init_b304 s = some res) (hk : out = (none, (W1 res []))) : Eval own_P 1 304 [some (.ref 0), none, none, none, none, none, none, none] [] (W1 s []) out := by
 rw [j_init_b304] at h
 refine Eval.aload_n rfl rfl ?_
 refine Eval.iconst (x := 0) rfl rfl ?_
 refine Eval.putfield rfl rfl own_p1_histLen ?_
 refine Eval.aload_n rfl rfl ?_
 refine Eval.iconst (x := 0) rfl rfl ?_
 refine Eval.putfield rfl rfl own_p1_snapLen ?_
 cases h
 subst hk
 exact Eval.retH own_mk1 rfl rfl
def j_init_b189 (s : Q) (v1 v2 v3 : Int32) : Option (Q) := ((j_init_l259 3000 (Q.mk s.f0 s.f1 s.f2 s.f3 s.f4 s.f5 s.f6 s.f7 s.f8 s.f9 s.f10 s.f11 s.f12 s.f13 s.f14 s.f15 s.f16 s.f17 s.f18 s.f19 s.f20 s.f21 s.f22 s.f23 (j_clamp v2 (1:Int32) (4:Int32)) (ish (1:Int32) (j_clamp v1 (1:Int32) (3:Int32))) ((ish (1:Int32) (j_clamp v1 (1:Int32) (3:Int32))) - (1:Int32)) ((2147483584:Int32) + (j_clamp v3 (0:Int32) (63:Int32))) ((2147483584:Int32) + (j_clamp v3 (0:Int32) (63:Int32))) s.f29 s.f30 s.f31 s.f32) ((2147483584:Int32) + (j_clamp v3 (0:Int32) (63:Int32))) (0:Int32)).bind fun p6 => Sum.elim (fun p8 => (j_init_b304 p8)) (fun p9 => (j_init_b304 p9)) p6)
set_option maxRecDepth 100000 in
theorem ev_j_init_b189 (s : Q) (v1 v2 v3 : Int32) {res : Q} {out : Option Value × AHeap} (h : j_init_b189 s v1 v2 v3 = some res) (hk : out = (none, (W1 res []))) : Eval own_P 1 189 [some (.ref 0), some (.int v1), some (.int v2), some (.int v3), none, none, none, none] [] (W1 s []) out := by
 rw [j_init_b189] at h
 refine Eval.aload_n rfl rfl ?_
 refine Eval.iload_n rfl rfl ?_
 refine Eval.iconst (x := 1) rfl rfl ?_
 refine Eval.iconst (x := 3) rfl rfl ?_
 refine Eval.callI (rest := []) (x := (j_clamp v1 (1:Int32) (3:Int32))) (H1 := (W1 s [])) rfl rfl (ev_j_clamp (W1 s []) 0 v1 (1:Int32) (3:Int32) rfl rfl) ?_
 refine Eval.istore (L' := [some (.ref 0), some (.int v1), some (.int v2), some (.int v3), some (.int (j_clamp v1 (1:Int32) (3:Int32))), none, none, none]) rfl rfl ?_
 refine Eval.aload_n rfl rfl ?_
 refine Eval.aload_n rfl rfl ?_
 refine Eval.iload_n rfl rfl ?_
 refine Eval.iconst (x := 1) rfl rfl ?_
 refine Eval.iconst (x := 4) rfl rfl ?_
 refine Eval.callI (rest := [.ref 0]) (x := (j_clamp v2 (1:Int32) (4:Int32))) (H1 := (W1 s [])) rfl rfl (ev_j_clamp (W1 s []) 0 v2 (1:Int32) (4:Int32) rfl rfl) ?_
 refine Eval.putfield rfl rfl own_p1_nThreads ?_
 refine Eval.aload_n rfl rfl ?_
 refine Eval.iload_n rfl rfl ?_
 refine Eval.iconst (x := 0) rfl rfl ?_
 refine Eval.bipush (x := 63) rfl rfl ?_
 refine Eval.callI (rest := []) (x := (j_clamp v3 (0:Int32) (63:Int32))) (H1 := (C1 s.f0 s.f1 s.f2 s.f3 s.f4 s.f5 s.f6 s.f7 s.f8 s.f9 s.f10 s.f11 s.f12 s.f13 s.f14 s.f15 s.f16 s.f17 s.f18 s.f19 s.f20 s.f21 s.f22 s.f23 (j_clamp v2 (1:Int32) (4:Int32)) s.f25 s.f26 s.f27 s.f28 s.f29 s.f30 s.f31 s.f32 [])) rfl rfl (ev_j_clamp (C1 s.f0 s.f1 s.f2 s.f3 s.f4 s.f5 s.f6 s.f7 s.f8 s.f9 s.f10 s.f11 s.f12 s.f13 s.f14 s.f15 s.f16 s.f17 s.f18 s.f19 s.f20 s.f21 s.f22 s.f23 (j_clamp v2 (1:Int32) (4:Int32)) s.f25 s.f26 s.f27 s.f28 s.f29 s.f30 s.f31 s.f32 []) 0 v3 (0:Int32) (63:Int32) rfl rfl) ?_
 refine Eval.istore (L' := [some (.ref 0), some (.int v1), some (.int v2), some (.int v3), some (.int (j_clamp v1 (1:Int32) (3:Int32))), some (.int (j_clamp v3 (0:Int32) (63:Int32))), none, none]) rfl rfl ?_
 refine Eval.aload_n rfl rfl ?_
 refine Eval.iconst (x := 1) rfl rfl ?_
 refine Eval.iload rfl rfl ?_
 refine Eval.ishl rfl ?_
 refine Eval.putfield rfl rfl own_p1_cap ?_
 refine Eval.aload_n rfl rfl ?_
 refine Eval.aload_n rfl rfl ?_
 refine Eval.getfield rfl rfl own_g1_cap ?_
 refine Eval.iconst (x := 1) rfl rfl ?_
 refine Eval.isub rfl ?_
 refine Eval.putfield rfl rfl own_p1_mask ?_
 refine Eval.ldc (x := 2147483584) rfl rfl ?_
 refine Eval.iload rfl rfl ?_
 refine Eval.iadd rfl ?_
 refine Eval.istore (L' := [some (.ref 0), some (.int v1), some (.int v2), some (.int v3), some (.int (j_clamp v1 (1:Int32) (3:Int32))), some (.int (j_clamp v3 (0:Int32) (63:Int32))), some (.int ((2147483584:Int32) + (j_clamp v3 (0:Int32) (63:Int32)))), none]) rfl rfl ?_
 refine Eval.aload_n rfl rfl ?_
 refine Eval.iload rfl rfl ?_
 refine Eval.putfield rfl rfl own_p1_head ?_
 refine Eval.aload_n rfl rfl ?_
 refine Eval.iload rfl rfl ?_
 refine Eval.putfield rfl rfl own_p1_tail ?_
 refine Eval.iconst (x := 0) rfl rfl ?_
 refine Eval.istore (L' := [some (.ref 0), some (.int v1), some (.int v2), some (.int v3), some (.int (j_clamp v1 (1:Int32) (3:Int32))), some (.int (j_clamp v3 (0:Int32) (63:Int32))), some (.int ((2147483584:Int32) + (j_clamp v3 (0:Int32) (63:Int32)))), some (.int 0)]) rfl rfl ?_
 refine Eval.heap own_mk1 ?_
 refine Eval.weak (lw_mk 193 _) ?_
 obtain ⟨p6, hq7, h⟩ := bind_some h
 rcases p6 with p8 | p9
 ·dsimp only [Sum.elim] at h
  refine ev_j_init_l259 _ (Q.mk s.f0 s.f1 s.f2 s.f3 s.f4 s.f5 s.f6 s.f7 s.f8 s.f9 s.f10 s.f11 s.f12 s.f13 s.f14 s.f15 s.f16 s.f17 s.f18 s.f19 s.f20 s.f21 s.f22 s.f23 (j_clamp v2 (1:Int32) (4:Int32)) (ish (1:Int32) (j_clamp v1 (1:Int32) (3:Int32))) ((ish (1:Int32) (j_clamp v1 (1:Int32) (3:Int32))) - (1:Int32)) ((2147483584:Int32) + (j_clamp v3 (0:Int32) (63:Int32))) ((2147483584:Int32) + (j_clamp v3 (0:Int32) (63:Int32))) s.f29 s.f30 s.f31 s.f32) ((2147483584:Int32) + (j_clamp v3 (0:Int32) (63:Int32))) (0:Int32) hq7 ?_
  show Eval own_P 1 275 [some (.ref 0), none, none, none, none, none, none, none] [] (W1 p8 []) out
  refine Eval.goto (t := 304) rfl rfl ?_
  exact ev_j_init_b304 p8 h hk
 ·dsimp only [Sum.elim] at h
  refine ev_j_init_l259 _ (Q.mk s.f0 s.f1 s.f2 s.f3 s.f4 s.f5 s.f6 s.f7 s.f8 s.f9 s.f10 s.f11 s.f12 s.f13 s.f14 s.f15 s.f16 s.f17 s.f18 s.f19 s.f20 s.f21 s.f22 s.f23 (j_clamp v2 (1:Int32) (4:Int32)) (ish (1:Int32) (j_clamp v1 (1:Int32) (3:Int32))) ((ish (1:Int32) (j_clamp v1 (1:Int32) (3:Int32))) - (1:Int32)) ((2147483584:Int32) + (j_clamp v3 (0:Int32) (63:Int32))) ((2147483584:Int32) + (j_clamp v3 (0:Int32) (63:Int32))) s.f29 s.f30 s.f31 s.f32) ((2147483584:Int32) + (j_clamp v3 (0:Int32) (63:Int32))) (0:Int32) hq7 ?_
  show Eval own_P 1 304 [some (.ref 0), none, none, none, none, none, none, none] [] (W1 p9 []) out
  exact ev_j_init_b304 p9 h hk
def j_init (v1 v2 v3 : Int32) : Option (Q) := (j_init_b189 Q0 v1 v2 v3)
set_option maxRecDepth 100000 in
theorem ev_j_init (v1 v2 v3 : Int32) {res : Q} {out : Option Value × AHeap} (h : j_init v1 v2 v3 = some res) (hk : out = (none, (W1 res []))) : Eval own_P 1 0 [some (.ref 0), some (.int v1), some (.int v2), some (.int v3), none, none, none, none] [] (W0 [.inl (oo 0 0 24 9)]) out := by
 rw [j_init] at h
 refine Eval.aload_n rfl rfl ?_
 refine Eval.objInit rfl rfl ?_
 refine Eval.aload_n rfl rfl ?_
 refine Eval.bipush (x := 8) rfl rfl ?_
 refine Eval.newarray (z := 33) (N := 8) (a := 1) (H1 := (W0 [.inl (oo 0 0 24 9), oA 1 8])) rfl rfl rfl rfl rfl (by decide) (by decide) (by unfold W0; simp only [hsz, csz, own_objN, List.length_replicate]) (by decide) rfl ?_
 refine Eval.putfield (H1 := (W0 [.inl (oo 1 1 23 9), oA 1 8])) rfl rfl rfl ?_
 refine Eval.aload_n rfl rfl ?_
 refine Eval.bipush (x := 8) rfl rfl ?_
 refine Eval.newarray (z := 41) (N := 8) (a := 2) (H1 := (W0 [.inl (oo 1 1 23 9), oA 1 8, oA 1 8])) rfl rfl rfl rfl rfl (by decide) (by decide) (by unfold W0; simp only [hsz, csz, own_objN, List.length_replicate]) (by decide) rfl ?_
 refine Eval.putfield (H1 := (W0 [.inl (oo 1 2 22 9), oA 1 8, oA 1 8])) rfl rfl rfl ?_
 refine Eval.aload_n rfl rfl ?_
 refine Eval.iconst (x := 4) rfl rfl ?_
 refine Eval.newarray (z := 49) (N := 4) (a := 3) (H1 := (W0 [.inl (oo 1 2 22 9), oA 1 8, oA 1 8, oA 1 4])) rfl rfl rfl rfl rfl (by decide) (by decide) (by unfold W0; simp only [hsz, csz, own_objN, List.length_replicate]) (by decide) rfl ?_
 refine Eval.putfield (H1 := (W0 [.inl (oo 1 3 21 9), oA 1 8, oA 1 8, oA 1 4])) rfl rfl rfl ?_
 refine Eval.aload_n rfl rfl ?_
 refine Eval.iconst (x := 4) rfl rfl ?_
 refine Eval.newarray (z := 53) (N := 4) (a := 4) (H1 := (W0 [.inl (oo 1 3 21 9), oA 1 8, oA 1 8, oA 1 4, oA 1 4])) rfl rfl rfl rfl rfl (by decide) (by decide) (by unfold W0; simp only [hsz, csz, own_objN, List.length_replicate]) (by decide) rfl ?_
 refine Eval.putfield (H1 := (W0 [.inl (oo 1 4 20 9), oA 1 8, oA 1 8, oA 1 4, oA 1 4])) rfl rfl rfl ?_
 refine Eval.aload_n rfl rfl ?_
 refine Eval.iconst (x := 4) rfl rfl ?_
 refine Eval.newarray (z := 57) (N := 4) (a := 5) (H1 := (W0 [.inl (oo 1 4 20 9), oA 1 8, oA 1 8, oA 1 4, oA 1 4, oA 1 4])) rfl rfl rfl rfl rfl (by decide) (by decide) (by unfold W0; simp only [hsz, csz, own_objN, List.length_replicate]) (by decide) rfl ?_
 refine Eval.putfield (H1 := (W0 [.inl (oo 1 5 19 9), oA 1 8, oA 1 8, oA 1 4, oA 1 4, oA 1 4])) rfl rfl rfl ?_
 refine Eval.aload_n rfl rfl ?_
 refine Eval.iconst (x := 4) rfl rfl ?_
 refine Eval.newarray (z := 61) (N := 4) (a := 6) (H1 := (W0 [.inl (oo 1 5 19 9), oA 1 8, oA 1 8, oA 1 4, oA 1 4, oA 1 4, oA 1 4])) rfl rfl rfl rfl rfl (by decide) (by decide) (by unfold W0; simp only [hsz, csz, own_objN, List.length_replicate]) (by decide) rfl ?_
 refine Eval.putfield (H1 := (W0 [.inl (oo 1 6 18 9), oA 1 8, oA 1 8, oA 1 4, oA 1 4, oA 1 4, oA 1 4])) rfl rfl rfl ?_
 refine Eval.aload_n rfl rfl ?_
 refine Eval.iconst (x := 4) rfl rfl ?_
 refine Eval.newarray (z := 65) (N := 4) (a := 7) (H1 := (W0 [.inl (oo 1 6 18 9), oA 1 8, oA 1 8, oA 1 4, oA 1 4, oA 1 4, oA 1 4, oA 1 4])) rfl rfl rfl rfl rfl (by decide) (by decide) (by unfold W0; simp only [hsz, csz, own_objN, List.length_replicate]) (by decide) rfl ?_
 refine Eval.putfield (H1 := (W0 [.inl (oo 1 7 17 9), oA 1 8, oA 1 8, oA 1 4, oA 1 4, oA 1 4, oA 1 4, oA 1 4])) rfl rfl rfl ?_
 refine Eval.aload_n rfl rfl ?_
 refine Eval.iconst (x := 4) rfl rfl ?_
 refine Eval.newarray (z := 69) (N := 4) (a := 8) (H1 := (W0 [.inl (oo 1 7 17 9), oA 1 8, oA 1 8, oA 1 4, oA 1 4, oA 1 4, oA 1 4, oA 1 4, oA 1 4])) rfl rfl rfl rfl rfl (by decide) (by decide) (by unfold W0; simp only [hsz, csz, own_objN, List.length_replicate]) (by decide) rfl ?_
 refine Eval.putfield (H1 := (W0 [.inl (oo 1 8 16 9), oA 1 8, oA 1 8, oA 1 4, oA 1 4, oA 1 4, oA 1 4, oA 1 4, oA 1 4])) rfl rfl rfl ?_
 refine Eval.aload_n rfl rfl ?_
 refine Eval.bipush (x := 64) rfl rfl ?_
 refine Eval.newarray (z := 73) (N := 64) (a := 9) (H1 := (W0 [.inl (oo 1 8 16 9), oA 1 8, oA 1 8, oA 1 4, oA 1 4, oA 1 4, oA 1 4, oA 1 4, oA 1 4, oA 1 64])) rfl rfl rfl rfl rfl (by decide) (by decide) (by unfold W0; simp only [hsz, csz, own_objN, List.length_replicate]) (by decide) rfl ?_
 refine Eval.putfield (H1 := (W0 [.inl (oo 1 9 15 9), oA 1 8, oA 1 8, oA 1 4, oA 1 4, oA 1 4, oA 1 4, oA 1 4, oA 1 4, oA 1 64])) rfl rfl rfl ?_
 refine Eval.aload_n rfl rfl ?_
 refine Eval.bipush (x := 64) rfl rfl ?_
 refine Eval.newarray (z := 137) (N := 64) (a := 10) (H1 := (W0 [.inl (oo 1 9 15 9), oA 1 8, oA 1 8, oA 1 4, oA 1 4, oA 1 4, oA 1 4, oA 1 4, oA 1 4, oA 1 64, oA 1 64])) rfl rfl rfl rfl rfl (by decide) (by decide) (by unfold W0; simp only [hsz, csz, own_objN, List.length_replicate]) (by decide) rfl ?_
 refine Eval.putfield (H1 := (W0 [.inl (oo 1 10 14 9), oA 1 8, oA 1 8, oA 1 4, oA 1 4, oA 1 4, oA 1 4, oA 1 4, oA 1 4, oA 1 64, oA 1 64])) rfl rfl rfl ?_
 refine Eval.aload_n rfl rfl ?_
 refine Eval.bipush (x := 64) rfl rfl ?_
 refine Eval.newarray (z := 201) (N := 64) (a := 11) (H1 := (W0 [.inl (oo 1 10 14 9), oA 1 8, oA 1 8, oA 1 4, oA 1 4, oA 1 4, oA 1 4, oA 1 4, oA 1 4, oA 1 64, oA 1 64, oA 1 64])) rfl rfl rfl rfl rfl (by decide) (by decide) (by unfold W0; simp only [hsz, csz, own_objN, List.length_replicate]) (by decide) rfl ?_
 refine Eval.putfield (H1 := (W0 [.inl (oo 1 11 13 9), oA 1 8, oA 1 8, oA 1 4, oA 1 4, oA 1 4, oA 1 4, oA 1 4, oA 1 4, oA 1 64, oA 1 64, oA 1 64])) rfl rfl rfl ?_
 refine Eval.aload_n rfl rfl ?_
 refine Eval.bipush (x := 8) rfl rfl ?_
 refine Eval.newarray (z := 265) (N := 8) (a := 12) (H1 := (W0 [.inl (oo 1 11 13 9), oA 1 8, oA 1 8, oA 1 4, oA 1 4, oA 1 4, oA 1 4, oA 1 4, oA 1 4, oA 1 64, oA 1 64, oA 1 64, oA 1 8])) rfl rfl rfl rfl rfl (by decide) (by decide) (by unfold W0; simp only [hsz, csz, own_objN, List.length_replicate]) (by decide) rfl ?_
 refine Eval.putfield (H1 := (W0 [.inl (oo 1 12 12 9), oA 1 8, oA 1 8, oA 1 4, oA 1 4, oA 1 4, oA 1 4, oA 1 4, oA 1 4, oA 1 64, oA 1 64, oA 1 64, oA 1 8])) rfl rfl rfl ?_
 refine Eval.aload_n rfl rfl ?_
 refine Eval.bipush (x := 6) rfl rfl ?_
 refine Eval.newarray (z := 273) (N := 6) (a := 13) (H1 := (W0 [.inl (oo 1 12 12 9), oA 1 8, oA 1 8, oA 1 4, oA 1 4, oA 1 4, oA 1 4, oA 1 4, oA 1 4, oA 1 64, oA 1 64, oA 1 64, oA 1 8, oA 1 6])) rfl rfl rfl rfl rfl (by decide) (by decide) (by unfold W0; simp only [hsz, csz, own_objN, List.length_replicate]) (by decide) rfl ?_
 refine Eval.putfield (H1 := (W0 [.inl (oo 1 13 11 9), oA 1 8, oA 1 8, oA 1 4, oA 1 4, oA 1 4, oA 1 4, oA 1 4, oA 1 4, oA 1 64, oA 1 64, oA 1 64, oA 1 8, oA 1 6])) rfl rfl rfl ?_
 refine Eval.aload_n rfl rfl ?_
 refine Eval.bipush (x := 6) rfl rfl ?_
 refine Eval.newarray (z := 279) (N := 6) (a := 14) (H1 := (W0 [.inl (oo 1 13 11 9), oA 1 8, oA 1 8, oA 1 4, oA 1 4, oA 1 4, oA 1 4, oA 1 4, oA 1 4, oA 1 64, oA 1 64, oA 1 64, oA 1 8, oA 1 6, oA 1 6])) rfl rfl rfl rfl rfl (by decide) (by decide) (by unfold W0; simp only [hsz, csz, own_objN, List.length_replicate]) (by decide) rfl ?_
 refine Eval.putfield (H1 := (W0 [.inl (oo 1 14 10 9), oA 1 8, oA 1 8, oA 1 4, oA 1 4, oA 1 4, oA 1 4, oA 1 4, oA 1 4, oA 1 64, oA 1 64, oA 1 64, oA 1 8, oA 1 6, oA 1 6])) rfl rfl rfl ?_
 refine Eval.aload_n rfl rfl ?_
 refine Eval.bipush (x := 6) rfl rfl ?_
 refine Eval.newarray (z := 285) (N := 6) (a := 15) (H1 := (W0 [.inl (oo 1 14 10 9), oA 1 8, oA 1 8, oA 1 4, oA 1 4, oA 1 4, oA 1 4, oA 1 4, oA 1 4, oA 1 64, oA 1 64, oA 1 64, oA 1 8, oA 1 6, oA 1 6, oA 1 6])) rfl rfl rfl rfl rfl (by decide) (by decide) (by unfold W0; simp only [hsz, csz, own_objN, List.length_replicate]) (by decide) rfl ?_
 refine Eval.putfield (H1 := (W0 [.inl (oo 1 15 9 9), oA 1 8, oA 1 8, oA 1 4, oA 1 4, oA 1 4, oA 1 4, oA 1 4, oA 1 4, oA 1 64, oA 1 64, oA 1 64, oA 1 8, oA 1 6, oA 1 6, oA 1 6])) rfl rfl rfl ?_
 refine Eval.aload_n rfl rfl ?_
 refine Eval.bipush (x := 6) rfl rfl ?_
 refine Eval.newarray (z := 291) (N := 6) (a := 16) (H1 := (W0 [.inl (oo 1 15 9 9), oA 1 8, oA 1 8, oA 1 4, oA 1 4, oA 1 4, oA 1 4, oA 1 4, oA 1 4, oA 1 64, oA 1 64, oA 1 64, oA 1 8, oA 1 6, oA 1 6, oA 1 6, oA 1 6])) rfl rfl rfl rfl rfl (by decide) (by decide) (by unfold W0; simp only [hsz, csz, own_objN, List.length_replicate]) (by decide) rfl ?_
 refine Eval.putfield (H1 := (W0 [.inl (oo 1 16 8 9), oA 1 8, oA 1 8, oA 1 4, oA 1 4, oA 1 4, oA 1 4, oA 1 4, oA 1 4, oA 1 64, oA 1 64, oA 1 64, oA 1 8, oA 1 6, oA 1 6, oA 1 6, oA 1 6])) rfl rfl rfl ?_
 refine Eval.aload_n rfl rfl ?_
 refine Eval.bipush (x := 6) rfl rfl ?_
 refine Eval.newarray (z := 297) (N := 6) (a := 17) (H1 := (W0 [.inl (oo 1 16 8 9), oA 1 8, oA 1 8, oA 1 4, oA 1 4, oA 1 4, oA 1 4, oA 1 4, oA 1 4, oA 1 64, oA 1 64, oA 1 64, oA 1 8, oA 1 6, oA 1 6, oA 1 6, oA 1 6, oA 1 6])) rfl rfl rfl rfl rfl (by decide) (by decide) (by unfold W0; simp only [hsz, csz, own_objN, List.length_replicate]) (by decide) rfl ?_
 refine Eval.putfield (H1 := (W0 [.inl (oo 1 17 7 9), oA 1 8, oA 1 8, oA 1 4, oA 1 4, oA 1 4, oA 1 4, oA 1 4, oA 1 4, oA 1 64, oA 1 64, oA 1 64, oA 1 8, oA 1 6, oA 1 6, oA 1 6, oA 1 6, oA 1 6])) rfl rfl rfl ?_
 refine Eval.aload_n rfl rfl ?_
 refine Eval.bipush (x := 6) rfl rfl ?_
 refine Eval.newarray (z := 303) (N := 6) (a := 18) (H1 := (W0 [.inl (oo 1 17 7 9), oA 1 8, oA 1 8, oA 1 4, oA 1 4, oA 1 4, oA 1 4, oA 1 4, oA 1 4, oA 1 64, oA 1 64, oA 1 64, oA 1 8, oA 1 6, oA 1 6, oA 1 6, oA 1 6, oA 1 6, oA 1 6])) rfl rfl rfl rfl rfl (by decide) (by decide) (by unfold W0; simp only [hsz, csz, own_objN, List.length_replicate]) (by decide) rfl ?_
 refine Eval.putfield (H1 := (W0 [.inl (oo 1 18 6 9), oA 1 8, oA 1 8, oA 1 4, oA 1 4, oA 1 4, oA 1 4, oA 1 4, oA 1 4, oA 1 64, oA 1 64, oA 1 64, oA 1 8, oA 1 6, oA 1 6, oA 1 6, oA 1 6, oA 1 6, oA 1 6])) rfl rfl rfl ?_
 refine Eval.aload_n rfl rfl ?_
 refine Eval.bipush (x := 6) rfl rfl ?_
 refine Eval.newarray (z := 309) (N := 6) (a := 19) (H1 := (W0 [.inl (oo 1 18 6 9), oA 1 8, oA 1 8, oA 1 4, oA 1 4, oA 1 4, oA 1 4, oA 1 4, oA 1 4, oA 1 64, oA 1 64, oA 1 64, oA 1 8, oA 1 6, oA 1 6, oA 1 6, oA 1 6, oA 1 6, oA 1 6, oA 1 6])) rfl rfl rfl rfl rfl (by decide) (by decide) (by unfold W0; simp only [hsz, csz, own_objN, List.length_replicate]) (by decide) rfl ?_
 refine Eval.putfield (H1 := (W0 [.inl (oo 1 19 5 9), oA 1 8, oA 1 8, oA 1 4, oA 1 4, oA 1 4, oA 1 4, oA 1 4, oA 1 4, oA 1 64, oA 1 64, oA 1 64, oA 1 8, oA 1 6, oA 1 6, oA 1 6, oA 1 6, oA 1 6, oA 1 6, oA 1 6])) rfl rfl rfl ?_
 refine Eval.aload_n rfl rfl ?_
 refine Eval.iconst (x := 4) rfl rfl ?_
 refine Eval.newarray (z := 315) (N := 4) (a := 20) (H1 := (W0 [.inl (oo 1 19 5 9), oA 1 8, oA 1 8, oA 1 4, oA 1 4, oA 1 4, oA 1 4, oA 1 4, oA 1 4, oA 1 64, oA 1 64, oA 1 64, oA 1 8, oA 1 6, oA 1 6, oA 1 6, oA 1 6, oA 1 6, oA 1 6, oA 1 6, oA 1 4])) rfl rfl rfl rfl rfl (by decide) (by decide) (by unfold W0; simp only [hsz, csz, own_objN, List.length_replicate]) (by decide) rfl ?_
 refine Eval.putfield (H1 := (W0 [.inl (oo 1 20 4 9), oA 1 8, oA 1 8, oA 1 4, oA 1 4, oA 1 4, oA 1 4, oA 1 4, oA 1 4, oA 1 64, oA 1 64, oA 1 64, oA 1 8, oA 1 6, oA 1 6, oA 1 6, oA 1 6, oA 1 6, oA 1 6, oA 1 6, oA 1 4])) rfl rfl rfl ?_
 refine Eval.aload_n rfl rfl ?_
 refine Eval.bipush (x := 56) rfl rfl ?_
 refine Eval.newarray (z := 319) (N := 56) (a := 21) (H1 := (W0 [.inl (oo 1 20 4 9), oA 1 8, oA 1 8, oA 1 4, oA 1 4, oA 1 4, oA 1 4, oA 1 4, oA 1 4, oA 1 64, oA 1 64, oA 1 64, oA 1 8, oA 1 6, oA 1 6, oA 1 6, oA 1 6, oA 1 6, oA 1 6, oA 1 6, oA 1 4, oA 1 56])) rfl rfl rfl rfl rfl (by decide) (by decide) (by unfold W0; simp only [hsz, csz, own_objN, List.length_replicate]) (by decide) rfl ?_
 refine Eval.putfield (H1 := (W0 [.inl (oo 1 21 3 9), oA 1 8, oA 1 8, oA 1 4, oA 1 4, oA 1 4, oA 1 4, oA 1 4, oA 1 4, oA 1 64, oA 1 64, oA 1 64, oA 1 8, oA 1 6, oA 1 6, oA 1 6, oA 1 6, oA 1 6, oA 1 6, oA 1 6, oA 1 4, oA 1 56])) rfl rfl rfl ?_
 refine Eval.aload_n rfl rfl ?_
 refine Eval.bipush (x := 7) rfl rfl ?_
 refine Eval.newarray (z := 375) (N := 7) (a := 22) (H1 := (W0 [.inl (oo 1 21 3 9), oA 1 8, oA 1 8, oA 1 4, oA 1 4, oA 1 4, oA 1 4, oA 1 4, oA 1 4, oA 1 64, oA 1 64, oA 1 64, oA 1 8, oA 1 6, oA 1 6, oA 1 6, oA 1 6, oA 1 6, oA 1 6, oA 1 6, oA 1 4, oA 1 56, oA 1 7])) rfl rfl rfl rfl rfl (by decide) (by decide) (by unfold W0; simp only [hsz, csz, own_objN, List.length_replicate]) (by decide) rfl ?_
 refine Eval.putfield (H1 := (W0 [.inl (oo 1 22 2 9), oA 1 8, oA 1 8, oA 1 4, oA 1 4, oA 1 4, oA 1 4, oA 1 4, oA 1 4, oA 1 64, oA 1 64, oA 1 64, oA 1 8, oA 1 6, oA 1 6, oA 1 6, oA 1 6, oA 1 6, oA 1 6, oA 1 6, oA 1 4, oA 1 56, oA 1 7])) rfl rfl rfl ?_
 refine Eval.aload_n rfl rfl ?_
 refine Eval.bipush (x := 7) rfl rfl ?_
 refine Eval.newarray (z := 382) (N := 7) (a := 23) (H1 := (W0 [.inl (oo 1 22 2 9), oA 1 8, oA 1 8, oA 1 4, oA 1 4, oA 1 4, oA 1 4, oA 1 4, oA 1 4, oA 1 64, oA 1 64, oA 1 64, oA 1 8, oA 1 6, oA 1 6, oA 1 6, oA 1 6, oA 1 6, oA 1 6, oA 1 6, oA 1 4, oA 1 56, oA 1 7, oA 1 7])) rfl rfl rfl rfl rfl (by decide) (by decide) (by unfold W0; simp only [hsz, csz, own_objN, List.length_replicate]) (by decide) rfl ?_
 refine Eval.putfield (H1 := (W0 [.inl (oo 1 23 1 9), oA 1 8, oA 1 8, oA 1 4, oA 1 4, oA 1 4, oA 1 4, oA 1 4, oA 1 4, oA 1 64, oA 1 64, oA 1 64, oA 1 8, oA 1 6, oA 1 6, oA 1 6, oA 1 6, oA 1 6, oA 1 6, oA 1 6, oA 1 4, oA 1 56, oA 1 7, oA 1 7])) rfl rfl rfl ?_
 refine Eval.aload_n rfl rfl ?_
 refine Eval.bipush (x := 7) rfl rfl ?_
 refine Eval.newarray (z := 389) (N := 7) (a := 24) (H1 := (W0 [.inl (oo 1 23 1 9), oA 1 8, oA 1 8, oA 1 4, oA 1 4, oA 1 4, oA 1 4, oA 1 4, oA 1 4, oA 1 64, oA 1 64, oA 1 64, oA 1 8, oA 1 6, oA 1 6, oA 1 6, oA 1 6, oA 1 6, oA 1 6, oA 1 6, oA 1 4, oA 1 56, oA 1 7, oA 1 7, oA 1 7])) rfl rfl rfl rfl rfl (by decide) (by decide) (by unfold W0; simp only [hsz, csz, own_objN, List.length_replicate]) (by decide) rfl ?_
 refine Eval.putfield (H1 := (W0 [.inl (oo 1 24 0 9), oA 1 8, oA 1 8, oA 1 4, oA 1 4, oA 1 4, oA 1 4, oA 1 4, oA 1 4, oA 1 64, oA 1 64, oA 1 64, oA 1 8, oA 1 6, oA 1 6, oA 1 6, oA 1 6, oA 1 6, oA 1 6, oA 1 6, oA 1 4, oA 1 56, oA 1 7, oA 1 7, oA 1 7])) rfl rfl rfl ?_
 show Eval own_P 1 189 [some (.ref 0), some (.int v1), some (.int v2), some (.int v3), none, none, none, none] [] (W1 Q0 []) out
 exact ev_j_init_b189 Q0 v1 v2 v3 h hk
def j_valid (s : Q) (v1 : Int32) : Int32 := (if v1 < (0:Int32) then ((0:Int32)) else (if v1 < s.f24 then ((1:Int32)) else ((0:Int32))))
set_option maxRecDepth 100000 in
theorem ev_j_valid (R : AHeap) (s : Q) (v1 : Int32) {res : Int32} {out : Option Value × AHeap} (h : j_valid s v1 = res) (hk : out = (some (.int res), (W1 s R))) : Eval own_P 4 0 [some (.ref 0), some (.int v1)] [] (W1 s R) out := by
 rw [j_valid] at h
 refine Eval.iload_n rfl rfl ?_
 by_cases hc14 : v1 < (0:Int32)
 ·rw [if_pos hc14] at h
  refine Eval.ifT (t := 16) rfl rfl (tlt hc14).1 ?_
  refine Eval.iconst (x := 0) rfl rfl ?_
  subst h
  subst hk
  exact Eval.ret rfl rfl
 ·rw [if_neg hc14] at h
  refine Eval.ifF rfl (flt hc14).1 ?_
  refine Eval.iload_n rfl rfl ?_
  refine Eval.aload_n rfl rfl ?_
  refine Eval.getfield rfl rfl own_g1_nThreads ?_
  by_cases hc15 : v1 < s.f24
  ·rw [if_pos hc15] at h
   refine Eval.icmpF rfl (tlt hc15).2.1 ?_
   refine Eval.iconst (x := 1) rfl rfl ?_
   refine Eval.goto (t := 17) rfl rfl ?_
   subst h
   subst hk
   exact Eval.ret rfl rfl
  ·rw [if_neg hc15] at h
   refine Eval.icmpT (t := 16) rfl rfl (flt hc15).2.1 ?_
   refine Eval.iconst (x := 0) rfl rfl ?_
   subst h
   subst hk
   exact Eval.ret rfl rfl
abbrev j_pending_l4_K (R : AHeap) (s : Q) (res : Int32) (out : Option Value × AHeap) : Prop := Eval own_P 6 35 [none, some (.int res), none] [] (W1 s R) out

def j_pending_b29 (go_ : Q → Int32 → Int32 → Option (Int32)) (s : Q) (v1 v2 : Int32) : Option (Int32) := (go_ s v1 (v2 + (1:Int32)))
set_option maxRecDepth 100000 in
theorem ev_j_pending_b29 (R : AHeap) (go_ : Q → Int32 → Int32 → Option (Int32)) (hrec : ∀ (s : Q) (v1 v2 : Int32) {res : Int32} {out : Option Value × AHeap}, go_ s v1 v2 = some res → j_pending_l4_K R s res out → Eval own_P 6 4 [some (.ref 0), some (.int v1), some (.int v2)] [] (W1 s R) out) (s : Q) (v1 v2 : Int32) {res : Int32} {out : Option Value × AHeap} (h : j_pending_b29 go_ s v1 v2 = some res) (hk : j_pending_l4_K R s res out) : Eval own_P 6 29 [some (.ref 0), some (.int v1), some (.int v2)] [] (W1 s R) out := by
 rw [j_pending_b29] at h
 refine Eval.iinc (L' := [some (.ref 0), some (.int v1), some (.int (v2 + (1:Int32)))]) rfl rfl rfl ?_
 refine Eval.goto (t := 4) rfl rfl ?_
 exact hrec _ _ _ h hk
def j_pending_l4 : Nat → Q → Int32 → Int32 → Option (Int32)
  | 0, _, _, _ => none
  | n + 1, s, v1, v2 => (if v2 < (4:Int32) then (if v2 < s.f24 then (if inb s.f2.length v2 = true then (j_pending_b29 (j_pending_l4 n) s (if (rd s.f2 v2) = (0:Int32) then v1 else (v1 + (1:Int32))) v2) else none) else (j_pending_b29 (j_pending_l4 n) s v1 v2)) else some (v1))
set_option maxRecDepth 100000 in
theorem ev_j_pending_l4 (R : AHeap) : ∀ (n : Nat) (s : Q) (v1 v2 : Int32) {res : Int32} {out : Option Value × AHeap}, j_pending_l4 n s v1 v2 = some res → j_pending_l4_K R s res out → Eval own_P 6 4 [some (.ref 0), some (.int v1), some (.int v2)] [] (W1 s R) out := by
 intro n
 induction n with
 | zero => intro _ _ _ res out h hk; cases h
 | succ n hrec =>
  intro s v1 v2 res out h hk
  rw [j_pending_l4] at h
  refine Eval.iload_n rfl rfl ?_
  refine Eval.iconst (x := 4) rfl rfl ?_
  by_cases hc19 : v2 < (4:Int32)
  ·rw [if_pos hc19] at h
   refine Eval.icmpF rfl (tlt hc19).2.1 ?_
   refine Eval.iload_n rfl rfl ?_
   refine Eval.aload_n rfl rfl ?_
   refine Eval.getfield rfl rfl own_g1_nThreads ?_
   by_cases hc21 : v2 < s.f24
   ·rw [if_pos hc21] at h
    refine Eval.icmpF rfl (tlt hc21).2.1 ?_
    refine Eval.aload_n rfl rfl ?_
    refine Eval.getfield rfl rfl own_g1_st ?_
    refine Eval.iload_n rfl rfl ?_
    obtain ⟨hb22, h⟩ := ite_some h
    refine Eval.iaload rfl own_a1_st hb22 ?_
    suffices hJ24 : Eval own_P 6 29 [some (.ref 0), some (.int (if (rd s.f2 v2) = (0:Int32) then v1 else (v1 + (1:Int32)))), some (.int v2)] [] (W1 s R) out by
     by_cases hc23 : (rd s.f2 v2) = (0:Int32)
     ·refine Eval.ifT (t := 29) rfl rfl (teq hc23).1 ?_
      exact (Eval.conv hJ24 (by simp only [if_pos hc23] <;> rfl) rfl)
     ·refine Eval.ifF rfl (feq hc23).1 ?_
      refine Eval.iinc (L' := [some (.ref 0), some (.int (v1 + (1:Int32))), some (.int v2)]) rfl rfl rfl ?_
      exact (Eval.conv hJ24 (by simp only [if_neg hc23] <;> rfl) rfl)
    exact ev_j_pending_b29 R _ hrec s (if (rd s.f2 v2) = (0:Int32) then v1 else (v1 + (1:Int32))) v2 h hk
   ·rw [if_neg hc21] at h
    refine Eval.icmpT (t := 29) rfl rfl (flt hc21).2.1 ?_
    exact ev_j_pending_b29 R _ hrec s v1 v2 h hk
  ·rw [if_neg hc19] at h
   refine Eval.icmpT (t := 35) rfl rfl (flt hc19).2.1 ?_
   cases h
   refine Eval.weak (lw_mk 2 _) ?_
   exact hk
def j_pending (s : Q) : Option (Int32) := ((j_pending_l4 3000 s (0:Int32) (0:Int32)).bind fun p25 => some (p25))
set_option maxRecDepth 100000 in
theorem ev_j_pending (R : AHeap) (s : Q) {res : Int32} {out : Option Value × AHeap} (h : j_pending s = some res) (hk : out = (some (.int res), (W1 s R))) : Eval own_P 6 0 [some (.ref 0), none, none] [] (W1 s R) out := by
 rw [j_pending] at h
 refine Eval.iconst (x := 0) rfl rfl ?_
 refine Eval.istore_n (L' := [some (.ref 0), some (.int 0), none]) rfl rfl ?_
 refine Eval.iconst (x := 0) rfl rfl ?_
 refine Eval.istore_n (L' := [some (.ref 0), some (.int 0), some (.int 0)]) rfl rfl ?_
 obtain ⟨p25, hq26, h⟩ := bind_some h
 refine ev_j_pending_l4 R _ s (0:Int32) (0:Int32) hq26 ?_
 show Eval own_P 6 35 [none, some (.int p25), none] [] (W1 s R) out
 refine Eval.iload_n rfl rfl ?_
 cases h
 subst hk
 exact Eval.ret rfl rfl
def j_hasRoom (s : Q) : Option (Int32) := ((j_pending s).bind fun p27 => (if (64:Int32) < ((s.f29 + p27) + (2:Int32)) then some ((0:Int32)) else some ((1:Int32))))
set_option maxRecDepth 100000 in
theorem ev_j_hasRoom (R : AHeap) (s : Q) {res : Int32} {out : Option Value × AHeap} (h : j_hasRoom s = some res) (hk : out = (some (.int res), (W1 s R))) : Eval own_P 5 0 [some (.ref 0), none] [] (W1 s R) out := by
 rw [j_hasRoom] at h
 refine Eval.aload_n rfl rfl ?_
 obtain ⟨p27, hq28, h⟩ := bind_some h
 refine Eval.callI (rest := []) (x := p27) (H1 := (W1 s R)) rfl rfl (ev_j_pending R s hq28 rfl) ?_
 refine Eval.istore_n (L' := [some (.ref 0), some (.int p27)]) rfl rfl ?_
 refine Eval.aload_n rfl rfl ?_
 refine Eval.getfield rfl rfl own_g1_histLen ?_
 refine Eval.iload_n rfl rfl ?_
 refine Eval.iadd rfl ?_
 refine Eval.iconst (x := 2) rfl rfl ?_
 refine Eval.iadd rfl ?_
 refine Eval.bipush (x := 64) rfl rfl ?_
 by_cases hc29 : (64:Int32) < ((s.f29 + p27) + (2:Int32))
 ·rw [if_pos hc29] at h
  refine Eval.icmpT (t := 22) rfl rfl (tlt hc29).2.2.1 ?_
  refine Eval.iconst (x := 0) rfl rfl ?_
  cases h
  subst hk
  exact Eval.ret rfl rfl
 ·rw [if_neg hc29] at h
  refine Eval.icmpF rfl (flt hc29).2.2.1 ?_
  refine Eval.iconst (x := 1) rfl rfl ?_
  refine Eval.goto (t := 23) rfl rfl ?_
  cases h
  subst hk
  exact Eval.ret rfl rfl
def j_append (s : Q) (v1 v2 v3 : Int32) : Option (Q) := (if s.f29 < (0:Int32) then some (s) else (if s.f29 < (64:Int32) then (if inb s.f8.length s.f29 = true then (if inb s.f9.length s.f29 = true then (if inb s.f10.length s.f29 = true then some ((Q.mk s.f0 s.f1 s.f2 s.f3 s.f4 s.f5 s.f6 s.f7 (wr s.f8 s.f29 v1) (wr s.f9 s.f29 v2) (wr s.f10 s.f29 v3) s.f11 s.f12 s.f13 s.f14 s.f15 s.f16 s.f17 s.f18 s.f19 s.f20 s.f21 s.f22 s.f23 s.f24 s.f25 s.f26 s.f27 s.f28 (s.f29 + (1:Int32)) s.f30 s.f31 s.f32)) else none) else none) else none) else some (s)))
set_option maxRecDepth 100000 in
theorem ev_j_append (R : AHeap) (s : Q) (v1 v2 v3 : Int32) {res : Q} {out : Option Value × AHeap} (h : j_append s v1 v2 v3 = some res) (hk : out = (none, (W1 res R))) : Eval own_P 7 0 [some (.ref 0), some (.int v1), some (.int v2), some (.int v3)] [] (W1 s R) out := by
 rw [j_append] at h
 refine Eval.aload_n rfl rfl ?_
 refine Eval.getfield rfl rfl own_g1_histLen ?_
 by_cases hc33 : s.f29 < (0:Int32)
 ·rw [if_pos hc33] at h
  refine Eval.ifT (t := 56) rfl rfl (tlt hc33).1 ?_
  cases h
  subst hk
  exact Eval.ret rfl rfl
 ·rw [if_neg hc33] at h
  refine Eval.ifF rfl (flt hc33).1 ?_
  refine Eval.aload_n rfl rfl ?_
  refine Eval.getfield rfl rfl own_g1_histLen ?_
  refine Eval.bipush (x := 64) rfl rfl ?_
  by_cases hc34 : s.f29 < (64:Int32)
  ·rw [if_pos hc34] at h
   refine Eval.icmpF rfl (tlt hc34).2.1 ?_
   refine Eval.aload_n rfl rfl ?_
   refine Eval.getfield rfl rfl own_g1_evKind ?_
   refine Eval.aload_n rfl rfl ?_
   refine Eval.getfield rfl rfl own_g1_histLen ?_
   refine Eval.iload_n rfl rfl ?_
   obtain ⟨hb35, h⟩ := ite_some h
   refine Eval.iastore rfl rfl own_a1_evKind hb35 own_s1_evKind ?_
   refine Eval.aload_n rfl rfl ?_
   refine Eval.getfield rfl rfl own_g1_evThread ?_
   refine Eval.aload_n rfl rfl ?_
   refine Eval.getfield rfl rfl own_g1_histLen ?_
   refine Eval.iload_n rfl rfl ?_
   obtain ⟨hb36, h⟩ := ite_some h
   refine Eval.iastore rfl rfl own_a1_evThread hb36 own_s1_evThread ?_
   refine Eval.aload_n rfl rfl ?_
   refine Eval.getfield rfl rfl own_g1_evVal ?_
   refine Eval.aload_n rfl rfl ?_
   refine Eval.getfield rfl rfl own_g1_histLen ?_
   refine Eval.iload_n rfl rfl ?_
   obtain ⟨hb37, h⟩ := ite_some h
   refine Eval.iastore rfl rfl own_a1_evVal hb37 own_s1_evVal ?_
   refine Eval.aload_n rfl rfl ?_
   refine Eval.dupR rfl ?_
   refine Eval.getfield rfl rfl own_g1_histLen ?_
   refine Eval.iconst (x := 1) rfl rfl ?_
   refine Eval.iadd rfl ?_
   refine Eval.putfield rfl rfl own_p1_histLen ?_
   cases h
   subst hk
   exact Eval.retH own_mk1 rfl rfl
  ·rw [if_neg hc34] at h
   refine Eval.icmpT (t := 56) rfl rfl (flt hc34).2.1 ?_
   cases h
   subst hk
   exact Eval.ret rfl rfl
def j_startEnqueue (s : Q) (v1 v2 : Int32) : Option (Int32 × Q) := (if (j_valid s v1) = (0:Int32) then some ((0:Int32), s) else (if inb s.f2.length v1 = true then (if (rd s.f2 v1) = (0:Int32) then ((j_hasRoom s).bind fun p30 => (if p30 = (0:Int32) then some ((0:Int32), s) else ((j_append s (1:Int32) v1 v2).bind fun p38 => (if inb p38.f4.length v1 = true then (if inb p38.f2.length v1 = true then some ((1:Int32), (Q.mk p38.f0 p38.f1 (wr p38.f2 v1 (11:Int32)) p38.f3 (wr p38.f4 v1 v2) p38.f5 p38.f6 p38.f7 p38.f8 p38.f9 p38.f10 p38.f11 p38.f12 p38.f13 p38.f14 p38.f15 p38.f16 p38.f17 p38.f18 p38.f19 p38.f20 p38.f21 p38.f22 p38.f23 p38.f24 p38.f25 p38.f26 p38.f27 p38.f28 p38.f29 p38.f30 p38.f31 p38.f32)) else none) else none)))) else some ((0:Int32), s)) else none))
set_option maxRecDepth 100000 in
theorem ev_j_startEnqueue (R : AHeap) (s : Q) (v1 v2 : Int32) {res : Int32 × Q} {out : Option Value × AHeap} (h : j_startEnqueue s v1 v2 = some res) (hk : out = (some (.int res.1), (W1 res.2 R))) : Eval own_P 3 0 [some (.ref 0), some (.int v1), some (.int v2)] [] (W1 s R) out := by
 rw [j_startEnqueue] at h
 refine Eval.aload_n rfl rfl ?_
 refine Eval.iload_n rfl rfl ?_
 refine Eval.callI (rest := []) (x := (j_valid s v1)) (H1 := (W1 s R)) rfl rfl (ev_j_valid R s v1 rfl rfl) ?_
 by_cases hc16 : (j_valid s v1) = (0:Int32)
 ·rw [if_pos hc16] at h
  refine Eval.ifT (t := 24) rfl rfl (teq hc16).1 ?_
  refine Eval.iconst (x := 0) rfl rfl ?_
  cases h
  subst hk
  exact Eval.ret rfl rfl
 ·rw [if_neg hc16] at h
  refine Eval.ifF rfl (feq hc16).1 ?_
  refine Eval.aload_n rfl rfl ?_
  refine Eval.getfield rfl rfl own_g1_st ?_
  refine Eval.iload_n rfl rfl ?_
  obtain ⟨hb17, h⟩ := ite_some h
  refine Eval.iaload rfl own_a1_st hb17 ?_
  by_cases hc18 : (rd s.f2 v1) = (0:Int32)
  ·rw [if_pos hc18] at h
   refine Eval.ifF rfl (teq hc18).2 ?_
   refine Eval.aload_n rfl rfl ?_
   obtain ⟨p30, hq31, h⟩ := bind_some h
   refine Eval.callI (rest := []) (x := p30) (H1 := (W1 s R)) rfl rfl (ev_j_hasRoom R s hq31 rfl) ?_
   by_cases hc32 : p30 = (0:Int32)
   ·rw [if_pos hc32] at h
    refine Eval.ifF rfl (teq hc32).2 ?_
    refine Eval.iconst (x := 0) rfl rfl ?_
    cases h
    subst hk
    exact Eval.ret rfl rfl
   ·rw [if_neg hc32] at h
    refine Eval.ifT (t := 26) rfl rfl (feq hc32).2 ?_
    refine Eval.aload_n rfl rfl ?_
    refine Eval.iconst (x := 1) rfl rfl ?_
    refine Eval.iload_n rfl rfl ?_
    refine Eval.iload_n rfl rfl ?_
    obtain ⟨p38, hq39, h⟩ := bind_some h
    refine Eval.callN (rest := []) (H1 := (W1 p38 R)) rfl rfl (ev_j_append R s (1:Int32) v1 v2 hq39 rfl) ?_
    refine Eval.aload_n rfl rfl ?_
    refine Eval.getfield rfl rfl own_g1_locV ?_
    refine Eval.iload_n rfl rfl ?_
    refine Eval.iload_n rfl rfl ?_
    obtain ⟨hb41, h⟩ := ite_some h
    refine Eval.iastore rfl rfl own_a1_locV hb41 own_s1_locV ?_
    refine Eval.aload_n rfl rfl ?_
    refine Eval.getfield rfl rfl own_g1_st ?_
    refine Eval.iload_n rfl rfl ?_
    refine Eval.bipush (x := 11) rfl rfl ?_
    obtain ⟨hb42, h⟩ := ite_some h
    refine Eval.iastore rfl rfl own_a1_st hb42 own_s1_st ?_
    refine Eval.iconst (x := 1) rfl rfl ?_
    cases h
    subst hk
    exact Eval.retH own_mk1 rfl rfl
  ·rw [if_neg hc18] at h
   refine Eval.ifT (t := 24) rfl rfl (feq hc18).2 ?_
   refine Eval.iconst (x := 0) rfl rfl ?_
   cases h
   subst hk
   exact Eval.ret rfl rfl
def j_deqStep_b116 (s : Q) (w1 w2 : Int32) : Option (Int32 × Q) := (if inb s.f2.length w1 = true then some ((0:Int32), (Q.mk s.f0 s.f1 (wr s.f2 w1 w2) s.f3 s.f4 s.f5 s.f6 s.f7 s.f8 s.f9 s.f10 s.f11 s.f12 s.f13 s.f14 s.f15 s.f16 s.f17 s.f18 s.f19 s.f20 s.f21 s.f22 s.f23 s.f24 s.f25 s.f26 s.f27 s.f28 s.f29 s.f30 s.f31 s.f32)) else none)
set_option maxRecDepth 100000 in
theorem ev_j_deqStep_b116 (R : AHeap) (s : Q) (w1 w2 : Int32) {res : Int32 × Q} {out : Option Value × AHeap} (h : j_deqStep_b116 s w1 w2 = some res) (hk : out = (some (.int res.1), (W1 res.2 R))) : Eval own_P 13 116 [none, none, none, none, none, none] [.int w2, .int w1, .ref 3] (W1 s R) out := by
 rw [j_deqStep_b116] at h
 obtain ⟨hb63, h⟩ := ite_some h
 refine Eval.iastore rfl rfl own_a1_st hb63 own_s1_st ?_
 refine Eval.iconst (x := 0) rfl rfl ?_
 cases h
 subst hk
 exact Eval.retH own_mk1 rfl rfl
def j_resKind (v1 : Int32) : Int32 := (if v1 = (2:Int32) then ((4:Int32)) else (if v1 = (3:Int32) then ((5:Int32)) else ((3:Int32))))
set_option maxRecDepth 100000 in
theorem ev_j_resKind (H : AHeap) (a : Nat) (v1 : Int32) {res : Int32} {out : Option Value × AHeap} (h : j_resKind v1 = res) (hk : out = (some (.int res), H)) : Eval own_P 17 0 [some (.ref a), some (.int v1)] [] H out := by
 rw [j_resKind] at h
 refine Eval.iload_n rfl rfl ?_
 refine Eval.iconst (x := 2) rfl rfl ?_
 by_cases hc72 : v1 = (2:Int32)
 ·rw [if_pos hc72] at h
  refine Eval.icmpF rfl (teq hc72).2 ?_
  refine Eval.iconst (x := 4) rfl rfl ?_
  subst h
  subst hk
  exact Eval.ret rfl rfl
 ·rw [if_neg hc72] at h
  refine Eval.icmpT (t := 7) rfl rfl (feq hc72).2 ?_
  refine Eval.iload_n rfl rfl ?_
  refine Eval.iconst (x := 3) rfl rfl ?_
  by_cases hc73 : v1 = (3:Int32)
  ·rw [if_pos hc73] at h
   refine Eval.icmpF rfl (teq hc73).2 ?_
   refine Eval.iconst (x := 5) rfl rfl ?_
   subst h
   subst hk
   exact Eval.ret rfl rfl
  ·rw [if_neg hc73] at h
   refine Eval.icmpT (t := 14) rfl rfl (feq hc73).2 ?_
   refine Eval.iconst (x := 3) rfl rfl ?_
   subst h
   subst hk
   exact Eval.ret rfl rfl
def j_finish (s : Q) (v1 v2 v3 : Int32) : Option (Q) := (if inb s.f5.length v1 = true then (if inb s.f6.length v1 = true then ((j_append (Q.mk s.f0 s.f1 s.f2 s.f3 s.f4 (wr s.f5 v1 v2) (wr s.f6 v1 v3) s.f7 s.f8 s.f9 s.f10 s.f11 s.f12 s.f13 s.f14 s.f15 s.f16 s.f17 s.f18 s.f19 s.f20 s.f21 s.f22 s.f23 s.f24 s.f25 s.f26 s.f27 s.f28 s.f29 s.f30 s.f31 s.f32) (j_resKind v2) v1 v3).bind fun p74 => (if inb p74.f2.length v1 = true then some ((Q.mk p74.f0 p74.f1 (wr p74.f2 v1 (0:Int32)) p74.f3 p74.f4 p74.f5 p74.f6 p74.f7 p74.f8 p74.f9 p74.f10 p74.f11 p74.f12 p74.f13 p74.f14 p74.f15 p74.f16 p74.f17 p74.f18 p74.f19 p74.f20 p74.f21 p74.f22 p74.f23 p74.f24 p74.f25 p74.f26 p74.f27 p74.f28 p74.f29 p74.f30 p74.f31 p74.f32)) else none)) else none) else none)
set_option maxRecDepth 100000 in
theorem ev_j_finish (R : AHeap) (s : Q) (v1 v2 v3 : Int32) {res : Q} {out : Option Value × AHeap} (h : j_finish s v1 v2 v3 = some res) (hk : out = (none, (W1 res R))) : Eval own_P 16 0 [some (.ref 0), some (.int v1), some (.int v2), some (.int v3), none] [] (W1 s R) out := by
 rw [j_finish] at h
 refine Eval.aload_n rfl rfl ?_
 refine Eval.getfield rfl rfl own_g1_lastSt ?_
 refine Eval.iload_n rfl rfl ?_
 refine Eval.iload_n rfl rfl ?_
 obtain ⟨hb70, h⟩ := ite_some h
 refine Eval.iastore rfl rfl own_a1_lastSt hb70 own_s1_lastSt ?_
 refine Eval.aload_n rfl rfl ?_
 refine Eval.getfield rfl rfl own_g1_lastVal ?_
 refine Eval.iload_n rfl rfl ?_
 refine Eval.iload_n rfl rfl ?_
 obtain ⟨hb71, h⟩ := ite_some h
 refine Eval.iastore rfl rfl own_a1_lastVal hb71 own_s1_lastVal ?_
 refine Eval.aload_n rfl rfl ?_
 refine Eval.iload_n rfl rfl ?_
 refine Eval.callI (rest := []) (x := (j_resKind v2)) (H1 := (C1 s.f0 s.f1 s.f2 s.f3 s.f4 (wr s.f5 v1 v2) (wr s.f6 v1 v3) s.f7 s.f8 s.f9 s.f10 s.f11 s.f12 s.f13 s.f14 s.f15 s.f16 s.f17 s.f18 s.f19 s.f20 s.f21 s.f22 s.f23 s.f24 s.f25 s.f26 s.f27 s.f28 s.f29 s.f30 s.f31 s.f32 R)) rfl rfl (ev_j_resKind (C1 s.f0 s.f1 s.f2 s.f3 s.f4 (wr s.f5 v1 v2) (wr s.f6 v1 v3) s.f7 s.f8 s.f9 s.f10 s.f11 s.f12 s.f13 s.f14 s.f15 s.f16 s.f17 s.f18 s.f19 s.f20 s.f21 s.f22 s.f23 s.f24 s.f25 s.f26 s.f27 s.f28 s.f29 s.f30 s.f31 s.f32 R) 0 v2 rfl rfl) ?_
 refine Eval.istore (L' := [some (.ref 0), some (.int v1), some (.int v2), some (.int v3), some (.int (j_resKind v2))]) rfl rfl ?_
 refine Eval.aload_n rfl rfl ?_
 refine Eval.iload rfl rfl ?_
 refine Eval.iload_n rfl rfl ?_
 refine Eval.iload_n rfl rfl ?_
 obtain ⟨p74, hq75, h⟩ := bind_some h
 refine Eval.callN (rest := []) (H1 := (W1 p74 R)) rfl rfl (Eval.heap own_mk1 (ev_j_append R (Q.mk s.f0 s.f1 s.f2 s.f3 s.f4 (wr s.f5 v1 v2) (wr s.f6 v1 v3) s.f7 s.f8 s.f9 s.f10 s.f11 s.f12 s.f13 s.f14 s.f15 s.f16 s.f17 s.f18 s.f19 s.f20 s.f21 s.f22 s.f23 s.f24 s.f25 s.f26 s.f27 s.f28 s.f29 s.f30 s.f31 s.f32) (j_resKind v2) v1 v3 hq75 rfl)) ?_
 refine Eval.aload_n rfl rfl ?_
 refine Eval.getfield rfl rfl own_g1_st ?_
 refine Eval.iload_n rfl rfl ?_
 refine Eval.iconst (x := 0) rfl rfl ?_
 obtain ⟨hb77, h⟩ := ite_some h
 refine Eval.iastore rfl rfl own_a1_st hb77 own_s1_st ?_
 cases h
 subst hk
 exact Eval.retH own_mk1 rfl rfl
def j_deqStep (s : Q) (v1 v2 : Int32) : Option (Int32 × Q) := (if inb s.f3.length v1 = true then (if v2 = (21:Int32) then (if inb s.f3.length v1 = true then (if inb s.f2.length v1 = true then some ((0:Int32), (Q.mk s.f0 s.f1 (wr s.f2 v1 (22:Int32)) (wr s.f3 v1 s.f27) s.f4 s.f5 s.f6 s.f7 s.f8 s.f9 s.f10 s.f11 s.f12 s.f13 s.f14 s.f15 s.f16 s.f17 s.f18 s.f19 s.f20 s.f21 s.f22 s.f23 s.f24 s.f25 s.f26 s.f27 s.f28 s.f29 s.f30 s.f31 s.f32)) else none) else none) else (if v2 = (22:Int32) then (if inb s.f0.length ((rd s.f3 v1) &&& s.f26) = true then (j_deqStep_b116 s v1 (if ((rd s.f0 ((rd s.f3 v1) &&& s.f26)) - ((rd s.f3 v1) + (1:Int32))) = (0:Int32) then (23:Int32) else (if ((rd s.f0 ((rd s.f3 v1) &&& s.f26)) - ((rd s.f3 v1) + (1:Int32))) < (0:Int32) then (24:Int32) else (21:Int32)))) else none) else (if v2 = (23:Int32) then (if s.f27 = (rd s.f3 v1) then (if inb s.f2.length v1 = true then some ((0:Int32), (Q.mk s.f0 s.f1 (wr s.f2 v1 (25:Int32)) s.f3 s.f4 s.f5 s.f6 s.f7 s.f8 s.f9 s.f10 s.f11 s.f12 s.f13 s.f14 s.f15 s.f16 s.f17 s.f18 s.f19 s.f20 s.f21 s.f22 s.f23 s.f24 s.f25 s.f26 ((rd s.f3 v1) + (1:Int32)) s.f28 s.f29 s.f30 s.f31 s.f32)) else none) else (if inb s.f2.length v1 = true then some ((0:Int32), (Q.mk s.f0 s.f1 (wr s.f2 v1 (21:Int32)) s.f3 s.f4 s.f5 s.f6 s.f7 s.f8 s.f9 s.f10 s.f11 s.f12 s.f13 s.f14 s.f15 s.f16 s.f17 s.f18 s.f19 s.f20 s.f21 s.f22 s.f23 s.f24 s.f25 s.f26 s.f27 s.f28 s.f29 s.f30 s.f31 s.f32)) else none)) else (if v2 = (24:Int32) then (if s.f28 = (rd s.f3 v1) then ((j_finish s v1 (3:Int32) (0:Int32)).bind fun p78 => some ((1:Int32), p78)) else (if inb s.f2.length v1 = true then some ((0:Int32), (Q.mk s.f0 s.f1 (wr s.f2 v1 (21:Int32)) s.f3 s.f4 s.f5 s.f6 s.f7 s.f8 s.f9 s.f10 s.f11 s.f12 s.f13 s.f14 s.f15 s.f16 s.f17 s.f18 s.f19 s.f20 s.f21 s.f22 s.f23 s.f24 s.f25 s.f26 s.f27 s.f28 s.f29 s.f30 s.f31 s.f32)) else none)) else (if v2 = (25:Int32) then (if inb s.f1.length ((rd s.f3 v1) &&& s.f26) = true then (if inb s.f4.length v1 = true then (if inb s.f2.length v1 = true then some ((0:Int32), (Q.mk s.f0 s.f1 (wr s.f2 v1 (26:Int32)) s.f3 (wr s.f4 v1 (rd s.f1 ((rd s.f3 v1) &&& s.f26))) s.f5 s.f6 s.f7 s.f8 s.f9 s.f10 s.f11 s.f12 s.f13 s.f14 s.f15 s.f16 s.f17 s.f18 s.f19 s.f20 s.f21 s.f22 s.f23 s.f24 s.f25 s.f26 s.f27 s.f28 s.f29 s.f30 s.f31 s.f32)) else none) else none) else none) else (if v2 = (26:Int32) then (if inb s.f0.length ((rd s.f3 v1) &&& s.f26) = true then (if inb s.f4.length v1 = true then ((j_finish (Q.mk (wr s.f0 ((rd s.f3 v1) &&& s.f26) ((rd s.f3 v1) + s.f25)) s.f1 s.f2 s.f3 s.f4 s.f5 s.f6 s.f7 s.f8 s.f9 s.f10 s.f11 s.f12 s.f13 s.f14 s.f15 s.f16 s.f17 s.f18 s.f19 s.f20 s.f21 s.f22 s.f23 s.f24 s.f25 s.f26 s.f27 s.f28 s.f29 s.f30 s.f31 s.f32) v1 (1:Int32) (rd s.f4 v1)).bind fun p89 => some ((1:Int32), p89)) else none) else none) else some ((0:Int32), s))))))) else none)
set_option maxRecDepth 100000 in
theorem ev_j_deqStep (R : AHeap) (s : Q) (v1 v2 : Int32) {res : Int32 × Q} {out : Option Value × AHeap} (h : j_deqStep s v1 v2 = some res) (hk : out = (some (.int res.1), (W1 res.2 R))) : Eval own_P 13 0 [some (.ref 0), some (.int v1), some (.int v2), none, none, none] [] (W1 s R) out := by
 rw [j_deqStep] at h
 refine Eval.aload_n rfl rfl ?_
 refine Eval.getfield rfl rfl own_g1_locP ?_
 refine Eval.iload_n rfl rfl ?_
 obtain ⟨hb54, h⟩ := ite_some h
 refine Eval.iaload rfl own_a1_locP hb54 ?_
 refine Eval.istore_n (L' := [some (.ref 0), some (.int v1), some (.int v2), some (.int (rd s.f3 v1)), none, none]) rfl rfl ?_
 refine Eval.iload_n rfl rfl ?_
 refine Eval.aload_n rfl rfl ?_
 refine Eval.getfield rfl rfl own_g1_mask ?_
 refine Eval.iand rfl ?_
 refine Eval.istore (L' := [some (.ref 0), some (.int v1), some (.int v2), some (.int (rd s.f3 v1)), some (.int ((rd s.f3 v1) &&& s.f26)), none]) rfl rfl ?_
 refine Eval.iload_n rfl rfl ?_
 by_cases hc55 : v2 = (21:Int32)
 ·rw [if_pos hc55] at h
  refine Eval.tswIn (t := 56) rfl (by rw [hc55]; rfl) (by rw [hc55]; rfl) rfl ?_
  refine Eval.aload_n rfl rfl ?_
  refine Eval.getfield rfl rfl own_g1_locP ?_
  refine Eval.iload_n rfl rfl ?_
  refine Eval.aload_n rfl rfl ?_
  refine Eval.getfield rfl rfl own_g1_head ?_
  obtain ⟨hb56, h⟩ := ite_some h
  refine Eval.iastore rfl rfl own_a1_locP hb56 own_s1_locP ?_
  refine Eval.aload_n rfl rfl ?_
  refine Eval.getfield rfl rfl own_g1_st ?_
  refine Eval.iload_n rfl rfl ?_
  refine Eval.bipush (x := 22) rfl rfl ?_
  obtain ⟨hb57, h⟩ := ite_some h
  refine Eval.iastore rfl rfl own_a1_st hb57 own_s1_st ?_
  refine Eval.iconst (x := 0) rfl rfl ?_
  cases h
  subst hk
  exact Eval.retH own_mk1 rfl rfl
 rw [if_neg hc55] at h
 by_cases hc58 : v2 = (22:Int32)
 ·rw [if_pos hc58] at h
  refine Eval.tswIn (t := 76) rfl (by rw [hc58]; rfl) (by rw [hc58]; rfl) rfl ?_
  refine Eval.aload_n rfl rfl ?_
  refine Eval.getfield rfl rfl own_g1_seq ?_
  refine Eval.iload rfl rfl ?_
  obtain ⟨hb59, h⟩ := ite_some h
  refine Eval.iaload rfl own_a1_seq hb59 ?_
  refine Eval.iload_n rfl rfl ?_
  refine Eval.iconst (x := 1) rfl rfl ?_
  refine Eval.iadd rfl ?_
  refine Eval.isub rfl ?_
  refine Eval.istore (L' := [some (.ref 0), some (.int v1), some (.int v2), some (.int (rd s.f3 v1)), some (.int ((rd s.f3 v1) &&& s.f26)), some (.int ((rd s.f0 ((rd s.f3 v1) &&& s.f26)) - ((rd s.f3 v1) + (1:Int32))))]) rfl rfl ?_
  refine Eval.aload_n rfl rfl ?_
  refine Eval.getfield rfl rfl own_g1_st ?_
  refine Eval.iload_n rfl rfl ?_
  refine Eval.iload rfl rfl ?_
  suffices hJ62 : Eval own_P 13 116 [none, none, none, none, none, none] [.int (if ((rd s.f0 ((rd s.f3 v1) &&& s.f26)) - ((rd s.f3 v1) + (1:Int32))) = (0:Int32) then (23:Int32) else (if ((rd s.f0 ((rd s.f3 v1) &&& s.f26)) - ((rd s.f3 v1) + (1:Int32))) < (0:Int32) then (24:Int32) else (21:Int32))), .int v1, .ref 3] (W1 s R) out by
   by_cases hc60 : ((rd s.f0 ((rd s.f3 v1) &&& s.f26)) - ((rd s.f3 v1) + (1:Int32))) = (0:Int32)
   ·refine Eval.ifF rfl (teq hc60).2 ?_
    refine Eval.bipush (x := 23) rfl rfl ?_
    refine Eval.goto (t := 116) rfl rfl ?_
    refine Eval.weak (lw_mk 0 _) ?_
    exact (Eval.conv hJ62 rfl (by simp only [if_pos hc60]))
   ·refine Eval.ifT (t := 104) rfl rfl (feq hc60).2 ?_
    refine Eval.iload rfl rfl ?_
    by_cases hc61 : ((rd s.f0 ((rd s.f3 v1) &&& s.f26)) - ((rd s.f3 v1) + (1:Int32))) < (0:Int32)
    ·refine Eval.ifF rfl (tlt hc61).2.1 ?_
     refine Eval.bipush (x := 24) rfl rfl ?_
     refine Eval.goto (t := 116) rfl rfl ?_
     refine Eval.weak (lw_mk 0 _) ?_
     exact (Eval.conv hJ62 rfl (by simp only [if_neg hc60, if_pos hc61]))
    ·refine Eval.ifT (t := 114) rfl rfl (flt hc61).2.1 ?_
     refine Eval.bipush (x := 21) rfl rfl ?_
     refine Eval.weak (lw_mk 0 _) ?_
     exact (Eval.conv hJ62 rfl (by simp only [if_neg hc60, if_neg hc61]))
  exact ev_j_deqStep_b116 R s v1 (if ((rd s.f0 ((rd s.f3 v1) &&& s.f26)) - ((rd s.f3 v1) + (1:Int32))) = (0:Int32) then (23:Int32) else (if ((rd s.f0 ((rd s.f3 v1) &&& s.f26)) - ((rd s.f3 v1) + (1:Int32))) < (0:Int32) then (24:Int32) else (21:Int32))) h hk
 rw [if_neg hc58] at h
 by_cases hc64 : v2 = (23:Int32)
 ·rw [if_pos hc64] at h
  refine Eval.tswIn (t := 119) rfl (by rw [hc64]; rfl) (by rw [hc64]; rfl) rfl ?_
  refine Eval.aload_n rfl rfl ?_
  refine Eval.getfield rfl rfl own_g1_head ?_
  refine Eval.iload_n rfl rfl ?_
  by_cases hc65 : s.f27 = (rd s.f3 v1)
  ·rw [if_pos hc65] at h
   refine Eval.icmpF rfl (teq hc65).2 ?_
   refine Eval.aload_n rfl rfl ?_
   refine Eval.iload_n rfl rfl ?_
   refine Eval.iconst (x := 1) rfl rfl ?_
   refine Eval.iadd rfl ?_
   refine Eval.putfield rfl rfl own_p1_head ?_
   refine Eval.aload_n rfl rfl ?_
   refine Eval.getfield rfl rfl own_g1_st ?_
   refine Eval.iload_n rfl rfl ?_
   refine Eval.bipush (x := 25) rfl rfl ?_
   obtain ⟨hb66, h⟩ := ite_some h
   refine Eval.iastore rfl rfl own_a1_st hb66 own_s1_st ?_
   refine Eval.goto (t := 153) rfl rfl ?_
   refine Eval.iconst (x := 0) rfl rfl ?_
   cases h
   subst hk
   exact Eval.retH own_mk1 rfl rfl
  ·rw [if_neg hc65] at h
   refine Eval.icmpT (t := 145) rfl rfl (feq hc65).2 ?_
   refine Eval.aload_n rfl rfl ?_
   refine Eval.getfield rfl rfl own_g1_st ?_
   refine Eval.iload_n rfl rfl ?_
   refine Eval.bipush (x := 21) rfl rfl ?_
   obtain ⟨hb67, h⟩ := ite_some h
   refine Eval.iastore rfl rfl own_a1_st hb67 own_s1_st ?_
   refine Eval.iconst (x := 0) rfl rfl ?_
   cases h
   subst hk
   exact Eval.retH own_mk1 rfl rfl
 rw [if_neg hc64] at h
 by_cases hc68 : v2 = (24:Int32)
 ·rw [if_pos hc68] at h
  refine Eval.tswIn (t := 155) rfl (by rw [hc68]; rfl) (by rw [hc68]; rfl) rfl ?_
  refine Eval.aload_n rfl rfl ?_
  refine Eval.getfield rfl rfl own_g1_tail ?_
  refine Eval.iload_n rfl rfl ?_
  by_cases hc69 : s.f28 = (rd s.f3 v1)
  ·rw [if_pos hc69] at h
   refine Eval.icmpF rfl (teq hc69).2 ?_
   refine Eval.aload_n rfl rfl ?_
   refine Eval.iload_n rfl rfl ?_
   refine Eval.iconst (x := 3) rfl rfl ?_
   refine Eval.iconst (x := 0) rfl rfl ?_
   obtain ⟨p78, hq79, h⟩ := bind_some h
   refine Eval.callN (rest := []) (H1 := (W1 p78 R)) rfl rfl (ev_j_finish R s v1 (3:Int32) (0:Int32) hq79 rfl) ?_
   refine Eval.iconst (x := 1) rfl rfl ?_
   cases h
   subst hk
   exact Eval.ret rfl rfl
  ·rw [if_neg hc69] at h
   refine Eval.icmpT (t := 172) rfl rfl (feq hc69).2 ?_
   refine Eval.aload_n rfl rfl ?_
   refine Eval.getfield rfl rfl own_g1_st ?_
   refine Eval.iload_n rfl rfl ?_
   refine Eval.bipush (x := 21) rfl rfl ?_
   obtain ⟨hb81, h⟩ := ite_some h
   refine Eval.iastore rfl rfl own_a1_st hb81 own_s1_st ?_
   refine Eval.iconst (x := 0) rfl rfl ?_
   cases h
   subst hk
   exact Eval.retH own_mk1 rfl rfl
 rw [if_neg hc68] at h
 by_cases hc82 : v2 = (25:Int32)
 ·rw [if_pos hc82] at h
  refine Eval.tswIn (t := 182) rfl (by rw [hc82]; rfl) (by rw [hc82]; rfl) rfl ?_
  refine Eval.aload_n rfl rfl ?_
  refine Eval.getfield rfl rfl own_g1_locV ?_
  refine Eval.iload_n rfl rfl ?_
  refine Eval.aload_n rfl rfl ?_
  refine Eval.getfield rfl rfl own_g1_val ?_
  refine Eval.iload rfl rfl ?_
  obtain ⟨hb83, h⟩ := ite_some h
  refine Eval.iaload rfl own_a1_val hb83 ?_
  obtain ⟨hb84, h⟩ := ite_some h
  refine Eval.iastore rfl rfl own_a1_locV hb84 own_s1_locV ?_
  refine Eval.aload_n rfl rfl ?_
  refine Eval.getfield rfl rfl own_g1_st ?_
  refine Eval.iload_n rfl rfl ?_
  refine Eval.bipush (x := 26) rfl rfl ?_
  obtain ⟨hb85, h⟩ := ite_some h
  refine Eval.iastore rfl rfl own_a1_st hb85 own_s1_st ?_
  refine Eval.iconst (x := 0) rfl rfl ?_
  cases h
  subst hk
  exact Eval.retH own_mk1 rfl rfl
 rw [if_neg hc82] at h
 by_cases hc86 : v2 = (26:Int32)
 ·rw [if_pos hc86] at h
  refine Eval.tswIn (t := 205) rfl (by rw [hc86]; rfl) (by rw [hc86]; rfl) rfl ?_
  refine Eval.aload_n rfl rfl ?_
  refine Eval.getfield rfl rfl own_g1_seq ?_
  refine Eval.iload rfl rfl ?_
  refine Eval.iload_n rfl rfl ?_
  refine Eval.aload_n rfl rfl ?_
  refine Eval.getfield rfl rfl own_g1_cap ?_
  refine Eval.iadd rfl ?_
  obtain ⟨hb87, h⟩ := ite_some h
  refine Eval.iastore rfl rfl own_a1_seq hb87 own_s1_seq ?_
  refine Eval.aload_n rfl rfl ?_
  refine Eval.iload_n rfl rfl ?_
  refine Eval.iconst (x := 1) rfl rfl ?_
  refine Eval.aload_n rfl rfl ?_
  refine Eval.getfield rfl rfl own_g1_locV ?_
  refine Eval.iload_n rfl rfl ?_
  obtain ⟨hb88, h⟩ := ite_some h
  refine Eval.iaload rfl own_a1_locV hb88 ?_
  obtain ⟨p89, hq90, h⟩ := bind_some h
  refine Eval.callN (rest := []) (H1 := (W1 p89 R)) rfl rfl (Eval.heap own_mk1 (ev_j_finish R (Q.mk (wr s.f0 ((rd s.f3 v1) &&& s.f26) ((rd s.f3 v1) + s.f25)) s.f1 s.f2 s.f3 s.f4 s.f5 s.f6 s.f7 s.f8 s.f9 s.f10 s.f11 s.f12 s.f13 s.f14 s.f15 s.f16 s.f17 s.f18 s.f19 s.f20 s.f21 s.f22 s.f23 s.f24 s.f25 s.f26 s.f27 s.f28 s.f29 s.f30 s.f31 s.f32) v1 (1:Int32) (rd s.f4 v1) hq90 rfl)) ?_
  refine Eval.iconst (x := 1) rfl rfl ?_
  cases h
  subst hk
  exact Eval.ret rfl rfl
 rw [if_neg hc86] at h
 refine Eval.tswOut (t := 232) rfl (by have e0 : Int32.toInt v2 ≠ 21 := fun q => hc55 (Int32.toInt_inj.mp q); have e1 : Int32.toInt v2 ≠ 22 := fun q => hc58 (Int32.toInt_inj.mp q); have e2 : Int32.toInt v2 ≠ 23 := fun q => hc64 (Int32.toInt_inj.mp q); have e3 : Int32.toInt v2 ≠ 24 := fun q => hc68 (Int32.toInt_inj.mp q); have e4 : Int32.toInt v2 ≠ 25 := fun q => hc82 (Int32.toInt_inj.mp q); have e5 : Int32.toInt v2 ≠ 26 := fun q => hc86 (Int32.toInt_inj.mp q); simp only [Bool.or_eq_true, decide_eq_true_eq]; omega) rfl ?_
 refine Eval.iconst (x := 0) rfl rfl ?_
 cases h
 subst hk
 exact Eval.ret rfl rfl
def j_doStep_b26 (s : Q) (v1 v2 : Int32) : Option (Int32 × Q) := (if v2 < (21:Int32) then some ((0:Int32), s) else (if (26:Int32) < v2 then some ((0:Int32), s) else ((j_deqStep s v1 v2).bind fun p92 => some ((p92.1 &&& 1), p92.2))))
set_option maxRecDepth 100000 in
theorem ev_j_doStep_b26 (R : AHeap) (s : Q) (v1 v2 : Int32) {res : Int32 × Q} {out : Option Value × AHeap} (h : j_doStep_b26 s v1 v2 = some res) (hk : out = (some (.int res.1), (W1 res.2 R))) : Eval own_P 9 26 [some (.ref 0), some (.int v1), some (.int v2)] [] (W1 s R) out := by
 rw [j_doStep_b26] at h
 refine Eval.iload_n rfl rfl ?_
 refine Eval.bipush (x := 21) rfl rfl ?_
 by_cases hc52 : v2 < (21:Int32)
 ·rw [if_pos hc52] at h
  refine Eval.icmpT (t := 45) rfl rfl (tlt hc52).1 ?_
  refine Eval.iconst (x := 0) rfl rfl ?_
  cases h
  subst hk
  exact Eval.ret rfl rfl
 ·rw [if_neg hc52] at h
  refine Eval.icmpF rfl (flt hc52).1 ?_
  refine Eval.iload_n rfl rfl ?_
  refine Eval.bipush (x := 26) rfl rfl ?_
  by_cases hc53 : (26:Int32) < v2
  ·rw [if_pos hc53] at h
   refine Eval.icmpT (t := 45) rfl rfl (tlt hc53).2.2.1 ?_
   refine Eval.iconst (x := 0) rfl rfl ?_
   cases h
   subst hk
   exact Eval.ret rfl rfl
  ·rw [if_neg hc53] at h
   refine Eval.icmpF rfl (flt hc53).2.2.1 ?_
   refine Eval.aload_n rfl rfl ?_
   refine Eval.iload_n rfl rfl ?_
   refine Eval.iload_n rfl rfl ?_
   obtain ⟨p92, hq93, h⟩ := bind_some h
   refine Eval.callI (rest := []) (x := p92.1) (H1 := (W1 p92.2 R)) rfl rfl (ev_j_deqStep R s v1 v2 hq93 rfl) ?_
   cases h
   subst hk
   exact Eval.ret rfl rfl
def j_enqStep_b114 (s : Q) (w1 w2 : Int32) : Option (Int32 × Q) := (if inb s.f2.length w1 = true then some ((0:Int32), (Q.mk s.f0 s.f1 (wr s.f2 w1 w2) s.f3 s.f4 s.f5 s.f6 s.f7 s.f8 s.f9 s.f10 s.f11 s.f12 s.f13 s.f14 s.f15 s.f16 s.f17 s.f18 s.f19 s.f20 s.f21 s.f22 s.f23 s.f24 s.f25 s.f26 s.f27 s.f28 s.f29 s.f30 s.f31 s.f32)) else none)
set_option maxRecDepth 100000 in
theorem ev_j_enqStep_b114 (R : AHeap) (s : Q) (w1 w2 : Int32) {res : Int32 × Q} {out : Option Value × AHeap} (h : j_enqStep_b114 s w1 w2 = some res) (hk : out = (some (.int res.1), (W1 res.2 R))) : Eval own_P 10 114 [none, none, none, none, none, none] [.int w2, .int w1, .ref 3] (W1 s R) out := by
 rw [j_enqStep_b114] at h
 obtain ⟨hb105, h⟩ := ite_some h
 refine Eval.iastore rfl rfl own_a1_st hb105 own_s1_st ?_
 refine Eval.iconst (x := 0) rfl rfl ?_
 cases h
 subst hk
 exact Eval.retH own_mk1 rfl rfl
def j_enqStep (s : Q) (v1 v2 : Int32) : Option (Int32 × Q) := (if inb s.f3.length v1 = true then (if v2 = (11:Int32) then (if inb s.f3.length v1 = true then (if inb s.f2.length v1 = true then some ((0:Int32), (Q.mk s.f0 s.f1 (wr s.f2 v1 (12:Int32)) (wr s.f3 v1 s.f28) s.f4 s.f5 s.f6 s.f7 s.f8 s.f9 s.f10 s.f11 s.f12 s.f13 s.f14 s.f15 s.f16 s.f17 s.f18 s.f19 s.f20 s.f21 s.f22 s.f23 s.f24 s.f25 s.f26 s.f27 s.f28 s.f29 s.f30 s.f31 s.f32)) else none) else none) else (if v2 = (12:Int32) then (if inb s.f0.length ((rd s.f3 v1) &&& s.f26) = true then (j_enqStep_b114 s v1 (if ((rd s.f0 ((rd s.f3 v1) &&& s.f26)) - (rd s.f3 v1)) = (0:Int32) then (13:Int32) else (if ((rd s.f0 ((rd s.f3 v1) &&& s.f26)) - (rd s.f3 v1)) < (0:Int32) then (14:Int32) else (11:Int32)))) else none) else (if v2 = (13:Int32) then (if s.f28 = (rd s.f3 v1) then (if inb s.f2.length v1 = true then some ((0:Int32), (Q.mk s.f0 s.f1 (wr s.f2 v1 (15:Int32)) s.f3 s.f4 s.f5 s.f6 s.f7 s.f8 s.f9 s.f10 s.f11 s.f12 s.f13 s.f14 s.f15 s.f16 s.f17 s.f18 s.f19 s.f20 s.f21 s.f22 s.f23 s.f24 s.f25 s.f26 s.f27 ((rd s.f3 v1) + (1:Int32)) s.f29 s.f30 s.f31 s.f32)) else none) else (if inb s.f2.length v1 = true then some ((0:Int32), (Q.mk s.f0 s.f1 (wr s.f2 v1 (11:Int32)) s.f3 s.f4 s.f5 s.f6 s.f7 s.f8 s.f9 s.f10 s.f11 s.f12 s.f13 s.f14 s.f15 s.f16 s.f17 s.f18 s.f19 s.f20 s.f21 s.f22 s.f23 s.f24 s.f25 s.f26 s.f27 s.f28 s.f29 s.f30 s.f31 s.f32)) else none)) else (if v2 = (14:Int32) then (if ((rd s.f3 v1) - s.f27) = s.f25 then ((j_finish s v1 (2:Int32) (0:Int32)).bind fun p112 => some ((1:Int32), p112)) else (if inb s.f2.length v1 = true then some ((0:Int32), (Q.mk s.f0 s.f1 (wr s.f2 v1 (11:Int32)) s.f3 s.f4 s.f5 s.f6 s.f7 s.f8 s.f9 s.f10 s.f11 s.f12 s.f13 s.f14 s.f15 s.f16 s.f17 s.f18 s.f19 s.f20 s.f21 s.f22 s.f23 s.f24 s.f25 s.f26 s.f27 s.f28 s.f29 s.f30 s.f31 s.f32)) else none)) else (if v2 = (15:Int32) then (if inb s.f4.length v1 = true then (if inb s.f1.length ((rd s.f3 v1) &&& s.f26) = true then (if inb s.f2.length v1 = true then some ((0:Int32), (Q.mk s.f0 (wr s.f1 ((rd s.f3 v1) &&& s.f26) (rd s.f4 v1)) (wr s.f2 v1 (16:Int32)) s.f3 s.f4 s.f5 s.f6 s.f7 s.f8 s.f9 s.f10 s.f11 s.f12 s.f13 s.f14 s.f15 s.f16 s.f17 s.f18 s.f19 s.f20 s.f21 s.f22 s.f23 s.f24 s.f25 s.f26 s.f27 s.f28 s.f29 s.f30 s.f31 s.f32)) else none) else none) else none) else (if v2 = (16:Int32) then (if inb s.f0.length ((rd s.f3 v1) &&& s.f26) = true then ((j_finish (Q.mk (wr s.f0 ((rd s.f3 v1) &&& s.f26) ((rd s.f3 v1) + (1:Int32))) s.f1 s.f2 s.f3 s.f4 s.f5 s.f6 s.f7 s.f8 s.f9 s.f10 s.f11 s.f12 s.f13 s.f14 s.f15 s.f16 s.f17 s.f18 s.f19 s.f20 s.f21 s.f22 s.f23 s.f24 s.f25 s.f26 s.f27 s.f28 s.f29 s.f30 s.f31 s.f32) v1 (1:Int32) (0:Int32)).bind fun p122 => some ((1:Int32), p122)) else none) else some ((0:Int32), s))))))) else none)
set_option maxRecDepth 100000 in
theorem ev_j_enqStep (R : AHeap) (s : Q) (v1 v2 : Int32) {res : Int32 × Q} {out : Option Value × AHeap} (h : j_enqStep s v1 v2 = some res) (hk : out = (some (.int res.1), (W1 res.2 R))) : Eval own_P 10 0 [some (.ref 0), some (.int v1), some (.int v2), none, none, none] [] (W1 s R) out := by
 rw [j_enqStep] at h
 refine Eval.aload_n rfl rfl ?_
 refine Eval.getfield rfl rfl own_g1_locP ?_
 refine Eval.iload_n rfl rfl ?_
 obtain ⟨hb96, h⟩ := ite_some h
 refine Eval.iaload rfl own_a1_locP hb96 ?_
 refine Eval.istore_n (L' := [some (.ref 0), some (.int v1), some (.int v2), some (.int (rd s.f3 v1)), none, none]) rfl rfl ?_
 refine Eval.iload_n rfl rfl ?_
 refine Eval.aload_n rfl rfl ?_
 refine Eval.getfield rfl rfl own_g1_mask ?_
 refine Eval.iand rfl ?_
 refine Eval.istore (L' := [some (.ref 0), some (.int v1), some (.int v2), some (.int (rd s.f3 v1)), some (.int ((rd s.f3 v1) &&& s.f26)), none]) rfl rfl ?_
 refine Eval.iload_n rfl rfl ?_
 by_cases hc97 : v2 = (11:Int32)
 ·rw [if_pos hc97] at h
  refine Eval.tswIn (t := 56) rfl (by rw [hc97]; rfl) (by rw [hc97]; rfl) rfl ?_
  refine Eval.aload_n rfl rfl ?_
  refine Eval.getfield rfl rfl own_g1_locP ?_
  refine Eval.iload_n rfl rfl ?_
  refine Eval.aload_n rfl rfl ?_
  refine Eval.getfield rfl rfl own_g1_tail ?_
  obtain ⟨hb98, h⟩ := ite_some h
  refine Eval.iastore rfl rfl own_a1_locP hb98 own_s1_locP ?_
  refine Eval.aload_n rfl rfl ?_
  refine Eval.getfield rfl rfl own_g1_st ?_
  refine Eval.iload_n rfl rfl ?_
  refine Eval.bipush (x := 12) rfl rfl ?_
  obtain ⟨hb99, h⟩ := ite_some h
  refine Eval.iastore rfl rfl own_a1_st hb99 own_s1_st ?_
  refine Eval.iconst (x := 0) rfl rfl ?_
  cases h
  subst hk
  exact Eval.retH own_mk1 rfl rfl
 rw [if_neg hc97] at h
 by_cases hc100 : v2 = (12:Int32)
 ·rw [if_pos hc100] at h
  refine Eval.tswIn (t := 76) rfl (by rw [hc100]; rfl) (by rw [hc100]; rfl) rfl ?_
  refine Eval.aload_n rfl rfl ?_
  refine Eval.getfield rfl rfl own_g1_seq ?_
  refine Eval.iload rfl rfl ?_
  obtain ⟨hb101, h⟩ := ite_some h
  refine Eval.iaload rfl own_a1_seq hb101 ?_
  refine Eval.iload_n rfl rfl ?_
  refine Eval.isub rfl ?_
  refine Eval.istore (L' := [some (.ref 0), some (.int v1), some (.int v2), some (.int (rd s.f3 v1)), some (.int ((rd s.f3 v1) &&& s.f26)), some (.int ((rd s.f0 ((rd s.f3 v1) &&& s.f26)) - (rd s.f3 v1)))]) rfl rfl ?_
  refine Eval.aload_n rfl rfl ?_
  refine Eval.getfield rfl rfl own_g1_st ?_
  refine Eval.iload_n rfl rfl ?_
  refine Eval.iload rfl rfl ?_
  suffices hJ104 : Eval own_P 10 114 [none, none, none, none, none, none] [.int (if ((rd s.f0 ((rd s.f3 v1) &&& s.f26)) - (rd s.f3 v1)) = (0:Int32) then (13:Int32) else (if ((rd s.f0 ((rd s.f3 v1) &&& s.f26)) - (rd s.f3 v1)) < (0:Int32) then (14:Int32) else (11:Int32))), .int v1, .ref 3] (W1 s R) out by
   by_cases hc102 : ((rd s.f0 ((rd s.f3 v1) &&& s.f26)) - (rd s.f3 v1)) = (0:Int32)
   ·refine Eval.ifF rfl (teq hc102).2 ?_
    refine Eval.bipush (x := 13) rfl rfl ?_
    refine Eval.goto (t := 114) rfl rfl ?_
    refine Eval.weak (lw_mk 0 _) ?_
    exact (Eval.conv hJ104 rfl (by simp only [if_pos hc102]))
   ·refine Eval.ifT (t := 102) rfl rfl (feq hc102).2 ?_
    refine Eval.iload rfl rfl ?_
    by_cases hc103 : ((rd s.f0 ((rd s.f3 v1) &&& s.f26)) - (rd s.f3 v1)) < (0:Int32)
    ·refine Eval.ifF rfl (tlt hc103).2.1 ?_
     refine Eval.bipush (x := 14) rfl rfl ?_
     refine Eval.goto (t := 114) rfl rfl ?_
     refine Eval.weak (lw_mk 0 _) ?_
     exact (Eval.conv hJ104 rfl (by simp only [if_neg hc102, if_pos hc103]))
    ·refine Eval.ifT (t := 112) rfl rfl (flt hc103).2.1 ?_
     refine Eval.bipush (x := 11) rfl rfl ?_
     refine Eval.weak (lw_mk 0 _) ?_
     exact (Eval.conv hJ104 rfl (by simp only [if_neg hc102, if_neg hc103]))
  exact ev_j_enqStep_b114 R s v1 (if ((rd s.f0 ((rd s.f3 v1) &&& s.f26)) - (rd s.f3 v1)) = (0:Int32) then (13:Int32) else (if ((rd s.f0 ((rd s.f3 v1) &&& s.f26)) - (rd s.f3 v1)) < (0:Int32) then (14:Int32) else (11:Int32))) h hk
 rw [if_neg hc100] at h
 by_cases hc106 : v2 = (13:Int32)
 ·rw [if_pos hc106] at h
  refine Eval.tswIn (t := 117) rfl (by rw [hc106]; rfl) (by rw [hc106]; rfl) rfl ?_
  refine Eval.aload_n rfl rfl ?_
  refine Eval.getfield rfl rfl own_g1_tail ?_
  refine Eval.iload_n rfl rfl ?_
  by_cases hc107 : s.f28 = (rd s.f3 v1)
  ·rw [if_pos hc107] at h
   refine Eval.icmpF rfl (teq hc107).2 ?_
   refine Eval.aload_n rfl rfl ?_
   refine Eval.iload_n rfl rfl ?_
   refine Eval.iconst (x := 1) rfl rfl ?_
   refine Eval.iadd rfl ?_
   refine Eval.putfield rfl rfl own_p1_tail ?_
   refine Eval.aload_n rfl rfl ?_
   refine Eval.getfield rfl rfl own_g1_st ?_
   refine Eval.iload_n rfl rfl ?_
   refine Eval.bipush (x := 15) rfl rfl ?_
   obtain ⟨hb108, h⟩ := ite_some h
   refine Eval.iastore rfl rfl own_a1_st hb108 own_s1_st ?_
   refine Eval.goto (t := 151) rfl rfl ?_
   refine Eval.iconst (x := 0) rfl rfl ?_
   cases h
   subst hk
   exact Eval.retH own_mk1 rfl rfl
  ·rw [if_neg hc107] at h
   refine Eval.icmpT (t := 143) rfl rfl (feq hc107).2 ?_
   refine Eval.aload_n rfl rfl ?_
   refine Eval.getfield rfl rfl own_g1_st ?_
   refine Eval.iload_n rfl rfl ?_
   refine Eval.bipush (x := 11) rfl rfl ?_
   obtain ⟨hb109, h⟩ := ite_some h
   refine Eval.iastore rfl rfl own_a1_st hb109 own_s1_st ?_
   refine Eval.iconst (x := 0) rfl rfl ?_
   cases h
   subst hk
   exact Eval.retH own_mk1 rfl rfl
 rw [if_neg hc106] at h
 by_cases hc110 : v2 = (14:Int32)
 ·rw [if_pos hc110] at h
  refine Eval.tswIn (t := 153) rfl (by rw [hc110]; rfl) (by rw [hc110]; rfl) rfl ?_
  refine Eval.iload_n rfl rfl ?_
  refine Eval.aload_n rfl rfl ?_
  refine Eval.getfield rfl rfl own_g1_head ?_
  refine Eval.isub rfl ?_
  refine Eval.aload_n rfl rfl ?_
  refine Eval.getfield rfl rfl own_g1_cap ?_
  by_cases hc111 : ((rd s.f3 v1) - s.f27) = s.f25
  ·rw [if_pos hc111] at h
   refine Eval.icmpF rfl (teq hc111).2 ?_
   refine Eval.aload_n rfl rfl ?_
   refine Eval.iload_n rfl rfl ?_
   refine Eval.iconst (x := 2) rfl rfl ?_
   refine Eval.iconst (x := 0) rfl rfl ?_
   obtain ⟨p112, hq113, h⟩ := bind_some h
   refine Eval.callN (rest := []) (H1 := (W1 p112 R)) rfl rfl (ev_j_finish R s v1 (2:Int32) (0:Int32) hq113 rfl) ?_
   refine Eval.iconst (x := 1) rfl rfl ?_
   cases h
   subst hk
   exact Eval.ret rfl rfl
  ·rw [if_neg hc111] at h
   refine Eval.icmpT (t := 175) rfl rfl (feq hc111).2 ?_
   refine Eval.aload_n rfl rfl ?_
   refine Eval.getfield rfl rfl own_g1_st ?_
   refine Eval.iload_n rfl rfl ?_
   refine Eval.bipush (x := 11) rfl rfl ?_
   obtain ⟨hb115, h⟩ := ite_some h
   refine Eval.iastore rfl rfl own_a1_st hb115 own_s1_st ?_
   refine Eval.iconst (x := 0) rfl rfl ?_
   cases h
   subst hk
   exact Eval.retH own_mk1 rfl rfl
 rw [if_neg hc110] at h
 by_cases hc116 : v2 = (15:Int32)
 ·rw [if_pos hc116] at h
  refine Eval.tswIn (t := 185) rfl (by rw [hc116]; rfl) (by rw [hc116]; rfl) rfl ?_
  refine Eval.aload_n rfl rfl ?_
  refine Eval.getfield rfl rfl own_g1_val ?_
  refine Eval.iload rfl rfl ?_
  refine Eval.aload_n rfl rfl ?_
  refine Eval.getfield rfl rfl own_g1_locV ?_
  refine Eval.iload_n rfl rfl ?_
  obtain ⟨hb117, h⟩ := ite_some h
  refine Eval.iaload rfl own_a1_locV hb117 ?_
  obtain ⟨hb118, h⟩ := ite_some h
  refine Eval.iastore rfl rfl own_a1_val hb118 own_s1_val ?_
  refine Eval.aload_n rfl rfl ?_
  refine Eval.getfield rfl rfl own_g1_st ?_
  refine Eval.iload_n rfl rfl ?_
  refine Eval.bipush (x := 16) rfl rfl ?_
  obtain ⟨hb119, h⟩ := ite_some h
  refine Eval.iastore rfl rfl own_a1_st hb119 own_s1_st ?_
  refine Eval.iconst (x := 0) rfl rfl ?_
  cases h
  subst hk
  exact Eval.retH own_mk1 rfl rfl
 rw [if_neg hc116] at h
 by_cases hc120 : v2 = (16:Int32)
 ·rw [if_pos hc120] at h
  refine Eval.tswIn (t := 208) rfl (by rw [hc120]; rfl) (by rw [hc120]; rfl) rfl ?_
  refine Eval.aload_n rfl rfl ?_
  refine Eval.getfield rfl rfl own_g1_seq ?_
  refine Eval.iload rfl rfl ?_
  refine Eval.iload_n rfl rfl ?_
  refine Eval.iconst (x := 1) rfl rfl ?_
  refine Eval.iadd rfl ?_
  obtain ⟨hb121, h⟩ := ite_some h
  refine Eval.iastore rfl rfl own_a1_seq hb121 own_s1_seq ?_
  refine Eval.aload_n rfl rfl ?_
  refine Eval.iload_n rfl rfl ?_
  refine Eval.iconst (x := 1) rfl rfl ?_
  refine Eval.iconst (x := 0) rfl rfl ?_
  obtain ⟨p122, hq123, h⟩ := bind_some h
  refine Eval.callN (rest := []) (H1 := (W1 p122 R)) rfl rfl (Eval.heap own_mk1 (ev_j_finish R (Q.mk (wr s.f0 ((rd s.f3 v1) &&& s.f26) ((rd s.f3 v1) + (1:Int32))) s.f1 s.f2 s.f3 s.f4 s.f5 s.f6 s.f7 s.f8 s.f9 s.f10 s.f11 s.f12 s.f13 s.f14 s.f15 s.f16 s.f17 s.f18 s.f19 s.f20 s.f21 s.f22 s.f23 s.f24 s.f25 s.f26 s.f27 s.f28 s.f29 s.f30 s.f31 s.f32) v1 (1:Int32) (0:Int32) hq123 rfl)) ?_
  refine Eval.iconst (x := 1) rfl rfl ?_
  cases h
  subst hk
  exact Eval.ret rfl rfl
 rw [if_neg hc120] at h
 refine Eval.tswOut (t := 227) rfl (by have e0 : Int32.toInt v2 ≠ 11 := fun q => hc97 (Int32.toInt_inj.mp q); have e1 : Int32.toInt v2 ≠ 12 := fun q => hc100 (Int32.toInt_inj.mp q); have e2 : Int32.toInt v2 ≠ 13 := fun q => hc106 (Int32.toInt_inj.mp q); have e3 : Int32.toInt v2 ≠ 14 := fun q => hc110 (Int32.toInt_inj.mp q); have e4 : Int32.toInt v2 ≠ 15 := fun q => hc116 (Int32.toInt_inj.mp q); have e5 : Int32.toInt v2 ≠ 16 := fun q => hc120 (Int32.toInt_inj.mp q); simp only [Bool.or_eq_true, decide_eq_true_eq]; omega) rfl ?_
 refine Eval.iconst (x := 0) rfl rfl ?_
 cases h
 subst hk
 exact Eval.ret rfl rfl
def j_doStep (s : Q) (v1 : Int32) : Option (Int32 × Q) := (if inb s.f2.length v1 = true then (if (rd s.f2 v1) < (11:Int32) then (j_doStep_b26 s v1 (rd s.f2 v1)) else (if (16:Int32) < (rd s.f2 v1) then (j_doStep_b26 s v1 (rd s.f2 v1)) else ((j_enqStep s v1 (rd s.f2 v1)).bind fun p125 => some ((p125.1 &&& 1), p125.2)))) else none)
set_option maxRecDepth 100000 in
theorem ev_j_doStep (R : AHeap) (s : Q) (v1 : Int32) {res : Int32 × Q} {out : Option Value × AHeap} (h : j_doStep s v1 = some res) (hk : out = (some (.int res.1), (W1 res.2 R))) : Eval own_P 9 0 [some (.ref 0), some (.int v1), none] [] (W1 s R) out := by
 rw [j_doStep] at h
 refine Eval.aload_n rfl rfl ?_
 refine Eval.getfield rfl rfl own_g1_st ?_
 refine Eval.iload_n rfl rfl ?_
 obtain ⟨hb50, h⟩ := ite_some h
 refine Eval.iaload rfl own_a1_st hb50 ?_
 refine Eval.istore_n (L' := [some (.ref 0), some (.int v1), some (.int (rd s.f2 v1))]) rfl rfl ?_
 refine Eval.iload_n rfl rfl ?_
 refine Eval.bipush (x := 11) rfl rfl ?_
 by_cases hc51 : (rd s.f2 v1) < (11:Int32)
 ·rw [if_pos hc51] at h
  refine Eval.icmpT (t := 26) rfl rfl (tlt hc51).1 ?_
  exact ev_j_doStep_b26 R s v1 (rd s.f2 v1) h hk
 ·rw [if_neg hc51] at h
  refine Eval.icmpF rfl (flt hc51).1 ?_
  refine Eval.iload_n rfl rfl ?_
  refine Eval.bipush (x := 16) rfl rfl ?_
  by_cases hc95 : (16:Int32) < (rd s.f2 v1)
  ·rw [if_pos hc95] at h
   refine Eval.icmpT (t := 26) rfl rfl (tlt hc95).2.2.1 ?_
   exact ev_j_doStep_b26 R s v1 (rd s.f2 v1) h hk
  ·rw [if_neg hc95] at h
   refine Eval.icmpF rfl (flt hc95).2.2.1 ?_
   refine Eval.aload_n rfl rfl ?_
   refine Eval.iload_n rfl rfl ?_
   refine Eval.iload_n rfl rfl ?_
   obtain ⟨p125, hq126, h⟩ := bind_some h
   refine Eval.callI (rest := []) (x := p125.1) (H1 := (W1 p125.2 R)) rfl rfl (ev_j_enqStep R s v1 (rd s.f2 v1) hq126 rfl) ?_
   cases h
   subst hk
   exact Eval.ret rfl rfl
def j_step (s : Q) (v1 : Int32) : Option (Int32 × Q) := (if (j_valid s v1) = (0:Int32) then some ((-1:Int32), s) else (if inb s.f2.length v1 = true then (if (rd s.f2 v1) = (0:Int32) then some ((0:Int32), s) else (if inb s.f2.length v1 = true then (if (rd s.f2 v1) = (1:Int32) then some ((0:Int32), s) else ((j_doStep s v1).bind fun p128 => (if p128.1 = (0:Int32) then some ((1:Int32), p128.2) else some ((2:Int32), p128.2)))) else none)) else none))
set_option maxRecDepth 100000 in
theorem ev_j_step (R : AHeap) (s : Q) (v1 : Int32) {res : Int32 × Q} {out : Option Value × AHeap} (h : j_step s v1 = some res) (hk : out = (some (.int res.1), (W1 res.2 R))) : Eval own_P 8 0 [some (.ref 0), some (.int v1)] [] (W1 s R) out := by
 rw [j_step] at h
 refine Eval.aload_n rfl rfl ?_
 refine Eval.iload_n rfl rfl ?_
 refine Eval.callI (rest := []) (x := (j_valid s v1)) (H1 := (W1 s R)) rfl rfl (ev_j_valid R s v1 rfl rfl) ?_
 by_cases hc45 : (j_valid s v1) = (0:Int32)
 ·rw [if_pos hc45] at h
  refine Eval.ifF rfl (teq hc45).2 ?_
  refine Eval.iconst (x := -1) rfl rfl ?_
  cases h
  subst hk
  exact Eval.ret rfl rfl
 ·rw [if_neg hc45] at h
  refine Eval.ifT (t := 10) rfl rfl (feq hc45).2 ?_
  refine Eval.aload_n rfl rfl ?_
  refine Eval.getfield rfl rfl own_g1_st ?_
  refine Eval.iload_n rfl rfl ?_
  obtain ⟨hb46, h⟩ := ite_some h
  refine Eval.iaload rfl own_a1_st hb46 ?_
  by_cases hc47 : (rd s.f2 v1) = (0:Int32)
  ·rw [if_pos hc47] at h
   refine Eval.ifT (t := 29) rfl rfl (teq hc47).1 ?_
   refine Eval.iconst (x := 0) rfl rfl ?_
   cases h
   subst hk
   exact Eval.ret rfl rfl
  ·rw [if_neg hc47] at h
   refine Eval.ifF rfl (feq hc47).1 ?_
   refine Eval.aload_n rfl rfl ?_
   refine Eval.getfield rfl rfl own_g1_st ?_
   refine Eval.iload_n rfl rfl ?_
   obtain ⟨hb48, h⟩ := ite_some h
   refine Eval.iaload rfl own_a1_st hb48 ?_
   refine Eval.iconst (x := 1) rfl rfl ?_
   by_cases hc49 : (rd s.f2 v1) = (1:Int32)
   ·rw [if_pos hc49] at h
    refine Eval.icmpF rfl (teq hc49).2 ?_
    refine Eval.iconst (x := 0) rfl rfl ?_
    cases h
    subst hk
    exact Eval.ret rfl rfl
   ·rw [if_neg hc49] at h
    refine Eval.icmpT (t := 31) rfl rfl (feq hc49).2 ?_
    refine Eval.aload_n rfl rfl ?_
    refine Eval.iload_n rfl rfl ?_
    obtain ⟨p128, hq129, h⟩ := bind_some h
    refine Eval.callI (rest := []) (x := p128.1) (H1 := (W1 p128.2 R)) rfl rfl (ev_j_doStep R s v1 hq129 rfl) ?_
    by_cases hc131 : p128.1 = (0:Int32)
    ·rw [if_pos hc131] at h
     refine Eval.ifT (t := 41) rfl rfl (teq hc131).1 ?_
     refine Eval.iconst (x := 1) rfl rfl ?_
     cases h
     subst hk
     exact Eval.ret rfl rfl
    ·rw [if_neg hc131] at h
     refine Eval.ifF rfl (feq hc131).1 ?_
     refine Eval.iconst (x := 2) rfl rfl ?_
     cases h
     subst hk
     exact Eval.ret rfl rfl
def j_state (s : Q) (v1 : Int32) : Option (Int32) := (if (j_valid s v1) = (0:Int32) then some ((-1:Int32)) else (if inb s.f2.length v1 = true then some ((rd s.f2 v1)) else none))
set_option maxRecDepth 100000 in
theorem ev_j_state (R : AHeap) (s : Q) (v1 : Int32) {res : Int32} {out : Option Value × AHeap} (h : j_state s v1 = some res) (hk : out = (some (.int res), (W1 s R))) : Eval own_P 11 0 [some (.ref 0), some (.int v1)] [] (W1 s R) out := by
 rw [j_state] at h
 refine Eval.aload_n rfl rfl ?_
 refine Eval.iload_n rfl rfl ?_
 refine Eval.callI (rest := []) (x := (j_valid s v1)) (H1 := (W1 s R)) rfl rfl (ev_j_valid R s v1 rfl rfl) ?_
 by_cases hc147 : (j_valid s v1) = (0:Int32)
 ·rw [if_pos hc147] at h
  refine Eval.ifT (t := 17) rfl rfl (teq hc147).1 ?_
  refine Eval.iconst (x := -1) rfl rfl ?_
  cases h
  subst hk
  exact Eval.ret rfl rfl
 ·rw [if_neg hc147] at h
  refine Eval.ifF rfl (feq hc147).1 ?_
  refine Eval.aload_n rfl rfl ?_
  refine Eval.getfield rfl rfl own_g1_st ?_
  refine Eval.iload_n rfl rfl ?_
  obtain ⟨hb148, h⟩ := ite_some h
  refine Eval.iaload rfl own_a1_st hb148 ?_
  refine Eval.goto (t := 18) rfl rfl ?_
  cases h
  subst hk
  exact Eval.ret rfl rfl
def j_startDequeue (s : Q) (v1 : Int32) : Option (Int32 × Q) := (if (j_valid s v1) = (0:Int32) then some ((0:Int32), s) else (if inb s.f2.length v1 = true then (if (rd s.f2 v1) = (0:Int32) then ((j_hasRoom s).bind fun p157 => (if p157 = (0:Int32) then some ((0:Int32), s) else ((j_append s (2:Int32) v1 (0:Int32)).bind fun p160 => (if inb p160.f4.length v1 = true then (if inb p160.f2.length v1 = true then some ((1:Int32), (Q.mk p160.f0 p160.f1 (wr p160.f2 v1 (21:Int32)) p160.f3 (wr p160.f4 v1 (0:Int32)) p160.f5 p160.f6 p160.f7 p160.f8 p160.f9 p160.f10 p160.f11 p160.f12 p160.f13 p160.f14 p160.f15 p160.f16 p160.f17 p160.f18 p160.f19 p160.f20 p160.f21 p160.f22 p160.f23 p160.f24 p160.f25 p160.f26 p160.f27 p160.f28 p160.f29 p160.f30 p160.f31 p160.f32)) else none) else none)))) else some ((0:Int32), s)) else none))
set_option maxRecDepth 100000 in
theorem ev_j_startDequeue (R : AHeap) (s : Q) (v1 : Int32) {res : Int32 × Q} {out : Option Value × AHeap} (h : j_startDequeue s v1 = some res) (hk : out = (some (.int res.1), (W1 res.2 R))) : Eval own_P 12 0 [some (.ref 0), some (.int v1)] [] (W1 s R) out := by
 rw [j_startDequeue] at h
 refine Eval.aload_n rfl rfl ?_
 refine Eval.iload_n rfl rfl ?_
 refine Eval.callI (rest := []) (x := (j_valid s v1)) (H1 := (W1 s R)) rfl rfl (ev_j_valid R s v1 rfl rfl) ?_
 by_cases hc154 : (j_valid s v1) = (0:Int32)
 ·rw [if_pos hc154] at h
  refine Eval.ifT (t := 24) rfl rfl (teq hc154).1 ?_
  refine Eval.iconst (x := 0) rfl rfl ?_
  cases h
  subst hk
  exact Eval.ret rfl rfl
 ·rw [if_neg hc154] at h
  refine Eval.ifF rfl (feq hc154).1 ?_
  refine Eval.aload_n rfl rfl ?_
  refine Eval.getfield rfl rfl own_g1_st ?_
  refine Eval.iload_n rfl rfl ?_
  obtain ⟨hb155, h⟩ := ite_some h
  refine Eval.iaload rfl own_a1_st hb155 ?_
  by_cases hc156 : (rd s.f2 v1) = (0:Int32)
  ·rw [if_pos hc156] at h
   refine Eval.ifF rfl (teq hc156).2 ?_
   refine Eval.aload_n rfl rfl ?_
   obtain ⟨p157, hq158, h⟩ := bind_some h
   refine Eval.callI (rest := []) (x := p157) (H1 := (W1 s R)) rfl rfl (ev_j_hasRoom R s hq158 rfl) ?_
   by_cases hc159 : p157 = (0:Int32)
   ·rw [if_pos hc159] at h
    refine Eval.ifF rfl (teq hc159).2 ?_
    refine Eval.iconst (x := 0) rfl rfl ?_
    cases h
    subst hk
    exact Eval.ret rfl rfl
   ·rw [if_neg hc159] at h
    refine Eval.ifT (t := 26) rfl rfl (feq hc159).2 ?_
    refine Eval.aload_n rfl rfl ?_
    refine Eval.iconst (x := 2) rfl rfl ?_
    refine Eval.iload_n rfl rfl ?_
    refine Eval.iconst (x := 0) rfl rfl ?_
    obtain ⟨p160, hq161, h⟩ := bind_some h
    refine Eval.callN (rest := []) (H1 := (W1 p160 R)) rfl rfl (ev_j_append R s (2:Int32) v1 (0:Int32) hq161 rfl) ?_
    refine Eval.aload_n rfl rfl ?_
    refine Eval.getfield rfl rfl own_g1_locV ?_
    refine Eval.iload_n rfl rfl ?_
    refine Eval.iconst (x := 0) rfl rfl ?_
    obtain ⟨hb163, h⟩ := ite_some h
    refine Eval.iastore rfl rfl own_a1_locV hb163 own_s1_locV ?_
    refine Eval.aload_n rfl rfl ?_
    refine Eval.getfield rfl rfl own_g1_st ?_
    refine Eval.iload_n rfl rfl ?_
    refine Eval.bipush (x := 21) rfl rfl ?_
    obtain ⟨hb164, h⟩ := ite_some h
    refine Eval.iastore rfl rfl own_a1_st hb164 own_s1_st ?_
    refine Eval.iconst (x := 1) rfl rfl ?_
    cases h
    subst hk
    exact Eval.retH own_mk1 rfl rfl
  ·rw [if_neg hc156] at h
   refine Eval.ifT (t := 24) rfl rfl (feq hc156).2 ?_
   refine Eval.iconst (x := 0) rfl rfl ?_
   cases h
   subst hk
   exact Eval.ret rfl rfl
abbrev j_contentCount_l2_K (R : AHeap) (s : Q) (res : (Unit) ⊕ (Unit)) (out : Option Value × AHeap) : Prop := Sum.elim (fun res => Eval own_P 14 37 [none, none] [] (W1 s R) out) (fun res => Eval own_P 14 45 [some (.ref 0), none] [] (W1 s R) out) res

def j_contentCount_b39 (go_ : Q → Int32 → Option ((Unit) ⊕ (Unit))) (s : Q) (v1 : Int32) : Option ((Unit) ⊕ (Unit)) := (go_ s (v1 + (1:Int32)))
set_option maxRecDepth 100000 in
theorem ev_j_contentCount_b39 (R : AHeap) (go_ : Q → Int32 → Option ((Unit) ⊕ (Unit))) (hrec : ∀ (s : Q) (v1 : Int32) {res : (Unit) ⊕ (Unit)} {out : Option Value × AHeap}, go_ s v1 = some res → j_contentCount_l2_K R s res out → Eval own_P 14 2 [some (.ref 0), some (.int v1)] [] (W1 s R) out) (s : Q) (v1 : Int32) {res : (Unit) ⊕ (Unit)} {out : Option Value × AHeap} (h : j_contentCount_b39 go_ s v1 = some res) (hk : j_contentCount_l2_K R s res out) : Eval own_P 14 39 [some (.ref 0), some (.int v1)] [] (W1 s R) out := by
 rw [j_contentCount_b39] at h
 refine Eval.iinc (L' := [some (.ref 0), some (.int (v1 + (1:Int32)))]) rfl rfl rfl ?_
 refine Eval.goto (t := 2) rfl rfl ?_
 exact hrec _ _ h hk
def j_contentCount_l2 : Nat → Q → Int32 → Option ((Unit) ⊕ (Unit))
  | 0, _, _ => none
  | n + 1, s, v1 => (if v1 < (4:Int32) then (if v1 < s.f24 then (if inb s.f2.length v1 = true then (if (rd s.f2 v1) < (11:Int32) then (j_contentCount_b39 (j_contentCount_l2 n) s v1) else (if inb s.f2.length v1 = true then (if (26:Int32) < (rd s.f2 v1) then (j_contentCount_b39 (j_contentCount_l2 n) s v1) else some (.inl ())) else none)) else none) else (j_contentCount_b39 (j_contentCount_l2 n) s v1)) else some (.inr ()))
set_option maxRecDepth 100000 in
theorem ev_j_contentCount_l2 (R : AHeap) : ∀ (n : Nat) (s : Q) (v1 : Int32) {res : (Unit) ⊕ (Unit)} {out : Option Value × AHeap}, j_contentCount_l2 n s v1 = some res → j_contentCount_l2_K R s res out → Eval own_P 14 2 [some (.ref 0), some (.int v1)] [] (W1 s R) out := by
 intro n
 induction n with
 | zero => intro _ _ res out h hk; cases h
 | succ n hrec =>
  intro s v1 res out h hk
  rw [j_contentCount_l2] at h
  refine Eval.iload_n rfl rfl ?_
  refine Eval.iconst (x := 4) rfl rfl ?_
  by_cases hc190 : v1 < (4:Int32)
  ·rw [if_pos hc190] at h
   refine Eval.icmpF rfl (tlt hc190).2.1 ?_
   refine Eval.iload_n rfl rfl ?_
   refine Eval.aload_n rfl rfl ?_
   refine Eval.getfield rfl rfl own_g1_nThreads ?_
   by_cases hc191 : v1 < s.f24
   ·rw [if_pos hc191] at h
    refine Eval.icmpF rfl (tlt hc191).2.1 ?_
    refine Eval.aload_n rfl rfl ?_
    refine Eval.getfield rfl rfl own_g1_st ?_
    refine Eval.iload_n rfl rfl ?_
    obtain ⟨hb192, h⟩ := ite_some h
    refine Eval.iaload rfl own_a1_st hb192 ?_
    refine Eval.bipush (x := 11) rfl rfl ?_
    by_cases hc193 : (rd s.f2 v1) < (11:Int32)
    ·rw [if_pos hc193] at h
     refine Eval.icmpT (t := 39) rfl rfl (tlt hc193).1 ?_
     exact ev_j_contentCount_b39 R _ hrec s v1 h hk
    ·rw [if_neg hc193] at h
     refine Eval.icmpF rfl (flt hc193).1 ?_
     refine Eval.aload_n rfl rfl ?_
     refine Eval.getfield rfl rfl own_g1_st ?_
     refine Eval.iload_n rfl rfl ?_
     obtain ⟨hb194, h⟩ := ite_some h
     refine Eval.iaload rfl own_a1_st hb194 ?_
     refine Eval.bipush (x := 26) rfl rfl ?_
     by_cases hc195 : (26:Int32) < (rd s.f2 v1)
     ·rw [if_pos hc195] at h
      refine Eval.icmpT (t := 39) rfl rfl (tlt hc195).2.2.1 ?_
      exact ev_j_contentCount_b39 R _ hrec s v1 h hk
     ·rw [if_neg hc195] at h
      refine Eval.icmpF rfl (flt hc195).2.2.1 ?_
      cases h
      refine Eval.weak (lw_mk 0 _) ?_
      exact hk
   ·rw [if_neg hc191] at h
    refine Eval.icmpT (t := 39) rfl rfl (flt hc191).2.1 ?_
    exact ev_j_contentCount_b39 R _ hrec s v1 h hk
  ·rw [if_neg hc190] at h
   refine Eval.icmpT (t := 45) rfl rfl (flt hc190).2.1 ?_
   cases h
   refine Eval.weak (lw_mk 1 _) ?_
   exact hk
def j_contentCount (s : Q) : Option (Int32) := ((j_contentCount_l2 3000 s (0:Int32)).bind fun p196 => Sum.elim (fun p198 => some ((-1:Int32))) (fun p199 => some ((s.f28 - s.f27))) p196)
set_option maxRecDepth 100000 in
theorem ev_j_contentCount (R : AHeap) (s : Q) {res : Int32} {out : Option Value × AHeap} (h : j_contentCount s = some res) (hk : out = (some (.int res), (W1 s R))) : Eval own_P 14 0 [some (.ref 0), none] [] (W1 s R) out := by
 rw [j_contentCount] at h
 refine Eval.iconst (x := 0) rfl rfl ?_
 refine Eval.istore_n (L' := [some (.ref 0), some (.int 0)]) rfl rfl ?_
 obtain ⟨p196, hq197, h⟩ := bind_some h
 rcases p196 with p198 | p199
 ·dsimp only [Sum.elim] at h
  refine ev_j_contentCount_l2 R _ s (0:Int32) hq197 ?_
  show Eval own_P 14 37 [none, none] [] (W1 s R) out
  refine Eval.iconst (x := -1) rfl rfl ?_
  cases h
  subst hk
  exact Eval.ret rfl rfl
 ·dsimp only [Sum.elim] at h
  refine ev_j_contentCount_l2 R _ s (0:Int32) hq197 ?_
  show Eval own_P 14 45 [some (.ref 0), none] [] (W1 s R) out
  refine Eval.aload_n rfl rfl ?_
  refine Eval.getfield rfl rfl own_g1_tail ?_
  refine Eval.aload_n rfl rfl ?_
  refine Eval.getfield rfl rfl own_g1_head ?_
  refine Eval.isub rfl ?_
  cases h
  subst hk
  exact Eval.ret rfl rfl
abbrev j_run_l43_K (R : AHeap) (res : (Q) ⊕ (Q)) (out : Option Value × AHeap) : Prop := Sum.elim (fun res => Eval own_P 15 57 [none, none, none, none, none] [] (W1 res R) out) (fun res => Eval own_P 15 65 [none, none, none, none, none] [] (W1 res R) out) res

abbrev j_run_l43_N (s : Q) (res : (Q) ⊕ (Q)) : Prop := Sum.elim (fun res => Q.len res = Q.len s) (fun res => Q.len res = Q.len s) res
def j_run_l43 : Nat → Q → Int32 → Int32 → Int32 → Option ((Q) ⊕ (Q))
  | 0, _, _, _, _ => none
  | n + 1, s, v1, v3, v4 => (if v4 < v3 then ((j_doStep s v1).bind fun p211 => (if p211.1 = (0:Int32) then (j_run_l43 n p211.2 v1 v3 (v4 + (1:Int32))) else some (.inl (p211.2)))) else some (.inr (s)))
set_option maxRecDepth 100000 in
theorem ev_j_run_l43 (R : AHeap) : ∀ (n : Nat) (s : Q) (v1 v3 v4 : Int32) {res : (Q) ⊕ (Q)} {out : Option Value × AHeap}, j_run_l43 n s v1 v3 v4 = some res → j_run_l43_K R res out → Eval own_P 15 43 [some (.ref 0), some (.int v1), none, some (.int v3), some (.int v4)] [] (W1 s R) out := by
 intro n
 induction n with
 | zero => intro _ _ _ _ res out h hk; cases h
 | succ n hrec =>
  intro s v1 v3 v4 res out h hk
  rw [j_run_l43] at h
  refine Eval.iload rfl rfl ?_
  refine Eval.iload_n rfl rfl ?_
  by_cases hc210 : v4 < v3
  ·rw [if_pos hc210] at h
   refine Eval.icmpF rfl (tlt hc210).2.1 ?_
   refine Eval.aload_n rfl rfl ?_
   refine Eval.iload_n rfl rfl ?_
   obtain ⟨p211, hq212, h⟩ := bind_some h
   refine Eval.callI (rest := []) (x := p211.1) (H1 := (W1 p211.2 R)) rfl rfl (ev_j_doStep R s v1 hq212 rfl) ?_
   by_cases hc214 : p211.1 = (0:Int32)
   ·rw [if_pos hc214] at h
    refine Eval.ifT (t := 59) rfl rfl (teq hc214).1 ?_
    refine Eval.iinc (L' := [some (.ref 0), some (.int v1), none, some (.int v3), some (.int (v4 + (1:Int32)))]) rfl rfl rfl ?_
    refine Eval.goto (t := 43) rfl rfl ?_
    exact hrec _ _ _ _ h hk
   ·rw [if_neg hc214] at h
    refine Eval.ifF rfl (feq hc214).1 ?_
    cases h
    refine Eval.weak (lw_mk 0 _) ?_
    exact hk
  ·rw [if_neg hc210] at h
   refine Eval.icmpT (t := 65) rfl rfl (flt hc210).2.1 ?_
   cases h
   refine Eval.weak (lw_mk 0 _) ?_
   exact hk
def j_run (s : Q) (v1 v2 : Int32) : Option (Int32 × Q) := (if (j_valid s v1) = (0:Int32) then some ((-1:Int32), s) else (if inb s.f2.length v1 = true then (if (rd s.f2 v1) = (0:Int32) then some ((0:Int32), s) else (if inb s.f2.length v1 = true then (if (rd s.f2 v1) = (1:Int32) then some ((0:Int32), s) else ((j_run_l43 3000 s v1 (j_clamp v2 (1:Int32) (64:Int32)) (0:Int32)).bind fun p215 => Sum.elim (fun p217 => some ((2:Int32), p217)) (fun p218 => some ((1:Int32), p218)) p215)) else none)) else none))
set_option maxRecDepth 100000 in
theorem ev_j_run (R : AHeap) (s : Q) (v1 v2 : Int32) {res : Int32 × Q} {out : Option Value × AHeap} (h : j_run s v1 v2 = some res) (hk : out = (some (.int res.1), (W1 res.2 R))) : Eval own_P 15 0 [some (.ref 0), some (.int v1), some (.int v2), none, none] [] (W1 s R) out := by
 rw [j_run] at h
 refine Eval.aload_n rfl rfl ?_
 refine Eval.iload_n rfl rfl ?_
 refine Eval.iconst (x := 1) rfl rfl ?_
 refine Eval.bipush (x := 64) rfl rfl ?_
 refine Eval.callI (rest := []) (x := (j_clamp v2 (1:Int32) (64:Int32))) (H1 := (W1 s R)) rfl rfl (ev_j_clamp (W1 s R) 0 v2 (1:Int32) (64:Int32) rfl rfl) ?_
 refine Eval.istore_n (L' := [some (.ref 0), some (.int v1), some (.int v2), some (.int (j_clamp v2 (1:Int32) (64:Int32))), none]) rfl rfl ?_
 refine Eval.aload_n rfl rfl ?_
 refine Eval.iload_n rfl rfl ?_
 refine Eval.callI (rest := []) (x := (j_valid s v1)) (H1 := (W1 s R)) rfl rfl (ev_j_valid R s v1 rfl rfl) ?_
 by_cases hc205 : (j_valid s v1) = (0:Int32)
 ·rw [if_pos hc205] at h
  refine Eval.ifF rfl (teq hc205).2 ?_
  refine Eval.iconst (x := -1) rfl rfl ?_
  cases h
  subst hk
  exact Eval.ret rfl rfl
 ·rw [if_neg hc205] at h
  refine Eval.ifT (t := 19) rfl rfl (feq hc205).2 ?_
  refine Eval.aload_n rfl rfl ?_
  refine Eval.getfield rfl rfl own_g1_st ?_
  refine Eval.iload_n rfl rfl ?_
  obtain ⟨hb206, h⟩ := ite_some h
  refine Eval.iaload rfl own_a1_st hb206 ?_
  by_cases hc207 : (rd s.f2 v1) = (0:Int32)
  ·rw [if_pos hc207] at h
   refine Eval.ifT (t := 38) rfl rfl (teq hc207).1 ?_
   refine Eval.iconst (x := 0) rfl rfl ?_
   cases h
   subst hk
   exact Eval.ret rfl rfl
  ·rw [if_neg hc207] at h
   refine Eval.ifF rfl (feq hc207).1 ?_
   refine Eval.aload_n rfl rfl ?_
   refine Eval.getfield rfl rfl own_g1_st ?_
   refine Eval.iload_n rfl rfl ?_
   obtain ⟨hb208, h⟩ := ite_some h
   refine Eval.iaload rfl own_a1_st hb208 ?_
   refine Eval.iconst (x := 1) rfl rfl ?_
   by_cases hc209 : (rd s.f2 v1) = (1:Int32)
   ·rw [if_pos hc209] at h
    refine Eval.icmpF rfl (teq hc209).2 ?_
    refine Eval.iconst (x := 0) rfl rfl ?_
    cases h
    subst hk
    exact Eval.ret rfl rfl
   ·rw [if_neg hc209] at h
    refine Eval.icmpT (t := 40) rfl rfl (feq hc209).2 ?_
    refine Eval.iconst (x := 0) rfl rfl ?_
    refine Eval.istore (L' := [some (.ref 0), some (.int v1), some (.int v2), some (.int (j_clamp v2 (1:Int32) (64:Int32))), some (.int 0)]) rfl rfl ?_
    refine Eval.weak (lw_mk 27 _) ?_
    obtain ⟨p215, hq216, h⟩ := bind_some h
    rcases p215 with p217 | p218
    ·dsimp only [Sum.elim] at h
     refine ev_j_run_l43 R _ s v1 (j_clamp v2 (1:Int32) (64:Int32)) (0:Int32) hq216 ?_
     show Eval own_P 15 57 [none, none, none, none, none] [] (W1 p217 R) out
     refine Eval.iconst (x := 2) rfl rfl ?_
     cases h
     subst hk
     exact Eval.ret rfl rfl
    ·dsimp only [Sum.elim] at h
     refine ev_j_run_l43 R _ s v1 (j_clamp v2 (1:Int32) (64:Int32)) (0:Int32) hq216 ?_
     show Eval own_P 15 65 [none, none, none, none, none] [] (W1 p218 R) out
     refine Eval.iconst (x := 1) rfl rfl ?_
     cases h
     subst hk
     exact Eval.ret rfl rfl
def j_lastStatus (s : Q) (v1 : Int32) : Option (Int32) := (if (j_valid s v1) = (0:Int32) then some ((-1:Int32)) else (if inb s.f5.length v1 = true then some ((rd s.f5 v1)) else none))
set_option maxRecDepth 100000 in
theorem ev_j_lastStatus (R : AHeap) (s : Q) (v1 : Int32) {res : Int32} {out : Option Value × AHeap} (h : j_lastStatus s v1 = some res) (hk : out = (some (.int res), (W1 s R))) : Eval own_P 18 0 [some (.ref 0), some (.int v1)] [] (W1 s R) out := by
 rw [j_lastStatus] at h
 refine Eval.aload_n rfl rfl ?_
 refine Eval.iload_n rfl rfl ?_
 refine Eval.callI (rest := []) (x := (j_valid s v1)) (H1 := (W1 s R)) rfl rfl (ev_j_valid R s v1 rfl rfl) ?_
 by_cases hc231 : (j_valid s v1) = (0:Int32)
 ·rw [if_pos hc231] at h
  refine Eval.ifT (t := 17) rfl rfl (teq hc231).1 ?_
  refine Eval.iconst (x := -1) rfl rfl ?_
  cases h
  subst hk
  exact Eval.ret rfl rfl
 ·rw [if_neg hc231] at h
  refine Eval.ifF rfl (feq hc231).1 ?_
  refine Eval.aload_n rfl rfl ?_
  refine Eval.getfield rfl rfl own_g1_lastSt ?_
  refine Eval.iload_n rfl rfl ?_
  obtain ⟨hb232, h⟩ := ite_some h
  refine Eval.iaload rfl own_a1_lastSt hb232 ?_
  refine Eval.goto (t := 18) rfl rfl ?_
  cases h
  subst hk
  exact Eval.ret rfl rfl
def j_lastValue (s : Q) (v1 : Int32) : Option (Int32) := (if (j_valid s v1) = (0:Int32) then some ((0:Int32)) else (if inb s.f6.length v1 = true then some ((rd s.f6 v1)) else none))
set_option maxRecDepth 100000 in
theorem ev_j_lastValue (R : AHeap) (s : Q) (v1 : Int32) {res : Int32} {out : Option Value × AHeap} (h : j_lastValue s v1 = some res) (hk : out = (some (.int res), (W1 s R))) : Eval own_P 19 0 [some (.ref 0), some (.int v1)] [] (W1 s R) out := by
 rw [j_lastValue] at h
 refine Eval.aload_n rfl rfl ?_
 refine Eval.iload_n rfl rfl ?_
 refine Eval.callI (rest := []) (x := (j_valid s v1)) (H1 := (W1 s R)) rfl rfl (ev_j_valid R s v1 rfl rfl) ?_
 by_cases hc238 : (j_valid s v1) = (0:Int32)
 ·rw [if_pos hc238] at h
  refine Eval.ifT (t := 17) rfl rfl (teq hc238).1 ?_
  refine Eval.iconst (x := 0) rfl rfl ?_
  cases h
  subst hk
  exact Eval.ret rfl rfl
 ·rw [if_neg hc238] at h
  refine Eval.ifF rfl (feq hc238).1 ?_
  refine Eval.aload_n rfl rfl ?_
  refine Eval.getfield rfl rfl own_g1_lastVal ?_
  refine Eval.iload_n rfl rfl ?_
  obtain ⟨hb239, h⟩ := ite_some h
  refine Eval.iaload rfl own_a1_lastVal hb239 ?_
  refine Eval.goto (t := 18) rfl rfl ?_
  cases h
  subst hk
  exact Eval.ret rfl rfl
def j_contentAt (s : Q) (v1 : Int32) : Option (Int32) := ((j_contentCount s).bind fun p270 => (if p270 < (0:Int32) then some ((0:Int32)) else (if v1 < (0:Int32) then some ((0:Int32)) else (if v1 < p270 then (if inb s.f1.length ((s.f27 + v1) &&& s.f26) = true then some ((rd s.f1 ((s.f27 + v1) &&& s.f26))) else none) else some ((0:Int32))))))
set_option maxRecDepth 100000 in
theorem ev_j_contentAt (R : AHeap) (s : Q) (v1 : Int32) {res : Int32} {out : Option Value × AHeap} (h : j_contentAt s v1 = some res) (hk : out = (some (.int res), (W1 s R))) : Eval own_P 20 0 [some (.ref 0), some (.int v1), none] [] (W1 s R) out := by
 rw [j_contentAt] at h
 refine Eval.aload_n rfl rfl ?_
 obtain ⟨p270, hq271, h⟩ := bind_some h
 refine Eval.callI (rest := []) (x := p270) (H1 := (W1 s R)) rfl rfl (ev_j_contentCount R s hq271 rfl) ?_
 refine Eval.istore_n (L' := [some (.ref 0), some (.int v1), some (.int p270)]) rfl rfl ?_
 refine Eval.iload_n rfl rfl ?_
 by_cases hc272 : p270 < (0:Int32)
 ·rw [if_pos hc272] at h
  refine Eval.ifT (t := 35) rfl rfl (tlt hc272).1 ?_
  refine Eval.iconst (x := 0) rfl rfl ?_
  cases h
  subst hk
  exact Eval.ret rfl rfl
 ·rw [if_neg hc272] at h
  refine Eval.ifF rfl (flt hc272).1 ?_
  refine Eval.iload_n rfl rfl ?_
  by_cases hc273 : v1 < (0:Int32)
  ·rw [if_pos hc273] at h
   refine Eval.ifT (t := 35) rfl rfl (tlt hc273).1 ?_
   refine Eval.iconst (x := 0) rfl rfl ?_
   cases h
   subst hk
   exact Eval.ret rfl rfl
  ·rw [if_neg hc273] at h
   refine Eval.ifF rfl (flt hc273).1 ?_
   refine Eval.iload_n rfl rfl ?_
   refine Eval.iload_n rfl rfl ?_
   by_cases hc274 : v1 < p270
   ·rw [if_pos hc274] at h
    refine Eval.icmpF rfl (tlt hc274).2.1 ?_
    refine Eval.aload_n rfl rfl ?_
    refine Eval.getfield rfl rfl own_g1_val ?_
    refine Eval.aload_n rfl rfl ?_
    refine Eval.getfield rfl rfl own_g1_head ?_
    refine Eval.iload_n rfl rfl ?_
    refine Eval.iadd rfl ?_
    refine Eval.aload_n rfl rfl ?_
    refine Eval.getfield rfl rfl own_g1_mask ?_
    refine Eval.iand rfl ?_
    obtain ⟨hb275, h⟩ := ite_some h
    refine Eval.iaload rfl own_a1_val hb275 ?_
    cases h
    subst hk
    exact Eval.ret rfl rfl
   ·rw [if_neg hc274] at h
    refine Eval.icmpT (t := 35) rfl rfl (flt hc274).2.1 ?_
    refine Eval.iconst (x := 0) rfl rfl ?_
    cases h
    subst hk
    exact Eval.ret rfl rfl
def j_historyLength (s : Q) : Int32 := (s.f29)
set_option maxRecDepth 100000 in
theorem ev_j_historyLength (R : AHeap) (s : Q) {res : Int32} {out : Option Value × AHeap} (h : j_historyLength s = res) (hk : out = (some (.int res), (W1 s R))) : Eval own_P 21 0 [some (.ref 0)] [] (W1 s R) out := by
 rw [j_historyLength] at h
 refine Eval.aload_n rfl rfl ?_
 refine Eval.getfield rfl rfl own_g1_histLen ?_
 subst h
 subst hk
 exact Eval.ret rfl rfl
def j_historyEvent (s : Q) (v1 : Int32) : Option (Int32) := (if v1 < (0:Int32) then some ((0:Int32)) else (if v1 < s.f29 then (if v1 < (64:Int32) then (if inb s.f8.length v1 = true then (if inb s.f9.length v1 = true then some ((((rd s.f8 v1) * (16:Int32)) + (rd s.f9 v1))) else none) else none) else some ((0:Int32))) else some ((0:Int32))))
set_option maxRecDepth 100000 in
theorem ev_j_historyEvent (R : AHeap) (s : Q) (v1 : Int32) {res : Int32} {out : Option Value × AHeap} (h : j_historyEvent s v1 = some res) (hk : out = (some (.int res), (W1 s R))) : Eval own_P 22 0 [some (.ref 0), some (.int v1)] [] (W1 s R) out := by
 rw [j_historyEvent] at h
 refine Eval.iload_n rfl rfl ?_
 by_cases hc284 : v1 < (0:Int32)
 ·rw [if_pos hc284] at h
  refine Eval.ifT (t := 35) rfl rfl (tlt hc284).1 ?_
  refine Eval.iconst (x := 0) rfl rfl ?_
  cases h
  subst hk
  exact Eval.ret rfl rfl
 ·rw [if_neg hc284] at h
  refine Eval.ifF rfl (flt hc284).1 ?_
  refine Eval.iload_n rfl rfl ?_
  refine Eval.aload_n rfl rfl ?_
  refine Eval.getfield rfl rfl own_g1_histLen ?_
  by_cases hc285 : v1 < s.f29
  ·rw [if_pos hc285] at h
   refine Eval.icmpF rfl (tlt hc285).2.1 ?_
   refine Eval.iload_n rfl rfl ?_
   refine Eval.bipush (x := 64) rfl rfl ?_
   by_cases hc286 : v1 < (64:Int32)
   ·rw [if_pos hc286] at h
    refine Eval.icmpF rfl (tlt hc286).2.1 ?_
    refine Eval.aload_n rfl rfl ?_
    refine Eval.getfield rfl rfl own_g1_evKind ?_
    refine Eval.iload_n rfl rfl ?_
    obtain ⟨hb287, h⟩ := ite_some h
    refine Eval.iaload rfl own_a1_evKind hb287 ?_
    refine Eval.bipush (x := 16) rfl rfl ?_
    refine Eval.imul rfl ?_
    refine Eval.aload_n rfl rfl ?_
    refine Eval.getfield rfl rfl own_g1_evThread ?_
    refine Eval.iload_n rfl rfl ?_
    obtain ⟨hb288, h⟩ := ite_some h
    refine Eval.iaload rfl own_a1_evThread hb288 ?_
    refine Eval.iadd rfl ?_
    cases h
    subst hk
    exact Eval.ret rfl rfl
   ·rw [if_neg hc286] at h
    refine Eval.icmpT (t := 35) rfl rfl (flt hc286).2.1 ?_
    refine Eval.iconst (x := 0) rfl rfl ?_
    cases h
    subst hk
    exact Eval.ret rfl rfl
  ·rw [if_neg hc285] at h
   refine Eval.icmpT (t := 35) rfl rfl (flt hc285).2.1 ?_
   refine Eval.iconst (x := 0) rfl rfl ?_
   cases h
   subst hk
   exact Eval.ret rfl rfl
def j_historyValue (s : Q) (v1 : Int32) : Option (Int32) := (if v1 < (0:Int32) then some ((0:Int32)) else (if v1 < s.f29 then (if v1 < (64:Int32) then (if inb s.f10.length v1 = true then some ((rd s.f10 v1)) else none) else some ((0:Int32))) else some ((0:Int32))))
set_option maxRecDepth 100000 in
theorem ev_j_historyValue (R : AHeap) (s : Q) (v1 : Int32) {res : Int32} {out : Option Value × AHeap} (h : j_historyValue s v1 = some res) (hk : out = (some (.int res), (W1 s R))) : Eval own_P 23 0 [some (.ref 0), some (.int v1)] [] (W1 s R) out := by
 rw [j_historyValue] at h
 refine Eval.iload_n rfl rfl ?_
 by_cases hc294 : v1 < (0:Int32)
 ·rw [if_pos hc294] at h
  refine Eval.ifT (t := 25) rfl rfl (tlt hc294).1 ?_
  refine Eval.iconst (x := 0) rfl rfl ?_
  cases h
  subst hk
  exact Eval.ret rfl rfl
 ·rw [if_neg hc294] at h
  refine Eval.ifF rfl (flt hc294).1 ?_
  refine Eval.iload_n rfl rfl ?_
  refine Eval.aload_n rfl rfl ?_
  refine Eval.getfield rfl rfl own_g1_histLen ?_
  by_cases hc295 : v1 < s.f29
  ·rw [if_pos hc295] at h
   refine Eval.icmpF rfl (tlt hc295).2.1 ?_
   refine Eval.iload_n rfl rfl ?_
   refine Eval.bipush (x := 64) rfl rfl ?_
   by_cases hc296 : v1 < (64:Int32)
   ·rw [if_pos hc296] at h
    refine Eval.icmpF rfl (tlt hc296).2.1 ?_
    refine Eval.aload_n rfl rfl ?_
    refine Eval.getfield rfl rfl own_g1_evVal ?_
    refine Eval.iload_n rfl rfl ?_
    obtain ⟨hb297, h⟩ := ite_some h
    refine Eval.iaload rfl own_a1_evVal hb297 ?_
    cases h
    subst hk
    exact Eval.ret rfl rfl
   ·rw [if_neg hc296] at h
    refine Eval.icmpT (t := 25) rfl rfl (flt hc296).2.1 ?_
    refine Eval.iconst (x := 0) rfl rfl ?_
    cases h
    subst hk
    exact Eval.ret rfl rfl
  ·rw [if_neg hc295] at h
   refine Eval.icmpT (t := 25) rfl rfl (flt hc295).2.1 ?_
   refine Eval.iconst (x := 0) rfl rfl ?_
   cases h
   subst hk
   exact Eval.ret rfl rfl
abbrev j_countInvocations_l4_K (R : AHeap) (s : Q) (res : Int32) (out : Option Value × AHeap) : Prop := Eval own_P 25 47 [none, some (.int res), none] [] (W1 s R) out

def j_countInvocations_b41 (go_ : Q → Int32 → Int32 → Option (Int32)) (s : Q) (v1 v2 : Int32) : Option (Int32) := (go_ s v1 (v2 + (1:Int32)))
set_option maxRecDepth 100000 in
theorem ev_j_countInvocations_b41 (R : AHeap) (go_ : Q → Int32 → Int32 → Option (Int32)) (hrec : ∀ (s : Q) (v1 v2 : Int32) {res : Int32} {out : Option Value × AHeap}, go_ s v1 v2 = some res → j_countInvocations_l4_K R s res out → Eval own_P 25 4 [some (.ref 0), some (.int v1), some (.int v2)] [] (W1 s R) out) (s : Q) (v1 v2 : Int32) {res : Int32} {out : Option Value × AHeap} (h : j_countInvocations_b41 go_ s v1 v2 = some res) (hk : j_countInvocations_l4_K R s res out) : Eval own_P 25 41 [some (.ref 0), some (.int v1), some (.int v2)] [] (W1 s R) out := by
 rw [j_countInvocations_b41] at h
 refine Eval.iinc (L' := [some (.ref 0), some (.int v1), some (.int (v2 + (1:Int32)))]) rfl rfl rfl ?_
 refine Eval.goto (t := 4) rfl rfl ?_
 exact hrec _ _ _ h hk
def j_countInvocations_b38 (go_ : Q → Int32 → Int32 → Option (Int32)) (s : Q) (v1 v2 : Int32) : Option (Int32) := (j_countInvocations_b41 (go_) s (v1 + (1:Int32)) v2)
set_option maxRecDepth 100000 in
theorem ev_j_countInvocations_b38 (R : AHeap) (go_ : Q → Int32 → Int32 → Option (Int32)) (hrec : ∀ (s : Q) (v1 v2 : Int32) {res : Int32} {out : Option Value × AHeap}, go_ s v1 v2 = some res → j_countInvocations_l4_K R s res out → Eval own_P 25 4 [some (.ref 0), some (.int v1), some (.int v2)] [] (W1 s R) out) (s : Q) (v1 v2 : Int32) {res : Int32} {out : Option Value × AHeap} (h : j_countInvocations_b38 go_ s v1 v2 = some res) (hk : j_countInvocations_l4_K R s res out) : Eval own_P 25 38 [some (.ref 0), some (.int v1), some (.int v2)] [] (W1 s R) out := by
 rw [j_countInvocations_b38] at h
 refine Eval.iinc (L' := [some (.ref 0), some (.int (v1 + (1:Int32))), some (.int v2)]) rfl rfl rfl ?_
 exact ev_j_countInvocations_b41 R _ hrec s (v1 + (1:Int32)) v2 h hk
def j_countInvocations_l4 : Nat → Q → Int32 → Int32 → Option (Int32)
  | 0, _, _, _ => none
  | n + 1, s, v1, v2 => (if v2 < (64:Int32) then (if v2 < s.f29 then (if inb s.f8.length v2 = true then (if (rd s.f8 v2) = (1:Int32) then (j_countInvocations_b38 (j_countInvocations_l4 n) s v1 v2) else (if inb s.f8.length v2 = true then (j_countInvocations_b41 (j_countInvocations_l4 n) s (if (rd s.f8 v2) = (2:Int32) then (v1 + (1:Int32)) else v1) v2) else none)) else none) else some (v1)) else some (v1))
set_option maxRecDepth 100000 in
theorem ev_j_countInvocations_l4 (R : AHeap) : ∀ (n : Nat) (s : Q) (v1 v2 : Int32) {res : Int32} {out : Option Value × AHeap}, j_countInvocations_l4 n s v1 v2 = some res → j_countInvocations_l4_K R s res out → Eval own_P 25 4 [some (.ref 0), some (.int v1), some (.int v2)] [] (W1 s R) out := by
 intro n
 induction n with
 | zero => intro _ _ _ res out h hk; cases h
 | succ n hrec =>
  intro s v1 v2 res out h hk
  rw [j_countInvocations_l4] at h
  refine Eval.iload_n rfl rfl ?_
  refine Eval.bipush (x := 64) rfl rfl ?_
  by_cases hc353 : v2 < (64:Int32)
  ·rw [if_pos hc353] at h
   refine Eval.icmpF rfl (tlt hc353).2.1 ?_
   refine Eval.iload_n rfl rfl ?_
   refine Eval.aload_n rfl rfl ?_
   refine Eval.getfield rfl rfl own_g1_histLen ?_
   by_cases hc354 : v2 < s.f29
   ·rw [if_pos hc354] at h
    refine Eval.icmpF rfl (tlt hc354).2.1 ?_
    refine Eval.aload_n rfl rfl ?_
    refine Eval.getfield rfl rfl own_g1_evKind ?_
    refine Eval.iload_n rfl rfl ?_
    obtain ⟨hb355, h⟩ := ite_some h
    refine Eval.iaload rfl own_a1_evKind hb355 ?_
    refine Eval.iconst (x := 1) rfl rfl ?_
    by_cases hc357 : (rd s.f8 v2) = (1:Int32)
    ·rw [if_pos hc357] at h
     refine Eval.icmpT (t := 38) rfl rfl (teq hc357).1 ?_
     exact ev_j_countInvocations_b38 R _ hrec s v1 v2 h hk
    ·rw [if_neg hc357] at h
     refine Eval.icmpF rfl (feq hc357).1 ?_
     refine Eval.aload_n rfl rfl ?_
     refine Eval.getfield rfl rfl own_g1_evKind ?_
     refine Eval.iload_n rfl rfl ?_
     obtain ⟨hb358, h⟩ := ite_some h
     refine Eval.iaload rfl own_a1_evKind hb358 ?_
     refine Eval.iconst (x := 2) rfl rfl ?_
     suffices hJ360 : Eval own_P 25 41 [some (.ref 0), some (.int (if (rd s.f8 v2) = (2:Int32) then (v1 + (1:Int32)) else v1)), some (.int v2)] [] (W1 s R) out by
      by_cases hc359 : (rd s.f8 v2) = (2:Int32)
      ·refine Eval.icmpF rfl (teq hc359).2 ?_
       refine Eval.iinc (L' := [some (.ref 0), some (.int (v1 + (1:Int32))), some (.int v2)]) rfl rfl rfl ?_
       exact (Eval.conv hJ360 (by simp only [if_pos hc359] <;> rfl) rfl)
      ·refine Eval.icmpT (t := 41) rfl rfl (feq hc359).2 ?_
       exact (Eval.conv hJ360 (by simp only [if_neg hc359] <;> rfl) rfl)
     exact ev_j_countInvocations_b41 R _ hrec s (if (rd s.f8 v2) = (2:Int32) then (v1 + (1:Int32)) else v1) v2 h hk
   ·rw [if_neg hc354] at h
    refine Eval.icmpT (t := 47) rfl rfl (flt hc354).2.1 ?_
    cases h
    refine Eval.weak (lw_mk 2 _) ?_
    exact hk
  ·rw [if_neg hc353] at h
   refine Eval.icmpT (t := 47) rfl rfl (flt hc353).2.1 ?_
   cases h
   refine Eval.weak (lw_mk 2 _) ?_
   exact hk
def j_countInvocations (s : Q) : Option (Int32) := ((j_countInvocations_l4 3000 s (0:Int32) (0:Int32)).bind fun p361 => some (p361))
set_option maxRecDepth 100000 in
theorem ev_j_countInvocations (R : AHeap) (s : Q) {res : Int32} {out : Option Value × AHeap} (h : j_countInvocations s = some res) (hk : out = (some (.int res), (W1 s R))) : Eval own_P 25 0 [some (.ref 0), none, none] [] (W1 s R) out := by
 rw [j_countInvocations] at h
 refine Eval.iconst (x := 0) rfl rfl ?_
 refine Eval.istore_n (L' := [some (.ref 0), some (.int 0), none]) rfl rfl ?_
 refine Eval.iconst (x := 0) rfl rfl ?_
 refine Eval.istore_n (L' := [some (.ref 0), some (.int 0), some (.int 0)]) rfl rfl ?_
 obtain ⟨p361, hq362, h⟩ := bind_some h
 refine ev_j_countInvocations_l4 R _ s (0:Int32) (0:Int32) hq362 ?_
 show Eval own_P 25 47 [none, some (.int p361), none] [] (W1 s R) out
 refine Eval.iload_n rfl rfl ?_
 cases h
 subst hk
 exact Eval.ret rfl rfl
abbrev j_parseOps_l7_K (R : AHeap) (res : Q) (out : Option Value × AHeap) : Prop := Eval own_P 26 25 [some (.ref 0), none, none] [] (W1 res R) out

abbrev j_parseOps_l7_N (s res : Q) : Prop := Q.len res = Q.len s
def j_parseOps_l7 : Nat → Q → Int32 → Option (Q)
  | 0, _, _ => none
  | n + 1, s, v1 => (if v1 < (4:Int32) then (if inb s.f19.length v1 = true then (j_parseOps_l7 n (Q.mk s.f0 s.f1 s.f2 s.f3 s.f4 s.f5 s.f6 s.f7 s.f8 s.f9 s.f10 s.f11 s.f12 s.f13 s.f14 s.f15 s.f16 s.f17 s.f18 (wr s.f19 v1 (-1:Int32)) s.f20 s.f21 s.f22 s.f23 s.f24 s.f25 s.f26 s.f27 s.f28 s.f29 s.f30 s.f31 s.f32) (v1 + (1:Int32))) else none) else some (s))
set_option maxRecDepth 100000 in
theorem ev_j_parseOps_l7 (R : AHeap) : ∀ (n : Nat) (s : Q) (v1 : Int32) {res : Q} {out : Option Value × AHeap}, j_parseOps_l7 n s v1 = some res → j_parseOps_l7_K R res out → Eval own_P 26 7 [some (.ref 0), some (.int v1), none] [] (W1 s R) out := by
 intro n
 induction n with
 | zero => intro _ _ res out h hk; cases h
 | succ n hrec =>
  intro s v1 res out h hk
  rw [j_parseOps_l7] at h
  refine Eval.iload_n rfl rfl ?_
  refine Eval.iconst (x := 4) rfl rfl ?_
  by_cases hc366 : v1 < (4:Int32)
  ·rw [if_pos hc366] at h
   refine Eval.icmpF rfl (tlt hc366).2.1 ?_
   refine Eval.aload_n rfl rfl ?_
   refine Eval.getfield rfl rfl own_g1_openOp ?_
   refine Eval.iload_n rfl rfl ?_
   refine Eval.iconst (x := -1) rfl rfl ?_
   obtain ⟨hb367, h⟩ := ite_some h
   refine Eval.iastore rfl rfl own_a1_openOp hb367 own_s1_openOp ?_
   refine Eval.iinc (L' := [some (.ref 0), some (.int (v1 + (1:Int32))), none]) rfl rfl rfl ?_
   refine Eval.goto (t := 7) rfl rfl ?_
   refine Eval.heap own_mk1 ?_
   exact hrec _ _ h hk
  ·rw [if_neg hc366] at h
   refine Eval.icmpT (t := 25) rfl rfl (flt hc366).2.1 ?_
   cases h
   refine Eval.weak (lw_mk 1 _) ?_
   exact hk
abbrev j_parseOps_l27_K (R : AHeap) (res : Q) (out : Option Value × AHeap) : Prop := Eval own_P 26 101 [none, none, none] [] (W1 res R) out

abbrev j_parseOps_l27_N (s res : Q) : Prop := Q.len res = Q.len s
def j_parseOps_b95 (go_ : Q → Int32 → Option (Q)) (s : Q) (v1 : Int32) : Option (Q) := (go_ s (v1 + (1:Int32)))
set_option maxRecDepth 100000 in
theorem ev_j_parseOps_b95 (R : AHeap) (go_ : Q → Int32 → Option (Q)) (hrec : ∀ (s : Q) (v1 : Int32) {res : Q} {out : Option Value × AHeap}, go_ s v1 = some res → j_parseOps_l27_K R res out → Eval own_P 26 27 [some (.ref 0), some (.int v1), none] [] (W1 s R) out) (s : Q) (v1 : Int32) {res : Q} {out : Option Value × AHeap} (h : j_parseOps_b95 go_ s v1 = some res) (hk : j_parseOps_l27_K R res out) : Eval own_P 26 95 [some (.ref 0), some (.int v1), none] [] (W1 s R) out := by
 rw [j_parseOps_b95] at h
 refine Eval.iinc (L' := [some (.ref 0), some (.int (v1 + (1:Int32))), none]) rfl rfl rfl ?_
 refine Eval.goto (t := 27) rfl rfl ?_
 exact hrec _ _ h hk
def j_addOp_b42 (s : Q) (v1 v2 : Int32) (v3 w1 w2 : Int32) : Option (Q) := (if inb s.f12.length w1 = true then (if inb s.f10.length v1 = true then (if inb s.f13.length v3 = true then (if inb s.f14.length v3 = true then (if inb s.f15.length v3 = true then (if inb s.f16.length v3 = true then (if inb s.f17.length v3 = true then (if inb s.f19.length v2 = true then some ((Q.mk s.f0 s.f1 s.f2 s.f3 s.f4 s.f5 s.f6 s.f7 s.f8 s.f9 s.f10 s.f11 (wr s.f12 w1 w2) (wr s.f13 v3 (rd s.f10 v1)) (wr s.f14 v3 v1) (wr s.f15 v3 (-1:Int32)) (wr s.f16 v3 (0:Int32)) (wr s.f17 v3 (0:Int32)) s.f18 (wr s.f19 v2 v3) s.f20 s.f21 s.f22 s.f23 s.f24 s.f25 s.f26 s.f27 s.f28 s.f29 s.f30 (s.f31 + (1:Int32)) s.f32)) else none) else none) else none) else none) else none) else none) else none) else none)
set_option maxRecDepth 100000 in
theorem ev_j_addOp_b42 (R : AHeap) (s : Q) (v1 v2 : Int32) (v3 w1 w2 : Int32) {res : Q} {out : Option Value × AHeap} (h : j_addOp_b42 s v1 v2 v3 w1 w2 = some res) (hk : out = (none, (W1 res R))) : Eval own_P 27 42 [some (.ref 0), some (.int v1), some (.int v2), some (.int v3)] [.int w2, .int w1, .ref 13] (W1 s R) out := by
 rw [j_addOp_b42] at h
 obtain ⟨hb387, h⟩ := ite_some h
 refine Eval.iastore rfl rfl own_a1_opKind hb387 own_s1_opKind ?_
 refine Eval.aload_n rfl rfl ?_
 refine Eval.getfield rfl rfl own_g1_opArg ?_
 refine Eval.iload_n rfl rfl ?_
 refine Eval.aload_n rfl rfl ?_
 refine Eval.getfield rfl rfl own_g1_evVal ?_
 refine Eval.iload_n rfl rfl ?_
 obtain ⟨hb388, h⟩ := ite_some h
 refine Eval.iaload rfl own_a1_evVal hb388 ?_
 obtain ⟨hb389, h⟩ := ite_some h
 refine Eval.iastore rfl rfl own_a1_opArg hb389 own_s1_opArg ?_
 refine Eval.aload_n rfl rfl ?_
 refine Eval.getfield rfl rfl own_g1_opInv ?_
 refine Eval.iload_n rfl rfl ?_
 refine Eval.iload_n rfl rfl ?_
 obtain ⟨hb390, h⟩ := ite_some h
 refine Eval.iastore rfl rfl own_a1_opInv hb390 own_s1_opInv ?_
 refine Eval.aload_n rfl rfl ?_
 refine Eval.getfield rfl rfl own_g1_opRes ?_
 refine Eval.iload_n rfl rfl ?_
 refine Eval.iconst (x := -1) rfl rfl ?_
 obtain ⟨hb391, h⟩ := ite_some h
 refine Eval.iastore rfl rfl own_a1_opRes hb391 own_s1_opRes ?_
 refine Eval.aload_n rfl rfl ?_
 refine Eval.getfield rfl rfl own_g1_opStatus ?_
 refine Eval.iload_n rfl rfl ?_
 refine Eval.iconst (x := 0) rfl rfl ?_
 obtain ⟨hb392, h⟩ := ite_some h
 refine Eval.iastore rfl rfl own_a1_opStatus hb392 own_s1_opStatus ?_
 refine Eval.aload_n rfl rfl ?_
 refine Eval.getfield rfl rfl own_g1_opRVal ?_
 refine Eval.iload_n rfl rfl ?_
 refine Eval.iconst (x := 0) rfl rfl ?_
 obtain ⟨hb393, h⟩ := ite_some h
 refine Eval.iastore rfl rfl own_a1_opRVal hb393 own_s1_opRVal ?_
 refine Eval.aload_n rfl rfl ?_
 refine Eval.getfield rfl rfl own_g1_openOp ?_
 refine Eval.iload_n rfl rfl ?_
 refine Eval.iload_n rfl rfl ?_
 obtain ⟨hb394, h⟩ := ite_some h
 refine Eval.iastore rfl rfl own_a1_openOp hb394 own_s1_openOp ?_
 refine Eval.aload_n rfl rfl ?_
 refine Eval.dupR rfl ?_
 refine Eval.getfield rfl rfl own_g1_opCount ?_
 refine Eval.iconst (x := 1) rfl rfl ?_
 refine Eval.iadd rfl ?_
 refine Eval.putfield rfl rfl own_p1_opCount ?_
 cases h
 subst hk
 exact Eval.retH own_mk1 rfl rfl
def j_addOp (s : Q) (v1 v2 : Int32) : Option (Q) := (if s.f31 < (0:Int32) then some (s) else (if s.f31 < (6:Int32) then (if inb s.f8.length v1 = true then (j_addOp_b42 s v1 v2 s.f31 s.f31 (if (rd s.f8 v1) = (1:Int32) then (1:Int32) else (2:Int32))) else none) else some (s)))
set_option maxRecDepth 100000 in
theorem ev_j_addOp (R : AHeap) (s : Q) (v1 v2 : Int32) {res : Q} {out : Option Value × AHeap} (h : j_addOp s v1 v2 = some res) (hk : out = (none, (W1 res R))) : Eval own_P 27 0 [some (.ref 0), some (.int v1), some (.int v2), none] [] (W1 s R) out := by
 rw [j_addOp] at h
 refine Eval.aload_n rfl rfl ?_
 refine Eval.getfield rfl rfl own_g1_opCount ?_
 by_cases hc382 : s.f31 < (0:Int32)
 ·rw [if_pos hc382] at h
  refine Eval.ifT (t := 16) rfl rfl (tlt hc382).1 ?_
  cases h
  subst hk
  exact Eval.ret rfl rfl
 ·rw [if_neg hc382] at h
  refine Eval.ifF rfl (flt hc382).1 ?_
  refine Eval.aload_n rfl rfl ?_
  refine Eval.getfield rfl rfl own_g1_opCount ?_
  refine Eval.bipush (x := 6) rfl rfl ?_
  by_cases hc383 : s.f31 < (6:Int32)
  ·rw [if_pos hc383] at h
   refine Eval.icmpT (t := 17) rfl rfl (tlt hc383).1 ?_
   refine Eval.aload_n rfl rfl ?_
   refine Eval.getfield rfl rfl own_g1_opCount ?_
   refine Eval.istore_n (L' := [some (.ref 0), some (.int v1), some (.int v2), some (.int s.f31)]) rfl rfl ?_
   refine Eval.aload_n rfl rfl ?_
   refine Eval.getfield rfl rfl own_g1_opKind ?_
   refine Eval.iload_n rfl rfl ?_
   refine Eval.aload_n rfl rfl ?_
   refine Eval.getfield rfl rfl own_g1_evKind ?_
   refine Eval.iload_n rfl rfl ?_
   obtain ⟨hb384, h⟩ := ite_some h
   refine Eval.iaload rfl own_a1_evKind hb384 ?_
   refine Eval.iconst (x := 1) rfl rfl ?_
   suffices hJ386 : Eval own_P 27 42 [some (.ref 0), some (.int v1), some (.int v2), some (.int s.f31)] [.int (if (rd s.f8 v1) = (1:Int32) then (1:Int32) else (2:Int32)), .int s.f31, .ref 13] (W1 s R) out by
    by_cases hc385 : (rd s.f8 v1) = (1:Int32)
    ·refine Eval.icmpF rfl (teq hc385).2 ?_
     refine Eval.iconst (x := 1) rfl rfl ?_
     refine Eval.goto (t := 42) rfl rfl ?_
     exact (Eval.conv hJ386 rfl (by simp only [if_pos hc385]))
    ·refine Eval.icmpT (t := 41) rfl rfl (feq hc385).2 ?_
     refine Eval.iconst (x := 2) rfl rfl ?_
     exact (Eval.conv hJ386 rfl (by simp only [if_neg hc385]))
   exact ev_j_addOp_b42 R s v1 v2 s.f31 s.f31 (if (rd s.f8 v1) = (1:Int32) then (1:Int32) else (2:Int32)) h hk
  ·rw [if_neg hc383] at h
   refine Eval.icmpF rfl (flt hc383).1 ?_
   cases h
   subst hk
   exact Eval.ret rfl rfl
def j_parseOps_b80 (go_ : Q → Int32 → Option (Q)) (s : Q) (v1 v2 : Int32) : Option (Q) := ((j_addOp s v1 v2).bind fun p395 => (j_parseOps_b95 (go_) p395 v1))
set_option maxRecDepth 100000 in
theorem ev_j_parseOps_b80 (R : AHeap) (go_ : Q → Int32 → Option (Q)) (hrec : ∀ (s : Q) (v1 : Int32) {res : Q} {out : Option Value × AHeap}, go_ s v1 = some res → j_parseOps_l27_K R res out → Eval own_P 26 27 [some (.ref 0), some (.int v1), none] [] (W1 s R) out) (s : Q) (v1 v2 : Int32) {res : Q} {out : Option Value × AHeap} (h : j_parseOps_b80 go_ s v1 v2 = some res) (hk : j_parseOps_l27_K R res out) : Eval own_P 26 80 [some (.ref 0), some (.int v1), some (.int v2)] [] (W1 s R) out := by
 rw [j_parseOps_b80] at h
 refine Eval.aload_n rfl rfl ?_
 refine Eval.iload_n rfl rfl ?_
 refine Eval.iload_n rfl rfl ?_
 obtain ⟨p395, hq396, h⟩ := bind_some h
 refine Eval.callN (rest := []) (H1 := (W1 p395 R)) rfl rfl (ev_j_addOp R s v1 v2 hq396 rfl) ?_
 refine Eval.goto (t := 95) rfl rfl ?_
 refine Eval.weak (lw_mk 3 _) ?_
 exact ev_j_parseOps_b95 R _ hrec p395 v1 h hk
def j_closeOp_b59 (s : Q) (v1 v2 : Int32) (v3 w1 w2 : Int32) : Option (Q) := (if inb s.f16.length w1 = true then (if inb s.f10.length v1 = true then (if inb s.f17.length v3 = true then (if inb s.f19.length v2 = true then some ((Q.mk s.f0 s.f1 s.f2 s.f3 s.f4 s.f5 s.f6 s.f7 s.f8 s.f9 s.f10 s.f11 s.f12 s.f13 s.f14 s.f15 (wr s.f16 w1 w2) (wr s.f17 v3 (rd s.f10 v1)) s.f18 (wr s.f19 v2 (-1:Int32)) s.f20 s.f21 s.f22 s.f23 s.f24 s.f25 s.f26 s.f27 s.f28 s.f29 s.f30 s.f31 s.f32)) else none) else none) else none) else none)
set_option maxRecDepth 100000 in
theorem ev_j_closeOp_b59 (R : AHeap) (s : Q) (v1 v2 : Int32) (v3 w1 w2 : Int32) {res : Q} {out : Option Value × AHeap} (h : j_closeOp_b59 s v1 v2 v3 w1 w2 = some res) (hk : out = (none, (W1 res R))) : Eval own_P 28 59 [some (.ref 0), some (.int v1), some (.int v2), some (.int v3), none] [.int w2, .int w1, .ref 17] (W1 s R) out := by
 rw [j_closeOp_b59] at h
 obtain ⟨hb409, h⟩ := ite_some h
 refine Eval.iastore rfl rfl own_a1_opStatus hb409 own_s1_opStatus ?_
 refine Eval.aload_n rfl rfl ?_
 refine Eval.getfield rfl rfl own_g1_opRVal ?_
 refine Eval.iload_n rfl rfl ?_
 refine Eval.aload_n rfl rfl ?_
 refine Eval.getfield rfl rfl own_g1_evVal ?_
 refine Eval.iload_n rfl rfl ?_
 obtain ⟨hb410, h⟩ := ite_some h
 refine Eval.iaload rfl own_a1_evVal hb410 ?_
 obtain ⟨hb411, h⟩ := ite_some h
 refine Eval.iastore rfl rfl own_a1_opRVal hb411 own_s1_opRVal ?_
 refine Eval.aload_n rfl rfl ?_
 refine Eval.getfield rfl rfl own_g1_openOp ?_
 refine Eval.iload_n rfl rfl ?_
 refine Eval.iconst (x := -1) rfl rfl ?_
 obtain ⟨hb412, h⟩ := ite_some h
 refine Eval.iastore rfl rfl own_a1_openOp hb412 own_s1_openOp ?_
 cases h
 subst hk
 exact Eval.retH own_mk1 rfl rfl
def j_closeOp (s : Q) (v1 v2 : Int32) : Option (Q) := (if inb s.f19.length v2 = true then (if (rd s.f19 v2) < (0:Int32) then some (s) else (if (rd s.f19 v2) < (6:Int32) then (if inb s.f8.length v1 = true then (if inb s.f15.length (rd s.f19 v2) = true then (j_closeOp_b59 (Q.mk s.f0 s.f1 s.f2 s.f3 s.f4 s.f5 s.f6 s.f7 s.f8 s.f9 s.f10 s.f11 s.f12 s.f13 s.f14 (wr s.f15 (rd s.f19 v2) v1) s.f16 s.f17 s.f18 s.f19 s.f20 s.f21 s.f22 s.f23 s.f24 s.f25 s.f26 s.f27 s.f28 s.f29 s.f30 s.f31 s.f32) v1 v2 (rd s.f19 v2) (rd s.f19 v2) (if (rd s.f8 v1) = (4:Int32) then (2:Int32) else (if (rd s.f8 v1) = (5:Int32) then (3:Int32) else (1:Int32)))) else none) else none) else some (s))) else none)
set_option maxRecDepth 100000 in
theorem ev_j_closeOp (R : AHeap) (s : Q) (v1 v2 : Int32) {res : Q} {out : Option Value × AHeap} (h : j_closeOp s v1 v2 = some res) (hk : out = (none, (W1 res R))) : Eval own_P 28 0 [some (.ref 0), some (.int v1), some (.int v2), none, none] [] (W1 s R) out := by
 rw [j_closeOp] at h
 refine Eval.aload_n rfl rfl ?_
 refine Eval.getfield rfl rfl own_g1_openOp ?_
 refine Eval.iload_n rfl rfl ?_
 obtain ⟨hb401, h⟩ := ite_some h
 refine Eval.iaload rfl own_a1_openOp hb401 ?_
 refine Eval.istore_n (L' := [some (.ref 0), some (.int v1), some (.int v2), some (.int (rd s.f19 v2)), none]) rfl rfl ?_
 refine Eval.iload_n rfl rfl ?_
 by_cases hc402 : (rd s.f19 v2) < (0:Int32)
 ·rw [if_pos hc402] at h
  refine Eval.ifT (t := 17) rfl rfl (tlt hc402).1 ?_
  cases h
  subst hk
  exact Eval.ret rfl rfl
 ·rw [if_neg hc402] at h
  refine Eval.ifF rfl (flt hc402).1 ?_
  refine Eval.iload_n rfl rfl ?_
  refine Eval.bipush (x := 6) rfl rfl ?_
  by_cases hc403 : (rd s.f19 v2) < (6:Int32)
  ·rw [if_pos hc403] at h
   refine Eval.icmpT (t := 18) rfl rfl (tlt hc403).1 ?_
   refine Eval.aload_n rfl rfl ?_
   refine Eval.getfield rfl rfl own_g1_evKind ?_
   refine Eval.iload_n rfl rfl ?_
   obtain ⟨hb404, h⟩ := ite_some h
   refine Eval.iaload rfl own_a1_evKind hb404 ?_
   refine Eval.istore (L' := [some (.ref 0), some (.int v1), some (.int v2), some (.int (rd s.f19 v2)), some (.int (rd s.f8 v1))]) rfl rfl ?_
   refine Eval.aload_n rfl rfl ?_
   refine Eval.getfield rfl rfl own_g1_opRes ?_
   refine Eval.iload_n rfl rfl ?_
   refine Eval.iload_n rfl rfl ?_
   obtain ⟨hb405, h⟩ := ite_some h
   refine Eval.iastore rfl rfl own_a1_opRes hb405 own_s1_opRes ?_
   refine Eval.aload_n rfl rfl ?_
   refine Eval.getfield rfl rfl own_g1_opStatus ?_
   refine Eval.iload_n rfl rfl ?_
   refine Eval.iload rfl rfl ?_
   refine Eval.iconst (x := 4) rfl rfl ?_
   suffices hJ408 : Eval own_P 28 59 [some (.ref 0), some (.int v1), some (.int v2), some (.int (rd s.f19 v2)), none] [.int (if (rd s.f8 v1) = (4:Int32) then (2:Int32) else (if (rd s.f8 v1) = (5:Int32) then (3:Int32) else (1:Int32))), .int (rd s.f19 v2), .ref 17] (C1 s.f0 s.f1 s.f2 s.f3 s.f4 s.f5 s.f6 s.f7 s.f8 s.f9 s.f10 s.f11 s.f12 s.f13 s.f14 (wr s.f15 (rd s.f19 v2) v1) s.f16 s.f17 s.f18 s.f19 s.f20 s.f21 s.f22 s.f23 s.f24 s.f25 s.f26 s.f27 s.f28 s.f29 s.f30 s.f31 s.f32 R) out by
    by_cases hc406 : (rd s.f8 v1) = (4:Int32)
    ·refine Eval.icmpF rfl (teq hc406).2 ?_
     refine Eval.iconst (x := 2) rfl rfl ?_
     refine Eval.goto (t := 59) rfl rfl ?_
     refine Eval.weak (lw_mk 15 _) ?_
     exact (Eval.conv hJ408 rfl (by simp only [if_pos hc406]))
    ·refine Eval.icmpT (t := 48) rfl rfl (feq hc406).2 ?_
     refine Eval.iload rfl rfl ?_
     refine Eval.iconst (x := 5) rfl rfl ?_
     by_cases hc407 : (rd s.f8 v1) = (5:Int32)
     ·refine Eval.icmpF rfl (teq hc407).2 ?_
      refine Eval.iconst (x := 3) rfl rfl ?_
      refine Eval.goto (t := 59) rfl rfl ?_
      refine Eval.weak (lw_mk 15 _) ?_
      exact (Eval.conv hJ408 rfl (by simp only [if_neg hc406, if_pos hc407]))
     ·refine Eval.icmpT (t := 58) rfl rfl (feq hc407).2 ?_
      refine Eval.iconst (x := 1) rfl rfl ?_
      refine Eval.weak (lw_mk 15 _) ?_
      exact (Eval.conv hJ408 rfl (by simp only [if_neg hc406, if_neg hc407]))
   refine Eval.heap own_mk1 ?_
   exact ev_j_closeOp_b59 R (Q.mk s.f0 s.f1 s.f2 s.f3 s.f4 s.f5 s.f6 s.f7 s.f8 s.f9 s.f10 s.f11 s.f12 s.f13 s.f14 (wr s.f15 (rd s.f19 v2) v1) s.f16 s.f17 s.f18 s.f19 s.f20 s.f21 s.f22 s.f23 s.f24 s.f25 s.f26 s.f27 s.f28 s.f29 s.f30 s.f31 s.f32) v1 v2 (rd s.f19 v2) (rd s.f19 v2) (if (rd s.f8 v1) = (4:Int32) then (2:Int32) else (if (rd s.f8 v1) = (5:Int32) then (3:Int32) else (1:Int32))) h hk
  ·rw [if_neg hc403] at h
   refine Eval.icmpF rfl (flt hc403).1 ?_
   cases h
   subst hk
   exact Eval.ret rfl rfl
def j_parseOps_l27 : Nat → Q → Int32 → Option (Q)
  | 0, _, _ => none
  | n + 1, s, v1 => (if v1 < (64:Int32) then (if v1 < s.f29 then (if inb s.f9.length v1 = true then (if (rd s.f9 v1) < (0:Int32) then (j_parseOps_b95 (j_parseOps_l27 n) s v1) else (if (3:Int32) < (rd s.f9 v1) then (j_parseOps_b95 (j_parseOps_l27 n) s v1) else (if inb s.f8.length v1 = true then (if (rd s.f8 v1) = (1:Int32) then (j_parseOps_b80 (j_parseOps_l27 n) s v1 (rd s.f9 v1)) else (if inb s.f8.length v1 = true then (if (rd s.f8 v1) = (2:Int32) then (j_parseOps_b80 (j_parseOps_l27 n) s v1 (rd s.f9 v1)) else ((j_closeOp s v1 (rd s.f9 v1)).bind fun p413 => (j_parseOps_b95 (j_parseOps_l27 n) p413 v1))) else none)) else none))) else none) else some (s)) else some (s))
set_option maxRecDepth 100000 in
theorem ev_j_parseOps_l27 (R : AHeap) : ∀ (n : Nat) (s : Q) (v1 : Int32) {res : Q} {out : Option Value × AHeap}, j_parseOps_l27 n s v1 = some res → j_parseOps_l27_K R res out → Eval own_P 26 27 [some (.ref 0), some (.int v1), none] [] (W1 s R) out := by
 intro n
 induction n with
 | zero => intro _ _ res out h hk; cases h
 | succ n hrec =>
  intro s v1 res out h hk
  rw [j_parseOps_l27] at h
  refine Eval.iload_n rfl rfl ?_
  refine Eval.bipush (x := 64) rfl rfl ?_
  by_cases hc371 : v1 < (64:Int32)
  ·rw [if_pos hc371] at h
   refine Eval.icmpF rfl (tlt hc371).2.1 ?_
   refine Eval.iload_n rfl rfl ?_
   refine Eval.aload_n rfl rfl ?_
   refine Eval.getfield rfl rfl own_g1_histLen ?_
   by_cases hc372 : v1 < s.f29
   ·rw [if_pos hc372] at h
    refine Eval.icmpF rfl (tlt hc372).2.1 ?_
    refine Eval.aload_n rfl rfl ?_
    refine Eval.getfield rfl rfl own_g1_evThread ?_
    refine Eval.iload_n rfl rfl ?_
    obtain ⟨hb373, h⟩ := ite_some h
    refine Eval.iaload rfl own_a1_evThread hb373 ?_
    refine Eval.istore_n (L' := [some (.ref 0), some (.int v1), some (.int (rd s.f9 v1))]) rfl rfl ?_
    refine Eval.iload_n rfl rfl ?_
    by_cases hc376 : (rd s.f9 v1) < (0:Int32)
    ·rw [if_pos hc376] at h
     refine Eval.ifT (t := 95) rfl rfl (tlt hc376).1 ?_
     refine Eval.weak (lw_mk 3 _) ?_
     exact ev_j_parseOps_b95 R _ hrec s v1 h hk
    ·rw [if_neg hc376] at h
     refine Eval.ifF rfl (flt hc376).1 ?_
     refine Eval.iload_n rfl rfl ?_
     refine Eval.iconst (x := 3) rfl rfl ?_
     by_cases hc378 : (3:Int32) < (rd s.f9 v1)
     ·rw [if_pos hc378] at h
      refine Eval.icmpF rfl (tlt hc378).2.2.2 ?_
      refine Eval.goto (t := 95) rfl rfl ?_
      refine Eval.weak (lw_mk 3 _) ?_
      exact ev_j_parseOps_b95 R _ hrec s v1 h hk
     ·rw [if_neg hc378] at h
      refine Eval.icmpT (t := 60) rfl rfl (flt hc378).2.2.2 ?_
      refine Eval.aload_n rfl rfl ?_
      refine Eval.getfield rfl rfl own_g1_evKind ?_
      refine Eval.iload_n rfl rfl ?_
      obtain ⟨hb379, h⟩ := ite_some h
      refine Eval.iaload rfl own_a1_evKind hb379 ?_
      refine Eval.iconst (x := 1) rfl rfl ?_
      by_cases hc381 : (rd s.f8 v1) = (1:Int32)
      ·rw [if_pos hc381] at h
       refine Eval.icmpT (t := 80) rfl rfl (teq hc381).1 ?_
       exact ev_j_parseOps_b80 R _ hrec s v1 (rd s.f9 v1) h hk
      ·rw [if_neg hc381] at h
       refine Eval.icmpF rfl (feq hc381).1 ?_
       refine Eval.aload_n rfl rfl ?_
       refine Eval.getfield rfl rfl own_g1_evKind ?_
       refine Eval.iload_n rfl rfl ?_
       obtain ⟨hb398, h⟩ := ite_some h
       refine Eval.iaload rfl own_a1_evKind hb398 ?_
       refine Eval.iconst (x := 2) rfl rfl ?_
       by_cases hc400 : (rd s.f8 v1) = (2:Int32)
       ·rw [if_pos hc400] at h
        refine Eval.icmpF rfl (teq hc400).2 ?_
        exact ev_j_parseOps_b80 R _ hrec s v1 (rd s.f9 v1) h hk
       ·rw [if_neg hc400] at h
        refine Eval.icmpT (t := 89) rfl rfl (feq hc400).2 ?_
        refine Eval.aload_n rfl rfl ?_
        refine Eval.iload_n rfl rfl ?_
        refine Eval.iload_n rfl rfl ?_
        obtain ⟨p413, hq414, h⟩ := bind_some h
        refine Eval.callN (rest := []) (H1 := (W1 p413 R)) rfl rfl (ev_j_closeOp R s v1 (rd s.f9 v1) hq414 rfl) ?_
        refine Eval.weak (lw_mk 3 _) ?_
        exact ev_j_parseOps_b95 R _ hrec p413 v1 h hk
   ·rw [if_neg hc372] at h
    refine Eval.icmpT (t := 101) rfl rfl (flt hc372).2.1 ?_
    cases h
    refine Eval.weak (lw_mk 0 _) ?_
    exact hk
  ·rw [if_neg hc371] at h
   refine Eval.icmpT (t := 101) rfl rfl (flt hc371).2.1 ?_
   cases h
   refine Eval.weak (lw_mk 0 _) ?_
   exact hk
def j_parseOps (s : Q) : Option (Q) := ((j_parseOps_l7 3000 (Q.mk s.f0 s.f1 s.f2 s.f3 s.f4 s.f5 s.f6 s.f7 s.f8 s.f9 s.f10 s.f11 s.f12 s.f13 s.f14 s.f15 s.f16 s.f17 s.f18 s.f19 s.f20 s.f21 s.f22 s.f23 s.f24 s.f25 s.f26 s.f27 s.f28 s.f29 s.f30 (0:Int32) s.f32) (0:Int32)).bind fun p368 => ((j_parseOps_l27 3000 p368 (0:Int32)).bind fun p416 => some (p416)))
set_option maxRecDepth 100000 in
theorem ev_j_parseOps (R : AHeap) (s : Q) {res : Q} {out : Option Value × AHeap} (h : j_parseOps s = some res) (hk : out = (none, (W1 res R))) : Eval own_P 26 0 [some (.ref 0), none, none] [] (W1 s R) out := by
 rw [j_parseOps] at h
 refine Eval.aload_n rfl rfl ?_
 refine Eval.iconst (x := 0) rfl rfl ?_
 refine Eval.putfield rfl rfl own_p1_opCount ?_
 refine Eval.iconst (x := 0) rfl rfl ?_
 refine Eval.istore_n (L' := [some (.ref 0), some (.int 0), none]) rfl rfl ?_
 refine Eval.heap own_mk1 ?_
 obtain ⟨p368, hq369, h⟩ := bind_some h
 refine ev_j_parseOps_l7 R _ (Q.mk s.f0 s.f1 s.f2 s.f3 s.f4 s.f5 s.f6 s.f7 s.f8 s.f9 s.f10 s.f11 s.f12 s.f13 s.f14 s.f15 s.f16 s.f17 s.f18 s.f19 s.f20 s.f21 s.f22 s.f23 s.f24 s.f25 s.f26 s.f27 s.f28 s.f29 s.f30 (0:Int32) s.f32) (0:Int32) hq369 ?_
 show Eval own_P 26 25 [some (.ref 0), none, none] [] (W1 p368 R) out
 refine Eval.iconst (x := 0) rfl rfl ?_
 refine Eval.istore_n (L' := [some (.ref 0), some (.int 0), none]) rfl rfl ?_
 obtain ⟨p416, hq417, h⟩ := bind_some h
 refine ev_j_parseOps_l27 R _ p368 (0:Int32) hq417 ?_
 show Eval own_P 26 101 [none, none, none] [] (W1 p416 R) out
 cases h
 subst hk
 exact Eval.ret rfl rfl
abbrev j_buildPreds_l7_K (R : AHeap) (res : Q) (out : Option Value × AHeap) : Prop := Eval own_P 29 55 [some (.ref 0), none, none] [] (W1 res R) out

abbrev j_buildPreds_l7_N (s res : Q) : Prop := Q.len res = Q.len s
def j_buildPreds_b49 (go_ : Q → Int32 → Option (Q)) (s : Q) (v1 : Int32) : Option (Q) := (go_ s (v1 + (1:Int32)))
set_option maxRecDepth 100000 in
theorem ev_j_buildPreds_b49 (R : AHeap) (go_ : Q → Int32 → Option (Q)) (hrec : ∀ (s : Q) (v1 : Int32) {res : Q} {out : Option Value × AHeap}, go_ s v1 = some res → j_buildPreds_l7_K R res out → Eval own_P 29 7 [some (.ref 0), some (.int v1), none] [] (W1 s R) out) (s : Q) (v1 : Int32) {res : Q} {out : Option Value × AHeap} (h : j_buildPreds_b49 go_ s v1 = some res) (hk : j_buildPreds_l7_K R res out) : Eval own_P 29 49 [some (.ref 0), some (.int v1), none] [] (W1 s R) out := by
 rw [j_buildPreds_b49] at h
 refine Eval.iinc (L' := [some (.ref 0), some (.int (v1 + (1:Int32))), none]) rfl rfl rfl ?_
 refine Eval.goto (t := 7) rfl rfl ?_
 exact hrec _ _ h hk
def j_buildPreds_l7 : Nat → Q → Int32 → Option (Q)
  | 0, _, _ => none
  | n + 1, s, v1 => (if v1 < (6:Int32) then (if v1 < s.f31 then (if inb s.f18.length v1 = true then (if inb s.f15.length v1 = true then (if (rd s.f15 v1) < (0:Int32) then (j_buildPreds_b49 (j_buildPreds_l7 n) (Q.mk s.f0 s.f1 s.f2 s.f3 s.f4 s.f5 s.f6 s.f7 s.f8 s.f9 s.f10 s.f11 s.f12 s.f13 s.f14 s.f15 s.f16 s.f17 (wr s.f18 v1 (0:Int32)) s.f19 s.f20 s.f21 s.f22 s.f23 s.f24 s.f25 s.f26 s.f27 s.f28 s.f29 s.f30 s.f31 s.f32) v1) else (j_buildPreds_b49 (j_buildPreds_l7 n) (Q.mk s.f0 s.f1 s.f2 s.f3 s.f4 s.f5 s.f6 s.f7 s.f8 s.f9 s.f10 s.f11 s.f12 s.f13 s.f14 s.f15 s.f16 s.f17 (wr s.f18 v1 (0:Int32)) s.f19 s.f20 s.f21 s.f22 s.f23 s.f24 s.f25 s.f26 s.f27 s.f28 s.f29 s.f30 s.f31 (s.f32 ||| (ish (1:Int32) v1))) v1)) else none) else none) else some (s)) else some (s))
set_option maxRecDepth 100000 in
theorem ev_j_buildPreds_l7 (R : AHeap) : ∀ (n : Nat) (s : Q) (v1 : Int32) {res : Q} {out : Option Value × AHeap}, j_buildPreds_l7 n s v1 = some res → j_buildPreds_l7_K R res out → Eval own_P 29 7 [some (.ref 0), some (.int v1), none] [] (W1 s R) out := by
 intro n
 induction n with
 | zero => intro _ _ res out h hk; cases h
 | succ n hrec =>
  intro s v1 res out h hk
  rw [j_buildPreds_l7] at h
  refine Eval.iload_n rfl rfl ?_
  refine Eval.bipush (x := 6) rfl rfl ?_
  by_cases hc422 : v1 < (6:Int32)
  ·rw [if_pos hc422] at h
   refine Eval.icmpF rfl (tlt hc422).2.1 ?_
   refine Eval.iload_n rfl rfl ?_
   refine Eval.aload_n rfl rfl ?_
   refine Eval.getfield rfl rfl own_g1_opCount ?_
   by_cases hc423 : v1 < s.f31
   ·rw [if_pos hc423] at h
    refine Eval.icmpF rfl (tlt hc423).2.1 ?_
    refine Eval.aload_n rfl rfl ?_
    refine Eval.getfield rfl rfl own_g1_predMask ?_
    refine Eval.iload_n rfl rfl ?_
    refine Eval.iconst (x := 0) rfl rfl ?_
    obtain ⟨hb424, h⟩ := ite_some h
    refine Eval.iastore rfl rfl own_a1_predMask hb424 own_s1_predMask ?_
    refine Eval.aload_n rfl rfl ?_
    refine Eval.getfield rfl rfl own_g1_opRes ?_
    refine Eval.iload_n rfl rfl ?_
    obtain ⟨hb425, h⟩ := ite_some h
    refine Eval.iaload rfl own_a1_opRes hb425 ?_
    by_cases hc427 : (rd s.f15 v1) < (0:Int32)
    ·rw [if_pos hc427] at h
     refine Eval.ifT (t := 49) rfl rfl (tlt hc427).1 ?_
     refine Eval.heap own_mk1 ?_
     exact ev_j_buildPreds_b49 R _ hrec (Q.mk s.f0 s.f1 s.f2 s.f3 s.f4 s.f5 s.f6 s.f7 s.f8 s.f9 s.f10 s.f11 s.f12 s.f13 s.f14 s.f15 s.f16 s.f17 (wr s.f18 v1 (0:Int32)) s.f19 s.f20 s.f21 s.f22 s.f23 s.f24 s.f25 s.f26 s.f27 s.f28 s.f29 s.f30 s.f31 s.f32) v1 h hk
    ·rw [if_neg hc427] at h
     refine Eval.ifF rfl (flt hc427).1 ?_
     refine Eval.aload_n rfl rfl ?_
     refine Eval.dupR rfl ?_
     refine Eval.getfield rfl rfl own_g1_completeMask ?_
     refine Eval.iconst (x := 1) rfl rfl ?_
     refine Eval.iload_n rfl rfl ?_
     refine Eval.ishl rfl ?_
     refine Eval.ior rfl ?_
     refine Eval.putfield rfl rfl own_p1_completeMask ?_
     refine Eval.heap own_mk1 ?_
     exact ev_j_buildPreds_b49 R _ hrec (Q.mk s.f0 s.f1 s.f2 s.f3 s.f4 s.f5 s.f6 s.f7 s.f8 s.f9 s.f10 s.f11 s.f12 s.f13 s.f14 s.f15 s.f16 s.f17 (wr s.f18 v1 (0:Int32)) s.f19 s.f20 s.f21 s.f22 s.f23 s.f24 s.f25 s.f26 s.f27 s.f28 s.f29 s.f30 s.f31 (s.f32 ||| (ish (1:Int32) v1))) v1 h hk
   ·rw [if_neg hc423] at h
    refine Eval.icmpT (t := 55) rfl rfl (flt hc423).2.1 ?_
    cases h
    refine Eval.weak (lw_mk 1 _) ?_
    exact hk
  ·rw [if_neg hc422] at h
   refine Eval.icmpT (t := 55) rfl rfl (flt hc422).2.1 ?_
   cases h
   refine Eval.weak (lw_mk 1 _) ?_
   exact hk
abbrev j_buildPreds_l57_K (R : AHeap) (res : Q) (out : Option Value × AHeap) : Prop := Eval own_P 29 140 [none, none, none] [] (W1 res R) out

abbrev j_buildPreds_l57_N (s res : Q) : Prop := Q.len res = Q.len s
abbrev j_buildPreds_l73_K (R : AHeap) (res : Int32 × Q) (out : Option Value × AHeap) : Prop := Eval own_P 29 134 [some (.ref 0), some (.int res.1), none] [] (W1 res.2 R) out

abbrev j_buildPreds_l73_N (s : Q) (res : Int32 × Q) : Prop := Q.len res.2 = Q.len s
def j_buildPreds_b128 (go_ : Q → Int32 → Int32 → Option (Int32 × Q)) (s : Q) (v1 v2 : Int32) : Option (Int32 × Q) := (go_ s v1 (v2 + (1:Int32)))
set_option maxRecDepth 100000 in
theorem ev_j_buildPreds_b128 (R : AHeap) (go_ : Q → Int32 → Int32 → Option (Int32 × Q)) (hrec : ∀ (s : Q) (v1 v2 : Int32) {res : Int32 × Q} {out : Option Value × AHeap}, go_ s v1 v2 = some res → j_buildPreds_l73_K R res out → Eval own_P 29 73 [some (.ref 0), some (.int v1), some (.int v2)] [] (W1 s R) out) (s : Q) (v1 v2 : Int32) {res : Int32 × Q} {out : Option Value × AHeap} (h : j_buildPreds_b128 go_ s v1 v2 = some res) (hk : j_buildPreds_l73_K R res out) : Eval own_P 29 128 [some (.ref 0), some (.int v1), some (.int v2)] [] (W1 s R) out := by
 rw [j_buildPreds_b128] at h
 refine Eval.iinc (L' := [some (.ref 0), some (.int v1), some (.int (v2 + (1:Int32)))]) rfl rfl rfl ?_
 refine Eval.goto (t := 73) rfl rfl ?_
 exact hrec _ _ _ h hk
def j_buildPreds_l73 : Nat → Q → Int32 → Int32 → Option (Int32 × Q)
  | 0, _, _, _ => none
  | n + 1, s, v1, v2 => (if v2 < (6:Int32) then (if v2 < s.f31 then (if v2 = v1 then (j_buildPreds_b128 (j_buildPreds_l73 n) s v1 v2) else (if inb s.f15.length v2 = true then (if (rd s.f15 v2) < (0:Int32) then (j_buildPreds_b128 (j_buildPreds_l73 n) s v1 v2) else (if inb s.f15.length v2 = true then (if inb s.f14.length v1 = true then (if (rd s.f15 v2) < (rd s.f14 v1) then (if inb s.f18.length v1 = true then (if inb s.f18.length v1 = true then (j_buildPreds_b128 (j_buildPreds_l73 n) (Q.mk s.f0 s.f1 s.f2 s.f3 s.f4 s.f5 s.f6 s.f7 s.f8 s.f9 s.f10 s.f11 s.f12 s.f13 s.f14 s.f15 s.f16 s.f17 (wr s.f18 v1 ((rd s.f18 v1) ||| (ish (1:Int32) v2))) s.f19 s.f20 s.f21 s.f22 s.f23 s.f24 s.f25 s.f26 s.f27 s.f28 s.f29 s.f30 s.f31 s.f32) v1 v2) else none) else none) else (j_buildPreds_b128 (j_buildPreds_l73 n) s v1 v2)) else none) else none)) else none)) else some (v1, s)) else some (v1, s))
set_option maxRecDepth 100000 in
theorem ev_j_buildPreds_l73 (R : AHeap) : ∀ (n : Nat) (s : Q) (v1 v2 : Int32) {res : Int32 × Q} {out : Option Value × AHeap}, j_buildPreds_l73 n s v1 v2 = some res → j_buildPreds_l73_K R res out → Eval own_P 29 73 [some (.ref 0), some (.int v1), some (.int v2)] [] (W1 s R) out := by
 intro n
 induction n with
 | zero => intro _ _ _ res out h hk; cases h
 | succ n hrec =>
  intro s v1 v2 res out h hk
  rw [j_buildPreds_l73] at h
  refine Eval.iload_n rfl rfl ?_
  refine Eval.bipush (x := 6) rfl rfl ?_
  by_cases hc433 : v2 < (6:Int32)
  ·rw [if_pos hc433] at h
   refine Eval.icmpF rfl (tlt hc433).2.1 ?_
   refine Eval.iload_n rfl rfl ?_
   refine Eval.aload_n rfl rfl ?_
   refine Eval.getfield rfl rfl own_g1_opCount ?_
   by_cases hc434 : v2 < s.f31
   ·rw [if_pos hc434] at h
    refine Eval.icmpF rfl (tlt hc434).2.1 ?_
    refine Eval.iload_n rfl rfl ?_
    refine Eval.iload_n rfl rfl ?_
    by_cases hc436 : v2 = v1
    ·rw [if_pos hc436] at h
     refine Eval.icmpT (t := 128) rfl rfl (teq hc436).1 ?_
     exact ev_j_buildPreds_b128 R _ hrec s v1 v2 h hk
    ·rw [if_neg hc436] at h
     refine Eval.icmpF rfl (feq hc436).1 ?_
     refine Eval.aload_n rfl rfl ?_
     refine Eval.getfield rfl rfl own_g1_opRes ?_
     refine Eval.iload_n rfl rfl ?_
     obtain ⟨hb437, h⟩ := ite_some h
     refine Eval.iaload rfl own_a1_opRes hb437 ?_
     by_cases hc439 : (rd s.f15 v2) < (0:Int32)
     ·rw [if_pos hc439] at h
      refine Eval.ifT (t := 128) rfl rfl (tlt hc439).1 ?_
      exact ev_j_buildPreds_b128 R _ hrec s v1 v2 h hk
     ·rw [if_neg hc439] at h
      refine Eval.ifF rfl (flt hc439).1 ?_
      refine Eval.aload_n rfl rfl ?_
      refine Eval.getfield rfl rfl own_g1_opRes ?_
      refine Eval.iload_n rfl rfl ?_
      obtain ⟨hb440, h⟩ := ite_some h
      refine Eval.iaload rfl own_a1_opRes hb440 ?_
      refine Eval.aload_n rfl rfl ?_
      refine Eval.getfield rfl rfl own_g1_opInv ?_
      refine Eval.iload_n rfl rfl ?_
      obtain ⟨hb441, h⟩ := ite_some h
      refine Eval.iaload rfl own_a1_opInv hb441 ?_
      by_cases hc443 : (rd s.f15 v2) < (rd s.f14 v1)
      ·rw [if_pos hc443] at h
       refine Eval.icmpF rfl (tlt hc443).2.1 ?_
       refine Eval.aload_n rfl rfl ?_
       refine Eval.getfield rfl rfl own_g1_predMask ?_
       refine Eval.iload_n rfl rfl ?_
       refine Eval.dup2 rfl ?_
       obtain ⟨hb444, h⟩ := ite_some h
       refine Eval.iaload rfl own_a1_predMask hb444 ?_
       refine Eval.iconst (x := 1) rfl rfl ?_
       refine Eval.iload_n rfl rfl ?_
       refine Eval.ishl rfl ?_
       refine Eval.ior rfl ?_
       obtain ⟨hb445, h⟩ := ite_some h
       refine Eval.iastore rfl rfl own_a1_predMask hb445 own_s1_predMask ?_
       refine Eval.heap own_mk1 ?_
       exact ev_j_buildPreds_b128 R _ hrec (Q.mk s.f0 s.f1 s.f2 s.f3 s.f4 s.f5 s.f6 s.f7 s.f8 s.f9 s.f10 s.f11 s.f12 s.f13 s.f14 s.f15 s.f16 s.f17 (wr s.f18 v1 ((rd s.f18 v1) ||| (ish (1:Int32) v2))) s.f19 s.f20 s.f21 s.f22 s.f23 s.f24 s.f25 s.f26 s.f27 s.f28 s.f29 s.f30 s.f31 s.f32) v1 v2 h hk
      ·rw [if_neg hc443] at h
       refine Eval.icmpT (t := 128) rfl rfl (flt hc443).2.1 ?_
       exact ev_j_buildPreds_b128 R _ hrec s v1 v2 h hk
   ·rw [if_neg hc434] at h
    refine Eval.icmpT (t := 134) rfl rfl (flt hc434).2.1 ?_
    cases h
    refine Eval.weak (lw_mk 3 _) ?_
    exact hk
  ·rw [if_neg hc433] at h
   refine Eval.icmpT (t := 134) rfl rfl (flt hc433).2.1 ?_
   cases h
   refine Eval.weak (lw_mk 3 _) ?_
   exact hk
def j_buildPreds_l57 : Nat → Q → Int32 → Option (Q)
  | 0, _, _ => none
  | n + 1, s, v1 => (if v1 < (6:Int32) then (if v1 < s.f31 then ((j_buildPreds_l73 3000 s v1 (0:Int32)).bind fun p446 => (j_buildPreds_l57 n p446.2 (p446.1 + (1:Int32)))) else some (s)) else some (s))
set_option maxRecDepth 100000 in
theorem ev_j_buildPreds_l57 (R : AHeap) : ∀ (n : Nat) (s : Q) (v1 : Int32) {res : Q} {out : Option Value × AHeap}, j_buildPreds_l57 n s v1 = some res → j_buildPreds_l57_K R res out → Eval own_P 29 57 [some (.ref 0), some (.int v1), none] [] (W1 s R) out := by
 intro n
 induction n with
 | zero => intro _ _ res out h hk; cases h
 | succ n hrec =>
  intro s v1 res out h hk
  rw [j_buildPreds_l57] at h
  refine Eval.iload_n rfl rfl ?_
  refine Eval.bipush (x := 6) rfl rfl ?_
  by_cases hc431 : v1 < (6:Int32)
  ·rw [if_pos hc431] at h
   refine Eval.icmpF rfl (tlt hc431).2.1 ?_
   refine Eval.iload_n rfl rfl ?_
   refine Eval.aload_n rfl rfl ?_
   refine Eval.getfield rfl rfl own_g1_opCount ?_
   by_cases hc432 : v1 < s.f31
   ·rw [if_pos hc432] at h
    refine Eval.icmpF rfl (tlt hc432).2.1 ?_
    refine Eval.iconst (x := 0) rfl rfl ?_
    refine Eval.istore_n (L' := [some (.ref 0), some (.int v1), some (.int 0)]) rfl rfl ?_
    obtain ⟨p446, hq447, h⟩ := bind_some h
    refine ev_j_buildPreds_l73 R _ s v1 (0:Int32) hq447 ?_
    show Eval own_P 29 134 [some (.ref 0), some (.int p446.1), none] [] (W1 p446.2 R) out
    refine Eval.iinc (L' := [some (.ref 0), some (.int (p446.1 + (1:Int32))), none]) rfl rfl rfl ?_
    refine Eval.goto (t := 57) rfl rfl ?_
    exact hrec _ _ h hk
   ·rw [if_neg hc432] at h
    refine Eval.icmpT (t := 140) rfl rfl (flt hc432).2.1 ?_
    cases h
    refine Eval.weak (lw_mk 0 _) ?_
    exact hk
  ·rw [if_neg hc431] at h
   refine Eval.icmpT (t := 140) rfl rfl (flt hc431).2.1 ?_
   cases h
   refine Eval.weak (lw_mk 0 _) ?_
   exact hk
def j_buildPreds (s : Q) : Option (Q) := ((j_buildPreds_l7 3000 (Q.mk s.f0 s.f1 s.f2 s.f3 s.f4 s.f5 s.f6 s.f7 s.f8 s.f9 s.f10 s.f11 s.f12 s.f13 s.f14 s.f15 s.f16 s.f17 s.f18 s.f19 s.f20 s.f21 s.f22 s.f23 s.f24 s.f25 s.f26 s.f27 s.f28 s.f29 s.f30 s.f31 (0:Int32)) (0:Int32)).bind fun p428 => ((j_buildPreds_l57 3000 p428 (0:Int32)).bind fun p449 => some (p449)))
set_option maxRecDepth 100000 in
theorem ev_j_buildPreds (R : AHeap) (s : Q) {res : Q} {out : Option Value × AHeap} (h : j_buildPreds s = some res) (hk : out = (none, (W1 res R))) : Eval own_P 29 0 [some (.ref 0), none, none] [] (W1 s R) out := by
 rw [j_buildPreds] at h
 refine Eval.aload_n rfl rfl ?_
 refine Eval.iconst (x := 0) rfl rfl ?_
 refine Eval.putfield rfl rfl own_p1_completeMask ?_
 refine Eval.iconst (x := 0) rfl rfl ?_
 refine Eval.istore_n (L' := [some (.ref 0), some (.int 0), none]) rfl rfl ?_
 refine Eval.heap own_mk1 ?_
 obtain ⟨p428, hq429, h⟩ := bind_some h
 refine ev_j_buildPreds_l7 R _ (Q.mk s.f0 s.f1 s.f2 s.f3 s.f4 s.f5 s.f6 s.f7 s.f8 s.f9 s.f10 s.f11 s.f12 s.f13 s.f14 s.f15 s.f16 s.f17 s.f18 s.f19 s.f20 s.f21 s.f22 s.f23 s.f24 s.f25 s.f26 s.f27 s.f28 s.f29 s.f30 s.f31 (0:Int32)) (0:Int32) hq429 ?_
 show Eval own_P 29 55 [some (.ref 0), none, none] [] (W1 p428 R) out
 refine Eval.iconst (x := 0) rfl rfl ?_
 refine Eval.istore_n (L' := [some (.ref 0), some (.int 0), none]) rfl rfl ?_
 obtain ⟨p449, hq450, h⟩ := bind_some h
 refine ev_j_buildPreds_l57 R _ p428 (0:Int32) hq450 ?_
 show Eval own_P 29 140 [none, none, none] [] (W1 p449 R) out
 cases h
 subst hk
 exact Eval.ret rfl rfl
abbrev j_search_l21_K (R : AHeap) (res : Q) (out : Option Value × AHeap) : Prop := Eval own_P 30 53 [some (.ref 0), none, none, none, none] [] (W1 res R) out

abbrev j_search_l21_N (s res : Q) : Prop := Q.len res = Q.len s
def j_search_l21 : Nat → Q → Int32 → Option (Q)
  | 0, _, _ => none
  | n + 1, s, v1 => (if v1 < (8:Int32) then (if v1 < s.f30 then (if inb s.f11.length v1 = true then (if inb s.f20.length v1 = true then (j_search_l21 n (Q.mk s.f0 s.f1 s.f2 s.f3 s.f4 s.f5 s.f6 s.f7 s.f8 s.f9 s.f10 s.f11 s.f12 s.f13 s.f14 s.f15 s.f16 s.f17 s.f18 s.f19 (wr s.f20 v1 (rd s.f11 v1)) s.f21 s.f22 s.f23 s.f24 s.f25 s.f26 s.f27 s.f28 s.f29 s.f30 s.f31 s.f32) (v1 + (1:Int32))) else none) else none) else some (s)) else some (s))
set_option maxRecDepth 100000 in
theorem ev_j_search_l21 (R : AHeap) : ∀ (n : Nat) (s : Q) (v1 : Int32) {res : Q} {out : Option Value × AHeap}, j_search_l21 n s v1 = some res → j_search_l21_K R res out → Eval own_P 30 21 [some (.ref 0), some (.int v1), none, none, none] [] (W1 s R) out := by
 intro n
 induction n with
 | zero => intro _ _ res out h hk; cases h
 | succ n hrec =>
  intro s v1 res out h hk
  rw [j_search_l21] at h
  refine Eval.iload_n rfl rfl ?_
  refine Eval.bipush (x := 8) rfl rfl ?_
  by_cases hc457 : v1 < (8:Int32)
  ·rw [if_pos hc457] at h
   refine Eval.icmpF rfl (tlt hc457).2.1 ?_
   refine Eval.iload_n rfl rfl ?_
   refine Eval.aload_n rfl rfl ?_
   refine Eval.getfield rfl rfl own_g1_snapLen ?_
   by_cases hc458 : v1 < s.f30
   ·rw [if_pos hc458] at h
    refine Eval.icmpF rfl (tlt hc458).2.1 ?_
    refine Eval.aload_n rfl rfl ?_
    refine Eval.getfield rfl rfl own_g1_qBuf ?_
    refine Eval.iload_n rfl rfl ?_
    refine Eval.aload_n rfl rfl ?_
    refine Eval.getfield rfl rfl own_g1_snap ?_
    refine Eval.iload_n rfl rfl ?_
    obtain ⟨hb459, h⟩ := ite_some h
    refine Eval.iaload rfl own_a1_snap hb459 ?_
    obtain ⟨hb460, h⟩ := ite_some h
    refine Eval.iastore rfl rfl own_a1_qBuf hb460 own_s1_qBuf ?_
    refine Eval.iinc (L' := [some (.ref 0), some (.int (v1 + (1:Int32))), none, none, none]) rfl rfl rfl ?_
    refine Eval.goto (t := 21) rfl rfl ?_
    refine Eval.heap own_mk1 ?_
    exact hrec _ _ h hk
   ·rw [if_neg hc458] at h
    refine Eval.icmpT (t := 53) rfl rfl (flt hc458).2.1 ?_
    cases h
    refine Eval.weak (lw_mk 1 _) ?_
    exact hk
  ·rw [if_neg hc457] at h
   refine Eval.icmpT (t := 53) rfl rfl (flt hc457).2.1 ?_
   cases h
   refine Eval.weak (lw_mk 1 _) ?_
   exact hk
abbrev j_search_l66_K (R : AHeap) (res : (Q) ⊕ ((Q) ⊕ (Q))) (out : Option Value × AHeap) : Prop := Sum.elim (fun res => Eval own_P 30 100 [none, none, none, none, none] [] (W1 res R) out) (fun res => Sum.elim (fun res => Eval own_P 30 213 [none, none, none, none, none] [] (W1 res R) out) (fun res => Eval own_P 30 221 [none, none, none, none, none] [] (W1 res R) out) res) res

abbrev j_search_l66_N (s : Q) (res : (Q) ⊕ ((Q) ⊕ (Q))) : Prop := Sum.elim (fun res => Q.len res = Q.len s) (fun res => Sum.elim (fun res => Q.len res = Q.len s) (fun res => Q.len res = Q.len s) res) res
abbrev j_copyQueue_l25_K (R : AHeap) (res : (Int32 × Int32 × Q) ⊕ (Int32 × Int32 × Q)) (out : Option Value × AHeap) : Prop := Sum.elim (fun res => Eval own_P 33 39 [some (.ref 0), some (.int res.1), none, none, none, none, some (.int res.2.1), none] [] (W1 res.2.2 R) out) (fun res => Eval own_P 33 70 [some (.ref 0), some (.int res.1), none, none, none, none, some (.int res.2.1), none] [] (W1 res.2.2 R) out) res

abbrev j_copyQueue_l25_N (s : Q) (res : (Int32 × Int32 × Q) ⊕ (Int32 × Int32 × Q)) : Prop := Sum.elim (fun res => Q.len res.2.2 = Q.len s) (fun res => Q.len res.2.2 = Q.len s) res
def j_copyQueue_l25 : Nat → Q → Int32 → Int32 → Int32 → Int32 → Int32 → Int32 → Option ((Int32 × Int32 × Q) ⊕ (Int32 × Int32 × Q))
  | 0, _, _, _, _, _, _, _ => none
  | n + 1, s, v1, v3, v4, v5, v6, v7 => (if v7 < (8:Int32) then (if v7 < v5 then (if inb s.f20.length (v3 + v7) = true then (if inb s.f20.length (v4 + v6) = true then (j_copyQueue_l25 n (Q.mk s.f0 s.f1 s.f2 s.f3 s.f4 s.f5 s.f6 s.f7 s.f8 s.f9 s.f10 s.f11 s.f12 s.f13 s.f14 s.f15 s.f16 s.f17 s.f18 s.f19 (wr s.f20 (v4 + v6) (rd s.f20 (v3 + v7))) s.f21 s.f22 s.f23 s.f24 s.f25 s.f26 s.f27 s.f28 s.f29 s.f30 s.f31 s.f32) v1 v3 v4 v5 (v6 + (1:Int32)) (v7 + (1:Int32))) else none) else none) else some (.inl (v1, v6, s))) else some (.inr (v1, v6, s)))
set_option maxRecDepth 100000 in
theorem ev_j_copyQueue_l25 (R : AHeap) : ∀ (n : Nat) (s : Q) (v1 v3 : Int32) (v4 v5 : Int32) (v6 v7 : Int32) {res : (Int32 × Int32 × Q) ⊕ (Int32 × Int32 × Q)} {out : Option Value × AHeap}, j_copyQueue_l25 n s v1 v3 v4 v5 v6 v7 = some res → j_copyQueue_l25_K R res out → Eval own_P 33 25 [some (.ref 0), some (.int v1), none, some (.int v3), some (.int v4), some (.int v5), some (.int v6), some (.int v7)] [] (W1 s R) out := by
 intro n
 induction n with
 | zero => intro _ _ _ _ _ _ _ res out h hk; cases h
 | succ n hrec =>
  intro s v1 v3 v4 v5 v6 v7 res out h hk
  rw [j_copyQueue_l25] at h
  refine Eval.iload rfl rfl ?_
  refine Eval.bipush (x := 8) rfl rfl ?_
  by_cases hc486 : v7 < (8:Int32)
  ·rw [if_pos hc486] at h
   refine Eval.icmpF rfl (tlt hc486).2.1 ?_
   refine Eval.iload rfl rfl ?_
   refine Eval.iload rfl rfl ?_
   by_cases hc487 : v7 < v5
   ·rw [if_pos hc487] at h
    refine Eval.icmpT (t := 42) rfl rfl (tlt hc487).1 ?_
    refine Eval.aload_n rfl rfl ?_
    refine Eval.getfield rfl rfl own_g1_qBuf ?_
    refine Eval.iload rfl rfl ?_
    refine Eval.iload rfl rfl ?_
    refine Eval.iadd rfl ?_
    refine Eval.aload_n rfl rfl ?_
    refine Eval.getfield rfl rfl own_g1_qBuf ?_
    refine Eval.iload_n rfl rfl ?_
    refine Eval.iload rfl rfl ?_
    refine Eval.iadd rfl ?_
    obtain ⟨hb488, h⟩ := ite_some h
    refine Eval.iaload rfl own_a1_qBuf hb488 ?_
    obtain ⟨hb489, h⟩ := ite_some h
    refine Eval.iastore rfl rfl own_a1_qBuf hb489 own_s1_qBuf ?_
    refine Eval.iinc (L' := [some (.ref 0), some (.int v1), none, some (.int v3), some (.int v4), some (.int v5), some (.int (v6 + (1:Int32))), some (.int v7)]) rfl rfl rfl ?_
    refine Eval.iinc (L' := [some (.ref 0), some (.int v1), none, some (.int v3), some (.int v4), some (.int v5), some (.int (v6 + (1:Int32))), some (.int (v7 + (1:Int32)))]) rfl rfl rfl ?_
    refine Eval.goto (t := 25) rfl rfl ?_
    refine Eval.heap own_mk1 ?_
    exact hrec _ _ _ _ _ _ _ h hk
   ·rw [if_neg hc487] at h
    refine Eval.icmpF rfl (flt hc487).1 ?_
    cases h
    refine Eval.weak (lw_mk 67 _) ?_
    exact hk
  ·rw [if_neg hc486] at h
   refine Eval.icmpT (t := 70) rfl rfl (flt hc486).2.1 ?_
   cases h
   refine Eval.weak (lw_mk 67 _) ?_
   exact hk
def j_copyQueue_b70 (s : Q) (v1 v6 : Int32) : Option (Q) := (if inb s.f21.length (v1 + (1:Int32)) = true then some ((Q.mk s.f0 s.f1 s.f2 s.f3 s.f4 s.f5 s.f6 s.f7 s.f8 s.f9 s.f10 s.f11 s.f12 s.f13 s.f14 s.f15 s.f16 s.f17 s.f18 s.f19 s.f20 (wr s.f21 (v1 + (1:Int32)) v6) s.f22 s.f23 s.f24 s.f25 s.f26 s.f27 s.f28 s.f29 s.f30 s.f31 s.f32)) else none)
set_option maxRecDepth 100000 in
theorem ev_j_copyQueue_b70 (R : AHeap) (s : Q) (v1 v6 : Int32) {res : Q} {out : Option Value × AHeap} (h : j_copyQueue_b70 s v1 v6 = some res) (hk : out = (none, (W1 res R))) : Eval own_P 33 70 [some (.ref 0), some (.int v1), none, none, none, none, some (.int v6), none] [] (W1 s R) out := by
 rw [j_copyQueue_b70] at h
 refine Eval.aload_n rfl rfl ?_
 refine Eval.getfield rfl rfl own_g1_qLen ?_
 refine Eval.iload_n rfl rfl ?_
 refine Eval.iconst (x := 1) rfl rfl ?_
 refine Eval.iadd rfl ?_
 refine Eval.iload rfl rfl ?_
 obtain ⟨hb495, h⟩ := ite_some h
 refine Eval.iastore rfl rfl own_a1_qLen hb495 own_s1_qLen ?_
 cases h
 subst hk
 exact Eval.retH own_mk1 rfl rfl
def j_copyQueue (s : Q) (v1 v2 : Int32) : Option (Q) := (if inb s.f21.length v1 = true then ((j_copyQueue_l25 3000 s v1 (v1 * (8:Int32)) ((v1 * (8:Int32)) + (8:Int32)) (rd s.f21 v1) (0:Int32) v2).bind fun p490 => Sum.elim (fun p492 => (j_copyQueue_b70 p492.2.2 p492.1 p492.2.1)) (fun p493 => (j_copyQueue_b70 p493.2.2 p493.1 p493.2.1)) p490) else none)
set_option maxRecDepth 100000 in
theorem ev_j_copyQueue (R : AHeap) (s : Q) (v1 v2 : Int32) {res : Q} {out : Option Value × AHeap} (h : j_copyQueue s v1 v2 = some res) (hk : out = (none, (W1 res R))) : Eval own_P 33 0 [some (.ref 0), some (.int v1), some (.int v2), none, none, none, none, none] [] (W1 s R) out := by
 rw [j_copyQueue] at h
 refine Eval.iload_n rfl rfl ?_
 refine Eval.bipush (x := 8) rfl rfl ?_
 refine Eval.imul rfl ?_
 refine Eval.istore_n (L' := [some (.ref 0), some (.int v1), some (.int v2), some (.int (v1 * (8:Int32))), none, none, none, none]) rfl rfl ?_
 refine Eval.iload_n rfl rfl ?_
 refine Eval.bipush (x := 8) rfl rfl ?_
 refine Eval.iadd rfl ?_
 refine Eval.istore (L' := [some (.ref 0), some (.int v1), some (.int v2), some (.int (v1 * (8:Int32))), some (.int ((v1 * (8:Int32)) + (8:Int32))), none, none, none]) rfl rfl ?_
 refine Eval.aload_n rfl rfl ?_
 refine Eval.getfield rfl rfl own_g1_qLen ?_
 refine Eval.iload_n rfl rfl ?_
 obtain ⟨hb485, h⟩ := ite_some h
 refine Eval.iaload rfl own_a1_qLen hb485 ?_
 refine Eval.istore (L' := [some (.ref 0), some (.int v1), some (.int v2), some (.int (v1 * (8:Int32))), some (.int ((v1 * (8:Int32)) + (8:Int32))), some (.int (rd s.f21 v1)), none, none]) rfl rfl ?_
 refine Eval.iconst (x := 0) rfl rfl ?_
 refine Eval.istore (L' := [some (.ref 0), some (.int v1), some (.int v2), some (.int (v1 * (8:Int32))), some (.int ((v1 * (8:Int32)) + (8:Int32))), some (.int (rd s.f21 v1)), some (.int 0), none]) rfl rfl ?_
 refine Eval.iload_n rfl rfl ?_
 refine Eval.istore (L' := [some (.ref 0), some (.int v1), some (.int v2), some (.int (v1 * (8:Int32))), some (.int ((v1 * (8:Int32)) + (8:Int32))), some (.int (rd s.f21 v1)), some (.int 0), some (.int v2)]) rfl rfl ?_
 refine Eval.weak (lw_mk 251 _) ?_
 obtain ⟨p490, hq491, h⟩ := bind_some h
 rcases p490 with p492 | p493
 ·dsimp only [Sum.elim] at h
  refine ev_j_copyQueue_l25 R _ s v1 (v1 * (8:Int32)) ((v1 * (8:Int32)) + (8:Int32)) (rd s.f21 v1) (0:Int32) v2 hq491 ?_
  show Eval own_P 33 39 [some (.ref 0), some (.int p492.1), none, none, none, none, some (.int p492.2.1), none] [] (W1 p492.2.2 R) out
  refine Eval.goto (t := 70) rfl rfl ?_
  exact ev_j_copyQueue_b70 R p492.2.2 p492.1 p492.2.1 h hk
 ·dsimp only [Sum.elim] at h
  refine ev_j_copyQueue_l25 R _ s v1 (v1 * (8:Int32)) ((v1 * (8:Int32)) + (8:Int32)) (rd s.f21 v1) (0:Int32) v2 hq491 ?_
  show Eval own_P 33 70 [some (.ref 0), some (.int p493.1), none, none, none, none, some (.int p493.2.1), none] [] (W1 p493.2.2 R) out
  exact ev_j_copyQueue_b70 R p493.2.2 p493.1 p493.2.1 h hk
def j_applyEnq_b44 (s : Q) (v1 v2 v4 : Int32) : Option (Int32 × Q) := ((j_copyQueue s v2 (0:Int32)).bind fun p497 => (if v4 = (1:Int32) then (if inb p497.f21.length (v2 + (1:Int32)) = true then (if (rd p497.f21 (v2 + (1:Int32))) < (0:Int32) then some ((1:Int32), p497) else (if (rd p497.f21 (v2 + (1:Int32))) < (8:Int32) then (if inb p497.f13.length v1 = true then (if inb p497.f20.length (((v2 + (1:Int32)) * (8:Int32)) + (rd p497.f21 (v2 + (1:Int32)))) = true then (if inb p497.f21.length (v2 + (1:Int32)) = true then some ((1:Int32), (Q.mk p497.f0 p497.f1 p497.f2 p497.f3 p497.f4 p497.f5 p497.f6 p497.f7 p497.f8 p497.f9 p497.f10 p497.f11 p497.f12 p497.f13 p497.f14 p497.f15 p497.f16 p497.f17 p497.f18 p497.f19 (wr p497.f20 (((v2 + (1:Int32)) * (8:Int32)) + (rd p497.f21 (v2 + (1:Int32)))) (rd p497.f13 v1)) (wr p497.f21 (v2 + (1:Int32)) ((rd p497.f21 (v2 + (1:Int32))) + (1:Int32))) p497.f22 p497.f23 p497.f24 p497.f25 p497.f26 p497.f27 p497.f28 p497.f29 p497.f30 p497.f31 p497.f32)) else none) else none) else none) else some ((1:Int32), p497))) else none) else some ((1:Int32), p497)))
set_option maxRecDepth 100000 in
theorem ev_j_applyEnq_b44 (R : AHeap) (s : Q) (v1 v2 v4 : Int32) {res : Int32 × Q} {out : Option Value × AHeap} (h : j_applyEnq_b44 s v1 v2 v4 = some res) (hk : out = (some (.int res.1), (W1 res.2 R))) : Eval own_P 32 44 [some (.ref 0), some (.int v1), some (.int v2), none, some (.int v4), none] [] (W1 s R) out := by
 rw [j_applyEnq_b44] at h
 refine Eval.aload_n rfl rfl ?_
 refine Eval.iload_n rfl rfl ?_
 refine Eval.iconst (x := 0) rfl rfl ?_
 obtain ⟨p497, hq498, h⟩ := bind_some h
 refine Eval.callN (rest := []) (H1 := (W1 p497 R)) rfl rfl (ev_j_copyQueue R s v2 (0:Int32) hq498 rfl) ?_
 refine Eval.iload rfl rfl ?_
 refine Eval.iconst (x := 1) rfl rfl ?_
 by_cases hc500 : v4 = (1:Int32)
 ·rw [if_pos hc500] at h
  refine Eval.icmpF rfl (teq hc500).2 ?_
  refine Eval.aload_n rfl rfl ?_
  refine Eval.getfield rfl rfl own_g1_qLen ?_
  refine Eval.iload_n rfl rfl ?_
  refine Eval.iconst (x := 1) rfl rfl ?_
  refine Eval.iadd rfl ?_
  obtain ⟨hb501, h⟩ := ite_some h
  refine Eval.iaload rfl own_a1_qLen hb501 ?_
  refine Eval.istore (L' := [some (.ref 0), some (.int v1), some (.int v2), none, some (.int v4), some (.int (rd p497.f21 (v2 + (1:Int32))))]) rfl rfl ?_
  refine Eval.iload rfl rfl ?_
  by_cases hc502 : (rd p497.f21 (v2 + (1:Int32))) < (0:Int32)
  ·rw [if_pos hc502] at h
   refine Eval.ifT (t := 110) rfl rfl (tlt hc502).1 ?_
   refine Eval.iconst (x := 1) rfl rfl ?_
   cases h
   subst hk
   exact Eval.ret rfl rfl
  ·rw [if_neg hc502] at h
   refine Eval.ifF rfl (flt hc502).1 ?_
   refine Eval.iload rfl rfl ?_
   refine Eval.bipush (x := 8) rfl rfl ?_
   by_cases hc503 : (rd p497.f21 (v2 + (1:Int32))) < (8:Int32)
   ·rw [if_pos hc503] at h
    refine Eval.icmpF rfl (tlt hc503).2.1 ?_
    refine Eval.aload_n rfl rfl ?_
    refine Eval.getfield rfl rfl own_g1_qBuf ?_
    refine Eval.iload_n rfl rfl ?_
    refine Eval.iconst (x := 1) rfl rfl ?_
    refine Eval.iadd rfl ?_
    refine Eval.bipush (x := 8) rfl rfl ?_
    refine Eval.imul rfl ?_
    refine Eval.iload rfl rfl ?_
    refine Eval.iadd rfl ?_
    refine Eval.aload_n rfl rfl ?_
    refine Eval.getfield rfl rfl own_g1_opArg ?_
    refine Eval.iload_n rfl rfl ?_
    obtain ⟨hb504, h⟩ := ite_some h
    refine Eval.iaload rfl own_a1_opArg hb504 ?_
    obtain ⟨hb505, h⟩ := ite_some h
    refine Eval.iastore rfl rfl own_a1_qBuf hb505 own_s1_qBuf ?_
    refine Eval.aload_n rfl rfl ?_
    refine Eval.getfield rfl rfl own_g1_qLen ?_
    refine Eval.iload_n rfl rfl ?_
    refine Eval.iconst (x := 1) rfl rfl ?_
    refine Eval.iadd rfl ?_
    refine Eval.iload rfl rfl ?_
    refine Eval.iconst (x := 1) rfl rfl ?_
    refine Eval.iadd rfl ?_
    obtain ⟨hb506, h⟩ := ite_some h
    refine Eval.iastore rfl rfl own_a1_qLen hb506 own_s1_qLen ?_
    refine Eval.iconst (x := 1) rfl rfl ?_
    cases h
    subst hk
    exact Eval.retH own_mk1 rfl rfl
   ·rw [if_neg hc503] at h
    refine Eval.icmpT (t := 110) rfl rfl (flt hc503).2.1 ?_
    refine Eval.iconst (x := 1) rfl rfl ?_
    cases h
    subst hk
    exact Eval.ret rfl rfl
 ·rw [if_neg hc500] at h
  refine Eval.icmpT (t := 110) rfl rfl (feq hc500).2 ?_
  refine Eval.iconst (x := 1) rfl rfl ?_
  cases h
  subst hk
  exact Eval.ret rfl rfl
def j_applyEnq_b20 (s : Q) (v1 v2 w0 : Int32) : Option (Int32 × Q) := (if inb s.f15.length v1 = true then (if (rd s.f15 v1) < (0:Int32) then (j_applyEnq_b44 s v1 v2 w0) else (if inb s.f16.length v1 = true then (if (rd s.f16 v1) = w0 then (j_applyEnq_b44 s v1 v2 w0) else some ((0:Int32), s)) else none)) else none)
set_option maxRecDepth 100000 in
theorem ev_j_applyEnq_b20 (R : AHeap) (s : Q) (v1 v2 w0 : Int32) {res : Int32 × Q} {out : Option Value × AHeap} (h : j_applyEnq_b20 s v1 v2 w0 = some res) (hk : out = (some (.int res.1), (W1 res.2 R))) : Eval own_P 32 20 [some (.ref 0), some (.int v1), some (.int v2), none, none, none] [.int w0] (W1 s R) out := by
 rw [j_applyEnq_b20] at h
 refine Eval.istore (L' := [some (.ref 0), some (.int v1), some (.int v2), none, some (.int w0), none]) rfl rfl ?_
 refine Eval.aload_n rfl rfl ?_
 refine Eval.getfield rfl rfl own_g1_opRes ?_
 refine Eval.iload_n rfl rfl ?_
 obtain ⟨hb483, h⟩ := ite_some h
 refine Eval.iaload rfl own_a1_opRes hb483 ?_
 by_cases hc484 : (rd s.f15 v1) < (0:Int32)
 ·rw [if_pos hc484] at h
  refine Eval.ifT (t := 44) rfl rfl (tlt hc484).1 ?_
  exact ev_j_applyEnq_b44 R s v1 v2 w0 h hk
 ·rw [if_neg hc484] at h
  refine Eval.ifF rfl (flt hc484).1 ?_
  refine Eval.aload_n rfl rfl ?_
  refine Eval.getfield rfl rfl own_g1_opStatus ?_
  refine Eval.iload_n rfl rfl ?_
  obtain ⟨hb507, h⟩ := ite_some h
  refine Eval.iaload rfl own_a1_opStatus hb507 ?_
  refine Eval.iload rfl rfl ?_
  by_cases hc508 : (rd s.f16 v1) = w0
  ·rw [if_pos hc508] at h
   refine Eval.icmpT (t := 44) rfl rfl (teq hc508).1 ?_
   exact ev_j_applyEnq_b44 R s v1 v2 w0 h hk
  ·rw [if_neg hc508] at h
   refine Eval.icmpF rfl (feq hc508).1 ?_
   refine Eval.iconst (x := 0) rfl rfl ?_
   cases h
   subst hk
   exact Eval.ret rfl rfl
def j_applyEnq (s : Q) (v1 v2 : Int32) : Option (Int32 × Q) := (if inb s.f21.length v2 = true then (j_applyEnq_b20 s v1 v2 (if (rd s.f21 v2) < s.f25 then (1:Int32) else (2:Int32))) else none)
set_option maxRecDepth 100000 in
theorem ev_j_applyEnq (R : AHeap) (s : Q) (v1 v2 : Int32) {res : Int32 × Q} {out : Option Value × AHeap} (h : j_applyEnq s v1 v2 = some res) (hk : out = (some (.int res.1), (W1 res.2 R))) : Eval own_P 32 0 [some (.ref 0), some (.int v1), some (.int v2), none, none, none] [] (W1 s R) out := by
 rw [j_applyEnq] at h
 refine Eval.aload_n rfl rfl ?_
 refine Eval.getfield rfl rfl own_g1_qLen ?_
 refine Eval.iload_n rfl rfl ?_
 obtain ⟨hb480, h⟩ := ite_some h
 refine Eval.iaload rfl own_a1_qLen hb480 ?_
 refine Eval.istore_n (L' := [some (.ref 0), some (.int v1), some (.int v2), some (.int (rd s.f21 v2)), none, none]) rfl rfl ?_
 refine Eval.iload_n rfl rfl ?_
 refine Eval.aload_n rfl rfl ?_
 refine Eval.getfield rfl rfl own_g1_cap ?_
 suffices hJ482 : Eval own_P 32 20 [some (.ref 0), some (.int v1), some (.int v2), none, none, none] [.int (if (rd s.f21 v2) < s.f25 then (1:Int32) else (2:Int32))] (W1 s R) out by
  by_cases hc481 : (rd s.f21 v2) < s.f25
  ·refine Eval.icmpF rfl (tlt hc481).2.1 ?_
   refine Eval.iconst (x := 1) rfl rfl ?_
   refine Eval.goto (t := 20) rfl rfl ?_
   refine Eval.weak (lw_mk 7 _) ?_
   exact (Eval.conv hJ482 rfl (by simp only [if_pos hc481]))
  ·refine Eval.icmpT (t := 19) rfl rfl (flt hc481).2.1 ?_
   refine Eval.iconst (x := 2) rfl rfl ?_
   refine Eval.weak (lw_mk 7 _) ?_
   exact (Eval.conv hJ482 rfl (by simp only [if_neg hc481]))
 exact ev_j_applyEnq_b20 R s v1 v2 (if (rd s.f21 v2) < s.f25 then (1:Int32) else (2:Int32)) h hk
def j_applyDeq_b66 (s : Q) (v2 : Int32) : Option (Int32 × Q) := ((j_copyQueue s v2 (1:Int32)).bind fun p519 => some ((1:Int32), p519))
set_option maxRecDepth 100000 in
theorem ev_j_applyDeq_b66 (R : AHeap) (s : Q) (v2 : Int32) {res : Int32 × Q} {out : Option Value × AHeap} (h : j_applyDeq_b66 s v2 = some res) (hk : out = (some (.int res.1), (W1 res.2 R))) : Eval own_P 34 66 [some (.ref 0), none, some (.int v2), none, none, none] [] (W1 s R) out := by
 rw [j_applyDeq_b66] at h
 refine Eval.aload_n rfl rfl ?_
 refine Eval.iload_n rfl rfl ?_
 refine Eval.iconst (x := 1) rfl rfl ?_
 obtain ⟨p519, hq520, h⟩ := bind_some h
 refine Eval.callN (rest := []) (H1 := (W1 p519 R)) rfl rfl (ev_j_copyQueue R s v2 (1:Int32) hq520 rfl) ?_
 refine Eval.iconst (x := 1) rfl rfl ?_
 cases h
 subst hk
 exact Eval.ret rfl rfl
def j_applyDeq_b91 (s : Q) (v2 : Int32) : Option (Int32 × Q) := ((j_copyQueue s v2 (0:Int32)).bind fun p527 => some ((1:Int32), p527))
set_option maxRecDepth 100000 in
theorem ev_j_applyDeq_b91 (R : AHeap) (s : Q) (v2 : Int32) {res : Int32 × Q} {out : Option Value × AHeap} (h : j_applyDeq_b91 s v2 = some res) (hk : out = (some (.int res.1), (W1 res.2 R))) : Eval own_P 34 91 [some (.ref 0), none, some (.int v2), none, none, none] [] (W1 s R) out := by
 rw [j_applyDeq_b91] at h
 refine Eval.aload_n rfl rfl ?_
 refine Eval.iload_n rfl rfl ?_
 refine Eval.iconst (x := 0) rfl rfl ?_
 obtain ⟨p527, hq528, h⟩ := bind_some h
 refine Eval.callN (rest := []) (H1 := (W1 p527 R)) rfl rfl (ev_j_copyQueue R s v2 (0:Int32) hq528 rfl) ?_
 refine Eval.iconst (x := 1) rfl rfl ?_
 cases h
 subst hk
 exact Eval.ret rfl rfl
def j_applyDeq_b21 (s : Q) (v1 v2 : Int32) (v3 w0 : Int32) : Option (Int32 × Q) := (if (0:Int32) < v3 then (if inb s.f20.length (v2 * (8:Int32)) = true then (if w0 = (0:Int32) then (j_applyDeq_b66 s v2) else (if inb s.f16.length v1 = true then (if (rd s.f16 v1) = (1:Int32) then (if inb s.f17.length v1 = true then (if (rd s.f17 v1) = (rd s.f20 (v2 * (8:Int32))) then (j_applyDeq_b66 s v2) else some ((0:Int32), s)) else none) else some ((0:Int32), s)) else none)) else none) else (if w0 = (0:Int32) then (j_applyDeq_b91 s v2) else (if inb s.f16.length v1 = true then (if (rd s.f16 v1) = (3:Int32) then (j_applyDeq_b91 s v2) else some ((0:Int32), s)) else none)))
set_option maxRecDepth 100000 in
theorem ev_j_applyDeq_b21 (R : AHeap) (s : Q) (v1 v2 : Int32) (v3 w0 : Int32) {res : Int32 × Q} {out : Option Value × AHeap} (h : j_applyDeq_b21 s v1 v2 v3 w0 = some res) (hk : out = (some (.int res.1), (W1 res.2 R))) : Eval own_P 34 21 [some (.ref 0), some (.int v1), some (.int v2), some (.int v3), none, none] [.int w0] (W1 s R) out := by
 rw [j_applyDeq_b21] at h
 refine Eval.istore (L' := [some (.ref 0), some (.int v1), some (.int v2), some (.int v3), some (.int w0), none]) rfl rfl ?_
 refine Eval.iload_n rfl rfl ?_
 by_cases hc516 : (0:Int32) < v3
 ·rw [if_pos hc516] at h
  refine Eval.ifF rfl (tlt hc516).2.2.2 ?_
  refine Eval.aload_n rfl rfl ?_
  refine Eval.getfield rfl rfl own_g1_qBuf ?_
  refine Eval.iload_n rfl rfl ?_
  refine Eval.bipush (x := 8) rfl rfl ?_
  refine Eval.imul rfl ?_
  obtain ⟨hb517, h⟩ := ite_some h
  refine Eval.iaload rfl own_a1_qBuf hb517 ?_
  refine Eval.istore (L' := [some (.ref 0), some (.int v1), some (.int v2), some (.int v3), some (.int w0), some (.int (rd s.f20 (v2 * (8:Int32))))]) rfl rfl ?_
  refine Eval.iload rfl rfl ?_
  by_cases hc518 : w0 = (0:Int32)
  ·rw [if_pos hc518] at h
   refine Eval.ifT (t := 66) rfl rfl (teq hc518).1 ?_
   refine Eval.weak (lw_mk 5 _) ?_
   exact ev_j_applyDeq_b66 R s v2 h hk
  ·rw [if_neg hc518] at h
   refine Eval.ifF rfl (feq hc518).1 ?_
   refine Eval.aload_n rfl rfl ?_
   refine Eval.getfield rfl rfl own_g1_opStatus ?_
   refine Eval.iload_n rfl rfl ?_
   obtain ⟨hb522, h⟩ := ite_some h
   refine Eval.iaload rfl own_a1_opStatus hb522 ?_
   refine Eval.iconst (x := 1) rfl rfl ?_
   by_cases hc523 : (rd s.f16 v1) = (1:Int32)
   ·rw [if_pos hc523] at h
    refine Eval.icmpF rfl (teq hc523).2 ?_
    refine Eval.aload_n rfl rfl ?_
    refine Eval.getfield rfl rfl own_g1_opRVal ?_
    refine Eval.iload_n rfl rfl ?_
    obtain ⟨hb524, h⟩ := ite_some h
    refine Eval.iaload rfl own_a1_opRVal hb524 ?_
    refine Eval.iload rfl rfl ?_
    by_cases hc525 : (rd s.f17 v1) = (rd s.f20 (v2 * (8:Int32)))
    ·rw [if_pos hc525] at h
     refine Eval.icmpT (t := 66) rfl rfl (teq hc525).1 ?_
     refine Eval.weak (lw_mk 5 _) ?_
     exact ev_j_applyDeq_b66 R s v2 h hk
    ·rw [if_neg hc525] at h
     refine Eval.icmpF rfl (feq hc525).1 ?_
     refine Eval.iconst (x := 0) rfl rfl ?_
     cases h
     subst hk
     exact Eval.ret rfl rfl
   ·rw [if_neg hc523] at h
    refine Eval.icmpT (t := 64) rfl rfl (feq hc523).2 ?_
    refine Eval.iconst (x := 0) rfl rfl ?_
    cases h
    subst hk
    exact Eval.ret rfl rfl
 ·rw [if_neg hc516] at h
  refine Eval.ifT (t := 74) rfl rfl (flt hc516).2.2.2 ?_
  refine Eval.iload rfl rfl ?_
  by_cases hc526 : w0 = (0:Int32)
  ·rw [if_pos hc526] at h
   refine Eval.ifT (t := 91) rfl rfl (teq hc526).1 ?_
   refine Eval.weak (lw_mk 5 _) ?_
   exact ev_j_applyDeq_b91 R s v2 h hk
  ·rw [if_neg hc526] at h
   refine Eval.ifF rfl (feq hc526).1 ?_
   refine Eval.aload_n rfl rfl ?_
   refine Eval.getfield rfl rfl own_g1_opStatus ?_
   refine Eval.iload_n rfl rfl ?_
   obtain ⟨hb530, h⟩ := ite_some h
   refine Eval.iaload rfl own_a1_opStatus hb530 ?_
   refine Eval.iconst (x := 3) rfl rfl ?_
   by_cases hc531 : (rd s.f16 v1) = (3:Int32)
   ·rw [if_pos hc531] at h
    refine Eval.icmpT (t := 91) rfl rfl (teq hc531).1 ?_
    refine Eval.weak (lw_mk 5 _) ?_
    exact ev_j_applyDeq_b91 R s v2 h hk
   ·rw [if_neg hc531] at h
    refine Eval.icmpF rfl (feq hc531).1 ?_
    refine Eval.iconst (x := 0) rfl rfl ?_
    cases h
    subst hk
    exact Eval.ret rfl rfl
def j_applyDeq (s : Q) (v1 v2 : Int32) : Option (Int32 × Q) := (if inb s.f21.length v2 = true then (if inb s.f15.length v1 = true then (j_applyDeq_b21 s v1 v2 (rd s.f21 v2) (if (rd s.f15 v1) < (0:Int32) then (0:Int32) else (1:Int32))) else none) else none)
set_option maxRecDepth 100000 in
theorem ev_j_applyDeq (R : AHeap) (s : Q) (v1 v2 : Int32) {res : Int32 × Q} {out : Option Value × AHeap} (h : j_applyDeq s v1 v2 = some res) (hk : out = (some (.int res.1), (W1 res.2 R))) : Eval own_P 34 0 [some (.ref 0), some (.int v1), some (.int v2), none, none, none] [] (W1 s R) out := by
 rw [j_applyDeq] at h
 refine Eval.aload_n rfl rfl ?_
 refine Eval.getfield rfl rfl own_g1_qLen ?_
 refine Eval.iload_n rfl rfl ?_
 obtain ⟨hb512, h⟩ := ite_some h
 refine Eval.iaload rfl own_a1_qLen hb512 ?_
 refine Eval.istore_n (L' := [some (.ref 0), some (.int v1), some (.int v2), some (.int (rd s.f21 v2)), none, none]) rfl rfl ?_
 refine Eval.aload_n rfl rfl ?_
 refine Eval.getfield rfl rfl own_g1_opRes ?_
 refine Eval.iload_n rfl rfl ?_
 obtain ⟨hb513, h⟩ := ite_some h
 refine Eval.iaload rfl own_a1_opRes hb513 ?_
 suffices hJ515 : Eval own_P 34 21 [some (.ref 0), some (.int v1), some (.int v2), some (.int (rd s.f21 v2)), none, none] [.int (if (rd s.f15 v1) < (0:Int32) then (0:Int32) else (1:Int32))] (W1 s R) out by
  by_cases hc514 : (rd s.f15 v1) < (0:Int32)
  ·refine Eval.ifT (t := 20) rfl rfl (tlt hc514).1 ?_
   refine Eval.iconst (x := 0) rfl rfl ?_
   exact (Eval.conv hJ515 rfl (by simp only [if_pos hc514]))
  ·refine Eval.ifF rfl (flt hc514).1 ?_
   refine Eval.iconst (x := 1) rfl rfl ?_
   refine Eval.goto (t := 21) rfl rfl ?_
   exact (Eval.conv hJ515 rfl (by simp only [if_neg hc514]))
 exact ev_j_applyDeq_b21 R s v1 v2 (rd s.f21 v2) (if (rd s.f15 v1) < (0:Int32) then (0:Int32) else (1:Int32)) h hk
def j_apply (s : Q) (v1 v2 : Int32) : Option (Int32 × Q) := (if v2 < (0:Int32) then some ((0:Int32), s) else (if (5:Int32) < v2 then some ((0:Int32), s) else (if v1 < (0:Int32) then some ((0:Int32), s) else (if v1 < (6:Int32) then (if inb s.f12.length v1 = true then (if (rd s.f12 v1) = (1:Int32) then ((j_applyEnq s v1 v2).bind fun p509 => some ((p509.1 &&& 1), p509.2)) else ((j_applyDeq s v1 v2).bind fun p532 => some ((p532.1 &&& 1), p532.2))) else none) else some ((0:Int32), s)))))
set_option maxRecDepth 100000 in
theorem ev_j_apply (R : AHeap) (s : Q) (v1 v2 : Int32) {res : Int32 × Q} {out : Option Value × AHeap} (h : j_apply s v1 v2 = some res) (hk : out = (some (.int res.1), (W1 res.2 R))) : Eval own_P 31 0 [some (.ref 0), some (.int v1), some (.int v2)] [] (W1 s R) out := by
 rw [j_apply] at h
 refine Eval.iload_n rfl rfl ?_
 by_cases hc474 : v2 < (0:Int32)
 ·rw [if_pos hc474] at h
  refine Eval.ifT (t := 19) rfl rfl (tlt hc474).1 ?_
  refine Eval.iconst (x := 0) rfl rfl ?_
  cases h
  subst hk
  exact Eval.ret rfl rfl
 ·rw [if_neg hc474] at h
  refine Eval.ifF rfl (flt hc474).1 ?_
  refine Eval.iload_n rfl rfl ?_
  refine Eval.iconst (x := 5) rfl rfl ?_
  by_cases hc475 : (5:Int32) < v2
  ·rw [if_pos hc475] at h
   refine Eval.icmpT (t := 19) rfl rfl (tlt hc475).2.2.1 ?_
   refine Eval.iconst (x := 0) rfl rfl ?_
   cases h
   subst hk
   exact Eval.ret rfl rfl
  ·rw [if_neg hc475] at h
   refine Eval.icmpF rfl (flt hc475).2.2.1 ?_
   refine Eval.iload_n rfl rfl ?_
   by_cases hc476 : v1 < (0:Int32)
   ·rw [if_pos hc476] at h
    refine Eval.ifT (t := 19) rfl rfl (tlt hc476).1 ?_
    refine Eval.iconst (x := 0) rfl rfl ?_
    cases h
    subst hk
    exact Eval.ret rfl rfl
   ·rw [if_neg hc476] at h
    refine Eval.ifF rfl (flt hc476).1 ?_
    refine Eval.iload_n rfl rfl ?_
    refine Eval.bipush (x := 6) rfl rfl ?_
    by_cases hc477 : v1 < (6:Int32)
    ·rw [if_pos hc477] at h
     refine Eval.icmpT (t := 21) rfl rfl (tlt hc477).1 ?_
     refine Eval.aload_n rfl rfl ?_
     refine Eval.getfield rfl rfl own_g1_opKind ?_
     refine Eval.iload_n rfl rfl ?_
     obtain ⟨hb478, h⟩ := ite_some h
     refine Eval.iaload rfl own_a1_opKind hb478 ?_
     refine Eval.iconst (x := 1) rfl rfl ?_
     by_cases hc479 : (rd s.f12 v1) = (1:Int32)
     ·rw [if_pos hc479] at h
      refine Eval.icmpF rfl (teq hc479).2 ?_
      refine Eval.aload_n rfl rfl ?_
      refine Eval.iload_n rfl rfl ?_
      refine Eval.iload_n rfl rfl ?_
      obtain ⟨p509, hq510, h⟩ := bind_some h
      refine Eval.callI (rest := []) (x := p509.1) (H1 := (W1 p509.2 R)) rfl rfl (ev_j_applyEnq R s v1 v2 hq510 rfl) ?_
      cases h
      subst hk
      exact Eval.ret rfl rfl
     ·rw [if_neg hc479] at h
      refine Eval.icmpT (t := 38) rfl rfl (feq hc479).2 ?_
      refine Eval.aload_n rfl rfl ?_
      refine Eval.iload_n rfl rfl ?_
      refine Eval.iload_n rfl rfl ?_
      obtain ⟨p532, hq533, h⟩ := bind_some h
      refine Eval.callI (rest := []) (x := p532.1) (H1 := (W1 p532.2 R)) rfl rfl (ev_j_applyDeq R s v1 v2 hq533 rfl) ?_
      cases h
      subst hk
      exact Eval.ret rfl rfl
    ·rw [if_neg hc477] at h
     refine Eval.icmpF rfl (flt hc477).1 ?_
     refine Eval.iconst (x := 0) rfl rfl ?_
     cases h
     subst hk
     exact Eval.ret rfl rfl
def j_search_b215 (go_ : Q → Int32 → Int32 → Int32 → Option ((Q) ⊕ ((Q) ⊕ (Q)))) (s : Q) (v1 v2 v3 : Int32) : Option ((Q) ⊕ ((Q) ⊕ (Q))) := (go_ s v1 v2 (v3 + (1:Int32)))
set_option maxRecDepth 100000 in
theorem ev_j_search_b215 (R : AHeap) (go_ : Q → Int32 → Int32 → Int32 → Option ((Q) ⊕ ((Q) ⊕ (Q)))) (hrec : ∀ (s : Q) (v1 v2 v3 : Int32) {res : (Q) ⊕ ((Q) ⊕ (Q))} {out : Option Value × AHeap}, go_ s v1 v2 v3 = some res → j_search_l66_K R res out → Eval own_P 30 66 [some (.ref 0), some (.int v1), some (.int v2), some (.int v3), none] [] (W1 s R) out) (s : Q) (v1 v2 v3 : Int32) {res : (Q) ⊕ ((Q) ⊕ (Q))} {out : Option Value × AHeap} (h : j_search_b215 go_ s v1 v2 v3 = some res) (hk : j_search_l66_K R res out) : Eval own_P 30 215 [some (.ref 0), some (.int v1), some (.int v2), some (.int v3), none] [] (W1 s R) out := by
 rw [j_search_b215] at h
 refine Eval.iinc (L' := [some (.ref 0), some (.int v1), some (.int v2), some (.int (v3 + (1:Int32))), none]) rfl rfl rfl ?_
 refine Eval.goto (t := 66) rfl rfl ?_
 exact hrec _ _ _ _ h hk
def j_search_b96 (go_ : Q → Int32 → Int32 → Int32 → Option ((Q) ⊕ ((Q) ⊕ (Q)))) (s : Q) (v1 v2 v3 : Int32) : Option ((Q) ⊕ ((Q) ⊕ (Q))) := (if v1 = (0:Int32) then some (.inl (s)) else (if inb s.f23.length (v1 + (-1:Int32)) = true then (j_search_b215 (go_) s (v1 + (-1:Int32)) (v2 &&& ((ish (1:Int32) (rd s.f23 (v1 + (-1:Int32)))) ^^^ (-1:Int32))) v3) else none))
set_option maxRecDepth 100000 in
theorem ev_j_search_b96 (R : AHeap) (go_ : Q → Int32 → Int32 → Int32 → Option ((Q) ⊕ ((Q) ⊕ (Q)))) (hrec : ∀ (s : Q) (v1 v2 v3 : Int32) {res : (Q) ⊕ ((Q) ⊕ (Q))} {out : Option Value × AHeap}, go_ s v1 v2 v3 = some res → j_search_l66_K R res out → Eval own_P 30 66 [some (.ref 0), some (.int v1), some (.int v2), some (.int v3), none] [] (W1 s R) out) (s : Q) (v1 v2 v3 : Int32) {res : (Q) ⊕ ((Q) ⊕ (Q))} {out : Option Value × AHeap} (h : j_search_b96 go_ s v1 v2 v3 = some res) (hk : j_search_l66_K R res out) : Eval own_P 30 96 [some (.ref 0), some (.int v1), some (.int v2), some (.int v3), none] [] (W1 s R) out := by
 rw [j_search_b96] at h
 refine Eval.iload_n rfl rfl ?_
 by_cases hc542 : v1 = (0:Int32)
 ·rw [if_pos hc542] at h
  refine Eval.ifF rfl (teq hc542).2 ?_
  cases h
  refine Eval.weak (lw_mk 0 _) ?_
  exact hk
 ·rw [if_neg hc542] at h
  refine Eval.ifT (t := 102) rfl rfl (feq hc542).2 ?_
  refine Eval.iinc (L' := [some (.ref 0), some (.int (v1 + (-1:Int32))), some (.int v2), some (.int v3), none]) rfl rfl rfl ?_
  refine Eval.iload_n rfl rfl ?_
  refine Eval.iconst (x := 1) rfl rfl ?_
  refine Eval.aload_n rfl rfl ?_
  refine Eval.getfield rfl rfl own_g1_chosen ?_
  refine Eval.iload_n rfl rfl ?_
  obtain ⟨hb543, h⟩ := ite_some h
  refine Eval.iaload rfl own_a1_chosen hb543 ?_
  refine Eval.ishl rfl ?_
  refine Eval.iconst (x := -1) rfl rfl ?_
  refine Eval.ixor rfl ?_
  refine Eval.iand rfl ?_
  refine Eval.istore_n (L' := [some (.ref 0), some (.int (v1 + (-1:Int32))), some (.int (v2 &&& ((ish (1:Int32) (rd s.f23 (v1 + (-1:Int32)))) ^^^ (-1:Int32)))), some (.int v3), none]) rfl rfl ?_
  refine Eval.goto (t := 215) rfl rfl ?_
  exact ev_j_search_b215 R _ hrec s (v1 + (-1:Int32)) (v2 &&& ((ish (1:Int32) (rd s.f23 (v1 + (-1:Int32)))) ^^^ (-1:Int32))) v3 h hk
def j_search_l66 : Nat → Q → Int32 → Int32 → Int32 → Option ((Q) ⊕ ((Q) ⊕ (Q)))
  | 0, _, _, _, _ => none
  | n + 1, s, v1, v2, v3 => (if v3 < (200000:Int32) then (if inb s.f22.length v1 = true then (if (rd s.f22 v1) < s.f31 then (if (rd s.f22 v1) < (6:Int32) then (if inb s.f22.length v1 = true then (if (v2 &&& (ish (1:Int32) (rd s.f22 v1))) = (0:Int32) then (if inb s.f18.length (rd s.f22 v1) = true then (if inb s.f18.length (rd s.f22 v1) = true then (if ((rd s.f18 (rd s.f22 v1)) &&& v2) = (rd s.f18 (rd s.f22 v1)) then ((j_apply (Q.mk s.f0 s.f1 s.f2 s.f3 s.f4 s.f5 s.f6 s.f7 s.f8 s.f9 s.f10 s.f11 s.f12 s.f13 s.f14 s.f15 s.f16 s.f17 s.f18 s.f19 s.f20 s.f21 (wr s.f22 v1 ((rd s.f22 v1) + (1:Int32))) s.f23 s.f24 s.f25 s.f26 s.f27 s.f28 s.f29 s.f30 s.f31 s.f32) (rd s.f22 v1) v1).bind fun p535 => (if p535.1 = (0:Int32) then (j_search_b215 (j_search_l66 n) p535.2 v1 v2 v3) else (if inb p535.2.f23.length v1 = true then (if inb p535.2.f22.length (v1 + (1:Int32)) = true then (if ((v2 ||| (ish (1:Int32) (rd s.f22 v1))) &&& p535.2.f32) = p535.2.f32 then some (.inr (.inl ((Q.mk p535.2.f0 p535.2.f1 p535.2.f2 p535.2.f3 p535.2.f4 p535.2.f5 p535.2.f6 p535.2.f7 p535.2.f8 p535.2.f9 p535.2.f10 p535.2.f11 p535.2.f12 p535.2.f13 p535.2.f14 p535.2.f15 p535.2.f16 p535.2.f17 p535.2.f18 p535.2.f19 p535.2.f20 p535.2.f21 (wr p535.2.f22 (v1 + (1:Int32)) (0:Int32)) (wr p535.2.f23 v1 (rd s.f22 v1)) p535.2.f24 p535.2.f25 p535.2.f26 p535.2.f27 p535.2.f28 p535.2.f29 p535.2.f30 p535.2.f31 p535.2.f32)))) else (j_search_b215 (j_search_l66 n) (Q.mk p535.2.f0 p535.2.f1 p535.2.f2 p535.2.f3 p535.2.f4 p535.2.f5 p535.2.f6 p535.2.f7 p535.2.f8 p535.2.f9 p535.2.f10 p535.2.f11 p535.2.f12 p535.2.f13 p535.2.f14 p535.2.f15 p535.2.f16 p535.2.f17 p535.2.f18 p535.2.f19 p535.2.f20 p535.2.f21 (wr p535.2.f22 (v1 + (1:Int32)) (0:Int32)) (wr p535.2.f23 v1 (rd s.f22 v1)) p535.2.f24 p535.2.f25 p535.2.f26 p535.2.f27 p535.2.f28 p535.2.f29 p535.2.f30 p535.2.f31 p535.2.f32) (v1 + (1:Int32)) (v2 ||| (ish (1:Int32) (rd s.f22 v1))) v3)) else none) else none))) else (j_search_b215 (j_search_l66 n) (Q.mk s.f0 s.f1 s.f2 s.f3 s.f4 s.f5 s.f6 s.f7 s.f8 s.f9 s.f10 s.f11 s.f12 s.f13 s.f14 s.f15 s.f16 s.f17 s.f18 s.f19 s.f20 s.f21 (wr s.f22 v1 ((rd s.f22 v1) + (1:Int32))) s.f23 s.f24 s.f25 s.f26 s.f27 s.f28 s.f29 s.f30 s.f31 s.f32) v1 v2 v3)) else none) else none) else (j_search_b215 (j_search_l66 n) (Q.mk s.f0 s.f1 s.f2 s.f3 s.f4 s.f5 s.f6 s.f7 s.f8 s.f9 s.f10 s.f11 s.f12 s.f13 s.f14 s.f15 s.f16 s.f17 s.f18 s.f19 s.f20 s.f21 (wr s.f22 v1 ((rd s.f22 v1) + (1:Int32))) s.f23 s.f24 s.f25 s.f26 s.f27 s.f28 s.f29 s.f30 s.f31 s.f32) v1 v2 v3)) else none) else (j_search_b96 (j_search_l66 n) s v1 v2 v3)) else (j_search_b96 (j_search_l66 n) s v1 v2 v3)) else none) else some (.inr (.inr (s))))
set_option maxRecDepth 100000 in
theorem ev_j_search_l66 (R : AHeap) : ∀ (n : Nat) (s : Q) (v1 v2 v3 : Int32) {res : (Q) ⊕ ((Q) ⊕ (Q))} {out : Option Value × AHeap}, j_search_l66 n s v1 v2 v3 = some res → j_search_l66_K R res out → Eval own_P 30 66 [some (.ref 0), some (.int v1), some (.int v2), some (.int v3), none] [] (W1 s R) out := by
 intro n
 induction n with
 | zero => intro _ _ _ _ res out h hk; cases h
 | succ n hrec =>
  intro s v1 v2 v3 res out h hk
  rw [j_search_l66] at h
  refine Eval.iload_n rfl rfl ?_
  refine Eval.ldc (x := 200000) rfl rfl ?_
  by_cases hc465 : v3 < (200000:Int32)
  ·rw [if_pos hc465] at h
   refine Eval.icmpF rfl (tlt hc465).2.1 ?_
   refine Eval.aload_n rfl rfl ?_
   refine Eval.getfield rfl rfl own_g1_nextCand ?_
   refine Eval.iload_n rfl rfl ?_
   obtain ⟨hb466, h⟩ := ite_some h
   refine Eval.iaload rfl own_a1_nextCand hb466 ?_
   refine Eval.istore (L' := [some (.ref 0), some (.int v1), some (.int v2), some (.int v3), some (.int (rd s.f22 v1))]) rfl rfl ?_
   refine Eval.iload rfl rfl ?_
   refine Eval.aload_n rfl rfl ?_
   refine Eval.getfield rfl rfl own_g1_opCount ?_
   by_cases hc467 : (rd s.f22 v1) < s.f31
   ·rw [if_pos hc467] at h
    refine Eval.icmpF rfl (tlt hc467).2.1 ?_
    refine Eval.iload rfl rfl ?_
    refine Eval.bipush (x := 6) rfl rfl ?_
    by_cases hc468 : (rd s.f22 v1) < (6:Int32)
    ·rw [if_pos hc468] at h
     refine Eval.icmpT (t := 121) rfl rfl (tlt hc468).1 ?_
     refine Eval.aload_n rfl rfl ?_
     refine Eval.getfield rfl rfl own_g1_nextCand ?_
     refine Eval.iload_n rfl rfl ?_
     refine Eval.iload rfl rfl ?_
     refine Eval.iconst (x := 1) rfl rfl ?_
     refine Eval.iadd rfl ?_
     obtain ⟨hb469, h⟩ := ite_some h
     refine Eval.iastore rfl rfl own_a1_nextCand hb469 own_s1_nextCand ?_
     refine Eval.iload_n rfl rfl ?_
     refine Eval.iconst (x := 1) rfl rfl ?_
     refine Eval.iload rfl rfl ?_
     refine Eval.ishl rfl ?_
     refine Eval.iand rfl ?_
     by_cases hc470 : (v2 &&& (ish (1:Int32) (rd s.f22 v1))) = (0:Int32)
     ·rw [if_pos hc470] at h
      refine Eval.ifF rfl (teq hc470).2 ?_
      refine Eval.aload_n rfl rfl ?_
      refine Eval.getfield rfl rfl own_g1_predMask ?_
      refine Eval.iload rfl rfl ?_
      obtain ⟨hb471, h⟩ := ite_some h
      refine Eval.iaload rfl own_a1_predMask hb471 ?_
      refine Eval.iload_n rfl rfl ?_
      refine Eval.iand rfl ?_
      refine Eval.aload_n rfl rfl ?_
      refine Eval.getfield rfl rfl own_g1_predMask ?_
      refine Eval.iload rfl rfl ?_
      obtain ⟨hb472, h⟩ := ite_some h
      refine Eval.iaload rfl own_a1_predMask hb472 ?_
      by_cases hc473 : ((rd s.f18 (rd s.f22 v1)) &&& v2) = (rd s.f18 (rd s.f22 v1))
      ·rw [if_pos hc473] at h
       refine Eval.icmpT (t := 162) rfl rfl (teq hc473).1 ?_
       refine Eval.aload_n rfl rfl ?_
       refine Eval.iload rfl rfl ?_
       refine Eval.iload_n rfl rfl ?_
       obtain ⟨p535, hq536, h⟩ := bind_some h
       refine Eval.callI (rest := []) (x := p535.1) (H1 := (W1 p535.2 R)) rfl rfl (Eval.heap own_mk1 (ev_j_apply R (Q.mk s.f0 s.f1 s.f2 s.f3 s.f4 s.f5 s.f6 s.f7 s.f8 s.f9 s.f10 s.f11 s.f12 s.f13 s.f14 s.f15 s.f16 s.f17 s.f18 s.f19 s.f20 s.f21 (wr s.f22 v1 ((rd s.f22 v1) + (1:Int32))) s.f23 s.f24 s.f25 s.f26 s.f27 s.f28 s.f29 s.f30 s.f31 s.f32) (rd s.f22 v1) v1 hq536 rfl)) ?_
       by_cases hc538 : p535.1 = (0:Int32)
       ·rw [if_pos hc538] at h
        refine Eval.ifF rfl (teq hc538).2 ?_
        refine Eval.goto (t := 215) rfl rfl ?_
        refine Eval.weak (lw_mk 15 _) ?_
        exact ev_j_search_b215 R _ hrec p535.2 v1 v2 v3 h hk
       ·rw [if_neg hc538] at h
        refine Eval.ifT (t := 175) rfl rfl (feq hc538).2 ?_
        refine Eval.aload_n rfl rfl ?_
        refine Eval.getfield rfl rfl own_g1_chosen ?_
        refine Eval.iload_n rfl rfl ?_
        refine Eval.iload rfl rfl ?_
        obtain ⟨hb539, h⟩ := ite_some h
        refine Eval.iastore rfl rfl own_a1_chosen hb539 own_s1_chosen ?_
        refine Eval.iload_n rfl rfl ?_
        refine Eval.iconst (x := 1) rfl rfl ?_
        refine Eval.iload rfl rfl ?_
        refine Eval.ishl rfl ?_
        refine Eval.ior rfl ?_
        refine Eval.istore_n (L' := [some (.ref 0), some (.int v1), some (.int (v2 ||| (ish (1:Int32) (rd s.f22 v1)))), some (.int v3), some (.int (rd s.f22 v1))]) rfl rfl ?_
        refine Eval.iinc (L' := [some (.ref 0), some (.int (v1 + (1:Int32))), some (.int (v2 ||| (ish (1:Int32) (rd s.f22 v1)))), some (.int v3), some (.int (rd s.f22 v1))]) rfl rfl rfl ?_
        refine Eval.aload_n rfl rfl ?_
        refine Eval.getfield rfl rfl own_g1_nextCand ?_
        refine Eval.iload_n rfl rfl ?_
        refine Eval.iconst (x := 0) rfl rfl ?_
        obtain ⟨hb540, h⟩ := ite_some h
        refine Eval.iastore rfl rfl own_a1_nextCand hb540 own_s1_nextCand ?_
        refine Eval.iload_n rfl rfl ?_
        refine Eval.aload_n rfl rfl ?_
        refine Eval.getfield rfl rfl own_g1_completeMask ?_
        refine Eval.iand rfl ?_
        refine Eval.aload_n rfl rfl ?_
        refine Eval.getfield rfl rfl own_g1_completeMask ?_
        by_cases hc541 : ((v2 ||| (ish (1:Int32) (rd s.f22 v1))) &&& p535.2.f32) = p535.2.f32
        ·rw [if_pos hc541] at h
         refine Eval.icmpF rfl (teq hc541).2 ?_
         cases h
         refine Eval.heap own_mk1 ?_
         refine Eval.weak (lw_mk 0 _) ?_
         exact hk
        ·rw [if_neg hc541] at h
         refine Eval.icmpT (t := 215) rfl rfl (feq hc541).2 ?_
         refine Eval.heap own_mk1 ?_
         refine Eval.weak (lw_mk 15 _) ?_
         exact ev_j_search_b215 R _ hrec (Q.mk p535.2.f0 p535.2.f1 p535.2.f2 p535.2.f3 p535.2.f4 p535.2.f5 p535.2.f6 p535.2.f7 p535.2.f8 p535.2.f9 p535.2.f10 p535.2.f11 p535.2.f12 p535.2.f13 p535.2.f14 p535.2.f15 p535.2.f16 p535.2.f17 p535.2.f18 p535.2.f19 p535.2.f20 p535.2.f21 (wr p535.2.f22 (v1 + (1:Int32)) (0:Int32)) (wr p535.2.f23 v1 (rd s.f22 v1)) p535.2.f24 p535.2.f25 p535.2.f26 p535.2.f27 p535.2.f28 p535.2.f29 p535.2.f30 p535.2.f31 p535.2.f32) (v1 + (1:Int32)) (v2 ||| (ish (1:Int32) (rd s.f22 v1))) v3 h hk
      ·rw [if_neg hc473] at h
       refine Eval.icmpF rfl (feq hc473).1 ?_
       refine Eval.goto (t := 215) rfl rfl ?_
       refine Eval.heap own_mk1 ?_
       refine Eval.weak (lw_mk 15 _) ?_
       exact ev_j_search_b215 R _ hrec (Q.mk s.f0 s.f1 s.f2 s.f3 s.f4 s.f5 s.f6 s.f7 s.f8 s.f9 s.f10 s.f11 s.f12 s.f13 s.f14 s.f15 s.f16 s.f17 s.f18 s.f19 s.f20 s.f21 (wr s.f22 v1 ((rd s.f22 v1) + (1:Int32))) s.f23 s.f24 s.f25 s.f26 s.f27 s.f28 s.f29 s.f30 s.f31 s.f32) v1 v2 v3 h hk
     ·rw [if_neg hc470] at h
      refine Eval.ifT (t := 215) rfl rfl (feq hc470).2 ?_
      refine Eval.heap own_mk1 ?_
      refine Eval.weak (lw_mk 15 _) ?_
      exact ev_j_search_b215 R _ hrec (Q.mk s.f0 s.f1 s.f2 s.f3 s.f4 s.f5 s.f6 s.f7 s.f8 s.f9 s.f10 s.f11 s.f12 s.f13 s.f14 s.f15 s.f16 s.f17 s.f18 s.f19 s.f20 s.f21 (wr s.f22 v1 ((rd s.f22 v1) + (1:Int32))) s.f23 s.f24 s.f25 s.f26 s.f27 s.f28 s.f29 s.f30 s.f31 s.f32) v1 v2 v3 h hk
    ·rw [if_neg hc468] at h
     refine Eval.icmpF rfl (flt hc468).1 ?_
     refine Eval.weak (lw_mk 15 _) ?_
     exact ev_j_search_b96 R _ hrec s v1 v2 v3 h hk
   ·rw [if_neg hc467] at h
    refine Eval.icmpT (t := 96) rfl rfl (flt hc467).2.1 ?_
    refine Eval.weak (lw_mk 15 _) ?_
    exact ev_j_search_b96 R _ hrec s v1 v2 v3 h hk
  ·rw [if_neg hc465] at h
   refine Eval.icmpT (t := 221) rfl rfl (flt hc465).2.1 ?_
   cases h
   refine Eval.weak (lw_mk 0 _) ?_
   exact hk
def j_search (s : Q) : Option (Int32 × Q) := (if s.f32 = (0:Int32) then some ((1:Int32), s) else (if inb s.f21.length (0:Int32) = true then ((j_search_l21 3000 (Q.mk s.f0 s.f1 s.f2 s.f3 s.f4 s.f5 s.f6 s.f7 s.f8 s.f9 s.f10 s.f11 s.f12 s.f13 s.f14 s.f15 s.f16 s.f17 s.f18 s.f19 s.f20 (wr s.f21 (0:Int32) s.f30) s.f22 s.f23 s.f24 s.f25 s.f26 s.f27 s.f28 s.f29 s.f30 s.f31 s.f32) (0:Int32)).bind fun p461 => (if inb p461.f22.length (0:Int32) = true then ((j_search_l66 200010 (Q.mk p461.f0 p461.f1 p461.f2 p461.f3 p461.f4 p461.f5 p461.f6 p461.f7 p461.f8 p461.f9 p461.f10 p461.f11 p461.f12 p461.f13 p461.f14 p461.f15 p461.f16 p461.f17 p461.f18 p461.f19 p461.f20 p461.f21 (wr p461.f22 (0:Int32) (0:Int32)) p461.f23 p461.f24 p461.f25 p461.f26 p461.f27 p461.f28 p461.f29 p461.f30 p461.f31 p461.f32) (0:Int32) (0:Int32) (0:Int32)).bind fun p544 => Sum.elim (fun p546 => some ((0:Int32), p546)) (fun p547 => Sum.elim (fun p549 => some ((1:Int32), p549)) (fun p550 => some ((0:Int32), p550)) p547) p544) else none)) else none))
set_option maxRecDepth 100000 in
theorem ev_j_search (R : AHeap) (s : Q) {res : Int32 × Q} {out : Option Value × AHeap} (h : j_search s = some res) (hk : out = (some (.int res.1), (W1 res.2 R))) : Eval own_P 30 0 [some (.ref 0), none, none, none, none] [] (W1 s R) out := by
 rw [j_search] at h
 refine Eval.aload_n rfl rfl ?_
 refine Eval.getfield rfl rfl own_g1_completeMask ?_
 by_cases hc455 : s.f32 = (0:Int32)
 ·rw [if_pos hc455] at h
  refine Eval.ifF rfl (teq hc455).2 ?_
  refine Eval.iconst (x := 1) rfl rfl ?_
  cases h
  subst hk
  exact Eval.ret rfl rfl
 ·rw [if_neg hc455] at h
  refine Eval.ifT (t := 9) rfl rfl (feq hc455).2 ?_
  refine Eval.aload_n rfl rfl ?_
  refine Eval.getfield rfl rfl own_g1_qLen ?_
  refine Eval.iconst (x := 0) rfl rfl ?_
  refine Eval.aload_n rfl rfl ?_
  refine Eval.getfield rfl rfl own_g1_snapLen ?_
  obtain ⟨hb456, h⟩ := ite_some h
  refine Eval.iastore rfl rfl own_a1_qLen hb456 own_s1_qLen ?_
  refine Eval.iconst (x := 0) rfl rfl ?_
  refine Eval.istore_n (L' := [some (.ref 0), some (.int 0), none, none, none]) rfl rfl ?_
  refine Eval.heap own_mk1 ?_
  obtain ⟨p461, hq462, h⟩ := bind_some h
  refine ev_j_search_l21 R _ (Q.mk s.f0 s.f1 s.f2 s.f3 s.f4 s.f5 s.f6 s.f7 s.f8 s.f9 s.f10 s.f11 s.f12 s.f13 s.f14 s.f15 s.f16 s.f17 s.f18 s.f19 s.f20 (wr s.f21 (0:Int32) s.f30) s.f22 s.f23 s.f24 s.f25 s.f26 s.f27 s.f28 s.f29 s.f30 s.f31 s.f32) (0:Int32) hq462 ?_
  show Eval own_P 30 53 [some (.ref 0), none, none, none, none] [] (W1 p461 R) out
  refine Eval.iconst (x := 0) rfl rfl ?_
  refine Eval.istore_n (L' := [some (.ref 0), some (.int 0), none, none, none]) rfl rfl ?_
  refine Eval.iconst (x := 0) rfl rfl ?_
  refine Eval.istore_n (L' := [some (.ref 0), some (.int 0), some (.int 0), none, none]) rfl rfl ?_
  refine Eval.aload_n rfl rfl ?_
  refine Eval.getfield rfl rfl own_g1_nextCand ?_
  refine Eval.iconst (x := 0) rfl rfl ?_
  refine Eval.iconst (x := 0) rfl rfl ?_
  obtain ⟨hb464, h⟩ := ite_some h
  refine Eval.iastore rfl rfl own_a1_nextCand hb464 own_s1_nextCand ?_
  refine Eval.iconst (x := 0) rfl rfl ?_
  refine Eval.istore_n (L' := [some (.ref 0), some (.int 0), some (.int 0), some (.int 0), none]) rfl rfl ?_
  refine Eval.heap own_mk1 ?_
  obtain ⟨p544, hq545, h⟩ := bind_some h
  rcases p544 with p546 | p547
  ·dsimp only [Sum.elim] at h
   refine ev_j_search_l66 R _ (Q.mk p461.f0 p461.f1 p461.f2 p461.f3 p461.f4 p461.f5 p461.f6 p461.f7 p461.f8 p461.f9 p461.f10 p461.f11 p461.f12 p461.f13 p461.f14 p461.f15 p461.f16 p461.f17 p461.f18 p461.f19 p461.f20 p461.f21 (wr p461.f22 (0:Int32) (0:Int32)) p461.f23 p461.f24 p461.f25 p461.f26 p461.f27 p461.f28 p461.f29 p461.f30 p461.f31 p461.f32) (0:Int32) (0:Int32) (0:Int32) hq545 ?_
   show Eval own_P 30 100 [none, none, none, none, none] [] (W1 p546 R) out
   refine Eval.iconst (x := 0) rfl rfl ?_
   cases h
   subst hk
   exact Eval.ret rfl rfl
  ·dsimp only [Sum.elim] at h
   rcases p547 with p549 | p550
   ·dsimp only [Sum.elim] at h
    refine ev_j_search_l66 R _ (Q.mk p461.f0 p461.f1 p461.f2 p461.f3 p461.f4 p461.f5 p461.f6 p461.f7 p461.f8 p461.f9 p461.f10 p461.f11 p461.f12 p461.f13 p461.f14 p461.f15 p461.f16 p461.f17 p461.f18 p461.f19 p461.f20 p461.f21 (wr p461.f22 (0:Int32) (0:Int32)) p461.f23 p461.f24 p461.f25 p461.f26 p461.f27 p461.f28 p461.f29 p461.f30 p461.f31 p461.f32) (0:Int32) (0:Int32) (0:Int32) hq545 ?_
    show Eval own_P 30 213 [none, none, none, none, none] [] (W1 p549 R) out
    refine Eval.iconst (x := 1) rfl rfl ?_
    cases h
    subst hk
    exact Eval.ret rfl rfl
   ·dsimp only [Sum.elim] at h
    refine ev_j_search_l66 R _ (Q.mk p461.f0 p461.f1 p461.f2 p461.f3 p461.f4 p461.f5 p461.f6 p461.f7 p461.f8 p461.f9 p461.f10 p461.f11 p461.f12 p461.f13 p461.f14 p461.f15 p461.f16 p461.f17 p461.f18 p461.f19 p461.f20 p461.f21 (wr p461.f22 (0:Int32) (0:Int32)) p461.f23 p461.f24 p461.f25 p461.f26 p461.f27 p461.f28 p461.f29 p461.f30 p461.f31 p461.f32) (0:Int32) (0:Int32) (0:Int32) hq545 ?_
    show Eval own_P 30 221 [none, none, none, none, none] [] (W1 p550 R) out
    refine Eval.iconst (x := 0) rfl rfl ?_
    cases h
    subst hk
    exact Eval.ret rfl rfl
def j_check (s : Q) : Option (Int32 × Q) := ((j_countInvocations s).bind fun p363 => (if (6:Int32) < p363 then some ((-1:Int32), s) else ((j_parseOps s).bind fun p419 => ((j_buildPreds p419).bind fun p452 => ((j_search p452).bind fun p553 => some (p553.1, p553.2))))))
set_option maxRecDepth 100000 in
theorem ev_j_check (R : AHeap) (s : Q) {res : Int32 × Q} {out : Option Value × AHeap} (h : j_check s = some res) (hk : out = (some (.int res.1), (W1 res.2 R))) : Eval own_P 24 0 [some (.ref 0), none] [] (W1 s R) out := by
 rw [j_check] at h
 refine Eval.aload_n rfl rfl ?_
 obtain ⟨p363, hq364, h⟩ := bind_some h
 refine Eval.callI (rest := []) (x := p363) (H1 := (W1 s R)) rfl rfl (ev_j_countInvocations R s hq364 rfl) ?_
 refine Eval.istore_n (L' := [some (.ref 0), some (.int p363)]) rfl rfl ?_
 refine Eval.iload_n rfl rfl ?_
 refine Eval.bipush (x := 6) rfl rfl ?_
 by_cases hc365 : (6:Int32) < p363
 ·rw [if_pos hc365] at h
  refine Eval.icmpF rfl (tlt hc365).2.2.2 ?_
  refine Eval.iconst (x := -1) rfl rfl ?_
  cases h
  subst hk
  exact Eval.ret rfl rfl
 ·rw [if_neg hc365] at h
  refine Eval.icmpT (t := 13) rfl rfl (flt hc365).2.2.2 ?_
  refine Eval.aload_n rfl rfl ?_
  obtain ⟨p419, hq420, h⟩ := bind_some h
  refine Eval.callN (rest := []) (H1 := (W1 p419 R)) rfl rfl (ev_j_parseOps R s hq420 rfl) ?_
  refine Eval.aload_n rfl rfl ?_
  obtain ⟨p452, hq453, h⟩ := bind_some h
  refine Eval.callN (rest := []) (H1 := (W1 p452 R)) rfl rfl (ev_j_buildPreds R p419 hq453 rfl) ?_
  refine Eval.aload_n rfl rfl ?_
  obtain ⟨p553, hq554, h⟩ := bind_some h
  refine Eval.callI (rest := []) (x := p553.1) (H1 := (W1 p553.2 R)) rfl rfl (ev_j_search R p452 hq554 rfl) ?_
  cases h
  subst hk
  exact Eval.ret rfl rfl
def law_b948 (s : Q) (w0 : Int32) : Option (Int32 × Q) := some ((w0 &&& 1), s)
set_option maxRecDepth 100000 in
theorem ev_law_b948 (s : Q) (w0 : Int32) {res : Int32 × Q} {out : Option Value × AHeap} (h : law_b948 s w0 = some res) (hk : out = (some (.int res.1), (W1 res.2 []))) : Eval own_P 0 948 [none, none, none, none, none, none, none, none, none, none, none, none, none, none] [.int w0] (W1 s []) out := by
 rw [law_b948] at h
 refine Eval.istore (L' := [none, none, none, none, none, none, none, some (.int w0), none, none, none, none, none, none]) rfl rfl ?_
 refine Eval.iload rfl rfl ?_
 cases h
 subst hk
 exact Eval.ret rfl rfl
def law_b923 (s : Q) (w0 : Int32) : Option (Int32 × Q) := ((j_check s).bind fun p556 => (law_b948 p556.2 (if w0 = (0:Int32) then (0:Int32) else (if p556.1 = (1:Int32) then (1:Int32) else (0:Int32)))))
set_option maxRecDepth 100000 in
theorem ev_law_b923 (s : Q) (w0 : Int32) {res : Int32 × Q} {out : Option Value × AHeap} (h : law_b923 s w0 = some res) (hk : out = (some (.int res.1), (W1 res.2 []))) : Eval own_P 0 923 [none, none, none, none, some (.ref 0), none, none, none, none, none, none, none, none, none] [.int w0] (W1 s []) out := by
 rw [law_b923] at h
 refine Eval.istore (L' := [none, none, none, none, some (.ref 0), none, none, some (.int w0), none, none, none, none, none, none]) rfl rfl ?_
 refine Eval.aload rfl rfl ?_
 obtain ⟨p556, hq557, h⟩ := bind_some h
 refine Eval.callI (rest := []) (x := p556.1) (H1 := (W1 p556.2 [])) rfl rfl (ev_j_check [] s hq557 rfl) ?_
 refine Eval.istore (L' := [none, none, none, none, some (.ref 0), none, none, some (.int w0), some (.int p556.1), none, none, none, none, none]) rfl rfl ?_
 refine Eval.iload rfl rfl ?_
 suffices hJ560 : Eval own_P 0 948 [none, none, none, none, none, none, none, none, none, none, none, none, none, none] [.int (if w0 = (0:Int32) then (0:Int32) else (if p556.1 = (1:Int32) then (1:Int32) else (0:Int32)))] (W1 p556.2 []) out by
  by_cases hc558 : w0 = (0:Int32)
  ·refine Eval.ifT (t := 947) rfl rfl (teq hc558).1 ?_
   refine Eval.iconst (x := 0) rfl rfl ?_
   refine Eval.weak (lw_mk 0 _) ?_
   exact (Eval.conv hJ560 rfl (by simp only [if_pos hc558]))
  ·refine Eval.ifF rfl (feq hc558).1 ?_
   refine Eval.iload rfl rfl ?_
   refine Eval.iconst (x := 1) rfl rfl ?_
   by_cases hc559 : p556.1 = (1:Int32)
   ·refine Eval.icmpF rfl (teq hc559).2 ?_
    refine Eval.iconst (x := 1) rfl rfl ?_
    refine Eval.goto (t := 948) rfl rfl ?_
    refine Eval.weak (lw_mk 0 _) ?_
    exact (Eval.conv hJ560 rfl (by simp only [if_neg hc558, if_pos hc559]))
   ·refine Eval.icmpT (t := 947) rfl rfl (feq hc559).2 ?_
    refine Eval.iconst (x := 0) rfl rfl ?_
    refine Eval.weak (lw_mk 0 _) ?_
    exact (Eval.conv hJ560 rfl (by simp only [if_neg hc558, if_neg hc559]))
 exact ev_law_b948 p556.2 (if w0 = (0:Int32) then (0:Int32) else (if p556.1 = (1:Int32) then (1:Int32) else (0:Int32))) h hk
def law_b898 (s : Q) (w0 : Int32) : Option (Int32 × Q) := ((j_historyValue s (5:Int32)).bind fun p348 => (law_b923 s (if w0 = (0:Int32) then (0:Int32) else (if p348 = (0:Int32) then (1:Int32) else (0:Int32)))))
set_option maxRecDepth 100000 in
theorem ev_law_b898 (s : Q) (w0 : Int32) {res : Int32 × Q} {out : Option Value × AHeap} (h : law_b898 s w0 = some res) (hk : out = (some (.int res.1), (W1 res.2 []))) : Eval own_P 0 898 [none, none, none, none, some (.ref 0), none, none, none, none, none, none, none, none, none] [.int w0] (W1 s []) out := by
 rw [law_b898] at h
 refine Eval.istore (L' := [none, none, none, none, some (.ref 0), none, none, some (.int w0), none, none, none, none, none, none]) rfl rfl ?_
 refine Eval.aload rfl rfl ?_
 refine Eval.iconst (x := 5) rfl rfl ?_
 obtain ⟨p348, hq349, h⟩ := bind_some h
 refine Eval.callI (rest := []) (x := p348) (H1 := (W1 s [])) rfl rfl (ev_j_historyValue [] s (5:Int32) hq349 rfl) ?_
 refine Eval.istore (L' := [none, none, none, none, some (.ref 0), none, none, some (.int w0), some (.int p348), none, none, none, none, none]) rfl rfl ?_
 refine Eval.iload rfl rfl ?_
 suffices hJ352 : Eval own_P 0 923 [none, none, none, none, some (.ref 0), none, none, none, none, none, none, none, none, none] [.int (if w0 = (0:Int32) then (0:Int32) else (if p348 = (0:Int32) then (1:Int32) else (0:Int32)))] (W1 s []) out by
  by_cases hc350 : w0 = (0:Int32)
  ·refine Eval.ifT (t := 922) rfl rfl (teq hc350).1 ?_
   refine Eval.iconst (x := 0) rfl rfl ?_
   refine Eval.weak (lw_mk 16 _) ?_
   exact (Eval.conv hJ352 rfl (by simp only [if_pos hc350]))
  ·refine Eval.ifF rfl (feq hc350).1 ?_
   refine Eval.iload rfl rfl ?_
   by_cases hc351 : p348 = (0:Int32)
   ·refine Eval.ifF rfl (teq hc351).2 ?_
    refine Eval.iconst (x := 1) rfl rfl ?_
    refine Eval.goto (t := 923) rfl rfl ?_
    refine Eval.weak (lw_mk 16 _) ?_
    exact (Eval.conv hJ352 rfl (by simp only [if_neg hc350, if_pos hc351]))
   ·refine Eval.ifT (t := 922) rfl rfl (feq hc351).2 ?_
    refine Eval.iconst (x := 0) rfl rfl ?_
    refine Eval.weak (lw_mk 16 _) ?_
    exact (Eval.conv hJ352 rfl (by simp only [if_neg hc350, if_neg hc351]))
 exact ev_law_b923 s (if w0 = (0:Int32) then (0:Int32) else (if p348 = (0:Int32) then (1:Int32) else (0:Int32))) h hk
def law_b869 (s : Q) (v13 w0 : Int32) : Option (Int32 × Q) := ((j_historyEvent s (5:Int32)).bind fun p343 => (law_b898 s (if w0 = (0:Int32) then (0:Int32) else (if p343 = (v13 + (0:Int32)) then (1:Int32) else (0:Int32)))))
set_option maxRecDepth 100000 in
theorem ev_law_b869 (s : Q) (v13 w0 : Int32) {res : Int32 × Q} {out : Option Value × AHeap} (h : law_b869 s v13 w0 = some res) (hk : out = (some (.int res.1), (W1 res.2 []))) : Eval own_P 0 869 [none, none, none, none, some (.ref 0), none, none, none, none, none, none, none, none, some (.int v13)] [.int w0] (W1 s []) out := by
 rw [law_b869] at h
 refine Eval.istore (L' := [none, none, none, none, some (.ref 0), none, none, some (.int w0), none, none, none, none, none, some (.int v13)]) rfl rfl ?_
 refine Eval.aload rfl rfl ?_
 refine Eval.iconst (x := 5) rfl rfl ?_
 obtain ⟨p343, hq344, h⟩ := bind_some h
 refine Eval.callI (rest := []) (x := p343) (H1 := (W1 s [])) rfl rfl (ev_j_historyEvent [] s (5:Int32) hq344 rfl) ?_
 refine Eval.istore (L' := [none, none, none, none, some (.ref 0), none, none, some (.int w0), some (.int p343), none, none, none, none, some (.int v13)]) rfl rfl ?_
 refine Eval.iload rfl rfl ?_
 suffices hJ347 : Eval own_P 0 898 [none, none, none, none, some (.ref 0), none, none, none, none, none, none, none, none, none] [.int (if w0 = (0:Int32) then (0:Int32) else (if p343 = (v13 + (0:Int32)) then (1:Int32) else (0:Int32)))] (W1 s []) out by
  by_cases hc345 : w0 = (0:Int32)
  ·refine Eval.ifT (t := 897) rfl rfl (teq hc345).1 ?_
   refine Eval.iconst (x := 0) rfl rfl ?_
   refine Eval.weak (lw_mk 16 _) ?_
   exact (Eval.conv hJ347 rfl (by simp only [if_pos hc345]))
  ·refine Eval.ifF rfl (feq hc345).1 ?_
   refine Eval.iload rfl rfl ?_
   refine Eval.iload rfl rfl ?_
   refine Eval.iconst (x := 0) rfl rfl ?_
   refine Eval.iadd rfl ?_
   by_cases hc346 : p343 = (v13 + (0:Int32))
   ·refine Eval.icmpF rfl (teq hc346).2 ?_
    refine Eval.iconst (x := 1) rfl rfl ?_
    refine Eval.goto (t := 898) rfl rfl ?_
    refine Eval.weak (lw_mk 16 _) ?_
    exact (Eval.conv hJ347 rfl (by simp only [if_neg hc345, if_pos hc346]))
   ·refine Eval.icmpT (t := 897) rfl rfl (feq hc346).2 ?_
    refine Eval.iconst (x := 0) rfl rfl ?_
    refine Eval.weak (lw_mk 16 _) ?_
    exact (Eval.conv hJ347 rfl (by simp only [if_neg hc345, if_neg hc346]))
 exact ev_law_b898 s (if w0 = (0:Int32) then (0:Int32) else (if p343 = (v13 + (0:Int32)) then (1:Int32) else (0:Int32))) h hk
def law_b843 (s : Q) (v3 v13 w0 : Int32) : Option (Int32 × Q) := ((j_historyValue s (4:Int32)).bind fun p338 => (law_b869 s v13 (if w0 = (0:Int32) then (0:Int32) else (if p338 = v3 then (1:Int32) else (0:Int32)))))
set_option maxRecDepth 100000 in
theorem ev_law_b843 (s : Q) (v3 v13 w0 : Int32) {res : Int32 × Q} {out : Option Value × AHeap} (h : law_b843 s v3 v13 w0 = some res) (hk : out = (some (.int res.1), (W1 res.2 []))) : Eval own_P 0 843 [none, none, none, some (.int v3), some (.ref 0), none, none, none, none, none, none, none, none, some (.int v13)] [.int w0] (W1 s []) out := by
 rw [law_b843] at h
 refine Eval.istore (L' := [none, none, none, some (.int v3), some (.ref 0), none, none, some (.int w0), none, none, none, none, none, some (.int v13)]) rfl rfl ?_
 refine Eval.aload rfl rfl ?_
 refine Eval.iconst (x := 4) rfl rfl ?_
 obtain ⟨p338, hq339, h⟩ := bind_some h
 refine Eval.callI (rest := []) (x := p338) (H1 := (W1 s [])) rfl rfl (ev_j_historyValue [] s (4:Int32) hq339 rfl) ?_
 refine Eval.istore (L' := [none, none, none, some (.int v3), some (.ref 0), none, none, some (.int w0), some (.int p338), none, none, none, none, some (.int v13)]) rfl rfl ?_
 refine Eval.iload rfl rfl ?_
 suffices hJ342 : Eval own_P 0 869 [none, none, none, none, some (.ref 0), none, none, none, none, none, none, none, none, some (.int v13)] [.int (if w0 = (0:Int32) then (0:Int32) else (if p338 = v3 then (1:Int32) else (0:Int32)))] (W1 s []) out by
  by_cases hc340 : w0 = (0:Int32)
  ·refine Eval.ifT (t := 868) rfl rfl (teq hc340).1 ?_
   refine Eval.iconst (x := 0) rfl rfl ?_
   refine Eval.weak (lw_mk 8208 _) ?_
   exact (Eval.conv hJ342 rfl (by simp only [if_pos hc340]))
  ·refine Eval.ifF rfl (feq hc340).1 ?_
   refine Eval.iload rfl rfl ?_
   refine Eval.iload_n rfl rfl ?_
   by_cases hc341 : p338 = v3
   ·refine Eval.icmpF rfl (teq hc341).2 ?_
    refine Eval.iconst (x := 1) rfl rfl ?_
    refine Eval.goto (t := 869) rfl rfl ?_
    refine Eval.weak (lw_mk 8208 _) ?_
    exact (Eval.conv hJ342 rfl (by simp only [if_neg hc340, if_pos hc341]))
   ·refine Eval.icmpT (t := 868) rfl rfl (feq hc341).2 ?_
    refine Eval.iconst (x := 0) rfl rfl ?_
    refine Eval.weak (lw_mk 8208 _) ?_
    exact (Eval.conv hJ342 rfl (by simp only [if_neg hc340, if_neg hc341]))
 exact ev_law_b869 s v13 (if w0 = (0:Int32) then (0:Int32) else (if p338 = v3 then (1:Int32) else (0:Int32))) h hk
def law_b814 (s : Q) (v3 v11 : Int32) (v13 w0 : Int32) : Option (Int32 × Q) := ((j_historyEvent s (4:Int32)).bind fun p333 => (law_b843 s v3 v13 (if w0 = (0:Int32) then (0:Int32) else (if p333 = (v11 + (0:Int32)) then (1:Int32) else (0:Int32)))))
set_option maxRecDepth 100000 in
theorem ev_law_b814 (s : Q) (v3 v11 : Int32) (v13 w0 : Int32) {res : Int32 × Q} {out : Option Value × AHeap} (h : law_b814 s v3 v11 v13 w0 = some res) (hk : out = (some (.int res.1), (W1 res.2 []))) : Eval own_P 0 814 [none, none, none, some (.int v3), some (.ref 0), none, none, none, none, none, none, some (.int v11), none, some (.int v13)] [.int w0] (W1 s []) out := by
 rw [law_b814] at h
 refine Eval.istore (L' := [none, none, none, some (.int v3), some (.ref 0), none, none, some (.int w0), none, none, none, some (.int v11), none, some (.int v13)]) rfl rfl ?_
 refine Eval.aload rfl rfl ?_
 refine Eval.iconst (x := 4) rfl rfl ?_
 obtain ⟨p333, hq334, h⟩ := bind_some h
 refine Eval.callI (rest := []) (x := p333) (H1 := (W1 s [])) rfl rfl (ev_j_historyEvent [] s (4:Int32) hq334 rfl) ?_
 refine Eval.istore (L' := [none, none, none, some (.int v3), some (.ref 0), none, none, some (.int w0), some (.int p333), none, none, some (.int v11), none, some (.int v13)]) rfl rfl ?_
 refine Eval.iload rfl rfl ?_
 suffices hJ337 : Eval own_P 0 843 [none, none, none, some (.int v3), some (.ref 0), none, none, none, none, none, none, none, none, some (.int v13)] [.int (if w0 = (0:Int32) then (0:Int32) else (if p333 = (v11 + (0:Int32)) then (1:Int32) else (0:Int32)))] (W1 s []) out by
  by_cases hc335 : w0 = (0:Int32)
  ·refine Eval.ifT (t := 842) rfl rfl (teq hc335).1 ?_
   refine Eval.iconst (x := 0) rfl rfl ?_
   refine Eval.weak (lw_mk 8216 _) ?_
   exact (Eval.conv hJ337 rfl (by simp only [if_pos hc335]))
  ·refine Eval.ifF rfl (feq hc335).1 ?_
   refine Eval.iload rfl rfl ?_
   refine Eval.iload rfl rfl ?_
   refine Eval.iconst (x := 0) rfl rfl ?_
   refine Eval.iadd rfl ?_
   by_cases hc336 : p333 = (v11 + (0:Int32))
   ·refine Eval.icmpF rfl (teq hc336).2 ?_
    refine Eval.iconst (x := 1) rfl rfl ?_
    refine Eval.goto (t := 843) rfl rfl ?_
    refine Eval.weak (lw_mk 8216 _) ?_
    exact (Eval.conv hJ337 rfl (by simp only [if_neg hc335, if_pos hc336]))
   ·refine Eval.icmpT (t := 842) rfl rfl (feq hc336).2 ?_
    refine Eval.iconst (x := 0) rfl rfl ?_
    refine Eval.weak (lw_mk 8216 _) ?_
    exact (Eval.conv hJ337 rfl (by simp only [if_neg hc335, if_neg hc336]))
 exact ev_law_b843 s v3 v13 (if w0 = (0:Int32) then (0:Int32) else (if p333 = (v11 + (0:Int32)) then (1:Int32) else (0:Int32))) h hk
def law_b788 (s : Q) (v2 v3 : Int32) (v11 v13 w0 : Int32) : Option (Int32 × Q) := ((j_historyValue s (3:Int32)).bind fun p328 => (law_b814 s v3 v11 v13 (if w0 = (0:Int32) then (0:Int32) else (if p328 = v2 then (1:Int32) else (0:Int32)))))
set_option maxRecDepth 100000 in
theorem ev_law_b788 (s : Q) (v2 v3 : Int32) (v11 v13 w0 : Int32) {res : Int32 × Q} {out : Option Value × AHeap} (h : law_b788 s v2 v3 v11 v13 w0 = some res) (hk : out = (some (.int res.1), (W1 res.2 []))) : Eval own_P 0 788 [none, none, some (.int v2), some (.int v3), some (.ref 0), none, none, none, none, none, none, some (.int v11), none, some (.int v13)] [.int w0] (W1 s []) out := by
 rw [law_b788] at h
 refine Eval.istore (L' := [none, none, some (.int v2), some (.int v3), some (.ref 0), none, none, some (.int w0), none, none, none, some (.int v11), none, some (.int v13)]) rfl rfl ?_
 refine Eval.aload rfl rfl ?_
 refine Eval.iconst (x := 3) rfl rfl ?_
 obtain ⟨p328, hq329, h⟩ := bind_some h
 refine Eval.callI (rest := []) (x := p328) (H1 := (W1 s [])) rfl rfl (ev_j_historyValue [] s (3:Int32) hq329 rfl) ?_
 refine Eval.istore (L' := [none, none, some (.int v2), some (.int v3), some (.ref 0), none, none, some (.int w0), some (.int p328), none, none, some (.int v11), none, some (.int v13)]) rfl rfl ?_
 refine Eval.iload rfl rfl ?_
 suffices hJ332 : Eval own_P 0 814 [none, none, none, some (.int v3), some (.ref 0), none, none, none, none, none, none, some (.int v11), none, some (.int v13)] [.int (if w0 = (0:Int32) then (0:Int32) else (if p328 = v2 then (1:Int32) else (0:Int32)))] (W1 s []) out by
  by_cases hc330 : w0 = (0:Int32)
  ·refine Eval.ifT (t := 813) rfl rfl (teq hc330).1 ?_
   refine Eval.iconst (x := 0) rfl rfl ?_
   refine Eval.weak (lw_mk 10264 _) ?_
   exact (Eval.conv hJ332 rfl (by simp only [if_pos hc330]))
  ·refine Eval.ifF rfl (feq hc330).1 ?_
   refine Eval.iload rfl rfl ?_
   refine Eval.iload_n rfl rfl ?_
   by_cases hc331 : p328 = v2
   ·refine Eval.icmpF rfl (teq hc331).2 ?_
    refine Eval.iconst (x := 1) rfl rfl ?_
    refine Eval.goto (t := 814) rfl rfl ?_
    refine Eval.weak (lw_mk 10264 _) ?_
    exact (Eval.conv hJ332 rfl (by simp only [if_neg hc330, if_pos hc331]))
   ·refine Eval.icmpT (t := 813) rfl rfl (feq hc331).2 ?_
    refine Eval.iconst (x := 0) rfl rfl ?_
    refine Eval.weak (lw_mk 10264 _) ?_
    exact (Eval.conv hJ332 rfl (by simp only [if_neg hc330, if_neg hc331]))
 exact ev_law_b814 s v3 v11 v13 (if w0 = (0:Int32) then (0:Int32) else (if p328 = v2 then (1:Int32) else (0:Int32))) h hk
def law_b759 (s : Q) (v2 v3 : Int32) (v11 v13 w0 : Int32) : Option (Int32 × Q) := ((j_historyEvent s (3:Int32)).bind fun p323 => (law_b788 s v2 v3 v11 v13 (if w0 = (0:Int32) then (0:Int32) else (if p323 = (v13 + (1:Int32)) then (1:Int32) else (0:Int32)))))
set_option maxRecDepth 100000 in
theorem ev_law_b759 (s : Q) (v2 v3 : Int32) (v11 v13 w0 : Int32) {res : Int32 × Q} {out : Option Value × AHeap} (h : law_b759 s v2 v3 v11 v13 w0 = some res) (hk : out = (some (.int res.1), (W1 res.2 []))) : Eval own_P 0 759 [none, none, some (.int v2), some (.int v3), some (.ref 0), none, none, none, none, none, none, some (.int v11), none, some (.int v13)] [.int w0] (W1 s []) out := by
 rw [law_b759] at h
 refine Eval.istore (L' := [none, none, some (.int v2), some (.int v3), some (.ref 0), none, none, some (.int w0), none, none, none, some (.int v11), none, some (.int v13)]) rfl rfl ?_
 refine Eval.aload rfl rfl ?_
 refine Eval.iconst (x := 3) rfl rfl ?_
 obtain ⟨p323, hq324, h⟩ := bind_some h
 refine Eval.callI (rest := []) (x := p323) (H1 := (W1 s [])) rfl rfl (ev_j_historyEvent [] s (3:Int32) hq324 rfl) ?_
 refine Eval.istore (L' := [none, none, some (.int v2), some (.int v3), some (.ref 0), none, none, some (.int w0), some (.int p323), none, none, some (.int v11), none, some (.int v13)]) rfl rfl ?_
 refine Eval.iload rfl rfl ?_
 suffices hJ327 : Eval own_P 0 788 [none, none, some (.int v2), some (.int v3), some (.ref 0), none, none, none, none, none, none, some (.int v11), none, some (.int v13)] [.int (if w0 = (0:Int32) then (0:Int32) else (if p323 = (v13 + (1:Int32)) then (1:Int32) else (0:Int32)))] (W1 s []) out by
  by_cases hc325 : w0 = (0:Int32)
  ·refine Eval.ifT (t := 787) rfl rfl (teq hc325).1 ?_
   refine Eval.iconst (x := 0) rfl rfl ?_
   refine Eval.weak (lw_mk 10268 _) ?_
   exact (Eval.conv hJ327 rfl (by simp only [if_pos hc325]))
  ·refine Eval.ifF rfl (feq hc325).1 ?_
   refine Eval.iload rfl rfl ?_
   refine Eval.iload rfl rfl ?_
   refine Eval.iconst (x := 1) rfl rfl ?_
   refine Eval.iadd rfl ?_
   by_cases hc326 : p323 = (v13 + (1:Int32))
   ·refine Eval.icmpF rfl (teq hc326).2 ?_
    refine Eval.iconst (x := 1) rfl rfl ?_
    refine Eval.goto (t := 788) rfl rfl ?_
    refine Eval.weak (lw_mk 10268 _) ?_
    exact (Eval.conv hJ327 rfl (by simp only [if_neg hc325, if_pos hc326]))
   ·refine Eval.icmpT (t := 787) rfl rfl (feq hc326).2 ?_
    refine Eval.iconst (x := 0) rfl rfl ?_
    refine Eval.weak (lw_mk 10268 _) ?_
    exact (Eval.conv hJ327 rfl (by simp only [if_neg hc325, if_neg hc326]))
 exact ev_law_b788 s v2 v3 v11 v13 (if w0 = (0:Int32) then (0:Int32) else (if p323 = (v13 + (1:Int32)) then (1:Int32) else (0:Int32))) h hk
def law_b734 (s : Q) (v2 v3 : Int32) (v11 v13 w0 : Int32) : Option (Int32 × Q) := ((j_historyValue s (2:Int32)).bind fun p318 => (law_b759 s v2 v3 v11 v13 (if w0 = (0:Int32) then (0:Int32) else (if p318 = (0:Int32) then (1:Int32) else (0:Int32)))))
set_option maxRecDepth 100000 in
theorem ev_law_b734 (s : Q) (v2 v3 : Int32) (v11 v13 w0 : Int32) {res : Int32 × Q} {out : Option Value × AHeap} (h : law_b734 s v2 v3 v11 v13 w0 = some res) (hk : out = (some (.int res.1), (W1 res.2 []))) : Eval own_P 0 734 [none, none, some (.int v2), some (.int v3), some (.ref 0), none, none, none, none, none, none, some (.int v11), none, some (.int v13)] [.int w0] (W1 s []) out := by
 rw [law_b734] at h
 refine Eval.istore (L' := [none, none, some (.int v2), some (.int v3), some (.ref 0), none, none, some (.int w0), none, none, none, some (.int v11), none, some (.int v13)]) rfl rfl ?_
 refine Eval.aload rfl rfl ?_
 refine Eval.iconst (x := 2) rfl rfl ?_
 obtain ⟨p318, hq319, h⟩ := bind_some h
 refine Eval.callI (rest := []) (x := p318) (H1 := (W1 s [])) rfl rfl (ev_j_historyValue [] s (2:Int32) hq319 rfl) ?_
 refine Eval.istore (L' := [none, none, some (.int v2), some (.int v3), some (.ref 0), none, none, some (.int w0), some (.int p318), none, none, some (.int v11), none, some (.int v13)]) rfl rfl ?_
 refine Eval.iload rfl rfl ?_
 suffices hJ322 : Eval own_P 0 759 [none, none, some (.int v2), some (.int v3), some (.ref 0), none, none, none, none, none, none, some (.int v11), none, some (.int v13)] [.int (if w0 = (0:Int32) then (0:Int32) else (if p318 = (0:Int32) then (1:Int32) else (0:Int32)))] (W1 s []) out by
  by_cases hc320 : w0 = (0:Int32)
  ·refine Eval.ifT (t := 758) rfl rfl (teq hc320).1 ?_
   refine Eval.iconst (x := 0) rfl rfl ?_
   refine Eval.weak (lw_mk 10268 _) ?_
   exact (Eval.conv hJ322 rfl (by simp only [if_pos hc320]))
  ·refine Eval.ifF rfl (feq hc320).1 ?_
   refine Eval.iload rfl rfl ?_
   by_cases hc321 : p318 = (0:Int32)
   ·refine Eval.ifF rfl (teq hc321).2 ?_
    refine Eval.iconst (x := 1) rfl rfl ?_
    refine Eval.goto (t := 759) rfl rfl ?_
    refine Eval.weak (lw_mk 10268 _) ?_
    exact (Eval.conv hJ322 rfl (by simp only [if_neg hc320, if_pos hc321]))
   ·refine Eval.ifT (t := 758) rfl rfl (feq hc321).2 ?_
    refine Eval.iconst (x := 0) rfl rfl ?_
    refine Eval.weak (lw_mk 10268 _) ?_
    exact (Eval.conv hJ322 rfl (by simp only [if_neg hc320, if_neg hc321]))
 exact ev_law_b759 s v2 v3 v11 v13 (if w0 = (0:Int32) then (0:Int32) else (if p318 = (0:Int32) then (1:Int32) else (0:Int32))) h hk
def law_b705 (s : Q) (v2 v3 : Int32) (v11 v13 w0 : Int32) : Option (Int32 × Q) := ((j_historyEvent s (2:Int32)).bind fun p313 => (law_b734 s v2 v3 v11 v13 (if w0 = (0:Int32) then (0:Int32) else (if p313 = (v13 + (0:Int32)) then (1:Int32) else (0:Int32)))))
set_option maxRecDepth 100000 in
theorem ev_law_b705 (s : Q) (v2 v3 : Int32) (v11 v13 w0 : Int32) {res : Int32 × Q} {out : Option Value × AHeap} (h : law_b705 s v2 v3 v11 v13 w0 = some res) (hk : out = (some (.int res.1), (W1 res.2 []))) : Eval own_P 0 705 [none, none, some (.int v2), some (.int v3), some (.ref 0), none, none, none, none, none, none, some (.int v11), none, some (.int v13)] [.int w0] (W1 s []) out := by
 rw [law_b705] at h
 refine Eval.istore (L' := [none, none, some (.int v2), some (.int v3), some (.ref 0), none, none, some (.int w0), none, none, none, some (.int v11), none, some (.int v13)]) rfl rfl ?_
 refine Eval.aload rfl rfl ?_
 refine Eval.iconst (x := 2) rfl rfl ?_
 obtain ⟨p313, hq314, h⟩ := bind_some h
 refine Eval.callI (rest := []) (x := p313) (H1 := (W1 s [])) rfl rfl (ev_j_historyEvent [] s (2:Int32) hq314 rfl) ?_
 refine Eval.istore (L' := [none, none, some (.int v2), some (.int v3), some (.ref 0), none, none, some (.int w0), some (.int p313), none, none, some (.int v11), none, some (.int v13)]) rfl rfl ?_
 refine Eval.iload rfl rfl ?_
 suffices hJ317 : Eval own_P 0 734 [none, none, some (.int v2), some (.int v3), some (.ref 0), none, none, none, none, none, none, some (.int v11), none, some (.int v13)] [.int (if w0 = (0:Int32) then (0:Int32) else (if p313 = (v13 + (0:Int32)) then (1:Int32) else (0:Int32)))] (W1 s []) out by
  by_cases hc315 : w0 = (0:Int32)
  ·refine Eval.ifT (t := 733) rfl rfl (teq hc315).1 ?_
   refine Eval.iconst (x := 0) rfl rfl ?_
   refine Eval.weak (lw_mk 10268 _) ?_
   exact (Eval.conv hJ317 rfl (by simp only [if_pos hc315]))
  ·refine Eval.ifF rfl (feq hc315).1 ?_
   refine Eval.iload rfl rfl ?_
   refine Eval.iload rfl rfl ?_
   refine Eval.iconst (x := 0) rfl rfl ?_
   refine Eval.iadd rfl ?_
   by_cases hc316 : p313 = (v13 + (0:Int32))
   ·refine Eval.icmpF rfl (teq hc316).2 ?_
    refine Eval.iconst (x := 1) rfl rfl ?_
    refine Eval.goto (t := 734) rfl rfl ?_
    refine Eval.weak (lw_mk 10268 _) ?_
    exact (Eval.conv hJ317 rfl (by simp only [if_neg hc315, if_pos hc316]))
   ·refine Eval.icmpT (t := 733) rfl rfl (feq hc316).2 ?_
    refine Eval.iconst (x := 0) rfl rfl ?_
    refine Eval.weak (lw_mk 10268 _) ?_
    exact (Eval.conv hJ317 rfl (by simp only [if_neg hc315, if_neg hc316]))
 exact ev_law_b734 s v2 v3 v11 v13 (if w0 = (0:Int32) then (0:Int32) else (if p313 = (v13 + (0:Int32)) then (1:Int32) else (0:Int32))) h hk
def law_b680 (s : Q) (v2 v3 : Int32) (v11 v13 w0 : Int32) : Option (Int32 × Q) := ((j_historyValue s (1:Int32)).bind fun p308 => (law_b705 s v2 v3 v11 v13 (if w0 = (0:Int32) then (0:Int32) else (if p308 = (0:Int32) then (1:Int32) else (0:Int32)))))
set_option maxRecDepth 100000 in
theorem ev_law_b680 (s : Q) (v2 v3 : Int32) (v11 v13 w0 : Int32) {res : Int32 × Q} {out : Option Value × AHeap} (h : law_b680 s v2 v3 v11 v13 w0 = some res) (hk : out = (some (.int res.1), (W1 res.2 []))) : Eval own_P 0 680 [none, none, some (.int v2), some (.int v3), some (.ref 0), none, none, none, none, none, none, some (.int v11), none, some (.int v13)] [.int w0] (W1 s []) out := by
 rw [law_b680] at h
 refine Eval.istore (L' := [none, none, some (.int v2), some (.int v3), some (.ref 0), none, none, some (.int w0), none, none, none, some (.int v11), none, some (.int v13)]) rfl rfl ?_
 refine Eval.aload rfl rfl ?_
 refine Eval.iconst (x := 1) rfl rfl ?_
 obtain ⟨p308, hq309, h⟩ := bind_some h
 refine Eval.callI (rest := []) (x := p308) (H1 := (W1 s [])) rfl rfl (ev_j_historyValue [] s (1:Int32) hq309 rfl) ?_
 refine Eval.istore (L' := [none, none, some (.int v2), some (.int v3), some (.ref 0), none, none, some (.int w0), some (.int p308), none, none, some (.int v11), none, some (.int v13)]) rfl rfl ?_
 refine Eval.iload rfl rfl ?_
 suffices hJ312 : Eval own_P 0 705 [none, none, some (.int v2), some (.int v3), some (.ref 0), none, none, none, none, none, none, some (.int v11), none, some (.int v13)] [.int (if w0 = (0:Int32) then (0:Int32) else (if p308 = (0:Int32) then (1:Int32) else (0:Int32)))] (W1 s []) out by
  by_cases hc310 : w0 = (0:Int32)
  ·refine Eval.ifT (t := 704) rfl rfl (teq hc310).1 ?_
   refine Eval.iconst (x := 0) rfl rfl ?_
   refine Eval.weak (lw_mk 10268 _) ?_
   exact (Eval.conv hJ312 rfl (by simp only [if_pos hc310]))
  ·refine Eval.ifF rfl (feq hc310).1 ?_
   refine Eval.iload rfl rfl ?_
   by_cases hc311 : p308 = (0:Int32)
   ·refine Eval.ifF rfl (teq hc311).2 ?_
    refine Eval.iconst (x := 1) rfl rfl ?_
    refine Eval.goto (t := 705) rfl rfl ?_
    refine Eval.weak (lw_mk 10268 _) ?_
    exact (Eval.conv hJ312 rfl (by simp only [if_neg hc310, if_pos hc311]))
   ·refine Eval.ifT (t := 704) rfl rfl (feq hc311).2 ?_
    refine Eval.iconst (x := 0) rfl rfl ?_
    refine Eval.weak (lw_mk 10268 _) ?_
    exact (Eval.conv hJ312 rfl (by simp only [if_neg hc310, if_neg hc311]))
 exact ev_law_b705 s v2 v3 v11 v13 (if w0 = (0:Int32) then (0:Int32) else (if p308 = (0:Int32) then (1:Int32) else (0:Int32))) h hk
def law_b651 (s : Q) (v2 v3 : Int32) (v11 v12 : Int32) (v13 w0 : Int32) : Option (Int32 × Q) := ((j_historyEvent s (1:Int32)).bind fun p303 => (law_b680 s v2 v3 v11 v13 (if w0 = (0:Int32) then (0:Int32) else (if p303 = (v12 + (1:Int32)) then (1:Int32) else (0:Int32)))))
set_option maxRecDepth 100000 in
theorem ev_law_b651 (s : Q) (v2 v3 : Int32) (v11 v12 : Int32) (v13 w0 : Int32) {res : Int32 × Q} {out : Option Value × AHeap} (h : law_b651 s v2 v3 v11 v12 v13 w0 = some res) (hk : out = (some (.int res.1), (W1 res.2 []))) : Eval own_P 0 651 [none, none, some (.int v2), some (.int v3), some (.ref 0), none, none, none, none, none, none, some (.int v11), some (.int v12), some (.int v13)] [.int w0] (W1 s []) out := by
 rw [law_b651] at h
 refine Eval.istore (L' := [none, none, some (.int v2), some (.int v3), some (.ref 0), none, none, some (.int w0), none, none, none, some (.int v11), some (.int v12), some (.int v13)]) rfl rfl ?_
 refine Eval.aload rfl rfl ?_
 refine Eval.iconst (x := 1) rfl rfl ?_
 obtain ⟨p303, hq304, h⟩ := bind_some h
 refine Eval.callI (rest := []) (x := p303) (H1 := (W1 s [])) rfl rfl (ev_j_historyEvent [] s (1:Int32) hq304 rfl) ?_
 refine Eval.istore (L' := [none, none, some (.int v2), some (.int v3), some (.ref 0), none, none, some (.int w0), some (.int p303), none, none, some (.int v11), some (.int v12), some (.int v13)]) rfl rfl ?_
 refine Eval.iload rfl rfl ?_
 suffices hJ307 : Eval own_P 0 680 [none, none, some (.int v2), some (.int v3), some (.ref 0), none, none, none, none, none, none, some (.int v11), none, some (.int v13)] [.int (if w0 = (0:Int32) then (0:Int32) else (if p303 = (v12 + (1:Int32)) then (1:Int32) else (0:Int32)))] (W1 s []) out by
  by_cases hc305 : w0 = (0:Int32)
  ·refine Eval.ifT (t := 679) rfl rfl (teq hc305).1 ?_
   refine Eval.iconst (x := 0) rfl rfl ?_
   refine Eval.weak (lw_mk 10268 _) ?_
   exact (Eval.conv hJ307 rfl (by simp only [if_pos hc305]))
  ·refine Eval.ifF rfl (feq hc305).1 ?_
   refine Eval.iload rfl rfl ?_
   refine Eval.iload rfl rfl ?_
   refine Eval.iconst (x := 1) rfl rfl ?_
   refine Eval.iadd rfl ?_
   by_cases hc306 : p303 = (v12 + (1:Int32))
   ·refine Eval.icmpF rfl (teq hc306).2 ?_
    refine Eval.iconst (x := 1) rfl rfl ?_
    refine Eval.goto (t := 680) rfl rfl ?_
    refine Eval.weak (lw_mk 10268 _) ?_
    exact (Eval.conv hJ307 rfl (by simp only [if_neg hc305, if_pos hc306]))
   ·refine Eval.icmpT (t := 679) rfl rfl (feq hc306).2 ?_
    refine Eval.iconst (x := 0) rfl rfl ?_
    refine Eval.weak (lw_mk 10268 _) ?_
    exact (Eval.conv hJ307 rfl (by simp only [if_neg hc305, if_neg hc306]))
 exact ev_law_b680 s v2 v3 v11 v13 (if w0 = (0:Int32) then (0:Int32) else (if p303 = (v12 + (1:Int32)) then (1:Int32) else (0:Int32))) h hk
def law_b625 (s : Q) (v2 v3 : Int32) (v11 v12 : Int32) (v13 w0 : Int32) : Option (Int32 × Q) := ((j_historyValue s (0:Int32)).bind fun p298 => (law_b651 s v2 v3 v11 v12 v13 (if w0 = (0:Int32) then (0:Int32) else (if p298 = v2 then (1:Int32) else (0:Int32)))))
set_option maxRecDepth 100000 in
theorem ev_law_b625 (s : Q) (v2 v3 : Int32) (v11 v12 : Int32) (v13 w0 : Int32) {res : Int32 × Q} {out : Option Value × AHeap} (h : law_b625 s v2 v3 v11 v12 v13 w0 = some res) (hk : out = (some (.int res.1), (W1 res.2 []))) : Eval own_P 0 625 [none, none, some (.int v2), some (.int v3), some (.ref 0), none, none, none, none, none, none, some (.int v11), some (.int v12), some (.int v13)] [.int w0] (W1 s []) out := by
 rw [law_b625] at h
 refine Eval.istore (L' := [none, none, some (.int v2), some (.int v3), some (.ref 0), none, none, some (.int w0), none, none, none, some (.int v11), some (.int v12), some (.int v13)]) rfl rfl ?_
 refine Eval.aload rfl rfl ?_
 refine Eval.iconst (x := 0) rfl rfl ?_
 obtain ⟨p298, hq299, h⟩ := bind_some h
 refine Eval.callI (rest := []) (x := p298) (H1 := (W1 s [])) rfl rfl (ev_j_historyValue [] s (0:Int32) hq299 rfl) ?_
 refine Eval.istore (L' := [none, none, some (.int v2), some (.int v3), some (.ref 0), none, none, some (.int w0), some (.int p298), none, none, some (.int v11), some (.int v12), some (.int v13)]) rfl rfl ?_
 refine Eval.iload rfl rfl ?_
 suffices hJ302 : Eval own_P 0 651 [none, none, some (.int v2), some (.int v3), some (.ref 0), none, none, none, none, none, none, some (.int v11), some (.int v12), some (.int v13)] [.int (if w0 = (0:Int32) then (0:Int32) else (if p298 = v2 then (1:Int32) else (0:Int32)))] (W1 s []) out by
  by_cases hc300 : w0 = (0:Int32)
  ·refine Eval.ifT (t := 650) rfl rfl (teq hc300).1 ?_
   refine Eval.iconst (x := 0) rfl rfl ?_
   refine Eval.weak (lw_mk 14364 _) ?_
   exact (Eval.conv hJ302 rfl (by simp only [if_pos hc300]))
  ·refine Eval.ifF rfl (feq hc300).1 ?_
   refine Eval.iload rfl rfl ?_
   refine Eval.iload_n rfl rfl ?_
   by_cases hc301 : p298 = v2
   ·refine Eval.icmpF rfl (teq hc301).2 ?_
    refine Eval.iconst (x := 1) rfl rfl ?_
    refine Eval.goto (t := 651) rfl rfl ?_
    refine Eval.weak (lw_mk 14364 _) ?_
    exact (Eval.conv hJ302 rfl (by simp only [if_neg hc300, if_pos hc301]))
   ·refine Eval.icmpT (t := 650) rfl rfl (feq hc301).2 ?_
    refine Eval.iconst (x := 0) rfl rfl ?_
    refine Eval.weak (lw_mk 14364 _) ?_
    exact (Eval.conv hJ302 rfl (by simp only [if_neg hc300, if_neg hc301]))
 exact ev_law_b651 s v2 v3 v11 v12 v13 (if w0 = (0:Int32) then (0:Int32) else (if p298 = v2 then (1:Int32) else (0:Int32))) h hk
def law_b584 (s : Q) (v2 v3 w0 : Int32) : Option (Int32 × Q) := ((j_historyEvent s (0:Int32)).bind fun p289 => (law_b625 s v2 v3 (16:Int32) (32:Int32) (48:Int32) (if w0 = (0:Int32) then (0:Int32) else (if p289 = ((16:Int32) + (0:Int32)) then (1:Int32) else (0:Int32)))))
set_option maxRecDepth 100000 in
theorem ev_law_b584 (s : Q) (v2 v3 w0 : Int32) {res : Int32 × Q} {out : Option Value × AHeap} (h : law_b584 s v2 v3 w0 = some res) (hk : out = (some (.int res.1), (W1 res.2 []))) : Eval own_P 0 584 [none, none, some (.int v2), some (.int v3), some (.ref 0), none, none, none, none, none, none, none, none, none] [.int w0] (W1 s []) out := by
 rw [law_b584] at h
 refine Eval.istore (L' := [none, none, some (.int v2), some (.int v3), some (.ref 0), none, none, some (.int w0), none, none, none, none, none, none]) rfl rfl ?_
 refine Eval.bipush (x := 16) rfl rfl ?_
 refine Eval.istore (L' := [none, none, some (.int v2), some (.int v3), some (.ref 0), none, none, some (.int w0), none, none, none, some (.int 16), none, none]) rfl rfl ?_
 refine Eval.bipush (x := 32) rfl rfl ?_
 refine Eval.istore (L' := [none, none, some (.int v2), some (.int v3), some (.ref 0), none, none, some (.int w0), none, none, none, some (.int 16), some (.int 32), none]) rfl rfl ?_
 refine Eval.bipush (x := 48) rfl rfl ?_
 refine Eval.istore (L' := [none, none, some (.int v2), some (.int v3), some (.ref 0), none, none, some (.int w0), none, none, none, some (.int 16), some (.int 32), some (.int 48)]) rfl rfl ?_
 refine Eval.aload rfl rfl ?_
 refine Eval.iconst (x := 0) rfl rfl ?_
 obtain ⟨p289, hq290, h⟩ := bind_some h
 refine Eval.callI (rest := []) (x := p289) (H1 := (W1 s [])) rfl rfl (ev_j_historyEvent [] s (0:Int32) hq290 rfl) ?_
 refine Eval.istore (L' := [none, none, some (.int v2), some (.int v3), some (.ref 0), none, none, some (.int w0), some (.int p289), none, none, some (.int 16), some (.int 32), some (.int 48)]) rfl rfl ?_
 refine Eval.iload rfl rfl ?_
 suffices hJ293 : Eval own_P 0 625 [none, none, some (.int v2), some (.int v3), some (.ref 0), none, none, none, none, none, none, some (.int 16), some (.int 32), some (.int 48)] [.int (if w0 = (0:Int32) then (0:Int32) else (if p289 = ((16:Int32) + (0:Int32)) then (1:Int32) else (0:Int32)))] (W1 s []) out by
  by_cases hc291 : w0 = (0:Int32)
  ·refine Eval.ifT (t := 624) rfl rfl (teq hc291).1 ?_
   refine Eval.iconst (x := 0) rfl rfl ?_
   refine Eval.weak (lw_mk 14364 _) ?_
   exact (Eval.conv hJ293 rfl (by simp only [if_pos hc291]))
  ·refine Eval.ifF rfl (feq hc291).1 ?_
   refine Eval.iload rfl rfl ?_
   refine Eval.iload rfl rfl ?_
   refine Eval.iconst (x := 0) rfl rfl ?_
   refine Eval.iadd rfl ?_
   by_cases hc292 : p289 = ((16:Int32) + (0:Int32))
   ·refine Eval.icmpF rfl (teq hc292).2 ?_
    refine Eval.iconst (x := 1) rfl rfl ?_
    refine Eval.goto (t := 625) rfl rfl ?_
    refine Eval.weak (lw_mk 14364 _) ?_
    exact (Eval.conv hJ293 rfl (by simp only [if_neg hc291, if_pos hc292]))
   ·refine Eval.icmpT (t := 624) rfl rfl (feq hc292).2 ?_
    refine Eval.iconst (x := 0) rfl rfl ?_
    refine Eval.weak (lw_mk 14364 _) ?_
    exact (Eval.conv hJ293 rfl (by simp only [if_neg hc291, if_neg hc292]))
 exact ev_law_b625 s v2 v3 (16:Int32) (32:Int32) (48:Int32) (if w0 = (0:Int32) then (0:Int32) else (if p289 = ((16:Int32) + (0:Int32)) then (1:Int32) else (0:Int32))) h hk
def law_b558 (s : Q) (v2 v3 w0 : Int32) : Option (Int32 × Q) := (law_b584 s v2 v3 (if w0 = (0:Int32) then (0:Int32) else (if (j_historyLength s) = (6:Int32) then (1:Int32) else (0:Int32))))
set_option maxRecDepth 100000 in
theorem ev_law_b558 (s : Q) (v2 v3 w0 : Int32) {res : Int32 × Q} {out : Option Value × AHeap} (h : law_b558 s v2 v3 w0 = some res) (hk : out = (some (.int res.1), (W1 res.2 []))) : Eval own_P 0 558 [none, none, some (.int v2), some (.int v3), some (.ref 0), none, none, none, none, none, none, none, none, none] [.int w0] (W1 s []) out := by
 rw [law_b558] at h
 refine Eval.istore (L' := [none, none, some (.int v2), some (.int v3), some (.ref 0), none, none, some (.int w0), none, none, none, none, none, none]) rfl rfl ?_
 refine Eval.aload rfl rfl ?_
 refine Eval.callI (rest := []) (x := (j_historyLength s)) (H1 := (W1 s [])) rfl rfl (ev_j_historyLength [] s rfl rfl) ?_
 refine Eval.istore (L' := [none, none, some (.int v2), some (.int v3), some (.ref 0), none, none, some (.int w0), some (.int (j_historyLength s)), none, none, none, none, none]) rfl rfl ?_
 refine Eval.iload rfl rfl ?_
 suffices hJ283 : Eval own_P 0 584 [none, none, some (.int v2), some (.int v3), some (.ref 0), none, none, none, none, none, none, none, none, none] [.int (if w0 = (0:Int32) then (0:Int32) else (if (j_historyLength s) = (6:Int32) then (1:Int32) else (0:Int32)))] (W1 s []) out by
  by_cases hc281 : w0 = (0:Int32)
  ·refine Eval.ifT (t := 583) rfl rfl (teq hc281).1 ?_
   refine Eval.iconst (x := 0) rfl rfl ?_
   refine Eval.weak (lw_mk 28 _) ?_
   exact (Eval.conv hJ283 rfl (by simp only [if_pos hc281]))
  ·refine Eval.ifF rfl (feq hc281).1 ?_
   refine Eval.iload rfl rfl ?_
   refine Eval.bipush (x := 6) rfl rfl ?_
   by_cases hc282 : (j_historyLength s) = (6:Int32)
   ·refine Eval.icmpF rfl (teq hc282).2 ?_
    refine Eval.iconst (x := 1) rfl rfl ?_
    refine Eval.goto (t := 584) rfl rfl ?_
    refine Eval.weak (lw_mk 28 _) ?_
    exact (Eval.conv hJ283 rfl (by simp only [if_neg hc281, if_pos hc282]))
   ·refine Eval.icmpT (t := 583) rfl rfl (feq hc282).2 ?_
    refine Eval.iconst (x := 0) rfl rfl ?_
    refine Eval.weak (lw_mk 28 _) ?_
    exact (Eval.conv hJ283 rfl (by simp only [if_neg hc281, if_neg hc282]))
 exact ev_law_b584 s v2 v3 (if w0 = (0:Int32) then (0:Int32) else (if (j_historyLength s) = (6:Int32) then (1:Int32) else (0:Int32))) h hk
def law_b532 (s : Q) (v2 v3 w0 : Int32) : Option (Int32 × Q) := ((j_contentAt s (0:Int32)).bind fun p276 => (law_b558 s v2 v3 (if w0 = (0:Int32) then (0:Int32) else (if p276 = v3 then (1:Int32) else (0:Int32)))))
set_option maxRecDepth 100000 in
theorem ev_law_b532 (s : Q) (v2 v3 w0 : Int32) {res : Int32 × Q} {out : Option Value × AHeap} (h : law_b532 s v2 v3 w0 = some res) (hk : out = (some (.int res.1), (W1 res.2 []))) : Eval own_P 0 532 [none, none, some (.int v2), some (.int v3), some (.ref 0), none, none, none, none, none, none, none, none, none] [.int w0] (W1 s []) out := by
 rw [law_b532] at h
 refine Eval.istore (L' := [none, none, some (.int v2), some (.int v3), some (.ref 0), none, none, some (.int w0), none, none, none, none, none, none]) rfl rfl ?_
 refine Eval.aload rfl rfl ?_
 refine Eval.iconst (x := 0) rfl rfl ?_
 obtain ⟨p276, hq277, h⟩ := bind_some h
 refine Eval.callI (rest := []) (x := p276) (H1 := (W1 s [])) rfl rfl (ev_j_contentAt [] s (0:Int32) hq277 rfl) ?_
 refine Eval.istore (L' := [none, none, some (.int v2), some (.int v3), some (.ref 0), none, none, some (.int w0), some (.int p276), none, none, none, none, none]) rfl rfl ?_
 refine Eval.iload rfl rfl ?_
 suffices hJ280 : Eval own_P 0 558 [none, none, some (.int v2), some (.int v3), some (.ref 0), none, none, none, none, none, none, none, none, none] [.int (if w0 = (0:Int32) then (0:Int32) else (if p276 = v3 then (1:Int32) else (0:Int32)))] (W1 s []) out by
  by_cases hc278 : w0 = (0:Int32)
  ·refine Eval.ifT (t := 557) rfl rfl (teq hc278).1 ?_
   refine Eval.iconst (x := 0) rfl rfl ?_
   refine Eval.weak (lw_mk 28 _) ?_
   exact (Eval.conv hJ280 rfl (by simp only [if_pos hc278]))
  ·refine Eval.ifF rfl (feq hc278).1 ?_
   refine Eval.iload rfl rfl ?_
   refine Eval.iload_n rfl rfl ?_
   by_cases hc279 : p276 = v3
   ·refine Eval.icmpF rfl (teq hc279).2 ?_
    refine Eval.iconst (x := 1) rfl rfl ?_
    refine Eval.goto (t := 558) rfl rfl ?_
    refine Eval.weak (lw_mk 28 _) ?_
    exact (Eval.conv hJ280 rfl (by simp only [if_neg hc278, if_pos hc279]))
   ·refine Eval.icmpT (t := 557) rfl rfl (feq hc279).2 ?_
    refine Eval.iconst (x := 0) rfl rfl ?_
    refine Eval.weak (lw_mk 28 _) ?_
    exact (Eval.conv hJ280 rfl (by simp only [if_neg hc278, if_neg hc279]))
 exact ev_law_b558 s v2 v3 (if w0 = (0:Int32) then (0:Int32) else (if p276 = v3 then (1:Int32) else (0:Int32))) h hk
def law_b507 (s : Q) (v2 v3 w0 : Int32) : Option (Int32 × Q) := ((j_contentCount s).bind fun p265 => (law_b532 s v2 v3 (if w0 = (0:Int32) then (0:Int32) else (if p265 = (1:Int32) then (1:Int32) else (0:Int32)))))
set_option maxRecDepth 100000 in
theorem ev_law_b507 (s : Q) (v2 v3 w0 : Int32) {res : Int32 × Q} {out : Option Value × AHeap} (h : law_b507 s v2 v3 w0 = some res) (hk : out = (some (.int res.1), (W1 res.2 []))) : Eval own_P 0 507 [none, none, some (.int v2), some (.int v3), some (.ref 0), none, none, none, none, none, none, none, none, none] [.int w0] (W1 s []) out := by
 rw [law_b507] at h
 refine Eval.istore (L' := [none, none, some (.int v2), some (.int v3), some (.ref 0), none, none, some (.int w0), none, none, none, none, none, none]) rfl rfl ?_
 refine Eval.aload rfl rfl ?_
 obtain ⟨p265, hq266, h⟩ := bind_some h
 refine Eval.callI (rest := []) (x := p265) (H1 := (W1 s [])) rfl rfl (ev_j_contentCount [] s hq266 rfl) ?_
 refine Eval.istore (L' := [none, none, some (.int v2), some (.int v3), some (.ref 0), none, none, some (.int w0), some (.int p265), none, none, none, none, none]) rfl rfl ?_
 refine Eval.iload rfl rfl ?_
 suffices hJ269 : Eval own_P 0 532 [none, none, some (.int v2), some (.int v3), some (.ref 0), none, none, none, none, none, none, none, none, none] [.int (if w0 = (0:Int32) then (0:Int32) else (if p265 = (1:Int32) then (1:Int32) else (0:Int32)))] (W1 s []) out by
  by_cases hc267 : w0 = (0:Int32)
  ·refine Eval.ifT (t := 531) rfl rfl (teq hc267).1 ?_
   refine Eval.iconst (x := 0) rfl rfl ?_
   refine Eval.weak (lw_mk 28 _) ?_
   exact (Eval.conv hJ269 rfl (by simp only [if_pos hc267]))
  ·refine Eval.ifF rfl (feq hc267).1 ?_
   refine Eval.iload rfl rfl ?_
   refine Eval.iconst (x := 1) rfl rfl ?_
   by_cases hc268 : p265 = (1:Int32)
   ·refine Eval.icmpF rfl (teq hc268).2 ?_
    refine Eval.iconst (x := 1) rfl rfl ?_
    refine Eval.goto (t := 532) rfl rfl ?_
    refine Eval.weak (lw_mk 28 _) ?_
    exact (Eval.conv hJ269 rfl (by simp only [if_neg hc267, if_pos hc268]))
   ·refine Eval.icmpT (t := 531) rfl rfl (feq hc268).2 ?_
    refine Eval.iconst (x := 0) rfl rfl ?_
    refine Eval.weak (lw_mk 28 _) ?_
    exact (Eval.conv hJ269 rfl (by simp only [if_neg hc267, if_neg hc268]))
 exact ev_law_b532 s v2 v3 (if w0 = (0:Int32) then (0:Int32) else (if p265 = (1:Int32) then (1:Int32) else (0:Int32))) h hk
def law_b478 (s : Q) (v2 v3 : Int32) (v6 w0 : Int32) : Option (Int32 × Q) := ((j_run s (0:Int32) (64:Int32)).bind fun p260 => (law_b507 p260.2 v2 v3 (if w0 = (0:Int32) then (0:Int32) else (if p260.1 = v6 then (1:Int32) else (0:Int32)))))
set_option maxRecDepth 100000 in
theorem ev_law_b478 (s : Q) (v2 v3 : Int32) (v6 w0 : Int32) {res : Int32 × Q} {out : Option Value × AHeap} (h : law_b478 s v2 v3 v6 w0 = some res) (hk : out = (some (.int res.1), (W1 res.2 []))) : Eval own_P 0 478 [none, none, some (.int v2), some (.int v3), some (.ref 0), none, some (.int v6), none, none, none, none, none, none, none] [.int w0] (W1 s []) out := by
 rw [law_b478] at h
 refine Eval.istore (L' := [none, none, some (.int v2), some (.int v3), some (.ref 0), none, some (.int v6), some (.int w0), none, none, none, none, none, none]) rfl rfl ?_
 refine Eval.aload rfl rfl ?_
 refine Eval.iconst (x := 0) rfl rfl ?_
 refine Eval.bipush (x := 64) rfl rfl ?_
 obtain ⟨p260, hq261, h⟩ := bind_some h
 refine Eval.callI (rest := []) (x := p260.1) (H1 := (W1 p260.2 [])) rfl rfl (ev_j_run [] s (0:Int32) (64:Int32) hq261 rfl) ?_
 refine Eval.istore (L' := [none, none, some (.int v2), some (.int v3), some (.ref 0), none, some (.int v6), some (.int w0), some (.int p260.1), none, none, none, none, none]) rfl rfl ?_
 refine Eval.iload rfl rfl ?_
 suffices hJ264 : Eval own_P 0 507 [none, none, some (.int v2), some (.int v3), some (.ref 0), none, none, none, none, none, none, none, none, none] [.int (if w0 = (0:Int32) then (0:Int32) else (if p260.1 = v6 then (1:Int32) else (0:Int32)))] (W1 p260.2 []) out by
  by_cases hc262 : w0 = (0:Int32)
  ·refine Eval.ifT (t := 506) rfl rfl (teq hc262).1 ?_
   refine Eval.iconst (x := 0) rfl rfl ?_
   refine Eval.weak (lw_mk 28 _) ?_
   exact (Eval.conv hJ264 rfl (by simp only [if_pos hc262]))
  ·refine Eval.ifF rfl (feq hc262).1 ?_
   refine Eval.iload rfl rfl ?_
   refine Eval.iload rfl rfl ?_
   by_cases hc263 : p260.1 = v6
   ·refine Eval.icmpF rfl (teq hc263).2 ?_
    refine Eval.iconst (x := 1) rfl rfl ?_
    refine Eval.goto (t := 507) rfl rfl ?_
    refine Eval.weak (lw_mk 28 _) ?_
    exact (Eval.conv hJ264 rfl (by simp only [if_neg hc262, if_pos hc263]))
   ·refine Eval.icmpT (t := 506) rfl rfl (feq hc263).2 ?_
    refine Eval.iconst (x := 0) rfl rfl ?_
    refine Eval.weak (lw_mk 28 _) ?_
    exact (Eval.conv hJ264 rfl (by simp only [if_neg hc262, if_neg hc263]))
 exact ev_law_b507 p260.2 v2 v3 (if w0 = (0:Int32) then (0:Int32) else (if p260.1 = v6 then (1:Int32) else (0:Int32))) h hk
def law_b452 (s : Q) (v2 v3 : Int32) (v6 w0 : Int32) : Option (Int32 × Q) := ((j_startEnqueue s (0:Int32) v3).bind fun p255 => (law_b478 p255.2 v2 v3 v6 (if w0 = (0:Int32) then (0:Int32) else (if p255.1 = (0:Int32) then (0:Int32) else (1:Int32)))))
set_option maxRecDepth 100000 in
theorem ev_law_b452 (s : Q) (v2 v3 : Int32) (v6 w0 : Int32) {res : Int32 × Q} {out : Option Value × AHeap} (h : law_b452 s v2 v3 v6 w0 = some res) (hk : out = (some (.int res.1), (W1 res.2 []))) : Eval own_P 0 452 [none, none, some (.int v2), some (.int v3), some (.ref 0), none, some (.int v6), none, none, none, none, none, none, none] [.int w0] (W1 s []) out := by
 rw [law_b452] at h
 refine Eval.istore (L' := [none, none, some (.int v2), some (.int v3), some (.ref 0), none, some (.int v6), some (.int w0), none, none, none, none, none, none]) rfl rfl ?_
 refine Eval.aload rfl rfl ?_
 refine Eval.iconst (x := 0) rfl rfl ?_
 refine Eval.iload_n rfl rfl ?_
 obtain ⟨p255, hq256, h⟩ := bind_some h
 refine Eval.callI (rest := []) (x := p255.1) (H1 := (W1 p255.2 [])) rfl rfl (ev_j_startEnqueue [] s (0:Int32) v3 hq256 rfl) ?_
 refine Eval.istore (L' := [none, none, some (.int v2), some (.int v3), some (.ref 0), none, some (.int v6), some (.int w0), none, none, some (.int p255.1), none, none, none]) rfl rfl ?_
 refine Eval.iload rfl rfl ?_
 suffices hJ259 : Eval own_P 0 478 [none, none, some (.int v2), some (.int v3), some (.ref 0), none, some (.int v6), none, none, none, none, none, none, none] [.int (if w0 = (0:Int32) then (0:Int32) else (if p255.1 = (0:Int32) then (0:Int32) else (1:Int32)))] (W1 p255.2 []) out by
  by_cases hc257 : w0 = (0:Int32)
  ·refine Eval.ifT (t := 477) rfl rfl (teq hc257).1 ?_
   refine Eval.iconst (x := 0) rfl rfl ?_
   refine Eval.weak (lw_mk 92 _) ?_
   exact (Eval.conv hJ259 rfl (by simp only [if_pos hc257]))
  ·refine Eval.ifF rfl (feq hc257).1 ?_
   refine Eval.iload rfl rfl ?_
   by_cases hc258 : p255.1 = (0:Int32)
   ·refine Eval.ifT (t := 477) rfl rfl (teq hc258).1 ?_
    refine Eval.iconst (x := 0) rfl rfl ?_
    refine Eval.weak (lw_mk 92 _) ?_
    exact (Eval.conv hJ259 rfl (by simp only [if_neg hc257, if_pos hc258]))
   ·refine Eval.ifF rfl (feq hc258).1 ?_
    refine Eval.iconst (x := 1) rfl rfl ?_
    refine Eval.goto (t := 478) rfl rfl ?_
    refine Eval.weak (lw_mk 92 _) ?_
    exact (Eval.conv hJ259 rfl (by simp only [if_neg hc257, if_neg hc258]))
 exact ev_law_b478 p255.2 v2 v3 v6 (if w0 = (0:Int32) then (0:Int32) else (if p255.1 = (0:Int32) then (0:Int32) else (1:Int32))) h hk
def law_b426 (s : Q) (v2 v3 : Int32) (v6 w0 : Int32) : Option (Int32 × Q) := ((j_lastValue s (1:Int32)).bind fun p250 => (law_b452 s v2 v3 v6 (if w0 = (0:Int32) then (0:Int32) else (if p250 = v2 then (1:Int32) else (0:Int32)))))
set_option maxRecDepth 100000 in
theorem ev_law_b426 (s : Q) (v2 v3 : Int32) (v6 w0 : Int32) {res : Int32 × Q} {out : Option Value × AHeap} (h : law_b426 s v2 v3 v6 w0 = some res) (hk : out = (some (.int res.1), (W1 res.2 []))) : Eval own_P 0 426 [none, none, some (.int v2), some (.int v3), some (.ref 0), none, some (.int v6), none, none, none, none, none, none, none] [.int w0] (W1 s []) out := by
 rw [law_b426] at h
 refine Eval.istore (L' := [none, none, some (.int v2), some (.int v3), some (.ref 0), none, some (.int v6), some (.int w0), none, none, none, none, none, none]) rfl rfl ?_
 refine Eval.aload rfl rfl ?_
 refine Eval.iconst (x := 1) rfl rfl ?_
 obtain ⟨p250, hq251, h⟩ := bind_some h
 refine Eval.callI (rest := []) (x := p250) (H1 := (W1 s [])) rfl rfl (ev_j_lastValue [] s (1:Int32) hq251 rfl) ?_
 refine Eval.istore (L' := [none, none, some (.int v2), some (.int v3), some (.ref 0), none, some (.int v6), some (.int w0), some (.int p250), none, none, none, none, none]) rfl rfl ?_
 refine Eval.iload rfl rfl ?_
 suffices hJ254 : Eval own_P 0 452 [none, none, some (.int v2), some (.int v3), some (.ref 0), none, some (.int v6), none, none, none, none, none, none, none] [.int (if w0 = (0:Int32) then (0:Int32) else (if p250 = v2 then (1:Int32) else (0:Int32)))] (W1 s []) out by
  by_cases hc252 : w0 = (0:Int32)
  ·refine Eval.ifT (t := 451) rfl rfl (teq hc252).1 ?_
   refine Eval.iconst (x := 0) rfl rfl ?_
   refine Eval.weak (lw_mk 92 _) ?_
   exact (Eval.conv hJ254 rfl (by simp only [if_pos hc252]))
  ·refine Eval.ifF rfl (feq hc252).1 ?_
   refine Eval.iload rfl rfl ?_
   refine Eval.iload_n rfl rfl ?_
   by_cases hc253 : p250 = v2
   ·refine Eval.icmpF rfl (teq hc253).2 ?_
    refine Eval.iconst (x := 1) rfl rfl ?_
    refine Eval.goto (t := 452) rfl rfl ?_
    refine Eval.weak (lw_mk 92 _) ?_
    exact (Eval.conv hJ254 rfl (by simp only [if_neg hc252, if_pos hc253]))
   ·refine Eval.icmpT (t := 451) rfl rfl (feq hc253).2 ?_
    refine Eval.iconst (x := 0) rfl rfl ?_
    refine Eval.weak (lw_mk 92 _) ?_
    exact (Eval.conv hJ254 rfl (by simp only [if_neg hc252, if_neg hc253]))
 exact ev_law_b452 s v2 v3 v6 (if w0 = (0:Int32) then (0:Int32) else (if p250 = v2 then (1:Int32) else (0:Int32))) h hk
def law_b400 (s : Q) (v2 v3 : Int32) (v6 w0 : Int32) : Option (Int32 × Q) := ((j_lastStatus s (1:Int32)).bind fun p245 => (law_b426 s v2 v3 v6 (if w0 = (0:Int32) then (0:Int32) else (if p245 = (1:Int32) then (1:Int32) else (0:Int32)))))
set_option maxRecDepth 100000 in
theorem ev_law_b400 (s : Q) (v2 v3 : Int32) (v6 w0 : Int32) {res : Int32 × Q} {out : Option Value × AHeap} (h : law_b400 s v2 v3 v6 w0 = some res) (hk : out = (some (.int res.1), (W1 res.2 []))) : Eval own_P 0 400 [none, none, some (.int v2), some (.int v3), some (.ref 0), none, some (.int v6), none, none, none, none, none, none, none] [.int w0] (W1 s []) out := by
 rw [law_b400] at h
 refine Eval.istore (L' := [none, none, some (.int v2), some (.int v3), some (.ref 0), none, some (.int v6), some (.int w0), none, none, none, none, none, none]) rfl rfl ?_
 refine Eval.aload rfl rfl ?_
 refine Eval.iconst (x := 1) rfl rfl ?_
 obtain ⟨p245, hq246, h⟩ := bind_some h
 refine Eval.callI (rest := []) (x := p245) (H1 := (W1 s [])) rfl rfl (ev_j_lastStatus [] s (1:Int32) hq246 rfl) ?_
 refine Eval.istore (L' := [none, none, some (.int v2), some (.int v3), some (.ref 0), none, some (.int v6), some (.int w0), some (.int p245), none, none, none, none, none]) rfl rfl ?_
 refine Eval.iload rfl rfl ?_
 suffices hJ249 : Eval own_P 0 426 [none, none, some (.int v2), some (.int v3), some (.ref 0), none, some (.int v6), none, none, none, none, none, none, none] [.int (if w0 = (0:Int32) then (0:Int32) else (if p245 = (1:Int32) then (1:Int32) else (0:Int32)))] (W1 s []) out by
  by_cases hc247 : w0 = (0:Int32)
  ·refine Eval.ifT (t := 425) rfl rfl (teq hc247).1 ?_
   refine Eval.iconst (x := 0) rfl rfl ?_
   refine Eval.weak (lw_mk 92 _) ?_
   exact (Eval.conv hJ249 rfl (by simp only [if_pos hc247]))
  ·refine Eval.ifF rfl (feq hc247).1 ?_
   refine Eval.iload rfl rfl ?_
   refine Eval.iconst (x := 1) rfl rfl ?_
   by_cases hc248 : p245 = (1:Int32)
   ·refine Eval.icmpF rfl (teq hc248).2 ?_
    refine Eval.iconst (x := 1) rfl rfl ?_
    refine Eval.goto (t := 426) rfl rfl ?_
    refine Eval.weak (lw_mk 92 _) ?_
    exact (Eval.conv hJ249 rfl (by simp only [if_neg hc247, if_pos hc248]))
   ·refine Eval.icmpT (t := 425) rfl rfl (feq hc248).2 ?_
    refine Eval.iconst (x := 0) rfl rfl ?_
    refine Eval.weak (lw_mk 92 _) ?_
    exact (Eval.conv hJ249 rfl (by simp only [if_neg hc247, if_neg hc248]))
 exact ev_law_b426 s v2 v3 v6 (if w0 = (0:Int32) then (0:Int32) else (if p245 = (1:Int32) then (1:Int32) else (0:Int32))) h hk
def law_b375 (s : Q) (v2 v3 : Int32) (v6 w0 : Int32) : Option (Int32 × Q) := ((j_lastValue s (0:Int32)).bind fun p240 => (law_b400 s v2 v3 v6 (if w0 = (0:Int32) then (0:Int32) else (if p240 = (0:Int32) then (1:Int32) else (0:Int32)))))
set_option maxRecDepth 100000 in
theorem ev_law_b375 (s : Q) (v2 v3 : Int32) (v6 w0 : Int32) {res : Int32 × Q} {out : Option Value × AHeap} (h : law_b375 s v2 v3 v6 w0 = some res) (hk : out = (some (.int res.1), (W1 res.2 []))) : Eval own_P 0 375 [none, none, some (.int v2), some (.int v3), some (.ref 0), none, some (.int v6), none, none, none, none, none, none, none] [.int w0] (W1 s []) out := by
 rw [law_b375] at h
 refine Eval.istore (L' := [none, none, some (.int v2), some (.int v3), some (.ref 0), none, some (.int v6), some (.int w0), none, none, none, none, none, none]) rfl rfl ?_
 refine Eval.aload rfl rfl ?_
 refine Eval.iconst (x := 0) rfl rfl ?_
 obtain ⟨p240, hq241, h⟩ := bind_some h
 refine Eval.callI (rest := []) (x := p240) (H1 := (W1 s [])) rfl rfl (ev_j_lastValue [] s (0:Int32) hq241 rfl) ?_
 refine Eval.istore (L' := [none, none, some (.int v2), some (.int v3), some (.ref 0), none, some (.int v6), some (.int w0), some (.int p240), none, none, none, none, none]) rfl rfl ?_
 refine Eval.iload rfl rfl ?_
 suffices hJ244 : Eval own_P 0 400 [none, none, some (.int v2), some (.int v3), some (.ref 0), none, some (.int v6), none, none, none, none, none, none, none] [.int (if w0 = (0:Int32) then (0:Int32) else (if p240 = (0:Int32) then (1:Int32) else (0:Int32)))] (W1 s []) out by
  by_cases hc242 : w0 = (0:Int32)
  ·refine Eval.ifT (t := 399) rfl rfl (teq hc242).1 ?_
   refine Eval.iconst (x := 0) rfl rfl ?_
   refine Eval.weak (lw_mk 92 _) ?_
   exact (Eval.conv hJ244 rfl (by simp only [if_pos hc242]))
  ·refine Eval.ifF rfl (feq hc242).1 ?_
   refine Eval.iload rfl rfl ?_
   by_cases hc243 : p240 = (0:Int32)
   ·refine Eval.ifF rfl (teq hc243).2 ?_
    refine Eval.iconst (x := 1) rfl rfl ?_
    refine Eval.goto (t := 400) rfl rfl ?_
    refine Eval.weak (lw_mk 92 _) ?_
    exact (Eval.conv hJ244 rfl (by simp only [if_neg hc242, if_pos hc243]))
   ·refine Eval.ifT (t := 399) rfl rfl (feq hc243).2 ?_
    refine Eval.iconst (x := 0) rfl rfl ?_
    refine Eval.weak (lw_mk 92 _) ?_
    exact (Eval.conv hJ244 rfl (by simp only [if_neg hc242, if_neg hc243]))
 exact ev_law_b400 s v2 v3 v6 (if w0 = (0:Int32) then (0:Int32) else (if p240 = (0:Int32) then (1:Int32) else (0:Int32))) h hk
def law_b349 (s : Q) (v2 v3 : Int32) (v6 w0 : Int32) : Option (Int32 × Q) := ((j_lastStatus s (0:Int32)).bind fun p233 => (law_b375 s v2 v3 v6 (if w0 = (0:Int32) then (0:Int32) else (if p233 = (1:Int32) then (1:Int32) else (0:Int32)))))
set_option maxRecDepth 100000 in
theorem ev_law_b349 (s : Q) (v2 v3 : Int32) (v6 w0 : Int32) {res : Int32 × Q} {out : Option Value × AHeap} (h : law_b349 s v2 v3 v6 w0 = some res) (hk : out = (some (.int res.1), (W1 res.2 []))) : Eval own_P 0 349 [none, none, some (.int v2), some (.int v3), some (.ref 0), none, some (.int v6), none, none, none, none, none, none, none] [.int w0] (W1 s []) out := by
 rw [law_b349] at h
 refine Eval.istore (L' := [none, none, some (.int v2), some (.int v3), some (.ref 0), none, some (.int v6), some (.int w0), none, none, none, none, none, none]) rfl rfl ?_
 refine Eval.aload rfl rfl ?_
 refine Eval.iconst (x := 0) rfl rfl ?_
 obtain ⟨p233, hq234, h⟩ := bind_some h
 refine Eval.callI (rest := []) (x := p233) (H1 := (W1 s [])) rfl rfl (ev_j_lastStatus [] s (0:Int32) hq234 rfl) ?_
 refine Eval.istore (L' := [none, none, some (.int v2), some (.int v3), some (.ref 0), none, some (.int v6), some (.int w0), some (.int p233), none, none, none, none, none]) rfl rfl ?_
 refine Eval.iload rfl rfl ?_
 suffices hJ237 : Eval own_P 0 375 [none, none, some (.int v2), some (.int v3), some (.ref 0), none, some (.int v6), none, none, none, none, none, none, none] [.int (if w0 = (0:Int32) then (0:Int32) else (if p233 = (1:Int32) then (1:Int32) else (0:Int32)))] (W1 s []) out by
  by_cases hc235 : w0 = (0:Int32)
  ·refine Eval.ifT (t := 374) rfl rfl (teq hc235).1 ?_
   refine Eval.iconst (x := 0) rfl rfl ?_
   refine Eval.weak (lw_mk 92 _) ?_
   exact (Eval.conv hJ237 rfl (by simp only [if_pos hc235]))
  ·refine Eval.ifF rfl (feq hc235).1 ?_
   refine Eval.iload rfl rfl ?_
   refine Eval.iconst (x := 1) rfl rfl ?_
   by_cases hc236 : p233 = (1:Int32)
   ·refine Eval.icmpF rfl (teq hc236).2 ?_
    refine Eval.iconst (x := 1) rfl rfl ?_
    refine Eval.goto (t := 375) rfl rfl ?_
    refine Eval.weak (lw_mk 92 _) ?_
    exact (Eval.conv hJ237 rfl (by simp only [if_neg hc235, if_pos hc236]))
   ·refine Eval.icmpT (t := 374) rfl rfl (feq hc236).2 ?_
    refine Eval.iconst (x := 0) rfl rfl ?_
    refine Eval.weak (lw_mk 92 _) ?_
    exact (Eval.conv hJ237 rfl (by simp only [if_neg hc235, if_neg hc236]))
 exact ev_law_b375 s v2 v3 v6 (if w0 = (0:Int32) then (0:Int32) else (if p233 = (1:Int32) then (1:Int32) else (0:Int32))) h hk
def law_b320 (s : Q) (v2 v3 : Int32) (v6 w0 : Int32) : Option (Int32 × Q) := ((j_run s (1:Int32) (64:Int32)).bind fun p226 => (law_b349 p226.2 v2 v3 v6 (if w0 = (0:Int32) then (0:Int32) else (if p226.1 = v6 then (1:Int32) else (0:Int32)))))
set_option maxRecDepth 100000 in
theorem ev_law_b320 (s : Q) (v2 v3 : Int32) (v6 w0 : Int32) {res : Int32 × Q} {out : Option Value × AHeap} (h : law_b320 s v2 v3 v6 w0 = some res) (hk : out = (some (.int res.1), (W1 res.2 []))) : Eval own_P 0 320 [none, none, some (.int v2), some (.int v3), some (.ref 0), none, some (.int v6), none, none, none, none, none, none, none] [.int w0] (W1 s []) out := by
 rw [law_b320] at h
 refine Eval.istore (L' := [none, none, some (.int v2), some (.int v3), some (.ref 0), none, some (.int v6), some (.int w0), none, none, none, none, none, none]) rfl rfl ?_
 refine Eval.aload rfl rfl ?_
 refine Eval.iconst (x := 1) rfl rfl ?_
 refine Eval.bipush (x := 64) rfl rfl ?_
 obtain ⟨p226, hq227, h⟩ := bind_some h
 refine Eval.callI (rest := []) (x := p226.1) (H1 := (W1 p226.2 [])) rfl rfl (ev_j_run [] s (1:Int32) (64:Int32) hq227 rfl) ?_
 refine Eval.istore (L' := [none, none, some (.int v2), some (.int v3), some (.ref 0), none, some (.int v6), some (.int w0), some (.int p226.1), none, none, none, none, none]) rfl rfl ?_
 refine Eval.iload rfl rfl ?_
 suffices hJ230 : Eval own_P 0 349 [none, none, some (.int v2), some (.int v3), some (.ref 0), none, some (.int v6), none, none, none, none, none, none, none] [.int (if w0 = (0:Int32) then (0:Int32) else (if p226.1 = v6 then (1:Int32) else (0:Int32)))] (W1 p226.2 []) out by
  by_cases hc228 : w0 = (0:Int32)
  ·refine Eval.ifT (t := 348) rfl rfl (teq hc228).1 ?_
   refine Eval.iconst (x := 0) rfl rfl ?_
   refine Eval.weak (lw_mk 92 _) ?_
   exact (Eval.conv hJ230 rfl (by simp only [if_pos hc228]))
  ·refine Eval.ifF rfl (feq hc228).1 ?_
   refine Eval.iload rfl rfl ?_
   refine Eval.iload rfl rfl ?_
   by_cases hc229 : p226.1 = v6
   ·refine Eval.icmpF rfl (teq hc229).2 ?_
    refine Eval.iconst (x := 1) rfl rfl ?_
    refine Eval.goto (t := 349) rfl rfl ?_
    refine Eval.weak (lw_mk 92 _) ?_
    exact (Eval.conv hJ230 rfl (by simp only [if_neg hc228, if_pos hc229]))
   ·refine Eval.icmpT (t := 348) rfl rfl (feq hc229).2 ?_
    refine Eval.iconst (x := 0) rfl rfl ?_
    refine Eval.weak (lw_mk 92 _) ?_
    exact (Eval.conv hJ230 rfl (by simp only [if_neg hc228, if_neg hc229]))
 exact ev_law_b349 p226.2 v2 v3 v6 (if w0 = (0:Int32) then (0:Int32) else (if p226.1 = v6 then (1:Int32) else (0:Int32))) h hk
def law_b291 (s : Q) (v2 v3 : Int32) (v6 w0 : Int32) : Option (Int32 × Q) := ((j_run s (0:Int32) (64:Int32)).bind fun p221 => (law_b320 p221.2 v2 v3 v6 (if w0 = (0:Int32) then (0:Int32) else (if p221.1 = v6 then (1:Int32) else (0:Int32)))))
set_option maxRecDepth 100000 in
theorem ev_law_b291 (s : Q) (v2 v3 : Int32) (v6 w0 : Int32) {res : Int32 × Q} {out : Option Value × AHeap} (h : law_b291 s v2 v3 v6 w0 = some res) (hk : out = (some (.int res.1), (W1 res.2 []))) : Eval own_P 0 291 [none, none, some (.int v2), some (.int v3), some (.ref 0), none, some (.int v6), none, none, none, none, none, none, none] [.int w0] (W1 s []) out := by
 rw [law_b291] at h
 refine Eval.istore (L' := [none, none, some (.int v2), some (.int v3), some (.ref 0), none, some (.int v6), some (.int w0), none, none, none, none, none, none]) rfl rfl ?_
 refine Eval.aload rfl rfl ?_
 refine Eval.iconst (x := 0) rfl rfl ?_
 refine Eval.bipush (x := 64) rfl rfl ?_
 obtain ⟨p221, hq222, h⟩ := bind_some h
 refine Eval.callI (rest := []) (x := p221.1) (H1 := (W1 p221.2 [])) rfl rfl (ev_j_run [] s (0:Int32) (64:Int32) hq222 rfl) ?_
 refine Eval.istore (L' := [none, none, some (.int v2), some (.int v3), some (.ref 0), none, some (.int v6), some (.int w0), some (.int p221.1), none, none, none, none, none]) rfl rfl ?_
 refine Eval.iload rfl rfl ?_
 suffices hJ225 : Eval own_P 0 320 [none, none, some (.int v2), some (.int v3), some (.ref 0), none, some (.int v6), none, none, none, none, none, none, none] [.int (if w0 = (0:Int32) then (0:Int32) else (if p221.1 = v6 then (1:Int32) else (0:Int32)))] (W1 p221.2 []) out by
  by_cases hc223 : w0 = (0:Int32)
  ·refine Eval.ifT (t := 319) rfl rfl (teq hc223).1 ?_
   refine Eval.iconst (x := 0) rfl rfl ?_
   refine Eval.weak (lw_mk 92 _) ?_
   exact (Eval.conv hJ225 rfl (by simp only [if_pos hc223]))
  ·refine Eval.ifF rfl (feq hc223).1 ?_
   refine Eval.iload rfl rfl ?_
   refine Eval.iload rfl rfl ?_
   by_cases hc224 : p221.1 = v6
   ·refine Eval.icmpF rfl (teq hc224).2 ?_
    refine Eval.iconst (x := 1) rfl rfl ?_
    refine Eval.goto (t := 320) rfl rfl ?_
    refine Eval.weak (lw_mk 92 _) ?_
    exact (Eval.conv hJ225 rfl (by simp only [if_neg hc223, if_pos hc224]))
   ·refine Eval.icmpT (t := 319) rfl rfl (feq hc224).2 ?_
    refine Eval.iconst (x := 0) rfl rfl ?_
    refine Eval.weak (lw_mk 92 _) ?_
    exact (Eval.conv hJ225 rfl (by simp only [if_neg hc223, if_neg hc224]))
 exact ev_law_b320 p221.2 v2 v3 v6 (if w0 = (0:Int32) then (0:Int32) else (if p221.1 = v6 then (1:Int32) else (0:Int32))) h hk
def law_b266 (s : Q) (v2 v3 : Int32) (v6 w0 : Int32) : Option (Int32 × Q) := ((j_contentCount s).bind fun p200 => (law_b291 s v2 v3 v6 (if w0 = (0:Int32) then (0:Int32) else (if p200 = (-1:Int32) then (1:Int32) else (0:Int32)))))
set_option maxRecDepth 100000 in
theorem ev_law_b266 (s : Q) (v2 v3 : Int32) (v6 w0 : Int32) {res : Int32 × Q} {out : Option Value × AHeap} (h : law_b266 s v2 v3 v6 w0 = some res) (hk : out = (some (.int res.1), (W1 res.2 []))) : Eval own_P 0 266 [none, none, some (.int v2), some (.int v3), some (.ref 0), none, some (.int v6), none, none, none, none, none, none, none] [.int w0] (W1 s []) out := by
 rw [law_b266] at h
 refine Eval.istore (L' := [none, none, some (.int v2), some (.int v3), some (.ref 0), none, some (.int v6), some (.int w0), none, none, none, none, none, none]) rfl rfl ?_
 refine Eval.aload rfl rfl ?_
 obtain ⟨p200, hq201, h⟩ := bind_some h
 refine Eval.callI (rest := []) (x := p200) (H1 := (W1 s [])) rfl rfl (ev_j_contentCount [] s hq201 rfl) ?_
 refine Eval.istore (L' := [none, none, some (.int v2), some (.int v3), some (.ref 0), none, some (.int v6), some (.int w0), some (.int p200), none, none, none, none, none]) rfl rfl ?_
 refine Eval.iload rfl rfl ?_
 suffices hJ204 : Eval own_P 0 291 [none, none, some (.int v2), some (.int v3), some (.ref 0), none, some (.int v6), none, none, none, none, none, none, none] [.int (if w0 = (0:Int32) then (0:Int32) else (if p200 = (-1:Int32) then (1:Int32) else (0:Int32)))] (W1 s []) out by
  by_cases hc202 : w0 = (0:Int32)
  ·refine Eval.ifT (t := 290) rfl rfl (teq hc202).1 ?_
   refine Eval.iconst (x := 0) rfl rfl ?_
   refine Eval.weak (lw_mk 92 _) ?_
   exact (Eval.conv hJ204 rfl (by simp only [if_pos hc202]))
  ·refine Eval.ifF rfl (feq hc202).1 ?_
   refine Eval.iload rfl rfl ?_
   refine Eval.iconst (x := -1) rfl rfl ?_
   by_cases hc203 : p200 = (-1:Int32)
   ·refine Eval.icmpF rfl (teq hc203).2 ?_
    refine Eval.iconst (x := 1) rfl rfl ?_
    refine Eval.goto (t := 291) rfl rfl ?_
    refine Eval.weak (lw_mk 92 _) ?_
    exact (Eval.conv hJ204 rfl (by simp only [if_neg hc202, if_pos hc203]))
   ·refine Eval.icmpT (t := 290) rfl rfl (feq hc203).2 ?_
    refine Eval.iconst (x := 0) rfl rfl ?_
    refine Eval.weak (lw_mk 92 _) ?_
    exact (Eval.conv hJ204 rfl (by simp only [if_neg hc202, if_neg hc203]))
 exact ev_law_b291 s v2 v3 v6 (if w0 = (0:Int32) then (0:Int32) else (if p200 = (-1:Int32) then (1:Int32) else (0:Int32))) h hk
def law_b239 (s : Q) (v2 v3 : Int32) (v6 w0 : Int32) : Option (Int32 × Q) := ((j_state s (1:Int32)).bind fun p185 => (law_b266 s v2 v3 v6 (if w0 = (0:Int32) then (0:Int32) else (if p185 = (21:Int32) then (1:Int32) else (0:Int32)))))
set_option maxRecDepth 100000 in
theorem ev_law_b239 (s : Q) (v2 v3 : Int32) (v6 w0 : Int32) {res : Int32 × Q} {out : Option Value × AHeap} (h : law_b239 s v2 v3 v6 w0 = some res) (hk : out = (some (.int res.1), (W1 res.2 []))) : Eval own_P 0 239 [none, none, some (.int v2), some (.int v3), some (.ref 0), none, some (.int v6), none, none, none, none, none, none, none] [.int w0] (W1 s []) out := by
 rw [law_b239] at h
 refine Eval.istore (L' := [none, none, some (.int v2), some (.int v3), some (.ref 0), none, some (.int v6), some (.int w0), none, none, none, none, none, none]) rfl rfl ?_
 refine Eval.aload rfl rfl ?_
 refine Eval.iconst (x := 1) rfl rfl ?_
 obtain ⟨p185, hq186, h⟩ := bind_some h
 refine Eval.callI (rest := []) (x := p185) (H1 := (W1 s [])) rfl rfl (ev_j_state [] s (1:Int32) hq186 rfl) ?_
 refine Eval.istore (L' := [none, none, some (.int v2), some (.int v3), some (.ref 0), none, some (.int v6), some (.int w0), some (.int p185), none, none, none, none, none]) rfl rfl ?_
 refine Eval.iload rfl rfl ?_
 suffices hJ189 : Eval own_P 0 266 [none, none, some (.int v2), some (.int v3), some (.ref 0), none, some (.int v6), none, none, none, none, none, none, none] [.int (if w0 = (0:Int32) then (0:Int32) else (if p185 = (21:Int32) then (1:Int32) else (0:Int32)))] (W1 s []) out by
  by_cases hc187 : w0 = (0:Int32)
  ·refine Eval.ifT (t := 265) rfl rfl (teq hc187).1 ?_
   refine Eval.iconst (x := 0) rfl rfl ?_
   refine Eval.weak (lw_mk 92 _) ?_
   exact (Eval.conv hJ189 rfl (by simp only [if_pos hc187]))
  ·refine Eval.ifF rfl (feq hc187).1 ?_
   refine Eval.iload rfl rfl ?_
   refine Eval.bipush (x := 21) rfl rfl ?_
   by_cases hc188 : p185 = (21:Int32)
   ·refine Eval.icmpF rfl (teq hc188).2 ?_
    refine Eval.iconst (x := 1) rfl rfl ?_
    refine Eval.goto (t := 266) rfl rfl ?_
    refine Eval.weak (lw_mk 92 _) ?_
    exact (Eval.conv hJ189 rfl (by simp only [if_neg hc187, if_pos hc188]))
   ·refine Eval.icmpT (t := 265) rfl rfl (feq hc188).2 ?_
    refine Eval.iconst (x := 0) rfl rfl ?_
    refine Eval.weak (lw_mk 92 _) ?_
    exact (Eval.conv hJ189 rfl (by simp only [if_neg hc187, if_neg hc188]))
 exact ev_law_b266 s v2 v3 v6 (if w0 = (0:Int32) then (0:Int32) else (if p185 = (21:Int32) then (1:Int32) else (0:Int32))) h hk
def law_b212 (s : Q) (v2 v3 : Int32) (v5 v6 w0 : Int32) : Option (Int32 × Q) := ((j_step s (1:Int32)).bind fun p180 => (law_b239 p180.2 v2 v3 v6 (if w0 = (0:Int32) then (0:Int32) else (if p180.1 = v5 then (1:Int32) else (0:Int32)))))
set_option maxRecDepth 100000 in
theorem ev_law_b212 (s : Q) (v2 v3 : Int32) (v5 v6 w0 : Int32) {res : Int32 × Q} {out : Option Value × AHeap} (h : law_b212 s v2 v3 v5 v6 w0 = some res) (hk : out = (some (.int res.1), (W1 res.2 []))) : Eval own_P 0 212 [none, none, some (.int v2), some (.int v3), some (.ref 0), some (.int v5), some (.int v6), none, none, none, none, none, none, none] [.int w0] (W1 s []) out := by
 rw [law_b212] at h
 refine Eval.istore (L' := [none, none, some (.int v2), some (.int v3), some (.ref 0), some (.int v5), some (.int v6), some (.int w0), none, none, none, none, none, none]) rfl rfl ?_
 refine Eval.aload rfl rfl ?_
 refine Eval.iconst (x := 1) rfl rfl ?_
 obtain ⟨p180, hq181, h⟩ := bind_some h
 refine Eval.callI (rest := []) (x := p180.1) (H1 := (W1 p180.2 [])) rfl rfl (ev_j_step [] s (1:Int32) hq181 rfl) ?_
 refine Eval.istore (L' := [none, none, some (.int v2), some (.int v3), some (.ref 0), some (.int v5), some (.int v6), some (.int w0), some (.int p180.1), none, none, none, none, none]) rfl rfl ?_
 refine Eval.iload rfl rfl ?_
 suffices hJ184 : Eval own_P 0 239 [none, none, some (.int v2), some (.int v3), some (.ref 0), none, some (.int v6), none, none, none, none, none, none, none] [.int (if w0 = (0:Int32) then (0:Int32) else (if p180.1 = v5 then (1:Int32) else (0:Int32)))] (W1 p180.2 []) out by
  by_cases hc182 : w0 = (0:Int32)
  ·refine Eval.ifT (t := 238) rfl rfl (teq hc182).1 ?_
   refine Eval.iconst (x := 0) rfl rfl ?_
   refine Eval.weak (lw_mk 92 _) ?_
   exact (Eval.conv hJ184 rfl (by simp only [if_pos hc182]))
  ·refine Eval.ifF rfl (feq hc182).1 ?_
   refine Eval.iload rfl rfl ?_
   refine Eval.iload rfl rfl ?_
   by_cases hc183 : p180.1 = v5
   ·refine Eval.icmpF rfl (teq hc183).2 ?_
    refine Eval.iconst (x := 1) rfl rfl ?_
    refine Eval.goto (t := 239) rfl rfl ?_
    refine Eval.weak (lw_mk 92 _) ?_
    exact (Eval.conv hJ184 rfl (by simp only [if_neg hc182, if_pos hc183]))
   ·refine Eval.icmpT (t := 238) rfl rfl (feq hc183).2 ?_
    refine Eval.iconst (x := 0) rfl rfl ?_
    refine Eval.weak (lw_mk 92 _) ?_
    exact (Eval.conv hJ184 rfl (by simp only [if_neg hc182, if_neg hc183]))
 exact ev_law_b239 p180.2 v2 v3 v6 (if w0 = (0:Int32) then (0:Int32) else (if p180.1 = v5 then (1:Int32) else (0:Int32))) h hk
def law_b185 (s : Q) (v2 v3 : Int32) (v5 v6 w0 : Int32) : Option (Int32 × Q) := ((j_step s (1:Int32)).bind fun p175 => (law_b212 p175.2 v2 v3 v5 v6 (if w0 = (0:Int32) then (0:Int32) else (if p175.1 = v5 then (1:Int32) else (0:Int32)))))
set_option maxRecDepth 100000 in
theorem ev_law_b185 (s : Q) (v2 v3 : Int32) (v5 v6 w0 : Int32) {res : Int32 × Q} {out : Option Value × AHeap} (h : law_b185 s v2 v3 v5 v6 w0 = some res) (hk : out = (some (.int res.1), (W1 res.2 []))) : Eval own_P 0 185 [none, none, some (.int v2), some (.int v3), some (.ref 0), some (.int v5), some (.int v6), none, none, none, none, none, none, none] [.int w0] (W1 s []) out := by
 rw [law_b185] at h
 refine Eval.istore (L' := [none, none, some (.int v2), some (.int v3), some (.ref 0), some (.int v5), some (.int v6), some (.int w0), none, none, none, none, none, none]) rfl rfl ?_
 refine Eval.aload rfl rfl ?_
 refine Eval.iconst (x := 1) rfl rfl ?_
 obtain ⟨p175, hq176, h⟩ := bind_some h
 refine Eval.callI (rest := []) (x := p175.1) (H1 := (W1 p175.2 [])) rfl rfl (ev_j_step [] s (1:Int32) hq176 rfl) ?_
 refine Eval.istore (L' := [none, none, some (.int v2), some (.int v3), some (.ref 0), some (.int v5), some (.int v6), some (.int w0), some (.int p175.1), none, none, none, none, none]) rfl rfl ?_
 refine Eval.iload rfl rfl ?_
 suffices hJ179 : Eval own_P 0 212 [none, none, some (.int v2), some (.int v3), some (.ref 0), some (.int v5), some (.int v6), none, none, none, none, none, none, none] [.int (if w0 = (0:Int32) then (0:Int32) else (if p175.1 = v5 then (1:Int32) else (0:Int32)))] (W1 p175.2 []) out by
  by_cases hc177 : w0 = (0:Int32)
  ·refine Eval.ifT (t := 211) rfl rfl (teq hc177).1 ?_
   refine Eval.iconst (x := 0) rfl rfl ?_
   refine Eval.weak (lw_mk 124 _) ?_
   exact (Eval.conv hJ179 rfl (by simp only [if_pos hc177]))
  ·refine Eval.ifF rfl (feq hc177).1 ?_
   refine Eval.iload rfl rfl ?_
   refine Eval.iload rfl rfl ?_
   by_cases hc178 : p175.1 = v5
   ·refine Eval.icmpF rfl (teq hc178).2 ?_
    refine Eval.iconst (x := 1) rfl rfl ?_
    refine Eval.goto (t := 212) rfl rfl ?_
    refine Eval.weak (lw_mk 124 _) ?_
    exact (Eval.conv hJ179 rfl (by simp only [if_neg hc177, if_pos hc178]))
   ·refine Eval.icmpT (t := 211) rfl rfl (feq hc178).2 ?_
    refine Eval.iconst (x := 0) rfl rfl ?_
    refine Eval.weak (lw_mk 124 _) ?_
    exact (Eval.conv hJ179 rfl (by simp only [if_neg hc177, if_neg hc178]))
 exact ev_law_b212 p175.2 v2 v3 v5 v6 (if w0 = (0:Int32) then (0:Int32) else (if p175.1 = v5 then (1:Int32) else (0:Int32))) h hk
def law_b158 (s : Q) (v2 v3 : Int32) (v5 v6 w0 : Int32) : Option (Int32 × Q) := ((j_step s (1:Int32)).bind fun p170 => (law_b185 p170.2 v2 v3 v5 v6 (if w0 = (0:Int32) then (0:Int32) else (if p170.1 = v5 then (1:Int32) else (0:Int32)))))
set_option maxRecDepth 100000 in
theorem ev_law_b158 (s : Q) (v2 v3 : Int32) (v5 v6 w0 : Int32) {res : Int32 × Q} {out : Option Value × AHeap} (h : law_b158 s v2 v3 v5 v6 w0 = some res) (hk : out = (some (.int res.1), (W1 res.2 []))) : Eval own_P 0 158 [none, none, some (.int v2), some (.int v3), some (.ref 0), some (.int v5), some (.int v6), none, none, none, none, none, none, none] [.int w0] (W1 s []) out := by
 rw [law_b158] at h
 refine Eval.istore (L' := [none, none, some (.int v2), some (.int v3), some (.ref 0), some (.int v5), some (.int v6), some (.int w0), none, none, none, none, none, none]) rfl rfl ?_
 refine Eval.aload rfl rfl ?_
 refine Eval.iconst (x := 1) rfl rfl ?_
 obtain ⟨p170, hq171, h⟩ := bind_some h
 refine Eval.callI (rest := []) (x := p170.1) (H1 := (W1 p170.2 [])) rfl rfl (ev_j_step [] s (1:Int32) hq171 rfl) ?_
 refine Eval.istore (L' := [none, none, some (.int v2), some (.int v3), some (.ref 0), some (.int v5), some (.int v6), some (.int w0), some (.int p170.1), none, none, none, none, none]) rfl rfl ?_
 refine Eval.iload rfl rfl ?_
 suffices hJ174 : Eval own_P 0 185 [none, none, some (.int v2), some (.int v3), some (.ref 0), some (.int v5), some (.int v6), none, none, none, none, none, none, none] [.int (if w0 = (0:Int32) then (0:Int32) else (if p170.1 = v5 then (1:Int32) else (0:Int32)))] (W1 p170.2 []) out by
  by_cases hc172 : w0 = (0:Int32)
  ·refine Eval.ifT (t := 184) rfl rfl (teq hc172).1 ?_
   refine Eval.iconst (x := 0) rfl rfl ?_
   refine Eval.weak (lw_mk 124 _) ?_
   exact (Eval.conv hJ174 rfl (by simp only [if_pos hc172]))
  ·refine Eval.ifF rfl (feq hc172).1 ?_
   refine Eval.iload rfl rfl ?_
   refine Eval.iload rfl rfl ?_
   by_cases hc173 : p170.1 = v5
   ·refine Eval.icmpF rfl (teq hc173).2 ?_
    refine Eval.iconst (x := 1) rfl rfl ?_
    refine Eval.goto (t := 185) rfl rfl ?_
    refine Eval.weak (lw_mk 124 _) ?_
    exact (Eval.conv hJ174 rfl (by simp only [if_neg hc172, if_pos hc173]))
   ·refine Eval.icmpT (t := 184) rfl rfl (feq hc173).2 ?_
    refine Eval.iconst (x := 0) rfl rfl ?_
    refine Eval.weak (lw_mk 124 _) ?_
    exact (Eval.conv hJ174 rfl (by simp only [if_neg hc172, if_neg hc173]))
 exact ev_law_b185 p170.2 v2 v3 v5 v6 (if w0 = (0:Int32) then (0:Int32) else (if p170.1 = v5 then (1:Int32) else (0:Int32))) h hk
def law_b133 (s : Q) (v2 v3 : Int32) (v5 v6 w0 : Int32) : Option (Int32 × Q) := ((j_startDequeue s (1:Int32)).bind fun p165 => (law_b158 p165.2 v2 v3 v5 v6 (if w0 = (0:Int32) then (0:Int32) else (if p165.1 = (0:Int32) then (0:Int32) else (1:Int32)))))
set_option maxRecDepth 100000 in
theorem ev_law_b133 (s : Q) (v2 v3 : Int32) (v5 v6 w0 : Int32) {res : Int32 × Q} {out : Option Value × AHeap} (h : law_b133 s v2 v3 v5 v6 w0 = some res) (hk : out = (some (.int res.1), (W1 res.2 []))) : Eval own_P 0 133 [none, none, some (.int v2), some (.int v3), some (.ref 0), some (.int v5), some (.int v6), none, none, none, none, none, none, none] [.int w0] (W1 s []) out := by
 rw [law_b133] at h
 refine Eval.istore (L' := [none, none, some (.int v2), some (.int v3), some (.ref 0), some (.int v5), some (.int v6), some (.int w0), none, none, none, none, none, none]) rfl rfl ?_
 refine Eval.aload rfl rfl ?_
 refine Eval.iconst (x := 1) rfl rfl ?_
 obtain ⟨p165, hq166, h⟩ := bind_some h
 refine Eval.callI (rest := []) (x := p165.1) (H1 := (W1 p165.2 [])) rfl rfl (ev_j_startDequeue [] s (1:Int32) hq166 rfl) ?_
 refine Eval.istore (L' := [none, none, some (.int v2), some (.int v3), some (.ref 0), some (.int v5), some (.int v6), some (.int w0), none, some (.int p165.1), none, none, none, none]) rfl rfl ?_
 refine Eval.iload rfl rfl ?_
 suffices hJ169 : Eval own_P 0 158 [none, none, some (.int v2), some (.int v3), some (.ref 0), some (.int v5), some (.int v6), none, none, none, none, none, none, none] [.int (if w0 = (0:Int32) then (0:Int32) else (if p165.1 = (0:Int32) then (0:Int32) else (1:Int32)))] (W1 p165.2 []) out by
  by_cases hc167 : w0 = (0:Int32)
  ·refine Eval.ifT (t := 157) rfl rfl (teq hc167).1 ?_
   refine Eval.iconst (x := 0) rfl rfl ?_
   refine Eval.weak (lw_mk 124 _) ?_
   exact (Eval.conv hJ169 rfl (by simp only [if_pos hc167]))
  ·refine Eval.ifF rfl (feq hc167).1 ?_
   refine Eval.iload rfl rfl ?_
   by_cases hc168 : p165.1 = (0:Int32)
   ·refine Eval.ifT (t := 157) rfl rfl (teq hc168).1 ?_
    refine Eval.iconst (x := 0) rfl rfl ?_
    refine Eval.weak (lw_mk 124 _) ?_
    exact (Eval.conv hJ169 rfl (by simp only [if_neg hc167, if_pos hc168]))
   ·refine Eval.ifF rfl (feq hc168).1 ?_
    refine Eval.iconst (x := 1) rfl rfl ?_
    refine Eval.goto (t := 158) rfl rfl ?_
    refine Eval.weak (lw_mk 124 _) ?_
    exact (Eval.conv hJ169 rfl (by simp only [if_neg hc167, if_neg hc168]))
 exact ev_law_b158 p165.2 v2 v3 v5 v6 (if w0 = (0:Int32) then (0:Int32) else (if p165.1 = (0:Int32) then (0:Int32) else (1:Int32))) h hk
def law_b106 (s : Q) (v2 v3 : Int32) (v5 v6 w0 : Int32) : Option (Int32 × Q) := ((j_state s (0:Int32)).bind fun p149 => (law_b133 s v2 v3 v5 v6 (if w0 = (0:Int32) then (0:Int32) else (if p149 = (15:Int32) then (1:Int32) else (0:Int32)))))
set_option maxRecDepth 100000 in
theorem ev_law_b106 (s : Q) (v2 v3 : Int32) (v5 v6 w0 : Int32) {res : Int32 × Q} {out : Option Value × AHeap} (h : law_b106 s v2 v3 v5 v6 w0 = some res) (hk : out = (some (.int res.1), (W1 res.2 []))) : Eval own_P 0 106 [none, none, some (.int v2), some (.int v3), some (.ref 0), some (.int v5), some (.int v6), none, none, none, none, none, none, none] [.int w0] (W1 s []) out := by
 rw [law_b106] at h
 refine Eval.istore (L' := [none, none, some (.int v2), some (.int v3), some (.ref 0), some (.int v5), some (.int v6), some (.int w0), none, none, none, none, none, none]) rfl rfl ?_
 refine Eval.aload rfl rfl ?_
 refine Eval.iconst (x := 0) rfl rfl ?_
 obtain ⟨p149, hq150, h⟩ := bind_some h
 refine Eval.callI (rest := []) (x := p149) (H1 := (W1 s [])) rfl rfl (ev_j_state [] s (0:Int32) hq150 rfl) ?_
 refine Eval.istore (L' := [none, none, some (.int v2), some (.int v3), some (.ref 0), some (.int v5), some (.int v6), some (.int w0), some (.int p149), none, none, none, none, none]) rfl rfl ?_
 refine Eval.iload rfl rfl ?_
 suffices hJ153 : Eval own_P 0 133 [none, none, some (.int v2), some (.int v3), some (.ref 0), some (.int v5), some (.int v6), none, none, none, none, none, none, none] [.int (if w0 = (0:Int32) then (0:Int32) else (if p149 = (15:Int32) then (1:Int32) else (0:Int32)))] (W1 s []) out by
  by_cases hc151 : w0 = (0:Int32)
  ·refine Eval.ifT (t := 132) rfl rfl (teq hc151).1 ?_
   refine Eval.iconst (x := 0) rfl rfl ?_
   refine Eval.weak (lw_mk 124 _) ?_
   exact (Eval.conv hJ153 rfl (by simp only [if_pos hc151]))
  ·refine Eval.ifF rfl (feq hc151).1 ?_
   refine Eval.iload rfl rfl ?_
   refine Eval.bipush (x := 15) rfl rfl ?_
   by_cases hc152 : p149 = (15:Int32)
   ·refine Eval.icmpF rfl (teq hc152).2 ?_
    refine Eval.iconst (x := 1) rfl rfl ?_
    refine Eval.goto (t := 133) rfl rfl ?_
    refine Eval.weak (lw_mk 124 _) ?_
    exact (Eval.conv hJ153 rfl (by simp only [if_neg hc151, if_pos hc152]))
   ·refine Eval.icmpT (t := 132) rfl rfl (feq hc152).2 ?_
    refine Eval.iconst (x := 0) rfl rfl ?_
    refine Eval.weak (lw_mk 124 _) ?_
    exact (Eval.conv hJ153 rfl (by simp only [if_neg hc151, if_neg hc152]))
 exact ev_law_b133 s v2 v3 v5 v6 (if w0 = (0:Int32) then (0:Int32) else (if p149 = (15:Int32) then (1:Int32) else (0:Int32))) h hk
def law_b79 (s : Q) (v2 v3 : Int32) (v5 v6 w0 : Int32) : Option (Int32 × Q) := ((j_step s (0:Int32)).bind fun p142 => (law_b106 p142.2 v2 v3 v5 v6 (if w0 = (0:Int32) then (0:Int32) else (if p142.1 = v5 then (1:Int32) else (0:Int32)))))
set_option maxRecDepth 100000 in
theorem ev_law_b79 (s : Q) (v2 v3 : Int32) (v5 v6 w0 : Int32) {res : Int32 × Q} {out : Option Value × AHeap} (h : law_b79 s v2 v3 v5 v6 w0 = some res) (hk : out = (some (.int res.1), (W1 res.2 []))) : Eval own_P 0 79 [none, none, some (.int v2), some (.int v3), some (.ref 0), some (.int v5), some (.int v6), none, none, none, none, none, none, none] [.int w0] (W1 s []) out := by
 rw [law_b79] at h
 refine Eval.istore (L' := [none, none, some (.int v2), some (.int v3), some (.ref 0), some (.int v5), some (.int v6), some (.int w0), none, none, none, none, none, none]) rfl rfl ?_
 refine Eval.aload rfl rfl ?_
 refine Eval.iconst (x := 0) rfl rfl ?_
 obtain ⟨p142, hq143, h⟩ := bind_some h
 refine Eval.callI (rest := []) (x := p142.1) (H1 := (W1 p142.2 [])) rfl rfl (ev_j_step [] s (0:Int32) hq143 rfl) ?_
 refine Eval.istore (L' := [none, none, some (.int v2), some (.int v3), some (.ref 0), some (.int v5), some (.int v6), some (.int w0), some (.int p142.1), none, none, none, none, none]) rfl rfl ?_
 refine Eval.iload rfl rfl ?_
 suffices hJ146 : Eval own_P 0 106 [none, none, some (.int v2), some (.int v3), some (.ref 0), some (.int v5), some (.int v6), none, none, none, none, none, none, none] [.int (if w0 = (0:Int32) then (0:Int32) else (if p142.1 = v5 then (1:Int32) else (0:Int32)))] (W1 p142.2 []) out by
  by_cases hc144 : w0 = (0:Int32)
  ·refine Eval.ifT (t := 105) rfl rfl (teq hc144).1 ?_
   refine Eval.iconst (x := 0) rfl rfl ?_
   refine Eval.weak (lw_mk 124 _) ?_
   exact (Eval.conv hJ146 rfl (by simp only [if_pos hc144]))
  ·refine Eval.ifF rfl (feq hc144).1 ?_
   refine Eval.iload rfl rfl ?_
   refine Eval.iload rfl rfl ?_
   by_cases hc145 : p142.1 = v5
   ·refine Eval.icmpF rfl (teq hc145).2 ?_
    refine Eval.iconst (x := 1) rfl rfl ?_
    refine Eval.goto (t := 106) rfl rfl ?_
    refine Eval.weak (lw_mk 124 _) ?_
    exact (Eval.conv hJ146 rfl (by simp only [if_neg hc144, if_pos hc145]))
   ·refine Eval.icmpT (t := 105) rfl rfl (feq hc145).2 ?_
    refine Eval.iconst (x := 0) rfl rfl ?_
    refine Eval.weak (lw_mk 124 _) ?_
    exact (Eval.conv hJ146 rfl (by simp only [if_neg hc144, if_neg hc145]))
 exact ev_law_b106 p142.2 v2 v3 v5 v6 (if w0 = (0:Int32) then (0:Int32) else (if p142.1 = v5 then (1:Int32) else (0:Int32))) h hk
def law_b52 (s : Q) (v2 v3 : Int32) (v5 v6 w0 : Int32) : Option (Int32 × Q) := ((j_step s (0:Int32)).bind fun p137 => (law_b79 p137.2 v2 v3 v5 v6 (if w0 = (0:Int32) then (0:Int32) else (if p137.1 = v5 then (1:Int32) else (0:Int32)))))
set_option maxRecDepth 100000 in
theorem ev_law_b52 (s : Q) (v2 v3 : Int32) (v5 v6 w0 : Int32) {res : Int32 × Q} {out : Option Value × AHeap} (h : law_b52 s v2 v3 v5 v6 w0 = some res) (hk : out = (some (.int res.1), (W1 res.2 []))) : Eval own_P 0 52 [none, none, some (.int v2), some (.int v3), some (.ref 0), some (.int v5), some (.int v6), none, none, none, none, none, none, none] [.int w0] (W1 s []) out := by
 rw [law_b52] at h
 refine Eval.istore (L' := [none, none, some (.int v2), some (.int v3), some (.ref 0), some (.int v5), some (.int v6), some (.int w0), none, none, none, none, none, none]) rfl rfl ?_
 refine Eval.aload rfl rfl ?_
 refine Eval.iconst (x := 0) rfl rfl ?_
 obtain ⟨p137, hq138, h⟩ := bind_some h
 refine Eval.callI (rest := []) (x := p137.1) (H1 := (W1 p137.2 [])) rfl rfl (ev_j_step [] s (0:Int32) hq138 rfl) ?_
 refine Eval.istore (L' := [none, none, some (.int v2), some (.int v3), some (.ref 0), some (.int v5), some (.int v6), some (.int w0), some (.int p137.1), none, none, none, none, none]) rfl rfl ?_
 refine Eval.iload rfl rfl ?_
 suffices hJ141 : Eval own_P 0 79 [none, none, some (.int v2), some (.int v3), some (.ref 0), some (.int v5), some (.int v6), none, none, none, none, none, none, none] [.int (if w0 = (0:Int32) then (0:Int32) else (if p137.1 = v5 then (1:Int32) else (0:Int32)))] (W1 p137.2 []) out by
  by_cases hc139 : w0 = (0:Int32)
  ·refine Eval.ifT (t := 78) rfl rfl (teq hc139).1 ?_
   refine Eval.iconst (x := 0) rfl rfl ?_
   refine Eval.weak (lw_mk 124 _) ?_
   exact (Eval.conv hJ141 rfl (by simp only [if_pos hc139]))
  ·refine Eval.ifF rfl (feq hc139).1 ?_
   refine Eval.iload rfl rfl ?_
   refine Eval.iload rfl rfl ?_
   by_cases hc140 : p137.1 = v5
   ·refine Eval.icmpF rfl (teq hc140).2 ?_
    refine Eval.iconst (x := 1) rfl rfl ?_
    refine Eval.goto (t := 79) rfl rfl ?_
    refine Eval.weak (lw_mk 124 _) ?_
    exact (Eval.conv hJ141 rfl (by simp only [if_neg hc139, if_pos hc140]))
   ·refine Eval.icmpT (t := 78) rfl rfl (feq hc140).2 ?_
    refine Eval.iconst (x := 0) rfl rfl ?_
    refine Eval.weak (lw_mk 124 _) ?_
    exact (Eval.conv hJ141 rfl (by simp only [if_neg hc139, if_neg hc140]))
 exact ev_law_b79 p137.2 v2 v3 v5 v6 (if w0 = (0:Int32) then (0:Int32) else (if p137.1 = v5 then (1:Int32) else (0:Int32))) h hk
def law (v0 v1 : Int32) (v2 v3 : Int32) : Option (Int32 × Q) := ((j_init v0 (2:Int32) v1).bind fun p12 => ((j_startEnqueue p12 (0:Int32) v2).bind fun p43 => ((j_step p43.2 (0:Int32)).bind fun p132 => (law_b52 p132.2 v2 v3 (1:Int32) (2:Int32) (if p43.1 = (0:Int32) then (0:Int32) else (if p132.1 = (1:Int32) then (1:Int32) else (0:Int32)))))))
set_option maxRecDepth 100000 in
theorem ev_law (v0 v1 : Int32) (v2 v3 : Int32) {res : Int32 × Q} {out : Option Value × AHeap} (h : law v0 v1 v2 v3 = some res) (hk : out = (some (.int res.1), (W1 res.2 []))) : Eval own_P 0 0 [some (.int v0), some (.int v1), some (.int v2), some (.int v3), none, none, none, none, none, none, none, none, none, none] [] (W0 []) out := by
 rw [law] at h
 refine Eval.new (z := 0) (a := 0) (H1 := (W0 [.inl (Prog.fresh own_P)])) rfl rfl rfl (by decide) rfl (by decide) rfl ?_
 refine Eval.dupR rfl ?_
 refine Eval.iload_n rfl rfl ?_
 refine Eval.iconst (x := 2) rfl rfl ?_
 refine Eval.iload_n rfl rfl ?_
 obtain ⟨p12, hq13, h⟩ := bind_some h
 refine Eval.callN (rest := [.ref 0]) (H1 := (W1 p12 [])) rfl rfl (ev_j_init v0 (2:Int32) v1 hq13 rfl) ?_
 refine Eval.astore (L' := [some (.int v0), some (.int v1), some (.int v2), some (.int v3), some (.ref 0), none, none, none, none, none, none, none, none, none]) rfl rfl ?_
 refine Eval.iconst (x := 1) rfl rfl ?_
 refine Eval.istore (L' := [some (.int v0), some (.int v1), some (.int v2), some (.int v3), some (.ref 0), some (.int 1), none, none, none, none, none, none, none, none]) rfl rfl ?_
 refine Eval.iconst (x := 2) rfl rfl ?_
 refine Eval.istore (L' := [some (.int v0), some (.int v1), some (.int v2), some (.int v3), some (.ref 0), some (.int 1), some (.int 2), none, none, none, none, none, none, none]) rfl rfl ?_
 refine Eval.aload rfl rfl ?_
 refine Eval.iconst (x := 0) rfl rfl ?_
 refine Eval.iload_n rfl rfl ?_
 obtain ⟨p43, hq44, h⟩ := bind_some h
 refine Eval.callI (rest := []) (x := p43.1) (H1 := (W1 p43.2 [])) rfl rfl (ev_j_startEnqueue [] p12 (0:Int32) v2 hq44 rfl) ?_
 refine Eval.istore (L' := [some (.int v0), some (.int v1), some (.int v2), some (.int v3), some (.ref 0), some (.int 1), some (.int 2), some (.int p43.1), none, none, none, none, none, none]) rfl rfl ?_
 refine Eval.aload rfl rfl ?_
 refine Eval.iconst (x := 0) rfl rfl ?_
 obtain ⟨p132, hq133, h⟩ := bind_some h
 refine Eval.callI (rest := []) (x := p132.1) (H1 := (W1 p132.2 [])) rfl rfl (ev_j_step [] p43.2 (0:Int32) hq133 rfl) ?_
 refine Eval.istore (L' := [some (.int v0), some (.int v1), some (.int v2), some (.int v3), some (.ref 0), some (.int 1), some (.int 2), some (.int p43.1), some (.int p132.1), none, none, none, none, none]) rfl rfl ?_
 refine Eval.iload rfl rfl ?_
 suffices hJ136 : Eval own_P 0 52 [none, none, some (.int v2), some (.int v3), some (.ref 0), some (.int 1), some (.int 2), none, none, none, none, none, none, none] [.int (if p43.1 = (0:Int32) then (0:Int32) else (if p132.1 = (1:Int32) then (1:Int32) else (0:Int32)))] (W1 p132.2 []) out by
  by_cases hc134 : p43.1 = (0:Int32)
  ·refine Eval.ifT (t := 51) rfl rfl (teq hc134).1 ?_
   refine Eval.iconst (x := 0) rfl rfl ?_
   refine Eval.weak (lw_mk 124 _) ?_
   exact (Eval.conv hJ136 rfl (by simp only [if_pos hc134]))
  ·refine Eval.ifF rfl (feq hc134).1 ?_
   refine Eval.iload rfl rfl ?_
   refine Eval.iload rfl rfl ?_
   by_cases hc135 : p132.1 = (1:Int32)
   ·refine Eval.icmpF rfl (teq hc135).2 ?_
    refine Eval.iconst (x := 1) rfl rfl ?_
    refine Eval.goto (t := 52) rfl rfl ?_
    refine Eval.weak (lw_mk 124 _) ?_
    exact (Eval.conv hJ136 rfl (by simp only [if_neg hc134, if_pos hc135]))
   ·refine Eval.icmpT (t := 51) rfl rfl (feq hc135).2 ?_
    refine Eval.iconst (x := 0) rfl rfl ?_
    refine Eval.weak (lw_mk 124 _) ?_
    exact (Eval.conv hJ136 rfl (by simp only [if_neg hc134, if_neg hc135]))
 exact ev_law_b52 p132.2 v2 v3 (1:Int32) (2:Int32) (if p43.1 = (0:Int32) then (0:Int32) else (if p132.1 = (1:Int32) then (1:Int32) else (0:Int32))) h hk
theorem own_rdc {n : Nat} {c j : Int32} (h : inb n j = true) : rd (List.replicate n c) j = c := by
  have q := rd_at (xs := List.replicate n c) (j := j) (by simpa using h)
  rw [List.getElem?_replicate] at q
  split at q
  · exact (Option.some.inj q).symm
  · cases q
theorem own_n2i {i : Nat} (h : i < 2147483648) : (Int32.ofNat i).toInt = i := by
  rw [Int32.toInt_ofNat']
  simp only [Int32.size, Int.bmod_def]
  omega
theorem own_n2n {i : Nat} (h : i < 2147483648) : (Int32.ofNat i).toNatClampNeg = i := by
  simp only [Int32.toNatClampNeg, own_n2i h]; omega
theorem own_succ (i : Nat) : Int32.ofNat i + 1 = Int32.ofNat (i + 1) := (Int32.ofNat_add i 1).symm
theorem own_inbN {n i : Nat} (h : i < n) (hn : n < 2147483648) : inb n (Int32.ofNat i) = true := inb_iff.mpr (by rw [own_n2i (by omega)]; omega)
theorem own_ltN {i k : Nat} (hi : i < 2147483648) (hk : k < 2147483648) : Int32.ofNat i < Int32.ofNat k ↔ i < k := by
  rw [lt32, own_n2i hi, own_n2i hk]; omega
theorem own_wrA {A r : List Int32} {d x : Int32} {i : Nat} (hi : A.length = i) (h : i < 2147483648) : wr (A ++ d :: r) (Int32.ofNat i) x = A ++ x :: r := by
  unfold wr
  rw [own_n2n h, ← hi]
  simp
theorem own_repS (i : Nat) (c : Int32) (r : List Int32) : List.replicate i c ++ c :: r = List.replicate (i + 1) c ++ r := by
  rw [List.replicate_succ']; simp
theorem own_add {x y : Int32} (h1 : -2147483648 ≤ x.toInt + y.toInt) (h2 : x.toInt + y.toInt < 2147483648) : (x + y).toInt = x.toInt + y.toInt := by
  rw [Int32.toInt_add, Int.bmod_def]
  omega
theorem own_sub {x y : Int32} (h1 : -2147483648 ≤ x.toInt - y.toInt) (h2 : x.toInt - y.toInt < 2147483648) : (x - y).toInt = x.toInt - y.toInt := by
  rw [Int32.toInt_sub, Int.bmod_def]
  omega
theorem own_mul {x y : Int32} (h1 : -2147483648 ≤ x.toInt * y.toInt) (h2 : x.toInt * y.toInt < 2147483648) : (x * y).toInt = x.toInt * y.toInt := by
  rw [Int32.toInt_mul, Int.bmod_def]
  omega
theorem own_eta (s : Q) : Q.mk s.f0 s.f1 s.f2 s.f3 s.f4 s.f5 s.f6 s.f7 s.f8 s.f9 s.f10 s.f11 s.f12 s.f13 s.f14 s.f15 s.f16 s.f17 s.f18 s.f19 s.f20 s.f21 s.f22 s.f23 s.f24 s.f25 s.f26 s.f27 s.f28 s.f29 s.f30 s.f31 s.f32 = s := rfl
theorem own_wrc (n : Nat) (c j : Int32) : wr (List.replicate n c) j c = List.replicate n c := by simp [wr, List.set_replicate_self]

theorem own_cl {v a b : Int32} (h : a.toInt ≤ b.toInt) : a.toInt ≤ (j_clamp v a b).toInt ∧ (j_clamp v a b).toInt ≤ b.toInt := by
  unfold j_clamp
  split
  · omega
  · split
    · omega
    · rename_i h1 h2; simp only [lt32] at h1 h2; omega

theorem own_x0 (a0 a1 a2 a3 : Int32) (l : List Int32) : rd (a0 :: a1 :: a2 :: a3 :: l) 0 = a0 := rfl
theorem own_y0 (a0 a1 a2 a3 v : Int32) (l : List Int32) : wr (a0 :: a1 :: a2 :: a3 :: l) 0 v = v :: a1 :: a2 :: a3 :: l := rfl
theorem own_x1 (a0 a1 a2 a3 : Int32) (l : List Int32) : rd (a0 :: a1 :: a2 :: a3 :: l) 1 = a1 := rfl
theorem own_y1 (a0 a1 a2 a3 v : Int32) (l : List Int32) : wr (a0 :: a1 :: a2 :: a3 :: l) 1 v = a0 :: v :: a2 :: a3 :: l := rfl
theorem own_x2 (a0 a1 a2 a3 : Int32) (l : List Int32) : rd (a0 :: a1 :: a2 :: a3 :: l) 2 = a2 := rfl
theorem own_y2 (a0 a1 a2 a3 v : Int32) (l : List Int32) : wr (a0 :: a1 :: a2 :: a3 :: l) 2 v = a0 :: a1 :: v :: a3 :: l := rfl
theorem own_x3 (a0 a1 a2 a3 : Int32) (l : List Int32) : rd (a0 :: a1 :: a2 :: a3 :: l) 3 = a3 := rfl
theorem own_y3 (a0 a1 a2 a3 v : Int32) (l : List Int32) : wr (a0 :: a1 :: a2 :: a3 :: l) 3 v = a0 :: a1 :: a2 :: v :: l := rfl
theorem own_x4 (a0 a1 a2 a3 a4 a5 : Int32) (l : List Int32) : rd (a0 :: a1 :: a2 :: a3 :: a4 :: a5 :: l) 4 = a4 := rfl
theorem own_y4 (a0 a1 a2 a3 a4 a5 v : Int32) (l : List Int32) : wr (a0 :: a1 :: a2 :: a3 :: a4 :: a5 :: l) 4 v = a0 :: a1 :: a2 :: a3 :: v :: a5 :: l := rfl
theorem own_x5 (a0 a1 a2 a3 a4 a5 : Int32) (l : List Int32) : rd (a0 :: a1 :: a2 :: a3 :: a4 :: a5 :: l) 5 = a5 := rfl
theorem own_y5 (a0 a1 a2 a3 a4 a5 v : Int32) (l : List Int32) : wr (a0 :: a1 :: a2 :: a3 :: a4 :: a5 :: l) 5 v = a0 :: a1 :: a2 :: a3 :: a4 :: v :: l := rfl
theorem own_in_4_0 : inb 4 0 = true := rfl
theorem own_in_4_1 : inb 4 1 = true := rfl
theorem own_in_4_2 : inb 4 2 = true := rfl
theorem own_in_4_3 : inb 4 3 = true := rfl
theorem own_in_64_0 : inb 64 0 = true := rfl
theorem own_in_64_1 : inb 64 1 = true := rfl
theorem own_in_64_2 : inb 64 2 = true := rfl
theorem own_in_64_3 : inb 64 3 = true := rfl
theorem own_in_64_4 : inb 64 4 = true := rfl
theorem own_in_64_5 : inb 64 5 = true := rfl
theorem own_in_6_0 : inb 6 0 = true := rfl
theorem own_in_6_1 : inb 6 1 = true := rfl
theorem own_in_6_2 : inb 6 2 = true := rfl
theorem own_in_6_3 : inb 6 3 = true := rfl
theorem own_in_6_4 : inb 6 4 = true := rfl
theorem own_in_6_5 : inb 6 5 = true := rfl
theorem own_in_7_0 : inb 7 0 = true := rfl
theorem own_in_7_1 : inb 7 1 = true := rfl
theorem own_in_7_2 : inb 7 2 = true := rfl
theorem own_in_7_3 : inb 7 3 = true := rfl
theorem own_in_56_0 : inb 56 0 = true := rfl
theorem own_in_56_8 : inb 56 8 = true := rfl
theorem own_in_56_16 : inb 56 16 = true := rfl
theorem own_in_56_24 : inb 56 24 = true := rfl
theorem own_an_0_0 : (0:Int32) &&& 0 = 0 := rfl
theorem own_an_0_1 : (0:Int32) &&& 1 = 0 := rfl
theorem own_an_1_1 : (1:Int32) &&& 1 = 1 := rfl
theorem own_an_1_2 : (1:Int32) &&& 2 = 0 := rfl
theorem own_an_3_1 : (3:Int32) &&& 1 = 1 := rfl
theorem own_an_3_2 : (3:Int32) &&& 2 = 2 := rfl
theorem own_an_3_4 : (3:Int32) &&& 4 = 0 := rfl
theorem own_an_0_3 : (0:Int32) &&& 3 = 0 := rfl
theorem own_an_3_3 : (3:Int32) &&& 3 = 3 := rfl
theorem own_an_1_7 : (1:Int32) &&& 7 = 1 := rfl
theorem own_an_3_7 : (3:Int32) &&& 7 = 3 := rfl
theorem own_an_7_7 : (7:Int32) &&& 7 = 7 := rfl
theorem own_an_1_0 : (1:Int32) &&& 0 = 0 := rfl
theorem own_an_3_0 : (3:Int32) &&& 0 = 0 := rfl
theorem own_ll64 (a b c d e f : Int32) : (a :: b :: c :: d :: e :: f :: List.replicate 58 (0:Int32)).length = 64 := rfl
theorem own_ll4 (a b c d : Int32) : [a, b, c, d].length = 4 := rfl
theorem own_ll6 (a b c d e f : Int32) : [a, b, c, d, e, f].length = 6 := rfl
theorem own_ll7 (a b c d e f g : Int32) : [a, b, c, d, e, f, g].length = 7 := rfl
theorem own_and0 : (0:Int32) &&& 1 = 0 := rfl
theorem own_and1 : (1:Int32) &&& 1 = 1 := rfl
theorem own_ish0 : ish 1 0 = 1 := rfl
theorem own_ish1 : ish 1 1 = 2 := rfl
theorem own_ish2 : ish 1 2 = 4 := rfl
theorem own_or01 : (0:Int32) ||| 1 = 1 := rfl
theorem own_or12 : (1:Int32) ||| 2 = 3 := rfl
theorem own_or34 : (3:Int32) ||| 4 = 7 := rfl
theorem own_k1 (p cap mask a b : Int32) (sq : List Int32) (l8 : sq.length = 8) (i0 : inb 8 (p &&& mask) = true) (i1 : inb 8 ((p + 1) &&& mask) = true) (ne : ¬ (p &&& mask) = ((p + 1) &&& mask)) (r0 : rd sq (p &&& mask) = p) (r1 : rd sq ((p + 1) &&& mask) = p + 1) (m1 : p - (p + 1) = -1) (t1 : ¬ p + 1 = p) (d1 : p + 1 + 1 - (p + 1) = 1) (hc : 0 < cap) : j_startEnqueue (Q.mk sq (List.replicate 8 0) [0, 0, 0, 0] [0, 0, 0, 0] [0, 0, 0, 0] [0, 0, 0, 0] [0, 0, 0, 0] (List.replicate 4 0) (0 :: 0 :: 0 :: 0 :: 0 :: 0 :: List.replicate 58 0) (0 :: 0 :: 0 :: 0 :: 0 :: 0 :: List.replicate 58 0) (0 :: 0 :: 0 :: 0 :: 0 :: 0 :: List.replicate 58 0) (List.replicate 8 0) [0, 0, 0, 0, 0, 0] [0, 0, 0, 0, 0, 0] [0, 0, 0, 0, 0, 0] [0, 0, 0, 0, 0, 0] [0, 0, 0, 0, 0, 0] [0, 0, 0, 0, 0, 0] [0, 0, 0, 0, 0, 0] [0, 0, 0, 0] (List.replicate 56 0) [0, 0, 0, 0, 0, 0, 0] [0, 0, 0, 0, 0, 0, 0] [0, 0, 0, 0, 0, 0, 0] 2 cap mask p p 0 0 0 0) 0 a = some (1, (Q.mk sq (List.replicate 8 0) [11, 0, 0, 0] [0, 0, 0, 0] [a, 0, 0, 0] [0, 0, 0, 0] [0, 0, 0, 0] (List.replicate 4 0) (1 :: 0 :: 0 :: 0 :: 0 :: 0 :: List.replicate 58 0) (0 :: 0 :: 0 :: 0 :: 0 :: 0 :: List.replicate 58 0) (a :: 0 :: 0 :: 0 :: 0 :: 0 :: List.replicate 58 0) (List.replicate 8 0) [0, 0, 0, 0, 0, 0] [0, 0, 0, 0, 0, 0] [0, 0, 0, 0, 0, 0] [0, 0, 0, 0, 0, 0] [0, 0, 0, 0, 0, 0] [0, 0, 0, 0, 0, 0] [0, 0, 0, 0, 0, 0] [0, 0, 0, 0] (List.replicate 56 0) [0, 0, 0, 0, 0, 0, 0] [0, 0, 0, 0, 0, 0, 0] [0, 0, 0, 0, 0, 0, 0] 2 cap mask p p 1 0 0 0)) := by
  have e01 : ∀ (xs : List Int32) (v : Int32), rd (wr xs (p &&& mask) v) ((p + 1) &&& mask) = rd xs ((p + 1) &&& mask) := fun xs v => rd_wr_ne (inb_nn i0) (inb_nn i1) ne v
  have e10 : ∀ (xs : List Int32) (v : Int32), rd (wr xs ((p + 1) &&& mask) v) (p &&& mask) = rd xs (p &&& mask) := fun xs v => rd_wr_ne (inb_nn i1) (inb_nn i0) (fun e => ne e.symm) v
  simp [j_doStep, j_doStep_b26, j_enqStep, j_enqStep_b114, j_deqStep, j_deqStep_b116, j_finish, j_append, j_resKind, j_startEnqueue, j_startDequeue, j_valid, j_hasRoom, j_pending, j_pending_l4, j_pending_b29, own_Qa, own_in_4_0, own_in_4_1, own_in_4_2, own_in_4_3, own_in_64_0, own_in_64_1, own_in_64_2, own_in_64_3, own_in_64_4, own_in_64_5, own_in_6_0, own_in_6_1, own_in_6_2, own_in_6_3, own_in_6_4, own_in_6_5, own_in_7_0, own_in_7_1, own_in_7_2, own_in_7_3, own_in_56_0, own_in_56_8, own_in_56_16, own_in_56_24, own_an_0_0, own_an_0_1, own_an_1_1, own_an_1_2, own_an_3_1, own_an_3_2, own_an_3_4, own_an_0_3, own_an_3_3, own_an_1_7, own_an_3_7, own_an_7_7, own_an_1_0, own_an_3_0, own_x0, own_x1, own_x2, own_x3, own_x4, own_x5, own_y0, own_y1, own_y2, own_y3, own_y4, own_y5, own_ll64, own_ll4, own_ll6, own_ll7, rd_wr_same, len_wr, l8, i0, i1, r0, r1, m1, t1, d1, e01, e10, List.length_replicate, -List.reduceReplicate]
theorem own_k2 (p cap mask a b : Int32) (sq : List Int32) (l8 : sq.length = 8) (i0 : inb 8 (p &&& mask) = true) (i1 : inb 8 ((p + 1) &&& mask) = true) (ne : ¬ (p &&& mask) = ((p + 1) &&& mask)) (r0 : rd sq (p &&& mask) = p) (r1 : rd sq ((p + 1) &&& mask) = p + 1) (m1 : p - (p + 1) = -1) (t1 : ¬ p + 1 = p) (d1 : p + 1 + 1 - (p + 1) = 1) (hc : 0 < cap) : j_doStep (Q.mk sq (List.replicate 8 0) [11, 0, 0, 0] [0, 0, 0, 0] [a, 0, 0, 0] [0, 0, 0, 0] [0, 0, 0, 0] (List.replicate 4 0) (1 :: 0 :: 0 :: 0 :: 0 :: 0 :: List.replicate 58 0) (0 :: 0 :: 0 :: 0 :: 0 :: 0 :: List.replicate 58 0) (a :: 0 :: 0 :: 0 :: 0 :: 0 :: List.replicate 58 0) (List.replicate 8 0) [0, 0, 0, 0, 0, 0] [0, 0, 0, 0, 0, 0] [0, 0, 0, 0, 0, 0] [0, 0, 0, 0, 0, 0] [0, 0, 0, 0, 0, 0] [0, 0, 0, 0, 0, 0] [0, 0, 0, 0, 0, 0] [0, 0, 0, 0] (List.replicate 56 0) [0, 0, 0, 0, 0, 0, 0] [0, 0, 0, 0, 0, 0, 0] [0, 0, 0, 0, 0, 0, 0] 2 cap mask p p 1 0 0 0) 0 = some (0, (Q.mk sq (List.replicate 8 0) [12, 0, 0, 0] [p, 0, 0, 0] [a, 0, 0, 0] [0, 0, 0, 0] [0, 0, 0, 0] (List.replicate 4 0) (1 :: 0 :: 0 :: 0 :: 0 :: 0 :: List.replicate 58 0) (0 :: 0 :: 0 :: 0 :: 0 :: 0 :: List.replicate 58 0) (a :: 0 :: 0 :: 0 :: 0 :: 0 :: List.replicate 58 0) (List.replicate 8 0) [0, 0, 0, 0, 0, 0] [0, 0, 0, 0, 0, 0] [0, 0, 0, 0, 0, 0] [0, 0, 0, 0, 0, 0] [0, 0, 0, 0, 0, 0] [0, 0, 0, 0, 0, 0] [0, 0, 0, 0, 0, 0] [0, 0, 0, 0] (List.replicate 56 0) [0, 0, 0, 0, 0, 0, 0] [0, 0, 0, 0, 0, 0, 0] [0, 0, 0, 0, 0, 0, 0] 2 cap mask p p 1 0 0 0)) := by
  have e01 : ∀ (xs : List Int32) (v : Int32), rd (wr xs (p &&& mask) v) ((p + 1) &&& mask) = rd xs ((p + 1) &&& mask) := fun xs v => rd_wr_ne (inb_nn i0) (inb_nn i1) ne v
  have e10 : ∀ (xs : List Int32) (v : Int32), rd (wr xs ((p + 1) &&& mask) v) (p &&& mask) = rd xs (p &&& mask) := fun xs v => rd_wr_ne (inb_nn i1) (inb_nn i0) (fun e => ne e.symm) v
  simp [j_doStep, j_doStep_b26, j_enqStep, j_enqStep_b114, j_deqStep, j_deqStep_b116, j_finish, j_append, j_resKind, j_startEnqueue, j_startDequeue, j_valid, j_hasRoom, j_pending, j_pending_l4, j_pending_b29, own_Qa, own_in_4_0, own_in_4_1, own_in_4_2, own_in_4_3, own_in_64_0, own_in_64_1, own_in_64_2, own_in_64_3, own_in_64_4, own_in_64_5, own_in_6_0, own_in_6_1, own_in_6_2, own_in_6_3, own_in_6_4, own_in_6_5, own_in_7_0, own_in_7_1, own_in_7_2, own_in_7_3, own_in_56_0, own_in_56_8, own_in_56_16, own_in_56_24, own_an_0_0, own_an_0_1, own_an_1_1, own_an_1_2, own_an_3_1, own_an_3_2, own_an_3_4, own_an_0_3, own_an_3_3, own_an_1_7, own_an_3_7, own_an_7_7, own_an_1_0, own_an_3_0, own_x0, own_x1, own_x2, own_x3, own_x4, own_x5, own_y0, own_y1, own_y2, own_y3, own_y4, own_y5, own_ll64, own_ll4, own_ll6, own_ll7, rd_wr_same, len_wr, l8, i0, i1, r0, r1, m1, t1, d1, e01, e10, List.length_replicate, -List.reduceReplicate]
theorem own_k3 (p cap mask a b : Int32) (sq : List Int32) (l8 : sq.length = 8) (i0 : inb 8 (p &&& mask) = true) (i1 : inb 8 ((p + 1) &&& mask) = true) (ne : ¬ (p &&& mask) = ((p + 1) &&& mask)) (r0 : rd sq (p &&& mask) = p) (r1 : rd sq ((p + 1) &&& mask) = p + 1) (m1 : p - (p + 1) = -1) (t1 : ¬ p + 1 = p) (d1 : p + 1 + 1 - (p + 1) = 1) (hc : 0 < cap) : j_doStep (Q.mk sq (List.replicate 8 0) [12, 0, 0, 0] [p, 0, 0, 0] [a, 0, 0, 0] [0, 0, 0, 0] [0, 0, 0, 0] (List.replicate 4 0) (1 :: 0 :: 0 :: 0 :: 0 :: 0 :: List.replicate 58 0) (0 :: 0 :: 0 :: 0 :: 0 :: 0 :: List.replicate 58 0) (a :: 0 :: 0 :: 0 :: 0 :: 0 :: List.replicate 58 0) (List.replicate 8 0) [0, 0, 0, 0, 0, 0] [0, 0, 0, 0, 0, 0] [0, 0, 0, 0, 0, 0] [0, 0, 0, 0, 0, 0] [0, 0, 0, 0, 0, 0] [0, 0, 0, 0, 0, 0] [0, 0, 0, 0, 0, 0] [0, 0, 0, 0] (List.replicate 56 0) [0, 0, 0, 0, 0, 0, 0] [0, 0, 0, 0, 0, 0, 0] [0, 0, 0, 0, 0, 0, 0] 2 cap mask p p 1 0 0 0) 0 = some (0, (Q.mk sq (List.replicate 8 0) [13, 0, 0, 0] [p, 0, 0, 0] [a, 0, 0, 0] [0, 0, 0, 0] [0, 0, 0, 0] (List.replicate 4 0) (1 :: 0 :: 0 :: 0 :: 0 :: 0 :: List.replicate 58 0) (0 :: 0 :: 0 :: 0 :: 0 :: 0 :: List.replicate 58 0) (a :: 0 :: 0 :: 0 :: 0 :: 0 :: List.replicate 58 0) (List.replicate 8 0) [0, 0, 0, 0, 0, 0] [0, 0, 0, 0, 0, 0] [0, 0, 0, 0, 0, 0] [0, 0, 0, 0, 0, 0] [0, 0, 0, 0, 0, 0] [0, 0, 0, 0, 0, 0] [0, 0, 0, 0, 0, 0] [0, 0, 0, 0] (List.replicate 56 0) [0, 0, 0, 0, 0, 0, 0] [0, 0, 0, 0, 0, 0, 0] [0, 0, 0, 0, 0, 0, 0] 2 cap mask p p 1 0 0 0)) := by
  have e01 : ∀ (xs : List Int32) (v : Int32), rd (wr xs (p &&& mask) v) ((p + 1) &&& mask) = rd xs ((p + 1) &&& mask) := fun xs v => rd_wr_ne (inb_nn i0) (inb_nn i1) ne v
  have e10 : ∀ (xs : List Int32) (v : Int32), rd (wr xs ((p + 1) &&& mask) v) (p &&& mask) = rd xs (p &&& mask) := fun xs v => rd_wr_ne (inb_nn i1) (inb_nn i0) (fun e => ne e.symm) v
  simp [j_doStep, j_doStep_b26, j_enqStep, j_enqStep_b114, j_deqStep, j_deqStep_b116, j_finish, j_append, j_resKind, j_startEnqueue, j_startDequeue, j_valid, j_hasRoom, j_pending, j_pending_l4, j_pending_b29, own_Qa, own_in_4_0, own_in_4_1, own_in_4_2, own_in_4_3, own_in_64_0, own_in_64_1, own_in_64_2, own_in_64_3, own_in_64_4, own_in_64_5, own_in_6_0, own_in_6_1, own_in_6_2, own_in_6_3, own_in_6_4, own_in_6_5, own_in_7_0, own_in_7_1, own_in_7_2, own_in_7_3, own_in_56_0, own_in_56_8, own_in_56_16, own_in_56_24, own_an_0_0, own_an_0_1, own_an_1_1, own_an_1_2, own_an_3_1, own_an_3_2, own_an_3_4, own_an_0_3, own_an_3_3, own_an_1_7, own_an_3_7, own_an_7_7, own_an_1_0, own_an_3_0, own_x0, own_x1, own_x2, own_x3, own_x4, own_x5, own_y0, own_y1, own_y2, own_y3, own_y4, own_y5, own_ll64, own_ll4, own_ll6, own_ll7, rd_wr_same, len_wr, l8, i0, i1, r0, r1, m1, t1, d1, e01, e10, List.length_replicate, -List.reduceReplicate]
theorem own_k4 (p cap mask a b : Int32) (sq : List Int32) (l8 : sq.length = 8) (i0 : inb 8 (p &&& mask) = true) (i1 : inb 8 ((p + 1) &&& mask) = true) (ne : ¬ (p &&& mask) = ((p + 1) &&& mask)) (r0 : rd sq (p &&& mask) = p) (r1 : rd sq ((p + 1) &&& mask) = p + 1) (m1 : p - (p + 1) = -1) (t1 : ¬ p + 1 = p) (d1 : p + 1 + 1 - (p + 1) = 1) (hc : 0 < cap) : j_doStep (Q.mk sq (List.replicate 8 0) [13, 0, 0, 0] [p, 0, 0, 0] [a, 0, 0, 0] [0, 0, 0, 0] [0, 0, 0, 0] (List.replicate 4 0) (1 :: 0 :: 0 :: 0 :: 0 :: 0 :: List.replicate 58 0) (0 :: 0 :: 0 :: 0 :: 0 :: 0 :: List.replicate 58 0) (a :: 0 :: 0 :: 0 :: 0 :: 0 :: List.replicate 58 0) (List.replicate 8 0) [0, 0, 0, 0, 0, 0] [0, 0, 0, 0, 0, 0] [0, 0, 0, 0, 0, 0] [0, 0, 0, 0, 0, 0] [0, 0, 0, 0, 0, 0] [0, 0, 0, 0, 0, 0] [0, 0, 0, 0, 0, 0] [0, 0, 0, 0] (List.replicate 56 0) [0, 0, 0, 0, 0, 0, 0] [0, 0, 0, 0, 0, 0, 0] [0, 0, 0, 0, 0, 0, 0] 2 cap mask p p 1 0 0 0) 0 = some (0, (Q.mk sq (List.replicate 8 0) [15, 0, 0, 0] [p, 0, 0, 0] [a, 0, 0, 0] [0, 0, 0, 0] [0, 0, 0, 0] (List.replicate 4 0) (1 :: 0 :: 0 :: 0 :: 0 :: 0 :: List.replicate 58 0) (0 :: 0 :: 0 :: 0 :: 0 :: 0 :: List.replicate 58 0) (a :: 0 :: 0 :: 0 :: 0 :: 0 :: List.replicate 58 0) (List.replicate 8 0) [0, 0, 0, 0, 0, 0] [0, 0, 0, 0, 0, 0] [0, 0, 0, 0, 0, 0] [0, 0, 0, 0, 0, 0] [0, 0, 0, 0, 0, 0] [0, 0, 0, 0, 0, 0] [0, 0, 0, 0, 0, 0] [0, 0, 0, 0] (List.replicate 56 0) [0, 0, 0, 0, 0, 0, 0] [0, 0, 0, 0, 0, 0, 0] [0, 0, 0, 0, 0, 0, 0] 2 cap mask p (p + 1) 1 0 0 0)) := by
  have e01 : ∀ (xs : List Int32) (v : Int32), rd (wr xs (p &&& mask) v) ((p + 1) &&& mask) = rd xs ((p + 1) &&& mask) := fun xs v => rd_wr_ne (inb_nn i0) (inb_nn i1) ne v
  have e10 : ∀ (xs : List Int32) (v : Int32), rd (wr xs ((p + 1) &&& mask) v) (p &&& mask) = rd xs (p &&& mask) := fun xs v => rd_wr_ne (inb_nn i1) (inb_nn i0) (fun e => ne e.symm) v
  simp [j_doStep, j_doStep_b26, j_enqStep, j_enqStep_b114, j_deqStep, j_deqStep_b116, j_finish, j_append, j_resKind, j_startEnqueue, j_startDequeue, j_valid, j_hasRoom, j_pending, j_pending_l4, j_pending_b29, own_Qa, own_in_4_0, own_in_4_1, own_in_4_2, own_in_4_3, own_in_64_0, own_in_64_1, own_in_64_2, own_in_64_3, own_in_64_4, own_in_64_5, own_in_6_0, own_in_6_1, own_in_6_2, own_in_6_3, own_in_6_4, own_in_6_5, own_in_7_0, own_in_7_1, own_in_7_2, own_in_7_3, own_in_56_0, own_in_56_8, own_in_56_16, own_in_56_24, own_an_0_0, own_an_0_1, own_an_1_1, own_an_1_2, own_an_3_1, own_an_3_2, own_an_3_4, own_an_0_3, own_an_3_3, own_an_1_7, own_an_3_7, own_an_7_7, own_an_1_0, own_an_3_0, own_x0, own_x1, own_x2, own_x3, own_x4, own_x5, own_y0, own_y1, own_y2, own_y3, own_y4, own_y5, own_ll64, own_ll4, own_ll6, own_ll7, rd_wr_same, len_wr, l8, i0, i1, r0, r1, m1, t1, d1, e01, e10, List.length_replicate, -List.reduceReplicate]
theorem own_k5 (p cap mask a b : Int32) (sq : List Int32) (l8 : sq.length = 8) (i0 : inb 8 (p &&& mask) = true) (i1 : inb 8 ((p + 1) &&& mask) = true) (ne : ¬ (p &&& mask) = ((p + 1) &&& mask)) (r0 : rd sq (p &&& mask) = p) (r1 : rd sq ((p + 1) &&& mask) = p + 1) (m1 : p - (p + 1) = -1) (t1 : ¬ p + 1 = p) (d1 : p + 1 + 1 - (p + 1) = 1) (hc : 0 < cap) : j_startDequeue (Q.mk sq (List.replicate 8 0) [15, 0, 0, 0] [p, 0, 0, 0] [a, 0, 0, 0] [0, 0, 0, 0] [0, 0, 0, 0] (List.replicate 4 0) (1 :: 0 :: 0 :: 0 :: 0 :: 0 :: List.replicate 58 0) (0 :: 0 :: 0 :: 0 :: 0 :: 0 :: List.replicate 58 0) (a :: 0 :: 0 :: 0 :: 0 :: 0 :: List.replicate 58 0) (List.replicate 8 0) [0, 0, 0, 0, 0, 0] [0, 0, 0, 0, 0, 0] [0, 0, 0, 0, 0, 0] [0, 0, 0, 0, 0, 0] [0, 0, 0, 0, 0, 0] [0, 0, 0, 0, 0, 0] [0, 0, 0, 0, 0, 0] [0, 0, 0, 0] (List.replicate 56 0) [0, 0, 0, 0, 0, 0, 0] [0, 0, 0, 0, 0, 0, 0] [0, 0, 0, 0, 0, 0, 0] 2 cap mask p (p + 1) 1 0 0 0) 1 = some (1, (Q.mk sq (List.replicate 8 0) [15, 21, 0, 0] [p, 0, 0, 0] [a, 0, 0, 0] [0, 0, 0, 0] [0, 0, 0, 0] (List.replicate 4 0) (1 :: 2 :: 0 :: 0 :: 0 :: 0 :: List.replicate 58 0) (0 :: 1 :: 0 :: 0 :: 0 :: 0 :: List.replicate 58 0) (a :: 0 :: 0 :: 0 :: 0 :: 0 :: List.replicate 58 0) (List.replicate 8 0) [0, 0, 0, 0, 0, 0] [0, 0, 0, 0, 0, 0] [0, 0, 0, 0, 0, 0] [0, 0, 0, 0, 0, 0] [0, 0, 0, 0, 0, 0] [0, 0, 0, 0, 0, 0] [0, 0, 0, 0, 0, 0] [0, 0, 0, 0] (List.replicate 56 0) [0, 0, 0, 0, 0, 0, 0] [0, 0, 0, 0, 0, 0, 0] [0, 0, 0, 0, 0, 0, 0] 2 cap mask p (p + 1) 2 0 0 0)) := by
  have e01 : ∀ (xs : List Int32) (v : Int32), rd (wr xs (p &&& mask) v) ((p + 1) &&& mask) = rd xs ((p + 1) &&& mask) := fun xs v => rd_wr_ne (inb_nn i0) (inb_nn i1) ne v
  have e10 : ∀ (xs : List Int32) (v : Int32), rd (wr xs ((p + 1) &&& mask) v) (p &&& mask) = rd xs (p &&& mask) := fun xs v => rd_wr_ne (inb_nn i1) (inb_nn i0) (fun e => ne e.symm) v
  simp [j_doStep, j_doStep_b26, j_enqStep, j_enqStep_b114, j_deqStep, j_deqStep_b116, j_finish, j_append, j_resKind, j_startEnqueue, j_startDequeue, j_valid, j_hasRoom, j_pending, j_pending_l4, j_pending_b29, own_Qa, own_in_4_0, own_in_4_1, own_in_4_2, own_in_4_3, own_in_64_0, own_in_64_1, own_in_64_2, own_in_64_3, own_in_64_4, own_in_64_5, own_in_6_0, own_in_6_1, own_in_6_2, own_in_6_3, own_in_6_4, own_in_6_5, own_in_7_0, own_in_7_1, own_in_7_2, own_in_7_3, own_in_56_0, own_in_56_8, own_in_56_16, own_in_56_24, own_an_0_0, own_an_0_1, own_an_1_1, own_an_1_2, own_an_3_1, own_an_3_2, own_an_3_4, own_an_0_3, own_an_3_3, own_an_1_7, own_an_3_7, own_an_7_7, own_an_1_0, own_an_3_0, own_x0, own_x1, own_x2, own_x3, own_x4, own_x5, own_y0, own_y1, own_y2, own_y3, own_y4, own_y5, own_ll64, own_ll4, own_ll6, own_ll7, rd_wr_same, len_wr, l8, i0, i1, r0, r1, m1, t1, d1, e01, e10, List.length_replicate, -List.reduceReplicate]
theorem own_k6 (p cap mask a b : Int32) (sq : List Int32) (l8 : sq.length = 8) (i0 : inb 8 (p &&& mask) = true) (i1 : inb 8 ((p + 1) &&& mask) = true) (ne : ¬ (p &&& mask) = ((p + 1) &&& mask)) (r0 : rd sq (p &&& mask) = p) (r1 : rd sq ((p + 1) &&& mask) = p + 1) (m1 : p - (p + 1) = -1) (t1 : ¬ p + 1 = p) (d1 : p + 1 + 1 - (p + 1) = 1) (hc : 0 < cap) : j_doStep (Q.mk sq (List.replicate 8 0) [15, 21, 0, 0] [p, 0, 0, 0] [a, 0, 0, 0] [0, 0, 0, 0] [0, 0, 0, 0] (List.replicate 4 0) (1 :: 2 :: 0 :: 0 :: 0 :: 0 :: List.replicate 58 0) (0 :: 1 :: 0 :: 0 :: 0 :: 0 :: List.replicate 58 0) (a :: 0 :: 0 :: 0 :: 0 :: 0 :: List.replicate 58 0) (List.replicate 8 0) [0, 0, 0, 0, 0, 0] [0, 0, 0, 0, 0, 0] [0, 0, 0, 0, 0, 0] [0, 0, 0, 0, 0, 0] [0, 0, 0, 0, 0, 0] [0, 0, 0, 0, 0, 0] [0, 0, 0, 0, 0, 0] [0, 0, 0, 0] (List.replicate 56 0) [0, 0, 0, 0, 0, 0, 0] [0, 0, 0, 0, 0, 0, 0] [0, 0, 0, 0, 0, 0, 0] 2 cap mask p (p + 1) 2 0 0 0) 1 = some (0, (Q.mk sq (List.replicate 8 0) [15, 22, 0, 0] [p, p, 0, 0] [a, 0, 0, 0] [0, 0, 0, 0] [0, 0, 0, 0] (List.replicate 4 0) (1 :: 2 :: 0 :: 0 :: 0 :: 0 :: List.replicate 58 0) (0 :: 1 :: 0 :: 0 :: 0 :: 0 :: List.replicate 58 0) (a :: 0 :: 0 :: 0 :: 0 :: 0 :: List.replicate 58 0) (List.replicate 8 0) [0, 0, 0, 0, 0, 0] [0, 0, 0, 0, 0, 0] [0, 0, 0, 0, 0, 0] [0, 0, 0, 0, 0, 0] [0, 0, 0, 0, 0, 0] [0, 0, 0, 0, 0, 0] [0, 0, 0, 0, 0, 0] [0, 0, 0, 0] (List.replicate 56 0) [0, 0, 0, 0, 0, 0, 0] [0, 0, 0, 0, 0, 0, 0] [0, 0, 0, 0, 0, 0, 0] 2 cap mask p (p + 1) 2 0 0 0)) := by
  have e01 : ∀ (xs : List Int32) (v : Int32), rd (wr xs (p &&& mask) v) ((p + 1) &&& mask) = rd xs ((p + 1) &&& mask) := fun xs v => rd_wr_ne (inb_nn i0) (inb_nn i1) ne v
  have e10 : ∀ (xs : List Int32) (v : Int32), rd (wr xs ((p + 1) &&& mask) v) (p &&& mask) = rd xs (p &&& mask) := fun xs v => rd_wr_ne (inb_nn i1) (inb_nn i0) (fun e => ne e.symm) v
  simp [j_doStep, j_doStep_b26, j_enqStep, j_enqStep_b114, j_deqStep, j_deqStep_b116, j_finish, j_append, j_resKind, j_startEnqueue, j_startDequeue, j_valid, j_hasRoom, j_pending, j_pending_l4, j_pending_b29, own_Qa, own_in_4_0, own_in_4_1, own_in_4_2, own_in_4_3, own_in_64_0, own_in_64_1, own_in_64_2, own_in_64_3, own_in_64_4, own_in_64_5, own_in_6_0, own_in_6_1, own_in_6_2, own_in_6_3, own_in_6_4, own_in_6_5, own_in_7_0, own_in_7_1, own_in_7_2, own_in_7_3, own_in_56_0, own_in_56_8, own_in_56_16, own_in_56_24, own_an_0_0, own_an_0_1, own_an_1_1, own_an_1_2, own_an_3_1, own_an_3_2, own_an_3_4, own_an_0_3, own_an_3_3, own_an_1_7, own_an_3_7, own_an_7_7, own_an_1_0, own_an_3_0, own_x0, own_x1, own_x2, own_x3, own_x4, own_x5, own_y0, own_y1, own_y2, own_y3, own_y4, own_y5, own_ll64, own_ll4, own_ll6, own_ll7, rd_wr_same, len_wr, l8, i0, i1, r0, r1, m1, t1, d1, e01, e10, List.length_replicate, -List.reduceReplicate]
theorem own_k7 (p cap mask a b : Int32) (sq : List Int32) (l8 : sq.length = 8) (i0 : inb 8 (p &&& mask) = true) (i1 : inb 8 ((p + 1) &&& mask) = true) (ne : ¬ (p &&& mask) = ((p + 1) &&& mask)) (r0 : rd sq (p &&& mask) = p) (r1 : rd sq ((p + 1) &&& mask) = p + 1) (m1 : p - (p + 1) = -1) (t1 : ¬ p + 1 = p) (d1 : p + 1 + 1 - (p + 1) = 1) (hc : 0 < cap) : j_doStep (Q.mk sq (List.replicate 8 0) [15, 22, 0, 0] [p, p, 0, 0] [a, 0, 0, 0] [0, 0, 0, 0] [0, 0, 0, 0] (List.replicate 4 0) (1 :: 2 :: 0 :: 0 :: 0 :: 0 :: List.replicate 58 0) (0 :: 1 :: 0 :: 0 :: 0 :: 0 :: List.replicate 58 0) (a :: 0 :: 0 :: 0 :: 0 :: 0 :: List.replicate 58 0) (List.replicate 8 0) [0, 0, 0, 0, 0, 0] [0, 0, 0, 0, 0, 0] [0, 0, 0, 0, 0, 0] [0, 0, 0, 0, 0, 0] [0, 0, 0, 0, 0, 0] [0, 0, 0, 0, 0, 0] [0, 0, 0, 0, 0, 0] [0, 0, 0, 0] (List.replicate 56 0) [0, 0, 0, 0, 0, 0, 0] [0, 0, 0, 0, 0, 0, 0] [0, 0, 0, 0, 0, 0, 0] 2 cap mask p (p + 1) 2 0 0 0) 1 = some (0, (Q.mk sq (List.replicate 8 0) [15, 24, 0, 0] [p, p, 0, 0] [a, 0, 0, 0] [0, 0, 0, 0] [0, 0, 0, 0] (List.replicate 4 0) (1 :: 2 :: 0 :: 0 :: 0 :: 0 :: List.replicate 58 0) (0 :: 1 :: 0 :: 0 :: 0 :: 0 :: List.replicate 58 0) (a :: 0 :: 0 :: 0 :: 0 :: 0 :: List.replicate 58 0) (List.replicate 8 0) [0, 0, 0, 0, 0, 0] [0, 0, 0, 0, 0, 0] [0, 0, 0, 0, 0, 0] [0, 0, 0, 0, 0, 0] [0, 0, 0, 0, 0, 0] [0, 0, 0, 0, 0, 0] [0, 0, 0, 0, 0, 0] [0, 0, 0, 0] (List.replicate 56 0) [0, 0, 0, 0, 0, 0, 0] [0, 0, 0, 0, 0, 0, 0] [0, 0, 0, 0, 0, 0, 0] 2 cap mask p (p + 1) 2 0 0 0)) := by
  have e01 : ∀ (xs : List Int32) (v : Int32), rd (wr xs (p &&& mask) v) ((p + 1) &&& mask) = rd xs ((p + 1) &&& mask) := fun xs v => rd_wr_ne (inb_nn i0) (inb_nn i1) ne v
  have e10 : ∀ (xs : List Int32) (v : Int32), rd (wr xs ((p + 1) &&& mask) v) (p &&& mask) = rd xs (p &&& mask) := fun xs v => rd_wr_ne (inb_nn i1) (inb_nn i0) (fun e => ne e.symm) v
  simp [j_doStep, j_doStep_b26, j_enqStep, j_enqStep_b114, j_deqStep, j_deqStep_b116, j_finish, j_append, j_resKind, j_startEnqueue, j_startDequeue, j_valid, j_hasRoom, j_pending, j_pending_l4, j_pending_b29, own_Qa, own_in_4_0, own_in_4_1, own_in_4_2, own_in_4_3, own_in_64_0, own_in_64_1, own_in_64_2, own_in_64_3, own_in_64_4, own_in_64_5, own_in_6_0, own_in_6_1, own_in_6_2, own_in_6_3, own_in_6_4, own_in_6_5, own_in_7_0, own_in_7_1, own_in_7_2, own_in_7_3, own_in_56_0, own_in_56_8, own_in_56_16, own_in_56_24, own_an_0_0, own_an_0_1, own_an_1_1, own_an_1_2, own_an_3_1, own_an_3_2, own_an_3_4, own_an_0_3, own_an_3_3, own_an_1_7, own_an_3_7, own_an_7_7, own_an_1_0, own_an_3_0, own_x0, own_x1, own_x2, own_x3, own_x4, own_x5, own_y0, own_y1, own_y2, own_y3, own_y4, own_y5, own_ll64, own_ll4, own_ll6, own_ll7, rd_wr_same, len_wr, l8, i0, i1, r0, r1, m1, t1, d1, e01, e10, List.length_replicate, -List.reduceReplicate]
theorem own_k8 (p cap mask a b : Int32) (sq : List Int32) (l8 : sq.length = 8) (i0 : inb 8 (p &&& mask) = true) (i1 : inb 8 ((p + 1) &&& mask) = true) (ne : ¬ (p &&& mask) = ((p + 1) &&& mask)) (r0 : rd sq (p &&& mask) = p) (r1 : rd sq ((p + 1) &&& mask) = p + 1) (m1 : p - (p + 1) = -1) (t1 : ¬ p + 1 = p) (d1 : p + 1 + 1 - (p + 1) = 1) (hc : 0 < cap) : j_doStep (Q.mk sq (List.replicate 8 0) [15, 24, 0, 0] [p, p, 0, 0] [a, 0, 0, 0] [0, 0, 0, 0] [0, 0, 0, 0] (List.replicate 4 0) (1 :: 2 :: 0 :: 0 :: 0 :: 0 :: List.replicate 58 0) (0 :: 1 :: 0 :: 0 :: 0 :: 0 :: List.replicate 58 0) (a :: 0 :: 0 :: 0 :: 0 :: 0 :: List.replicate 58 0) (List.replicate 8 0) [0, 0, 0, 0, 0, 0] [0, 0, 0, 0, 0, 0] [0, 0, 0, 0, 0, 0] [0, 0, 0, 0, 0, 0] [0, 0, 0, 0, 0, 0] [0, 0, 0, 0, 0, 0] [0, 0, 0, 0, 0, 0] [0, 0, 0, 0] (List.replicate 56 0) [0, 0, 0, 0, 0, 0, 0] [0, 0, 0, 0, 0, 0, 0] [0, 0, 0, 0, 0, 0, 0] 2 cap mask p (p + 1) 2 0 0 0) 1 = some (0, (Q.mk sq (List.replicate 8 0) [15, 21, 0, 0] [p, p, 0, 0] [a, 0, 0, 0] [0, 0, 0, 0] [0, 0, 0, 0] (List.replicate 4 0) (1 :: 2 :: 0 :: 0 :: 0 :: 0 :: List.replicate 58 0) (0 :: 1 :: 0 :: 0 :: 0 :: 0 :: List.replicate 58 0) (a :: 0 :: 0 :: 0 :: 0 :: 0 :: List.replicate 58 0) (List.replicate 8 0) [0, 0, 0, 0, 0, 0] [0, 0, 0, 0, 0, 0] [0, 0, 0, 0, 0, 0] [0, 0, 0, 0, 0, 0] [0, 0, 0, 0, 0, 0] [0, 0, 0, 0, 0, 0] [0, 0, 0, 0, 0, 0] [0, 0, 0, 0] (List.replicate 56 0) [0, 0, 0, 0, 0, 0, 0] [0, 0, 0, 0, 0, 0, 0] [0, 0, 0, 0, 0, 0, 0] 2 cap mask p (p + 1) 2 0 0 0)) := by
  have e01 : ∀ (xs : List Int32) (v : Int32), rd (wr xs (p &&& mask) v) ((p + 1) &&& mask) = rd xs ((p + 1) &&& mask) := fun xs v => rd_wr_ne (inb_nn i0) (inb_nn i1) ne v
  have e10 : ∀ (xs : List Int32) (v : Int32), rd (wr xs ((p + 1) &&& mask) v) (p &&& mask) = rd xs (p &&& mask) := fun xs v => rd_wr_ne (inb_nn i1) (inb_nn i0) (fun e => ne e.symm) v
  simp [j_doStep, j_doStep_b26, j_enqStep, j_enqStep_b114, j_deqStep, j_deqStep_b116, j_finish, j_append, j_resKind, j_startEnqueue, j_startDequeue, j_valid, j_hasRoom, j_pending, j_pending_l4, j_pending_b29, own_Qa, own_in_4_0, own_in_4_1, own_in_4_2, own_in_4_3, own_in_64_0, own_in_64_1, own_in_64_2, own_in_64_3, own_in_64_4, own_in_64_5, own_in_6_0, own_in_6_1, own_in_6_2, own_in_6_3, own_in_6_4, own_in_6_5, own_in_7_0, own_in_7_1, own_in_7_2, own_in_7_3, own_in_56_0, own_in_56_8, own_in_56_16, own_in_56_24, own_an_0_0, own_an_0_1, own_an_1_1, own_an_1_2, own_an_3_1, own_an_3_2, own_an_3_4, own_an_0_3, own_an_3_3, own_an_1_7, own_an_3_7, own_an_7_7, own_an_1_0, own_an_3_0, own_x0, own_x1, own_x2, own_x3, own_x4, own_x5, own_y0, own_y1, own_y2, own_y3, own_y4, own_y5, own_ll64, own_ll4, own_ll6, own_ll7, rd_wr_same, len_wr, l8, i0, i1, r0, r1, m1, t1, d1, e01, e10, List.length_replicate, -List.reduceReplicate]
theorem own_k9 (p cap mask a b : Int32) (sq : List Int32) (l8 : sq.length = 8) (i0 : inb 8 (p &&& mask) = true) (i1 : inb 8 ((p + 1) &&& mask) = true) (ne : ¬ (p &&& mask) = ((p + 1) &&& mask)) (r0 : rd sq (p &&& mask) = p) (r1 : rd sq ((p + 1) &&& mask) = p + 1) (m1 : p - (p + 1) = -1) (t1 : ¬ p + 1 = p) (d1 : p + 1 + 1 - (p + 1) = 1) (hc : 0 < cap) : j_doStep (Q.mk sq (List.replicate 8 0) [15, 21, 0, 0] [p, p, 0, 0] [a, 0, 0, 0] [0, 0, 0, 0] [0, 0, 0, 0] (List.replicate 4 0) (1 :: 2 :: 0 :: 0 :: 0 :: 0 :: List.replicate 58 0) (0 :: 1 :: 0 :: 0 :: 0 :: 0 :: List.replicate 58 0) (a :: 0 :: 0 :: 0 :: 0 :: 0 :: List.replicate 58 0) (List.replicate 8 0) [0, 0, 0, 0, 0, 0] [0, 0, 0, 0, 0, 0] [0, 0, 0, 0, 0, 0] [0, 0, 0, 0, 0, 0] [0, 0, 0, 0, 0, 0] [0, 0, 0, 0, 0, 0] [0, 0, 0, 0, 0, 0] [0, 0, 0, 0] (List.replicate 56 0) [0, 0, 0, 0, 0, 0, 0] [0, 0, 0, 0, 0, 0, 0] [0, 0, 0, 0, 0, 0, 0] 2 cap mask p (p + 1) 2 0 0 0) 0 = some (0, (Q.mk sq (wr (List.replicate 8 0) (p &&& mask) a) [16, 21, 0, 0] [p, p, 0, 0] [a, 0, 0, 0] [0, 0, 0, 0] [0, 0, 0, 0] (List.replicate 4 0) (1 :: 2 :: 0 :: 0 :: 0 :: 0 :: List.replicate 58 0) (0 :: 1 :: 0 :: 0 :: 0 :: 0 :: List.replicate 58 0) (a :: 0 :: 0 :: 0 :: 0 :: 0 :: List.replicate 58 0) (List.replicate 8 0) [0, 0, 0, 0, 0, 0] [0, 0, 0, 0, 0, 0] [0, 0, 0, 0, 0, 0] [0, 0, 0, 0, 0, 0] [0, 0, 0, 0, 0, 0] [0, 0, 0, 0, 0, 0] [0, 0, 0, 0, 0, 0] [0, 0, 0, 0] (List.replicate 56 0) [0, 0, 0, 0, 0, 0, 0] [0, 0, 0, 0, 0, 0, 0] [0, 0, 0, 0, 0, 0, 0] 2 cap mask p (p + 1) 2 0 0 0)) := by
  have e01 : ∀ (xs : List Int32) (v : Int32), rd (wr xs (p &&& mask) v) ((p + 1) &&& mask) = rd xs ((p + 1) &&& mask) := fun xs v => rd_wr_ne (inb_nn i0) (inb_nn i1) ne v
  have e10 : ∀ (xs : List Int32) (v : Int32), rd (wr xs ((p + 1) &&& mask) v) (p &&& mask) = rd xs (p &&& mask) := fun xs v => rd_wr_ne (inb_nn i1) (inb_nn i0) (fun e => ne e.symm) v
  simp [j_doStep, j_doStep_b26, j_enqStep, j_enqStep_b114, j_deqStep, j_deqStep_b116, j_finish, j_append, j_resKind, j_startEnqueue, j_startDequeue, j_valid, j_hasRoom, j_pending, j_pending_l4, j_pending_b29, own_Qa, own_in_4_0, own_in_4_1, own_in_4_2, own_in_4_3, own_in_64_0, own_in_64_1, own_in_64_2, own_in_64_3, own_in_64_4, own_in_64_5, own_in_6_0, own_in_6_1, own_in_6_2, own_in_6_3, own_in_6_4, own_in_6_5, own_in_7_0, own_in_7_1, own_in_7_2, own_in_7_3, own_in_56_0, own_in_56_8, own_in_56_16, own_in_56_24, own_an_0_0, own_an_0_1, own_an_1_1, own_an_1_2, own_an_3_1, own_an_3_2, own_an_3_4, own_an_0_3, own_an_3_3, own_an_1_7, own_an_3_7, own_an_7_7, own_an_1_0, own_an_3_0, own_x0, own_x1, own_x2, own_x3, own_x4, own_x5, own_y0, own_y1, own_y2, own_y3, own_y4, own_y5, own_ll64, own_ll4, own_ll6, own_ll7, rd_wr_same, len_wr, l8, i0, i1, r0, r1, m1, t1, d1, e01, e10, List.length_replicate, -List.reduceReplicate]
theorem own_k10 (p cap mask a b : Int32) (sq : List Int32) (l8 : sq.length = 8) (i0 : inb 8 (p &&& mask) = true) (i1 : inb 8 ((p + 1) &&& mask) = true) (ne : ¬ (p &&& mask) = ((p + 1) &&& mask)) (r0 : rd sq (p &&& mask) = p) (r1 : rd sq ((p + 1) &&& mask) = p + 1) (m1 : p - (p + 1) = -1) (t1 : ¬ p + 1 = p) (d1 : p + 1 + 1 - (p + 1) = 1) (hc : 0 < cap) : j_doStep (Q.mk sq (wr (List.replicate 8 0) (p &&& mask) a) [16, 21, 0, 0] [p, p, 0, 0] [a, 0, 0, 0] [0, 0, 0, 0] [0, 0, 0, 0] (List.replicate 4 0) (1 :: 2 :: 0 :: 0 :: 0 :: 0 :: List.replicate 58 0) (0 :: 1 :: 0 :: 0 :: 0 :: 0 :: List.replicate 58 0) (a :: 0 :: 0 :: 0 :: 0 :: 0 :: List.replicate 58 0) (List.replicate 8 0) [0, 0, 0, 0, 0, 0] [0, 0, 0, 0, 0, 0] [0, 0, 0, 0, 0, 0] [0, 0, 0, 0, 0, 0] [0, 0, 0, 0, 0, 0] [0, 0, 0, 0, 0, 0] [0, 0, 0, 0, 0, 0] [0, 0, 0, 0] (List.replicate 56 0) [0, 0, 0, 0, 0, 0, 0] [0, 0, 0, 0, 0, 0, 0] [0, 0, 0, 0, 0, 0, 0] 2 cap mask p (p + 1) 2 0 0 0) 0 = some (1, (Q.mk (wr sq (p &&& mask) (p + 1)) (wr (List.replicate 8 0) (p &&& mask) a) [0, 21, 0, 0] [p, p, 0, 0] [a, 0, 0, 0] [1, 0, 0, 0] [0, 0, 0, 0] (List.replicate 4 0) (1 :: 2 :: 3 :: 0 :: 0 :: 0 :: List.replicate 58 0) (0 :: 1 :: 0 :: 0 :: 0 :: 0 :: List.replicate 58 0) (a :: 0 :: 0 :: 0 :: 0 :: 0 :: List.replicate 58 0) (List.replicate 8 0) [0, 0, 0, 0, 0, 0] [0, 0, 0, 0, 0, 0] [0, 0, 0, 0, 0, 0] [0, 0, 0, 0, 0, 0] [0, 0, 0, 0, 0, 0] [0, 0, 0, 0, 0, 0] [0, 0, 0, 0, 0, 0] [0, 0, 0, 0] (List.replicate 56 0) [0, 0, 0, 0, 0, 0, 0] [0, 0, 0, 0, 0, 0, 0] [0, 0, 0, 0, 0, 0, 0] 2 cap mask p (p + 1) 3 0 0 0)) := by
  have e01 : ∀ (xs : List Int32) (v : Int32), rd (wr xs (p &&& mask) v) ((p + 1) &&& mask) = rd xs ((p + 1) &&& mask) := fun xs v => rd_wr_ne (inb_nn i0) (inb_nn i1) ne v
  have e10 : ∀ (xs : List Int32) (v : Int32), rd (wr xs ((p + 1) &&& mask) v) (p &&& mask) = rd xs (p &&& mask) := fun xs v => rd_wr_ne (inb_nn i1) (inb_nn i0) (fun e => ne e.symm) v
  simp [j_doStep, j_doStep_b26, j_enqStep, j_enqStep_b114, j_deqStep, j_deqStep_b116, j_finish, j_append, j_resKind, j_startEnqueue, j_startDequeue, j_valid, j_hasRoom, j_pending, j_pending_l4, j_pending_b29, own_Qa, own_in_4_0, own_in_4_1, own_in_4_2, own_in_4_3, own_in_64_0, own_in_64_1, own_in_64_2, own_in_64_3, own_in_64_4, own_in_64_5, own_in_6_0, own_in_6_1, own_in_6_2, own_in_6_3, own_in_6_4, own_in_6_5, own_in_7_0, own_in_7_1, own_in_7_2, own_in_7_3, own_in_56_0, own_in_56_8, own_in_56_16, own_in_56_24, own_an_0_0, own_an_0_1, own_an_1_1, own_an_1_2, own_an_3_1, own_an_3_2, own_an_3_4, own_an_0_3, own_an_3_3, own_an_1_7, own_an_3_7, own_an_7_7, own_an_1_0, own_an_3_0, own_x0, own_x1, own_x2, own_x3, own_x4, own_x5, own_y0, own_y1, own_y2, own_y3, own_y4, own_y5, own_ll64, own_ll4, own_ll6, own_ll7, rd_wr_same, len_wr, l8, i0, i1, r0, r1, m1, t1, d1, e01, e10, List.length_replicate, -List.reduceReplicate]
theorem own_k11 (p cap mask a b : Int32) (sq : List Int32) (l8 : sq.length = 8) (i0 : inb 8 (p &&& mask) = true) (i1 : inb 8 ((p + 1) &&& mask) = true) (ne : ¬ (p &&& mask) = ((p + 1) &&& mask)) (r0 : rd sq (p &&& mask) = p) (r1 : rd sq ((p + 1) &&& mask) = p + 1) (m1 : p - (p + 1) = -1) (t1 : ¬ p + 1 = p) (d1 : p + 1 + 1 - (p + 1) = 1) (hc : 0 < cap) : j_doStep (Q.mk (wr sq (p &&& mask) (p + 1)) (wr (List.replicate 8 0) (p &&& mask) a) [0, 21, 0, 0] [p, p, 0, 0] [a, 0, 0, 0] [1, 0, 0, 0] [0, 0, 0, 0] (List.replicate 4 0) (1 :: 2 :: 3 :: 0 :: 0 :: 0 :: List.replicate 58 0) (0 :: 1 :: 0 :: 0 :: 0 :: 0 :: List.replicate 58 0) (a :: 0 :: 0 :: 0 :: 0 :: 0 :: List.replicate 58 0) (List.replicate 8 0) [0, 0, 0, 0, 0, 0] [0, 0, 0, 0, 0, 0] [0, 0, 0, 0, 0, 0] [0, 0, 0, 0, 0, 0] [0, 0, 0, 0, 0, 0] [0, 0, 0, 0, 0, 0] [0, 0, 0, 0, 0, 0] [0, 0, 0, 0] (List.replicate 56 0) [0, 0, 0, 0, 0, 0, 0] [0, 0, 0, 0, 0, 0, 0] [0, 0, 0, 0, 0, 0, 0] 2 cap mask p (p + 1) 3 0 0 0) 1 = some (0, (Q.mk (wr sq (p &&& mask) (p + 1)) (wr (List.replicate 8 0) (p &&& mask) a) [0, 22, 0, 0] [p, p, 0, 0] [a, 0, 0, 0] [1, 0, 0, 0] [0, 0, 0, 0] (List.replicate 4 0) (1 :: 2 :: 3 :: 0 :: 0 :: 0 :: List.replicate 58 0) (0 :: 1 :: 0 :: 0 :: 0 :: 0 :: List.replicate 58 0) (a :: 0 :: 0 :: 0 :: 0 :: 0 :: List.replicate 58 0) (List.replicate 8 0) [0, 0, 0, 0, 0, 0] [0, 0, 0, 0, 0, 0] [0, 0, 0, 0, 0, 0] [0, 0, 0, 0, 0, 0] [0, 0, 0, 0, 0, 0] [0, 0, 0, 0, 0, 0] [0, 0, 0, 0, 0, 0] [0, 0, 0, 0] (List.replicate 56 0) [0, 0, 0, 0, 0, 0, 0] [0, 0, 0, 0, 0, 0, 0] [0, 0, 0, 0, 0, 0, 0] 2 cap mask p (p + 1) 3 0 0 0)) := by
  have e01 : ∀ (xs : List Int32) (v : Int32), rd (wr xs (p &&& mask) v) ((p + 1) &&& mask) = rd xs ((p + 1) &&& mask) := fun xs v => rd_wr_ne (inb_nn i0) (inb_nn i1) ne v
  have e10 : ∀ (xs : List Int32) (v : Int32), rd (wr xs ((p + 1) &&& mask) v) (p &&& mask) = rd xs (p &&& mask) := fun xs v => rd_wr_ne (inb_nn i1) (inb_nn i0) (fun e => ne e.symm) v
  simp [j_doStep, j_doStep_b26, j_enqStep, j_enqStep_b114, j_deqStep, j_deqStep_b116, j_finish, j_append, j_resKind, j_startEnqueue, j_startDequeue, j_valid, j_hasRoom, j_pending, j_pending_l4, j_pending_b29, own_Qa, own_in_4_0, own_in_4_1, own_in_4_2, own_in_4_3, own_in_64_0, own_in_64_1, own_in_64_2, own_in_64_3, own_in_64_4, own_in_64_5, own_in_6_0, own_in_6_1, own_in_6_2, own_in_6_3, own_in_6_4, own_in_6_5, own_in_7_0, own_in_7_1, own_in_7_2, own_in_7_3, own_in_56_0, own_in_56_8, own_in_56_16, own_in_56_24, own_an_0_0, own_an_0_1, own_an_1_1, own_an_1_2, own_an_3_1, own_an_3_2, own_an_3_4, own_an_0_3, own_an_3_3, own_an_1_7, own_an_3_7, own_an_7_7, own_an_1_0, own_an_3_0, own_x0, own_x1, own_x2, own_x3, own_x4, own_x5, own_y0, own_y1, own_y2, own_y3, own_y4, own_y5, own_ll64, own_ll4, own_ll6, own_ll7, rd_wr_same, len_wr, l8, i0, i1, r0, r1, m1, t1, d1, e01, e10, List.length_replicate, -List.reduceReplicate]
theorem own_k12 (p cap mask a b : Int32) (sq : List Int32) (l8 : sq.length = 8) (i0 : inb 8 (p &&& mask) = true) (i1 : inb 8 ((p + 1) &&& mask) = true) (ne : ¬ (p &&& mask) = ((p + 1) &&& mask)) (r0 : rd sq (p &&& mask) = p) (r1 : rd sq ((p + 1) &&& mask) = p + 1) (m1 : p - (p + 1) = -1) (t1 : ¬ p + 1 = p) (d1 : p + 1 + 1 - (p + 1) = 1) (hc : 0 < cap) : j_doStep (Q.mk (wr sq (p &&& mask) (p + 1)) (wr (List.replicate 8 0) (p &&& mask) a) [0, 22, 0, 0] [p, p, 0, 0] [a, 0, 0, 0] [1, 0, 0, 0] [0, 0, 0, 0] (List.replicate 4 0) (1 :: 2 :: 3 :: 0 :: 0 :: 0 :: List.replicate 58 0) (0 :: 1 :: 0 :: 0 :: 0 :: 0 :: List.replicate 58 0) (a :: 0 :: 0 :: 0 :: 0 :: 0 :: List.replicate 58 0) (List.replicate 8 0) [0, 0, 0, 0, 0, 0] [0, 0, 0, 0, 0, 0] [0, 0, 0, 0, 0, 0] [0, 0, 0, 0, 0, 0] [0, 0, 0, 0, 0, 0] [0, 0, 0, 0, 0, 0] [0, 0, 0, 0, 0, 0] [0, 0, 0, 0] (List.replicate 56 0) [0, 0, 0, 0, 0, 0, 0] [0, 0, 0, 0, 0, 0, 0] [0, 0, 0, 0, 0, 0, 0] 2 cap mask p (p + 1) 3 0 0 0) 1 = some (0, (Q.mk (wr sq (p &&& mask) (p + 1)) (wr (List.replicate 8 0) (p &&& mask) a) [0, 23, 0, 0] [p, p, 0, 0] [a, 0, 0, 0] [1, 0, 0, 0] [0, 0, 0, 0] (List.replicate 4 0) (1 :: 2 :: 3 :: 0 :: 0 :: 0 :: List.replicate 58 0) (0 :: 1 :: 0 :: 0 :: 0 :: 0 :: List.replicate 58 0) (a :: 0 :: 0 :: 0 :: 0 :: 0 :: List.replicate 58 0) (List.replicate 8 0) [0, 0, 0, 0, 0, 0] [0, 0, 0, 0, 0, 0] [0, 0, 0, 0, 0, 0] [0, 0, 0, 0, 0, 0] [0, 0, 0, 0, 0, 0] [0, 0, 0, 0, 0, 0] [0, 0, 0, 0, 0, 0] [0, 0, 0, 0] (List.replicate 56 0) [0, 0, 0, 0, 0, 0, 0] [0, 0, 0, 0, 0, 0, 0] [0, 0, 0, 0, 0, 0, 0] 2 cap mask p (p + 1) 3 0 0 0)) := by
  have e01 : ∀ (xs : List Int32) (v : Int32), rd (wr xs (p &&& mask) v) ((p + 1) &&& mask) = rd xs ((p + 1) &&& mask) := fun xs v => rd_wr_ne (inb_nn i0) (inb_nn i1) ne v
  have e10 : ∀ (xs : List Int32) (v : Int32), rd (wr xs ((p + 1) &&& mask) v) (p &&& mask) = rd xs (p &&& mask) := fun xs v => rd_wr_ne (inb_nn i1) (inb_nn i0) (fun e => ne e.symm) v
  simp [j_doStep, j_doStep_b26, j_enqStep, j_enqStep_b114, j_deqStep, j_deqStep_b116, j_finish, j_append, j_resKind, j_startEnqueue, j_startDequeue, j_valid, j_hasRoom, j_pending, j_pending_l4, j_pending_b29, own_Qa, own_in_4_0, own_in_4_1, own_in_4_2, own_in_4_3, own_in_64_0, own_in_64_1, own_in_64_2, own_in_64_3, own_in_64_4, own_in_64_5, own_in_6_0, own_in_6_1, own_in_6_2, own_in_6_3, own_in_6_4, own_in_6_5, own_in_7_0, own_in_7_1, own_in_7_2, own_in_7_3, own_in_56_0, own_in_56_8, own_in_56_16, own_in_56_24, own_an_0_0, own_an_0_1, own_an_1_1, own_an_1_2, own_an_3_1, own_an_3_2, own_an_3_4, own_an_0_3, own_an_3_3, own_an_1_7, own_an_3_7, own_an_7_7, own_an_1_0, own_an_3_0, own_x0, own_x1, own_x2, own_x3, own_x4, own_x5, own_y0, own_y1, own_y2, own_y3, own_y4, own_y5, own_ll64, own_ll4, own_ll6, own_ll7, rd_wr_same, len_wr, l8, i0, i1, r0, r1, m1, t1, d1, e01, e10, List.length_replicate, -List.reduceReplicate]
theorem own_k13 (p cap mask a b : Int32) (sq : List Int32) (l8 : sq.length = 8) (i0 : inb 8 (p &&& mask) = true) (i1 : inb 8 ((p + 1) &&& mask) = true) (ne : ¬ (p &&& mask) = ((p + 1) &&& mask)) (r0 : rd sq (p &&& mask) = p) (r1 : rd sq ((p + 1) &&& mask) = p + 1) (m1 : p - (p + 1) = -1) (t1 : ¬ p + 1 = p) (d1 : p + 1 + 1 - (p + 1) = 1) (hc : 0 < cap) : j_doStep (Q.mk (wr sq (p &&& mask) (p + 1)) (wr (List.replicate 8 0) (p &&& mask) a) [0, 23, 0, 0] [p, p, 0, 0] [a, 0, 0, 0] [1, 0, 0, 0] [0, 0, 0, 0] (List.replicate 4 0) (1 :: 2 :: 3 :: 0 :: 0 :: 0 :: List.replicate 58 0) (0 :: 1 :: 0 :: 0 :: 0 :: 0 :: List.replicate 58 0) (a :: 0 :: 0 :: 0 :: 0 :: 0 :: List.replicate 58 0) (List.replicate 8 0) [0, 0, 0, 0, 0, 0] [0, 0, 0, 0, 0, 0] [0, 0, 0, 0, 0, 0] [0, 0, 0, 0, 0, 0] [0, 0, 0, 0, 0, 0] [0, 0, 0, 0, 0, 0] [0, 0, 0, 0, 0, 0] [0, 0, 0, 0] (List.replicate 56 0) [0, 0, 0, 0, 0, 0, 0] [0, 0, 0, 0, 0, 0, 0] [0, 0, 0, 0, 0, 0, 0] 2 cap mask p (p + 1) 3 0 0 0) 1 = some (0, (Q.mk (wr sq (p &&& mask) (p + 1)) (wr (List.replicate 8 0) (p &&& mask) a) [0, 25, 0, 0] [p, p, 0, 0] [a, 0, 0, 0] [1, 0, 0, 0] [0, 0, 0, 0] (List.replicate 4 0) (1 :: 2 :: 3 :: 0 :: 0 :: 0 :: List.replicate 58 0) (0 :: 1 :: 0 :: 0 :: 0 :: 0 :: List.replicate 58 0) (a :: 0 :: 0 :: 0 :: 0 :: 0 :: List.replicate 58 0) (List.replicate 8 0) [0, 0, 0, 0, 0, 0] [0, 0, 0, 0, 0, 0] [0, 0, 0, 0, 0, 0] [0, 0, 0, 0, 0, 0] [0, 0, 0, 0, 0, 0] [0, 0, 0, 0, 0, 0] [0, 0, 0, 0, 0, 0] [0, 0, 0, 0] (List.replicate 56 0) [0, 0, 0, 0, 0, 0, 0] [0, 0, 0, 0, 0, 0, 0] [0, 0, 0, 0, 0, 0, 0] 2 cap mask (p + 1) (p + 1) 3 0 0 0)) := by
  have e01 : ∀ (xs : List Int32) (v : Int32), rd (wr xs (p &&& mask) v) ((p + 1) &&& mask) = rd xs ((p + 1) &&& mask) := fun xs v => rd_wr_ne (inb_nn i0) (inb_nn i1) ne v
  have e10 : ∀ (xs : List Int32) (v : Int32), rd (wr xs ((p + 1) &&& mask) v) (p &&& mask) = rd xs (p &&& mask) := fun xs v => rd_wr_ne (inb_nn i1) (inb_nn i0) (fun e => ne e.symm) v
  simp [j_doStep, j_doStep_b26, j_enqStep, j_enqStep_b114, j_deqStep, j_deqStep_b116, j_finish, j_append, j_resKind, j_startEnqueue, j_startDequeue, j_valid, j_hasRoom, j_pending, j_pending_l4, j_pending_b29, own_Qa, own_in_4_0, own_in_4_1, own_in_4_2, own_in_4_3, own_in_64_0, own_in_64_1, own_in_64_2, own_in_64_3, own_in_64_4, own_in_64_5, own_in_6_0, own_in_6_1, own_in_6_2, own_in_6_3, own_in_6_4, own_in_6_5, own_in_7_0, own_in_7_1, own_in_7_2, own_in_7_3, own_in_56_0, own_in_56_8, own_in_56_16, own_in_56_24, own_an_0_0, own_an_0_1, own_an_1_1, own_an_1_2, own_an_3_1, own_an_3_2, own_an_3_4, own_an_0_3, own_an_3_3, own_an_1_7, own_an_3_7, own_an_7_7, own_an_1_0, own_an_3_0, own_x0, own_x1, own_x2, own_x3, own_x4, own_x5, own_y0, own_y1, own_y2, own_y3, own_y4, own_y5, own_ll64, own_ll4, own_ll6, own_ll7, rd_wr_same, len_wr, l8, i0, i1, r0, r1, m1, t1, d1, e01, e10, List.length_replicate, -List.reduceReplicate]
theorem own_k14 (p cap mask a b : Int32) (sq : List Int32) (l8 : sq.length = 8) (i0 : inb 8 (p &&& mask) = true) (i1 : inb 8 ((p + 1) &&& mask) = true) (ne : ¬ (p &&& mask) = ((p + 1) &&& mask)) (r0 : rd sq (p &&& mask) = p) (r1 : rd sq ((p + 1) &&& mask) = p + 1) (m1 : p - (p + 1) = -1) (t1 : ¬ p + 1 = p) (d1 : p + 1 + 1 - (p + 1) = 1) (hc : 0 < cap) : j_doStep (Q.mk (wr sq (p &&& mask) (p + 1)) (wr (List.replicate 8 0) (p &&& mask) a) [0, 25, 0, 0] [p, p, 0, 0] [a, 0, 0, 0] [1, 0, 0, 0] [0, 0, 0, 0] (List.replicate 4 0) (1 :: 2 :: 3 :: 0 :: 0 :: 0 :: List.replicate 58 0) (0 :: 1 :: 0 :: 0 :: 0 :: 0 :: List.replicate 58 0) (a :: 0 :: 0 :: 0 :: 0 :: 0 :: List.replicate 58 0) (List.replicate 8 0) [0, 0, 0, 0, 0, 0] [0, 0, 0, 0, 0, 0] [0, 0, 0, 0, 0, 0] [0, 0, 0, 0, 0, 0] [0, 0, 0, 0, 0, 0] [0, 0, 0, 0, 0, 0] [0, 0, 0, 0, 0, 0] [0, 0, 0, 0] (List.replicate 56 0) [0, 0, 0, 0, 0, 0, 0] [0, 0, 0, 0, 0, 0, 0] [0, 0, 0, 0, 0, 0, 0] 2 cap mask (p + 1) (p + 1) 3 0 0 0) 1 = some (0, (Q.mk (wr sq (p &&& mask) (p + 1)) (wr (List.replicate 8 0) (p &&& mask) a) [0, 26, 0, 0] [p, p, 0, 0] [a, a, 0, 0] [1, 0, 0, 0] [0, 0, 0, 0] (List.replicate 4 0) (1 :: 2 :: 3 :: 0 :: 0 :: 0 :: List.replicate 58 0) (0 :: 1 :: 0 :: 0 :: 0 :: 0 :: List.replicate 58 0) (a :: 0 :: 0 :: 0 :: 0 :: 0 :: List.replicate 58 0) (List.replicate 8 0) [0, 0, 0, 0, 0, 0] [0, 0, 0, 0, 0, 0] [0, 0, 0, 0, 0, 0] [0, 0, 0, 0, 0, 0] [0, 0, 0, 0, 0, 0] [0, 0, 0, 0, 0, 0] [0, 0, 0, 0, 0, 0] [0, 0, 0, 0] (List.replicate 56 0) [0, 0, 0, 0, 0, 0, 0] [0, 0, 0, 0, 0, 0, 0] [0, 0, 0, 0, 0, 0, 0] 2 cap mask (p + 1) (p + 1) 3 0 0 0)) := by
  have e01 : ∀ (xs : List Int32) (v : Int32), rd (wr xs (p &&& mask) v) ((p + 1) &&& mask) = rd xs ((p + 1) &&& mask) := fun xs v => rd_wr_ne (inb_nn i0) (inb_nn i1) ne v
  have e10 : ∀ (xs : List Int32) (v : Int32), rd (wr xs ((p + 1) &&& mask) v) (p &&& mask) = rd xs (p &&& mask) := fun xs v => rd_wr_ne (inb_nn i1) (inb_nn i0) (fun e => ne e.symm) v
  simp [j_doStep, j_doStep_b26, j_enqStep, j_enqStep_b114, j_deqStep, j_deqStep_b116, j_finish, j_append, j_resKind, j_startEnqueue, j_startDequeue, j_valid, j_hasRoom, j_pending, j_pending_l4, j_pending_b29, own_Qa, own_in_4_0, own_in_4_1, own_in_4_2, own_in_4_3, own_in_64_0, own_in_64_1, own_in_64_2, own_in_64_3, own_in_64_4, own_in_64_5, own_in_6_0, own_in_6_1, own_in_6_2, own_in_6_3, own_in_6_4, own_in_6_5, own_in_7_0, own_in_7_1, own_in_7_2, own_in_7_3, own_in_56_0, own_in_56_8, own_in_56_16, own_in_56_24, own_an_0_0, own_an_0_1, own_an_1_1, own_an_1_2, own_an_3_1, own_an_3_2, own_an_3_4, own_an_0_3, own_an_3_3, own_an_1_7, own_an_3_7, own_an_7_7, own_an_1_0, own_an_3_0, own_x0, own_x1, own_x2, own_x3, own_x4, own_x5, own_y0, own_y1, own_y2, own_y3, own_y4, own_y5, own_ll64, own_ll4, own_ll6, own_ll7, rd_wr_same, len_wr, l8, i0, i1, r0, r1, m1, t1, d1, e01, e10, List.length_replicate, -List.reduceReplicate]
theorem own_k15 (p cap mask a b : Int32) (sq : List Int32) (l8 : sq.length = 8) (i0 : inb 8 (p &&& mask) = true) (i1 : inb 8 ((p + 1) &&& mask) = true) (ne : ¬ (p &&& mask) = ((p + 1) &&& mask)) (r0 : rd sq (p &&& mask) = p) (r1 : rd sq ((p + 1) &&& mask) = p + 1) (m1 : p - (p + 1) = -1) (t1 : ¬ p + 1 = p) (d1 : p + 1 + 1 - (p + 1) = 1) (hc : 0 < cap) : j_doStep (Q.mk (wr sq (p &&& mask) (p + 1)) (wr (List.replicate 8 0) (p &&& mask) a) [0, 26, 0, 0] [p, p, 0, 0] [a, a, 0, 0] [1, 0, 0, 0] [0, 0, 0, 0] (List.replicate 4 0) (1 :: 2 :: 3 :: 0 :: 0 :: 0 :: List.replicate 58 0) (0 :: 1 :: 0 :: 0 :: 0 :: 0 :: List.replicate 58 0) (a :: 0 :: 0 :: 0 :: 0 :: 0 :: List.replicate 58 0) (List.replicate 8 0) [0, 0, 0, 0, 0, 0] [0, 0, 0, 0, 0, 0] [0, 0, 0, 0, 0, 0] [0, 0, 0, 0, 0, 0] [0, 0, 0, 0, 0, 0] [0, 0, 0, 0, 0, 0] [0, 0, 0, 0, 0, 0] [0, 0, 0, 0] (List.replicate 56 0) [0, 0, 0, 0, 0, 0, 0] [0, 0, 0, 0, 0, 0, 0] [0, 0, 0, 0, 0, 0, 0] 2 cap mask (p + 1) (p + 1) 3 0 0 0) 1 = some (1, (Q.mk (wr (wr sq (p &&& mask) (p + 1)) (p &&& mask) (p + cap)) (wr (List.replicate 8 0) (p &&& mask) a) [0, 0, 0, 0] [p, p, 0, 0] [a, a, 0, 0] [1, 1, 0, 0] [0, a, 0, 0] (List.replicate 4 0) (1 :: 2 :: 3 :: 3 :: 0 :: 0 :: List.replicate 58 0) (0 :: 1 :: 0 :: 1 :: 0 :: 0 :: List.replicate 58 0) (a :: 0 :: 0 :: a :: 0 :: 0 :: List.replicate 58 0) (List.replicate 8 0) [0, 0, 0, 0, 0, 0] [0, 0, 0, 0, 0, 0] [0, 0, 0, 0, 0, 0] [0, 0, 0, 0, 0, 0] [0, 0, 0, 0, 0, 0] [0, 0, 0, 0, 0, 0] [0, 0, 0, 0, 0, 0] [0, 0, 0, 0] (List.replicate 56 0) [0, 0, 0, 0, 0, 0, 0] [0, 0, 0, 0, 0, 0, 0] [0, 0, 0, 0, 0, 0, 0] 2 cap mask (p + 1) (p + 1) 4 0 0 0)) := by
  have e01 : ∀ (xs : List Int32) (v : Int32), rd (wr xs (p &&& mask) v) ((p + 1) &&& mask) = rd xs ((p + 1) &&& mask) := fun xs v => rd_wr_ne (inb_nn i0) (inb_nn i1) ne v
  have e10 : ∀ (xs : List Int32) (v : Int32), rd (wr xs ((p + 1) &&& mask) v) (p &&& mask) = rd xs (p &&& mask) := fun xs v => rd_wr_ne (inb_nn i1) (inb_nn i0) (fun e => ne e.symm) v
  simp [j_doStep, j_doStep_b26, j_enqStep, j_enqStep_b114, j_deqStep, j_deqStep_b116, j_finish, j_append, j_resKind, j_startEnqueue, j_startDequeue, j_valid, j_hasRoom, j_pending, j_pending_l4, j_pending_b29, own_Qa, own_in_4_0, own_in_4_1, own_in_4_2, own_in_4_3, own_in_64_0, own_in_64_1, own_in_64_2, own_in_64_3, own_in_64_4, own_in_64_5, own_in_6_0, own_in_6_1, own_in_6_2, own_in_6_3, own_in_6_4, own_in_6_5, own_in_7_0, own_in_7_1, own_in_7_2, own_in_7_3, own_in_56_0, own_in_56_8, own_in_56_16, own_in_56_24, own_an_0_0, own_an_0_1, own_an_1_1, own_an_1_2, own_an_3_1, own_an_3_2, own_an_3_4, own_an_0_3, own_an_3_3, own_an_1_7, own_an_3_7, own_an_7_7, own_an_1_0, own_an_3_0, own_x0, own_x1, own_x2, own_x3, own_x4, own_x5, own_y0, own_y1, own_y2, own_y3, own_y4, own_y5, own_ll64, own_ll4, own_ll6, own_ll7, rd_wr_same, len_wr, l8, i0, i1, r0, r1, m1, t1, d1, e01, e10, List.length_replicate, -List.reduceReplicate]
theorem own_k16 (p cap mask a b : Int32) (sq : List Int32) (l8 : sq.length = 8) (i0 : inb 8 (p &&& mask) = true) (i1 : inb 8 ((p + 1) &&& mask) = true) (ne : ¬ (p &&& mask) = ((p + 1) &&& mask)) (r0 : rd sq (p &&& mask) = p) (r1 : rd sq ((p + 1) &&& mask) = p + 1) (m1 : p - (p + 1) = -1) (t1 : ¬ p + 1 = p) (d1 : p + 1 + 1 - (p + 1) = 1) (hc : 0 < cap) : j_startEnqueue (Q.mk (wr (wr sq (p &&& mask) (p + 1)) (p &&& mask) (p + cap)) (wr (List.replicate 8 0) (p &&& mask) a) [0, 0, 0, 0] [p, p, 0, 0] [a, a, 0, 0] [1, 1, 0, 0] [0, a, 0, 0] (List.replicate 4 0) (1 :: 2 :: 3 :: 3 :: 0 :: 0 :: List.replicate 58 0) (0 :: 1 :: 0 :: 1 :: 0 :: 0 :: List.replicate 58 0) (a :: 0 :: 0 :: a :: 0 :: 0 :: List.replicate 58 0) (List.replicate 8 0) [0, 0, 0, 0, 0, 0] [0, 0, 0, 0, 0, 0] [0, 0, 0, 0, 0, 0] [0, 0, 0, 0, 0, 0] [0, 0, 0, 0, 0, 0] [0, 0, 0, 0, 0, 0] [0, 0, 0, 0, 0, 0] [0, 0, 0, 0] (List.replicate 56 0) [0, 0, 0, 0, 0, 0, 0] [0, 0, 0, 0, 0, 0, 0] [0, 0, 0, 0, 0, 0, 0] 2 cap mask (p + 1) (p + 1) 4 0 0 0) 0 b = some (1, (Q.mk (wr (wr sq (p &&& mask) (p + 1)) (p &&& mask) (p + cap)) (wr (List.replicate 8 0) (p &&& mask) a) [11, 0, 0, 0] [p, p, 0, 0] [b, a, 0, 0] [1, 1, 0, 0] [0, a, 0, 0] (List.replicate 4 0) (1 :: 2 :: 3 :: 3 :: 1 :: 0 :: List.replicate 58 0) (0 :: 1 :: 0 :: 1 :: 0 :: 0 :: List.replicate 58 0) (a :: 0 :: 0 :: a :: b :: 0 :: List.replicate 58 0) (List.replicate 8 0) [0, 0, 0, 0, 0, 0] [0, 0, 0, 0, 0, 0] [0, 0, 0, 0, 0, 0] [0, 0, 0, 0, 0, 0] [0, 0, 0, 0, 0, 0] [0, 0, 0, 0, 0, 0] [0, 0, 0, 0, 0, 0] [0, 0, 0, 0] (List.replicate 56 0) [0, 0, 0, 0, 0, 0, 0] [0, 0, 0, 0, 0, 0, 0] [0, 0, 0, 0, 0, 0, 0] 2 cap mask (p + 1) (p + 1) 5 0 0 0)) := by
  have e01 : ∀ (xs : List Int32) (v : Int32), rd (wr xs (p &&& mask) v) ((p + 1) &&& mask) = rd xs ((p + 1) &&& mask) := fun xs v => rd_wr_ne (inb_nn i0) (inb_nn i1) ne v
  have e10 : ∀ (xs : List Int32) (v : Int32), rd (wr xs ((p + 1) &&& mask) v) (p &&& mask) = rd xs (p &&& mask) := fun xs v => rd_wr_ne (inb_nn i1) (inb_nn i0) (fun e => ne e.symm) v
  simp [j_doStep, j_doStep_b26, j_enqStep, j_enqStep_b114, j_deqStep, j_deqStep_b116, j_finish, j_append, j_resKind, j_startEnqueue, j_startDequeue, j_valid, j_hasRoom, j_pending, j_pending_l4, j_pending_b29, own_Qa, own_in_4_0, own_in_4_1, own_in_4_2, own_in_4_3, own_in_64_0, own_in_64_1, own_in_64_2, own_in_64_3, own_in_64_4, own_in_64_5, own_in_6_0, own_in_6_1, own_in_6_2, own_in_6_3, own_in_6_4, own_in_6_5, own_in_7_0, own_in_7_1, own_in_7_2, own_in_7_3, own_in_56_0, own_in_56_8, own_in_56_16, own_in_56_24, own_an_0_0, own_an_0_1, own_an_1_1, own_an_1_2, own_an_3_1, own_an_3_2, own_an_3_4, own_an_0_3, own_an_3_3, own_an_1_7, own_an_3_7, own_an_7_7, own_an_1_0, own_an_3_0, own_x0, own_x1, own_x2, own_x3, own_x4, own_x5, own_y0, own_y1, own_y2, own_y3, own_y4, own_y5, own_ll64, own_ll4, own_ll6, own_ll7, rd_wr_same, len_wr, l8, i0, i1, r0, r1, m1, t1, d1, e01, e10, List.length_replicate, -List.reduceReplicate]
theorem own_k17 (p cap mask a b : Int32) (sq : List Int32) (l8 : sq.length = 8) (i0 : inb 8 (p &&& mask) = true) (i1 : inb 8 ((p + 1) &&& mask) = true) (ne : ¬ (p &&& mask) = ((p + 1) &&& mask)) (r0 : rd sq (p &&& mask) = p) (r1 : rd sq ((p + 1) &&& mask) = p + 1) (m1 : p - (p + 1) = -1) (t1 : ¬ p + 1 = p) (d1 : p + 1 + 1 - (p + 1) = 1) (hc : 0 < cap) : j_doStep (Q.mk (wr (wr sq (p &&& mask) (p + 1)) (p &&& mask) (p + cap)) (wr (List.replicate 8 0) (p &&& mask) a) [11, 0, 0, 0] [p, p, 0, 0] [b, a, 0, 0] [1, 1, 0, 0] [0, a, 0, 0] (List.replicate 4 0) (1 :: 2 :: 3 :: 3 :: 1 :: 0 :: List.replicate 58 0) (0 :: 1 :: 0 :: 1 :: 0 :: 0 :: List.replicate 58 0) (a :: 0 :: 0 :: a :: b :: 0 :: List.replicate 58 0) (List.replicate 8 0) [0, 0, 0, 0, 0, 0] [0, 0, 0, 0, 0, 0] [0, 0, 0, 0, 0, 0] [0, 0, 0, 0, 0, 0] [0, 0, 0, 0, 0, 0] [0, 0, 0, 0, 0, 0] [0, 0, 0, 0, 0, 0] [0, 0, 0, 0] (List.replicate 56 0) [0, 0, 0, 0, 0, 0, 0] [0, 0, 0, 0, 0, 0, 0] [0, 0, 0, 0, 0, 0, 0] 2 cap mask (p + 1) (p + 1) 5 0 0 0) 0 = some (0, (Q.mk (wr (wr sq (p &&& mask) (p + 1)) (p &&& mask) (p + cap)) (wr (List.replicate 8 0) (p &&& mask) a) [12, 0, 0, 0] [p + 1, p, 0, 0] [b, a, 0, 0] [1, 1, 0, 0] [0, a, 0, 0] (List.replicate 4 0) (1 :: 2 :: 3 :: 3 :: 1 :: 0 :: List.replicate 58 0) (0 :: 1 :: 0 :: 1 :: 0 :: 0 :: List.replicate 58 0) (a :: 0 :: 0 :: a :: b :: 0 :: List.replicate 58 0) (List.replicate 8 0) [0, 0, 0, 0, 0, 0] [0, 0, 0, 0, 0, 0] [0, 0, 0, 0, 0, 0] [0, 0, 0, 0, 0, 0] [0, 0, 0, 0, 0, 0] [0, 0, 0, 0, 0, 0] [0, 0, 0, 0, 0, 0] [0, 0, 0, 0] (List.replicate 56 0) [0, 0, 0, 0, 0, 0, 0] [0, 0, 0, 0, 0, 0, 0] [0, 0, 0, 0, 0, 0, 0] 2 cap mask (p + 1) (p + 1) 5 0 0 0)) := by
  have e01 : ∀ (xs : List Int32) (v : Int32), rd (wr xs (p &&& mask) v) ((p + 1) &&& mask) = rd xs ((p + 1) &&& mask) := fun xs v => rd_wr_ne (inb_nn i0) (inb_nn i1) ne v
  have e10 : ∀ (xs : List Int32) (v : Int32), rd (wr xs ((p + 1) &&& mask) v) (p &&& mask) = rd xs (p &&& mask) := fun xs v => rd_wr_ne (inb_nn i1) (inb_nn i0) (fun e => ne e.symm) v
  simp [j_doStep, j_doStep_b26, j_enqStep, j_enqStep_b114, j_deqStep, j_deqStep_b116, j_finish, j_append, j_resKind, j_startEnqueue, j_startDequeue, j_valid, j_hasRoom, j_pending, j_pending_l4, j_pending_b29, own_Qa, own_in_4_0, own_in_4_1, own_in_4_2, own_in_4_3, own_in_64_0, own_in_64_1, own_in_64_2, own_in_64_3, own_in_64_4, own_in_64_5, own_in_6_0, own_in_6_1, own_in_6_2, own_in_6_3, own_in_6_4, own_in_6_5, own_in_7_0, own_in_7_1, own_in_7_2, own_in_7_3, own_in_56_0, own_in_56_8, own_in_56_16, own_in_56_24, own_an_0_0, own_an_0_1, own_an_1_1, own_an_1_2, own_an_3_1, own_an_3_2, own_an_3_4, own_an_0_3, own_an_3_3, own_an_1_7, own_an_3_7, own_an_7_7, own_an_1_0, own_an_3_0, own_x0, own_x1, own_x2, own_x3, own_x4, own_x5, own_y0, own_y1, own_y2, own_y3, own_y4, own_y5, own_ll64, own_ll4, own_ll6, own_ll7, rd_wr_same, len_wr, l8, i0, i1, r0, r1, m1, t1, d1, e01, e10, List.length_replicate, -List.reduceReplicate]
theorem own_k18 (p cap mask a b : Int32) (sq : List Int32) (l8 : sq.length = 8) (i0 : inb 8 (p &&& mask) = true) (i1 : inb 8 ((p + 1) &&& mask) = true) (ne : ¬ (p &&& mask) = ((p + 1) &&& mask)) (r0 : rd sq (p &&& mask) = p) (r1 : rd sq ((p + 1) &&& mask) = p + 1) (m1 : p - (p + 1) = -1) (t1 : ¬ p + 1 = p) (d1 : p + 1 + 1 - (p + 1) = 1) (hc : 0 < cap) : j_doStep (Q.mk (wr (wr sq (p &&& mask) (p + 1)) (p &&& mask) (p + cap)) (wr (List.replicate 8 0) (p &&& mask) a) [12, 0, 0, 0] [p + 1, p, 0, 0] [b, a, 0, 0] [1, 1, 0, 0] [0, a, 0, 0] (List.replicate 4 0) (1 :: 2 :: 3 :: 3 :: 1 :: 0 :: List.replicate 58 0) (0 :: 1 :: 0 :: 1 :: 0 :: 0 :: List.replicate 58 0) (a :: 0 :: 0 :: a :: b :: 0 :: List.replicate 58 0) (List.replicate 8 0) [0, 0, 0, 0, 0, 0] [0, 0, 0, 0, 0, 0] [0, 0, 0, 0, 0, 0] [0, 0, 0, 0, 0, 0] [0, 0, 0, 0, 0, 0] [0, 0, 0, 0, 0, 0] [0, 0, 0, 0, 0, 0] [0, 0, 0, 0] (List.replicate 56 0) [0, 0, 0, 0, 0, 0, 0] [0, 0, 0, 0, 0, 0, 0] [0, 0, 0, 0, 0, 0, 0] 2 cap mask (p + 1) (p + 1) 5 0 0 0) 0 = some (0, (Q.mk (wr (wr sq (p &&& mask) (p + 1)) (p &&& mask) (p + cap)) (wr (List.replicate 8 0) (p &&& mask) a) [13, 0, 0, 0] [p + 1, p, 0, 0] [b, a, 0, 0] [1, 1, 0, 0] [0, a, 0, 0] (List.replicate 4 0) (1 :: 2 :: 3 :: 3 :: 1 :: 0 :: List.replicate 58 0) (0 :: 1 :: 0 :: 1 :: 0 :: 0 :: List.replicate 58 0) (a :: 0 :: 0 :: a :: b :: 0 :: List.replicate 58 0) (List.replicate 8 0) [0, 0, 0, 0, 0, 0] [0, 0, 0, 0, 0, 0] [0, 0, 0, 0, 0, 0] [0, 0, 0, 0, 0, 0] [0, 0, 0, 0, 0, 0] [0, 0, 0, 0, 0, 0] [0, 0, 0, 0, 0, 0] [0, 0, 0, 0] (List.replicate 56 0) [0, 0, 0, 0, 0, 0, 0] [0, 0, 0, 0, 0, 0, 0] [0, 0, 0, 0, 0, 0, 0] 2 cap mask (p + 1) (p + 1) 5 0 0 0)) := by
  have e01 : ∀ (xs : List Int32) (v : Int32), rd (wr xs (p &&& mask) v) ((p + 1) &&& mask) = rd xs ((p + 1) &&& mask) := fun xs v => rd_wr_ne (inb_nn i0) (inb_nn i1) ne v
  have e10 : ∀ (xs : List Int32) (v : Int32), rd (wr xs ((p + 1) &&& mask) v) (p &&& mask) = rd xs (p &&& mask) := fun xs v => rd_wr_ne (inb_nn i1) (inb_nn i0) (fun e => ne e.symm) v
  simp [j_doStep, j_doStep_b26, j_enqStep, j_enqStep_b114, j_deqStep, j_deqStep_b116, j_finish, j_append, j_resKind, j_startEnqueue, j_startDequeue, j_valid, j_hasRoom, j_pending, j_pending_l4, j_pending_b29, own_Qa, own_in_4_0, own_in_4_1, own_in_4_2, own_in_4_3, own_in_64_0, own_in_64_1, own_in_64_2, own_in_64_3, own_in_64_4, own_in_64_5, own_in_6_0, own_in_6_1, own_in_6_2, own_in_6_3, own_in_6_4, own_in_6_5, own_in_7_0, own_in_7_1, own_in_7_2, own_in_7_3, own_in_56_0, own_in_56_8, own_in_56_16, own_in_56_24, own_an_0_0, own_an_0_1, own_an_1_1, own_an_1_2, own_an_3_1, own_an_3_2, own_an_3_4, own_an_0_3, own_an_3_3, own_an_1_7, own_an_3_7, own_an_7_7, own_an_1_0, own_an_3_0, own_x0, own_x1, own_x2, own_x3, own_x4, own_x5, own_y0, own_y1, own_y2, own_y3, own_y4, own_y5, own_ll64, own_ll4, own_ll6, own_ll7, rd_wr_same, len_wr, l8, i0, i1, r0, r1, m1, t1, d1, e01, e10, List.length_replicate, -List.reduceReplicate]
theorem own_k19 (p cap mask a b : Int32) (sq : List Int32) (l8 : sq.length = 8) (i0 : inb 8 (p &&& mask) = true) (i1 : inb 8 ((p + 1) &&& mask) = true) (ne : ¬ (p &&& mask) = ((p + 1) &&& mask)) (r0 : rd sq (p &&& mask) = p) (r1 : rd sq ((p + 1) &&& mask) = p + 1) (m1 : p - (p + 1) = -1) (t1 : ¬ p + 1 = p) (d1 : p + 1 + 1 - (p + 1) = 1) (hc : 0 < cap) : j_doStep (Q.mk (wr (wr sq (p &&& mask) (p + 1)) (p &&& mask) (p + cap)) (wr (List.replicate 8 0) (p &&& mask) a) [13, 0, 0, 0] [p + 1, p, 0, 0] [b, a, 0, 0] [1, 1, 0, 0] [0, a, 0, 0] (List.replicate 4 0) (1 :: 2 :: 3 :: 3 :: 1 :: 0 :: List.replicate 58 0) (0 :: 1 :: 0 :: 1 :: 0 :: 0 :: List.replicate 58 0) (a :: 0 :: 0 :: a :: b :: 0 :: List.replicate 58 0) (List.replicate 8 0) [0, 0, 0, 0, 0, 0] [0, 0, 0, 0, 0, 0] [0, 0, 0, 0, 0, 0] [0, 0, 0, 0, 0, 0] [0, 0, 0, 0, 0, 0] [0, 0, 0, 0, 0, 0] [0, 0, 0, 0, 0, 0] [0, 0, 0, 0] (List.replicate 56 0) [0, 0, 0, 0, 0, 0, 0] [0, 0, 0, 0, 0, 0, 0] [0, 0, 0, 0, 0, 0, 0] 2 cap mask (p + 1) (p + 1) 5 0 0 0) 0 = some (0, (Q.mk (wr (wr sq (p &&& mask) (p + 1)) (p &&& mask) (p + cap)) (wr (List.replicate 8 0) (p &&& mask) a) [15, 0, 0, 0] [p + 1, p, 0, 0] [b, a, 0, 0] [1, 1, 0, 0] [0, a, 0, 0] (List.replicate 4 0) (1 :: 2 :: 3 :: 3 :: 1 :: 0 :: List.replicate 58 0) (0 :: 1 :: 0 :: 1 :: 0 :: 0 :: List.replicate 58 0) (a :: 0 :: 0 :: a :: b :: 0 :: List.replicate 58 0) (List.replicate 8 0) [0, 0, 0, 0, 0, 0] [0, 0, 0, 0, 0, 0] [0, 0, 0, 0, 0, 0] [0, 0, 0, 0, 0, 0] [0, 0, 0, 0, 0, 0] [0, 0, 0, 0, 0, 0] [0, 0, 0, 0, 0, 0] [0, 0, 0, 0] (List.replicate 56 0) [0, 0, 0, 0, 0, 0, 0] [0, 0, 0, 0, 0, 0, 0] [0, 0, 0, 0, 0, 0, 0] 2 cap mask (p + 1) (p + 1 + 1) 5 0 0 0)) := by
  have e01 : ∀ (xs : List Int32) (v : Int32), rd (wr xs (p &&& mask) v) ((p + 1) &&& mask) = rd xs ((p + 1) &&& mask) := fun xs v => rd_wr_ne (inb_nn i0) (inb_nn i1) ne v
  have e10 : ∀ (xs : List Int32) (v : Int32), rd (wr xs ((p + 1) &&& mask) v) (p &&& mask) = rd xs (p &&& mask) := fun xs v => rd_wr_ne (inb_nn i1) (inb_nn i0) (fun e => ne e.symm) v
  simp [j_doStep, j_doStep_b26, j_enqStep, j_enqStep_b114, j_deqStep, j_deqStep_b116, j_finish, j_append, j_resKind, j_startEnqueue, j_startDequeue, j_valid, j_hasRoom, j_pending, j_pending_l4, j_pending_b29, own_Qa, own_in_4_0, own_in_4_1, own_in_4_2, own_in_4_3, own_in_64_0, own_in_64_1, own_in_64_2, own_in_64_3, own_in_64_4, own_in_64_5, own_in_6_0, own_in_6_1, own_in_6_2, own_in_6_3, own_in_6_4, own_in_6_5, own_in_7_0, own_in_7_1, own_in_7_2, own_in_7_3, own_in_56_0, own_in_56_8, own_in_56_16, own_in_56_24, own_an_0_0, own_an_0_1, own_an_1_1, own_an_1_2, own_an_3_1, own_an_3_2, own_an_3_4, own_an_0_3, own_an_3_3, own_an_1_7, own_an_3_7, own_an_7_7, own_an_1_0, own_an_3_0, own_x0, own_x1, own_x2, own_x3, own_x4, own_x5, own_y0, own_y1, own_y2, own_y3, own_y4, own_y5, own_ll64, own_ll4, own_ll6, own_ll7, rd_wr_same, len_wr, l8, i0, i1, r0, r1, m1, t1, d1, e01, e10, List.length_replicate, -List.reduceReplicate]
theorem own_k20 (p cap mask a b : Int32) (sq : List Int32) (l8 : sq.length = 8) (i0 : inb 8 (p &&& mask) = true) (i1 : inb 8 ((p + 1) &&& mask) = true) (ne : ¬ (p &&& mask) = ((p + 1) &&& mask)) (r0 : rd sq (p &&& mask) = p) (r1 : rd sq ((p + 1) &&& mask) = p + 1) (m1 : p - (p + 1) = -1) (t1 : ¬ p + 1 = p) (d1 : p + 1 + 1 - (p + 1) = 1) (hc : 0 < cap) : j_doStep (Q.mk (wr (wr sq (p &&& mask) (p + 1)) (p &&& mask) (p + cap)) (wr (List.replicate 8 0) (p &&& mask) a) [15, 0, 0, 0] [p + 1, p, 0, 0] [b, a, 0, 0] [1, 1, 0, 0] [0, a, 0, 0] (List.replicate 4 0) (1 :: 2 :: 3 :: 3 :: 1 :: 0 :: List.replicate 58 0) (0 :: 1 :: 0 :: 1 :: 0 :: 0 :: List.replicate 58 0) (a :: 0 :: 0 :: a :: b :: 0 :: List.replicate 58 0) (List.replicate 8 0) [0, 0, 0, 0, 0, 0] [0, 0, 0, 0, 0, 0] [0, 0, 0, 0, 0, 0] [0, 0, 0, 0, 0, 0] [0, 0, 0, 0, 0, 0] [0, 0, 0, 0, 0, 0] [0, 0, 0, 0, 0, 0] [0, 0, 0, 0] (List.replicate 56 0) [0, 0, 0, 0, 0, 0, 0] [0, 0, 0, 0, 0, 0, 0] [0, 0, 0, 0, 0, 0, 0] 2 cap mask (p + 1) (p + 1 + 1) 5 0 0 0) 0 = some (0, (Q.mk (wr (wr sq (p &&& mask) (p + 1)) (p &&& mask) (p + cap)) (wr (wr (List.replicate 8 0) (p &&& mask) a) ((p + 1) &&& mask) b) [16, 0, 0, 0] [p + 1, p, 0, 0] [b, a, 0, 0] [1, 1, 0, 0] [0, a, 0, 0] (List.replicate 4 0) (1 :: 2 :: 3 :: 3 :: 1 :: 0 :: List.replicate 58 0) (0 :: 1 :: 0 :: 1 :: 0 :: 0 :: List.replicate 58 0) (a :: 0 :: 0 :: a :: b :: 0 :: List.replicate 58 0) (List.replicate 8 0) [0, 0, 0, 0, 0, 0] [0, 0, 0, 0, 0, 0] [0, 0, 0, 0, 0, 0] [0, 0, 0, 0, 0, 0] [0, 0, 0, 0, 0, 0] [0, 0, 0, 0, 0, 0] [0, 0, 0, 0, 0, 0] [0, 0, 0, 0] (List.replicate 56 0) [0, 0, 0, 0, 0, 0, 0] [0, 0, 0, 0, 0, 0, 0] [0, 0, 0, 0, 0, 0, 0] 2 cap mask (p + 1) (p + 1 + 1) 5 0 0 0)) := by
  have e01 : ∀ (xs : List Int32) (v : Int32), rd (wr xs (p &&& mask) v) ((p + 1) &&& mask) = rd xs ((p + 1) &&& mask) := fun xs v => rd_wr_ne (inb_nn i0) (inb_nn i1) ne v
  have e10 : ∀ (xs : List Int32) (v : Int32), rd (wr xs ((p + 1) &&& mask) v) (p &&& mask) = rd xs (p &&& mask) := fun xs v => rd_wr_ne (inb_nn i1) (inb_nn i0) (fun e => ne e.symm) v
  simp [j_doStep, j_doStep_b26, j_enqStep, j_enqStep_b114, j_deqStep, j_deqStep_b116, j_finish, j_append, j_resKind, j_startEnqueue, j_startDequeue, j_valid, j_hasRoom, j_pending, j_pending_l4, j_pending_b29, own_Qa, own_in_4_0, own_in_4_1, own_in_4_2, own_in_4_3, own_in_64_0, own_in_64_1, own_in_64_2, own_in_64_3, own_in_64_4, own_in_64_5, own_in_6_0, own_in_6_1, own_in_6_2, own_in_6_3, own_in_6_4, own_in_6_5, own_in_7_0, own_in_7_1, own_in_7_2, own_in_7_3, own_in_56_0, own_in_56_8, own_in_56_16, own_in_56_24, own_an_0_0, own_an_0_1, own_an_1_1, own_an_1_2, own_an_3_1, own_an_3_2, own_an_3_4, own_an_0_3, own_an_3_3, own_an_1_7, own_an_3_7, own_an_7_7, own_an_1_0, own_an_3_0, own_x0, own_x1, own_x2, own_x3, own_x4, own_x5, own_y0, own_y1, own_y2, own_y3, own_y4, own_y5, own_ll64, own_ll4, own_ll6, own_ll7, rd_wr_same, len_wr, l8, i0, i1, r0, r1, m1, t1, d1, e01, e10, List.length_replicate, -List.reduceReplicate]
theorem own_k21 (p cap mask a b : Int32) (sq : List Int32) (l8 : sq.length = 8) (i0 : inb 8 (p &&& mask) = true) (i1 : inb 8 ((p + 1) &&& mask) = true) (ne : ¬ (p &&& mask) = ((p + 1) &&& mask)) (r0 : rd sq (p &&& mask) = p) (r1 : rd sq ((p + 1) &&& mask) = p + 1) (m1 : p - (p + 1) = -1) (t1 : ¬ p + 1 = p) (d1 : p + 1 + 1 - (p + 1) = 1) (hc : 0 < cap) : j_doStep (Q.mk (wr (wr sq (p &&& mask) (p + 1)) (p &&& mask) (p + cap)) (wr (wr (List.replicate 8 0) (p &&& mask) a) ((p + 1) &&& mask) b) [16, 0, 0, 0] [p + 1, p, 0, 0] [b, a, 0, 0] [1, 1, 0, 0] [0, a, 0, 0] (List.replicate 4 0) (1 :: 2 :: 3 :: 3 :: 1 :: 0 :: List.replicate 58 0) (0 :: 1 :: 0 :: 1 :: 0 :: 0 :: List.replicate 58 0) (a :: 0 :: 0 :: a :: b :: 0 :: List.replicate 58 0) (List.replicate 8 0) [0, 0, 0, 0, 0, 0] [0, 0, 0, 0, 0, 0] [0, 0, 0, 0, 0, 0] [0, 0, 0, 0, 0, 0] [0, 0, 0, 0, 0, 0] [0, 0, 0, 0, 0, 0] [0, 0, 0, 0, 0, 0] [0, 0, 0, 0] (List.replicate 56 0) [0, 0, 0, 0, 0, 0, 0] [0, 0, 0, 0, 0, 0, 0] [0, 0, 0, 0, 0, 0, 0] 2 cap mask (p + 1) (p + 1 + 1) 5 0 0 0) 0 = some (1, (Q.mk (wr (wr (wr sq (p &&& mask) (p + 1)) (p &&& mask) (p + cap)) ((p + 1) &&& mask) (p + 1 + 1)) (wr (wr (List.replicate 8 0) (p &&& mask) a) ((p + 1) &&& mask) b) [0, 0, 0, 0] [p + 1, p, 0, 0] [b, a, 0, 0] [1, 1, 0, 0] [0, a, 0, 0] (List.replicate 4 0) (1 :: 2 :: 3 :: 3 :: 1 :: 3 :: List.replicate 58 0) (0 :: 1 :: 0 :: 1 :: 0 :: 0 :: List.replicate 58 0) (a :: 0 :: 0 :: a :: b :: 0 :: List.replicate 58 0) (List.replicate 8 0) [0, 0, 0, 0, 0, 0] [0, 0, 0, 0, 0, 0] [0, 0, 0, 0, 0, 0] [0, 0, 0, 0, 0, 0] [0, 0, 0, 0, 0, 0] [0, 0, 0, 0, 0, 0] [0, 0, 0, 0, 0, 0] [0, 0, 0, 0] (List.replicate 56 0) [0, 0, 0, 0, 0, 0, 0] [0, 0, 0, 0, 0, 0, 0] [0, 0, 0, 0, 0, 0, 0] 2 cap mask (p + 1) (p + 1 + 1) 6 0 0 0)) := by
  have e01 : ∀ (xs : List Int32) (v : Int32), rd (wr xs (p &&& mask) v) ((p + 1) &&& mask) = rd xs ((p + 1) &&& mask) := fun xs v => rd_wr_ne (inb_nn i0) (inb_nn i1) ne v
  have e10 : ∀ (xs : List Int32) (v : Int32), rd (wr xs ((p + 1) &&& mask) v) (p &&& mask) = rd xs (p &&& mask) := fun xs v => rd_wr_ne (inb_nn i1) (inb_nn i0) (fun e => ne e.symm) v
  simp [j_doStep, j_doStep_b26, j_enqStep, j_enqStep_b114, j_deqStep, j_deqStep_b116, j_finish, j_append, j_resKind, j_startEnqueue, j_startDequeue, j_valid, j_hasRoom, j_pending, j_pending_l4, j_pending_b29, own_Qa, own_in_4_0, own_in_4_1, own_in_4_2, own_in_4_3, own_in_64_0, own_in_64_1, own_in_64_2, own_in_64_3, own_in_64_4, own_in_64_5, own_in_6_0, own_in_6_1, own_in_6_2, own_in_6_3, own_in_6_4, own_in_6_5, own_in_7_0, own_in_7_1, own_in_7_2, own_in_7_3, own_in_56_0, own_in_56_8, own_in_56_16, own_in_56_24, own_an_0_0, own_an_0_1, own_an_1_1, own_an_1_2, own_an_3_1, own_an_3_2, own_an_3_4, own_an_0_3, own_an_3_3, own_an_1_7, own_an_3_7, own_an_7_7, own_an_1_0, own_an_3_0, own_x0, own_x1, own_x2, own_x3, own_x4, own_x5, own_y0, own_y1, own_y2, own_y3, own_y4, own_y5, own_ll64, own_ll4, own_ll6, own_ll7, rd_wr_same, len_wr, l8, i0, i1, r0, r1, m1, t1, d1, e01, e10, List.length_replicate, -List.reduceReplicate]
theorem own_cI (p cap mask a b : Int32) (sq : List Int32) : j_countInvocations (Q.mk (wr (wr (wr sq (p &&& mask) (p + 1)) (p &&& mask) (p + cap)) ((p + 1) &&& mask) (p + 1 + 1)) (wr (wr (List.replicate 8 0) (p &&& mask) a) ((p + 1) &&& mask) b) [0, 0, 0, 0] [p + 1, p, 0, 0] [b, a, 0, 0] [1, 1, 0, 0] [0, a, 0, 0] (List.replicate 4 0) (1 :: 2 :: 3 :: 3 :: 1 :: 3 :: List.replicate 58 0) (0 :: 1 :: 0 :: 1 :: 0 :: 0 :: List.replicate 58 0) (a :: 0 :: 0 :: a :: b :: 0 :: List.replicate 58 0) (List.replicate 8 0) [0, 0, 0, 0, 0, 0] [0, 0, 0, 0, 0, 0] [0, 0, 0, 0, 0, 0] [0, 0, 0, 0, 0, 0] [0, 0, 0, 0, 0, 0] [0, 0, 0, 0, 0, 0] [0, 0, 0, 0, 0, 0] [0, 0, 0, 0] (List.replicate 56 0) [0, 0, 0, 0, 0, 0, 0] [0, 0, 0, 0, 0, 0, 0] [0, 0, 0, 0, 0, 0, 0] 2 cap mask (p + 1) (p + 1 + 1) 6 0 0 0) = some 3 := by
  simp [j_countInvocations, j_countInvocations_l4, j_countInvocations_b38, j_countInvocations_b41, own_Qa, own_in_4_0, own_in_4_1, own_in_4_2, own_in_4_3, own_in_64_0, own_in_64_1, own_in_64_2, own_in_64_3, own_in_64_4, own_in_64_5, own_in_6_0, own_in_6_1, own_in_6_2, own_in_6_3, own_in_6_4, own_in_6_5, own_in_7_0, own_in_7_1, own_in_7_2, own_in_7_3, own_in_56_0, own_in_56_8, own_in_56_16, own_in_56_24, own_an_0_0, own_an_0_1, own_an_1_1, own_an_1_2, own_an_3_1, own_an_3_2, own_an_3_4, own_an_0_3, own_an_3_3, own_an_1_7, own_an_3_7, own_an_7_7, own_an_1_0, own_an_3_0, own_x0, own_x1, own_x2, own_x3, own_x4, own_x5, own_y0, own_y1, own_y2, own_y3, own_y4, own_y5, own_ll64, own_ll4, own_ll6, own_ll7, -List.reduceReplicate]
theorem own_pa0 (p cap mask a b : Int32) (sq : List Int32) (n : Nat) : j_parseOps_l7 (n + 1) (Q.mk (wr (wr (wr sq (p &&& mask) (p + 1)) (p &&& mask) (p + cap)) ((p + 1) &&& mask) (p + 1 + 1)) (wr (wr (List.replicate 8 0) (p &&& mask) a) ((p + 1) &&& mask) b) [0, 0, 0, 0] [p + 1, p, 0, 0] [b, a, 0, 0] [1, 1, 0, 0] [0, a, 0, 0] (List.replicate 4 0) (1 :: 2 :: 3 :: 3 :: 1 :: 3 :: List.replicate 58 0) (0 :: 1 :: 0 :: 1 :: 0 :: 0 :: List.replicate 58 0) (a :: 0 :: 0 :: a :: b :: 0 :: List.replicate 58 0) (List.replicate 8 0) [0, 0, 0, 0, 0, 0] [0, 0, 0, 0, 0, 0] [0, 0, 0, 0, 0, 0] [0, 0, 0, 0, 0, 0] [0, 0, 0, 0, 0, 0] [0, 0, 0, 0, 0, 0] [0, 0, 0, 0, 0, 0] [0, 0, 0, 0] (List.replicate 56 0) [0, 0, 0, 0, 0, 0, 0] [0, 0, 0, 0, 0, 0, 0] [0, 0, 0, 0, 0, 0, 0] 2 cap mask (p + 1) (p + 1 + 1) 6 0 0 0) 0 = j_parseOps_l7 n (Q.mk (wr (wr (wr sq (p &&& mask) (p + 1)) (p &&& mask) (p + cap)) ((p + 1) &&& mask) (p + 1 + 1)) (wr (wr (List.replicate 8 0) (p &&& mask) a) ((p + 1) &&& mask) b) [0, 0, 0, 0] [p + 1, p, 0, 0] [b, a, 0, 0] [1, 1, 0, 0] [0, a, 0, 0] (List.replicate 4 0) (1 :: 2 :: 3 :: 3 :: 1 :: 3 :: List.replicate 58 0) (0 :: 1 :: 0 :: 1 :: 0 :: 0 :: List.replicate 58 0) (a :: 0 :: 0 :: a :: b :: 0 :: List.replicate 58 0) (List.replicate 8 0) [0, 0, 0, 0, 0, 0] [0, 0, 0, 0, 0, 0] [0, 0, 0, 0, 0, 0] [0, 0, 0, 0, 0, 0] [0, 0, 0, 0, 0, 0] [0, 0, 0, 0, 0, 0] [0, 0, 0, 0, 0, 0] [-1, 0, 0, 0] (List.replicate 56 0) [0, 0, 0, 0, 0, 0, 0] [0, 0, 0, 0, 0, 0, 0] [0, 0, 0, 0, 0, 0, 0] 2 cap mask (p + 1) (p + 1 + 1) 6 0 0 0) 1 := by
  rw [j_parseOps_l7]
  simp [j_parseOps_b80, j_parseOps_b95, j_addOp, j_addOp_b42, j_closeOp, j_closeOp_b59, own_Qa, own_in_4_0, own_in_4_1, own_in_4_2, own_in_4_3, own_in_64_0, own_in_64_1, own_in_64_2, own_in_64_3, own_in_64_4, own_in_64_5, own_in_6_0, own_in_6_1, own_in_6_2, own_in_6_3, own_in_6_4, own_in_6_5, own_in_7_0, own_in_7_1, own_in_7_2, own_in_7_3, own_in_56_0, own_in_56_8, own_in_56_16, own_in_56_24, own_an_0_0, own_an_0_1, own_an_1_1, own_an_1_2, own_an_3_1, own_an_3_2, own_an_3_4, own_an_0_3, own_an_3_3, own_an_1_7, own_an_3_7, own_an_7_7, own_an_1_0, own_an_3_0, own_x0, own_x1, own_x2, own_x3, own_x4, own_x5, own_y0, own_y1, own_y2, own_y3, own_y4, own_y5, own_ll64, own_ll4, own_ll6, own_ll7, -List.reduceReplicate]
theorem own_pa1 (p cap mask a b : Int32) (sq : List Int32) (n : Nat) : j_parseOps_l7 (n + 1) (Q.mk (wr (wr (wr sq (p &&& mask) (p + 1)) (p &&& mask) (p + cap)) ((p + 1) &&& mask) (p + 1 + 1)) (wr (wr (List.replicate 8 0) (p &&& mask) a) ((p + 1) &&& mask) b) [0, 0, 0, 0] [p + 1, p, 0, 0] [b, a, 0, 0] [1, 1, 0, 0] [0, a, 0, 0] (List.replicate 4 0) (1 :: 2 :: 3 :: 3 :: 1 :: 3 :: List.replicate 58 0) (0 :: 1 :: 0 :: 1 :: 0 :: 0 :: List.replicate 58 0) (a :: 0 :: 0 :: a :: b :: 0 :: List.replicate 58 0) (List.replicate 8 0) [0, 0, 0, 0, 0, 0] [0, 0, 0, 0, 0, 0] [0, 0, 0, 0, 0, 0] [0, 0, 0, 0, 0, 0] [0, 0, 0, 0, 0, 0] [0, 0, 0, 0, 0, 0] [0, 0, 0, 0, 0, 0] [-1, 0, 0, 0] (List.replicate 56 0) [0, 0, 0, 0, 0, 0, 0] [0, 0, 0, 0, 0, 0, 0] [0, 0, 0, 0, 0, 0, 0] 2 cap mask (p + 1) (p + 1 + 1) 6 0 0 0) 1 = j_parseOps_l7 n (Q.mk (wr (wr (wr sq (p &&& mask) (p + 1)) (p &&& mask) (p + cap)) ((p + 1) &&& mask) (p + 1 + 1)) (wr (wr (List.replicate 8 0) (p &&& mask) a) ((p + 1) &&& mask) b) [0, 0, 0, 0] [p + 1, p, 0, 0] [b, a, 0, 0] [1, 1, 0, 0] [0, a, 0, 0] (List.replicate 4 0) (1 :: 2 :: 3 :: 3 :: 1 :: 3 :: List.replicate 58 0) (0 :: 1 :: 0 :: 1 :: 0 :: 0 :: List.replicate 58 0) (a :: 0 :: 0 :: a :: b :: 0 :: List.replicate 58 0) (List.replicate 8 0) [0, 0, 0, 0, 0, 0] [0, 0, 0, 0, 0, 0] [0, 0, 0, 0, 0, 0] [0, 0, 0, 0, 0, 0] [0, 0, 0, 0, 0, 0] [0, 0, 0, 0, 0, 0] [0, 0, 0, 0, 0, 0] [-1, -1, 0, 0] (List.replicate 56 0) [0, 0, 0, 0, 0, 0, 0] [0, 0, 0, 0, 0, 0, 0] [0, 0, 0, 0, 0, 0, 0] 2 cap mask (p + 1) (p + 1 + 1) 6 0 0 0) 2 := by
  rw [j_parseOps_l7]
  simp [j_parseOps_b80, j_parseOps_b95, j_addOp, j_addOp_b42, j_closeOp, j_closeOp_b59, own_Qa, own_in_4_0, own_in_4_1, own_in_4_2, own_in_4_3, own_in_64_0, own_in_64_1, own_in_64_2, own_in_64_3, own_in_64_4, own_in_64_5, own_in_6_0, own_in_6_1, own_in_6_2, own_in_6_3, own_in_6_4, own_in_6_5, own_in_7_0, own_in_7_1, own_in_7_2, own_in_7_3, own_in_56_0, own_in_56_8, own_in_56_16, own_in_56_24, own_an_0_0, own_an_0_1, own_an_1_1, own_an_1_2, own_an_3_1, own_an_3_2, own_an_3_4, own_an_0_3, own_an_3_3, own_an_1_7, own_an_3_7, own_an_7_7, own_an_1_0, own_an_3_0, own_x0, own_x1, own_x2, own_x3, own_x4, own_x5, own_y0, own_y1, own_y2, own_y3, own_y4, own_y5, own_ll64, own_ll4, own_ll6, own_ll7, -List.reduceReplicate]
theorem own_pa2 (p cap mask a b : Int32) (sq : List Int32) (n : Nat) : j_parseOps_l7 (n + 1) (Q.mk (wr (wr (wr sq (p &&& mask) (p + 1)) (p &&& mask) (p + cap)) ((p + 1) &&& mask) (p + 1 + 1)) (wr (wr (List.replicate 8 0) (p &&& mask) a) ((p + 1) &&& mask) b) [0, 0, 0, 0] [p + 1, p, 0, 0] [b, a, 0, 0] [1, 1, 0, 0] [0, a, 0, 0] (List.replicate 4 0) (1 :: 2 :: 3 :: 3 :: 1 :: 3 :: List.replicate 58 0) (0 :: 1 :: 0 :: 1 :: 0 :: 0 :: List.replicate 58 0) (a :: 0 :: 0 :: a :: b :: 0 :: List.replicate 58 0) (List.replicate 8 0) [0, 0, 0, 0, 0, 0] [0, 0, 0, 0, 0, 0] [0, 0, 0, 0, 0, 0] [0, 0, 0, 0, 0, 0] [0, 0, 0, 0, 0, 0] [0, 0, 0, 0, 0, 0] [0, 0, 0, 0, 0, 0] [-1, -1, 0, 0] (List.replicate 56 0) [0, 0, 0, 0, 0, 0, 0] [0, 0, 0, 0, 0, 0, 0] [0, 0, 0, 0, 0, 0, 0] 2 cap mask (p + 1) (p + 1 + 1) 6 0 0 0) 2 = j_parseOps_l7 n (Q.mk (wr (wr (wr sq (p &&& mask) (p + 1)) (p &&& mask) (p + cap)) ((p + 1) &&& mask) (p + 1 + 1)) (wr (wr (List.replicate 8 0) (p &&& mask) a) ((p + 1) &&& mask) b) [0, 0, 0, 0] [p + 1, p, 0, 0] [b, a, 0, 0] [1, 1, 0, 0] [0, a, 0, 0] (List.replicate 4 0) (1 :: 2 :: 3 :: 3 :: 1 :: 3 :: List.replicate 58 0) (0 :: 1 :: 0 :: 1 :: 0 :: 0 :: List.replicate 58 0) (a :: 0 :: 0 :: a :: b :: 0 :: List.replicate 58 0) (List.replicate 8 0) [0, 0, 0, 0, 0, 0] [0, 0, 0, 0, 0, 0] [0, 0, 0, 0, 0, 0] [0, 0, 0, 0, 0, 0] [0, 0, 0, 0, 0, 0] [0, 0, 0, 0, 0, 0] [0, 0, 0, 0, 0, 0] [-1, -1, -1, 0] (List.replicate 56 0) [0, 0, 0, 0, 0, 0, 0] [0, 0, 0, 0, 0, 0, 0] [0, 0, 0, 0, 0, 0, 0] 2 cap mask (p + 1) (p + 1 + 1) 6 0 0 0) 3 := by
  rw [j_parseOps_l7]
  simp [j_parseOps_b80, j_parseOps_b95, j_addOp, j_addOp_b42, j_closeOp, j_closeOp_b59, own_Qa, own_in_4_0, own_in_4_1, own_in_4_2, own_in_4_3, own_in_64_0, own_in_64_1, own_in_64_2, own_in_64_3, own_in_64_4, own_in_64_5, own_in_6_0, own_in_6_1, own_in_6_2, own_in_6_3, own_in_6_4, own_in_6_5, own_in_7_0, own_in_7_1, own_in_7_2, own_in_7_3, own_in_56_0, own_in_56_8, own_in_56_16, own_in_56_24, own_an_0_0, own_an_0_1, own_an_1_1, own_an_1_2, own_an_3_1, own_an_3_2, own_an_3_4, own_an_0_3, own_an_3_3, own_an_1_7, own_an_3_7, own_an_7_7, own_an_1_0, own_an_3_0, own_x0, own_x1, own_x2, own_x3, own_x4, own_x5, own_y0, own_y1, own_y2, own_y3, own_y4, own_y5, own_ll64, own_ll4, own_ll6, own_ll7, -List.reduceReplicate]
theorem own_pa3 (p cap mask a b : Int32) (sq : List Int32) (n : Nat) : j_parseOps_l7 (n + 1) (Q.mk (wr (wr (wr sq (p &&& mask) (p + 1)) (p &&& mask) (p + cap)) ((p + 1) &&& mask) (p + 1 + 1)) (wr (wr (List.replicate 8 0) (p &&& mask) a) ((p + 1) &&& mask) b) [0, 0, 0, 0] [p + 1, p, 0, 0] [b, a, 0, 0] [1, 1, 0, 0] [0, a, 0, 0] (List.replicate 4 0) (1 :: 2 :: 3 :: 3 :: 1 :: 3 :: List.replicate 58 0) (0 :: 1 :: 0 :: 1 :: 0 :: 0 :: List.replicate 58 0) (a :: 0 :: 0 :: a :: b :: 0 :: List.replicate 58 0) (List.replicate 8 0) [0, 0, 0, 0, 0, 0] [0, 0, 0, 0, 0, 0] [0, 0, 0, 0, 0, 0] [0, 0, 0, 0, 0, 0] [0, 0, 0, 0, 0, 0] [0, 0, 0, 0, 0, 0] [0, 0, 0, 0, 0, 0] [-1, -1, -1, 0] (List.replicate 56 0) [0, 0, 0, 0, 0, 0, 0] [0, 0, 0, 0, 0, 0, 0] [0, 0, 0, 0, 0, 0, 0] 2 cap mask (p + 1) (p + 1 + 1) 6 0 0 0) 3 = j_parseOps_l7 n (Q.mk (wr (wr (wr sq (p &&& mask) (p + 1)) (p &&& mask) (p + cap)) ((p + 1) &&& mask) (p + 1 + 1)) (wr (wr (List.replicate 8 0) (p &&& mask) a) ((p + 1) &&& mask) b) [0, 0, 0, 0] [p + 1, p, 0, 0] [b, a, 0, 0] [1, 1, 0, 0] [0, a, 0, 0] (List.replicate 4 0) (1 :: 2 :: 3 :: 3 :: 1 :: 3 :: List.replicate 58 0) (0 :: 1 :: 0 :: 1 :: 0 :: 0 :: List.replicate 58 0) (a :: 0 :: 0 :: a :: b :: 0 :: List.replicate 58 0) (List.replicate 8 0) [0, 0, 0, 0, 0, 0] [0, 0, 0, 0, 0, 0] [0, 0, 0, 0, 0, 0] [0, 0, 0, 0, 0, 0] [0, 0, 0, 0, 0, 0] [0, 0, 0, 0, 0, 0] [0, 0, 0, 0, 0, 0] [-1, -1, -1, -1] (List.replicate 56 0) [0, 0, 0, 0, 0, 0, 0] [0, 0, 0, 0, 0, 0, 0] [0, 0, 0, 0, 0, 0, 0] 2 cap mask (p + 1) (p + 1 + 1) 6 0 0 0) 4 := by
  rw [j_parseOps_l7]
  simp [j_parseOps_b80, j_parseOps_b95, j_addOp, j_addOp_b42, j_closeOp, j_closeOp_b59, own_Qa, own_in_4_0, own_in_4_1, own_in_4_2, own_in_4_3, own_in_64_0, own_in_64_1, own_in_64_2, own_in_64_3, own_in_64_4, own_in_64_5, own_in_6_0, own_in_6_1, own_in_6_2, own_in_6_3, own_in_6_4, own_in_6_5, own_in_7_0, own_in_7_1, own_in_7_2, own_in_7_3, own_in_56_0, own_in_56_8, own_in_56_16, own_in_56_24, own_an_0_0, own_an_0_1, own_an_1_1, own_an_1_2, own_an_3_1, own_an_3_2, own_an_3_4, own_an_0_3, own_an_3_3, own_an_1_7, own_an_3_7, own_an_7_7, own_an_1_0, own_an_3_0, own_x0, own_x1, own_x2, own_x3, own_x4, own_x5, own_y0, own_y1, own_y2, own_y3, own_y4, own_y5, own_ll64, own_ll4, own_ll6, own_ll7, -List.reduceReplicate]
theorem own_pa4 (p cap mask a b : Int32) (sq : List Int32) (n : Nat) : j_parseOps_l7 (n + 1) (Q.mk (wr (wr (wr sq (p &&& mask) (p + 1)) (p &&& mask) (p + cap)) ((p + 1) &&& mask) (p + 1 + 1)) (wr (wr (List.replicate 8 0) (p &&& mask) a) ((p + 1) &&& mask) b) [0, 0, 0, 0] [p + 1, p, 0, 0] [b, a, 0, 0] [1, 1, 0, 0] [0, a, 0, 0] (List.replicate 4 0) (1 :: 2 :: 3 :: 3 :: 1 :: 3 :: List.replicate 58 0) (0 :: 1 :: 0 :: 1 :: 0 :: 0 :: List.replicate 58 0) (a :: 0 :: 0 :: a :: b :: 0 :: List.replicate 58 0) (List.replicate 8 0) [0, 0, 0, 0, 0, 0] [0, 0, 0, 0, 0, 0] [0, 0, 0, 0, 0, 0] [0, 0, 0, 0, 0, 0] [0, 0, 0, 0, 0, 0] [0, 0, 0, 0, 0, 0] [0, 0, 0, 0, 0, 0] [-1, -1, -1, -1] (List.replicate 56 0) [0, 0, 0, 0, 0, 0, 0] [0, 0, 0, 0, 0, 0, 0] [0, 0, 0, 0, 0, 0, 0] 2 cap mask (p + 1) (p + 1 + 1) 6 0 0 0) 4 = some (Q.mk (wr (wr (wr sq (p &&& mask) (p + 1)) (p &&& mask) (p + cap)) ((p + 1) &&& mask) (p + 1 + 1)) (wr (wr (List.replicate 8 0) (p &&& mask) a) ((p + 1) &&& mask) b) [0, 0, 0, 0] [p + 1, p, 0, 0] [b, a, 0, 0] [1, 1, 0, 0] [0, a, 0, 0] (List.replicate 4 0) (1 :: 2 :: 3 :: 3 :: 1 :: 3 :: List.replicate 58 0) (0 :: 1 :: 0 :: 1 :: 0 :: 0 :: List.replicate 58 0) (a :: 0 :: 0 :: a :: b :: 0 :: List.replicate 58 0) (List.replicate 8 0) [0, 0, 0, 0, 0, 0] [0, 0, 0, 0, 0, 0] [0, 0, 0, 0, 0, 0] [0, 0, 0, 0, 0, 0] [0, 0, 0, 0, 0, 0] [0, 0, 0, 0, 0, 0] [0, 0, 0, 0, 0, 0] [-1, -1, -1, -1] (List.replicate 56 0) [0, 0, 0, 0, 0, 0, 0] [0, 0, 0, 0, 0, 0, 0] [0, 0, 0, 0, 0, 0, 0] 2 cap mask (p + 1) (p + 1 + 1) 6 0 0 0) := by
  rw [j_parseOps_l7]
  simp [j_parseOps_b80, j_parseOps_b95, j_addOp, j_addOp_b42, j_closeOp, j_closeOp_b59, own_Qa, own_in_4_0, own_in_4_1, own_in_4_2, own_in_4_3, own_in_64_0, own_in_64_1, own_in_64_2, own_in_64_3, own_in_64_4, own_in_64_5, own_in_6_0, own_in_6_1, own_in_6_2, own_in_6_3, own_in_6_4, own_in_6_5, own_in_7_0, own_in_7_1, own_in_7_2, own_in_7_3, own_in_56_0, own_in_56_8, own_in_56_16, own_in_56_24, own_an_0_0, own_an_0_1, own_an_1_1, own_an_1_2, own_an_3_1, own_an_3_2, own_an_3_4, own_an_0_3, own_an_3_3, own_an_1_7, own_an_3_7, own_an_7_7, own_an_1_0, own_an_3_0, own_x0, own_x1, own_x2, own_x3, own_x4, own_x5, own_y0, own_y1, own_y2, own_y3, own_y4, own_y5, own_ll64, own_ll4, own_ll6, own_ll7, -List.reduceReplicate]
theorem own_pb0 (p cap mask a b : Int32) (sq : List Int32) (n : Nat) : j_parseOps_l27 (n + 1) (Q.mk (wr (wr (wr sq (p &&& mask) (p + 1)) (p &&& mask) (p + cap)) ((p + 1) &&& mask) (p + 1 + 1)) (wr (wr (List.replicate 8 0) (p &&& mask) a) ((p + 1) &&& mask) b) [0, 0, 0, 0] [p + 1, p, 0, 0] [b, a, 0, 0] [1, 1, 0, 0] [0, a, 0, 0] (List.replicate 4 0) (1 :: 2 :: 3 :: 3 :: 1 :: 3 :: List.replicate 58 0) (0 :: 1 :: 0 :: 1 :: 0 :: 0 :: List.replicate 58 0) (a :: 0 :: 0 :: a :: b :: 0 :: List.replicate 58 0) (List.replicate 8 0) [0, 0, 0, 0, 0, 0] [0, 0, 0, 0, 0, 0] [0, 0, 0, 0, 0, 0] [0, 0, 0, 0, 0, 0] [0, 0, 0, 0, 0, 0] [0, 0, 0, 0, 0, 0] [0, 0, 0, 0, 0, 0] [-1, -1, -1, -1] (List.replicate 56 0) [0, 0, 0, 0, 0, 0, 0] [0, 0, 0, 0, 0, 0, 0] [0, 0, 0, 0, 0, 0, 0] 2 cap mask (p + 1) (p + 1 + 1) 6 0 0 0) 0 = j_parseOps_l27 n (Q.mk (wr (wr (wr sq (p &&& mask) (p + 1)) (p &&& mask) (p + cap)) ((p + 1) &&& mask) (p + 1 + 1)) (wr (wr (List.replicate 8 0) (p &&& mask) a) ((p + 1) &&& mask) b) [0, 0, 0, 0] [p + 1, p, 0, 0] [b, a, 0, 0] [1, 1, 0, 0] [0, a, 0, 0] (List.replicate 4 0) (1 :: 2 :: 3 :: 3 :: 1 :: 3 :: List.replicate 58 0) (0 :: 1 :: 0 :: 1 :: 0 :: 0 :: List.replicate 58 0) (a :: 0 :: 0 :: a :: b :: 0 :: List.replicate 58 0) (List.replicate 8 0) [1, 0, 0, 0, 0, 0] [a, 0, 0, 0, 0, 0] [0, 0, 0, 0, 0, 0] [-1, 0, 0, 0, 0, 0] [0, 0, 0, 0, 0, 0] [0, 0, 0, 0, 0, 0] [0, 0, 0, 0, 0, 0] [0, -1, -1, -1] (List.replicate 56 0) [0, 0, 0, 0, 0, 0, 0] [0, 0, 0, 0, 0, 0, 0] [0, 0, 0, 0, 0, 0, 0] 2 cap mask (p + 1) (p + 1 + 1) 6 0 1 0) 1 := by
  rw [j_parseOps_l27]
  simp [j_parseOps_b80, j_parseOps_b95, j_addOp, j_addOp_b42, j_closeOp, j_closeOp_b59, own_Qa, own_in_4_0, own_in_4_1, own_in_4_2, own_in_4_3, own_in_64_0, own_in_64_1, own_in_64_2, own_in_64_3, own_in_64_4, own_in_64_5, own_in_6_0, own_in_6_1, own_in_6_2, own_in_6_3, own_in_6_4, own_in_6_5, own_in_7_0, own_in_7_1, own_in_7_2, own_in_7_3, own_in_56_0, own_in_56_8, own_in_56_16, own_in_56_24, own_an_0_0, own_an_0_1, own_an_1_1, own_an_1_2, own_an_3_1, own_an_3_2, own_an_3_4, own_an_0_3, own_an_3_3, own_an_1_7, own_an_3_7, own_an_7_7, own_an_1_0, own_an_3_0, own_x0, own_x1, own_x2, own_x3, own_x4, own_x5, own_y0, own_y1, own_y2, own_y3, own_y4, own_y5, own_ll64, own_ll4, own_ll6, own_ll7, -List.reduceReplicate]
theorem own_pb1 (p cap mask a b : Int32) (sq : List Int32) (n : Nat) : j_parseOps_l27 (n + 1) (Q.mk (wr (wr (wr sq (p &&& mask) (p + 1)) (p &&& mask) (p + cap)) ((p + 1) &&& mask) (p + 1 + 1)) (wr (wr (List.replicate 8 0) (p &&& mask) a) ((p + 1) &&& mask) b) [0, 0, 0, 0] [p + 1, p, 0, 0] [b, a, 0, 0] [1, 1, 0, 0] [0, a, 0, 0] (List.replicate 4 0) (1 :: 2 :: 3 :: 3 :: 1 :: 3 :: List.replicate 58 0) (0 :: 1 :: 0 :: 1 :: 0 :: 0 :: List.replicate 58 0) (a :: 0 :: 0 :: a :: b :: 0 :: List.replicate 58 0) (List.replicate 8 0) [1, 0, 0, 0, 0, 0] [a, 0, 0, 0, 0, 0] [0, 0, 0, 0, 0, 0] [-1, 0, 0, 0, 0, 0] [0, 0, 0, 0, 0, 0] [0, 0, 0, 0, 0, 0] [0, 0, 0, 0, 0, 0] [0, -1, -1, -1] (List.replicate 56 0) [0, 0, 0, 0, 0, 0, 0] [0, 0, 0, 0, 0, 0, 0] [0, 0, 0, 0, 0, 0, 0] 2 cap mask (p + 1) (p + 1 + 1) 6 0 1 0) 1 = j_parseOps_l27 n (Q.mk (wr (wr (wr sq (p &&& mask) (p + 1)) (p &&& mask) (p + cap)) ((p + 1) &&& mask) (p + 1 + 1)) (wr (wr (List.replicate 8 0) (p &&& mask) a) ((p + 1) &&& mask) b) [0, 0, 0, 0] [p + 1, p, 0, 0] [b, a, 0, 0] [1, 1, 0, 0] [0, a, 0, 0] (List.replicate 4 0) (1 :: 2 :: 3 :: 3 :: 1 :: 3 :: List.replicate 58 0) (0 :: 1 :: 0 :: 1 :: 0 :: 0 :: List.replicate 58 0) (a :: 0 :: 0 :: a :: b :: 0 :: List.replicate 58 0) (List.replicate 8 0) [1, 2, 0, 0, 0, 0] [a, 0, 0, 0, 0, 0] [0, 1, 0, 0, 0, 0] [-1, -1, 0, 0, 0, 0] [0, 0, 0, 0, 0, 0] [0, 0, 0, 0, 0, 0] [0, 0, 0, 0, 0, 0] [0, 1, -1, -1] (List.replicate 56 0) [0, 0, 0, 0, 0, 0, 0] [0, 0, 0, 0, 0, 0, 0] [0, 0, 0, 0, 0, 0, 0] 2 cap mask (p + 1) (p + 1 + 1) 6 0 2 0) 2 := by
  rw [j_parseOps_l27]
  simp [j_parseOps_b80, j_parseOps_b95, j_addOp, j_addOp_b42, j_closeOp, j_closeOp_b59, own_Qa, own_in_4_0, own_in_4_1, own_in_4_2, own_in_4_3, own_in_64_0, own_in_64_1, own_in_64_2, own_in_64_3, own_in_64_4, own_in_64_5, own_in_6_0, own_in_6_1, own_in_6_2, own_in_6_3, own_in_6_4, own_in_6_5, own_in_7_0, own_in_7_1, own_in_7_2, own_in_7_3, own_in_56_0, own_in_56_8, own_in_56_16, own_in_56_24, own_an_0_0, own_an_0_1, own_an_1_1, own_an_1_2, own_an_3_1, own_an_3_2, own_an_3_4, own_an_0_3, own_an_3_3, own_an_1_7, own_an_3_7, own_an_7_7, own_an_1_0, own_an_3_0, own_x0, own_x1, own_x2, own_x3, own_x4, own_x5, own_y0, own_y1, own_y2, own_y3, own_y4, own_y5, own_ll64, own_ll4, own_ll6, own_ll7, -List.reduceReplicate]
theorem own_pb2 (p cap mask a b : Int32) (sq : List Int32) (n : Nat) : j_parseOps_l27 (n + 1) (Q.mk (wr (wr (wr sq (p &&& mask) (p + 1)) (p &&& mask) (p + cap)) ((p + 1) &&& mask) (p + 1 + 1)) (wr (wr (List.replicate 8 0) (p &&& mask) a) ((p + 1) &&& mask) b) [0, 0, 0, 0] [p + 1, p, 0, 0] [b, a, 0, 0] [1, 1, 0, 0] [0, a, 0, 0] (List.replicate 4 0) (1 :: 2 :: 3 :: 3 :: 1 :: 3 :: List.replicate 58 0) (0 :: 1 :: 0 :: 1 :: 0 :: 0 :: List.replicate 58 0) (a :: 0 :: 0 :: a :: b :: 0 :: List.replicate 58 0) (List.replicate 8 0) [1, 2, 0, 0, 0, 0] [a, 0, 0, 0, 0, 0] [0, 1, 0, 0, 0, 0] [-1, -1, 0, 0, 0, 0] [0, 0, 0, 0, 0, 0] [0, 0, 0, 0, 0, 0] [0, 0, 0, 0, 0, 0] [0, 1, -1, -1] (List.replicate 56 0) [0, 0, 0, 0, 0, 0, 0] [0, 0, 0, 0, 0, 0, 0] [0, 0, 0, 0, 0, 0, 0] 2 cap mask (p + 1) (p + 1 + 1) 6 0 2 0) 2 = j_parseOps_l27 n (Q.mk (wr (wr (wr sq (p &&& mask) (p + 1)) (p &&& mask) (p + cap)) ((p + 1) &&& mask) (p + 1 + 1)) (wr (wr (List.replicate 8 0) (p &&& mask) a) ((p + 1) &&& mask) b) [0, 0, 0, 0] [p + 1, p, 0, 0] [b, a, 0, 0] [1, 1, 0, 0] [0, a, 0, 0] (List.replicate 4 0) (1 :: 2 :: 3 :: 3 :: 1 :: 3 :: List.replicate 58 0) (0 :: 1 :: 0 :: 1 :: 0 :: 0 :: List.replicate 58 0) (a :: 0 :: 0 :: a :: b :: 0 :: List.replicate 58 0) (List.replicate 8 0) [1, 2, 0, 0, 0, 0] [a, 0, 0, 0, 0, 0] [0, 1, 0, 0, 0, 0] [2, -1, 0, 0, 0, 0] [1, 0, 0, 0, 0, 0] [0, 0, 0, 0, 0, 0] [0, 0, 0, 0, 0, 0] [-1, 1, -1, -1] (List.replicate 56 0) [0, 0, 0, 0, 0, 0, 0] [0, 0, 0, 0, 0, 0, 0] [0, 0, 0, 0, 0, 0, 0] 2 cap mask (p + 1) (p + 1 + 1) 6 0 2 0) 3 := by
  rw [j_parseOps_l27]
  simp [j_parseOps_b80, j_parseOps_b95, j_addOp, j_addOp_b42, j_closeOp, j_closeOp_b59, own_Qa, own_in_4_0, own_in_4_1, own_in_4_2, own_in_4_3, own_in_64_0, own_in_64_1, own_in_64_2, own_in_64_3, own_in_64_4, own_in_64_5, own_in_6_0, own_in_6_1, own_in_6_2, own_in_6_3, own_in_6_4, own_in_6_5, own_in_7_0, own_in_7_1, own_in_7_2, own_in_7_3, own_in_56_0, own_in_56_8, own_in_56_16, own_in_56_24, own_an_0_0, own_an_0_1, own_an_1_1, own_an_1_2, own_an_3_1, own_an_3_2, own_an_3_4, own_an_0_3, own_an_3_3, own_an_1_7, own_an_3_7, own_an_7_7, own_an_1_0, own_an_3_0, own_x0, own_x1, own_x2, own_x3, own_x4, own_x5, own_y0, own_y1, own_y2, own_y3, own_y4, own_y5, own_ll64, own_ll4, own_ll6, own_ll7, -List.reduceReplicate]
theorem own_pb3 (p cap mask a b : Int32) (sq : List Int32) (n : Nat) : j_parseOps_l27 (n + 1) (Q.mk (wr (wr (wr sq (p &&& mask) (p + 1)) (p &&& mask) (p + cap)) ((p + 1) &&& mask) (p + 1 + 1)) (wr (wr (List.replicate 8 0) (p &&& mask) a) ((p + 1) &&& mask) b) [0, 0, 0, 0] [p + 1, p, 0, 0] [b, a, 0, 0] [1, 1, 0, 0] [0, a, 0, 0] (List.replicate 4 0) (1 :: 2 :: 3 :: 3 :: 1 :: 3 :: List.replicate 58 0) (0 :: 1 :: 0 :: 1 :: 0 :: 0 :: List.replicate 58 0) (a :: 0 :: 0 :: a :: b :: 0 :: List.replicate 58 0) (List.replicate 8 0) [1, 2, 0, 0, 0, 0] [a, 0, 0, 0, 0, 0] [0, 1, 0, 0, 0, 0] [2, -1, 0, 0, 0, 0] [1, 0, 0, 0, 0, 0] [0, 0, 0, 0, 0, 0] [0, 0, 0, 0, 0, 0] [-1, 1, -1, -1] (List.replicate 56 0) [0, 0, 0, 0, 0, 0, 0] [0, 0, 0, 0, 0, 0, 0] [0, 0, 0, 0, 0, 0, 0] 2 cap mask (p + 1) (p + 1 + 1) 6 0 2 0) 3 = j_parseOps_l27 n (Q.mk (wr (wr (wr sq (p &&& mask) (p + 1)) (p &&& mask) (p + cap)) ((p + 1) &&& mask) (p + 1 + 1)) (wr (wr (List.replicate 8 0) (p &&& mask) a) ((p + 1) &&& mask) b) [0, 0, 0, 0] [p + 1, p, 0, 0] [b, a, 0, 0] [1, 1, 0, 0] [0, a, 0, 0] (List.replicate 4 0) (1 :: 2 :: 3 :: 3 :: 1 :: 3 :: List.replicate 58 0) (0 :: 1 :: 0 :: 1 :: 0 :: 0 :: List.replicate 58 0) (a :: 0 :: 0 :: a :: b :: 0 :: List.replicate 58 0) (List.replicate 8 0) [1, 2, 0, 0, 0, 0] [a, 0, 0, 0, 0, 0] [0, 1, 0, 0, 0, 0] [2, 3, 0, 0, 0, 0] [1, 1, 0, 0, 0, 0] [0, a, 0, 0, 0, 0] [0, 0, 0, 0, 0, 0] [-1, -1, -1, -1] (List.replicate 56 0) [0, 0, 0, 0, 0, 0, 0] [0, 0, 0, 0, 0, 0, 0] [0, 0, 0, 0, 0, 0, 0] 2 cap mask (p + 1) (p + 1 + 1) 6 0 2 0) 4 := by
  rw [j_parseOps_l27]
  simp [j_parseOps_b80, j_parseOps_b95, j_addOp, j_addOp_b42, j_closeOp, j_closeOp_b59, own_Qa, own_in_4_0, own_in_4_1, own_in_4_2, own_in_4_3, own_in_64_0, own_in_64_1, own_in_64_2, own_in_64_3, own_in_64_4, own_in_64_5, own_in_6_0, own_in_6_1, own_in_6_2, own_in_6_3, own_in_6_4, own_in_6_5, own_in_7_0, own_in_7_1, own_in_7_2, own_in_7_3, own_in_56_0, own_in_56_8, own_in_56_16, own_in_56_24, own_an_0_0, own_an_0_1, own_an_1_1, own_an_1_2, own_an_3_1, own_an_3_2, own_an_3_4, own_an_0_3, own_an_3_3, own_an_1_7, own_an_3_7, own_an_7_7, own_an_1_0, own_an_3_0, own_x0, own_x1, own_x2, own_x3, own_x4, own_x5, own_y0, own_y1, own_y2, own_y3, own_y4, own_y5, own_ll64, own_ll4, own_ll6, own_ll7, -List.reduceReplicate]
theorem own_pb4 (p cap mask a b : Int32) (sq : List Int32) (n : Nat) : j_parseOps_l27 (n + 1) (Q.mk (wr (wr (wr sq (p &&& mask) (p + 1)) (p &&& mask) (p + cap)) ((p + 1) &&& mask) (p + 1 + 1)) (wr (wr (List.replicate 8 0) (p &&& mask) a) ((p + 1) &&& mask) b) [0, 0, 0, 0] [p + 1, p, 0, 0] [b, a, 0, 0] [1, 1, 0, 0] [0, a, 0, 0] (List.replicate 4 0) (1 :: 2 :: 3 :: 3 :: 1 :: 3 :: List.replicate 58 0) (0 :: 1 :: 0 :: 1 :: 0 :: 0 :: List.replicate 58 0) (a :: 0 :: 0 :: a :: b :: 0 :: List.replicate 58 0) (List.replicate 8 0) [1, 2, 0, 0, 0, 0] [a, 0, 0, 0, 0, 0] [0, 1, 0, 0, 0, 0] [2, 3, 0, 0, 0, 0] [1, 1, 0, 0, 0, 0] [0, a, 0, 0, 0, 0] [0, 0, 0, 0, 0, 0] [-1, -1, -1, -1] (List.replicate 56 0) [0, 0, 0, 0, 0, 0, 0] [0, 0, 0, 0, 0, 0, 0] [0, 0, 0, 0, 0, 0, 0] 2 cap mask (p + 1) (p + 1 + 1) 6 0 2 0) 4 = j_parseOps_l27 n (Q.mk (wr (wr (wr sq (p &&& mask) (p + 1)) (p &&& mask) (p + cap)) ((p + 1) &&& mask) (p + 1 + 1)) (wr (wr (List.replicate 8 0) (p &&& mask) a) ((p + 1) &&& mask) b) [0, 0, 0, 0] [p + 1, p, 0, 0] [b, a, 0, 0] [1, 1, 0, 0] [0, a, 0, 0] (List.replicate 4 0) (1 :: 2 :: 3 :: 3 :: 1 :: 3 :: List.replicate 58 0) (0 :: 1 :: 0 :: 1 :: 0 :: 0 :: List.replicate 58 0) (a :: 0 :: 0 :: a :: b :: 0 :: List.replicate 58 0) (List.replicate 8 0) [1, 2, 1, 0, 0, 0] [a, 0, b, 0, 0, 0] [0, 1, 4, 0, 0, 0] [2, 3, -1, 0, 0, 0] [1, 1, 0, 0, 0, 0] [0, a, 0, 0, 0, 0] [0, 0, 0, 0, 0, 0] [2, -1, -1, -1] (List.replicate 56 0) [0, 0, 0, 0, 0, 0, 0] [0, 0, 0, 0, 0, 0, 0] [0, 0, 0, 0, 0, 0, 0] 2 cap mask (p + 1) (p + 1 + 1) 6 0 3 0) 5 := by
  rw [j_parseOps_l27]
  simp [j_parseOps_b80, j_parseOps_b95, j_addOp, j_addOp_b42, j_closeOp, j_closeOp_b59, own_Qa, own_in_4_0, own_in_4_1, own_in_4_2, own_in_4_3, own_in_64_0, own_in_64_1, own_in_64_2, own_in_64_3, own_in_64_4, own_in_64_5, own_in_6_0, own_in_6_1, own_in_6_2, own_in_6_3, own_in_6_4, own_in_6_5, own_in_7_0, own_in_7_1, own_in_7_2, own_in_7_3, own_in_56_0, own_in_56_8, own_in_56_16, own_in_56_24, own_an_0_0, own_an_0_1, own_an_1_1, own_an_1_2, own_an_3_1, own_an_3_2, own_an_3_4, own_an_0_3, own_an_3_3, own_an_1_7, own_an_3_7, own_an_7_7, own_an_1_0, own_an_3_0, own_x0, own_x1, own_x2, own_x3, own_x4, own_x5, own_y0, own_y1, own_y2, own_y3, own_y4, own_y5, own_ll64, own_ll4, own_ll6, own_ll7, -List.reduceReplicate]
theorem own_pb5 (p cap mask a b : Int32) (sq : List Int32) (n : Nat) : j_parseOps_l27 (n + 1) (Q.mk (wr (wr (wr sq (p &&& mask) (p + 1)) (p &&& mask) (p + cap)) ((p + 1) &&& mask) (p + 1 + 1)) (wr (wr (List.replicate 8 0) (p &&& mask) a) ((p + 1) &&& mask) b) [0, 0, 0, 0] [p + 1, p, 0, 0] [b, a, 0, 0] [1, 1, 0, 0] [0, a, 0, 0] (List.replicate 4 0) (1 :: 2 :: 3 :: 3 :: 1 :: 3 :: List.replicate 58 0) (0 :: 1 :: 0 :: 1 :: 0 :: 0 :: List.replicate 58 0) (a :: 0 :: 0 :: a :: b :: 0 :: List.replicate 58 0) (List.replicate 8 0) [1, 2, 1, 0, 0, 0] [a, 0, b, 0, 0, 0] [0, 1, 4, 0, 0, 0] [2, 3, -1, 0, 0, 0] [1, 1, 0, 0, 0, 0] [0, a, 0, 0, 0, 0] [0, 0, 0, 0, 0, 0] [2, -1, -1, -1] (List.replicate 56 0) [0, 0, 0, 0, 0, 0, 0] [0, 0, 0, 0, 0, 0, 0] [0, 0, 0, 0, 0, 0, 0] 2 cap mask (p + 1) (p + 1 + 1) 6 0 3 0) 5 = j_parseOps_l27 n (Q.mk (wr (wr (wr sq (p &&& mask) (p + 1)) (p &&& mask) (p + cap)) ((p + 1) &&& mask) (p + 1 + 1)) (wr (wr (List.replicate 8 0) (p &&& mask) a) ((p + 1) &&& mask) b) [0, 0, 0, 0] [p + 1, p, 0, 0] [b, a, 0, 0] [1, 1, 0, 0] [0, a, 0, 0] (List.replicate 4 0) (1 :: 2 :: 3 :: 3 :: 1 :: 3 :: List.replicate 58 0) (0 :: 1 :: 0 :: 1 :: 0 :: 0 :: List.replicate 58 0) (a :: 0 :: 0 :: a :: b :: 0 :: List.replicate 58 0) (List.replicate 8 0) [1, 2, 1, 0, 0, 0] [a, 0, b, 0, 0, 0] [0, 1, 4, 0, 0, 0] [2, 3, 5, 0, 0, 0] [1, 1, 1, 0, 0, 0] [0, a, 0, 0, 0, 0] [0, 0, 0, 0, 0, 0] [-1, -1, -1, -1] (List.replicate 56 0) [0, 0, 0, 0, 0, 0, 0] [0, 0, 0, 0, 0, 0, 0] [0, 0, 0, 0, 0, 0, 0] 2 cap mask (p + 1) (p + 1 + 1) 6 0 3 0) 6 := by
  rw [j_parseOps_l27]
  simp [j_parseOps_b80, j_parseOps_b95, j_addOp, j_addOp_b42, j_closeOp, j_closeOp_b59, own_Qa, own_in_4_0, own_in_4_1, own_in_4_2, own_in_4_3, own_in_64_0, own_in_64_1, own_in_64_2, own_in_64_3, own_in_64_4, own_in_64_5, own_in_6_0, own_in_6_1, own_in_6_2, own_in_6_3, own_in_6_4, own_in_6_5, own_in_7_0, own_in_7_1, own_in_7_2, own_in_7_3, own_in_56_0, own_in_56_8, own_in_56_16, own_in_56_24, own_an_0_0, own_an_0_1, own_an_1_1, own_an_1_2, own_an_3_1, own_an_3_2, own_an_3_4, own_an_0_3, own_an_3_3, own_an_1_7, own_an_3_7, own_an_7_7, own_an_1_0, own_an_3_0, own_x0, own_x1, own_x2, own_x3, own_x4, own_x5, own_y0, own_y1, own_y2, own_y3, own_y4, own_y5, own_ll64, own_ll4, own_ll6, own_ll7, -List.reduceReplicate]
theorem own_pb6 (p cap mask a b : Int32) (sq : List Int32) (n : Nat) : j_parseOps_l27 (n + 1) (Q.mk (wr (wr (wr sq (p &&& mask) (p + 1)) (p &&& mask) (p + cap)) ((p + 1) &&& mask) (p + 1 + 1)) (wr (wr (List.replicate 8 0) (p &&& mask) a) ((p + 1) &&& mask) b) [0, 0, 0, 0] [p + 1, p, 0, 0] [b, a, 0, 0] [1, 1, 0, 0] [0, a, 0, 0] (List.replicate 4 0) (1 :: 2 :: 3 :: 3 :: 1 :: 3 :: List.replicate 58 0) (0 :: 1 :: 0 :: 1 :: 0 :: 0 :: List.replicate 58 0) (a :: 0 :: 0 :: a :: b :: 0 :: List.replicate 58 0) (List.replicate 8 0) [1, 2, 1, 0, 0, 0] [a, 0, b, 0, 0, 0] [0, 1, 4, 0, 0, 0] [2, 3, 5, 0, 0, 0] [1, 1, 1, 0, 0, 0] [0, a, 0, 0, 0, 0] [0, 0, 0, 0, 0, 0] [-1, -1, -1, -1] (List.replicate 56 0) [0, 0, 0, 0, 0, 0, 0] [0, 0, 0, 0, 0, 0, 0] [0, 0, 0, 0, 0, 0, 0] 2 cap mask (p + 1) (p + 1 + 1) 6 0 3 0) 6 = some (Q.mk (wr (wr (wr sq (p &&& mask) (p + 1)) (p &&& mask) (p + cap)) ((p + 1) &&& mask) (p + 1 + 1)) (wr (wr (List.replicate 8 0) (p &&& mask) a) ((p + 1) &&& mask) b) [0, 0, 0, 0] [p + 1, p, 0, 0] [b, a, 0, 0] [1, 1, 0, 0] [0, a, 0, 0] (List.replicate 4 0) (1 :: 2 :: 3 :: 3 :: 1 :: 3 :: List.replicate 58 0) (0 :: 1 :: 0 :: 1 :: 0 :: 0 :: List.replicate 58 0) (a :: 0 :: 0 :: a :: b :: 0 :: List.replicate 58 0) (List.replicate 8 0) [1, 2, 1, 0, 0, 0] [a, 0, b, 0, 0, 0] [0, 1, 4, 0, 0, 0] [2, 3, 5, 0, 0, 0] [1, 1, 1, 0, 0, 0] [0, a, 0, 0, 0, 0] [0, 0, 0, 0, 0, 0] [-1, -1, -1, -1] (List.replicate 56 0) [0, 0, 0, 0, 0, 0, 0] [0, 0, 0, 0, 0, 0, 0] [0, 0, 0, 0, 0, 0, 0] 2 cap mask (p + 1) (p + 1 + 1) 6 0 3 0) := by
  rw [j_parseOps_l27]
  simp [j_parseOps_b80, j_parseOps_b95, j_addOp, j_addOp_b42, j_closeOp, j_closeOp_b59, own_Qa, own_in_4_0, own_in_4_1, own_in_4_2, own_in_4_3, own_in_64_0, own_in_64_1, own_in_64_2, own_in_64_3, own_in_64_4, own_in_64_5, own_in_6_0, own_in_6_1, own_in_6_2, own_in_6_3, own_in_6_4, own_in_6_5, own_in_7_0, own_in_7_1, own_in_7_2, own_in_7_3, own_in_56_0, own_in_56_8, own_in_56_16, own_in_56_24, own_an_0_0, own_an_0_1, own_an_1_1, own_an_1_2, own_an_3_1, own_an_3_2, own_an_3_4, own_an_0_3, own_an_3_3, own_an_1_7, own_an_3_7, own_an_7_7, own_an_1_0, own_an_3_0, own_x0, own_x1, own_x2, own_x3, own_x4, own_x5, own_y0, own_y1, own_y2, own_y3, own_y4, own_y5, own_ll64, own_ll4, own_ll6, own_ll7, -List.reduceReplicate]
theorem own_pO (p cap mask a b : Int32) (sq : List Int32) : j_parseOps (Q.mk (wr (wr (wr sq (p &&& mask) (p + 1)) (p &&& mask) (p + cap)) ((p + 1) &&& mask) (p + 1 + 1)) (wr (wr (List.replicate 8 0) (p &&& mask) a) ((p + 1) &&& mask) b) [0, 0, 0, 0] [p + 1, p, 0, 0] [b, a, 0, 0] [1, 1, 0, 0] [0, a, 0, 0] (List.replicate 4 0) (1 :: 2 :: 3 :: 3 :: 1 :: 3 :: List.replicate 58 0) (0 :: 1 :: 0 :: 1 :: 0 :: 0 :: List.replicate 58 0) (a :: 0 :: 0 :: a :: b :: 0 :: List.replicate 58 0) (List.replicate 8 0) [0, 0, 0, 0, 0, 0] [0, 0, 0, 0, 0, 0] [0, 0, 0, 0, 0, 0] [0, 0, 0, 0, 0, 0] [0, 0, 0, 0, 0, 0] [0, 0, 0, 0, 0, 0] [0, 0, 0, 0, 0, 0] [0, 0, 0, 0] (List.replicate 56 0) [0, 0, 0, 0, 0, 0, 0] [0, 0, 0, 0, 0, 0, 0] [0, 0, 0, 0, 0, 0, 0] 2 cap mask (p + 1) (p + 1 + 1) 6 0 0 0) = some (Q.mk (wr (wr (wr sq (p &&& mask) (p + 1)) (p &&& mask) (p + cap)) ((p + 1) &&& mask) (p + 1 + 1)) (wr (wr (List.replicate 8 0) (p &&& mask) a) ((p + 1) &&& mask) b) [0, 0, 0, 0] [p + 1, p, 0, 0] [b, a, 0, 0] [1, 1, 0, 0] [0, a, 0, 0] (List.replicate 4 0) (1 :: 2 :: 3 :: 3 :: 1 :: 3 :: List.replicate 58 0) (0 :: 1 :: 0 :: 1 :: 0 :: 0 :: List.replicate 58 0) (a :: 0 :: 0 :: a :: b :: 0 :: List.replicate 58 0) (List.replicate 8 0) [1, 2, 1, 0, 0, 0] [a, 0, b, 0, 0, 0] [0, 1, 4, 0, 0, 0] [2, 3, 5, 0, 0, 0] [1, 1, 1, 0, 0, 0] [0, a, 0, 0, 0, 0] [0, 0, 0, 0, 0, 0] [-1, -1, -1, -1] (List.replicate 56 0) [0, 0, 0, 0, 0, 0, 0] [0, 0, 0, 0, 0, 0, 0] [0, 0, 0, 0, 0, 0, 0] 2 cap mask (p + 1) (p + 1 + 1) 6 0 3 0) := by
  have e1 : j_parseOps_l7 3000 (Q.mk (wr (wr (wr sq (p &&& mask) (p + 1)) (p &&& mask) (p + cap)) ((p + 1) &&& mask) (p + 1 + 1)) (wr (wr (List.replicate 8 0) (p &&& mask) a) ((p + 1) &&& mask) b) [0, 0, 0, 0] [p + 1, p, 0, 0] [b, a, 0, 0] [1, 1, 0, 0] [0, a, 0, 0] (List.replicate 4 0) (1 :: 2 :: 3 :: 3 :: 1 :: 3 :: List.replicate 58 0) (0 :: 1 :: 0 :: 1 :: 0 :: 0 :: List.replicate 58 0) (a :: 0 :: 0 :: a :: b :: 0 :: List.replicate 58 0) (List.replicate 8 0) [0, 0, 0, 0, 0, 0] [0, 0, 0, 0, 0, 0] [0, 0, 0, 0, 0, 0] [0, 0, 0, 0, 0, 0] [0, 0, 0, 0, 0, 0] [0, 0, 0, 0, 0, 0] [0, 0, 0, 0, 0, 0] [0, 0, 0, 0] (List.replicate 56 0) [0, 0, 0, 0, 0, 0, 0] [0, 0, 0, 0, 0, 0, 0] [0, 0, 0, 0, 0, 0, 0] 2 cap mask (p + 1) (p + 1 + 1) 6 0 0 0) 0 = some (Q.mk (wr (wr (wr sq (p &&& mask) (p + 1)) (p &&& mask) (p + cap)) ((p + 1) &&& mask) (p + 1 + 1)) (wr (wr (List.replicate 8 0) (p &&& mask) a) ((p + 1) &&& mask) b) [0, 0, 0, 0] [p + 1, p, 0, 0] [b, a, 0, 0] [1, 1, 0, 0] [0, a, 0, 0] (List.replicate 4 0) (1 :: 2 :: 3 :: 3 :: 1 :: 3 :: List.replicate 58 0) (0 :: 1 :: 0 :: 1 :: 0 :: 0 :: List.replicate 58 0) (a :: 0 :: 0 :: a :: b :: 0 :: List.replicate 58 0) (List.replicate 8 0) [0, 0, 0, 0, 0, 0] [0, 0, 0, 0, 0, 0] [0, 0, 0, 0, 0, 0] [0, 0, 0, 0, 0, 0] [0, 0, 0, 0, 0, 0] [0, 0, 0, 0, 0, 0] [0, 0, 0, 0, 0, 0] [-1, -1, -1, -1] (List.replicate 56 0) [0, 0, 0, 0, 0, 0, 0] [0, 0, 0, 0, 0, 0, 0] [0, 0, 0, 0, 0, 0, 0] 2 cap mask (p + 1) (p + 1 + 1) 6 0 0 0) := by
    rw [own_pa0 p cap mask a b sq 2999, own_pa1 p cap mask a b sq 2998, own_pa2 p cap mask a b sq 2997, own_pa3 p cap mask a b sq 2996, own_pa4 p cap mask a b sq 2995]
  have e2 : j_parseOps_l27 3000 (Q.mk (wr (wr (wr sq (p &&& mask) (p + 1)) (p &&& mask) (p + cap)) ((p + 1) &&& mask) (p + 1 + 1)) (wr (wr (List.replicate 8 0) (p &&& mask) a) ((p + 1) &&& mask) b) [0, 0, 0, 0] [p + 1, p, 0, 0] [b, a, 0, 0] [1, 1, 0, 0] [0, a, 0, 0] (List.replicate 4 0) (1 :: 2 :: 3 :: 3 :: 1 :: 3 :: List.replicate 58 0) (0 :: 1 :: 0 :: 1 :: 0 :: 0 :: List.replicate 58 0) (a :: 0 :: 0 :: a :: b :: 0 :: List.replicate 58 0) (List.replicate 8 0) [0, 0, 0, 0, 0, 0] [0, 0, 0, 0, 0, 0] [0, 0, 0, 0, 0, 0] [0, 0, 0, 0, 0, 0] [0, 0, 0, 0, 0, 0] [0, 0, 0, 0, 0, 0] [0, 0, 0, 0, 0, 0] [-1, -1, -1, -1] (List.replicate 56 0) [0, 0, 0, 0, 0, 0, 0] [0, 0, 0, 0, 0, 0, 0] [0, 0, 0, 0, 0, 0, 0] 2 cap mask (p + 1) (p + 1 + 1) 6 0 0 0) 0 = some (Q.mk (wr (wr (wr sq (p &&& mask) (p + 1)) (p &&& mask) (p + cap)) ((p + 1) &&& mask) (p + 1 + 1)) (wr (wr (List.replicate 8 0) (p &&& mask) a) ((p + 1) &&& mask) b) [0, 0, 0, 0] [p + 1, p, 0, 0] [b, a, 0, 0] [1, 1, 0, 0] [0, a, 0, 0] (List.replicate 4 0) (1 :: 2 :: 3 :: 3 :: 1 :: 3 :: List.replicate 58 0) (0 :: 1 :: 0 :: 1 :: 0 :: 0 :: List.replicate 58 0) (a :: 0 :: 0 :: a :: b :: 0 :: List.replicate 58 0) (List.replicate 8 0) [1, 2, 1, 0, 0, 0] [a, 0, b, 0, 0, 0] [0, 1, 4, 0, 0, 0] [2, 3, 5, 0, 0, 0] [1, 1, 1, 0, 0, 0] [0, a, 0, 0, 0, 0] [0, 0, 0, 0, 0, 0] [-1, -1, -1, -1] (List.replicate 56 0) [0, 0, 0, 0, 0, 0, 0] [0, 0, 0, 0, 0, 0, 0] [0, 0, 0, 0, 0, 0, 0] 2 cap mask (p + 1) (p + 1 + 1) 6 0 3 0) := by
    rw [own_pb0 p cap mask a b sq 2999, own_pb1 p cap mask a b sq 2998, own_pb2 p cap mask a b sq 2997, own_pb3 p cap mask a b sq 2996, own_pb4 p cap mask a b sq 2995, own_pb5 p cap mask a b sq 2994, own_pb6 p cap mask a b sq 2993]
  unfold j_parseOps
  simp only [own_Qa, e1, e2, Option.bind_some]
theorem own_qa0 (p cap mask a b : Int32) (sq : List Int32) (n : Nat) : j_buildPreds_l7 (n + 1) (Q.mk (wr (wr (wr sq (p &&& mask) (p + 1)) (p &&& mask) (p + cap)) ((p + 1) &&& mask) (p + 1 + 1)) (wr (wr (List.replicate 8 0) (p &&& mask) a) ((p + 1) &&& mask) b) [0, 0, 0, 0] [p + 1, p, 0, 0] [b, a, 0, 0] [1, 1, 0, 0] [0, a, 0, 0] (List.replicate 4 0) (1 :: 2 :: 3 :: 3 :: 1 :: 3 :: List.replicate 58 0) (0 :: 1 :: 0 :: 1 :: 0 :: 0 :: List.replicate 58 0) (a :: 0 :: 0 :: a :: b :: 0 :: List.replicate 58 0) (List.replicate 8 0) [1, 2, 1, 0, 0, 0] [a, 0, b, 0, 0, 0] [0, 1, 4, 0, 0, 0] [2, 3, 5, 0, 0, 0] [1, 1, 1, 0, 0, 0] [0, a, 0, 0, 0, 0] [0, 0, 0, 0, 0, 0] [-1, -1, -1, -1] (List.replicate 56 0) [0, 0, 0, 0, 0, 0, 0] [0, 0, 0, 0, 0, 0, 0] [0, 0, 0, 0, 0, 0, 0] 2 cap mask (p + 1) (p + 1 + 1) 6 0 3 0) 0 = j_buildPreds_l7 n (Q.mk (wr (wr (wr sq (p &&& mask) (p + 1)) (p &&& mask) (p + cap)) ((p + 1) &&& mask) (p + 1 + 1)) (wr (wr (List.replicate 8 0) (p &&& mask) a) ((p + 1) &&& mask) b) [0, 0, 0, 0] [p + 1, p, 0, 0] [b, a, 0, 0] [1, 1, 0, 0] [0, a, 0, 0] (List.replicate 4 0) (1 :: 2 :: 3 :: 3 :: 1 :: 3 :: List.replicate 58 0) (0 :: 1 :: 0 :: 1 :: 0 :: 0 :: List.replicate 58 0) (a :: 0 :: 0 :: a :: b :: 0 :: List.replicate 58 0) (List.replicate 8 0) [1, 2, 1, 0, 0, 0] [a, 0, b, 0, 0, 0] [0, 1, 4, 0, 0, 0] [2, 3, 5, 0, 0, 0] [1, 1, 1, 0, 0, 0] [0, a, 0, 0, 0, 0] [0, 0, 0, 0, 0, 0] [-1, -1, -1, -1] (List.replicate 56 0) [0, 0, 0, 0, 0, 0, 0] [0, 0, 0, 0, 0, 0, 0] [0, 0, 0, 0, 0, 0, 0] 2 cap mask (p + 1) (p + 1 + 1) 6 0 3 1) 1 := by
  rw [j_buildPreds_l7]
  simp [j_buildPreds_b49, j_buildPreds_b128, own_ish0, own_ish1, own_ish2, own_or01, own_or12, own_or34, own_Qa, own_in_4_0, own_in_4_1, own_in_4_2, own_in_4_3, own_in_64_0, own_in_64_1, own_in_64_2, own_in_64_3, own_in_64_4, own_in_64_5, own_in_6_0, own_in_6_1, own_in_6_2, own_in_6_3, own_in_6_4, own_in_6_5, own_in_7_0, own_in_7_1, own_in_7_2, own_in_7_3, own_in_56_0, own_in_56_8, own_in_56_16, own_in_56_24, own_an_0_0, own_an_0_1, own_an_1_1, own_an_1_2, own_an_3_1, own_an_3_2, own_an_3_4, own_an_0_3, own_an_3_3, own_an_1_7, own_an_3_7, own_an_7_7, own_an_1_0, own_an_3_0, own_x0, own_x1, own_x2, own_x3, own_x4, own_x5, own_y0, own_y1, own_y2, own_y3, own_y4, own_y5, own_ll64, own_ll4, own_ll6, own_ll7, -List.reduceReplicate]
theorem own_qa1 (p cap mask a b : Int32) (sq : List Int32) (n : Nat) : j_buildPreds_l7 (n + 1) (Q.mk (wr (wr (wr sq (p &&& mask) (p + 1)) (p &&& mask) (p + cap)) ((p + 1) &&& mask) (p + 1 + 1)) (wr (wr (List.replicate 8 0) (p &&& mask) a) ((p + 1) &&& mask) b) [0, 0, 0, 0] [p + 1, p, 0, 0] [b, a, 0, 0] [1, 1, 0, 0] [0, a, 0, 0] (List.replicate 4 0) (1 :: 2 :: 3 :: 3 :: 1 :: 3 :: List.replicate 58 0) (0 :: 1 :: 0 :: 1 :: 0 :: 0 :: List.replicate 58 0) (a :: 0 :: 0 :: a :: b :: 0 :: List.replicate 58 0) (List.replicate 8 0) [1, 2, 1, 0, 0, 0] [a, 0, b, 0, 0, 0] [0, 1, 4, 0, 0, 0] [2, 3, 5, 0, 0, 0] [1, 1, 1, 0, 0, 0] [0, a, 0, 0, 0, 0] [0, 0, 0, 0, 0, 0] [-1, -1, -1, -1] (List.replicate 56 0) [0, 0, 0, 0, 0, 0, 0] [0, 0, 0, 0, 0, 0, 0] [0, 0, 0, 0, 0, 0, 0] 2 cap mask (p + 1) (p + 1 + 1) 6 0 3 1) 1 = j_buildPreds_l7 n (Q.mk (wr (wr (wr sq (p &&& mask) (p + 1)) (p &&& mask) (p + cap)) ((p + 1) &&& mask) (p + 1 + 1)) (wr (wr (List.replicate 8 0) (p &&& mask) a) ((p + 1) &&& mask) b) [0, 0, 0, 0] [p + 1, p, 0, 0] [b, a, 0, 0] [1, 1, 0, 0] [0, a, 0, 0] (List.replicate 4 0) (1 :: 2 :: 3 :: 3 :: 1 :: 3 :: List.replicate 58 0) (0 :: 1 :: 0 :: 1 :: 0 :: 0 :: List.replicate 58 0) (a :: 0 :: 0 :: a :: b :: 0 :: List.replicate 58 0) (List.replicate 8 0) [1, 2, 1, 0, 0, 0] [a, 0, b, 0, 0, 0] [0, 1, 4, 0, 0, 0] [2, 3, 5, 0, 0, 0] [1, 1, 1, 0, 0, 0] [0, a, 0, 0, 0, 0] [0, 0, 0, 0, 0, 0] [-1, -1, -1, -1] (List.replicate 56 0) [0, 0, 0, 0, 0, 0, 0] [0, 0, 0, 0, 0, 0, 0] [0, 0, 0, 0, 0, 0, 0] 2 cap mask (p + 1) (p + 1 + 1) 6 0 3 3) 2 := by
  rw [j_buildPreds_l7]
  simp [j_buildPreds_b49, j_buildPreds_b128, own_ish0, own_ish1, own_ish2, own_or01, own_or12, own_or34, own_Qa, own_in_4_0, own_in_4_1, own_in_4_2, own_in_4_3, own_in_64_0, own_in_64_1, own_in_64_2, own_in_64_3, own_in_64_4, own_in_64_5, own_in_6_0, own_in_6_1, own_in_6_2, own_in_6_3, own_in_6_4, own_in_6_5, own_in_7_0, own_in_7_1, own_in_7_2, own_in_7_3, own_in_56_0, own_in_56_8, own_in_56_16, own_in_56_24, own_an_0_0, own_an_0_1, own_an_1_1, own_an_1_2, own_an_3_1, own_an_3_2, own_an_3_4, own_an_0_3, own_an_3_3, own_an_1_7, own_an_3_7, own_an_7_7, own_an_1_0, own_an_3_0, own_x0, own_x1, own_x2, own_x3, own_x4, own_x5, own_y0, own_y1, own_y2, own_y3, own_y4, own_y5, own_ll64, own_ll4, own_ll6, own_ll7, -List.reduceReplicate]
theorem own_qa2 (p cap mask a b : Int32) (sq : List Int32) (n : Nat) : j_buildPreds_l7 (n + 1) (Q.mk (wr (wr (wr sq (p &&& mask) (p + 1)) (p &&& mask) (p + cap)) ((p + 1) &&& mask) (p + 1 + 1)) (wr (wr (List.replicate 8 0) (p &&& mask) a) ((p + 1) &&& mask) b) [0, 0, 0, 0] [p + 1, p, 0, 0] [b, a, 0, 0] [1, 1, 0, 0] [0, a, 0, 0] (List.replicate 4 0) (1 :: 2 :: 3 :: 3 :: 1 :: 3 :: List.replicate 58 0) (0 :: 1 :: 0 :: 1 :: 0 :: 0 :: List.replicate 58 0) (a :: 0 :: 0 :: a :: b :: 0 :: List.replicate 58 0) (List.replicate 8 0) [1, 2, 1, 0, 0, 0] [a, 0, b, 0, 0, 0] [0, 1, 4, 0, 0, 0] [2, 3, 5, 0, 0, 0] [1, 1, 1, 0, 0, 0] [0, a, 0, 0, 0, 0] [0, 0, 0, 0, 0, 0] [-1, -1, -1, -1] (List.replicate 56 0) [0, 0, 0, 0, 0, 0, 0] [0, 0, 0, 0, 0, 0, 0] [0, 0, 0, 0, 0, 0, 0] 2 cap mask (p + 1) (p + 1 + 1) 6 0 3 3) 2 = j_buildPreds_l7 n (Q.mk (wr (wr (wr sq (p &&& mask) (p + 1)) (p &&& mask) (p + cap)) ((p + 1) &&& mask) (p + 1 + 1)) (wr (wr (List.replicate 8 0) (p &&& mask) a) ((p + 1) &&& mask) b) [0, 0, 0, 0] [p + 1, p, 0, 0] [b, a, 0, 0] [1, 1, 0, 0] [0, a, 0, 0] (List.replicate 4 0) (1 :: 2 :: 3 :: 3 :: 1 :: 3 :: List.replicate 58 0) (0 :: 1 :: 0 :: 1 :: 0 :: 0 :: List.replicate 58 0) (a :: 0 :: 0 :: a :: b :: 0 :: List.replicate 58 0) (List.replicate 8 0) [1, 2, 1, 0, 0, 0] [a, 0, b, 0, 0, 0] [0, 1, 4, 0, 0, 0] [2, 3, 5, 0, 0, 0] [1, 1, 1, 0, 0, 0] [0, a, 0, 0, 0, 0] [0, 0, 0, 0, 0, 0] [-1, -1, -1, -1] (List.replicate 56 0) [0, 0, 0, 0, 0, 0, 0] [0, 0, 0, 0, 0, 0, 0] [0, 0, 0, 0, 0, 0, 0] 2 cap mask (p + 1) (p + 1 + 1) 6 0 3 7) 3 := by
  rw [j_buildPreds_l7]
  simp [j_buildPreds_b49, j_buildPreds_b128, own_ish0, own_ish1, own_ish2, own_or01, own_or12, own_or34, own_Qa, own_in_4_0, own_in_4_1, own_in_4_2, own_in_4_3, own_in_64_0, own_in_64_1, own_in_64_2, own_in_64_3, own_in_64_4, own_in_64_5, own_in_6_0, own_in_6_1, own_in_6_2, own_in_6_3, own_in_6_4, own_in_6_5, own_in_7_0, own_in_7_1, own_in_7_2, own_in_7_3, own_in_56_0, own_in_56_8, own_in_56_16, own_in_56_24, own_an_0_0, own_an_0_1, own_an_1_1, own_an_1_2, own_an_3_1, own_an_3_2, own_an_3_4, own_an_0_3, own_an_3_3, own_an_1_7, own_an_3_7, own_an_7_7, own_an_1_0, own_an_3_0, own_x0, own_x1, own_x2, own_x3, own_x4, own_x5, own_y0, own_y1, own_y2, own_y3, own_y4, own_y5, own_ll64, own_ll4, own_ll6, own_ll7, -List.reduceReplicate]
theorem own_qa3 (p cap mask a b : Int32) (sq : List Int32) (n : Nat) : j_buildPreds_l7 (n + 1) (Q.mk (wr (wr (wr sq (p &&& mask) (p + 1)) (p &&& mask) (p + cap)) ((p + 1) &&& mask) (p + 1 + 1)) (wr (wr (List.replicate 8 0) (p &&& mask) a) ((p + 1) &&& mask) b) [0, 0, 0, 0] [p + 1, p, 0, 0] [b, a, 0, 0] [1, 1, 0, 0] [0, a, 0, 0] (List.replicate 4 0) (1 :: 2 :: 3 :: 3 :: 1 :: 3 :: List.replicate 58 0) (0 :: 1 :: 0 :: 1 :: 0 :: 0 :: List.replicate 58 0) (a :: 0 :: 0 :: a :: b :: 0 :: List.replicate 58 0) (List.replicate 8 0) [1, 2, 1, 0, 0, 0] [a, 0, b, 0, 0, 0] [0, 1, 4, 0, 0, 0] [2, 3, 5, 0, 0, 0] [1, 1, 1, 0, 0, 0] [0, a, 0, 0, 0, 0] [0, 0, 0, 0, 0, 0] [-1, -1, -1, -1] (List.replicate 56 0) [0, 0, 0, 0, 0, 0, 0] [0, 0, 0, 0, 0, 0, 0] [0, 0, 0, 0, 0, 0, 0] 2 cap mask (p + 1) (p + 1 + 1) 6 0 3 7) 3 = some (Q.mk (wr (wr (wr sq (p &&& mask) (p + 1)) (p &&& mask) (p + cap)) ((p + 1) &&& mask) (p + 1 + 1)) (wr (wr (List.replicate 8 0) (p &&& mask) a) ((p + 1) &&& mask) b) [0, 0, 0, 0] [p + 1, p, 0, 0] [b, a, 0, 0] [1, 1, 0, 0] [0, a, 0, 0] (List.replicate 4 0) (1 :: 2 :: 3 :: 3 :: 1 :: 3 :: List.replicate 58 0) (0 :: 1 :: 0 :: 1 :: 0 :: 0 :: List.replicate 58 0) (a :: 0 :: 0 :: a :: b :: 0 :: List.replicate 58 0) (List.replicate 8 0) [1, 2, 1, 0, 0, 0] [a, 0, b, 0, 0, 0] [0, 1, 4, 0, 0, 0] [2, 3, 5, 0, 0, 0] [1, 1, 1, 0, 0, 0] [0, a, 0, 0, 0, 0] [0, 0, 0, 0, 0, 0] [-1, -1, -1, -1] (List.replicate 56 0) [0, 0, 0, 0, 0, 0, 0] [0, 0, 0, 0, 0, 0, 0] [0, 0, 0, 0, 0, 0, 0] 2 cap mask (p + 1) (p + 1 + 1) 6 0 3 7) := by
  rw [j_buildPreds_l7]
  simp [j_buildPreds_b49, j_buildPreds_b128, own_ish0, own_ish1, own_ish2, own_or01, own_or12, own_or34, own_Qa, own_in_4_0, own_in_4_1, own_in_4_2, own_in_4_3, own_in_64_0, own_in_64_1, own_in_64_2, own_in_64_3, own_in_64_4, own_in_64_5, own_in_6_0, own_in_6_1, own_in_6_2, own_in_6_3, own_in_6_4, own_in_6_5, own_in_7_0, own_in_7_1, own_in_7_2, own_in_7_3, own_in_56_0, own_in_56_8, own_in_56_16, own_in_56_24, own_an_0_0, own_an_0_1, own_an_1_1, own_an_1_2, own_an_3_1, own_an_3_2, own_an_3_4, own_an_0_3, own_an_3_3, own_an_1_7, own_an_3_7, own_an_7_7, own_an_1_0, own_an_3_0, own_x0, own_x1, own_x2, own_x3, own_x4, own_x5, own_y0, own_y1, own_y2, own_y3, own_y4, own_y5, own_ll64, own_ll4, own_ll6, own_ll7, -List.reduceReplicate]
theorem own_qb00 (p cap mask a b : Int32) (sq : List Int32) (n : Nat) : j_buildPreds_l73 (n + 1) (Q.mk (wr (wr (wr sq (p &&& mask) (p + 1)) (p &&& mask) (p + cap)) ((p + 1) &&& mask) (p + 1 + 1)) (wr (wr (List.replicate 8 0) (p &&& mask) a) ((p + 1) &&& mask) b) [0, 0, 0, 0] [p + 1, p, 0, 0] [b, a, 0, 0] [1, 1, 0, 0] [0, a, 0, 0] (List.replicate 4 0) (1 :: 2 :: 3 :: 3 :: 1 :: 3 :: List.replicate 58 0) (0 :: 1 :: 0 :: 1 :: 0 :: 0 :: List.replicate 58 0) (a :: 0 :: 0 :: a :: b :: 0 :: List.replicate 58 0) (List.replicate 8 0) [1, 2, 1, 0, 0, 0] [a, 0, b, 0, 0, 0] [0, 1, 4, 0, 0, 0] [2, 3, 5, 0, 0, 0] [1, 1, 1, 0, 0, 0] [0, a, 0, 0, 0, 0] [0, 0, 0, 0, 0, 0] [-1, -1, -1, -1] (List.replicate 56 0) [0, 0, 0, 0, 0, 0, 0] [0, 0, 0, 0, 0, 0, 0] [0, 0, 0, 0, 0, 0, 0] 2 cap mask (p + 1) (p + 1 + 1) 6 0 3 7) 0 0 = j_buildPreds_l73 n (Q.mk (wr (wr (wr sq (p &&& mask) (p + 1)) (p &&& mask) (p + cap)) ((p + 1) &&& mask) (p + 1 + 1)) (wr (wr (List.replicate 8 0) (p &&& mask) a) ((p + 1) &&& mask) b) [0, 0, 0, 0] [p + 1, p, 0, 0] [b, a, 0, 0] [1, 1, 0, 0] [0, a, 0, 0] (List.replicate 4 0) (1 :: 2 :: 3 :: 3 :: 1 :: 3 :: List.replicate 58 0) (0 :: 1 :: 0 :: 1 :: 0 :: 0 :: List.replicate 58 0) (a :: 0 :: 0 :: a :: b :: 0 :: List.replicate 58 0) (List.replicate 8 0) [1, 2, 1, 0, 0, 0] [a, 0, b, 0, 0, 0] [0, 1, 4, 0, 0, 0] [2, 3, 5, 0, 0, 0] [1, 1, 1, 0, 0, 0] [0, a, 0, 0, 0, 0] [0, 0, 0, 0, 0, 0] [-1, -1, -1, -1] (List.replicate 56 0) [0, 0, 0, 0, 0, 0, 0] [0, 0, 0, 0, 0, 0, 0] [0, 0, 0, 0, 0, 0, 0] 2 cap mask (p + 1) (p + 1 + 1) 6 0 3 7) 0 1 := by
  rw [j_buildPreds_l73]
  simp [j_buildPreds_b49, j_buildPreds_b128, own_ish0, own_ish1, own_ish2, own_or01, own_or12, own_or34, own_Qa, own_in_4_0, own_in_4_1, own_in_4_2, own_in_4_3, own_in_64_0, own_in_64_1, own_in_64_2, own_in_64_3, own_in_64_4, own_in_64_5, own_in_6_0, own_in_6_1, own_in_6_2, own_in_6_3, own_in_6_4, own_in_6_5, own_in_7_0, own_in_7_1, own_in_7_2, own_in_7_3, own_in_56_0, own_in_56_8, own_in_56_16, own_in_56_24, own_an_0_0, own_an_0_1, own_an_1_1, own_an_1_2, own_an_3_1, own_an_3_2, own_an_3_4, own_an_0_3, own_an_3_3, own_an_1_7, own_an_3_7, own_an_7_7, own_an_1_0, own_an_3_0, own_x0, own_x1, own_x2, own_x3, own_x4, own_x5, own_y0, own_y1, own_y2, own_y3, own_y4, own_y5, own_ll64, own_ll4, own_ll6, own_ll7, -List.reduceReplicate]
theorem own_qb01 (p cap mask a b : Int32) (sq : List Int32) (n : Nat) : j_buildPreds_l73 (n + 1) (Q.mk (wr (wr (wr sq (p &&& mask) (p + 1)) (p &&& mask) (p + cap)) ((p + 1) &&& mask) (p + 1 + 1)) (wr (wr (List.replicate 8 0) (p &&& mask) a) ((p + 1) &&& mask) b) [0, 0, 0, 0] [p + 1, p, 0, 0] [b, a, 0, 0] [1, 1, 0, 0] [0, a, 0, 0] (List.replicate 4 0) (1 :: 2 :: 3 :: 3 :: 1 :: 3 :: List.replicate 58 0) (0 :: 1 :: 0 :: 1 :: 0 :: 0 :: List.replicate 58 0) (a :: 0 :: 0 :: a :: b :: 0 :: List.replicate 58 0) (List.replicate 8 0) [1, 2, 1, 0, 0, 0] [a, 0, b, 0, 0, 0] [0, 1, 4, 0, 0, 0] [2, 3, 5, 0, 0, 0] [1, 1, 1, 0, 0, 0] [0, a, 0, 0, 0, 0] [0, 0, 0, 0, 0, 0] [-1, -1, -1, -1] (List.replicate 56 0) [0, 0, 0, 0, 0, 0, 0] [0, 0, 0, 0, 0, 0, 0] [0, 0, 0, 0, 0, 0, 0] 2 cap mask (p + 1) (p + 1 + 1) 6 0 3 7) 0 1 = j_buildPreds_l73 n (Q.mk (wr (wr (wr sq (p &&& mask) (p + 1)) (p &&& mask) (p + cap)) ((p + 1) &&& mask) (p + 1 + 1)) (wr (wr (List.replicate 8 0) (p &&& mask) a) ((p + 1) &&& mask) b) [0, 0, 0, 0] [p + 1, p, 0, 0] [b, a, 0, 0] [1, 1, 0, 0] [0, a, 0, 0] (List.replicate 4 0) (1 :: 2 :: 3 :: 3 :: 1 :: 3 :: List.replicate 58 0) (0 :: 1 :: 0 :: 1 :: 0 :: 0 :: List.replicate 58 0) (a :: 0 :: 0 :: a :: b :: 0 :: List.replicate 58 0) (List.replicate 8 0) [1, 2, 1, 0, 0, 0] [a, 0, b, 0, 0, 0] [0, 1, 4, 0, 0, 0] [2, 3, 5, 0, 0, 0] [1, 1, 1, 0, 0, 0] [0, a, 0, 0, 0, 0] [0, 0, 0, 0, 0, 0] [-1, -1, -1, -1] (List.replicate 56 0) [0, 0, 0, 0, 0, 0, 0] [0, 0, 0, 0, 0, 0, 0] [0, 0, 0, 0, 0, 0, 0] 2 cap mask (p + 1) (p + 1 + 1) 6 0 3 7) 0 2 := by
  rw [j_buildPreds_l73]
  simp [j_buildPreds_b49, j_buildPreds_b128, own_ish0, own_ish1, own_ish2, own_or01, own_or12, own_or34, own_Qa, own_in_4_0, own_in_4_1, own_in_4_2, own_in_4_3, own_in_64_0, own_in_64_1, own_in_64_2, own_in_64_3, own_in_64_4, own_in_64_5, own_in_6_0, own_in_6_1, own_in_6_2, own_in_6_3, own_in_6_4, own_in_6_5, own_in_7_0, own_in_7_1, own_in_7_2, own_in_7_3, own_in_56_0, own_in_56_8, own_in_56_16, own_in_56_24, own_an_0_0, own_an_0_1, own_an_1_1, own_an_1_2, own_an_3_1, own_an_3_2, own_an_3_4, own_an_0_3, own_an_3_3, own_an_1_7, own_an_3_7, own_an_7_7, own_an_1_0, own_an_3_0, own_x0, own_x1, own_x2, own_x3, own_x4, own_x5, own_y0, own_y1, own_y2, own_y3, own_y4, own_y5, own_ll64, own_ll4, own_ll6, own_ll7, -List.reduceReplicate]
theorem own_qb02 (p cap mask a b : Int32) (sq : List Int32) (n : Nat) : j_buildPreds_l73 (n + 1) (Q.mk (wr (wr (wr sq (p &&& mask) (p + 1)) (p &&& mask) (p + cap)) ((p + 1) &&& mask) (p + 1 + 1)) (wr (wr (List.replicate 8 0) (p &&& mask) a) ((p + 1) &&& mask) b) [0, 0, 0, 0] [p + 1, p, 0, 0] [b, a, 0, 0] [1, 1, 0, 0] [0, a, 0, 0] (List.replicate 4 0) (1 :: 2 :: 3 :: 3 :: 1 :: 3 :: List.replicate 58 0) (0 :: 1 :: 0 :: 1 :: 0 :: 0 :: List.replicate 58 0) (a :: 0 :: 0 :: a :: b :: 0 :: List.replicate 58 0) (List.replicate 8 0) [1, 2, 1, 0, 0, 0] [a, 0, b, 0, 0, 0] [0, 1, 4, 0, 0, 0] [2, 3, 5, 0, 0, 0] [1, 1, 1, 0, 0, 0] [0, a, 0, 0, 0, 0] [0, 0, 0, 0, 0, 0] [-1, -1, -1, -1] (List.replicate 56 0) [0, 0, 0, 0, 0, 0, 0] [0, 0, 0, 0, 0, 0, 0] [0, 0, 0, 0, 0, 0, 0] 2 cap mask (p + 1) (p + 1 + 1) 6 0 3 7) 0 2 = j_buildPreds_l73 n (Q.mk (wr (wr (wr sq (p &&& mask) (p + 1)) (p &&& mask) (p + cap)) ((p + 1) &&& mask) (p + 1 + 1)) (wr (wr (List.replicate 8 0) (p &&& mask) a) ((p + 1) &&& mask) b) [0, 0, 0, 0] [p + 1, p, 0, 0] [b, a, 0, 0] [1, 1, 0, 0] [0, a, 0, 0] (List.replicate 4 0) (1 :: 2 :: 3 :: 3 :: 1 :: 3 :: List.replicate 58 0) (0 :: 1 :: 0 :: 1 :: 0 :: 0 :: List.replicate 58 0) (a :: 0 :: 0 :: a :: b :: 0 :: List.replicate 58 0) (List.replicate 8 0) [1, 2, 1, 0, 0, 0] [a, 0, b, 0, 0, 0] [0, 1, 4, 0, 0, 0] [2, 3, 5, 0, 0, 0] [1, 1, 1, 0, 0, 0] [0, a, 0, 0, 0, 0] [0, 0, 0, 0, 0, 0] [-1, -1, -1, -1] (List.replicate 56 0) [0, 0, 0, 0, 0, 0, 0] [0, 0, 0, 0, 0, 0, 0] [0, 0, 0, 0, 0, 0, 0] 2 cap mask (p + 1) (p + 1 + 1) 6 0 3 7) 0 3 := by
  rw [j_buildPreds_l73]
  simp [j_buildPreds_b49, j_buildPreds_b128, own_ish0, own_ish1, own_ish2, own_or01, own_or12, own_or34, own_Qa, own_in_4_0, own_in_4_1, own_in_4_2, own_in_4_3, own_in_64_0, own_in_64_1, own_in_64_2, own_in_64_3, own_in_64_4, own_in_64_5, own_in_6_0, own_in_6_1, own_in_6_2, own_in_6_3, own_in_6_4, own_in_6_5, own_in_7_0, own_in_7_1, own_in_7_2, own_in_7_3, own_in_56_0, own_in_56_8, own_in_56_16, own_in_56_24, own_an_0_0, own_an_0_1, own_an_1_1, own_an_1_2, own_an_3_1, own_an_3_2, own_an_3_4, own_an_0_3, own_an_3_3, own_an_1_7, own_an_3_7, own_an_7_7, own_an_1_0, own_an_3_0, own_x0, own_x1, own_x2, own_x3, own_x4, own_x5, own_y0, own_y1, own_y2, own_y3, own_y4, own_y5, own_ll64, own_ll4, own_ll6, own_ll7, -List.reduceReplicate]
theorem own_qb03 (p cap mask a b : Int32) (sq : List Int32) (n : Nat) : j_buildPreds_l73 (n + 1) (Q.mk (wr (wr (wr sq (p &&& mask) (p + 1)) (p &&& mask) (p + cap)) ((p + 1) &&& mask) (p + 1 + 1)) (wr (wr (List.replicate 8 0) (p &&& mask) a) ((p + 1) &&& mask) b) [0, 0, 0, 0] [p + 1, p, 0, 0] [b, a, 0, 0] [1, 1, 0, 0] [0, a, 0, 0] (List.replicate 4 0) (1 :: 2 :: 3 :: 3 :: 1 :: 3 :: List.replicate 58 0) (0 :: 1 :: 0 :: 1 :: 0 :: 0 :: List.replicate 58 0) (a :: 0 :: 0 :: a :: b :: 0 :: List.replicate 58 0) (List.replicate 8 0) [1, 2, 1, 0, 0, 0] [a, 0, b, 0, 0, 0] [0, 1, 4, 0, 0, 0] [2, 3, 5, 0, 0, 0] [1, 1, 1, 0, 0, 0] [0, a, 0, 0, 0, 0] [0, 0, 0, 0, 0, 0] [-1, -1, -1, -1] (List.replicate 56 0) [0, 0, 0, 0, 0, 0, 0] [0, 0, 0, 0, 0, 0, 0] [0, 0, 0, 0, 0, 0, 0] 2 cap mask (p + 1) (p + 1 + 1) 6 0 3 7) 0 3 = some (0, (Q.mk (wr (wr (wr sq (p &&& mask) (p + 1)) (p &&& mask) (p + cap)) ((p + 1) &&& mask) (p + 1 + 1)) (wr (wr (List.replicate 8 0) (p &&& mask) a) ((p + 1) &&& mask) b) [0, 0, 0, 0] [p + 1, p, 0, 0] [b, a, 0, 0] [1, 1, 0, 0] [0, a, 0, 0] (List.replicate 4 0) (1 :: 2 :: 3 :: 3 :: 1 :: 3 :: List.replicate 58 0) (0 :: 1 :: 0 :: 1 :: 0 :: 0 :: List.replicate 58 0) (a :: 0 :: 0 :: a :: b :: 0 :: List.replicate 58 0) (List.replicate 8 0) [1, 2, 1, 0, 0, 0] [a, 0, b, 0, 0, 0] [0, 1, 4, 0, 0, 0] [2, 3, 5, 0, 0, 0] [1, 1, 1, 0, 0, 0] [0, a, 0, 0, 0, 0] [0, 0, 0, 0, 0, 0] [-1, -1, -1, -1] (List.replicate 56 0) [0, 0, 0, 0, 0, 0, 0] [0, 0, 0, 0, 0, 0, 0] [0, 0, 0, 0, 0, 0, 0] 2 cap mask (p + 1) (p + 1 + 1) 6 0 3 7)) := by
  rw [j_buildPreds_l73]
  simp [j_buildPreds_b49, j_buildPreds_b128, own_ish0, own_ish1, own_ish2, own_or01, own_or12, own_or34, own_Qa, own_in_4_0, own_in_4_1, own_in_4_2, own_in_4_3, own_in_64_0, own_in_64_1, own_in_64_2, own_in_64_3, own_in_64_4, own_in_64_5, own_in_6_0, own_in_6_1, own_in_6_2, own_in_6_3, own_in_6_4, own_in_6_5, own_in_7_0, own_in_7_1, own_in_7_2, own_in_7_3, own_in_56_0, own_in_56_8, own_in_56_16, own_in_56_24, own_an_0_0, own_an_0_1, own_an_1_1, own_an_1_2, own_an_3_1, own_an_3_2, own_an_3_4, own_an_0_3, own_an_3_3, own_an_1_7, own_an_3_7, own_an_7_7, own_an_1_0, own_an_3_0, own_x0, own_x1, own_x2, own_x3, own_x4, own_x5, own_y0, own_y1, own_y2, own_y3, own_y4, own_y5, own_ll64, own_ll4, own_ll6, own_ll7, -List.reduceReplicate]
theorem own_qc0 (p cap mask a b : Int32) (sq : List Int32) (n : Nat) : j_buildPreds_l57 (n + 1) (Q.mk (wr (wr (wr sq (p &&& mask) (p + 1)) (p &&& mask) (p + cap)) ((p + 1) &&& mask) (p + 1 + 1)) (wr (wr (List.replicate 8 0) (p &&& mask) a) ((p + 1) &&& mask) b) [0, 0, 0, 0] [p + 1, p, 0, 0] [b, a, 0, 0] [1, 1, 0, 0] [0, a, 0, 0] (List.replicate 4 0) (1 :: 2 :: 3 :: 3 :: 1 :: 3 :: List.replicate 58 0) (0 :: 1 :: 0 :: 1 :: 0 :: 0 :: List.replicate 58 0) (a :: 0 :: 0 :: a :: b :: 0 :: List.replicate 58 0) (List.replicate 8 0) [1, 2, 1, 0, 0, 0] [a, 0, b, 0, 0, 0] [0, 1, 4, 0, 0, 0] [2, 3, 5, 0, 0, 0] [1, 1, 1, 0, 0, 0] [0, a, 0, 0, 0, 0] [0, 0, 0, 0, 0, 0] [-1, -1, -1, -1] (List.replicate 56 0) [0, 0, 0, 0, 0, 0, 0] [0, 0, 0, 0, 0, 0, 0] [0, 0, 0, 0, 0, 0, 0] 2 cap mask (p + 1) (p + 1 + 1) 6 0 3 7) 0 = j_buildPreds_l57 n (Q.mk (wr (wr (wr sq (p &&& mask) (p + 1)) (p &&& mask) (p + cap)) ((p + 1) &&& mask) (p + 1 + 1)) (wr (wr (List.replicate 8 0) (p &&& mask) a) ((p + 1) &&& mask) b) [0, 0, 0, 0] [p + 1, p, 0, 0] [b, a, 0, 0] [1, 1, 0, 0] [0, a, 0, 0] (List.replicate 4 0) (1 :: 2 :: 3 :: 3 :: 1 :: 3 :: List.replicate 58 0) (0 :: 1 :: 0 :: 1 :: 0 :: 0 :: List.replicate 58 0) (a :: 0 :: 0 :: a :: b :: 0 :: List.replicate 58 0) (List.replicate 8 0) [1, 2, 1, 0, 0, 0] [a, 0, b, 0, 0, 0] [0, 1, 4, 0, 0, 0] [2, 3, 5, 0, 0, 0] [1, 1, 1, 0, 0, 0] [0, a, 0, 0, 0, 0] [0, 0, 0, 0, 0, 0] [-1, -1, -1, -1] (List.replicate 56 0) [0, 0, 0, 0, 0, 0, 0] [0, 0, 0, 0, 0, 0, 0] [0, 0, 0, 0, 0, 0, 0] 2 cap mask (p + 1) (p + 1 + 1) 6 0 3 7) 1 := by
  have e : j_buildPreds_l73 3000 (Q.mk (wr (wr (wr sq (p &&& mask) (p + 1)) (p &&& mask) (p + cap)) ((p + 1) &&& mask) (p + 1 + 1)) (wr (wr (List.replicate 8 0) (p &&& mask) a) ((p + 1) &&& mask) b) [0, 0, 0, 0] [p + 1, p, 0, 0] [b, a, 0, 0] [1, 1, 0, 0] [0, a, 0, 0] (List.replicate 4 0) (1 :: 2 :: 3 :: 3 :: 1 :: 3 :: List.replicate 58 0) (0 :: 1 :: 0 :: 1 :: 0 :: 0 :: List.replicate 58 0) (a :: 0 :: 0 :: a :: b :: 0 :: List.replicate 58 0) (List.replicate 8 0) [1, 2, 1, 0, 0, 0] [a, 0, b, 0, 0, 0] [0, 1, 4, 0, 0, 0] [2, 3, 5, 0, 0, 0] [1, 1, 1, 0, 0, 0] [0, a, 0, 0, 0, 0] [0, 0, 0, 0, 0, 0] [-1, -1, -1, -1] (List.replicate 56 0) [0, 0, 0, 0, 0, 0, 0] [0, 0, 0, 0, 0, 0, 0] [0, 0, 0, 0, 0, 0, 0] 2 cap mask (p + 1) (p + 1 + 1) 6 0 3 7) 0 0 = some (0, (Q.mk (wr (wr (wr sq (p &&& mask) (p + 1)) (p &&& mask) (p + cap)) ((p + 1) &&& mask) (p + 1 + 1)) (wr (wr (List.replicate 8 0) (p &&& mask) a) ((p + 1) &&& mask) b) [0, 0, 0, 0] [p + 1, p, 0, 0] [b, a, 0, 0] [1, 1, 0, 0] [0, a, 0, 0] (List.replicate 4 0) (1 :: 2 :: 3 :: 3 :: 1 :: 3 :: List.replicate 58 0) (0 :: 1 :: 0 :: 1 :: 0 :: 0 :: List.replicate 58 0) (a :: 0 :: 0 :: a :: b :: 0 :: List.replicate 58 0) (List.replicate 8 0) [1, 2, 1, 0, 0, 0] [a, 0, b, 0, 0, 0] [0, 1, 4, 0, 0, 0] [2, 3, 5, 0, 0, 0] [1, 1, 1, 0, 0, 0] [0, a, 0, 0, 0, 0] [0, 0, 0, 0, 0, 0] [-1, -1, -1, -1] (List.replicate 56 0) [0, 0, 0, 0, 0, 0, 0] [0, 0, 0, 0, 0, 0, 0] [0, 0, 0, 0, 0, 0, 0] 2 cap mask (p + 1) (p + 1 + 1) 6 0 3 7)) := by
    rw [own_qb00 p cap mask a b sq 2999, own_qb01 p cap mask a b sq 2998, own_qb02 p cap mask a b sq 2997, own_qb03 p cap mask a b sq 2996]
  rw [j_buildPreds_l57]
  simp [own_Qa, e, -List.reduceReplicate]
theorem own_qb10 (p cap mask a b : Int32) (sq : List Int32) (n : Nat) : j_buildPreds_l73 (n + 1) (Q.mk (wr (wr (wr sq (p &&& mask) (p + 1)) (p &&& mask) (p + cap)) ((p + 1) &&& mask) (p + 1 + 1)) (wr (wr (List.replicate 8 0) (p &&& mask) a) ((p + 1) &&& mask) b) [0, 0, 0, 0] [p + 1, p, 0, 0] [b, a, 0, 0] [1, 1, 0, 0] [0, a, 0, 0] (List.replicate 4 0) (1 :: 2 :: 3 :: 3 :: 1 :: 3 :: List.replicate 58 0) (0 :: 1 :: 0 :: 1 :: 0 :: 0 :: List.replicate 58 0) (a :: 0 :: 0 :: a :: b :: 0 :: List.replicate 58 0) (List.replicate 8 0) [1, 2, 1, 0, 0, 0] [a, 0, b, 0, 0, 0] [0, 1, 4, 0, 0, 0] [2, 3, 5, 0, 0, 0] [1, 1, 1, 0, 0, 0] [0, a, 0, 0, 0, 0] [0, 0, 0, 0, 0, 0] [-1, -1, -1, -1] (List.replicate 56 0) [0, 0, 0, 0, 0, 0, 0] [0, 0, 0, 0, 0, 0, 0] [0, 0, 0, 0, 0, 0, 0] 2 cap mask (p + 1) (p + 1 + 1) 6 0 3 7) 1 0 = j_buildPreds_l73 n (Q.mk (wr (wr (wr sq (p &&& mask) (p + 1)) (p &&& mask) (p + cap)) ((p + 1) &&& mask) (p + 1 + 1)) (wr (wr (List.replicate 8 0) (p &&& mask) a) ((p + 1) &&& mask) b) [0, 0, 0, 0] [p + 1, p, 0, 0] [b, a, 0, 0] [1, 1, 0, 0] [0, a, 0, 0] (List.replicate 4 0) (1 :: 2 :: 3 :: 3 :: 1 :: 3 :: List.replicate 58 0) (0 :: 1 :: 0 :: 1 :: 0 :: 0 :: List.replicate 58 0) (a :: 0 :: 0 :: a :: b :: 0 :: List.replicate 58 0) (List.replicate 8 0) [1, 2, 1, 0, 0, 0] [a, 0, b, 0, 0, 0] [0, 1, 4, 0, 0, 0] [2, 3, 5, 0, 0, 0] [1, 1, 1, 0, 0, 0] [0, a, 0, 0, 0, 0] [0, 0, 0, 0, 0, 0] [-1, -1, -1, -1] (List.replicate 56 0) [0, 0, 0, 0, 0, 0, 0] [0, 0, 0, 0, 0, 0, 0] [0, 0, 0, 0, 0, 0, 0] 2 cap mask (p + 1) (p + 1 + 1) 6 0 3 7) 1 1 := by
  rw [j_buildPreds_l73]
  simp [j_buildPreds_b49, j_buildPreds_b128, own_ish0, own_ish1, own_ish2, own_or01, own_or12, own_or34, own_Qa, own_in_4_0, own_in_4_1, own_in_4_2, own_in_4_3, own_in_64_0, own_in_64_1, own_in_64_2, own_in_64_3, own_in_64_4, own_in_64_5, own_in_6_0, own_in_6_1, own_in_6_2, own_in_6_3, own_in_6_4, own_in_6_5, own_in_7_0, own_in_7_1, own_in_7_2, own_in_7_3, own_in_56_0, own_in_56_8, own_in_56_16, own_in_56_24, own_an_0_0, own_an_0_1, own_an_1_1, own_an_1_2, own_an_3_1, own_an_3_2, own_an_3_4, own_an_0_3, own_an_3_3, own_an_1_7, own_an_3_7, own_an_7_7, own_an_1_0, own_an_3_0, own_x0, own_x1, own_x2, own_x3, own_x4, own_x5, own_y0, own_y1, own_y2, own_y3, own_y4, own_y5, own_ll64, own_ll4, own_ll6, own_ll7, -List.reduceReplicate]
theorem own_qb11 (p cap mask a b : Int32) (sq : List Int32) (n : Nat) : j_buildPreds_l73 (n + 1) (Q.mk (wr (wr (wr sq (p &&& mask) (p + 1)) (p &&& mask) (p + cap)) ((p + 1) &&& mask) (p + 1 + 1)) (wr (wr (List.replicate 8 0) (p &&& mask) a) ((p + 1) &&& mask) b) [0, 0, 0, 0] [p + 1, p, 0, 0] [b, a, 0, 0] [1, 1, 0, 0] [0, a, 0, 0] (List.replicate 4 0) (1 :: 2 :: 3 :: 3 :: 1 :: 3 :: List.replicate 58 0) (0 :: 1 :: 0 :: 1 :: 0 :: 0 :: List.replicate 58 0) (a :: 0 :: 0 :: a :: b :: 0 :: List.replicate 58 0) (List.replicate 8 0) [1, 2, 1, 0, 0, 0] [a, 0, b, 0, 0, 0] [0, 1, 4, 0, 0, 0] [2, 3, 5, 0, 0, 0] [1, 1, 1, 0, 0, 0] [0, a, 0, 0, 0, 0] [0, 0, 0, 0, 0, 0] [-1, -1, -1, -1] (List.replicate 56 0) [0, 0, 0, 0, 0, 0, 0] [0, 0, 0, 0, 0, 0, 0] [0, 0, 0, 0, 0, 0, 0] 2 cap mask (p + 1) (p + 1 + 1) 6 0 3 7) 1 1 = j_buildPreds_l73 n (Q.mk (wr (wr (wr sq (p &&& mask) (p + 1)) (p &&& mask) (p + cap)) ((p + 1) &&& mask) (p + 1 + 1)) (wr (wr (List.replicate 8 0) (p &&& mask) a) ((p + 1) &&& mask) b) [0, 0, 0, 0] [p + 1, p, 0, 0] [b, a, 0, 0] [1, 1, 0, 0] [0, a, 0, 0] (List.replicate 4 0) (1 :: 2 :: 3 :: 3 :: 1 :: 3 :: List.replicate 58 0) (0 :: 1 :: 0 :: 1 :: 0 :: 0 :: List.replicate 58 0) (a :: 0 :: 0 :: a :: b :: 0 :: List.replicate 58 0) (List.replicate 8 0) [1, 2, 1, 0, 0, 0] [a, 0, b, 0, 0, 0] [0, 1, 4, 0, 0, 0] [2, 3, 5, 0, 0, 0] [1, 1, 1, 0, 0, 0] [0, a, 0, 0, 0, 0] [0, 0, 0, 0, 0, 0] [-1, -1, -1, -1] (List.replicate 56 0) [0, 0, 0, 0, 0, 0, 0] [0, 0, 0, 0, 0, 0, 0] [0, 0, 0, 0, 0, 0, 0] 2 cap mask (p + 1) (p + 1 + 1) 6 0 3 7) 1 2 := by
  rw [j_buildPreds_l73]
  simp [j_buildPreds_b49, j_buildPreds_b128, own_ish0, own_ish1, own_ish2, own_or01, own_or12, own_or34, own_Qa, own_in_4_0, own_in_4_1, own_in_4_2, own_in_4_3, own_in_64_0, own_in_64_1, own_in_64_2, own_in_64_3, own_in_64_4, own_in_64_5, own_in_6_0, own_in_6_1, own_in_6_2, own_in_6_3, own_in_6_4, own_in_6_5, own_in_7_0, own_in_7_1, own_in_7_2, own_in_7_3, own_in_56_0, own_in_56_8, own_in_56_16, own_in_56_24, own_an_0_0, own_an_0_1, own_an_1_1, own_an_1_2, own_an_3_1, own_an_3_2, own_an_3_4, own_an_0_3, own_an_3_3, own_an_1_7, own_an_3_7, own_an_7_7, own_an_1_0, own_an_3_0, own_x0, own_x1, own_x2, own_x3, own_x4, own_x5, own_y0, own_y1, own_y2, own_y3, own_y4, own_y5, own_ll64, own_ll4, own_ll6, own_ll7, -List.reduceReplicate]
theorem own_qb12 (p cap mask a b : Int32) (sq : List Int32) (n : Nat) : j_buildPreds_l73 (n + 1) (Q.mk (wr (wr (wr sq (p &&& mask) (p + 1)) (p &&& mask) (p + cap)) ((p + 1) &&& mask) (p + 1 + 1)) (wr (wr (List.replicate 8 0) (p &&& mask) a) ((p + 1) &&& mask) b) [0, 0, 0, 0] [p + 1, p, 0, 0] [b, a, 0, 0] [1, 1, 0, 0] [0, a, 0, 0] (List.replicate 4 0) (1 :: 2 :: 3 :: 3 :: 1 :: 3 :: List.replicate 58 0) (0 :: 1 :: 0 :: 1 :: 0 :: 0 :: List.replicate 58 0) (a :: 0 :: 0 :: a :: b :: 0 :: List.replicate 58 0) (List.replicate 8 0) [1, 2, 1, 0, 0, 0] [a, 0, b, 0, 0, 0] [0, 1, 4, 0, 0, 0] [2, 3, 5, 0, 0, 0] [1, 1, 1, 0, 0, 0] [0, a, 0, 0, 0, 0] [0, 0, 0, 0, 0, 0] [-1, -1, -1, -1] (List.replicate 56 0) [0, 0, 0, 0, 0, 0, 0] [0, 0, 0, 0, 0, 0, 0] [0, 0, 0, 0, 0, 0, 0] 2 cap mask (p + 1) (p + 1 + 1) 6 0 3 7) 1 2 = j_buildPreds_l73 n (Q.mk (wr (wr (wr sq (p &&& mask) (p + 1)) (p &&& mask) (p + cap)) ((p + 1) &&& mask) (p + 1 + 1)) (wr (wr (List.replicate 8 0) (p &&& mask) a) ((p + 1) &&& mask) b) [0, 0, 0, 0] [p + 1, p, 0, 0] [b, a, 0, 0] [1, 1, 0, 0] [0, a, 0, 0] (List.replicate 4 0) (1 :: 2 :: 3 :: 3 :: 1 :: 3 :: List.replicate 58 0) (0 :: 1 :: 0 :: 1 :: 0 :: 0 :: List.replicate 58 0) (a :: 0 :: 0 :: a :: b :: 0 :: List.replicate 58 0) (List.replicate 8 0) [1, 2, 1, 0, 0, 0] [a, 0, b, 0, 0, 0] [0, 1, 4, 0, 0, 0] [2, 3, 5, 0, 0, 0] [1, 1, 1, 0, 0, 0] [0, a, 0, 0, 0, 0] [0, 0, 0, 0, 0, 0] [-1, -1, -1, -1] (List.replicate 56 0) [0, 0, 0, 0, 0, 0, 0] [0, 0, 0, 0, 0, 0, 0] [0, 0, 0, 0, 0, 0, 0] 2 cap mask (p + 1) (p + 1 + 1) 6 0 3 7) 1 3 := by
  rw [j_buildPreds_l73]
  simp [j_buildPreds_b49, j_buildPreds_b128, own_ish0, own_ish1, own_ish2, own_or01, own_or12, own_or34, own_Qa, own_in_4_0, own_in_4_1, own_in_4_2, own_in_4_3, own_in_64_0, own_in_64_1, own_in_64_2, own_in_64_3, own_in_64_4, own_in_64_5, own_in_6_0, own_in_6_1, own_in_6_2, own_in_6_3, own_in_6_4, own_in_6_5, own_in_7_0, own_in_7_1, own_in_7_2, own_in_7_3, own_in_56_0, own_in_56_8, own_in_56_16, own_in_56_24, own_an_0_0, own_an_0_1, own_an_1_1, own_an_1_2, own_an_3_1, own_an_3_2, own_an_3_4, own_an_0_3, own_an_3_3, own_an_1_7, own_an_3_7, own_an_7_7, own_an_1_0, own_an_3_0, own_x0, own_x1, own_x2, own_x3, own_x4, own_x5, own_y0, own_y1, own_y2, own_y3, own_y4, own_y5, own_ll64, own_ll4, own_ll6, own_ll7, -List.reduceReplicate]
theorem own_qb13 (p cap mask a b : Int32) (sq : List Int32) (n : Nat) : j_buildPreds_l73 (n + 1) (Q.mk (wr (wr (wr sq (p &&& mask) (p + 1)) (p &&& mask) (p + cap)) ((p + 1) &&& mask) (p + 1 + 1)) (wr (wr (List.replicate 8 0) (p &&& mask) a) ((p + 1) &&& mask) b) [0, 0, 0, 0] [p + 1, p, 0, 0] [b, a, 0, 0] [1, 1, 0, 0] [0, a, 0, 0] (List.replicate 4 0) (1 :: 2 :: 3 :: 3 :: 1 :: 3 :: List.replicate 58 0) (0 :: 1 :: 0 :: 1 :: 0 :: 0 :: List.replicate 58 0) (a :: 0 :: 0 :: a :: b :: 0 :: List.replicate 58 0) (List.replicate 8 0) [1, 2, 1, 0, 0, 0] [a, 0, b, 0, 0, 0] [0, 1, 4, 0, 0, 0] [2, 3, 5, 0, 0, 0] [1, 1, 1, 0, 0, 0] [0, a, 0, 0, 0, 0] [0, 0, 0, 0, 0, 0] [-1, -1, -1, -1] (List.replicate 56 0) [0, 0, 0, 0, 0, 0, 0] [0, 0, 0, 0, 0, 0, 0] [0, 0, 0, 0, 0, 0, 0] 2 cap mask (p + 1) (p + 1 + 1) 6 0 3 7) 1 3 = some (1, (Q.mk (wr (wr (wr sq (p &&& mask) (p + 1)) (p &&& mask) (p + cap)) ((p + 1) &&& mask) (p + 1 + 1)) (wr (wr (List.replicate 8 0) (p &&& mask) a) ((p + 1) &&& mask) b) [0, 0, 0, 0] [p + 1, p, 0, 0] [b, a, 0, 0] [1, 1, 0, 0] [0, a, 0, 0] (List.replicate 4 0) (1 :: 2 :: 3 :: 3 :: 1 :: 3 :: List.replicate 58 0) (0 :: 1 :: 0 :: 1 :: 0 :: 0 :: List.replicate 58 0) (a :: 0 :: 0 :: a :: b :: 0 :: List.replicate 58 0) (List.replicate 8 0) [1, 2, 1, 0, 0, 0] [a, 0, b, 0, 0, 0] [0, 1, 4, 0, 0, 0] [2, 3, 5, 0, 0, 0] [1, 1, 1, 0, 0, 0] [0, a, 0, 0, 0, 0] [0, 0, 0, 0, 0, 0] [-1, -1, -1, -1] (List.replicate 56 0) [0, 0, 0, 0, 0, 0, 0] [0, 0, 0, 0, 0, 0, 0] [0, 0, 0, 0, 0, 0, 0] 2 cap mask (p + 1) (p + 1 + 1) 6 0 3 7)) := by
  rw [j_buildPreds_l73]
  simp [j_buildPreds_b49, j_buildPreds_b128, own_ish0, own_ish1, own_ish2, own_or01, own_or12, own_or34, own_Qa, own_in_4_0, own_in_4_1, own_in_4_2, own_in_4_3, own_in_64_0, own_in_64_1, own_in_64_2, own_in_64_3, own_in_64_4, own_in_64_5, own_in_6_0, own_in_6_1, own_in_6_2, own_in_6_3, own_in_6_4, own_in_6_5, own_in_7_0, own_in_7_1, own_in_7_2, own_in_7_3, own_in_56_0, own_in_56_8, own_in_56_16, own_in_56_24, own_an_0_0, own_an_0_1, own_an_1_1, own_an_1_2, own_an_3_1, own_an_3_2, own_an_3_4, own_an_0_3, own_an_3_3, own_an_1_7, own_an_3_7, own_an_7_7, own_an_1_0, own_an_3_0, own_x0, own_x1, own_x2, own_x3, own_x4, own_x5, own_y0, own_y1, own_y2, own_y3, own_y4, own_y5, own_ll64, own_ll4, own_ll6, own_ll7, -List.reduceReplicate]
theorem own_qc1 (p cap mask a b : Int32) (sq : List Int32) (n : Nat) : j_buildPreds_l57 (n + 1) (Q.mk (wr (wr (wr sq (p &&& mask) (p + 1)) (p &&& mask) (p + cap)) ((p + 1) &&& mask) (p + 1 + 1)) (wr (wr (List.replicate 8 0) (p &&& mask) a) ((p + 1) &&& mask) b) [0, 0, 0, 0] [p + 1, p, 0, 0] [b, a, 0, 0] [1, 1, 0, 0] [0, a, 0, 0] (List.replicate 4 0) (1 :: 2 :: 3 :: 3 :: 1 :: 3 :: List.replicate 58 0) (0 :: 1 :: 0 :: 1 :: 0 :: 0 :: List.replicate 58 0) (a :: 0 :: 0 :: a :: b :: 0 :: List.replicate 58 0) (List.replicate 8 0) [1, 2, 1, 0, 0, 0] [a, 0, b, 0, 0, 0] [0, 1, 4, 0, 0, 0] [2, 3, 5, 0, 0, 0] [1, 1, 1, 0, 0, 0] [0, a, 0, 0, 0, 0] [0, 0, 0, 0, 0, 0] [-1, -1, -1, -1] (List.replicate 56 0) [0, 0, 0, 0, 0, 0, 0] [0, 0, 0, 0, 0, 0, 0] [0, 0, 0, 0, 0, 0, 0] 2 cap mask (p + 1) (p + 1 + 1) 6 0 3 7) 1 = j_buildPreds_l57 n (Q.mk (wr (wr (wr sq (p &&& mask) (p + 1)) (p &&& mask) (p + cap)) ((p + 1) &&& mask) (p + 1 + 1)) (wr (wr (List.replicate 8 0) (p &&& mask) a) ((p + 1) &&& mask) b) [0, 0, 0, 0] [p + 1, p, 0, 0] [b, a, 0, 0] [1, 1, 0, 0] [0, a, 0, 0] (List.replicate 4 0) (1 :: 2 :: 3 :: 3 :: 1 :: 3 :: List.replicate 58 0) (0 :: 1 :: 0 :: 1 :: 0 :: 0 :: List.replicate 58 0) (a :: 0 :: 0 :: a :: b :: 0 :: List.replicate 58 0) (List.replicate 8 0) [1, 2, 1, 0, 0, 0] [a, 0, b, 0, 0, 0] [0, 1, 4, 0, 0, 0] [2, 3, 5, 0, 0, 0] [1, 1, 1, 0, 0, 0] [0, a, 0, 0, 0, 0] [0, 0, 0, 0, 0, 0] [-1, -1, -1, -1] (List.replicate 56 0) [0, 0, 0, 0, 0, 0, 0] [0, 0, 0, 0, 0, 0, 0] [0, 0, 0, 0, 0, 0, 0] 2 cap mask (p + 1) (p + 1 + 1) 6 0 3 7) 2 := by
  have e : j_buildPreds_l73 3000 (Q.mk (wr (wr (wr sq (p &&& mask) (p + 1)) (p &&& mask) (p + cap)) ((p + 1) &&& mask) (p + 1 + 1)) (wr (wr (List.replicate 8 0) (p &&& mask) a) ((p + 1) &&& mask) b) [0, 0, 0, 0] [p + 1, p, 0, 0] [b, a, 0, 0] [1, 1, 0, 0] [0, a, 0, 0] (List.replicate 4 0) (1 :: 2 :: 3 :: 3 :: 1 :: 3 :: List.replicate 58 0) (0 :: 1 :: 0 :: 1 :: 0 :: 0 :: List.replicate 58 0) (a :: 0 :: 0 :: a :: b :: 0 :: List.replicate 58 0) (List.replicate 8 0) [1, 2, 1, 0, 0, 0] [a, 0, b, 0, 0, 0] [0, 1, 4, 0, 0, 0] [2, 3, 5, 0, 0, 0] [1, 1, 1, 0, 0, 0] [0, a, 0, 0, 0, 0] [0, 0, 0, 0, 0, 0] [-1, -1, -1, -1] (List.replicate 56 0) [0, 0, 0, 0, 0, 0, 0] [0, 0, 0, 0, 0, 0, 0] [0, 0, 0, 0, 0, 0, 0] 2 cap mask (p + 1) (p + 1 + 1) 6 0 3 7) 1 0 = some (1, (Q.mk (wr (wr (wr sq (p &&& mask) (p + 1)) (p &&& mask) (p + cap)) ((p + 1) &&& mask) (p + 1 + 1)) (wr (wr (List.replicate 8 0) (p &&& mask) a) ((p + 1) &&& mask) b) [0, 0, 0, 0] [p + 1, p, 0, 0] [b, a, 0, 0] [1, 1, 0, 0] [0, a, 0, 0] (List.replicate 4 0) (1 :: 2 :: 3 :: 3 :: 1 :: 3 :: List.replicate 58 0) (0 :: 1 :: 0 :: 1 :: 0 :: 0 :: List.replicate 58 0) (a :: 0 :: 0 :: a :: b :: 0 :: List.replicate 58 0) (List.replicate 8 0) [1, 2, 1, 0, 0, 0] [a, 0, b, 0, 0, 0] [0, 1, 4, 0, 0, 0] [2, 3, 5, 0, 0, 0] [1, 1, 1, 0, 0, 0] [0, a, 0, 0, 0, 0] [0, 0, 0, 0, 0, 0] [-1, -1, -1, -1] (List.replicate 56 0) [0, 0, 0, 0, 0, 0, 0] [0, 0, 0, 0, 0, 0, 0] [0, 0, 0, 0, 0, 0, 0] 2 cap mask (p + 1) (p + 1 + 1) 6 0 3 7)) := by
    rw [own_qb10 p cap mask a b sq 2999, own_qb11 p cap mask a b sq 2998, own_qb12 p cap mask a b sq 2997, own_qb13 p cap mask a b sq 2996]
  rw [j_buildPreds_l57]
  simp [own_Qa, e, -List.reduceReplicate]
theorem own_qb20 (p cap mask a b : Int32) (sq : List Int32) (n : Nat) : j_buildPreds_l73 (n + 1) (Q.mk (wr (wr (wr sq (p &&& mask) (p + 1)) (p &&& mask) (p + cap)) ((p + 1) &&& mask) (p + 1 + 1)) (wr (wr (List.replicate 8 0) (p &&& mask) a) ((p + 1) &&& mask) b) [0, 0, 0, 0] [p + 1, p, 0, 0] [b, a, 0, 0] [1, 1, 0, 0] [0, a, 0, 0] (List.replicate 4 0) (1 :: 2 :: 3 :: 3 :: 1 :: 3 :: List.replicate 58 0) (0 :: 1 :: 0 :: 1 :: 0 :: 0 :: List.replicate 58 0) (a :: 0 :: 0 :: a :: b :: 0 :: List.replicate 58 0) (List.replicate 8 0) [1, 2, 1, 0, 0, 0] [a, 0, b, 0, 0, 0] [0, 1, 4, 0, 0, 0] [2, 3, 5, 0, 0, 0] [1, 1, 1, 0, 0, 0] [0, a, 0, 0, 0, 0] [0, 0, 0, 0, 0, 0] [-1, -1, -1, -1] (List.replicate 56 0) [0, 0, 0, 0, 0, 0, 0] [0, 0, 0, 0, 0, 0, 0] [0, 0, 0, 0, 0, 0, 0] 2 cap mask (p + 1) (p + 1 + 1) 6 0 3 7) 2 0 = j_buildPreds_l73 n (Q.mk (wr (wr (wr sq (p &&& mask) (p + 1)) (p &&& mask) (p + cap)) ((p + 1) &&& mask) (p + 1 + 1)) (wr (wr (List.replicate 8 0) (p &&& mask) a) ((p + 1) &&& mask) b) [0, 0, 0, 0] [p + 1, p, 0, 0] [b, a, 0, 0] [1, 1, 0, 0] [0, a, 0, 0] (List.replicate 4 0) (1 :: 2 :: 3 :: 3 :: 1 :: 3 :: List.replicate 58 0) (0 :: 1 :: 0 :: 1 :: 0 :: 0 :: List.replicate 58 0) (a :: 0 :: 0 :: a :: b :: 0 :: List.replicate 58 0) (List.replicate 8 0) [1, 2, 1, 0, 0, 0] [a, 0, b, 0, 0, 0] [0, 1, 4, 0, 0, 0] [2, 3, 5, 0, 0, 0] [1, 1, 1, 0, 0, 0] [0, a, 0, 0, 0, 0] [0, 0, 1, 0, 0, 0] [-1, -1, -1, -1] (List.replicate 56 0) [0, 0, 0, 0, 0, 0, 0] [0, 0, 0, 0, 0, 0, 0] [0, 0, 0, 0, 0, 0, 0] 2 cap mask (p + 1) (p + 1 + 1) 6 0 3 7) 2 1 := by
  rw [j_buildPreds_l73]
  simp [j_buildPreds_b49, j_buildPreds_b128, own_ish0, own_ish1, own_ish2, own_or01, own_or12, own_or34, own_Qa, own_in_4_0, own_in_4_1, own_in_4_2, own_in_4_3, own_in_64_0, own_in_64_1, own_in_64_2, own_in_64_3, own_in_64_4, own_in_64_5, own_in_6_0, own_in_6_1, own_in_6_2, own_in_6_3, own_in_6_4, own_in_6_5, own_in_7_0, own_in_7_1, own_in_7_2, own_in_7_3, own_in_56_0, own_in_56_8, own_in_56_16, own_in_56_24, own_an_0_0, own_an_0_1, own_an_1_1, own_an_1_2, own_an_3_1, own_an_3_2, own_an_3_4, own_an_0_3, own_an_3_3, own_an_1_7, own_an_3_7, own_an_7_7, own_an_1_0, own_an_3_0, own_x0, own_x1, own_x2, own_x3, own_x4, own_x5, own_y0, own_y1, own_y2, own_y3, own_y4, own_y5, own_ll64, own_ll4, own_ll6, own_ll7, -List.reduceReplicate]
theorem own_qb21 (p cap mask a b : Int32) (sq : List Int32) (n : Nat) : j_buildPreds_l73 (n + 1) (Q.mk (wr (wr (wr sq (p &&& mask) (p + 1)) (p &&& mask) (p + cap)) ((p + 1) &&& mask) (p + 1 + 1)) (wr (wr (List.replicate 8 0) (p &&& mask) a) ((p + 1) &&& mask) b) [0, 0, 0, 0] [p + 1, p, 0, 0] [b, a, 0, 0] [1, 1, 0, 0] [0, a, 0, 0] (List.replicate 4 0) (1 :: 2 :: 3 :: 3 :: 1 :: 3 :: List.replicate 58 0) (0 :: 1 :: 0 :: 1 :: 0 :: 0 :: List.replicate 58 0) (a :: 0 :: 0 :: a :: b :: 0 :: List.replicate 58 0) (List.replicate 8 0) [1, 2, 1, 0, 0, 0] [a, 0, b, 0, 0, 0] [0, 1, 4, 0, 0, 0] [2, 3, 5, 0, 0, 0] [1, 1, 1, 0, 0, 0] [0, a, 0, 0, 0, 0] [0, 0, 1, 0, 0, 0] [-1, -1, -1, -1] (List.replicate 56 0) [0, 0, 0, 0, 0, 0, 0] [0, 0, 0, 0, 0, 0, 0] [0, 0, 0, 0, 0, 0, 0] 2 cap mask (p + 1) (p + 1 + 1) 6 0 3 7) 2 1 = j_buildPreds_l73 n (Q.mk (wr (wr (wr sq (p &&& mask) (p + 1)) (p &&& mask) (p + cap)) ((p + 1) &&& mask) (p + 1 + 1)) (wr (wr (List.replicate 8 0) (p &&& mask) a) ((p + 1) &&& mask) b) [0, 0, 0, 0] [p + 1, p, 0, 0] [b, a, 0, 0] [1, 1, 0, 0] [0, a, 0, 0] (List.replicate 4 0) (1 :: 2 :: 3 :: 3 :: 1 :: 3 :: List.replicate 58 0) (0 :: 1 :: 0 :: 1 :: 0 :: 0 :: List.replicate 58 0) (a :: 0 :: 0 :: a :: b :: 0 :: List.replicate 58 0) (List.replicate 8 0) [1, 2, 1, 0, 0, 0] [a, 0, b, 0, 0, 0] [0, 1, 4, 0, 0, 0] [2, 3, 5, 0, 0, 0] [1, 1, 1, 0, 0, 0] [0, a, 0, 0, 0, 0] [0, 0, 3, 0, 0, 0] [-1, -1, -1, -1] (List.replicate 56 0) [0, 0, 0, 0, 0, 0, 0] [0, 0, 0, 0, 0, 0, 0] [0, 0, 0, 0, 0, 0, 0] 2 cap mask (p + 1) (p + 1 + 1) 6 0 3 7) 2 2 := by
  rw [j_buildPreds_l73]
  simp [j_buildPreds_b49, j_buildPreds_b128, own_ish0, own_ish1, own_ish2, own_or01, own_or12, own_or34, own_Qa, own_in_4_0, own_in_4_1, own_in_4_2, own_in_4_3, own_in_64_0, own_in_64_1, own_in_64_2, own_in_64_3, own_in_64_4, own_in_64_5, own_in_6_0, own_in_6_1, own_in_6_2, own_in_6_3, own_in_6_4, own_in_6_5, own_in_7_0, own_in_7_1, own_in_7_2, own_in_7_3, own_in_56_0, own_in_56_8, own_in_56_16, own_in_56_24, own_an_0_0, own_an_0_1, own_an_1_1, own_an_1_2, own_an_3_1, own_an_3_2, own_an_3_4, own_an_0_3, own_an_3_3, own_an_1_7, own_an_3_7, own_an_7_7, own_an_1_0, own_an_3_0, own_x0, own_x1, own_x2, own_x3, own_x4, own_x5, own_y0, own_y1, own_y2, own_y3, own_y4, own_y5, own_ll64, own_ll4, own_ll6, own_ll7, -List.reduceReplicate]
theorem own_qb22 (p cap mask a b : Int32) (sq : List Int32) (n : Nat) : j_buildPreds_l73 (n + 1) (Q.mk (wr (wr (wr sq (p &&& mask) (p + 1)) (p &&& mask) (p + cap)) ((p + 1) &&& mask) (p + 1 + 1)) (wr (wr (List.replicate 8 0) (p &&& mask) a) ((p + 1) &&& mask) b) [0, 0, 0, 0] [p + 1, p, 0, 0] [b, a, 0, 0] [1, 1, 0, 0] [0, a, 0, 0] (List.replicate 4 0) (1 :: 2 :: 3 :: 3 :: 1 :: 3 :: List.replicate 58 0) (0 :: 1 :: 0 :: 1 :: 0 :: 0 :: List.replicate 58 0) (a :: 0 :: 0 :: a :: b :: 0 :: List.replicate 58 0) (List.replicate 8 0) [1, 2, 1, 0, 0, 0] [a, 0, b, 0, 0, 0] [0, 1, 4, 0, 0, 0] [2, 3, 5, 0, 0, 0] [1, 1, 1, 0, 0, 0] [0, a, 0, 0, 0, 0] [0, 0, 3, 0, 0, 0] [-1, -1, -1, -1] (List.replicate 56 0) [0, 0, 0, 0, 0, 0, 0] [0, 0, 0, 0, 0, 0, 0] [0, 0, 0, 0, 0, 0, 0] 2 cap mask (p + 1) (p + 1 + 1) 6 0 3 7) 2 2 = j_buildPreds_l73 n (Q.mk (wr (wr (wr sq (p &&& mask) (p + 1)) (p &&& mask) (p + cap)) ((p + 1) &&& mask) (p + 1 + 1)) (wr (wr (List.replicate 8 0) (p &&& mask) a) ((p + 1) &&& mask) b) [0, 0, 0, 0] [p + 1, p, 0, 0] [b, a, 0, 0] [1, 1, 0, 0] [0, a, 0, 0] (List.replicate 4 0) (1 :: 2 :: 3 :: 3 :: 1 :: 3 :: List.replicate 58 0) (0 :: 1 :: 0 :: 1 :: 0 :: 0 :: List.replicate 58 0) (a :: 0 :: 0 :: a :: b :: 0 :: List.replicate 58 0) (List.replicate 8 0) [1, 2, 1, 0, 0, 0] [a, 0, b, 0, 0, 0] [0, 1, 4, 0, 0, 0] [2, 3, 5, 0, 0, 0] [1, 1, 1, 0, 0, 0] [0, a, 0, 0, 0, 0] [0, 0, 3, 0, 0, 0] [-1, -1, -1, -1] (List.replicate 56 0) [0, 0, 0, 0, 0, 0, 0] [0, 0, 0, 0, 0, 0, 0] [0, 0, 0, 0, 0, 0, 0] 2 cap mask (p + 1) (p + 1 + 1) 6 0 3 7) 2 3 := by
  rw [j_buildPreds_l73]
  simp [j_buildPreds_b49, j_buildPreds_b128, own_ish0, own_ish1, own_ish2, own_or01, own_or12, own_or34, own_Qa, own_in_4_0, own_in_4_1, own_in_4_2, own_in_4_3, own_in_64_0, own_in_64_1, own_in_64_2, own_in_64_3, own_in_64_4, own_in_64_5, own_in_6_0, own_in_6_1, own_in_6_2, own_in_6_3, own_in_6_4, own_in_6_5, own_in_7_0, own_in_7_1, own_in_7_2, own_in_7_3, own_in_56_0, own_in_56_8, own_in_56_16, own_in_56_24, own_an_0_0, own_an_0_1, own_an_1_1, own_an_1_2, own_an_3_1, own_an_3_2, own_an_3_4, own_an_0_3, own_an_3_3, own_an_1_7, own_an_3_7, own_an_7_7, own_an_1_0, own_an_3_0, own_x0, own_x1, own_x2, own_x3, own_x4, own_x5, own_y0, own_y1, own_y2, own_y3, own_y4, own_y5, own_ll64, own_ll4, own_ll6, own_ll7, -List.reduceReplicate]
theorem own_qb23 (p cap mask a b : Int32) (sq : List Int32) (n : Nat) : j_buildPreds_l73 (n + 1) (Q.mk (wr (wr (wr sq (p &&& mask) (p + 1)) (p &&& mask) (p + cap)) ((p + 1) &&& mask) (p + 1 + 1)) (wr (wr (List.replicate 8 0) (p &&& mask) a) ((p + 1) &&& mask) b) [0, 0, 0, 0] [p + 1, p, 0, 0] [b, a, 0, 0] [1, 1, 0, 0] [0, a, 0, 0] (List.replicate 4 0) (1 :: 2 :: 3 :: 3 :: 1 :: 3 :: List.replicate 58 0) (0 :: 1 :: 0 :: 1 :: 0 :: 0 :: List.replicate 58 0) (a :: 0 :: 0 :: a :: b :: 0 :: List.replicate 58 0) (List.replicate 8 0) [1, 2, 1, 0, 0, 0] [a, 0, b, 0, 0, 0] [0, 1, 4, 0, 0, 0] [2, 3, 5, 0, 0, 0] [1, 1, 1, 0, 0, 0] [0, a, 0, 0, 0, 0] [0, 0, 3, 0, 0, 0] [-1, -1, -1, -1] (List.replicate 56 0) [0, 0, 0, 0, 0, 0, 0] [0, 0, 0, 0, 0, 0, 0] [0, 0, 0, 0, 0, 0, 0] 2 cap mask (p + 1) (p + 1 + 1) 6 0 3 7) 2 3 = some (2, (Q.mk (wr (wr (wr sq (p &&& mask) (p + 1)) (p &&& mask) (p + cap)) ((p + 1) &&& mask) (p + 1 + 1)) (wr (wr (List.replicate 8 0) (p &&& mask) a) ((p + 1) &&& mask) b) [0, 0, 0, 0] [p + 1, p, 0, 0] [b, a, 0, 0] [1, 1, 0, 0] [0, a, 0, 0] (List.replicate 4 0) (1 :: 2 :: 3 :: 3 :: 1 :: 3 :: List.replicate 58 0) (0 :: 1 :: 0 :: 1 :: 0 :: 0 :: List.replicate 58 0) (a :: 0 :: 0 :: a :: b :: 0 :: List.replicate 58 0) (List.replicate 8 0) [1, 2, 1, 0, 0, 0] [a, 0, b, 0, 0, 0] [0, 1, 4, 0, 0, 0] [2, 3, 5, 0, 0, 0] [1, 1, 1, 0, 0, 0] [0, a, 0, 0, 0, 0] [0, 0, 3, 0, 0, 0] [-1, -1, -1, -1] (List.replicate 56 0) [0, 0, 0, 0, 0, 0, 0] [0, 0, 0, 0, 0, 0, 0] [0, 0, 0, 0, 0, 0, 0] 2 cap mask (p + 1) (p + 1 + 1) 6 0 3 7)) := by
  rw [j_buildPreds_l73]
  simp [j_buildPreds_b49, j_buildPreds_b128, own_ish0, own_ish1, own_ish2, own_or01, own_or12, own_or34, own_Qa, own_in_4_0, own_in_4_1, own_in_4_2, own_in_4_3, own_in_64_0, own_in_64_1, own_in_64_2, own_in_64_3, own_in_64_4, own_in_64_5, own_in_6_0, own_in_6_1, own_in_6_2, own_in_6_3, own_in_6_4, own_in_6_5, own_in_7_0, own_in_7_1, own_in_7_2, own_in_7_3, own_in_56_0, own_in_56_8, own_in_56_16, own_in_56_24, own_an_0_0, own_an_0_1, own_an_1_1, own_an_1_2, own_an_3_1, own_an_3_2, own_an_3_4, own_an_0_3, own_an_3_3, own_an_1_7, own_an_3_7, own_an_7_7, own_an_1_0, own_an_3_0, own_x0, own_x1, own_x2, own_x3, own_x4, own_x5, own_y0, own_y1, own_y2, own_y3, own_y4, own_y5, own_ll64, own_ll4, own_ll6, own_ll7, -List.reduceReplicate]
theorem own_qc2 (p cap mask a b : Int32) (sq : List Int32) (n : Nat) : j_buildPreds_l57 (n + 1) (Q.mk (wr (wr (wr sq (p &&& mask) (p + 1)) (p &&& mask) (p + cap)) ((p + 1) &&& mask) (p + 1 + 1)) (wr (wr (List.replicate 8 0) (p &&& mask) a) ((p + 1) &&& mask) b) [0, 0, 0, 0] [p + 1, p, 0, 0] [b, a, 0, 0] [1, 1, 0, 0] [0, a, 0, 0] (List.replicate 4 0) (1 :: 2 :: 3 :: 3 :: 1 :: 3 :: List.replicate 58 0) (0 :: 1 :: 0 :: 1 :: 0 :: 0 :: List.replicate 58 0) (a :: 0 :: 0 :: a :: b :: 0 :: List.replicate 58 0) (List.replicate 8 0) [1, 2, 1, 0, 0, 0] [a, 0, b, 0, 0, 0] [0, 1, 4, 0, 0, 0] [2, 3, 5, 0, 0, 0] [1, 1, 1, 0, 0, 0] [0, a, 0, 0, 0, 0] [0, 0, 0, 0, 0, 0] [-1, -1, -1, -1] (List.replicate 56 0) [0, 0, 0, 0, 0, 0, 0] [0, 0, 0, 0, 0, 0, 0] [0, 0, 0, 0, 0, 0, 0] 2 cap mask (p + 1) (p + 1 + 1) 6 0 3 7) 2 = j_buildPreds_l57 n (Q.mk (wr (wr (wr sq (p &&& mask) (p + 1)) (p &&& mask) (p + cap)) ((p + 1) &&& mask) (p + 1 + 1)) (wr (wr (List.replicate 8 0) (p &&& mask) a) ((p + 1) &&& mask) b) [0, 0, 0, 0] [p + 1, p, 0, 0] [b, a, 0, 0] [1, 1, 0, 0] [0, a, 0, 0] (List.replicate 4 0) (1 :: 2 :: 3 :: 3 :: 1 :: 3 :: List.replicate 58 0) (0 :: 1 :: 0 :: 1 :: 0 :: 0 :: List.replicate 58 0) (a :: 0 :: 0 :: a :: b :: 0 :: List.replicate 58 0) (List.replicate 8 0) [1, 2, 1, 0, 0, 0] [a, 0, b, 0, 0, 0] [0, 1, 4, 0, 0, 0] [2, 3, 5, 0, 0, 0] [1, 1, 1, 0, 0, 0] [0, a, 0, 0, 0, 0] [0, 0, 3, 0, 0, 0] [-1, -1, -1, -1] (List.replicate 56 0) [0, 0, 0, 0, 0, 0, 0] [0, 0, 0, 0, 0, 0, 0] [0, 0, 0, 0, 0, 0, 0] 2 cap mask (p + 1) (p + 1 + 1) 6 0 3 7) 3 := by
  have e : j_buildPreds_l73 3000 (Q.mk (wr (wr (wr sq (p &&& mask) (p + 1)) (p &&& mask) (p + cap)) ((p + 1) &&& mask) (p + 1 + 1)) (wr (wr (List.replicate 8 0) (p &&& mask) a) ((p + 1) &&& mask) b) [0, 0, 0, 0] [p + 1, p, 0, 0] [b, a, 0, 0] [1, 1, 0, 0] [0, a, 0, 0] (List.replicate 4 0) (1 :: 2 :: 3 :: 3 :: 1 :: 3 :: List.replicate 58 0) (0 :: 1 :: 0 :: 1 :: 0 :: 0 :: List.replicate 58 0) (a :: 0 :: 0 :: a :: b :: 0 :: List.replicate 58 0) (List.replicate 8 0) [1, 2, 1, 0, 0, 0] [a, 0, b, 0, 0, 0] [0, 1, 4, 0, 0, 0] [2, 3, 5, 0, 0, 0] [1, 1, 1, 0, 0, 0] [0, a, 0, 0, 0, 0] [0, 0, 0, 0, 0, 0] [-1, -1, -1, -1] (List.replicate 56 0) [0, 0, 0, 0, 0, 0, 0] [0, 0, 0, 0, 0, 0, 0] [0, 0, 0, 0, 0, 0, 0] 2 cap mask (p + 1) (p + 1 + 1) 6 0 3 7) 2 0 = some (2, (Q.mk (wr (wr (wr sq (p &&& mask) (p + 1)) (p &&& mask) (p + cap)) ((p + 1) &&& mask) (p + 1 + 1)) (wr (wr (List.replicate 8 0) (p &&& mask) a) ((p + 1) &&& mask) b) [0, 0, 0, 0] [p + 1, p, 0, 0] [b, a, 0, 0] [1, 1, 0, 0] [0, a, 0, 0] (List.replicate 4 0) (1 :: 2 :: 3 :: 3 :: 1 :: 3 :: List.replicate 58 0) (0 :: 1 :: 0 :: 1 :: 0 :: 0 :: List.replicate 58 0) (a :: 0 :: 0 :: a :: b :: 0 :: List.replicate 58 0) (List.replicate 8 0) [1, 2, 1, 0, 0, 0] [a, 0, b, 0, 0, 0] [0, 1, 4, 0, 0, 0] [2, 3, 5, 0, 0, 0] [1, 1, 1, 0, 0, 0] [0, a, 0, 0, 0, 0] [0, 0, 3, 0, 0, 0] [-1, -1, -1, -1] (List.replicate 56 0) [0, 0, 0, 0, 0, 0, 0] [0, 0, 0, 0, 0, 0, 0] [0, 0, 0, 0, 0, 0, 0] 2 cap mask (p + 1) (p + 1 + 1) 6 0 3 7)) := by
    rw [own_qb20 p cap mask a b sq 2999, own_qb21 p cap mask a b sq 2998, own_qb22 p cap mask a b sq 2997, own_qb23 p cap mask a b sq 2996]
  rw [j_buildPreds_l57]
  simp [own_Qa, e, -List.reduceReplicate]
theorem own_qc3 (p cap mask a b : Int32) (sq : List Int32) (n : Nat) : j_buildPreds_l57 (n + 1) (Q.mk (wr (wr (wr sq (p &&& mask) (p + 1)) (p &&& mask) (p + cap)) ((p + 1) &&& mask) (p + 1 + 1)) (wr (wr (List.replicate 8 0) (p &&& mask) a) ((p + 1) &&& mask) b) [0, 0, 0, 0] [p + 1, p, 0, 0] [b, a, 0, 0] [1, 1, 0, 0] [0, a, 0, 0] (List.replicate 4 0) (1 :: 2 :: 3 :: 3 :: 1 :: 3 :: List.replicate 58 0) (0 :: 1 :: 0 :: 1 :: 0 :: 0 :: List.replicate 58 0) (a :: 0 :: 0 :: a :: b :: 0 :: List.replicate 58 0) (List.replicate 8 0) [1, 2, 1, 0, 0, 0] [a, 0, b, 0, 0, 0] [0, 1, 4, 0, 0, 0] [2, 3, 5, 0, 0, 0] [1, 1, 1, 0, 0, 0] [0, a, 0, 0, 0, 0] [0, 0, 3, 0, 0, 0] [-1, -1, -1, -1] (List.replicate 56 0) [0, 0, 0, 0, 0, 0, 0] [0, 0, 0, 0, 0, 0, 0] [0, 0, 0, 0, 0, 0, 0] 2 cap mask (p + 1) (p + 1 + 1) 6 0 3 7) 3 = some (Q.mk (wr (wr (wr sq (p &&& mask) (p + 1)) (p &&& mask) (p + cap)) ((p + 1) &&& mask) (p + 1 + 1)) (wr (wr (List.replicate 8 0) (p &&& mask) a) ((p + 1) &&& mask) b) [0, 0, 0, 0] [p + 1, p, 0, 0] [b, a, 0, 0] [1, 1, 0, 0] [0, a, 0, 0] (List.replicate 4 0) (1 :: 2 :: 3 :: 3 :: 1 :: 3 :: List.replicate 58 0) (0 :: 1 :: 0 :: 1 :: 0 :: 0 :: List.replicate 58 0) (a :: 0 :: 0 :: a :: b :: 0 :: List.replicate 58 0) (List.replicate 8 0) [1, 2, 1, 0, 0, 0] [a, 0, b, 0, 0, 0] [0, 1, 4, 0, 0, 0] [2, 3, 5, 0, 0, 0] [1, 1, 1, 0, 0, 0] [0, a, 0, 0, 0, 0] [0, 0, 3, 0, 0, 0] [-1, -1, -1, -1] (List.replicate 56 0) [0, 0, 0, 0, 0, 0, 0] [0, 0, 0, 0, 0, 0, 0] [0, 0, 0, 0, 0, 0, 0] 2 cap mask (p + 1) (p + 1 + 1) 6 0 3 7) := by
  rw [j_buildPreds_l57]
  simp [j_buildPreds_b49, j_buildPreds_b128, own_ish0, own_ish1, own_ish2, own_or01, own_or12, own_or34, own_Qa, own_in_4_0, own_in_4_1, own_in_4_2, own_in_4_3, own_in_64_0, own_in_64_1, own_in_64_2, own_in_64_3, own_in_64_4, own_in_64_5, own_in_6_0, own_in_6_1, own_in_6_2, own_in_6_3, own_in_6_4, own_in_6_5, own_in_7_0, own_in_7_1, own_in_7_2, own_in_7_3, own_in_56_0, own_in_56_8, own_in_56_16, own_in_56_24, own_an_0_0, own_an_0_1, own_an_1_1, own_an_1_2, own_an_3_1, own_an_3_2, own_an_3_4, own_an_0_3, own_an_3_3, own_an_1_7, own_an_3_7, own_an_7_7, own_an_1_0, own_an_3_0, own_x0, own_x1, own_x2, own_x3, own_x4, own_x5, own_y0, own_y1, own_y2, own_y3, own_y4, own_y5, own_ll64, own_ll4, own_ll6, own_ll7, -List.reduceReplicate]
theorem own_bP (p cap mask a b : Int32) (sq : List Int32) : j_buildPreds (Q.mk (wr (wr (wr sq (p &&& mask) (p + 1)) (p &&& mask) (p + cap)) ((p + 1) &&& mask) (p + 1 + 1)) (wr (wr (List.replicate 8 0) (p &&& mask) a) ((p + 1) &&& mask) b) [0, 0, 0, 0] [p + 1, p, 0, 0] [b, a, 0, 0] [1, 1, 0, 0] [0, a, 0, 0] (List.replicate 4 0) (1 :: 2 :: 3 :: 3 :: 1 :: 3 :: List.replicate 58 0) (0 :: 1 :: 0 :: 1 :: 0 :: 0 :: List.replicate 58 0) (a :: 0 :: 0 :: a :: b :: 0 :: List.replicate 58 0) (List.replicate 8 0) [1, 2, 1, 0, 0, 0] [a, 0, b, 0, 0, 0] [0, 1, 4, 0, 0, 0] [2, 3, 5, 0, 0, 0] [1, 1, 1, 0, 0, 0] [0, a, 0, 0, 0, 0] [0, 0, 0, 0, 0, 0] [-1, -1, -1, -1] (List.replicate 56 0) [0, 0, 0, 0, 0, 0, 0] [0, 0, 0, 0, 0, 0, 0] [0, 0, 0, 0, 0, 0, 0] 2 cap mask (p + 1) (p + 1 + 1) 6 0 3 0) = some (Q.mk (wr (wr (wr sq (p &&& mask) (p + 1)) (p &&& mask) (p + cap)) ((p + 1) &&& mask) (p + 1 + 1)) (wr (wr (List.replicate 8 0) (p &&& mask) a) ((p + 1) &&& mask) b) [0, 0, 0, 0] [p + 1, p, 0, 0] [b, a, 0, 0] [1, 1, 0, 0] [0, a, 0, 0] (List.replicate 4 0) (1 :: 2 :: 3 :: 3 :: 1 :: 3 :: List.replicate 58 0) (0 :: 1 :: 0 :: 1 :: 0 :: 0 :: List.replicate 58 0) (a :: 0 :: 0 :: a :: b :: 0 :: List.replicate 58 0) (List.replicate 8 0) [1, 2, 1, 0, 0, 0] [a, 0, b, 0, 0, 0] [0, 1, 4, 0, 0, 0] [2, 3, 5, 0, 0, 0] [1, 1, 1, 0, 0, 0] [0, a, 0, 0, 0, 0] [0, 0, 3, 0, 0, 0] [-1, -1, -1, -1] (List.replicate 56 0) [0, 0, 0, 0, 0, 0, 0] [0, 0, 0, 0, 0, 0, 0] [0, 0, 0, 0, 0, 0, 0] 2 cap mask (p + 1) (p + 1 + 1) 6 0 3 7) := by
  have e1 : j_buildPreds_l7 3000 (Q.mk (wr (wr (wr sq (p &&& mask) (p + 1)) (p &&& mask) (p + cap)) ((p + 1) &&& mask) (p + 1 + 1)) (wr (wr (List.replicate 8 0) (p &&& mask) a) ((p + 1) &&& mask) b) [0, 0, 0, 0] [p + 1, p, 0, 0] [b, a, 0, 0] [1, 1, 0, 0] [0, a, 0, 0] (List.replicate 4 0) (1 :: 2 :: 3 :: 3 :: 1 :: 3 :: List.replicate 58 0) (0 :: 1 :: 0 :: 1 :: 0 :: 0 :: List.replicate 58 0) (a :: 0 :: 0 :: a :: b :: 0 :: List.replicate 58 0) (List.replicate 8 0) [1, 2, 1, 0, 0, 0] [a, 0, b, 0, 0, 0] [0, 1, 4, 0, 0, 0] [2, 3, 5, 0, 0, 0] [1, 1, 1, 0, 0, 0] [0, a, 0, 0, 0, 0] [0, 0, 0, 0, 0, 0] [-1, -1, -1, -1] (List.replicate 56 0) [0, 0, 0, 0, 0, 0, 0] [0, 0, 0, 0, 0, 0, 0] [0, 0, 0, 0, 0, 0, 0] 2 cap mask (p + 1) (p + 1 + 1) 6 0 3 0) 0 = some (Q.mk (wr (wr (wr sq (p &&& mask) (p + 1)) (p &&& mask) (p + cap)) ((p + 1) &&& mask) (p + 1 + 1)) (wr (wr (List.replicate 8 0) (p &&& mask) a) ((p + 1) &&& mask) b) [0, 0, 0, 0] [p + 1, p, 0, 0] [b, a, 0, 0] [1, 1, 0, 0] [0, a, 0, 0] (List.replicate 4 0) (1 :: 2 :: 3 :: 3 :: 1 :: 3 :: List.replicate 58 0) (0 :: 1 :: 0 :: 1 :: 0 :: 0 :: List.replicate 58 0) (a :: 0 :: 0 :: a :: b :: 0 :: List.replicate 58 0) (List.replicate 8 0) [1, 2, 1, 0, 0, 0] [a, 0, b, 0, 0, 0] [0, 1, 4, 0, 0, 0] [2, 3, 5, 0, 0, 0] [1, 1, 1, 0, 0, 0] [0, a, 0, 0, 0, 0] [0, 0, 0, 0, 0, 0] [-1, -1, -1, -1] (List.replicate 56 0) [0, 0, 0, 0, 0, 0, 0] [0, 0, 0, 0, 0, 0, 0] [0, 0, 0, 0, 0, 0, 0] 2 cap mask (p + 1) (p + 1 + 1) 6 0 3 7) := by
    rw [own_qa0 p cap mask a b sq 2999, own_qa1 p cap mask a b sq 2998, own_qa2 p cap mask a b sq 2997, own_qa3 p cap mask a b sq 2996]
  have e2 : j_buildPreds_l57 3000 (Q.mk (wr (wr (wr sq (p &&& mask) (p + 1)) (p &&& mask) (p + cap)) ((p + 1) &&& mask) (p + 1 + 1)) (wr (wr (List.replicate 8 0) (p &&& mask) a) ((p + 1) &&& mask) b) [0, 0, 0, 0] [p + 1, p, 0, 0] [b, a, 0, 0] [1, 1, 0, 0] [0, a, 0, 0] (List.replicate 4 0) (1 :: 2 :: 3 :: 3 :: 1 :: 3 :: List.replicate 58 0) (0 :: 1 :: 0 :: 1 :: 0 :: 0 :: List.replicate 58 0) (a :: 0 :: 0 :: a :: b :: 0 :: List.replicate 58 0) (List.replicate 8 0) [1, 2, 1, 0, 0, 0] [a, 0, b, 0, 0, 0] [0, 1, 4, 0, 0, 0] [2, 3, 5, 0, 0, 0] [1, 1, 1, 0, 0, 0] [0, a, 0, 0, 0, 0] [0, 0, 0, 0, 0, 0] [-1, -1, -1, -1] (List.replicate 56 0) [0, 0, 0, 0, 0, 0, 0] [0, 0, 0, 0, 0, 0, 0] [0, 0, 0, 0, 0, 0, 0] 2 cap mask (p + 1) (p + 1 + 1) 6 0 3 7) 0 = some (Q.mk (wr (wr (wr sq (p &&& mask) (p + 1)) (p &&& mask) (p + cap)) ((p + 1) &&& mask) (p + 1 + 1)) (wr (wr (List.replicate 8 0) (p &&& mask) a) ((p + 1) &&& mask) b) [0, 0, 0, 0] [p + 1, p, 0, 0] [b, a, 0, 0] [1, 1, 0, 0] [0, a, 0, 0] (List.replicate 4 0) (1 :: 2 :: 3 :: 3 :: 1 :: 3 :: List.replicate 58 0) (0 :: 1 :: 0 :: 1 :: 0 :: 0 :: List.replicate 58 0) (a :: 0 :: 0 :: a :: b :: 0 :: List.replicate 58 0) (List.replicate 8 0) [1, 2, 1, 0, 0, 0] [a, 0, b, 0, 0, 0] [0, 1, 4, 0, 0, 0] [2, 3, 5, 0, 0, 0] [1, 1, 1, 0, 0, 0] [0, a, 0, 0, 0, 0] [0, 0, 3, 0, 0, 0] [-1, -1, -1, -1] (List.replicate 56 0) [0, 0, 0, 0, 0, 0, 0] [0, 0, 0, 0, 0, 0, 0] [0, 0, 0, 0, 0, 0, 0] 2 cap mask (p + 1) (p + 1 + 1) 6 0 3 7) := by
    rw [own_qc0 p cap mask a b sq 2999, own_qc1 p cap mask a b sq 2998, own_qc2 p cap mask a b sq 2997, own_qc3 p cap mask a b sq 2996]
  unfold j_buildPreds
  simp only [own_Qa, e1, e2, Option.bind_some]
theorem own_it0 (p cap mask a b : Int32) (sq : List Int32) (hc : 0 < cap) (n : Nat) : j_search_l66 (n + 1) (Q.mk (wr (wr (wr sq (p &&& mask) (p + 1)) (p &&& mask) (p + cap)) ((p + 1) &&& mask) (p + 1 + 1)) (wr (wr (List.replicate 8 0) (p &&& mask) a) ((p + 1) &&& mask) b) [0, 0, 0, 0] [p + 1, p, 0, 0] [b, a, 0, 0] [1, 1, 0, 0] [0, a, 0, 0] (List.replicate 4 0) (1 :: 2 :: 3 :: 3 :: 1 :: 3 :: List.replicate 58 0) (0 :: 1 :: 0 :: 1 :: 0 :: 0 :: List.replicate 58 0) (a :: 0 :: 0 :: a :: b :: 0 :: List.replicate 58 0) (List.replicate 8 0) [1, 2, 1, 0, 0, 0] [a, 0, b, 0, 0, 0] [0, 1, 4, 0, 0, 0] [2, 3, 5, 0, 0, 0] [1, 1, 1, 0, 0, 0] [0, a, 0, 0, 0, 0] [0, 0, 3, 0, 0, 0] [-1, -1, -1, -1] (List.replicate 56 0) [0, 0, 0, 0, 0, 0, 0] [0, 0, 0, 0, 0, 0, 0] [0, 0, 0, 0, 0, 0, 0] 2 cap mask (p + 1) (p + 1 + 1) 6 0 3 7) 0 0 0 = j_search_l66 n (Q.mk (wr (wr (wr sq (p &&& mask) (p + 1)) (p &&& mask) (p + cap)) ((p + 1) &&& mask) (p + 1 + 1)) (wr (wr (List.replicate 8 0) (p &&& mask) a) ((p + 1) &&& mask) b) [0, 0, 0, 0] [p + 1, p, 0, 0] [b, a, 0, 0] [1, 1, 0, 0] [0, a, 0, 0] (List.replicate 4 0) (1 :: 2 :: 3 :: 3 :: 1 :: 3 :: List.replicate 58 0) (0 :: 1 :: 0 :: 1 :: 0 :: 0 :: List.replicate 58 0) (a :: 0 :: 0 :: a :: b :: 0 :: List.replicate 58 0) (List.replicate 8 0) [1, 2, 1, 0, 0, 0] [a, 0, b, 0, 0, 0] [0, 1, 4, 0, 0, 0] [2, 3, 5, 0, 0, 0] [1, 1, 1, 0, 0, 0] [0, a, 0, 0, 0, 0] [0, 0, 3, 0, 0, 0] [-1, -1, -1, -1] (wr (List.replicate 56 0) 8 a) [0, 1, 0, 0, 0, 0, 0] [1, 0, 0, 0, 0, 0, 0] [0, 0, 0, 0, 0, 0, 0] 2 cap mask (p + 1) (p + 1 + 1) 6 0 3 7) 1 1 1 := by
  rw [j_search_l66]
  simp [j_search_b215, j_apply, j_applyEnq, j_applyEnq_b20, j_applyEnq_b44, j_applyDeq, j_applyDeq_b21, j_applyDeq_b66, j_applyDeq_b91, j_copyQueue, j_copyQueue_l25, j_copyQueue_b70, own_ish0, own_ish1, own_ish2, own_or01, own_or12, own_or34, own_Qa, own_in_4_0, own_in_4_1, own_in_4_2, own_in_4_3, own_in_64_0, own_in_64_1, own_in_64_2, own_in_64_3, own_in_64_4, own_in_64_5, own_in_6_0, own_in_6_1, own_in_6_2, own_in_6_3, own_in_6_4, own_in_6_5, own_in_7_0, own_in_7_1, own_in_7_2, own_in_7_3, own_in_56_0, own_in_56_8, own_in_56_16, own_in_56_24, own_an_0_0, own_an_0_1, own_an_1_1, own_an_1_2, own_an_3_1, own_an_3_2, own_an_3_4, own_an_0_3, own_an_3_3, own_an_1_7, own_an_3_7, own_an_7_7, own_an_1_0, own_an_3_0, own_x0, own_x1, own_x2, own_x3, own_x4, own_x5, own_y0, own_y1, own_y2, own_y3, own_y4, own_y5, own_ll64, own_ll4, own_ll6, own_ll7, rd_wr_same, len_wr, List.length_replicate, hc, Int32.not_le.mpr hc, -List.reduceReplicate]
theorem own_it1 (p cap mask a b : Int32) (sq : List Int32) (hc : 0 < cap) (n : Nat) : j_search_l66 (n + 1) (Q.mk (wr (wr (wr sq (p &&& mask) (p + 1)) (p &&& mask) (p + cap)) ((p + 1) &&& mask) (p + 1 + 1)) (wr (wr (List.replicate 8 0) (p &&& mask) a) ((p + 1) &&& mask) b) [0, 0, 0, 0] [p + 1, p, 0, 0] [b, a, 0, 0] [1, 1, 0, 0] [0, a, 0, 0] (List.replicate 4 0) (1 :: 2 :: 3 :: 3 :: 1 :: 3 :: List.replicate 58 0) (0 :: 1 :: 0 :: 1 :: 0 :: 0 :: List.replicate 58 0) (a :: 0 :: 0 :: a :: b :: 0 :: List.replicate 58 0) (List.replicate 8 0) [1, 2, 1, 0, 0, 0] [a, 0, b, 0, 0, 0] [0, 1, 4, 0, 0, 0] [2, 3, 5, 0, 0, 0] [1, 1, 1, 0, 0, 0] [0, a, 0, 0, 0, 0] [0, 0, 3, 0, 0, 0] [-1, -1, -1, -1] (wr (List.replicate 56 0) 8 a) [0, 1, 0, 0, 0, 0, 0] [1, 0, 0, 0, 0, 0, 0] [0, 0, 0, 0, 0, 0, 0] 2 cap mask (p + 1) (p + 1 + 1) 6 0 3 7) 1 1 1 = j_search_l66 n (Q.mk (wr (wr (wr sq (p &&& mask) (p + 1)) (p &&& mask) (p + cap)) ((p + 1) &&& mask) (p + 1 + 1)) (wr (wr (List.replicate 8 0) (p &&& mask) a) ((p + 1) &&& mask) b) [0, 0, 0, 0] [p + 1, p, 0, 0] [b, a, 0, 0] [1, 1, 0, 0] [0, a, 0, 0] (List.replicate 4 0) (1 :: 2 :: 3 :: 3 :: 1 :: 3 :: List.replicate 58 0) (0 :: 1 :: 0 :: 1 :: 0 :: 0 :: List.replicate 58 0) (a :: 0 :: 0 :: a :: b :: 0 :: List.replicate 58 0) (List.replicate 8 0) [1, 2, 1, 0, 0, 0] [a, 0, b, 0, 0, 0] [0, 1, 4, 0, 0, 0] [2, 3, 5, 0, 0, 0] [1, 1, 1, 0, 0, 0] [0, a, 0, 0, 0, 0] [0, 0, 3, 0, 0, 0] [-1, -1, -1, -1] (wr (List.replicate 56 0) 8 a) [0, 1, 0, 0, 0, 0, 0] [1, 1, 0, 0, 0, 0, 0] [0, 0, 0, 0, 0, 0, 0] 2 cap mask (p + 1) (p + 1 + 1) 6 0 3 7) 1 1 2 := by
  rw [j_search_l66]
  simp [j_search_b215, j_apply, j_applyEnq, j_applyEnq_b20, j_applyEnq_b44, j_applyDeq, j_applyDeq_b21, j_applyDeq_b66, j_applyDeq_b91, j_copyQueue, j_copyQueue_l25, j_copyQueue_b70, own_ish0, own_ish1, own_ish2, own_or01, own_or12, own_or34, own_Qa, own_in_4_0, own_in_4_1, own_in_4_2, own_in_4_3, own_in_64_0, own_in_64_1, own_in_64_2, own_in_64_3, own_in_64_4, own_in_64_5, own_in_6_0, own_in_6_1, own_in_6_2, own_in_6_3, own_in_6_4, own_in_6_5, own_in_7_0, own_in_7_1, own_in_7_2, own_in_7_3, own_in_56_0, own_in_56_8, own_in_56_16, own_in_56_24, own_an_0_0, own_an_0_1, own_an_1_1, own_an_1_2, own_an_3_1, own_an_3_2, own_an_3_4, own_an_0_3, own_an_3_3, own_an_1_7, own_an_3_7, own_an_7_7, own_an_1_0, own_an_3_0, own_x0, own_x1, own_x2, own_x3, own_x4, own_x5, own_y0, own_y1, own_y2, own_y3, own_y4, own_y5, own_ll64, own_ll4, own_ll6, own_ll7, rd_wr_same, len_wr, List.length_replicate, hc, Int32.not_le.mpr hc, -List.reduceReplicate]
theorem own_it2 (p cap mask a b : Int32) (sq : List Int32) (hc : 0 < cap) (n : Nat) : j_search_l66 (n + 1) (Q.mk (wr (wr (wr sq (p &&& mask) (p + 1)) (p &&& mask) (p + cap)) ((p + 1) &&& mask) (p + 1 + 1)) (wr (wr (List.replicate 8 0) (p &&& mask) a) ((p + 1) &&& mask) b) [0, 0, 0, 0] [p + 1, p, 0, 0] [b, a, 0, 0] [1, 1, 0, 0] [0, a, 0, 0] (List.replicate 4 0) (1 :: 2 :: 3 :: 3 :: 1 :: 3 :: List.replicate 58 0) (0 :: 1 :: 0 :: 1 :: 0 :: 0 :: List.replicate 58 0) (a :: 0 :: 0 :: a :: b :: 0 :: List.replicate 58 0) (List.replicate 8 0) [1, 2, 1, 0, 0, 0] [a, 0, b, 0, 0, 0] [0, 1, 4, 0, 0, 0] [2, 3, 5, 0, 0, 0] [1, 1, 1, 0, 0, 0] [0, a, 0, 0, 0, 0] [0, 0, 3, 0, 0, 0] [-1, -1, -1, -1] (wr (List.replicate 56 0) 8 a) [0, 1, 0, 0, 0, 0, 0] [1, 1, 0, 0, 0, 0, 0] [0, 0, 0, 0, 0, 0, 0] 2 cap mask (p + 1) (p + 1 + 1) 6 0 3 7) 1 1 2 = j_search_l66 n (Q.mk (wr (wr (wr sq (p &&& mask) (p + 1)) (p &&& mask) (p + cap)) ((p + 1) &&& mask) (p + 1 + 1)) (wr (wr (List.replicate 8 0) (p &&& mask) a) ((p + 1) &&& mask) b) [0, 0, 0, 0] [p + 1, p, 0, 0] [b, a, 0, 0] [1, 1, 0, 0] [0, a, 0, 0] (List.replicate 4 0) (1 :: 2 :: 3 :: 3 :: 1 :: 3 :: List.replicate 58 0) (0 :: 1 :: 0 :: 1 :: 0 :: 0 :: List.replicate 58 0) (a :: 0 :: 0 :: a :: b :: 0 :: List.replicate 58 0) (List.replicate 8 0) [1, 2, 1, 0, 0, 0] [a, 0, b, 0, 0, 0] [0, 1, 4, 0, 0, 0] [2, 3, 5, 0, 0, 0] [1, 1, 1, 0, 0, 0] [0, a, 0, 0, 0, 0] [0, 0, 3, 0, 0, 0] [-1, -1, -1, -1] (wr (List.replicate 56 0) 8 a) [0, 1, 0, 0, 0, 0, 0] [1, 2, 0, 0, 0, 0, 0] [0, 1, 0, 0, 0, 0, 0] 2 cap mask (p + 1) (p + 1 + 1) 6 0 3 7) 2 3 3 := by
  rw [j_search_l66]
  simp [j_search_b215, j_apply, j_applyEnq, j_applyEnq_b20, j_applyEnq_b44, j_applyDeq, j_applyDeq_b21, j_applyDeq_b66, j_applyDeq_b91, j_copyQueue, j_copyQueue_l25, j_copyQueue_b70, own_ish0, own_ish1, own_ish2, own_or01, own_or12, own_or34, own_Qa, own_in_4_0, own_in_4_1, own_in_4_2, own_in_4_3, own_in_64_0, own_in_64_1, own_in_64_2, own_in_64_3, own_in_64_4, own_in_64_5, own_in_6_0, own_in_6_1, own_in_6_2, own_in_6_3, own_in_6_4, own_in_6_5, own_in_7_0, own_in_7_1, own_in_7_2, own_in_7_3, own_in_56_0, own_in_56_8, own_in_56_16, own_in_56_24, own_an_0_0, own_an_0_1, own_an_1_1, own_an_1_2, own_an_3_1, own_an_3_2, own_an_3_4, own_an_0_3, own_an_3_3, own_an_1_7, own_an_3_7, own_an_7_7, own_an_1_0, own_an_3_0, own_x0, own_x1, own_x2, own_x3, own_x4, own_x5, own_y0, own_y1, own_y2, own_y3, own_y4, own_y5, own_ll64, own_ll4, own_ll6, own_ll7, rd_wr_same, len_wr, List.length_replicate, hc, Int32.not_le.mpr hc, -List.reduceReplicate]
theorem own_it3 (p cap mask a b : Int32) (sq : List Int32) (hc : 0 < cap) (n : Nat) : j_search_l66 (n + 1) (Q.mk (wr (wr (wr sq (p &&& mask) (p + 1)) (p &&& mask) (p + cap)) ((p + 1) &&& mask) (p + 1 + 1)) (wr (wr (List.replicate 8 0) (p &&& mask) a) ((p + 1) &&& mask) b) [0, 0, 0, 0] [p + 1, p, 0, 0] [b, a, 0, 0] [1, 1, 0, 0] [0, a, 0, 0] (List.replicate 4 0) (1 :: 2 :: 3 :: 3 :: 1 :: 3 :: List.replicate 58 0) (0 :: 1 :: 0 :: 1 :: 0 :: 0 :: List.replicate 58 0) (a :: 0 :: 0 :: a :: b :: 0 :: List.replicate 58 0) (List.replicate 8 0) [1, 2, 1, 0, 0, 0] [a, 0, b, 0, 0, 0] [0, 1, 4, 0, 0, 0] [2, 3, 5, 0, 0, 0] [1, 1, 1, 0, 0, 0] [0, a, 0, 0, 0, 0] [0, 0, 3, 0, 0, 0] [-1, -1, -1, -1] (wr (List.replicate 56 0) 8 a) [0, 1, 0, 0, 0, 0, 0] [1, 2, 0, 0, 0, 0, 0] [0, 1, 0, 0, 0, 0, 0] 2 cap mask (p + 1) (p + 1 + 1) 6 0 3 7) 2 3 3 = j_search_l66 n (Q.mk (wr (wr (wr sq (p &&& mask) (p + 1)) (p &&& mask) (p + cap)) ((p + 1) &&& mask) (p + 1 + 1)) (wr (wr (List.replicate 8 0) (p &&& mask) a) ((p + 1) &&& mask) b) [0, 0, 0, 0] [p + 1, p, 0, 0] [b, a, 0, 0] [1, 1, 0, 0] [0, a, 0, 0] (List.replicate 4 0) (1 :: 2 :: 3 :: 3 :: 1 :: 3 :: List.replicate 58 0) (0 :: 1 :: 0 :: 1 :: 0 :: 0 :: List.replicate 58 0) (a :: 0 :: 0 :: a :: b :: 0 :: List.replicate 58 0) (List.replicate 8 0) [1, 2, 1, 0, 0, 0] [a, 0, b, 0, 0, 0] [0, 1, 4, 0, 0, 0] [2, 3, 5, 0, 0, 0] [1, 1, 1, 0, 0, 0] [0, a, 0, 0, 0, 0] [0, 0, 3, 0, 0, 0] [-1, -1, -1, -1] (wr (List.replicate 56 0) 8 a) [0, 1, 0, 0, 0, 0, 0] [1, 2, 1, 0, 0, 0, 0] [0, 1, 0, 0, 0, 0, 0] 2 cap mask (p + 1) (p + 1 + 1) 6 0 3 7) 2 3 4 := by
  rw [j_search_l66]
  simp [j_search_b215, j_apply, j_applyEnq, j_applyEnq_b20, j_applyEnq_b44, j_applyDeq, j_applyDeq_b21, j_applyDeq_b66, j_applyDeq_b91, j_copyQueue, j_copyQueue_l25, j_copyQueue_b70, own_ish0, own_ish1, own_ish2, own_or01, own_or12, own_or34, own_Qa, own_in_4_0, own_in_4_1, own_in_4_2, own_in_4_3, own_in_64_0, own_in_64_1, own_in_64_2, own_in_64_3, own_in_64_4, own_in_64_5, own_in_6_0, own_in_6_1, own_in_6_2, own_in_6_3, own_in_6_4, own_in_6_5, own_in_7_0, own_in_7_1, own_in_7_2, own_in_7_3, own_in_56_0, own_in_56_8, own_in_56_16, own_in_56_24, own_an_0_0, own_an_0_1, own_an_1_1, own_an_1_2, own_an_3_1, own_an_3_2, own_an_3_4, own_an_0_3, own_an_3_3, own_an_1_7, own_an_3_7, own_an_7_7, own_an_1_0, own_an_3_0, own_x0, own_x1, own_x2, own_x3, own_x4, own_x5, own_y0, own_y1, own_y2, own_y3, own_y4, own_y5, own_ll64, own_ll4, own_ll6, own_ll7, rd_wr_same, len_wr, List.length_replicate, hc, Int32.not_le.mpr hc, -List.reduceReplicate]
theorem own_it4 (p cap mask a b : Int32) (sq : List Int32) (hc : 0 < cap) (n : Nat) : j_search_l66 (n + 1) (Q.mk (wr (wr (wr sq (p &&& mask) (p + 1)) (p &&& mask) (p + cap)) ((p + 1) &&& mask) (p + 1 + 1)) (wr (wr (List.replicate 8 0) (p &&& mask) a) ((p + 1) &&& mask) b) [0, 0, 0, 0] [p + 1, p, 0, 0] [b, a, 0, 0] [1, 1, 0, 0] [0, a, 0, 0] (List.replicate 4 0) (1 :: 2 :: 3 :: 3 :: 1 :: 3 :: List.replicate 58 0) (0 :: 1 :: 0 :: 1 :: 0 :: 0 :: List.replicate 58 0) (a :: 0 :: 0 :: a :: b :: 0 :: List.replicate 58 0) (List.replicate 8 0) [1, 2, 1, 0, 0, 0] [a, 0, b, 0, 0, 0] [0, 1, 4, 0, 0, 0] [2, 3, 5, 0, 0, 0] [1, 1, 1, 0, 0, 0] [0, a, 0, 0, 0, 0] [0, 0, 3, 0, 0, 0] [-1, -1, -1, -1] (wr (List.replicate 56 0) 8 a) [0, 1, 0, 0, 0, 0, 0] [1, 2, 1, 0, 0, 0, 0] [0, 1, 0, 0, 0, 0, 0] 2 cap mask (p + 1) (p + 1 + 1) 6 0 3 7) 2 3 4 = j_search_l66 n (Q.mk (wr (wr (wr sq (p &&& mask) (p + 1)) (p &&& mask) (p + cap)) ((p + 1) &&& mask) (p + 1 + 1)) (wr (wr (List.replicate 8 0) (p &&& mask) a) ((p + 1) &&& mask) b) [0, 0, 0, 0] [p + 1, p, 0, 0] [b, a, 0, 0] [1, 1, 0, 0] [0, a, 0, 0] (List.replicate 4 0) (1 :: 2 :: 3 :: 3 :: 1 :: 3 :: List.replicate 58 0) (0 :: 1 :: 0 :: 1 :: 0 :: 0 :: List.replicate 58 0) (a :: 0 :: 0 :: a :: b :: 0 :: List.replicate 58 0) (List.replicate 8 0) [1, 2, 1, 0, 0, 0] [a, 0, b, 0, 0, 0] [0, 1, 4, 0, 0, 0] [2, 3, 5, 0, 0, 0] [1, 1, 1, 0, 0, 0] [0, a, 0, 0, 0, 0] [0, 0, 3, 0, 0, 0] [-1, -1, -1, -1] (wr (List.replicate 56 0) 8 a) [0, 1, 0, 0, 0, 0, 0] [1, 2, 2, 0, 0, 0, 0] [0, 1, 0, 0, 0, 0, 0] 2 cap mask (p + 1) (p + 1 + 1) 6 0 3 7) 2 3 5 := by
  rw [j_search_l66]
  simp [j_search_b215, j_apply, j_applyEnq, j_applyEnq_b20, j_applyEnq_b44, j_applyDeq, j_applyDeq_b21, j_applyDeq_b66, j_applyDeq_b91, j_copyQueue, j_copyQueue_l25, j_copyQueue_b70, own_ish0, own_ish1, own_ish2, own_or01, own_or12, own_or34, own_Qa, own_in_4_0, own_in_4_1, own_in_4_2, own_in_4_3, own_in_64_0, own_in_64_1, own_in_64_2, own_in_64_3, own_in_64_4, own_in_64_5, own_in_6_0, own_in_6_1, own_in_6_2, own_in_6_3, own_in_6_4, own_in_6_5, own_in_7_0, own_in_7_1, own_in_7_2, own_in_7_3, own_in_56_0, own_in_56_8, own_in_56_16, own_in_56_24, own_an_0_0, own_an_0_1, own_an_1_1, own_an_1_2, own_an_3_1, own_an_3_2, own_an_3_4, own_an_0_3, own_an_3_3, own_an_1_7, own_an_3_7, own_an_7_7, own_an_1_0, own_an_3_0, own_x0, own_x1, own_x2, own_x3, own_x4, own_x5, own_y0, own_y1, own_y2, own_y3, own_y4, own_y5, own_ll64, own_ll4, own_ll6, own_ll7, rd_wr_same, len_wr, List.length_replicate, hc, Int32.not_le.mpr hc, -List.reduceReplicate]
theorem own_it5 (p cap mask a b : Int32) (sq : List Int32) (hc : 0 < cap) (n : Nat) : j_search_l66 (n + 1) (Q.mk (wr (wr (wr sq (p &&& mask) (p + 1)) (p &&& mask) (p + cap)) ((p + 1) &&& mask) (p + 1 + 1)) (wr (wr (List.replicate 8 0) (p &&& mask) a) ((p + 1) &&& mask) b) [0, 0, 0, 0] [p + 1, p, 0, 0] [b, a, 0, 0] [1, 1, 0, 0] [0, a, 0, 0] (List.replicate 4 0) (1 :: 2 :: 3 :: 3 :: 1 :: 3 :: List.replicate 58 0) (0 :: 1 :: 0 :: 1 :: 0 :: 0 :: List.replicate 58 0) (a :: 0 :: 0 :: a :: b :: 0 :: List.replicate 58 0) (List.replicate 8 0) [1, 2, 1, 0, 0, 0] [a, 0, b, 0, 0, 0] [0, 1, 4, 0, 0, 0] [2, 3, 5, 0, 0, 0] [1, 1, 1, 0, 0, 0] [0, a, 0, 0, 0, 0] [0, 0, 3, 0, 0, 0] [-1, -1, -1, -1] (wr (List.replicate 56 0) 8 a) [0, 1, 0, 0, 0, 0, 0] [1, 2, 2, 0, 0, 0, 0] [0, 1, 0, 0, 0, 0, 0] 2 cap mask (p + 1) (p + 1 + 1) 6 0 3 7) 2 3 5 = some (.inr (.inl (Q.mk (wr (wr (wr sq (p &&& mask) (p + 1)) (p &&& mask) (p + cap)) ((p + 1) &&& mask) (p + 1 + 1)) (wr (wr (List.replicate 8 0) (p &&& mask) a) ((p + 1) &&& mask) b) [0, 0, 0, 0] [p + 1, p, 0, 0] [b, a, 0, 0] [1, 1, 0, 0] [0, a, 0, 0] (List.replicate 4 0) (1 :: 2 :: 3 :: 3 :: 1 :: 3 :: List.replicate 58 0) (0 :: 1 :: 0 :: 1 :: 0 :: 0 :: List.replicate 58 0) (a :: 0 :: 0 :: a :: b :: 0 :: List.replicate 58 0) (List.replicate 8 0) [1, 2, 1, 0, 0, 0] [a, 0, b, 0, 0, 0] [0, 1, 4, 0, 0, 0] [2, 3, 5, 0, 0, 0] [1, 1, 1, 0, 0, 0] [0, a, 0, 0, 0, 0] [0, 0, 3, 0, 0, 0] [-1, -1, -1, -1] (wr (wr (List.replicate 56 0) 8 a) 24 b) [0, 1, 0, 1, 0, 0, 0] [1, 2, 3, 0, 0, 0, 0] [0, 1, 2, 0, 0, 0, 0] 2 cap mask (p + 1) (p + 1 + 1) 6 0 3 7))) := by
  rw [j_search_l66]
  simp [j_search_b215, j_apply, j_applyEnq, j_applyEnq_b20, j_applyEnq_b44, j_applyDeq, j_applyDeq_b21, j_applyDeq_b66, j_applyDeq_b91, j_copyQueue, j_copyQueue_l25, j_copyQueue_b70, own_ish0, own_ish1, own_ish2, own_or01, own_or12, own_or34, own_Qa, own_in_4_0, own_in_4_1, own_in_4_2, own_in_4_3, own_in_64_0, own_in_64_1, own_in_64_2, own_in_64_3, own_in_64_4, own_in_64_5, own_in_6_0, own_in_6_1, own_in_6_2, own_in_6_3, own_in_6_4, own_in_6_5, own_in_7_0, own_in_7_1, own_in_7_2, own_in_7_3, own_in_56_0, own_in_56_8, own_in_56_16, own_in_56_24, own_an_0_0, own_an_0_1, own_an_1_1, own_an_1_2, own_an_3_1, own_an_3_2, own_an_3_4, own_an_0_3, own_an_3_3, own_an_1_7, own_an_3_7, own_an_7_7, own_an_1_0, own_an_3_0, own_x0, own_x1, own_x2, own_x3, own_x4, own_x5, own_y0, own_y1, own_y2, own_y3, own_y4, own_y5, own_ll64, own_ll4, own_ll6, own_ll7, rd_wr_same, len_wr, List.length_replicate, hc, Int32.not_le.mpr hc, -List.reduceReplicate]
theorem own_sr (p cap mask a b : Int32) (sq : List Int32) (hc : 0 < cap) : j_search (Q.mk (wr (wr (wr sq (p &&& mask) (p + 1)) (p &&& mask) (p + cap)) ((p + 1) &&& mask) (p + 1 + 1)) (wr (wr (List.replicate 8 0) (p &&& mask) a) ((p + 1) &&& mask) b) [0, 0, 0, 0] [p + 1, p, 0, 0] [b, a, 0, 0] [1, 1, 0, 0] [0, a, 0, 0] (List.replicate 4 0) (1 :: 2 :: 3 :: 3 :: 1 :: 3 :: List.replicate 58 0) (0 :: 1 :: 0 :: 1 :: 0 :: 0 :: List.replicate 58 0) (a :: 0 :: 0 :: a :: b :: 0 :: List.replicate 58 0) (List.replicate 8 0) [1, 2, 1, 0, 0, 0] [a, 0, b, 0, 0, 0] [0, 1, 4, 0, 0, 0] [2, 3, 5, 0, 0, 0] [1, 1, 1, 0, 0, 0] [0, a, 0, 0, 0, 0] [0, 0, 3, 0, 0, 0] [-1, -1, -1, -1] (List.replicate 56 0) [0, 0, 0, 0, 0, 0, 0] [0, 0, 0, 0, 0, 0, 0] [0, 0, 0, 0, 0, 0, 0] 2 cap mask (p + 1) (p + 1 + 1) 6 0 3 7) = some (1, (Q.mk (wr (wr (wr sq (p &&& mask) (p + 1)) (p &&& mask) (p + cap)) ((p + 1) &&& mask) (p + 1 + 1)) (wr (wr (List.replicate 8 0) (p &&& mask) a) ((p + 1) &&& mask) b) [0, 0, 0, 0] [p + 1, p, 0, 0] [b, a, 0, 0] [1, 1, 0, 0] [0, a, 0, 0] (List.replicate 4 0) (1 :: 2 :: 3 :: 3 :: 1 :: 3 :: List.replicate 58 0) (0 :: 1 :: 0 :: 1 :: 0 :: 0 :: List.replicate 58 0) (a :: 0 :: 0 :: a :: b :: 0 :: List.replicate 58 0) (List.replicate 8 0) [1, 2, 1, 0, 0, 0] [a, 0, b, 0, 0, 0] [0, 1, 4, 0, 0, 0] [2, 3, 5, 0, 0, 0] [1, 1, 1, 0, 0, 0] [0, a, 0, 0, 0, 0] [0, 0, 3, 0, 0, 0] [-1, -1, -1, -1] (wr (wr (List.replicate 56 0) 8 a) 24 b) [0, 1, 0, 1, 0, 0, 0] [1, 2, 3, 0, 0, 0, 0] [0, 1, 2, 0, 0, 0, 0] 2 cap mask (p + 1) (p + 1 + 1) 6 0 3 7)) := by
  have e : j_search_l66 200010 (Q.mk (wr (wr (wr sq (p &&& mask) (p + 1)) (p &&& mask) (p + cap)) ((p + 1) &&& mask) (p + 1 + 1)) (wr (wr (List.replicate 8 0) (p &&& mask) a) ((p + 1) &&& mask) b) [0, 0, 0, 0] [p + 1, p, 0, 0] [b, a, 0, 0] [1, 1, 0, 0] [0, a, 0, 0] (List.replicate 4 0) (1 :: 2 :: 3 :: 3 :: 1 :: 3 :: List.replicate 58 0) (0 :: 1 :: 0 :: 1 :: 0 :: 0 :: List.replicate 58 0) (a :: 0 :: 0 :: a :: b :: 0 :: List.replicate 58 0) (List.replicate 8 0) [1, 2, 1, 0, 0, 0] [a, 0, b, 0, 0, 0] [0, 1, 4, 0, 0, 0] [2, 3, 5, 0, 0, 0] [1, 1, 1, 0, 0, 0] [0, a, 0, 0, 0, 0] [0, 0, 3, 0, 0, 0] [-1, -1, -1, -1] (List.replicate 56 0) [0, 0, 0, 0, 0, 0, 0] [0, 0, 0, 0, 0, 0, 0] [0, 0, 0, 0, 0, 0, 0] 2 cap mask (p + 1) (p + 1 + 1) 6 0 3 7) 0 0 0 = some (.inr (.inl (Q.mk (wr (wr (wr sq (p &&& mask) (p + 1)) (p &&& mask) (p + cap)) ((p + 1) &&& mask) (p + 1 + 1)) (wr (wr (List.replicate 8 0) (p &&& mask) a) ((p + 1) &&& mask) b) [0, 0, 0, 0] [p + 1, p, 0, 0] [b, a, 0, 0] [1, 1, 0, 0] [0, a, 0, 0] (List.replicate 4 0) (1 :: 2 :: 3 :: 3 :: 1 :: 3 :: List.replicate 58 0) (0 :: 1 :: 0 :: 1 :: 0 :: 0 :: List.replicate 58 0) (a :: 0 :: 0 :: a :: b :: 0 :: List.replicate 58 0) (List.replicate 8 0) [1, 2, 1, 0, 0, 0] [a, 0, b, 0, 0, 0] [0, 1, 4, 0, 0, 0] [2, 3, 5, 0, 0, 0] [1, 1, 1, 0, 0, 0] [0, a, 0, 0, 0, 0] [0, 0, 3, 0, 0, 0] [-1, -1, -1, -1] (wr (wr (List.replicate 56 0) 8 a) 24 b) [0, 1, 0, 1, 0, 0, 0] [1, 2, 3, 0, 0, 0, 0] [0, 1, 2, 0, 0, 0, 0] 2 cap mask (p + 1) (p + 1 + 1) 6 0 3 7))) := by
    rw [own_it0 p cap mask a b sq hc 200009, own_it1 p cap mask a b sq hc 200008, own_it2 p cap mask a b sq hc 200007, own_it3 p cap mask a b sq hc 200006, own_it4 p cap mask a b sq hc 200005, own_it5 p cap mask a b sq hc 200004]
  simp [j_search, j_search_l21, own_Qa, own_in_4_0, own_in_4_1, own_in_4_2, own_in_4_3, own_in_64_0, own_in_64_1, own_in_64_2, own_in_64_3, own_in_64_4, own_in_64_5, own_in_6_0, own_in_6_1, own_in_6_2, own_in_6_3, own_in_6_4, own_in_6_5, own_in_7_0, own_in_7_1, own_in_7_2, own_in_7_3, own_in_56_0, own_in_56_8, own_in_56_16, own_in_56_24, own_an_0_0, own_an_0_1, own_an_1_1, own_an_1_2, own_an_3_1, own_an_3_2, own_an_3_4, own_an_0_3, own_an_3_3, own_an_1_7, own_an_3_7, own_an_7_7, own_an_1_0, own_an_3_0, own_x0, own_x1, own_x2, own_x3, own_x4, own_x5, own_y0, own_y1, own_y2, own_y3, own_y4, own_y5, own_ll64, own_ll4, own_ll6, own_ll7, e, -List.reduceReplicate]
theorem own_ck (p cap mask a b : Int32) (sq : List Int32) (hc : 0 < cap) : j_check (Q.mk (wr (wr (wr sq (p &&& mask) (p + 1)) (p &&& mask) (p + cap)) ((p + 1) &&& mask) (p + 1 + 1)) (wr (wr (List.replicate 8 0) (p &&& mask) a) ((p + 1) &&& mask) b) [0, 0, 0, 0] [p + 1, p, 0, 0] [b, a, 0, 0] [1, 1, 0, 0] [0, a, 0, 0] (List.replicate 4 0) (1 :: 2 :: 3 :: 3 :: 1 :: 3 :: List.replicate 58 0) (0 :: 1 :: 0 :: 1 :: 0 :: 0 :: List.replicate 58 0) (a :: 0 :: 0 :: a :: b :: 0 :: List.replicate 58 0) (List.replicate 8 0) [0, 0, 0, 0, 0, 0] [0, 0, 0, 0, 0, 0] [0, 0, 0, 0, 0, 0] [0, 0, 0, 0, 0, 0] [0, 0, 0, 0, 0, 0] [0, 0, 0, 0, 0, 0] [0, 0, 0, 0, 0, 0] [0, 0, 0, 0] (List.replicate 56 0) [0, 0, 0, 0, 0, 0, 0] [0, 0, 0, 0, 0, 0, 0] [0, 0, 0, 0, 0, 0, 0] 2 cap mask (p + 1) (p + 1 + 1) 6 0 0 0) = some (1, (Q.mk (wr (wr (wr sq (p &&& mask) (p + 1)) (p &&& mask) (p + cap)) ((p + 1) &&& mask) (p + 1 + 1)) (wr (wr (List.replicate 8 0) (p &&& mask) a) ((p + 1) &&& mask) b) [0, 0, 0, 0] [p + 1, p, 0, 0] [b, a, 0, 0] [1, 1, 0, 0] [0, a, 0, 0] (List.replicate 4 0) (1 :: 2 :: 3 :: 3 :: 1 :: 3 :: List.replicate 58 0) (0 :: 1 :: 0 :: 1 :: 0 :: 0 :: List.replicate 58 0) (a :: 0 :: 0 :: a :: b :: 0 :: List.replicate 58 0) (List.replicate 8 0) [1, 2, 1, 0, 0, 0] [a, 0, b, 0, 0, 0] [0, 1, 4, 0, 0, 0] [2, 3, 5, 0, 0, 0] [1, 1, 1, 0, 0, 0] [0, a, 0, 0, 0, 0] [0, 0, 3, 0, 0, 0] [-1, -1, -1, -1] (wr (wr (List.replicate 56 0) 8 a) 24 b) [0, 1, 0, 1, 0, 0, 0] [1, 2, 3, 0, 0, 0, 0] [0, 1, 2, 0, 0, 0, 0] 2 cap mask (p + 1) (p + 1 + 1) 6 0 3 7)) := by
  unfold j_check
  rw [own_cI p cap mask a b sq, Option.bind_some, if_neg (by decide), own_pO p cap mask a b sq, Option.bind_some, own_bP p cap mask a b sq, Option.bind_some, own_sr p cap mask a b sq hc, Option.bind_some]
theorem own_rl {n : Nat} {s s' : Q} {t v3 v4 : Int32} (h : j_doStep s t = some (0, s')) (c : v4 < v3) : j_run_l43 (n + 1) s t v3 v4 = j_run_l43 n s' t v3 (v4 + 1) := by
  rw [j_run_l43, if_pos c, h, Option.bind_some, if_pos rfl]
theorem own_rf {n : Nat} {s s' : Q} {t v3 v4 : Int32} (h : j_doStep s t = some (1, s')) (c : v4 < v3) : j_run_l43 (n + 1) s t v3 v4 = some (.inl s') := by
  rw [j_run_l43, if_pos c, h, Option.bind_some, if_neg (show ¬ (1:Int32) = 0 by decide)]
theorem own_st {s s' : Q} {t x : Int32} (n2 : s.f24 = 2) (h0 : ¬ t < 0) (h2 : t < 2) (l : inb s.f2.length t = true) (e : rd s.f2 t = x) (x0 : ¬ x = 0) (x1 : ¬ x = 1) (h : j_doStep s t = some (0, s')) : j_step s t = some (1, s') := by
  have v : j_valid s t = 1 := by unfold j_valid; rw [if_neg h0, n2, if_pos h2]
  unfold j_step
  rw [v, if_neg (by decide), if_pos l, e, if_neg x0, if_pos l, if_neg x1, h, Option.bind_some, if_pos rfl]
theorem own_rn {s s' : Q} {t x : Int32} (n2 : s.f24 = 2) (h0 : ¬ t < 0) (h2 : t < 2) (l : inb s.f2.length t = true) (e : rd s.f2 t = x) (x0 : ¬ x = 0) (x1 : ¬ x = 1) (h : j_run_l43 3000 s t 64 0 = some (.inl s')) : j_run s t 64 = some (2, s') := by
  have v : j_valid s t = 1 := by unfold j_valid; rw [if_neg h0, n2, if_pos h2]
  unfold j_run
  rw [v, if_neg (by decide), if_pos l, e, if_neg x0, if_pos l, if_neg x1, show j_clamp 64 1 64 = 64 from rfl, h]
  rfl
theorem own_r0a (p cap mask a b : Int32) (sq : List Int32) (l8 : sq.length = 8) (i0 : inb 8 (p &&& mask) = true) (i1 : inb 8 ((p + 1) &&& mask) = true) (ne : ¬ (p &&& mask) = ((p + 1) &&& mask)) (r0 : rd sq (p &&& mask) = p) (r1 : rd sq ((p + 1) &&& mask) = p + 1) (m1 : p - (p + 1) = -1) (t1 : ¬ p + 1 = p) (d1 : p + 1 + 1 - (p + 1) = 1) (hc : 0 < cap) : j_run (Q.mk sq (List.replicate 8 0) [15, 21, 0, 0] [p, p, 0, 0] [a, 0, 0, 0] [0, 0, 0, 0] [0, 0, 0, 0] (List.replicate 4 0) (1 :: 2 :: 0 :: 0 :: 0 :: 0 :: List.replicate 58 0) (0 :: 1 :: 0 :: 0 :: 0 :: 0 :: List.replicate 58 0) (a :: 0 :: 0 :: 0 :: 0 :: 0 :: List.replicate 58 0) (List.replicate 8 0) [0, 0, 0, 0, 0, 0] [0, 0, 0, 0, 0, 0] [0, 0, 0, 0, 0, 0] [0, 0, 0, 0, 0, 0] [0, 0, 0, 0, 0, 0] [0, 0, 0, 0, 0, 0] [0, 0, 0, 0, 0, 0] [0, 0, 0, 0] (List.replicate 56 0) [0, 0, 0, 0, 0, 0, 0] [0, 0, 0, 0, 0, 0, 0] [0, 0, 0, 0, 0, 0, 0] 2 cap mask p (p + 1) 2 0 0 0) 0 64 = some (2, (Q.mk (wr sq (p &&& mask) (p + 1)) (wr (List.replicate 8 0) (p &&& mask) a) [0, 21, 0, 0] [p, p, 0, 0] [a, 0, 0, 0] [1, 0, 0, 0] [0, 0, 0, 0] (List.replicate 4 0) (1 :: 2 :: 3 :: 0 :: 0 :: 0 :: List.replicate 58 0) (0 :: 1 :: 0 :: 0 :: 0 :: 0 :: List.replicate 58 0) (a :: 0 :: 0 :: 0 :: 0 :: 0 :: List.replicate 58 0) (List.replicate 8 0) [0, 0, 0, 0, 0, 0] [0, 0, 0, 0, 0, 0] [0, 0, 0, 0, 0, 0] [0, 0, 0, 0, 0, 0] [0, 0, 0, 0, 0, 0] [0, 0, 0, 0, 0, 0] [0, 0, 0, 0, 0, 0] [0, 0, 0, 0] (List.replicate 56 0) [0, 0, 0, 0, 0, 0, 0] [0, 0, 0, 0, 0, 0, 0] [0, 0, 0, 0, 0, 0, 0] 2 cap mask p (p + 1) 3 0 0 0)) := by
  refine own_rn (x := 15) rfl (by decide) (by decide) rfl rfl (by decide) (by decide) ?_
  refine Eq.trans (own_rl (n := 2999) (v4 := 0) (own_k9 p cap mask a b sq l8 i0 i1 ne r0 r1 m1 t1 d1 hc) (by decide)) ?_
  exact (own_rf (n := 2998) (v4 := 1) (own_k10 p cap mask a b sq l8 i0 i1 ne r0 r1 m1 t1 d1 hc) (by decide))
theorem own_r1a (p cap mask a b : Int32) (sq : List Int32) (l8 : sq.length = 8) (i0 : inb 8 (p &&& mask) = true) (i1 : inb 8 ((p + 1) &&& mask) = true) (ne : ¬ (p &&& mask) = ((p + 1) &&& mask)) (r0 : rd sq (p &&& mask) = p) (r1 : rd sq ((p + 1) &&& mask) = p + 1) (m1 : p - (p + 1) = -1) (t1 : ¬ p + 1 = p) (d1 : p + 1 + 1 - (p + 1) = 1) (hc : 0 < cap) : j_run (Q.mk (wr sq (p &&& mask) (p + 1)) (wr (List.replicate 8 0) (p &&& mask) a) [0, 21, 0, 0] [p, p, 0, 0] [a, 0, 0, 0] [1, 0, 0, 0] [0, 0, 0, 0] (List.replicate 4 0) (1 :: 2 :: 3 :: 0 :: 0 :: 0 :: List.replicate 58 0) (0 :: 1 :: 0 :: 0 :: 0 :: 0 :: List.replicate 58 0) (a :: 0 :: 0 :: 0 :: 0 :: 0 :: List.replicate 58 0) (List.replicate 8 0) [0, 0, 0, 0, 0, 0] [0, 0, 0, 0, 0, 0] [0, 0, 0, 0, 0, 0] [0, 0, 0, 0, 0, 0] [0, 0, 0, 0, 0, 0] [0, 0, 0, 0, 0, 0] [0, 0, 0, 0, 0, 0] [0, 0, 0, 0] (List.replicate 56 0) [0, 0, 0, 0, 0, 0, 0] [0, 0, 0, 0, 0, 0, 0] [0, 0, 0, 0, 0, 0, 0] 2 cap mask p (p + 1) 3 0 0 0) 1 64 = some (2, (Q.mk (wr (wr sq (p &&& mask) (p + 1)) (p &&& mask) (p + cap)) (wr (List.replicate 8 0) (p &&& mask) a) [0, 0, 0, 0] [p, p, 0, 0] [a, a, 0, 0] [1, 1, 0, 0] [0, a, 0, 0] (List.replicate 4 0) (1 :: 2 :: 3 :: 3 :: 0 :: 0 :: List.replicate 58 0) (0 :: 1 :: 0 :: 1 :: 0 :: 0 :: List.replicate 58 0) (a :: 0 :: 0 :: a :: 0 :: 0 :: List.replicate 58 0) (List.replicate 8 0) [0, 0, 0, 0, 0, 0] [0, 0, 0, 0, 0, 0] [0, 0, 0, 0, 0, 0] [0, 0, 0, 0, 0, 0] [0, 0, 0, 0, 0, 0] [0, 0, 0, 0, 0, 0] [0, 0, 0, 0, 0, 0] [0, 0, 0, 0] (List.replicate 56 0) [0, 0, 0, 0, 0, 0, 0] [0, 0, 0, 0, 0, 0, 0] [0, 0, 0, 0, 0, 0, 0] 2 cap mask (p + 1) (p + 1) 4 0 0 0)) := by
  refine own_rn (x := 21) rfl (by decide) (by decide) rfl rfl (by decide) (by decide) ?_
  refine Eq.trans (own_rl (n := 2999) (v4 := 0) (own_k11 p cap mask a b sq l8 i0 i1 ne r0 r1 m1 t1 d1 hc) (by decide)) ?_
  refine Eq.trans (own_rl (n := 2998) (v4 := 1) (own_k12 p cap mask a b sq l8 i0 i1 ne r0 r1 m1 t1 d1 hc) (by decide)) ?_
  refine Eq.trans (own_rl (n := 2997) (v4 := 2) (own_k13 p cap mask a b sq l8 i0 i1 ne r0 r1 m1 t1 d1 hc) (by decide)) ?_
  refine Eq.trans (own_rl (n := 2996) (v4 := 3) (own_k14 p cap mask a b sq l8 i0 i1 ne r0 r1 m1 t1 d1 hc) (by decide)) ?_
  exact (own_rf (n := 2995) (v4 := 4) (own_k15 p cap mask a b sq l8 i0 i1 ne r0 r1 m1 t1 d1 hc) (by decide))
theorem own_r0b (p cap mask a b : Int32) (sq : List Int32) (l8 : sq.length = 8) (i0 : inb 8 (p &&& mask) = true) (i1 : inb 8 ((p + 1) &&& mask) = true) (ne : ¬ (p &&& mask) = ((p + 1) &&& mask)) (r0 : rd sq (p &&& mask) = p) (r1 : rd sq ((p + 1) &&& mask) = p + 1) (m1 : p - (p + 1) = -1) (t1 : ¬ p + 1 = p) (d1 : p + 1 + 1 - (p + 1) = 1) (hc : 0 < cap) : j_run (Q.mk (wr (wr sq (p &&& mask) (p + 1)) (p &&& mask) (p + cap)) (wr (List.replicate 8 0) (p &&& mask) a) [11, 0, 0, 0] [p, p, 0, 0] [b, a, 0, 0] [1, 1, 0, 0] [0, a, 0, 0] (List.replicate 4 0) (1 :: 2 :: 3 :: 3 :: 1 :: 0 :: List.replicate 58 0) (0 :: 1 :: 0 :: 1 :: 0 :: 0 :: List.replicate 58 0) (a :: 0 :: 0 :: a :: b :: 0 :: List.replicate 58 0) (List.replicate 8 0) [0, 0, 0, 0, 0, 0] [0, 0, 0, 0, 0, 0] [0, 0, 0, 0, 0, 0] [0, 0, 0, 0, 0, 0] [0, 0, 0, 0, 0, 0] [0, 0, 0, 0, 0, 0] [0, 0, 0, 0, 0, 0] [0, 0, 0, 0] (List.replicate 56 0) [0, 0, 0, 0, 0, 0, 0] [0, 0, 0, 0, 0, 0, 0] [0, 0, 0, 0, 0, 0, 0] 2 cap mask (p + 1) (p + 1) 5 0 0 0) 0 64 = some (2, (Q.mk (wr (wr (wr sq (p &&& mask) (p + 1)) (p &&& mask) (p + cap)) ((p + 1) &&& mask) (p + 1 + 1)) (wr (wr (List.replicate 8 0) (p &&& mask) a) ((p + 1) &&& mask) b) [0, 0, 0, 0] [p + 1, p, 0, 0] [b, a, 0, 0] [1, 1, 0, 0] [0, a, 0, 0] (List.replicate 4 0) (1 :: 2 :: 3 :: 3 :: 1 :: 3 :: List.replicate 58 0) (0 :: 1 :: 0 :: 1 :: 0 :: 0 :: List.replicate 58 0) (a :: 0 :: 0 :: a :: b :: 0 :: List.replicate 58 0) (List.replicate 8 0) [0, 0, 0, 0, 0, 0] [0, 0, 0, 0, 0, 0] [0, 0, 0, 0, 0, 0] [0, 0, 0, 0, 0, 0] [0, 0, 0, 0, 0, 0] [0, 0, 0, 0, 0, 0] [0, 0, 0, 0, 0, 0] [0, 0, 0, 0] (List.replicate 56 0) [0, 0, 0, 0, 0, 0, 0] [0, 0, 0, 0, 0, 0, 0] [0, 0, 0, 0, 0, 0, 0] 2 cap mask (p + 1) (p + 1 + 1) 6 0 0 0)) := by
  refine own_rn (x := 11) rfl (by decide) (by decide) rfl rfl (by decide) (by decide) ?_
  refine Eq.trans (own_rl (n := 2999) (v4 := 0) (own_k17 p cap mask a b sq l8 i0 i1 ne r0 r1 m1 t1 d1 hc) (by decide)) ?_
  refine Eq.trans (own_rl (n := 2998) (v4 := 1) (own_k18 p cap mask a b sq l8 i0 i1 ne r0 r1 m1 t1 d1 hc) (by decide)) ?_
  refine Eq.trans (own_rl (n := 2997) (v4 := 2) (own_k19 p cap mask a b sq l8 i0 i1 ne r0 r1 m1 t1 d1 hc) (by decide)) ?_
  refine Eq.trans (own_rl (n := 2996) (v4 := 3) (own_k20 p cap mask a b sq l8 i0 i1 ne r0 r1 m1 t1 d1 hc) (by decide)) ?_
  exact (own_rf (n := 2995) (v4 := 4) (own_k21 p cap mask a b sq l8 i0 i1 ne r0 r1 m1 t1 d1 hc) (by decide))
theorem own_s_e1 (p cap mask a b : Int32) (sq : List Int32) (l8 : sq.length = 8) (i0 : inb 8 (p &&& mask) = true) (i1 : inb 8 ((p + 1) &&& mask) = true) (ne : ¬ (p &&& mask) = ((p + 1) &&& mask)) (r0 : rd sq (p &&& mask) = p) (r1 : rd sq ((p + 1) &&& mask) = p + 1) (m1 : p - (p + 1) = -1) (t1 : ¬ p + 1 = p) (d1 : p + 1 + 1 - (p + 1) = 1) (hc : 0 < cap) : j_step (Q.mk sq (List.replicate 8 0) [11, 0, 0, 0] [0, 0, 0, 0] [a, 0, 0, 0] [0, 0, 0, 0] [0, 0, 0, 0] (List.replicate 4 0) (1 :: 0 :: 0 :: 0 :: 0 :: 0 :: List.replicate 58 0) (0 :: 0 :: 0 :: 0 :: 0 :: 0 :: List.replicate 58 0) (a :: 0 :: 0 :: 0 :: 0 :: 0 :: List.replicate 58 0) (List.replicate 8 0) [0, 0, 0, 0, 0, 0] [0, 0, 0, 0, 0, 0] [0, 0, 0, 0, 0, 0] [0, 0, 0, 0, 0, 0] [0, 0, 0, 0, 0, 0] [0, 0, 0, 0, 0, 0] [0, 0, 0, 0, 0, 0] [0, 0, 0, 0] (List.replicate 56 0) [0, 0, 0, 0, 0, 0, 0] [0, 0, 0, 0, 0, 0, 0] [0, 0, 0, 0, 0, 0, 0] 2 cap mask p p 1 0 0 0) 0 = some (1, (Q.mk sq (List.replicate 8 0) [12, 0, 0, 0] [p, 0, 0, 0] [a, 0, 0, 0] [0, 0, 0, 0] [0, 0, 0, 0] (List.replicate 4 0) (1 :: 0 :: 0 :: 0 :: 0 :: 0 :: List.replicate 58 0) (0 :: 0 :: 0 :: 0 :: 0 :: 0 :: List.replicate 58 0) (a :: 0 :: 0 :: 0 :: 0 :: 0 :: List.replicate 58 0) (List.replicate 8 0) [0, 0, 0, 0, 0, 0] [0, 0, 0, 0, 0, 0] [0, 0, 0, 0, 0, 0] [0, 0, 0, 0, 0, 0] [0, 0, 0, 0, 0, 0] [0, 0, 0, 0, 0, 0] [0, 0, 0, 0, 0, 0] [0, 0, 0, 0] (List.replicate 56 0) [0, 0, 0, 0, 0, 0, 0] [0, 0, 0, 0, 0, 0, 0] [0, 0, 0, 0, 0, 0, 0] 2 cap mask p p 1 0 0 0)) :=
  own_st (x := 11) rfl (by decide) (by decide) rfl rfl (by decide) (by decide) (own_k2 p cap mask a b sq l8 i0 i1 ne r0 r1 m1 t1 d1 hc)
theorem own_s_e2 (p cap mask a b : Int32) (sq : List Int32) (l8 : sq.length = 8) (i0 : inb 8 (p &&& mask) = true) (i1 : inb 8 ((p + 1) &&& mask) = true) (ne : ¬ (p &&& mask) = ((p + 1) &&& mask)) (r0 : rd sq (p &&& mask) = p) (r1 : rd sq ((p + 1) &&& mask) = p + 1) (m1 : p - (p + 1) = -1) (t1 : ¬ p + 1 = p) (d1 : p + 1 + 1 - (p + 1) = 1) (hc : 0 < cap) : j_step (Q.mk sq (List.replicate 8 0) [12, 0, 0, 0] [p, 0, 0, 0] [a, 0, 0, 0] [0, 0, 0, 0] [0, 0, 0, 0] (List.replicate 4 0) (1 :: 0 :: 0 :: 0 :: 0 :: 0 :: List.replicate 58 0) (0 :: 0 :: 0 :: 0 :: 0 :: 0 :: List.replicate 58 0) (a :: 0 :: 0 :: 0 :: 0 :: 0 :: List.replicate 58 0) (List.replicate 8 0) [0, 0, 0, 0, 0, 0] [0, 0, 0, 0, 0, 0] [0, 0, 0, 0, 0, 0] [0, 0, 0, 0, 0, 0] [0, 0, 0, 0, 0, 0] [0, 0, 0, 0, 0, 0] [0, 0, 0, 0, 0, 0] [0, 0, 0, 0] (List.replicate 56 0) [0, 0, 0, 0, 0, 0, 0] [0, 0, 0, 0, 0, 0, 0] [0, 0, 0, 0, 0, 0, 0] 2 cap mask p p 1 0 0 0) 0 = some (1, (Q.mk sq (List.replicate 8 0) [13, 0, 0, 0] [p, 0, 0, 0] [a, 0, 0, 0] [0, 0, 0, 0] [0, 0, 0, 0] (List.replicate 4 0) (1 :: 0 :: 0 :: 0 :: 0 :: 0 :: List.replicate 58 0) (0 :: 0 :: 0 :: 0 :: 0 :: 0 :: List.replicate 58 0) (a :: 0 :: 0 :: 0 :: 0 :: 0 :: List.replicate 58 0) (List.replicate 8 0) [0, 0, 0, 0, 0, 0] [0, 0, 0, 0, 0, 0] [0, 0, 0, 0, 0, 0] [0, 0, 0, 0, 0, 0] [0, 0, 0, 0, 0, 0] [0, 0, 0, 0, 0, 0] [0, 0, 0, 0, 0, 0] [0, 0, 0, 0] (List.replicate 56 0) [0, 0, 0, 0, 0, 0, 0] [0, 0, 0, 0, 0, 0, 0] [0, 0, 0, 0, 0, 0, 0] 2 cap mask p p 1 0 0 0)) :=
  own_st (x := 12) rfl (by decide) (by decide) rfl rfl (by decide) (by decide) (own_k3 p cap mask a b sq l8 i0 i1 ne r0 r1 m1 t1 d1 hc)
theorem own_s_e3 (p cap mask a b : Int32) (sq : List Int32) (l8 : sq.length = 8) (i0 : inb 8 (p &&& mask) = true) (i1 : inb 8 ((p + 1) &&& mask) = true) (ne : ¬ (p &&& mask) = ((p + 1) &&& mask)) (r0 : rd sq (p &&& mask) = p) (r1 : rd sq ((p + 1) &&& mask) = p + 1) (m1 : p - (p + 1) = -1) (t1 : ¬ p + 1 = p) (d1 : p + 1 + 1 - (p + 1) = 1) (hc : 0 < cap) : j_step (Q.mk sq (List.replicate 8 0) [13, 0, 0, 0] [p, 0, 0, 0] [a, 0, 0, 0] [0, 0, 0, 0] [0, 0, 0, 0] (List.replicate 4 0) (1 :: 0 :: 0 :: 0 :: 0 :: 0 :: List.replicate 58 0) (0 :: 0 :: 0 :: 0 :: 0 :: 0 :: List.replicate 58 0) (a :: 0 :: 0 :: 0 :: 0 :: 0 :: List.replicate 58 0) (List.replicate 8 0) [0, 0, 0, 0, 0, 0] [0, 0, 0, 0, 0, 0] [0, 0, 0, 0, 0, 0] [0, 0, 0, 0, 0, 0] [0, 0, 0, 0, 0, 0] [0, 0, 0, 0, 0, 0] [0, 0, 0, 0, 0, 0] [0, 0, 0, 0] (List.replicate 56 0) [0, 0, 0, 0, 0, 0, 0] [0, 0, 0, 0, 0, 0, 0] [0, 0, 0, 0, 0, 0, 0] 2 cap mask p p 1 0 0 0) 0 = some (1, (Q.mk sq (List.replicate 8 0) [15, 0, 0, 0] [p, 0, 0, 0] [a, 0, 0, 0] [0, 0, 0, 0] [0, 0, 0, 0] (List.replicate 4 0) (1 :: 0 :: 0 :: 0 :: 0 :: 0 :: List.replicate 58 0) (0 :: 0 :: 0 :: 0 :: 0 :: 0 :: List.replicate 58 0) (a :: 0 :: 0 :: 0 :: 0 :: 0 :: List.replicate 58 0) (List.replicate 8 0) [0, 0, 0, 0, 0, 0] [0, 0, 0, 0, 0, 0] [0, 0, 0, 0, 0, 0] [0, 0, 0, 0, 0, 0] [0, 0, 0, 0, 0, 0] [0, 0, 0, 0, 0, 0] [0, 0, 0, 0, 0, 0] [0, 0, 0, 0] (List.replicate 56 0) [0, 0, 0, 0, 0, 0, 0] [0, 0, 0, 0, 0, 0, 0] [0, 0, 0, 0, 0, 0, 0] 2 cap mask p (p + 1) 1 0 0 0)) :=
  own_st (x := 13) rfl (by decide) (by decide) rfl rfl (by decide) (by decide) (own_k4 p cap mask a b sq l8 i0 i1 ne r0 r1 m1 t1 d1 hc)
theorem own_s_d1 (p cap mask a b : Int32) (sq : List Int32) (l8 : sq.length = 8) (i0 : inb 8 (p &&& mask) = true) (i1 : inb 8 ((p + 1) &&& mask) = true) (ne : ¬ (p &&& mask) = ((p + 1) &&& mask)) (r0 : rd sq (p &&& mask) = p) (r1 : rd sq ((p + 1) &&& mask) = p + 1) (m1 : p - (p + 1) = -1) (t1 : ¬ p + 1 = p) (d1 : p + 1 + 1 - (p + 1) = 1) (hc : 0 < cap) : j_step (Q.mk sq (List.replicate 8 0) [15, 21, 0, 0] [p, 0, 0, 0] [a, 0, 0, 0] [0, 0, 0, 0] [0, 0, 0, 0] (List.replicate 4 0) (1 :: 2 :: 0 :: 0 :: 0 :: 0 :: List.replicate 58 0) (0 :: 1 :: 0 :: 0 :: 0 :: 0 :: List.replicate 58 0) (a :: 0 :: 0 :: 0 :: 0 :: 0 :: List.replicate 58 0) (List.replicate 8 0) [0, 0, 0, 0, 0, 0] [0, 0, 0, 0, 0, 0] [0, 0, 0, 0, 0, 0] [0, 0, 0, 0, 0, 0] [0, 0, 0, 0, 0, 0] [0, 0, 0, 0, 0, 0] [0, 0, 0, 0, 0, 0] [0, 0, 0, 0] (List.replicate 56 0) [0, 0, 0, 0, 0, 0, 0] [0, 0, 0, 0, 0, 0, 0] [0, 0, 0, 0, 0, 0, 0] 2 cap mask p (p + 1) 2 0 0 0) 1 = some (1, (Q.mk sq (List.replicate 8 0) [15, 22, 0, 0] [p, p, 0, 0] [a, 0, 0, 0] [0, 0, 0, 0] [0, 0, 0, 0] (List.replicate 4 0) (1 :: 2 :: 0 :: 0 :: 0 :: 0 :: List.replicate 58 0) (0 :: 1 :: 0 :: 0 :: 0 :: 0 :: List.replicate 58 0) (a :: 0 :: 0 :: 0 :: 0 :: 0 :: List.replicate 58 0) (List.replicate 8 0) [0, 0, 0, 0, 0, 0] [0, 0, 0, 0, 0, 0] [0, 0, 0, 0, 0, 0] [0, 0, 0, 0, 0, 0] [0, 0, 0, 0, 0, 0] [0, 0, 0, 0, 0, 0] [0, 0, 0, 0, 0, 0] [0, 0, 0, 0] (List.replicate 56 0) [0, 0, 0, 0, 0, 0, 0] [0, 0, 0, 0, 0, 0, 0] [0, 0, 0, 0, 0, 0, 0] 2 cap mask p (p + 1) 2 0 0 0)) :=
  own_st (x := 21) rfl (by decide) (by decide) rfl rfl (by decide) (by decide) (own_k6 p cap mask a b sq l8 i0 i1 ne r0 r1 m1 t1 d1 hc)
theorem own_s_d2 (p cap mask a b : Int32) (sq : List Int32) (l8 : sq.length = 8) (i0 : inb 8 (p &&& mask) = true) (i1 : inb 8 ((p + 1) &&& mask) = true) (ne : ¬ (p &&& mask) = ((p + 1) &&& mask)) (r0 : rd sq (p &&& mask) = p) (r1 : rd sq ((p + 1) &&& mask) = p + 1) (m1 : p - (p + 1) = -1) (t1 : ¬ p + 1 = p) (d1 : p + 1 + 1 - (p + 1) = 1) (hc : 0 < cap) : j_step (Q.mk sq (List.replicate 8 0) [15, 22, 0, 0] [p, p, 0, 0] [a, 0, 0, 0] [0, 0, 0, 0] [0, 0, 0, 0] (List.replicate 4 0) (1 :: 2 :: 0 :: 0 :: 0 :: 0 :: List.replicate 58 0) (0 :: 1 :: 0 :: 0 :: 0 :: 0 :: List.replicate 58 0) (a :: 0 :: 0 :: 0 :: 0 :: 0 :: List.replicate 58 0) (List.replicate 8 0) [0, 0, 0, 0, 0, 0] [0, 0, 0, 0, 0, 0] [0, 0, 0, 0, 0, 0] [0, 0, 0, 0, 0, 0] [0, 0, 0, 0, 0, 0] [0, 0, 0, 0, 0, 0] [0, 0, 0, 0, 0, 0] [0, 0, 0, 0] (List.replicate 56 0) [0, 0, 0, 0, 0, 0, 0] [0, 0, 0, 0, 0, 0, 0] [0, 0, 0, 0, 0, 0, 0] 2 cap mask p (p + 1) 2 0 0 0) 1 = some (1, (Q.mk sq (List.replicate 8 0) [15, 24, 0, 0] [p, p, 0, 0] [a, 0, 0, 0] [0, 0, 0, 0] [0, 0, 0, 0] (List.replicate 4 0) (1 :: 2 :: 0 :: 0 :: 0 :: 0 :: List.replicate 58 0) (0 :: 1 :: 0 :: 0 :: 0 :: 0 :: List.replicate 58 0) (a :: 0 :: 0 :: 0 :: 0 :: 0 :: List.replicate 58 0) (List.replicate 8 0) [0, 0, 0, 0, 0, 0] [0, 0, 0, 0, 0, 0] [0, 0, 0, 0, 0, 0] [0, 0, 0, 0, 0, 0] [0, 0, 0, 0, 0, 0] [0, 0, 0, 0, 0, 0] [0, 0, 0, 0, 0, 0] [0, 0, 0, 0] (List.replicate 56 0) [0, 0, 0, 0, 0, 0, 0] [0, 0, 0, 0, 0, 0, 0] [0, 0, 0, 0, 0, 0, 0] 2 cap mask p (p + 1) 2 0 0 0)) :=
  own_st (x := 22) rfl (by decide) (by decide) rfl rfl (by decide) (by decide) (own_k7 p cap mask a b sq l8 i0 i1 ne r0 r1 m1 t1 d1 hc)
theorem own_s_d3 (p cap mask a b : Int32) (sq : List Int32) (l8 : sq.length = 8) (i0 : inb 8 (p &&& mask) = true) (i1 : inb 8 ((p + 1) &&& mask) = true) (ne : ¬ (p &&& mask) = ((p + 1) &&& mask)) (r0 : rd sq (p &&& mask) = p) (r1 : rd sq ((p + 1) &&& mask) = p + 1) (m1 : p - (p + 1) = -1) (t1 : ¬ p + 1 = p) (d1 : p + 1 + 1 - (p + 1) = 1) (hc : 0 < cap) : j_step (Q.mk sq (List.replicate 8 0) [15, 24, 0, 0] [p, p, 0, 0] [a, 0, 0, 0] [0, 0, 0, 0] [0, 0, 0, 0] (List.replicate 4 0) (1 :: 2 :: 0 :: 0 :: 0 :: 0 :: List.replicate 58 0) (0 :: 1 :: 0 :: 0 :: 0 :: 0 :: List.replicate 58 0) (a :: 0 :: 0 :: 0 :: 0 :: 0 :: List.replicate 58 0) (List.replicate 8 0) [0, 0, 0, 0, 0, 0] [0, 0, 0, 0, 0, 0] [0, 0, 0, 0, 0, 0] [0, 0, 0, 0, 0, 0] [0, 0, 0, 0, 0, 0] [0, 0, 0, 0, 0, 0] [0, 0, 0, 0, 0, 0] [0, 0, 0, 0] (List.replicate 56 0) [0, 0, 0, 0, 0, 0, 0] [0, 0, 0, 0, 0, 0, 0] [0, 0, 0, 0, 0, 0, 0] 2 cap mask p (p + 1) 2 0 0 0) 1 = some (1, (Q.mk sq (List.replicate 8 0) [15, 21, 0, 0] [p, p, 0, 0] [a, 0, 0, 0] [0, 0, 0, 0] [0, 0, 0, 0] (List.replicate 4 0) (1 :: 2 :: 0 :: 0 :: 0 :: 0 :: List.replicate 58 0) (0 :: 1 :: 0 :: 0 :: 0 :: 0 :: List.replicate 58 0) (a :: 0 :: 0 :: 0 :: 0 :: 0 :: List.replicate 58 0) (List.replicate 8 0) [0, 0, 0, 0, 0, 0] [0, 0, 0, 0, 0, 0] [0, 0, 0, 0, 0, 0] [0, 0, 0, 0, 0, 0] [0, 0, 0, 0, 0, 0] [0, 0, 0, 0, 0, 0] [0, 0, 0, 0, 0, 0] [0, 0, 0, 0] (List.replicate 56 0) [0, 0, 0, 0, 0, 0, 0] [0, 0, 0, 0, 0, 0, 0] [0, 0, 0, 0, 0, 0, 0] 2 cap mask p (p + 1) 2 0 0 0)) :=
  own_st (x := 24) rfl (by decide) (by decide) rfl rfl (by decide) (by decide) (own_k8 p cap mask a b sq l8 i0 i1 ne r0 r1 m1 t1 d1 hc)
theorem own_g_0 (p cap mask a b : Int32) (sq : List Int32) (l8 : sq.length = 8) (i0 : inb 8 (p &&& mask) = true) (i1 : inb 8 ((p + 1) &&& mask) = true) (ne : ¬ (p &&& mask) = ((p + 1) &&& mask)) (r0 : rd sq (p &&& mask) = p) (r1 : rd sq ((p + 1) &&& mask) = p + 1) (m1 : p - (p + 1) = -1) (t1 : ¬ p + 1 = p) (d1 : p + 1 + 1 - (p + 1) = 1) (hc : 0 < cap) : j_state (Q.mk sq (List.replicate 8 0) [15, 0, 0, 0] [p, 0, 0, 0] [a, 0, 0, 0] [0, 0, 0, 0] [0, 0, 0, 0] (List.replicate 4 0) (1 :: 0 :: 0 :: 0 :: 0 :: 0 :: List.replicate 58 0) (0 :: 0 :: 0 :: 0 :: 0 :: 0 :: List.replicate 58 0) (a :: 0 :: 0 :: 0 :: 0 :: 0 :: List.replicate 58 0) (List.replicate 8 0) [0, 0, 0, 0, 0, 0] [0, 0, 0, 0, 0, 0] [0, 0, 0, 0, 0, 0] [0, 0, 0, 0, 0, 0] [0, 0, 0, 0, 0, 0] [0, 0, 0, 0, 0, 0] [0, 0, 0, 0, 0, 0] [0, 0, 0, 0] (List.replicate 56 0) [0, 0, 0, 0, 0, 0, 0] [0, 0, 0, 0, 0, 0, 0] [0, 0, 0, 0, 0, 0, 0] 2 cap mask p (p + 1) 1 0 0 0) 0 = some (15) := by
  have e01 : ∀ (xs : List Int32) (v : Int32), rd (wr xs (p &&& mask) v) ((p + 1) &&& mask) = rd xs ((p + 1) &&& mask) := fun xs v => rd_wr_ne (inb_nn i0) (inb_nn i1) ne v
  have e10 : ∀ (xs : List Int32) (v : Int32), rd (wr xs ((p + 1) &&& mask) v) (p &&& mask) = rd xs (p &&& mask) := fun xs v => rd_wr_ne (inb_nn i1) (inb_nn i0) (fun e => ne e.symm) v
  simp [j_state, j_lastStatus, j_lastValue, j_contentCount, j_contentCount_l2, j_contentCount_b39, j_contentAt, j_historyLength, j_historyEvent, j_historyValue, j_valid, own_Qa, own_in_4_0, own_in_4_1, own_in_4_2, own_in_4_3, own_in_64_0, own_in_64_1, own_in_64_2, own_in_64_3, own_in_64_4, own_in_64_5, own_in_6_0, own_in_6_1, own_in_6_2, own_in_6_3, own_in_6_4, own_in_6_5, own_in_7_0, own_in_7_1, own_in_7_2, own_in_7_3, own_in_56_0, own_in_56_8, own_in_56_16, own_in_56_24, own_an_0_0, own_an_0_1, own_an_1_1, own_an_1_2, own_an_3_1, own_an_3_2, own_an_3_4, own_an_0_3, own_an_3_3, own_an_1_7, own_an_3_7, own_an_7_7, own_an_1_0, own_an_3_0, own_x0, own_x1, own_x2, own_x3, own_x4, own_x5, own_y0, own_y1, own_y2, own_y3, own_y4, own_y5, own_ll64, own_ll4, own_ll6, own_ll7, rd_wr_same, len_wr, l8, i0, i1, d1, e01, e10, List.length_replicate, -List.reduceReplicate]
theorem own_g_1 (p cap mask a b : Int32) (sq : List Int32) (l8 : sq.length = 8) (i0 : inb 8 (p &&& mask) = true) (i1 : inb 8 ((p + 1) &&& mask) = true) (ne : ¬ (p &&& mask) = ((p + 1) &&& mask)) (r0 : rd sq (p &&& mask) = p) (r1 : rd sq ((p + 1) &&& mask) = p + 1) (m1 : p - (p + 1) = -1) (t1 : ¬ p + 1 = p) (d1 : p + 1 + 1 - (p + 1) = 1) (hc : 0 < cap) : j_state (Q.mk sq (List.replicate 8 0) [15, 21, 0, 0] [p, p, 0, 0] [a, 0, 0, 0] [0, 0, 0, 0] [0, 0, 0, 0] (List.replicate 4 0) (1 :: 2 :: 0 :: 0 :: 0 :: 0 :: List.replicate 58 0) (0 :: 1 :: 0 :: 0 :: 0 :: 0 :: List.replicate 58 0) (a :: 0 :: 0 :: 0 :: 0 :: 0 :: List.replicate 58 0) (List.replicate 8 0) [0, 0, 0, 0, 0, 0] [0, 0, 0, 0, 0, 0] [0, 0, 0, 0, 0, 0] [0, 0, 0, 0, 0, 0] [0, 0, 0, 0, 0, 0] [0, 0, 0, 0, 0, 0] [0, 0, 0, 0, 0, 0] [0, 0, 0, 0] (List.replicate 56 0) [0, 0, 0, 0, 0, 0, 0] [0, 0, 0, 0, 0, 0, 0] [0, 0, 0, 0, 0, 0, 0] 2 cap mask p (p + 1) 2 0 0 0) 1 = some (21) := by
  have e01 : ∀ (xs : List Int32) (v : Int32), rd (wr xs (p &&& mask) v) ((p + 1) &&& mask) = rd xs ((p + 1) &&& mask) := fun xs v => rd_wr_ne (inb_nn i0) (inb_nn i1) ne v
  have e10 : ∀ (xs : List Int32) (v : Int32), rd (wr xs ((p + 1) &&& mask) v) (p &&& mask) = rd xs (p &&& mask) := fun xs v => rd_wr_ne (inb_nn i1) (inb_nn i0) (fun e => ne e.symm) v
  simp [j_state, j_lastStatus, j_lastValue, j_contentCount, j_contentCount_l2, j_contentCount_b39, j_contentAt, j_historyLength, j_historyEvent, j_historyValue, j_valid, own_Qa, own_in_4_0, own_in_4_1, own_in_4_2, own_in_4_3, own_in_64_0, own_in_64_1, own_in_64_2, own_in_64_3, own_in_64_4, own_in_64_5, own_in_6_0, own_in_6_1, own_in_6_2, own_in_6_3, own_in_6_4, own_in_6_5, own_in_7_0, own_in_7_1, own_in_7_2, own_in_7_3, own_in_56_0, own_in_56_8, own_in_56_16, own_in_56_24, own_an_0_0, own_an_0_1, own_an_1_1, own_an_1_2, own_an_3_1, own_an_3_2, own_an_3_4, own_an_0_3, own_an_3_3, own_an_1_7, own_an_3_7, own_an_7_7, own_an_1_0, own_an_3_0, own_x0, own_x1, own_x2, own_x3, own_x4, own_x5, own_y0, own_y1, own_y2, own_y3, own_y4, own_y5, own_ll64, own_ll4, own_ll6, own_ll7, rd_wr_same, len_wr, l8, i0, i1, d1, e01, e10, List.length_replicate, -List.reduceReplicate]
theorem own_g_2 (p cap mask a b : Int32) (sq : List Int32) (l8 : sq.length = 8) (i0 : inb 8 (p &&& mask) = true) (i1 : inb 8 ((p + 1) &&& mask) = true) (ne : ¬ (p &&& mask) = ((p + 1) &&& mask)) (r0 : rd sq (p &&& mask) = p) (r1 : rd sq ((p + 1) &&& mask) = p + 1) (m1 : p - (p + 1) = -1) (t1 : ¬ p + 1 = p) (d1 : p + 1 + 1 - (p + 1) = 1) (hc : 0 < cap) : j_contentCount (Q.mk sq (List.replicate 8 0) [15, 21, 0, 0] [p, p, 0, 0] [a, 0, 0, 0] [0, 0, 0, 0] [0, 0, 0, 0] (List.replicate 4 0) (1 :: 2 :: 0 :: 0 :: 0 :: 0 :: List.replicate 58 0) (0 :: 1 :: 0 :: 0 :: 0 :: 0 :: List.replicate 58 0) (a :: 0 :: 0 :: 0 :: 0 :: 0 :: List.replicate 58 0) (List.replicate 8 0) [0, 0, 0, 0, 0, 0] [0, 0, 0, 0, 0, 0] [0, 0, 0, 0, 0, 0] [0, 0, 0, 0, 0, 0] [0, 0, 0, 0, 0, 0] [0, 0, 0, 0, 0, 0] [0, 0, 0, 0, 0, 0] [0, 0, 0, 0] (List.replicate 56 0) [0, 0, 0, 0, 0, 0, 0] [0, 0, 0, 0, 0, 0, 0] [0, 0, 0, 0, 0, 0, 0] 2 cap mask p (p + 1) 2 0 0 0) = some (-1) := by
  have e01 : ∀ (xs : List Int32) (v : Int32), rd (wr xs (p &&& mask) v) ((p + 1) &&& mask) = rd xs ((p + 1) &&& mask) := fun xs v => rd_wr_ne (inb_nn i0) (inb_nn i1) ne v
  have e10 : ∀ (xs : List Int32) (v : Int32), rd (wr xs ((p + 1) &&& mask) v) (p &&& mask) = rd xs (p &&& mask) := fun xs v => rd_wr_ne (inb_nn i1) (inb_nn i0) (fun e => ne e.symm) v
  simp [j_state, j_lastStatus, j_lastValue, j_contentCount, j_contentCount_l2, j_contentCount_b39, j_contentAt, j_historyLength, j_historyEvent, j_historyValue, j_valid, own_Qa, own_in_4_0, own_in_4_1, own_in_4_2, own_in_4_3, own_in_64_0, own_in_64_1, own_in_64_2, own_in_64_3, own_in_64_4, own_in_64_5, own_in_6_0, own_in_6_1, own_in_6_2, own_in_6_3, own_in_6_4, own_in_6_5, own_in_7_0, own_in_7_1, own_in_7_2, own_in_7_3, own_in_56_0, own_in_56_8, own_in_56_16, own_in_56_24, own_an_0_0, own_an_0_1, own_an_1_1, own_an_1_2, own_an_3_1, own_an_3_2, own_an_3_4, own_an_0_3, own_an_3_3, own_an_1_7, own_an_3_7, own_an_7_7, own_an_1_0, own_an_3_0, own_x0, own_x1, own_x2, own_x3, own_x4, own_x5, own_y0, own_y1, own_y2, own_y3, own_y4, own_y5, own_ll64, own_ll4, own_ll6, own_ll7, rd_wr_same, len_wr, l8, i0, i1, d1, e01, e10, List.length_replicate, -List.reduceReplicate]
theorem own_g_3 (p cap mask a b : Int32) (sq : List Int32) (l8 : sq.length = 8) (i0 : inb 8 (p &&& mask) = true) (i1 : inb 8 ((p + 1) &&& mask) = true) (ne : ¬ (p &&& mask) = ((p + 1) &&& mask)) (r0 : rd sq (p &&& mask) = p) (r1 : rd sq ((p + 1) &&& mask) = p + 1) (m1 : p - (p + 1) = -1) (t1 : ¬ p + 1 = p) (d1 : p + 1 + 1 - (p + 1) = 1) (hc : 0 < cap) : j_lastStatus (Q.mk (wr (wr sq (p &&& mask) (p + 1)) (p &&& mask) (p + cap)) (wr (List.replicate 8 0) (p &&& mask) a) [0, 0, 0, 0] [p, p, 0, 0] [a, a, 0, 0] [1, 1, 0, 0] [0, a, 0, 0] (List.replicate 4 0) (1 :: 2 :: 3 :: 3 :: 0 :: 0 :: List.replicate 58 0) (0 :: 1 :: 0 :: 1 :: 0 :: 0 :: List.replicate 58 0) (a :: 0 :: 0 :: a :: 0 :: 0 :: List.replicate 58 0) (List.replicate 8 0) [0, 0, 0, 0, 0, 0] [0, 0, 0, 0, 0, 0] [0, 0, 0, 0, 0, 0] [0, 0, 0, 0, 0, 0] [0, 0, 0, 0, 0, 0] [0, 0, 0, 0, 0, 0] [0, 0, 0, 0, 0, 0] [0, 0, 0, 0] (List.replicate 56 0) [0, 0, 0, 0, 0, 0, 0] [0, 0, 0, 0, 0, 0, 0] [0, 0, 0, 0, 0, 0, 0] 2 cap mask (p + 1) (p + 1) 4 0 0 0) 0 = some (1) := by
  have e01 : ∀ (xs : List Int32) (v : Int32), rd (wr xs (p &&& mask) v) ((p + 1) &&& mask) = rd xs ((p + 1) &&& mask) := fun xs v => rd_wr_ne (inb_nn i0) (inb_nn i1) ne v
  have e10 : ∀ (xs : List Int32) (v : Int32), rd (wr xs ((p + 1) &&& mask) v) (p &&& mask) = rd xs (p &&& mask) := fun xs v => rd_wr_ne (inb_nn i1) (inb_nn i0) (fun e => ne e.symm) v
  simp [j_state, j_lastStatus, j_lastValue, j_contentCount, j_contentCount_l2, j_contentCount_b39, j_contentAt, j_historyLength, j_historyEvent, j_historyValue, j_valid, own_Qa, own_in_4_0, own_in_4_1, own_in_4_2, own_in_4_3, own_in_64_0, own_in_64_1, own_in_64_2, own_in_64_3, own_in_64_4, own_in_64_5, own_in_6_0, own_in_6_1, own_in_6_2, own_in_6_3, own_in_6_4, own_in_6_5, own_in_7_0, own_in_7_1, own_in_7_2, own_in_7_3, own_in_56_0, own_in_56_8, own_in_56_16, own_in_56_24, own_an_0_0, own_an_0_1, own_an_1_1, own_an_1_2, own_an_3_1, own_an_3_2, own_an_3_4, own_an_0_3, own_an_3_3, own_an_1_7, own_an_3_7, own_an_7_7, own_an_1_0, own_an_3_0, own_x0, own_x1, own_x2, own_x3, own_x4, own_x5, own_y0, own_y1, own_y2, own_y3, own_y4, own_y5, own_ll64, own_ll4, own_ll6, own_ll7, rd_wr_same, len_wr, l8, i0, i1, d1, e01, e10, List.length_replicate, -List.reduceReplicate]
theorem own_g_4 (p cap mask a b : Int32) (sq : List Int32) (l8 : sq.length = 8) (i0 : inb 8 (p &&& mask) = true) (i1 : inb 8 ((p + 1) &&& mask) = true) (ne : ¬ (p &&& mask) = ((p + 1) &&& mask)) (r0 : rd sq (p &&& mask) = p) (r1 : rd sq ((p + 1) &&& mask) = p + 1) (m1 : p - (p + 1) = -1) (t1 : ¬ p + 1 = p) (d1 : p + 1 + 1 - (p + 1) = 1) (hc : 0 < cap) : j_lastValue (Q.mk (wr (wr sq (p &&& mask) (p + 1)) (p &&& mask) (p + cap)) (wr (List.replicate 8 0) (p &&& mask) a) [0, 0, 0, 0] [p, p, 0, 0] [a, a, 0, 0] [1, 1, 0, 0] [0, a, 0, 0] (List.replicate 4 0) (1 :: 2 :: 3 :: 3 :: 0 :: 0 :: List.replicate 58 0) (0 :: 1 :: 0 :: 1 :: 0 :: 0 :: List.replicate 58 0) (a :: 0 :: 0 :: a :: 0 :: 0 :: List.replicate 58 0) (List.replicate 8 0) [0, 0, 0, 0, 0, 0] [0, 0, 0, 0, 0, 0] [0, 0, 0, 0, 0, 0] [0, 0, 0, 0, 0, 0] [0, 0, 0, 0, 0, 0] [0, 0, 0, 0, 0, 0] [0, 0, 0, 0, 0, 0] [0, 0, 0, 0] (List.replicate 56 0) [0, 0, 0, 0, 0, 0, 0] [0, 0, 0, 0, 0, 0, 0] [0, 0, 0, 0, 0, 0, 0] 2 cap mask (p + 1) (p + 1) 4 0 0 0) 0 = some (0) := by
  have e01 : ∀ (xs : List Int32) (v : Int32), rd (wr xs (p &&& mask) v) ((p + 1) &&& mask) = rd xs ((p + 1) &&& mask) := fun xs v => rd_wr_ne (inb_nn i0) (inb_nn i1) ne v
  have e10 : ∀ (xs : List Int32) (v : Int32), rd (wr xs ((p + 1) &&& mask) v) (p &&& mask) = rd xs (p &&& mask) := fun xs v => rd_wr_ne (inb_nn i1) (inb_nn i0) (fun e => ne e.symm) v
  simp [j_state, j_lastStatus, j_lastValue, j_contentCount, j_contentCount_l2, j_contentCount_b39, j_contentAt, j_historyLength, j_historyEvent, j_historyValue, j_valid, own_Qa, own_in_4_0, own_in_4_1, own_in_4_2, own_in_4_3, own_in_64_0, own_in_64_1, own_in_64_2, own_in_64_3, own_in_64_4, own_in_64_5, own_in_6_0, own_in_6_1, own_in_6_2, own_in_6_3, own_in_6_4, own_in_6_5, own_in_7_0, own_in_7_1, own_in_7_2, own_in_7_3, own_in_56_0, own_in_56_8, own_in_56_16, own_in_56_24, own_an_0_0, own_an_0_1, own_an_1_1, own_an_1_2, own_an_3_1, own_an_3_2, own_an_3_4, own_an_0_3, own_an_3_3, own_an_1_7, own_an_3_7, own_an_7_7, own_an_1_0, own_an_3_0, own_x0, own_x1, own_x2, own_x3, own_x4, own_x5, own_y0, own_y1, own_y2, own_y3, own_y4, own_y5, own_ll64, own_ll4, own_ll6, own_ll7, rd_wr_same, len_wr, l8, i0, i1, d1, e01, e10, List.length_replicate, -List.reduceReplicate]
theorem own_g_5 (p cap mask a b : Int32) (sq : List Int32) (l8 : sq.length = 8) (i0 : inb 8 (p &&& mask) = true) (i1 : inb 8 ((p + 1) &&& mask) = true) (ne : ¬ (p &&& mask) = ((p + 1) &&& mask)) (r0 : rd sq (p &&& mask) = p) (r1 : rd sq ((p + 1) &&& mask) = p + 1) (m1 : p - (p + 1) = -1) (t1 : ¬ p + 1 = p) (d1 : p + 1 + 1 - (p + 1) = 1) (hc : 0 < cap) : j_lastStatus (Q.mk (wr (wr sq (p &&& mask) (p + 1)) (p &&& mask) (p + cap)) (wr (List.replicate 8 0) (p &&& mask) a) [0, 0, 0, 0] [p, p, 0, 0] [a, a, 0, 0] [1, 1, 0, 0] [0, a, 0, 0] (List.replicate 4 0) (1 :: 2 :: 3 :: 3 :: 0 :: 0 :: List.replicate 58 0) (0 :: 1 :: 0 :: 1 :: 0 :: 0 :: List.replicate 58 0) (a :: 0 :: 0 :: a :: 0 :: 0 :: List.replicate 58 0) (List.replicate 8 0) [0, 0, 0, 0, 0, 0] [0, 0, 0, 0, 0, 0] [0, 0, 0, 0, 0, 0] [0, 0, 0, 0, 0, 0] [0, 0, 0, 0, 0, 0] [0, 0, 0, 0, 0, 0] [0, 0, 0, 0, 0, 0] [0, 0, 0, 0] (List.replicate 56 0) [0, 0, 0, 0, 0, 0, 0] [0, 0, 0, 0, 0, 0, 0] [0, 0, 0, 0, 0, 0, 0] 2 cap mask (p + 1) (p + 1) 4 0 0 0) 1 = some (1) := by
  have e01 : ∀ (xs : List Int32) (v : Int32), rd (wr xs (p &&& mask) v) ((p + 1) &&& mask) = rd xs ((p + 1) &&& mask) := fun xs v => rd_wr_ne (inb_nn i0) (inb_nn i1) ne v
  have e10 : ∀ (xs : List Int32) (v : Int32), rd (wr xs ((p + 1) &&& mask) v) (p &&& mask) = rd xs (p &&& mask) := fun xs v => rd_wr_ne (inb_nn i1) (inb_nn i0) (fun e => ne e.symm) v
  simp [j_state, j_lastStatus, j_lastValue, j_contentCount, j_contentCount_l2, j_contentCount_b39, j_contentAt, j_historyLength, j_historyEvent, j_historyValue, j_valid, own_Qa, own_in_4_0, own_in_4_1, own_in_4_2, own_in_4_3, own_in_64_0, own_in_64_1, own_in_64_2, own_in_64_3, own_in_64_4, own_in_64_5, own_in_6_0, own_in_6_1, own_in_6_2, own_in_6_3, own_in_6_4, own_in_6_5, own_in_7_0, own_in_7_1, own_in_7_2, own_in_7_3, own_in_56_0, own_in_56_8, own_in_56_16, own_in_56_24, own_an_0_0, own_an_0_1, own_an_1_1, own_an_1_2, own_an_3_1, own_an_3_2, own_an_3_4, own_an_0_3, own_an_3_3, own_an_1_7, own_an_3_7, own_an_7_7, own_an_1_0, own_an_3_0, own_x0, own_x1, own_x2, own_x3, own_x4, own_x5, own_y0, own_y1, own_y2, own_y3, own_y4, own_y5, own_ll64, own_ll4, own_ll6, own_ll7, rd_wr_same, len_wr, l8, i0, i1, d1, e01, e10, List.length_replicate, -List.reduceReplicate]
theorem own_g_6 (p cap mask a b : Int32) (sq : List Int32) (l8 : sq.length = 8) (i0 : inb 8 (p &&& mask) = true) (i1 : inb 8 ((p + 1) &&& mask) = true) (ne : ¬ (p &&& mask) = ((p + 1) &&& mask)) (r0 : rd sq (p &&& mask) = p) (r1 : rd sq ((p + 1) &&& mask) = p + 1) (m1 : p - (p + 1) = -1) (t1 : ¬ p + 1 = p) (d1 : p + 1 + 1 - (p + 1) = 1) (hc : 0 < cap) : j_lastValue (Q.mk (wr (wr sq (p &&& mask) (p + 1)) (p &&& mask) (p + cap)) (wr (List.replicate 8 0) (p &&& mask) a) [0, 0, 0, 0] [p, p, 0, 0] [a, a, 0, 0] [1, 1, 0, 0] [0, a, 0, 0] (List.replicate 4 0) (1 :: 2 :: 3 :: 3 :: 0 :: 0 :: List.replicate 58 0) (0 :: 1 :: 0 :: 1 :: 0 :: 0 :: List.replicate 58 0) (a :: 0 :: 0 :: a :: 0 :: 0 :: List.replicate 58 0) (List.replicate 8 0) [0, 0, 0, 0, 0, 0] [0, 0, 0, 0, 0, 0] [0, 0, 0, 0, 0, 0] [0, 0, 0, 0, 0, 0] [0, 0, 0, 0, 0, 0] [0, 0, 0, 0, 0, 0] [0, 0, 0, 0, 0, 0] [0, 0, 0, 0] (List.replicate 56 0) [0, 0, 0, 0, 0, 0, 0] [0, 0, 0, 0, 0, 0, 0] [0, 0, 0, 0, 0, 0, 0] 2 cap mask (p + 1) (p + 1) 4 0 0 0) 1 = some (a) := by
  have e01 : ∀ (xs : List Int32) (v : Int32), rd (wr xs (p &&& mask) v) ((p + 1) &&& mask) = rd xs ((p + 1) &&& mask) := fun xs v => rd_wr_ne (inb_nn i0) (inb_nn i1) ne v
  have e10 : ∀ (xs : List Int32) (v : Int32), rd (wr xs ((p + 1) &&& mask) v) (p &&& mask) = rd xs (p &&& mask) := fun xs v => rd_wr_ne (inb_nn i1) (inb_nn i0) (fun e => ne e.symm) v
  simp [j_state, j_lastStatus, j_lastValue, j_contentCount, j_contentCount_l2, j_contentCount_b39, j_contentAt, j_historyLength, j_historyEvent, j_historyValue, j_valid, own_Qa, own_in_4_0, own_in_4_1, own_in_4_2, own_in_4_3, own_in_64_0, own_in_64_1, own_in_64_2, own_in_64_3, own_in_64_4, own_in_64_5, own_in_6_0, own_in_6_1, own_in_6_2, own_in_6_3, own_in_6_4, own_in_6_5, own_in_7_0, own_in_7_1, own_in_7_2, own_in_7_3, own_in_56_0, own_in_56_8, own_in_56_16, own_in_56_24, own_an_0_0, own_an_0_1, own_an_1_1, own_an_1_2, own_an_3_1, own_an_3_2, own_an_3_4, own_an_0_3, own_an_3_3, own_an_1_7, own_an_3_7, own_an_7_7, own_an_1_0, own_an_3_0, own_x0, own_x1, own_x2, own_x3, own_x4, own_x5, own_y0, own_y1, own_y2, own_y3, own_y4, own_y5, own_ll64, own_ll4, own_ll6, own_ll7, rd_wr_same, len_wr, l8, i0, i1, d1, e01, e10, List.length_replicate, -List.reduceReplicate]
theorem own_g_7 (p cap mask a b : Int32) (sq : List Int32) (l8 : sq.length = 8) (i0 : inb 8 (p &&& mask) = true) (i1 : inb 8 ((p + 1) &&& mask) = true) (ne : ¬ (p &&& mask) = ((p + 1) &&& mask)) (r0 : rd sq (p &&& mask) = p) (r1 : rd sq ((p + 1) &&& mask) = p + 1) (m1 : p - (p + 1) = -1) (t1 : ¬ p + 1 = p) (d1 : p + 1 + 1 - (p + 1) = 1) (hc : 0 < cap) : j_contentCount (Q.mk (wr (wr (wr sq (p &&& mask) (p + 1)) (p &&& mask) (p + cap)) ((p + 1) &&& mask) (p + 1 + 1)) (wr (wr (List.replicate 8 0) (p &&& mask) a) ((p + 1) &&& mask) b) [0, 0, 0, 0] [p + 1, p, 0, 0] [b, a, 0, 0] [1, 1, 0, 0] [0, a, 0, 0] (List.replicate 4 0) (1 :: 2 :: 3 :: 3 :: 1 :: 3 :: List.replicate 58 0) (0 :: 1 :: 0 :: 1 :: 0 :: 0 :: List.replicate 58 0) (a :: 0 :: 0 :: a :: b :: 0 :: List.replicate 58 0) (List.replicate 8 0) [0, 0, 0, 0, 0, 0] [0, 0, 0, 0, 0, 0] [0, 0, 0, 0, 0, 0] [0, 0, 0, 0, 0, 0] [0, 0, 0, 0, 0, 0] [0, 0, 0, 0, 0, 0] [0, 0, 0, 0, 0, 0] [0, 0, 0, 0] (List.replicate 56 0) [0, 0, 0, 0, 0, 0, 0] [0, 0, 0, 0, 0, 0, 0] [0, 0, 0, 0, 0, 0, 0] 2 cap mask (p + 1) (p + 1 + 1) 6 0 0 0) = some (1) := by
  have e01 : ∀ (xs : List Int32) (v : Int32), rd (wr xs (p &&& mask) v) ((p + 1) &&& mask) = rd xs ((p + 1) &&& mask) := fun xs v => rd_wr_ne (inb_nn i0) (inb_nn i1) ne v
  have e10 : ∀ (xs : List Int32) (v : Int32), rd (wr xs ((p + 1) &&& mask) v) (p &&& mask) = rd xs (p &&& mask) := fun xs v => rd_wr_ne (inb_nn i1) (inb_nn i0) (fun e => ne e.symm) v
  simp [j_state, j_lastStatus, j_lastValue, j_contentCount, j_contentCount_l2, j_contentCount_b39, j_contentAt, j_historyLength, j_historyEvent, j_historyValue, j_valid, own_Qa, own_in_4_0, own_in_4_1, own_in_4_2, own_in_4_3, own_in_64_0, own_in_64_1, own_in_64_2, own_in_64_3, own_in_64_4, own_in_64_5, own_in_6_0, own_in_6_1, own_in_6_2, own_in_6_3, own_in_6_4, own_in_6_5, own_in_7_0, own_in_7_1, own_in_7_2, own_in_7_3, own_in_56_0, own_in_56_8, own_in_56_16, own_in_56_24, own_an_0_0, own_an_0_1, own_an_1_1, own_an_1_2, own_an_3_1, own_an_3_2, own_an_3_4, own_an_0_3, own_an_3_3, own_an_1_7, own_an_3_7, own_an_7_7, own_an_1_0, own_an_3_0, own_x0, own_x1, own_x2, own_x3, own_x4, own_x5, own_y0, own_y1, own_y2, own_y3, own_y4, own_y5, own_ll64, own_ll4, own_ll6, own_ll7, rd_wr_same, len_wr, l8, i0, i1, d1, e01, e10, List.length_replicate, -List.reduceReplicate]
theorem own_g_8 (p cap mask a b : Int32) (sq : List Int32) (l8 : sq.length = 8) (i0 : inb 8 (p &&& mask) = true) (i1 : inb 8 ((p + 1) &&& mask) = true) (ne : ¬ (p &&& mask) = ((p + 1) &&& mask)) (r0 : rd sq (p &&& mask) = p) (r1 : rd sq ((p + 1) &&& mask) = p + 1) (m1 : p - (p + 1) = -1) (t1 : ¬ p + 1 = p) (d1 : p + 1 + 1 - (p + 1) = 1) (hc : 0 < cap) : j_contentAt (Q.mk (wr (wr (wr sq (p &&& mask) (p + 1)) (p &&& mask) (p + cap)) ((p + 1) &&& mask) (p + 1 + 1)) (wr (wr (List.replicate 8 0) (p &&& mask) a) ((p + 1) &&& mask) b) [0, 0, 0, 0] [p + 1, p, 0, 0] [b, a, 0, 0] [1, 1, 0, 0] [0, a, 0, 0] (List.replicate 4 0) (1 :: 2 :: 3 :: 3 :: 1 :: 3 :: List.replicate 58 0) (0 :: 1 :: 0 :: 1 :: 0 :: 0 :: List.replicate 58 0) (a :: 0 :: 0 :: a :: b :: 0 :: List.replicate 58 0) (List.replicate 8 0) [0, 0, 0, 0, 0, 0] [0, 0, 0, 0, 0, 0] [0, 0, 0, 0, 0, 0] [0, 0, 0, 0, 0, 0] [0, 0, 0, 0, 0, 0] [0, 0, 0, 0, 0, 0] [0, 0, 0, 0, 0, 0] [0, 0, 0, 0] (List.replicate 56 0) [0, 0, 0, 0, 0, 0, 0] [0, 0, 0, 0, 0, 0, 0] [0, 0, 0, 0, 0, 0, 0] 2 cap mask (p + 1) (p + 1 + 1) 6 0 0 0) 0 = some (b) := by
  have e01 : ∀ (xs : List Int32) (v : Int32), rd (wr xs (p &&& mask) v) ((p + 1) &&& mask) = rd xs ((p + 1) &&& mask) := fun xs v => rd_wr_ne (inb_nn i0) (inb_nn i1) ne v
  have e10 : ∀ (xs : List Int32) (v : Int32), rd (wr xs ((p + 1) &&& mask) v) (p &&& mask) = rd xs (p &&& mask) := fun xs v => rd_wr_ne (inb_nn i1) (inb_nn i0) (fun e => ne e.symm) v
  simp [j_state, j_lastStatus, j_lastValue, j_contentCount, j_contentCount_l2, j_contentCount_b39, j_contentAt, j_historyLength, j_historyEvent, j_historyValue, j_valid, own_Qa, own_in_4_0, own_in_4_1, own_in_4_2, own_in_4_3, own_in_64_0, own_in_64_1, own_in_64_2, own_in_64_3, own_in_64_4, own_in_64_5, own_in_6_0, own_in_6_1, own_in_6_2, own_in_6_3, own_in_6_4, own_in_6_5, own_in_7_0, own_in_7_1, own_in_7_2, own_in_7_3, own_in_56_0, own_in_56_8, own_in_56_16, own_in_56_24, own_an_0_0, own_an_0_1, own_an_1_1, own_an_1_2, own_an_3_1, own_an_3_2, own_an_3_4, own_an_0_3, own_an_3_3, own_an_1_7, own_an_3_7, own_an_7_7, own_an_1_0, own_an_3_0, own_x0, own_x1, own_x2, own_x3, own_x4, own_x5, own_y0, own_y1, own_y2, own_y3, own_y4, own_y5, own_ll64, own_ll4, own_ll6, own_ll7, rd_wr_same, len_wr, l8, i0, i1, d1, e01, e10, List.length_replicate, -List.reduceReplicate]
theorem own_g_9 (p cap mask a b : Int32) (sq : List Int32) (l8 : sq.length = 8) (i0 : inb 8 (p &&& mask) = true) (i1 : inb 8 ((p + 1) &&& mask) = true) (ne : ¬ (p &&& mask) = ((p + 1) &&& mask)) (r0 : rd sq (p &&& mask) = p) (r1 : rd sq ((p + 1) &&& mask) = p + 1) (m1 : p - (p + 1) = -1) (t1 : ¬ p + 1 = p) (d1 : p + 1 + 1 - (p + 1) = 1) (hc : 0 < cap) : j_historyEvent (Q.mk (wr (wr (wr sq (p &&& mask) (p + 1)) (p &&& mask) (p + cap)) ((p + 1) &&& mask) (p + 1 + 1)) (wr (wr (List.replicate 8 0) (p &&& mask) a) ((p + 1) &&& mask) b) [0, 0, 0, 0] [p + 1, p, 0, 0] [b, a, 0, 0] [1, 1, 0, 0] [0, a, 0, 0] (List.replicate 4 0) (1 :: 2 :: 3 :: 3 :: 1 :: 3 :: List.replicate 58 0) (0 :: 1 :: 0 :: 1 :: 0 :: 0 :: List.replicate 58 0) (a :: 0 :: 0 :: a :: b :: 0 :: List.replicate 58 0) (List.replicate 8 0) [0, 0, 0, 0, 0, 0] [0, 0, 0, 0, 0, 0] [0, 0, 0, 0, 0, 0] [0, 0, 0, 0, 0, 0] [0, 0, 0, 0, 0, 0] [0, 0, 0, 0, 0, 0] [0, 0, 0, 0, 0, 0] [0, 0, 0, 0] (List.replicate 56 0) [0, 0, 0, 0, 0, 0, 0] [0, 0, 0, 0, 0, 0, 0] [0, 0, 0, 0, 0, 0, 0] 2 cap mask (p + 1) (p + 1 + 1) 6 0 0 0) 0 = some (16) := by
  have e01 : ∀ (xs : List Int32) (v : Int32), rd (wr xs (p &&& mask) v) ((p + 1) &&& mask) = rd xs ((p + 1) &&& mask) := fun xs v => rd_wr_ne (inb_nn i0) (inb_nn i1) ne v
  have e10 : ∀ (xs : List Int32) (v : Int32), rd (wr xs ((p + 1) &&& mask) v) (p &&& mask) = rd xs (p &&& mask) := fun xs v => rd_wr_ne (inb_nn i1) (inb_nn i0) (fun e => ne e.symm) v
  simp [j_state, j_lastStatus, j_lastValue, j_contentCount, j_contentCount_l2, j_contentCount_b39, j_contentAt, j_historyLength, j_historyEvent, j_historyValue, j_valid, own_Qa, own_in_4_0, own_in_4_1, own_in_4_2, own_in_4_3, own_in_64_0, own_in_64_1, own_in_64_2, own_in_64_3, own_in_64_4, own_in_64_5, own_in_6_0, own_in_6_1, own_in_6_2, own_in_6_3, own_in_6_4, own_in_6_5, own_in_7_0, own_in_7_1, own_in_7_2, own_in_7_3, own_in_56_0, own_in_56_8, own_in_56_16, own_in_56_24, own_an_0_0, own_an_0_1, own_an_1_1, own_an_1_2, own_an_3_1, own_an_3_2, own_an_3_4, own_an_0_3, own_an_3_3, own_an_1_7, own_an_3_7, own_an_7_7, own_an_1_0, own_an_3_0, own_x0, own_x1, own_x2, own_x3, own_x4, own_x5, own_y0, own_y1, own_y2, own_y3, own_y4, own_y5, own_ll64, own_ll4, own_ll6, own_ll7, rd_wr_same, len_wr, l8, i0, i1, d1, e01, e10, List.length_replicate, -List.reduceReplicate]
theorem own_g_10 (p cap mask a b : Int32) (sq : List Int32) (l8 : sq.length = 8) (i0 : inb 8 (p &&& mask) = true) (i1 : inb 8 ((p + 1) &&& mask) = true) (ne : ¬ (p &&& mask) = ((p + 1) &&& mask)) (r0 : rd sq (p &&& mask) = p) (r1 : rd sq ((p + 1) &&& mask) = p + 1) (m1 : p - (p + 1) = -1) (t1 : ¬ p + 1 = p) (d1 : p + 1 + 1 - (p + 1) = 1) (hc : 0 < cap) : j_historyValue (Q.mk (wr (wr (wr sq (p &&& mask) (p + 1)) (p &&& mask) (p + cap)) ((p + 1) &&& mask) (p + 1 + 1)) (wr (wr (List.replicate 8 0) (p &&& mask) a) ((p + 1) &&& mask) b) [0, 0, 0, 0] [p + 1, p, 0, 0] [b, a, 0, 0] [1, 1, 0, 0] [0, a, 0, 0] (List.replicate 4 0) (1 :: 2 :: 3 :: 3 :: 1 :: 3 :: List.replicate 58 0) (0 :: 1 :: 0 :: 1 :: 0 :: 0 :: List.replicate 58 0) (a :: 0 :: 0 :: a :: b :: 0 :: List.replicate 58 0) (List.replicate 8 0) [0, 0, 0, 0, 0, 0] [0, 0, 0, 0, 0, 0] [0, 0, 0, 0, 0, 0] [0, 0, 0, 0, 0, 0] [0, 0, 0, 0, 0, 0] [0, 0, 0, 0, 0, 0] [0, 0, 0, 0, 0, 0] [0, 0, 0, 0] (List.replicate 56 0) [0, 0, 0, 0, 0, 0, 0] [0, 0, 0, 0, 0, 0, 0] [0, 0, 0, 0, 0, 0, 0] 2 cap mask (p + 1) (p + 1 + 1) 6 0 0 0) 0 = some (a) := by
  have e01 : ∀ (xs : List Int32) (v : Int32), rd (wr xs (p &&& mask) v) ((p + 1) &&& mask) = rd xs ((p + 1) &&& mask) := fun xs v => rd_wr_ne (inb_nn i0) (inb_nn i1) ne v
  have e10 : ∀ (xs : List Int32) (v : Int32), rd (wr xs ((p + 1) &&& mask) v) (p &&& mask) = rd xs (p &&& mask) := fun xs v => rd_wr_ne (inb_nn i1) (inb_nn i0) (fun e => ne e.symm) v
  simp [j_state, j_lastStatus, j_lastValue, j_contentCount, j_contentCount_l2, j_contentCount_b39, j_contentAt, j_historyLength, j_historyEvent, j_historyValue, j_valid, own_Qa, own_in_4_0, own_in_4_1, own_in_4_2, own_in_4_3, own_in_64_0, own_in_64_1, own_in_64_2, own_in_64_3, own_in_64_4, own_in_64_5, own_in_6_0, own_in_6_1, own_in_6_2, own_in_6_3, own_in_6_4, own_in_6_5, own_in_7_0, own_in_7_1, own_in_7_2, own_in_7_3, own_in_56_0, own_in_56_8, own_in_56_16, own_in_56_24, own_an_0_0, own_an_0_1, own_an_1_1, own_an_1_2, own_an_3_1, own_an_3_2, own_an_3_4, own_an_0_3, own_an_3_3, own_an_1_7, own_an_3_7, own_an_7_7, own_an_1_0, own_an_3_0, own_x0, own_x1, own_x2, own_x3, own_x4, own_x5, own_y0, own_y1, own_y2, own_y3, own_y4, own_y5, own_ll64, own_ll4, own_ll6, own_ll7, rd_wr_same, len_wr, l8, i0, i1, d1, e01, e10, List.length_replicate, -List.reduceReplicate]
theorem own_g_11 (p cap mask a b : Int32) (sq : List Int32) (l8 : sq.length = 8) (i0 : inb 8 (p &&& mask) = true) (i1 : inb 8 ((p + 1) &&& mask) = true) (ne : ¬ (p &&& mask) = ((p + 1) &&& mask)) (r0 : rd sq (p &&& mask) = p) (r1 : rd sq ((p + 1) &&& mask) = p + 1) (m1 : p - (p + 1) = -1) (t1 : ¬ p + 1 = p) (d1 : p + 1 + 1 - (p + 1) = 1) (hc : 0 < cap) : j_historyEvent (Q.mk (wr (wr (wr sq (p &&& mask) (p + 1)) (p &&& mask) (p + cap)) ((p + 1) &&& mask) (p + 1 + 1)) (wr (wr (List.replicate 8 0) (p &&& mask) a) ((p + 1) &&& mask) b) [0, 0, 0, 0] [p + 1, p, 0, 0] [b, a, 0, 0] [1, 1, 0, 0] [0, a, 0, 0] (List.replicate 4 0) (1 :: 2 :: 3 :: 3 :: 1 :: 3 :: List.replicate 58 0) (0 :: 1 :: 0 :: 1 :: 0 :: 0 :: List.replicate 58 0) (a :: 0 :: 0 :: a :: b :: 0 :: List.replicate 58 0) (List.replicate 8 0) [0, 0, 0, 0, 0, 0] [0, 0, 0, 0, 0, 0] [0, 0, 0, 0, 0, 0] [0, 0, 0, 0, 0, 0] [0, 0, 0, 0, 0, 0] [0, 0, 0, 0, 0, 0] [0, 0, 0, 0, 0, 0] [0, 0, 0, 0] (List.replicate 56 0) [0, 0, 0, 0, 0, 0, 0] [0, 0, 0, 0, 0, 0, 0] [0, 0, 0, 0, 0, 0, 0] 2 cap mask (p + 1) (p + 1 + 1) 6 0 0 0) 1 = some (33) := by
  have e01 : ∀ (xs : List Int32) (v : Int32), rd (wr xs (p &&& mask) v) ((p + 1) &&& mask) = rd xs ((p + 1) &&& mask) := fun xs v => rd_wr_ne (inb_nn i0) (inb_nn i1) ne v
  have e10 : ∀ (xs : List Int32) (v : Int32), rd (wr xs ((p + 1) &&& mask) v) (p &&& mask) = rd xs (p &&& mask) := fun xs v => rd_wr_ne (inb_nn i1) (inb_nn i0) (fun e => ne e.symm) v
  simp [j_state, j_lastStatus, j_lastValue, j_contentCount, j_contentCount_l2, j_contentCount_b39, j_contentAt, j_historyLength, j_historyEvent, j_historyValue, j_valid, own_Qa, own_in_4_0, own_in_4_1, own_in_4_2, own_in_4_3, own_in_64_0, own_in_64_1, own_in_64_2, own_in_64_3, own_in_64_4, own_in_64_5, own_in_6_0, own_in_6_1, own_in_6_2, own_in_6_3, own_in_6_4, own_in_6_5, own_in_7_0, own_in_7_1, own_in_7_2, own_in_7_3, own_in_56_0, own_in_56_8, own_in_56_16, own_in_56_24, own_an_0_0, own_an_0_1, own_an_1_1, own_an_1_2, own_an_3_1, own_an_3_2, own_an_3_4, own_an_0_3, own_an_3_3, own_an_1_7, own_an_3_7, own_an_7_7, own_an_1_0, own_an_3_0, own_x0, own_x1, own_x2, own_x3, own_x4, own_x5, own_y0, own_y1, own_y2, own_y3, own_y4, own_y5, own_ll64, own_ll4, own_ll6, own_ll7, rd_wr_same, len_wr, l8, i0, i1, d1, e01, e10, List.length_replicate, -List.reduceReplicate]
theorem own_g_12 (p cap mask a b : Int32) (sq : List Int32) (l8 : sq.length = 8) (i0 : inb 8 (p &&& mask) = true) (i1 : inb 8 ((p + 1) &&& mask) = true) (ne : ¬ (p &&& mask) = ((p + 1) &&& mask)) (r0 : rd sq (p &&& mask) = p) (r1 : rd sq ((p + 1) &&& mask) = p + 1) (m1 : p - (p + 1) = -1) (t1 : ¬ p + 1 = p) (d1 : p + 1 + 1 - (p + 1) = 1) (hc : 0 < cap) : j_historyValue (Q.mk (wr (wr (wr sq (p &&& mask) (p + 1)) (p &&& mask) (p + cap)) ((p + 1) &&& mask) (p + 1 + 1)) (wr (wr (List.replicate 8 0) (p &&& mask) a) ((p + 1) &&& mask) b) [0, 0, 0, 0] [p + 1, p, 0, 0] [b, a, 0, 0] [1, 1, 0, 0] [0, a, 0, 0] (List.replicate 4 0) (1 :: 2 :: 3 :: 3 :: 1 :: 3 :: List.replicate 58 0) (0 :: 1 :: 0 :: 1 :: 0 :: 0 :: List.replicate 58 0) (a :: 0 :: 0 :: a :: b :: 0 :: List.replicate 58 0) (List.replicate 8 0) [0, 0, 0, 0, 0, 0] [0, 0, 0, 0, 0, 0] [0, 0, 0, 0, 0, 0] [0, 0, 0, 0, 0, 0] [0, 0, 0, 0, 0, 0] [0, 0, 0, 0, 0, 0] [0, 0, 0, 0, 0, 0] [0, 0, 0, 0] (List.replicate 56 0) [0, 0, 0, 0, 0, 0, 0] [0, 0, 0, 0, 0, 0, 0] [0, 0, 0, 0, 0, 0, 0] 2 cap mask (p + 1) (p + 1 + 1) 6 0 0 0) 1 = some (0) := by
  have e01 : ∀ (xs : List Int32) (v : Int32), rd (wr xs (p &&& mask) v) ((p + 1) &&& mask) = rd xs ((p + 1) &&& mask) := fun xs v => rd_wr_ne (inb_nn i0) (inb_nn i1) ne v
  have e10 : ∀ (xs : List Int32) (v : Int32), rd (wr xs ((p + 1) &&& mask) v) (p &&& mask) = rd xs (p &&& mask) := fun xs v => rd_wr_ne (inb_nn i1) (inb_nn i0) (fun e => ne e.symm) v
  simp [j_state, j_lastStatus, j_lastValue, j_contentCount, j_contentCount_l2, j_contentCount_b39, j_contentAt, j_historyLength, j_historyEvent, j_historyValue, j_valid, own_Qa, own_in_4_0, own_in_4_1, own_in_4_2, own_in_4_3, own_in_64_0, own_in_64_1, own_in_64_2, own_in_64_3, own_in_64_4, own_in_64_5, own_in_6_0, own_in_6_1, own_in_6_2, own_in_6_3, own_in_6_4, own_in_6_5, own_in_7_0, own_in_7_1, own_in_7_2, own_in_7_3, own_in_56_0, own_in_56_8, own_in_56_16, own_in_56_24, own_an_0_0, own_an_0_1, own_an_1_1, own_an_1_2, own_an_3_1, own_an_3_2, own_an_3_4, own_an_0_3, own_an_3_3, own_an_1_7, own_an_3_7, own_an_7_7, own_an_1_0, own_an_3_0, own_x0, own_x1, own_x2, own_x3, own_x4, own_x5, own_y0, own_y1, own_y2, own_y3, own_y4, own_y5, own_ll64, own_ll4, own_ll6, own_ll7, rd_wr_same, len_wr, l8, i0, i1, d1, e01, e10, List.length_replicate, -List.reduceReplicate]
theorem own_g_13 (p cap mask a b : Int32) (sq : List Int32) (l8 : sq.length = 8) (i0 : inb 8 (p &&& mask) = true) (i1 : inb 8 ((p + 1) &&& mask) = true) (ne : ¬ (p &&& mask) = ((p + 1) &&& mask)) (r0 : rd sq (p &&& mask) = p) (r1 : rd sq ((p + 1) &&& mask) = p + 1) (m1 : p - (p + 1) = -1) (t1 : ¬ p + 1 = p) (d1 : p + 1 + 1 - (p + 1) = 1) (hc : 0 < cap) : j_historyEvent (Q.mk (wr (wr (wr sq (p &&& mask) (p + 1)) (p &&& mask) (p + cap)) ((p + 1) &&& mask) (p + 1 + 1)) (wr (wr (List.replicate 8 0) (p &&& mask) a) ((p + 1) &&& mask) b) [0, 0, 0, 0] [p + 1, p, 0, 0] [b, a, 0, 0] [1, 1, 0, 0] [0, a, 0, 0] (List.replicate 4 0) (1 :: 2 :: 3 :: 3 :: 1 :: 3 :: List.replicate 58 0) (0 :: 1 :: 0 :: 1 :: 0 :: 0 :: List.replicate 58 0) (a :: 0 :: 0 :: a :: b :: 0 :: List.replicate 58 0) (List.replicate 8 0) [0, 0, 0, 0, 0, 0] [0, 0, 0, 0, 0, 0] [0, 0, 0, 0, 0, 0] [0, 0, 0, 0, 0, 0] [0, 0, 0, 0, 0, 0] [0, 0, 0, 0, 0, 0] [0, 0, 0, 0, 0, 0] [0, 0, 0, 0] (List.replicate 56 0) [0, 0, 0, 0, 0, 0, 0] [0, 0, 0, 0, 0, 0, 0] [0, 0, 0, 0, 0, 0, 0] 2 cap mask (p + 1) (p + 1 + 1) 6 0 0 0) 2 = some (48) := by
  have e01 : ∀ (xs : List Int32) (v : Int32), rd (wr xs (p &&& mask) v) ((p + 1) &&& mask) = rd xs ((p + 1) &&& mask) := fun xs v => rd_wr_ne (inb_nn i0) (inb_nn i1) ne v
  have e10 : ∀ (xs : List Int32) (v : Int32), rd (wr xs ((p + 1) &&& mask) v) (p &&& mask) = rd xs (p &&& mask) := fun xs v => rd_wr_ne (inb_nn i1) (inb_nn i0) (fun e => ne e.symm) v
  simp [j_state, j_lastStatus, j_lastValue, j_contentCount, j_contentCount_l2, j_contentCount_b39, j_contentAt, j_historyLength, j_historyEvent, j_historyValue, j_valid, own_Qa, own_in_4_0, own_in_4_1, own_in_4_2, own_in_4_3, own_in_64_0, own_in_64_1, own_in_64_2, own_in_64_3, own_in_64_4, own_in_64_5, own_in_6_0, own_in_6_1, own_in_6_2, own_in_6_3, own_in_6_4, own_in_6_5, own_in_7_0, own_in_7_1, own_in_7_2, own_in_7_3, own_in_56_0, own_in_56_8, own_in_56_16, own_in_56_24, own_an_0_0, own_an_0_1, own_an_1_1, own_an_1_2, own_an_3_1, own_an_3_2, own_an_3_4, own_an_0_3, own_an_3_3, own_an_1_7, own_an_3_7, own_an_7_7, own_an_1_0, own_an_3_0, own_x0, own_x1, own_x2, own_x3, own_x4, own_x5, own_y0, own_y1, own_y2, own_y3, own_y4, own_y5, own_ll64, own_ll4, own_ll6, own_ll7, rd_wr_same, len_wr, l8, i0, i1, d1, e01, e10, List.length_replicate, -List.reduceReplicate]
theorem own_g_14 (p cap mask a b : Int32) (sq : List Int32) (l8 : sq.length = 8) (i0 : inb 8 (p &&& mask) = true) (i1 : inb 8 ((p + 1) &&& mask) = true) (ne : ¬ (p &&& mask) = ((p + 1) &&& mask)) (r0 : rd sq (p &&& mask) = p) (r1 : rd sq ((p + 1) &&& mask) = p + 1) (m1 : p - (p + 1) = -1) (t1 : ¬ p + 1 = p) (d1 : p + 1 + 1 - (p + 1) = 1) (hc : 0 < cap) : j_historyValue (Q.mk (wr (wr (wr sq (p &&& mask) (p + 1)) (p &&& mask) (p + cap)) ((p + 1) &&& mask) (p + 1 + 1)) (wr (wr (List.replicate 8 0) (p &&& mask) a) ((p + 1) &&& mask) b) [0, 0, 0, 0] [p + 1, p, 0, 0] [b, a, 0, 0] [1, 1, 0, 0] [0, a, 0, 0] (List.replicate 4 0) (1 :: 2 :: 3 :: 3 :: 1 :: 3 :: List.replicate 58 0) (0 :: 1 :: 0 :: 1 :: 0 :: 0 :: List.replicate 58 0) (a :: 0 :: 0 :: a :: b :: 0 :: List.replicate 58 0) (List.replicate 8 0) [0, 0, 0, 0, 0, 0] [0, 0, 0, 0, 0, 0] [0, 0, 0, 0, 0, 0] [0, 0, 0, 0, 0, 0] [0, 0, 0, 0, 0, 0] [0, 0, 0, 0, 0, 0] [0, 0, 0, 0, 0, 0] [0, 0, 0, 0] (List.replicate 56 0) [0, 0, 0, 0, 0, 0, 0] [0, 0, 0, 0, 0, 0, 0] [0, 0, 0, 0, 0, 0, 0] 2 cap mask (p + 1) (p + 1 + 1) 6 0 0 0) 2 = some (0) := by
  have e01 : ∀ (xs : List Int32) (v : Int32), rd (wr xs (p &&& mask) v) ((p + 1) &&& mask) = rd xs ((p + 1) &&& mask) := fun xs v => rd_wr_ne (inb_nn i0) (inb_nn i1) ne v
  have e10 : ∀ (xs : List Int32) (v : Int32), rd (wr xs ((p + 1) &&& mask) v) (p &&& mask) = rd xs (p &&& mask) := fun xs v => rd_wr_ne (inb_nn i1) (inb_nn i0) (fun e => ne e.symm) v
  simp [j_state, j_lastStatus, j_lastValue, j_contentCount, j_contentCount_l2, j_contentCount_b39, j_contentAt, j_historyLength, j_historyEvent, j_historyValue, j_valid, own_Qa, own_in_4_0, own_in_4_1, own_in_4_2, own_in_4_3, own_in_64_0, own_in_64_1, own_in_64_2, own_in_64_3, own_in_64_4, own_in_64_5, own_in_6_0, own_in_6_1, own_in_6_2, own_in_6_3, own_in_6_4, own_in_6_5, own_in_7_0, own_in_7_1, own_in_7_2, own_in_7_3, own_in_56_0, own_in_56_8, own_in_56_16, own_in_56_24, own_an_0_0, own_an_0_1, own_an_1_1, own_an_1_2, own_an_3_1, own_an_3_2, own_an_3_4, own_an_0_3, own_an_3_3, own_an_1_7, own_an_3_7, own_an_7_7, own_an_1_0, own_an_3_0, own_x0, own_x1, own_x2, own_x3, own_x4, own_x5, own_y0, own_y1, own_y2, own_y3, own_y4, own_y5, own_ll64, own_ll4, own_ll6, own_ll7, rd_wr_same, len_wr, l8, i0, i1, d1, e01, e10, List.length_replicate, -List.reduceReplicate]
theorem own_g_15 (p cap mask a b : Int32) (sq : List Int32) (l8 : sq.length = 8) (i0 : inb 8 (p &&& mask) = true) (i1 : inb 8 ((p + 1) &&& mask) = true) (ne : ¬ (p &&& mask) = ((p + 1) &&& mask)) (r0 : rd sq (p &&& mask) = p) (r1 : rd sq ((p + 1) &&& mask) = p + 1) (m1 : p - (p + 1) = -1) (t1 : ¬ p + 1 = p) (d1 : p + 1 + 1 - (p + 1) = 1) (hc : 0 < cap) : j_historyEvent (Q.mk (wr (wr (wr sq (p &&& mask) (p + 1)) (p &&& mask) (p + cap)) ((p + 1) &&& mask) (p + 1 + 1)) (wr (wr (List.replicate 8 0) (p &&& mask) a) ((p + 1) &&& mask) b) [0, 0, 0, 0] [p + 1, p, 0, 0] [b, a, 0, 0] [1, 1, 0, 0] [0, a, 0, 0] (List.replicate 4 0) (1 :: 2 :: 3 :: 3 :: 1 :: 3 :: List.replicate 58 0) (0 :: 1 :: 0 :: 1 :: 0 :: 0 :: List.replicate 58 0) (a :: 0 :: 0 :: a :: b :: 0 :: List.replicate 58 0) (List.replicate 8 0) [0, 0, 0, 0, 0, 0] [0, 0, 0, 0, 0, 0] [0, 0, 0, 0, 0, 0] [0, 0, 0, 0, 0, 0] [0, 0, 0, 0, 0, 0] [0, 0, 0, 0, 0, 0] [0, 0, 0, 0, 0, 0] [0, 0, 0, 0] (List.replicate 56 0) [0, 0, 0, 0, 0, 0, 0] [0, 0, 0, 0, 0, 0, 0] [0, 0, 0, 0, 0, 0, 0] 2 cap mask (p + 1) (p + 1 + 1) 6 0 0 0) 3 = some (49) := by
  have e01 : ∀ (xs : List Int32) (v : Int32), rd (wr xs (p &&& mask) v) ((p + 1) &&& mask) = rd xs ((p + 1) &&& mask) := fun xs v => rd_wr_ne (inb_nn i0) (inb_nn i1) ne v
  have e10 : ∀ (xs : List Int32) (v : Int32), rd (wr xs ((p + 1) &&& mask) v) (p &&& mask) = rd xs (p &&& mask) := fun xs v => rd_wr_ne (inb_nn i1) (inb_nn i0) (fun e => ne e.symm) v
  simp [j_state, j_lastStatus, j_lastValue, j_contentCount, j_contentCount_l2, j_contentCount_b39, j_contentAt, j_historyLength, j_historyEvent, j_historyValue, j_valid, own_Qa, own_in_4_0, own_in_4_1, own_in_4_2, own_in_4_3, own_in_64_0, own_in_64_1, own_in_64_2, own_in_64_3, own_in_64_4, own_in_64_5, own_in_6_0, own_in_6_1, own_in_6_2, own_in_6_3, own_in_6_4, own_in_6_5, own_in_7_0, own_in_7_1, own_in_7_2, own_in_7_3, own_in_56_0, own_in_56_8, own_in_56_16, own_in_56_24, own_an_0_0, own_an_0_1, own_an_1_1, own_an_1_2, own_an_3_1, own_an_3_2, own_an_3_4, own_an_0_3, own_an_3_3, own_an_1_7, own_an_3_7, own_an_7_7, own_an_1_0, own_an_3_0, own_x0, own_x1, own_x2, own_x3, own_x4, own_x5, own_y0, own_y1, own_y2, own_y3, own_y4, own_y5, own_ll64, own_ll4, own_ll6, own_ll7, rd_wr_same, len_wr, l8, i0, i1, d1, e01, e10, List.length_replicate, -List.reduceReplicate]
theorem own_g_16 (p cap mask a b : Int32) (sq : List Int32) (l8 : sq.length = 8) (i0 : inb 8 (p &&& mask) = true) (i1 : inb 8 ((p + 1) &&& mask) = true) (ne : ¬ (p &&& mask) = ((p + 1) &&& mask)) (r0 : rd sq (p &&& mask) = p) (r1 : rd sq ((p + 1) &&& mask) = p + 1) (m1 : p - (p + 1) = -1) (t1 : ¬ p + 1 = p) (d1 : p + 1 + 1 - (p + 1) = 1) (hc : 0 < cap) : j_historyValue (Q.mk (wr (wr (wr sq (p &&& mask) (p + 1)) (p &&& mask) (p + cap)) ((p + 1) &&& mask) (p + 1 + 1)) (wr (wr (List.replicate 8 0) (p &&& mask) a) ((p + 1) &&& mask) b) [0, 0, 0, 0] [p + 1, p, 0, 0] [b, a, 0, 0] [1, 1, 0, 0] [0, a, 0, 0] (List.replicate 4 0) (1 :: 2 :: 3 :: 3 :: 1 :: 3 :: List.replicate 58 0) (0 :: 1 :: 0 :: 1 :: 0 :: 0 :: List.replicate 58 0) (a :: 0 :: 0 :: a :: b :: 0 :: List.replicate 58 0) (List.replicate 8 0) [0, 0, 0, 0, 0, 0] [0, 0, 0, 0, 0, 0] [0, 0, 0, 0, 0, 0] [0, 0, 0, 0, 0, 0] [0, 0, 0, 0, 0, 0] [0, 0, 0, 0, 0, 0] [0, 0, 0, 0, 0, 0] [0, 0, 0, 0] (List.replicate 56 0) [0, 0, 0, 0, 0, 0, 0] [0, 0, 0, 0, 0, 0, 0] [0, 0, 0, 0, 0, 0, 0] 2 cap mask (p + 1) (p + 1 + 1) 6 0 0 0) 3 = some (a) := by
  have e01 : ∀ (xs : List Int32) (v : Int32), rd (wr xs (p &&& mask) v) ((p + 1) &&& mask) = rd xs ((p + 1) &&& mask) := fun xs v => rd_wr_ne (inb_nn i0) (inb_nn i1) ne v
  have e10 : ∀ (xs : List Int32) (v : Int32), rd (wr xs ((p + 1) &&& mask) v) (p &&& mask) = rd xs (p &&& mask) := fun xs v => rd_wr_ne (inb_nn i1) (inb_nn i0) (fun e => ne e.symm) v
  simp [j_state, j_lastStatus, j_lastValue, j_contentCount, j_contentCount_l2, j_contentCount_b39, j_contentAt, j_historyLength, j_historyEvent, j_historyValue, j_valid, own_Qa, own_in_4_0, own_in_4_1, own_in_4_2, own_in_4_3, own_in_64_0, own_in_64_1, own_in_64_2, own_in_64_3, own_in_64_4, own_in_64_5, own_in_6_0, own_in_6_1, own_in_6_2, own_in_6_3, own_in_6_4, own_in_6_5, own_in_7_0, own_in_7_1, own_in_7_2, own_in_7_3, own_in_56_0, own_in_56_8, own_in_56_16, own_in_56_24, own_an_0_0, own_an_0_1, own_an_1_1, own_an_1_2, own_an_3_1, own_an_3_2, own_an_3_4, own_an_0_3, own_an_3_3, own_an_1_7, own_an_3_7, own_an_7_7, own_an_1_0, own_an_3_0, own_x0, own_x1, own_x2, own_x3, own_x4, own_x5, own_y0, own_y1, own_y2, own_y3, own_y4, own_y5, own_ll64, own_ll4, own_ll6, own_ll7, rd_wr_same, len_wr, l8, i0, i1, d1, e01, e10, List.length_replicate, -List.reduceReplicate]
theorem own_g_17 (p cap mask a b : Int32) (sq : List Int32) (l8 : sq.length = 8) (i0 : inb 8 (p &&& mask) = true) (i1 : inb 8 ((p + 1) &&& mask) = true) (ne : ¬ (p &&& mask) = ((p + 1) &&& mask)) (r0 : rd sq (p &&& mask) = p) (r1 : rd sq ((p + 1) &&& mask) = p + 1) (m1 : p - (p + 1) = -1) (t1 : ¬ p + 1 = p) (d1 : p + 1 + 1 - (p + 1) = 1) (hc : 0 < cap) : j_historyEvent (Q.mk (wr (wr (wr sq (p &&& mask) (p + 1)) (p &&& mask) (p + cap)) ((p + 1) &&& mask) (p + 1 + 1)) (wr (wr (List.replicate 8 0) (p &&& mask) a) ((p + 1) &&& mask) b) [0, 0, 0, 0] [p + 1, p, 0, 0] [b, a, 0, 0] [1, 1, 0, 0] [0, a, 0, 0] (List.replicate 4 0) (1 :: 2 :: 3 :: 3 :: 1 :: 3 :: List.replicate 58 0) (0 :: 1 :: 0 :: 1 :: 0 :: 0 :: List.replicate 58 0) (a :: 0 :: 0 :: a :: b :: 0 :: List.replicate 58 0) (List.replicate 8 0) [0, 0, 0, 0, 0, 0] [0, 0, 0, 0, 0, 0] [0, 0, 0, 0, 0, 0] [0, 0, 0, 0, 0, 0] [0, 0, 0, 0, 0, 0] [0, 0, 0, 0, 0, 0] [0, 0, 0, 0, 0, 0] [0, 0, 0, 0] (List.replicate 56 0) [0, 0, 0, 0, 0, 0, 0] [0, 0, 0, 0, 0, 0, 0] [0, 0, 0, 0, 0, 0, 0] 2 cap mask (p + 1) (p + 1 + 1) 6 0 0 0) 4 = some (16) := by
  have e01 : ∀ (xs : List Int32) (v : Int32), rd (wr xs (p &&& mask) v) ((p + 1) &&& mask) = rd xs ((p + 1) &&& mask) := fun xs v => rd_wr_ne (inb_nn i0) (inb_nn i1) ne v
  have e10 : ∀ (xs : List Int32) (v : Int32), rd (wr xs ((p + 1) &&& mask) v) (p &&& mask) = rd xs (p &&& mask) := fun xs v => rd_wr_ne (inb_nn i1) (inb_nn i0) (fun e => ne e.symm) v
  simp [j_state, j_lastStatus, j_lastValue, j_contentCount, j_contentCount_l2, j_contentCount_b39, j_contentAt, j_historyLength, j_historyEvent, j_historyValue, j_valid, own_Qa, own_in_4_0, own_in_4_1, own_in_4_2, own_in_4_3, own_in_64_0, own_in_64_1, own_in_64_2, own_in_64_3, own_in_64_4, own_in_64_5, own_in_6_0, own_in_6_1, own_in_6_2, own_in_6_3, own_in_6_4, own_in_6_5, own_in_7_0, own_in_7_1, own_in_7_2, own_in_7_3, own_in_56_0, own_in_56_8, own_in_56_16, own_in_56_24, own_an_0_0, own_an_0_1, own_an_1_1, own_an_1_2, own_an_3_1, own_an_3_2, own_an_3_4, own_an_0_3, own_an_3_3, own_an_1_7, own_an_3_7, own_an_7_7, own_an_1_0, own_an_3_0, own_x0, own_x1, own_x2, own_x3, own_x4, own_x5, own_y0, own_y1, own_y2, own_y3, own_y4, own_y5, own_ll64, own_ll4, own_ll6, own_ll7, rd_wr_same, len_wr, l8, i0, i1, d1, e01, e10, List.length_replicate, -List.reduceReplicate]
theorem own_g_18 (p cap mask a b : Int32) (sq : List Int32) (l8 : sq.length = 8) (i0 : inb 8 (p &&& mask) = true) (i1 : inb 8 ((p + 1) &&& mask) = true) (ne : ¬ (p &&& mask) = ((p + 1) &&& mask)) (r0 : rd sq (p &&& mask) = p) (r1 : rd sq ((p + 1) &&& mask) = p + 1) (m1 : p - (p + 1) = -1) (t1 : ¬ p + 1 = p) (d1 : p + 1 + 1 - (p + 1) = 1) (hc : 0 < cap) : j_historyValue (Q.mk (wr (wr (wr sq (p &&& mask) (p + 1)) (p &&& mask) (p + cap)) ((p + 1) &&& mask) (p + 1 + 1)) (wr (wr (List.replicate 8 0) (p &&& mask) a) ((p + 1) &&& mask) b) [0, 0, 0, 0] [p + 1, p, 0, 0] [b, a, 0, 0] [1, 1, 0, 0] [0, a, 0, 0] (List.replicate 4 0) (1 :: 2 :: 3 :: 3 :: 1 :: 3 :: List.replicate 58 0) (0 :: 1 :: 0 :: 1 :: 0 :: 0 :: List.replicate 58 0) (a :: 0 :: 0 :: a :: b :: 0 :: List.replicate 58 0) (List.replicate 8 0) [0, 0, 0, 0, 0, 0] [0, 0, 0, 0, 0, 0] [0, 0, 0, 0, 0, 0] [0, 0, 0, 0, 0, 0] [0, 0, 0, 0, 0, 0] [0, 0, 0, 0, 0, 0] [0, 0, 0, 0, 0, 0] [0, 0, 0, 0] (List.replicate 56 0) [0, 0, 0, 0, 0, 0, 0] [0, 0, 0, 0, 0, 0, 0] [0, 0, 0, 0, 0, 0, 0] 2 cap mask (p + 1) (p + 1 + 1) 6 0 0 0) 4 = some (b) := by
  have e01 : ∀ (xs : List Int32) (v : Int32), rd (wr xs (p &&& mask) v) ((p + 1) &&& mask) = rd xs ((p + 1) &&& mask) := fun xs v => rd_wr_ne (inb_nn i0) (inb_nn i1) ne v
  have e10 : ∀ (xs : List Int32) (v : Int32), rd (wr xs ((p + 1) &&& mask) v) (p &&& mask) = rd xs (p &&& mask) := fun xs v => rd_wr_ne (inb_nn i1) (inb_nn i0) (fun e => ne e.symm) v
  simp [j_state, j_lastStatus, j_lastValue, j_contentCount, j_contentCount_l2, j_contentCount_b39, j_contentAt, j_historyLength, j_historyEvent, j_historyValue, j_valid, own_Qa, own_in_4_0, own_in_4_1, own_in_4_2, own_in_4_3, own_in_64_0, own_in_64_1, own_in_64_2, own_in_64_3, own_in_64_4, own_in_64_5, own_in_6_0, own_in_6_1, own_in_6_2, own_in_6_3, own_in_6_4, own_in_6_5, own_in_7_0, own_in_7_1, own_in_7_2, own_in_7_3, own_in_56_0, own_in_56_8, own_in_56_16, own_in_56_24, own_an_0_0, own_an_0_1, own_an_1_1, own_an_1_2, own_an_3_1, own_an_3_2, own_an_3_4, own_an_0_3, own_an_3_3, own_an_1_7, own_an_3_7, own_an_7_7, own_an_1_0, own_an_3_0, own_x0, own_x1, own_x2, own_x3, own_x4, own_x5, own_y0, own_y1, own_y2, own_y3, own_y4, own_y5, own_ll64, own_ll4, own_ll6, own_ll7, rd_wr_same, len_wr, l8, i0, i1, d1, e01, e10, List.length_replicate, -List.reduceReplicate]
theorem own_g_19 (p cap mask a b : Int32) (sq : List Int32) (l8 : sq.length = 8) (i0 : inb 8 (p &&& mask) = true) (i1 : inb 8 ((p + 1) &&& mask) = true) (ne : ¬ (p &&& mask) = ((p + 1) &&& mask)) (r0 : rd sq (p &&& mask) = p) (r1 : rd sq ((p + 1) &&& mask) = p + 1) (m1 : p - (p + 1) = -1) (t1 : ¬ p + 1 = p) (d1 : p + 1 + 1 - (p + 1) = 1) (hc : 0 < cap) : j_historyEvent (Q.mk (wr (wr (wr sq (p &&& mask) (p + 1)) (p &&& mask) (p + cap)) ((p + 1) &&& mask) (p + 1 + 1)) (wr (wr (List.replicate 8 0) (p &&& mask) a) ((p + 1) &&& mask) b) [0, 0, 0, 0] [p + 1, p, 0, 0] [b, a, 0, 0] [1, 1, 0, 0] [0, a, 0, 0] (List.replicate 4 0) (1 :: 2 :: 3 :: 3 :: 1 :: 3 :: List.replicate 58 0) (0 :: 1 :: 0 :: 1 :: 0 :: 0 :: List.replicate 58 0) (a :: 0 :: 0 :: a :: b :: 0 :: List.replicate 58 0) (List.replicate 8 0) [0, 0, 0, 0, 0, 0] [0, 0, 0, 0, 0, 0] [0, 0, 0, 0, 0, 0] [0, 0, 0, 0, 0, 0] [0, 0, 0, 0, 0, 0] [0, 0, 0, 0, 0, 0] [0, 0, 0, 0, 0, 0] [0, 0, 0, 0] (List.replicate 56 0) [0, 0, 0, 0, 0, 0, 0] [0, 0, 0, 0, 0, 0, 0] [0, 0, 0, 0, 0, 0, 0] 2 cap mask (p + 1) (p + 1 + 1) 6 0 0 0) 5 = some (48) := by
  have e01 : ∀ (xs : List Int32) (v : Int32), rd (wr xs (p &&& mask) v) ((p + 1) &&& mask) = rd xs ((p + 1) &&& mask) := fun xs v => rd_wr_ne (inb_nn i0) (inb_nn i1) ne v
  have e10 : ∀ (xs : List Int32) (v : Int32), rd (wr xs ((p + 1) &&& mask) v) (p &&& mask) = rd xs (p &&& mask) := fun xs v => rd_wr_ne (inb_nn i1) (inb_nn i0) (fun e => ne e.symm) v
  simp [j_state, j_lastStatus, j_lastValue, j_contentCount, j_contentCount_l2, j_contentCount_b39, j_contentAt, j_historyLength, j_historyEvent, j_historyValue, j_valid, own_Qa, own_in_4_0, own_in_4_1, own_in_4_2, own_in_4_3, own_in_64_0, own_in_64_1, own_in_64_2, own_in_64_3, own_in_64_4, own_in_64_5, own_in_6_0, own_in_6_1, own_in_6_2, own_in_6_3, own_in_6_4, own_in_6_5, own_in_7_0, own_in_7_1, own_in_7_2, own_in_7_3, own_in_56_0, own_in_56_8, own_in_56_16, own_in_56_24, own_an_0_0, own_an_0_1, own_an_1_1, own_an_1_2, own_an_3_1, own_an_3_2, own_an_3_4, own_an_0_3, own_an_3_3, own_an_1_7, own_an_3_7, own_an_7_7, own_an_1_0, own_an_3_0, own_x0, own_x1, own_x2, own_x3, own_x4, own_x5, own_y0, own_y1, own_y2, own_y3, own_y4, own_y5, own_ll64, own_ll4, own_ll6, own_ll7, rd_wr_same, len_wr, l8, i0, i1, d1, e01, e10, List.length_replicate, -List.reduceReplicate]
theorem own_g_20 (p cap mask a b : Int32) (sq : List Int32) (l8 : sq.length = 8) (i0 : inb 8 (p &&& mask) = true) (i1 : inb 8 ((p + 1) &&& mask) = true) (ne : ¬ (p &&& mask) = ((p + 1) &&& mask)) (r0 : rd sq (p &&& mask) = p) (r1 : rd sq ((p + 1) &&& mask) = p + 1) (m1 : p - (p + 1) = -1) (t1 : ¬ p + 1 = p) (d1 : p + 1 + 1 - (p + 1) = 1) (hc : 0 < cap) : j_historyValue (Q.mk (wr (wr (wr sq (p &&& mask) (p + 1)) (p &&& mask) (p + cap)) ((p + 1) &&& mask) (p + 1 + 1)) (wr (wr (List.replicate 8 0) (p &&& mask) a) ((p + 1) &&& mask) b) [0, 0, 0, 0] [p + 1, p, 0, 0] [b, a, 0, 0] [1, 1, 0, 0] [0, a, 0, 0] (List.replicate 4 0) (1 :: 2 :: 3 :: 3 :: 1 :: 3 :: List.replicate 58 0) (0 :: 1 :: 0 :: 1 :: 0 :: 0 :: List.replicate 58 0) (a :: 0 :: 0 :: a :: b :: 0 :: List.replicate 58 0) (List.replicate 8 0) [0, 0, 0, 0, 0, 0] [0, 0, 0, 0, 0, 0] [0, 0, 0, 0, 0, 0] [0, 0, 0, 0, 0, 0] [0, 0, 0, 0, 0, 0] [0, 0, 0, 0, 0, 0] [0, 0, 0, 0, 0, 0] [0, 0, 0, 0] (List.replicate 56 0) [0, 0, 0, 0, 0, 0, 0] [0, 0, 0, 0, 0, 0, 0] [0, 0, 0, 0, 0, 0, 0] 2 cap mask (p + 1) (p + 1 + 1) 6 0 0 0) 5 = some (0) := by
  have e01 : ∀ (xs : List Int32) (v : Int32), rd (wr xs (p &&& mask) v) ((p + 1) &&& mask) = rd xs ((p + 1) &&& mask) := fun xs v => rd_wr_ne (inb_nn i0) (inb_nn i1) ne v
  have e10 : ∀ (xs : List Int32) (v : Int32), rd (wr xs ((p + 1) &&& mask) v) (p &&& mask) = rd xs (p &&& mask) := fun xs v => rd_wr_ne (inb_nn i1) (inb_nn i0) (fun e => ne e.symm) v
  simp [j_state, j_lastStatus, j_lastValue, j_contentCount, j_contentCount_l2, j_contentCount_b39, j_contentAt, j_historyLength, j_historyEvent, j_historyValue, j_valid, own_Qa, own_in_4_0, own_in_4_1, own_in_4_2, own_in_4_3, own_in_64_0, own_in_64_1, own_in_64_2, own_in_64_3, own_in_64_4, own_in_64_5, own_in_6_0, own_in_6_1, own_in_6_2, own_in_6_3, own_in_6_4, own_in_6_5, own_in_7_0, own_in_7_1, own_in_7_2, own_in_7_3, own_in_56_0, own_in_56_8, own_in_56_16, own_in_56_24, own_an_0_0, own_an_0_1, own_an_1_1, own_an_1_2, own_an_3_1, own_an_3_2, own_an_3_4, own_an_0_3, own_an_3_3, own_an_1_7, own_an_3_7, own_an_7_7, own_an_1_0, own_an_3_0, own_x0, own_x1, own_x2, own_x3, own_x4, own_x5, own_y0, own_y1, own_y2, own_y3, own_y4, own_y5, own_ll64, own_ll4, own_ll6, own_ll7, rd_wr_same, len_wr, l8, i0, i1, d1, e01, e10, List.length_replicate, -List.reduceReplicate]
theorem own_hl (p cap mask a b : Int32) (sq : List Int32) : j_historyLength (Q.mk (wr (wr (wr sq (p &&& mask) (p + 1)) (p &&& mask) (p + cap)) ((p + 1) &&& mask) (p + 1 + 1)) (wr (wr (List.replicate 8 0) (p &&& mask) a) ((p + 1) &&& mask) b) [0, 0, 0, 0] [p + 1, p, 0, 0] [b, a, 0, 0] [1, 1, 0, 0] [0, a, 0, 0] (List.replicate 4 0) (1 :: 2 :: 3 :: 3 :: 1 :: 3 :: List.replicate 58 0) (0 :: 1 :: 0 :: 1 :: 0 :: 0 :: List.replicate 58 0) (a :: 0 :: 0 :: a :: b :: 0 :: List.replicate 58 0) (List.replicate 8 0) [0, 0, 0, 0, 0, 0] [0, 0, 0, 0, 0, 0] [0, 0, 0, 0, 0, 0] [0, 0, 0, 0, 0, 0] [0, 0, 0, 0, 0, 0] [0, 0, 0, 0, 0, 0] [0, 0, 0, 0, 0, 0] [0, 0, 0, 0] (List.replicate 56 0) [0, 0, 0, 0, 0, 0, 0] [0, 0, 0, 0, 0, 0, 0] [0, 0, 0, 0, 0, 0, 0] 2 cap mask (p + 1) (p + 1 + 1) 6 0 0 0) = 6 := rfl
theorem own_n10 : ¬ (1:Int32) = 0 := by decide
theorem own_L923 (p cap mask a b : Int32) (sq : List Int32) (l8 : sq.length = 8) (i0 : inb 8 (p &&& mask) = true) (i1 : inb 8 ((p + 1) &&& mask) = true) (ne : ¬ (p &&& mask) = ((p + 1) &&& mask)) (r0 : rd sq (p &&& mask) = p) (r1 : rd sq ((p + 1) &&& mask) = p + 1) (m1 : p - (p + 1) = -1) (t1 : ¬ p + 1 = p) (d1 : p + 1 + 1 - (p + 1) = 1) (hc : 0 < cap) : (law_b923 (Q.mk (wr (wr (wr sq (p &&& mask) (p + 1)) (p &&& mask) (p + cap)) ((p + 1) &&& mask) (p + 1 + 1)) (wr (wr (List.replicate 8 0) (p &&& mask) a) ((p + 1) &&& mask) b) [0, 0, 0, 0] [p + 1, p, 0, 0] [b, a, 0, 0] [1, 1, 0, 0] [0, a, 0, 0] (List.replicate 4 0) (1 :: 2 :: 3 :: 3 :: 1 :: 3 :: List.replicate 58 0) (0 :: 1 :: 0 :: 1 :: 0 :: 0 :: List.replicate 58 0) (a :: 0 :: 0 :: a :: b :: 0 :: List.replicate 58 0) (List.replicate 8 0) [0, 0, 0, 0, 0, 0] [0, 0, 0, 0, 0, 0] [0, 0, 0, 0, 0, 0] [0, 0, 0, 0, 0, 0] [0, 0, 0, 0, 0, 0] [0, 0, 0, 0, 0, 0] [0, 0, 0, 0, 0, 0] [0, 0, 0, 0] (List.replicate 56 0) [0, 0, 0, 0, 0, 0, 0] [0, 0, 0, 0, 0, 0, 0] [0, 0, 0, 0, 0, 0, 0] 2 cap mask (p + 1) (p + 1 + 1) 6 0 0 0) 1).map (·.1) = some 1 := by
  unfold law_b923 law_b948
  rw [own_ck p cap mask a b sq hc, Option.bind_some, if_neg own_n10, if_pos (by rfl)]
  rfl
theorem own_L898 (p cap mask a b : Int32) (sq : List Int32) (l8 : sq.length = 8) (i0 : inb 8 (p &&& mask) = true) (i1 : inb 8 ((p + 1) &&& mask) = true) (ne : ¬ (p &&& mask) = ((p + 1) &&& mask)) (r0 : rd sq (p &&& mask) = p) (r1 : rd sq ((p + 1) &&& mask) = p + 1) (m1 : p - (p + 1) = -1) (t1 : ¬ p + 1 = p) (d1 : p + 1 + 1 - (p + 1) = 1) (hc : 0 < cap) : (law_b898 (Q.mk (wr (wr (wr sq (p &&& mask) (p + 1)) (p &&& mask) (p + cap)) ((p + 1) &&& mask) (p + 1 + 1)) (wr (wr (List.replicate 8 0) (p &&& mask) a) ((p + 1) &&& mask) b) [0, 0, 0, 0] [p + 1, p, 0, 0] [b, a, 0, 0] [1, 1, 0, 0] [0, a, 0, 0] (List.replicate 4 0) (1 :: 2 :: 3 :: 3 :: 1 :: 3 :: List.replicate 58 0) (0 :: 1 :: 0 :: 1 :: 0 :: 0 :: List.replicate 58 0) (a :: 0 :: 0 :: a :: b :: 0 :: List.replicate 58 0) (List.replicate 8 0) [0, 0, 0, 0, 0, 0] [0, 0, 0, 0, 0, 0] [0, 0, 0, 0, 0, 0] [0, 0, 0, 0, 0, 0] [0, 0, 0, 0, 0, 0] [0, 0, 0, 0, 0, 0] [0, 0, 0, 0, 0, 0] [0, 0, 0, 0] (List.replicate 56 0) [0, 0, 0, 0, 0, 0, 0] [0, 0, 0, 0, 0, 0, 0] [0, 0, 0, 0, 0, 0, 0] 2 cap mask (p + 1) (p + 1 + 1) 6 0 0 0)  1).map (·.1) = some 1 := by
  unfold law_b898
  rw [own_g_20 p cap mask a b sq l8 i0 i1 ne r0 r1 m1 t1 d1 hc, Option.bind_some, if_neg own_n10, if_pos (by rfl)]
  exact own_L923 p cap mask a b sq l8 i0 i1 ne r0 r1 m1 t1 d1 hc
theorem own_L869 (p cap mask a b : Int32) (sq : List Int32) (l8 : sq.length = 8) (i0 : inb 8 (p &&& mask) = true) (i1 : inb 8 ((p + 1) &&& mask) = true) (ne : ¬ (p &&& mask) = ((p + 1) &&& mask)) (r0 : rd sq (p &&& mask) = p) (r1 : rd sq ((p + 1) &&& mask) = p + 1) (m1 : p - (p + 1) = -1) (t1 : ¬ p + 1 = p) (d1 : p + 1 + 1 - (p + 1) = 1) (hc : 0 < cap) : (law_b869 (Q.mk (wr (wr (wr sq (p &&& mask) (p + 1)) (p &&& mask) (p + cap)) ((p + 1) &&& mask) (p + 1 + 1)) (wr (wr (List.replicate 8 0) (p &&& mask) a) ((p + 1) &&& mask) b) [0, 0, 0, 0] [p + 1, p, 0, 0] [b, a, 0, 0] [1, 1, 0, 0] [0, a, 0, 0] (List.replicate 4 0) (1 :: 2 :: 3 :: 3 :: 1 :: 3 :: List.replicate 58 0) (0 :: 1 :: 0 :: 1 :: 0 :: 0 :: List.replicate 58 0) (a :: 0 :: 0 :: a :: b :: 0 :: List.replicate 58 0) (List.replicate 8 0) [0, 0, 0, 0, 0, 0] [0, 0, 0, 0, 0, 0] [0, 0, 0, 0, 0, 0] [0, 0, 0, 0, 0, 0] [0, 0, 0, 0, 0, 0] [0, 0, 0, 0, 0, 0] [0, 0, 0, 0, 0, 0] [0, 0, 0, 0] (List.replicate 56 0) [0, 0, 0, 0, 0, 0, 0] [0, 0, 0, 0, 0, 0, 0] [0, 0, 0, 0, 0, 0, 0] 2 cap mask (p + 1) (p + 1 + 1) 6 0 0 0) 48 1).map (·.1) = some 1 := by
  unfold law_b869
  rw [own_g_19 p cap mask a b sq l8 i0 i1 ne r0 r1 m1 t1 d1 hc, Option.bind_some, if_neg own_n10, if_pos (by rfl)]
  exact own_L898 p cap mask a b sq l8 i0 i1 ne r0 r1 m1 t1 d1 hc
theorem own_L843 (p cap mask a b : Int32) (sq : List Int32) (l8 : sq.length = 8) (i0 : inb 8 (p &&& mask) = true) (i1 : inb 8 ((p + 1) &&& mask) = true) (ne : ¬ (p &&& mask) = ((p + 1) &&& mask)) (r0 : rd sq (p &&& mask) = p) (r1 : rd sq ((p + 1) &&& mask) = p + 1) (m1 : p - (p + 1) = -1) (t1 : ¬ p + 1 = p) (d1 : p + 1 + 1 - (p + 1) = 1) (hc : 0 < cap) : (law_b843 (Q.mk (wr (wr (wr sq (p &&& mask) (p + 1)) (p &&& mask) (p + cap)) ((p + 1) &&& mask) (p + 1 + 1)) (wr (wr (List.replicate 8 0) (p &&& mask) a) ((p + 1) &&& mask) b) [0, 0, 0, 0] [p + 1, p, 0, 0] [b, a, 0, 0] [1, 1, 0, 0] [0, a, 0, 0] (List.replicate 4 0) (1 :: 2 :: 3 :: 3 :: 1 :: 3 :: List.replicate 58 0) (0 :: 1 :: 0 :: 1 :: 0 :: 0 :: List.replicate 58 0) (a :: 0 :: 0 :: a :: b :: 0 :: List.replicate 58 0) (List.replicate 8 0) [0, 0, 0, 0, 0, 0] [0, 0, 0, 0, 0, 0] [0, 0, 0, 0, 0, 0] [0, 0, 0, 0, 0, 0] [0, 0, 0, 0, 0, 0] [0, 0, 0, 0, 0, 0] [0, 0, 0, 0, 0, 0] [0, 0, 0, 0] (List.replicate 56 0) [0, 0, 0, 0, 0, 0, 0] [0, 0, 0, 0, 0, 0, 0] [0, 0, 0, 0, 0, 0, 0] 2 cap mask (p + 1) (p + 1 + 1) 6 0 0 0) b 48 1).map (·.1) = some 1 := by
  unfold law_b843
  rw [own_g_18 p cap mask a b sq l8 i0 i1 ne r0 r1 m1 t1 d1 hc, Option.bind_some, if_neg own_n10, if_pos (by rfl)]
  exact own_L869 p cap mask a b sq l8 i0 i1 ne r0 r1 m1 t1 d1 hc
theorem own_L814 (p cap mask a b : Int32) (sq : List Int32) (l8 : sq.length = 8) (i0 : inb 8 (p &&& mask) = true) (i1 : inb 8 ((p + 1) &&& mask) = true) (ne : ¬ (p &&& mask) = ((p + 1) &&& mask)) (r0 : rd sq (p &&& mask) = p) (r1 : rd sq ((p + 1) &&& mask) = p + 1) (m1 : p - (p + 1) = -1) (t1 : ¬ p + 1 = p) (d1 : p + 1 + 1 - (p + 1) = 1) (hc : 0 < cap) : (law_b814 (Q.mk (wr (wr (wr sq (p &&& mask) (p + 1)) (p &&& mask) (p + cap)) ((p + 1) &&& mask) (p + 1 + 1)) (wr (wr (List.replicate 8 0) (p &&& mask) a) ((p + 1) &&& mask) b) [0, 0, 0, 0] [p + 1, p, 0, 0] [b, a, 0, 0] [1, 1, 0, 0] [0, a, 0, 0] (List.replicate 4 0) (1 :: 2 :: 3 :: 3 :: 1 :: 3 :: List.replicate 58 0) (0 :: 1 :: 0 :: 1 :: 0 :: 0 :: List.replicate 58 0) (a :: 0 :: 0 :: a :: b :: 0 :: List.replicate 58 0) (List.replicate 8 0) [0, 0, 0, 0, 0, 0] [0, 0, 0, 0, 0, 0] [0, 0, 0, 0, 0, 0] [0, 0, 0, 0, 0, 0] [0, 0, 0, 0, 0, 0] [0, 0, 0, 0, 0, 0] [0, 0, 0, 0, 0, 0] [0, 0, 0, 0] (List.replicate 56 0) [0, 0, 0, 0, 0, 0, 0] [0, 0, 0, 0, 0, 0, 0] [0, 0, 0, 0, 0, 0, 0] 2 cap mask (p + 1) (p + 1 + 1) 6 0 0 0) b 16 48 1).map (·.1) = some 1 := by
  unfold law_b814
  rw [own_g_17 p cap mask a b sq l8 i0 i1 ne r0 r1 m1 t1 d1 hc, Option.bind_some, if_neg own_n10, if_pos (by rfl)]
  exact own_L843 p cap mask a b sq l8 i0 i1 ne r0 r1 m1 t1 d1 hc
theorem own_L788 (p cap mask a b : Int32) (sq : List Int32) (l8 : sq.length = 8) (i0 : inb 8 (p &&& mask) = true) (i1 : inb 8 ((p + 1) &&& mask) = true) (ne : ¬ (p &&& mask) = ((p + 1) &&& mask)) (r0 : rd sq (p &&& mask) = p) (r1 : rd sq ((p + 1) &&& mask) = p + 1) (m1 : p - (p + 1) = -1) (t1 : ¬ p + 1 = p) (d1 : p + 1 + 1 - (p + 1) = 1) (hc : 0 < cap) : (law_b788 (Q.mk (wr (wr (wr sq (p &&& mask) (p + 1)) (p &&& mask) (p + cap)) ((p + 1) &&& mask) (p + 1 + 1)) (wr (wr (List.replicate 8 0) (p &&& mask) a) ((p + 1) &&& mask) b) [0, 0, 0, 0] [p + 1, p, 0, 0] [b, a, 0, 0] [1, 1, 0, 0] [0, a, 0, 0] (List.replicate 4 0) (1 :: 2 :: 3 :: 3 :: 1 :: 3 :: List.replicate 58 0) (0 :: 1 :: 0 :: 1 :: 0 :: 0 :: List.replicate 58 0) (a :: 0 :: 0 :: a :: b :: 0 :: List.replicate 58 0) (List.replicate 8 0) [0, 0, 0, 0, 0, 0] [0, 0, 0, 0, 0, 0] [0, 0, 0, 0, 0, 0] [0, 0, 0, 0, 0, 0] [0, 0, 0, 0, 0, 0] [0, 0, 0, 0, 0, 0] [0, 0, 0, 0, 0, 0] [0, 0, 0, 0] (List.replicate 56 0) [0, 0, 0, 0, 0, 0, 0] [0, 0, 0, 0, 0, 0, 0] [0, 0, 0, 0, 0, 0, 0] 2 cap mask (p + 1) (p + 1 + 1) 6 0 0 0) a b 16 48 1).map (·.1) = some 1 := by
  unfold law_b788
  rw [own_g_16 p cap mask a b sq l8 i0 i1 ne r0 r1 m1 t1 d1 hc, Option.bind_some, if_neg own_n10, if_pos (by rfl)]
  exact own_L814 p cap mask a b sq l8 i0 i1 ne r0 r1 m1 t1 d1 hc
theorem own_L759 (p cap mask a b : Int32) (sq : List Int32) (l8 : sq.length = 8) (i0 : inb 8 (p &&& mask) = true) (i1 : inb 8 ((p + 1) &&& mask) = true) (ne : ¬ (p &&& mask) = ((p + 1) &&& mask)) (r0 : rd sq (p &&& mask) = p) (r1 : rd sq ((p + 1) &&& mask) = p + 1) (m1 : p - (p + 1) = -1) (t1 : ¬ p + 1 = p) (d1 : p + 1 + 1 - (p + 1) = 1) (hc : 0 < cap) : (law_b759 (Q.mk (wr (wr (wr sq (p &&& mask) (p + 1)) (p &&& mask) (p + cap)) ((p + 1) &&& mask) (p + 1 + 1)) (wr (wr (List.replicate 8 0) (p &&& mask) a) ((p + 1) &&& mask) b) [0, 0, 0, 0] [p + 1, p, 0, 0] [b, a, 0, 0] [1, 1, 0, 0] [0, a, 0, 0] (List.replicate 4 0) (1 :: 2 :: 3 :: 3 :: 1 :: 3 :: List.replicate 58 0) (0 :: 1 :: 0 :: 1 :: 0 :: 0 :: List.replicate 58 0) (a :: 0 :: 0 :: a :: b :: 0 :: List.replicate 58 0) (List.replicate 8 0) [0, 0, 0, 0, 0, 0] [0, 0, 0, 0, 0, 0] [0, 0, 0, 0, 0, 0] [0, 0, 0, 0, 0, 0] [0, 0, 0, 0, 0, 0] [0, 0, 0, 0, 0, 0] [0, 0, 0, 0, 0, 0] [0, 0, 0, 0] (List.replicate 56 0) [0, 0, 0, 0, 0, 0, 0] [0, 0, 0, 0, 0, 0, 0] [0, 0, 0, 0, 0, 0, 0] 2 cap mask (p + 1) (p + 1 + 1) 6 0 0 0) a b 16 48 1).map (·.1) = some 1 := by
  unfold law_b759
  rw [own_g_15 p cap mask a b sq l8 i0 i1 ne r0 r1 m1 t1 d1 hc, Option.bind_some, if_neg own_n10, if_pos (by rfl)]
  exact own_L788 p cap mask a b sq l8 i0 i1 ne r0 r1 m1 t1 d1 hc
theorem own_L734 (p cap mask a b : Int32) (sq : List Int32) (l8 : sq.length = 8) (i0 : inb 8 (p &&& mask) = true) (i1 : inb 8 ((p + 1) &&& mask) = true) (ne : ¬ (p &&& mask) = ((p + 1) &&& mask)) (r0 : rd sq (p &&& mask) = p) (r1 : rd sq ((p + 1) &&& mask) = p + 1) (m1 : p - (p + 1) = -1) (t1 : ¬ p + 1 = p) (d1 : p + 1 + 1 - (p + 1) = 1) (hc : 0 < cap) : (law_b734 (Q.mk (wr (wr (wr sq (p &&& mask) (p + 1)) (p &&& mask) (p + cap)) ((p + 1) &&& mask) (p + 1 + 1)) (wr (wr (List.replicate 8 0) (p &&& mask) a) ((p + 1) &&& mask) b) [0, 0, 0, 0] [p + 1, p, 0, 0] [b, a, 0, 0] [1, 1, 0, 0] [0, a, 0, 0] (List.replicate 4 0) (1 :: 2 :: 3 :: 3 :: 1 :: 3 :: List.replicate 58 0) (0 :: 1 :: 0 :: 1 :: 0 :: 0 :: List.replicate 58 0) (a :: 0 :: 0 :: a :: b :: 0 :: List.replicate 58 0) (List.replicate 8 0) [0, 0, 0, 0, 0, 0] [0, 0, 0, 0, 0, 0] [0, 0, 0, 0, 0, 0] [0, 0, 0, 0, 0, 0] [0, 0, 0, 0, 0, 0] [0, 0, 0, 0, 0, 0] [0, 0, 0, 0, 0, 0] [0, 0, 0, 0] (List.replicate 56 0) [0, 0, 0, 0, 0, 0, 0] [0, 0, 0, 0, 0, 0, 0] [0, 0, 0, 0, 0, 0, 0] 2 cap mask (p + 1) (p + 1 + 1) 6 0 0 0) a b 16 48 1).map (·.1) = some 1 := by
  unfold law_b734
  rw [own_g_14 p cap mask a b sq l8 i0 i1 ne r0 r1 m1 t1 d1 hc, Option.bind_some, if_neg own_n10, if_pos (by rfl)]
  exact own_L759 p cap mask a b sq l8 i0 i1 ne r0 r1 m1 t1 d1 hc
theorem own_L705 (p cap mask a b : Int32) (sq : List Int32) (l8 : sq.length = 8) (i0 : inb 8 (p &&& mask) = true) (i1 : inb 8 ((p + 1) &&& mask) = true) (ne : ¬ (p &&& mask) = ((p + 1) &&& mask)) (r0 : rd sq (p &&& mask) = p) (r1 : rd sq ((p + 1) &&& mask) = p + 1) (m1 : p - (p + 1) = -1) (t1 : ¬ p + 1 = p) (d1 : p + 1 + 1 - (p + 1) = 1) (hc : 0 < cap) : (law_b705 (Q.mk (wr (wr (wr sq (p &&& mask) (p + 1)) (p &&& mask) (p + cap)) ((p + 1) &&& mask) (p + 1 + 1)) (wr (wr (List.replicate 8 0) (p &&& mask) a) ((p + 1) &&& mask) b) [0, 0, 0, 0] [p + 1, p, 0, 0] [b, a, 0, 0] [1, 1, 0, 0] [0, a, 0, 0] (List.replicate 4 0) (1 :: 2 :: 3 :: 3 :: 1 :: 3 :: List.replicate 58 0) (0 :: 1 :: 0 :: 1 :: 0 :: 0 :: List.replicate 58 0) (a :: 0 :: 0 :: a :: b :: 0 :: List.replicate 58 0) (List.replicate 8 0) [0, 0, 0, 0, 0, 0] [0, 0, 0, 0, 0, 0] [0, 0, 0, 0, 0, 0] [0, 0, 0, 0, 0, 0] [0, 0, 0, 0, 0, 0] [0, 0, 0, 0, 0, 0] [0, 0, 0, 0, 0, 0] [0, 0, 0, 0] (List.replicate 56 0) [0, 0, 0, 0, 0, 0, 0] [0, 0, 0, 0, 0, 0, 0] [0, 0, 0, 0, 0, 0, 0] 2 cap mask (p + 1) (p + 1 + 1) 6 0 0 0) a b 16 48 1).map (·.1) = some 1 := by
  unfold law_b705
  rw [own_g_13 p cap mask a b sq l8 i0 i1 ne r0 r1 m1 t1 d1 hc, Option.bind_some, if_neg own_n10, if_pos (by rfl)]
  exact own_L734 p cap mask a b sq l8 i0 i1 ne r0 r1 m1 t1 d1 hc
theorem own_L680 (p cap mask a b : Int32) (sq : List Int32) (l8 : sq.length = 8) (i0 : inb 8 (p &&& mask) = true) (i1 : inb 8 ((p + 1) &&& mask) = true) (ne : ¬ (p &&& mask) = ((p + 1) &&& mask)) (r0 : rd sq (p &&& mask) = p) (r1 : rd sq ((p + 1) &&& mask) = p + 1) (m1 : p - (p + 1) = -1) (t1 : ¬ p + 1 = p) (d1 : p + 1 + 1 - (p + 1) = 1) (hc : 0 < cap) : (law_b680 (Q.mk (wr (wr (wr sq (p &&& mask) (p + 1)) (p &&& mask) (p + cap)) ((p + 1) &&& mask) (p + 1 + 1)) (wr (wr (List.replicate 8 0) (p &&& mask) a) ((p + 1) &&& mask) b) [0, 0, 0, 0] [p + 1, p, 0, 0] [b, a, 0, 0] [1, 1, 0, 0] [0, a, 0, 0] (List.replicate 4 0) (1 :: 2 :: 3 :: 3 :: 1 :: 3 :: List.replicate 58 0) (0 :: 1 :: 0 :: 1 :: 0 :: 0 :: List.replicate 58 0) (a :: 0 :: 0 :: a :: b :: 0 :: List.replicate 58 0) (List.replicate 8 0) [0, 0, 0, 0, 0, 0] [0, 0, 0, 0, 0, 0] [0, 0, 0, 0, 0, 0] [0, 0, 0, 0, 0, 0] [0, 0, 0, 0, 0, 0] [0, 0, 0, 0, 0, 0] [0, 0, 0, 0, 0, 0] [0, 0, 0, 0] (List.replicate 56 0) [0, 0, 0, 0, 0, 0, 0] [0, 0, 0, 0, 0, 0, 0] [0, 0, 0, 0, 0, 0, 0] 2 cap mask (p + 1) (p + 1 + 1) 6 0 0 0) a b 16 48 1).map (·.1) = some 1 := by
  unfold law_b680
  rw [own_g_12 p cap mask a b sq l8 i0 i1 ne r0 r1 m1 t1 d1 hc, Option.bind_some, if_neg own_n10, if_pos (by rfl)]
  exact own_L705 p cap mask a b sq l8 i0 i1 ne r0 r1 m1 t1 d1 hc
theorem own_L651 (p cap mask a b : Int32) (sq : List Int32) (l8 : sq.length = 8) (i0 : inb 8 (p &&& mask) = true) (i1 : inb 8 ((p + 1) &&& mask) = true) (ne : ¬ (p &&& mask) = ((p + 1) &&& mask)) (r0 : rd sq (p &&& mask) = p) (r1 : rd sq ((p + 1) &&& mask) = p + 1) (m1 : p - (p + 1) = -1) (t1 : ¬ p + 1 = p) (d1 : p + 1 + 1 - (p + 1) = 1) (hc : 0 < cap) : (law_b651 (Q.mk (wr (wr (wr sq (p &&& mask) (p + 1)) (p &&& mask) (p + cap)) ((p + 1) &&& mask) (p + 1 + 1)) (wr (wr (List.replicate 8 0) (p &&& mask) a) ((p + 1) &&& mask) b) [0, 0, 0, 0] [p + 1, p, 0, 0] [b, a, 0, 0] [1, 1, 0, 0] [0, a, 0, 0] (List.replicate 4 0) (1 :: 2 :: 3 :: 3 :: 1 :: 3 :: List.replicate 58 0) (0 :: 1 :: 0 :: 1 :: 0 :: 0 :: List.replicate 58 0) (a :: 0 :: 0 :: a :: b :: 0 :: List.replicate 58 0) (List.replicate 8 0) [0, 0, 0, 0, 0, 0] [0, 0, 0, 0, 0, 0] [0, 0, 0, 0, 0, 0] [0, 0, 0, 0, 0, 0] [0, 0, 0, 0, 0, 0] [0, 0, 0, 0, 0, 0] [0, 0, 0, 0, 0, 0] [0, 0, 0, 0] (List.replicate 56 0) [0, 0, 0, 0, 0, 0, 0] [0, 0, 0, 0, 0, 0, 0] [0, 0, 0, 0, 0, 0, 0] 2 cap mask (p + 1) (p + 1 + 1) 6 0 0 0) a b 16 32 48 1).map (·.1) = some 1 := by
  unfold law_b651
  rw [own_g_11 p cap mask a b sq l8 i0 i1 ne r0 r1 m1 t1 d1 hc, Option.bind_some, if_neg own_n10, if_pos (by rfl)]
  exact own_L680 p cap mask a b sq l8 i0 i1 ne r0 r1 m1 t1 d1 hc
theorem own_L625 (p cap mask a b : Int32) (sq : List Int32) (l8 : sq.length = 8) (i0 : inb 8 (p &&& mask) = true) (i1 : inb 8 ((p + 1) &&& mask) = true) (ne : ¬ (p &&& mask) = ((p + 1) &&& mask)) (r0 : rd sq (p &&& mask) = p) (r1 : rd sq ((p + 1) &&& mask) = p + 1) (m1 : p - (p + 1) = -1) (t1 : ¬ p + 1 = p) (d1 : p + 1 + 1 - (p + 1) = 1) (hc : 0 < cap) : (law_b625 (Q.mk (wr (wr (wr sq (p &&& mask) (p + 1)) (p &&& mask) (p + cap)) ((p + 1) &&& mask) (p + 1 + 1)) (wr (wr (List.replicate 8 0) (p &&& mask) a) ((p + 1) &&& mask) b) [0, 0, 0, 0] [p + 1, p, 0, 0] [b, a, 0, 0] [1, 1, 0, 0] [0, a, 0, 0] (List.replicate 4 0) (1 :: 2 :: 3 :: 3 :: 1 :: 3 :: List.replicate 58 0) (0 :: 1 :: 0 :: 1 :: 0 :: 0 :: List.replicate 58 0) (a :: 0 :: 0 :: a :: b :: 0 :: List.replicate 58 0) (List.replicate 8 0) [0, 0, 0, 0, 0, 0] [0, 0, 0, 0, 0, 0] [0, 0, 0, 0, 0, 0] [0, 0, 0, 0, 0, 0] [0, 0, 0, 0, 0, 0] [0, 0, 0, 0, 0, 0] [0, 0, 0, 0, 0, 0] [0, 0, 0, 0] (List.replicate 56 0) [0, 0, 0, 0, 0, 0, 0] [0, 0, 0, 0, 0, 0, 0] [0, 0, 0, 0, 0, 0, 0] 2 cap mask (p + 1) (p + 1 + 1) 6 0 0 0) a b 16 32 48 1).map (·.1) = some 1 := by
  unfold law_b625
  rw [own_g_10 p cap mask a b sq l8 i0 i1 ne r0 r1 m1 t1 d1 hc, Option.bind_some, if_neg own_n10, if_pos (by rfl)]
  exact own_L651 p cap mask a b sq l8 i0 i1 ne r0 r1 m1 t1 d1 hc
theorem own_L584 (p cap mask a b : Int32) (sq : List Int32) (l8 : sq.length = 8) (i0 : inb 8 (p &&& mask) = true) (i1 : inb 8 ((p + 1) &&& mask) = true) (ne : ¬ (p &&& mask) = ((p + 1) &&& mask)) (r0 : rd sq (p &&& mask) = p) (r1 : rd sq ((p + 1) &&& mask) = p + 1) (m1 : p - (p + 1) = -1) (t1 : ¬ p + 1 = p) (d1 : p + 1 + 1 - (p + 1) = 1) (hc : 0 < cap) : (law_b584 (Q.mk (wr (wr (wr sq (p &&& mask) (p + 1)) (p &&& mask) (p + cap)) ((p + 1) &&& mask) (p + 1 + 1)) (wr (wr (List.replicate 8 0) (p &&& mask) a) ((p + 1) &&& mask) b) [0, 0, 0, 0] [p + 1, p, 0, 0] [b, a, 0, 0] [1, 1, 0, 0] [0, a, 0, 0] (List.replicate 4 0) (1 :: 2 :: 3 :: 3 :: 1 :: 3 :: List.replicate 58 0) (0 :: 1 :: 0 :: 1 :: 0 :: 0 :: List.replicate 58 0) (a :: 0 :: 0 :: a :: b :: 0 :: List.replicate 58 0) (List.replicate 8 0) [0, 0, 0, 0, 0, 0] [0, 0, 0, 0, 0, 0] [0, 0, 0, 0, 0, 0] [0, 0, 0, 0, 0, 0] [0, 0, 0, 0, 0, 0] [0, 0, 0, 0, 0, 0] [0, 0, 0, 0, 0, 0] [0, 0, 0, 0] (List.replicate 56 0) [0, 0, 0, 0, 0, 0, 0] [0, 0, 0, 0, 0, 0, 0] [0, 0, 0, 0, 0, 0, 0] 2 cap mask (p + 1) (p + 1 + 1) 6 0 0 0) a b 1).map (·.1) = some 1 := by
  unfold law_b584
  rw [own_g_9 p cap mask a b sq l8 i0 i1 ne r0 r1 m1 t1 d1 hc, Option.bind_some, if_neg own_n10, if_pos (by rfl)]
  exact own_L625 p cap mask a b sq l8 i0 i1 ne r0 r1 m1 t1 d1 hc
theorem own_L558 (p cap mask a b : Int32) (sq : List Int32) (l8 : sq.length = 8) (i0 : inb 8 (p &&& mask) = true) (i1 : inb 8 ((p + 1) &&& mask) = true) (ne : ¬ (p &&& mask) = ((p + 1) &&& mask)) (r0 : rd sq (p &&& mask) = p) (r1 : rd sq ((p + 1) &&& mask) = p + 1) (m1 : p - (p + 1) = -1) (t1 : ¬ p + 1 = p) (d1 : p + 1 + 1 - (p + 1) = 1) (hc : 0 < cap) : (law_b558 (Q.mk (wr (wr (wr sq (p &&& mask) (p + 1)) (p &&& mask) (p + cap)) ((p + 1) &&& mask) (p + 1 + 1)) (wr (wr (List.replicate 8 0) (p &&& mask) a) ((p + 1) &&& mask) b) [0, 0, 0, 0] [p + 1, p, 0, 0] [b, a, 0, 0] [1, 1, 0, 0] [0, a, 0, 0] (List.replicate 4 0) (1 :: 2 :: 3 :: 3 :: 1 :: 3 :: List.replicate 58 0) (0 :: 1 :: 0 :: 1 :: 0 :: 0 :: List.replicate 58 0) (a :: 0 :: 0 :: a :: b :: 0 :: List.replicate 58 0) (List.replicate 8 0) [0, 0, 0, 0, 0, 0] [0, 0, 0, 0, 0, 0] [0, 0, 0, 0, 0, 0] [0, 0, 0, 0, 0, 0] [0, 0, 0, 0, 0, 0] [0, 0, 0, 0, 0, 0] [0, 0, 0, 0, 0, 0] [0, 0, 0, 0] (List.replicate 56 0) [0, 0, 0, 0, 0, 0, 0] [0, 0, 0, 0, 0, 0, 0] [0, 0, 0, 0, 0, 0, 0] 2 cap mask (p + 1) (p + 1 + 1) 6 0 0 0) a b 1).map (·.1) = some 1 := by
  unfold law_b558
  rw [own_hl p cap mask a b sq, if_neg own_n10, if_pos (by rfl)]
  exact own_L584 p cap mask a b sq l8 i0 i1 ne r0 r1 m1 t1 d1 hc
theorem own_L532 (p cap mask a b : Int32) (sq : List Int32) (l8 : sq.length = 8) (i0 : inb 8 (p &&& mask) = true) (i1 : inb 8 ((p + 1) &&& mask) = true) (ne : ¬ (p &&& mask) = ((p + 1) &&& mask)) (r0 : rd sq (p &&& mask) = p) (r1 : rd sq ((p + 1) &&& mask) = p + 1) (m1 : p - (p + 1) = -1) (t1 : ¬ p + 1 = p) (d1 : p + 1 + 1 - (p + 1) = 1) (hc : 0 < cap) : (law_b532 (Q.mk (wr (wr (wr sq (p &&& mask) (p + 1)) (p &&& mask) (p + cap)) ((p + 1) &&& mask) (p + 1 + 1)) (wr (wr (List.replicate 8 0) (p &&& mask) a) ((p + 1) &&& mask) b) [0, 0, 0, 0] [p + 1, p, 0, 0] [b, a, 0, 0] [1, 1, 0, 0] [0, a, 0, 0] (List.replicate 4 0) (1 :: 2 :: 3 :: 3 :: 1 :: 3 :: List.replicate 58 0) (0 :: 1 :: 0 :: 1 :: 0 :: 0 :: List.replicate 58 0) (a :: 0 :: 0 :: a :: b :: 0 :: List.replicate 58 0) (List.replicate 8 0) [0, 0, 0, 0, 0, 0] [0, 0, 0, 0, 0, 0] [0, 0, 0, 0, 0, 0] [0, 0, 0, 0, 0, 0] [0, 0, 0, 0, 0, 0] [0, 0, 0, 0, 0, 0] [0, 0, 0, 0, 0, 0] [0, 0, 0, 0] (List.replicate 56 0) [0, 0, 0, 0, 0, 0, 0] [0, 0, 0, 0, 0, 0, 0] [0, 0, 0, 0, 0, 0, 0] 2 cap mask (p + 1) (p + 1 + 1) 6 0 0 0) a b 1).map (·.1) = some 1 := by
  unfold law_b532
  rw [own_g_8 p cap mask a b sq l8 i0 i1 ne r0 r1 m1 t1 d1 hc, Option.bind_some, if_neg own_n10, if_pos (by rfl)]
  exact own_L558 p cap mask a b sq l8 i0 i1 ne r0 r1 m1 t1 d1 hc
theorem own_L507 (p cap mask a b : Int32) (sq : List Int32) (l8 : sq.length = 8) (i0 : inb 8 (p &&& mask) = true) (i1 : inb 8 ((p + 1) &&& mask) = true) (ne : ¬ (p &&& mask) = ((p + 1) &&& mask)) (r0 : rd sq (p &&& mask) = p) (r1 : rd sq ((p + 1) &&& mask) = p + 1) (m1 : p - (p + 1) = -1) (t1 : ¬ p + 1 = p) (d1 : p + 1 + 1 - (p + 1) = 1) (hc : 0 < cap) : (law_b507 (Q.mk (wr (wr (wr sq (p &&& mask) (p + 1)) (p &&& mask) (p + cap)) ((p + 1) &&& mask) (p + 1 + 1)) (wr (wr (List.replicate 8 0) (p &&& mask) a) ((p + 1) &&& mask) b) [0, 0, 0, 0] [p + 1, p, 0, 0] [b, a, 0, 0] [1, 1, 0, 0] [0, a, 0, 0] (List.replicate 4 0) (1 :: 2 :: 3 :: 3 :: 1 :: 3 :: List.replicate 58 0) (0 :: 1 :: 0 :: 1 :: 0 :: 0 :: List.replicate 58 0) (a :: 0 :: 0 :: a :: b :: 0 :: List.replicate 58 0) (List.replicate 8 0) [0, 0, 0, 0, 0, 0] [0, 0, 0, 0, 0, 0] [0, 0, 0, 0, 0, 0] [0, 0, 0, 0, 0, 0] [0, 0, 0, 0, 0, 0] [0, 0, 0, 0, 0, 0] [0, 0, 0, 0, 0, 0] [0, 0, 0, 0] (List.replicate 56 0) [0, 0, 0, 0, 0, 0, 0] [0, 0, 0, 0, 0, 0, 0] [0, 0, 0, 0, 0, 0, 0] 2 cap mask (p + 1) (p + 1 + 1) 6 0 0 0) a b 1).map (·.1) = some 1 := by
  unfold law_b507
  rw [own_g_7 p cap mask a b sq l8 i0 i1 ne r0 r1 m1 t1 d1 hc, Option.bind_some, if_neg own_n10, if_pos (by rfl)]
  exact own_L532 p cap mask a b sq l8 i0 i1 ne r0 r1 m1 t1 d1 hc
theorem own_L478 (p cap mask a b : Int32) (sq : List Int32) (l8 : sq.length = 8) (i0 : inb 8 (p &&& mask) = true) (i1 : inb 8 ((p + 1) &&& mask) = true) (ne : ¬ (p &&& mask) = ((p + 1) &&& mask)) (r0 : rd sq (p &&& mask) = p) (r1 : rd sq ((p + 1) &&& mask) = p + 1) (m1 : p - (p + 1) = -1) (t1 : ¬ p + 1 = p) (d1 : p + 1 + 1 - (p + 1) = 1) (hc : 0 < cap) : (law_b478 (Q.mk (wr (wr sq (p &&& mask) (p + 1)) (p &&& mask) (p + cap)) (wr (List.replicate 8 0) (p &&& mask) a) [11, 0, 0, 0] [p, p, 0, 0] [b, a, 0, 0] [1, 1, 0, 0] [0, a, 0, 0] (List.replicate 4 0) (1 :: 2 :: 3 :: 3 :: 1 :: 0 :: List.replicate 58 0) (0 :: 1 :: 0 :: 1 :: 0 :: 0 :: List.replicate 58 0) (a :: 0 :: 0 :: a :: b :: 0 :: List.replicate 58 0) (List.replicate 8 0) [0, 0, 0, 0, 0, 0] [0, 0, 0, 0, 0, 0] [0, 0, 0, 0, 0, 0] [0, 0, 0, 0, 0, 0] [0, 0, 0, 0, 0, 0] [0, 0, 0, 0, 0, 0] [0, 0, 0, 0, 0, 0] [0, 0, 0, 0] (List.replicate 56 0) [0, 0, 0, 0, 0, 0, 0] [0, 0, 0, 0, 0, 0, 0] [0, 0, 0, 0, 0, 0, 0] 2 cap mask (p + 1) (p + 1) 5 0 0 0) a b 2 1).map (·.1) = some 1 := by
  unfold law_b478
  rw [own_r0b p cap mask a b sq l8 i0 i1 ne r0 r1 m1 t1 d1 hc, Option.bind_some, if_neg own_n10, if_pos (by rfl)]
  exact own_L507 p cap mask a b sq l8 i0 i1 ne r0 r1 m1 t1 d1 hc
theorem own_L452 (p cap mask a b : Int32) (sq : List Int32) (l8 : sq.length = 8) (i0 : inb 8 (p &&& mask) = true) (i1 : inb 8 ((p + 1) &&& mask) = true) (ne : ¬ (p &&& mask) = ((p + 1) &&& mask)) (r0 : rd sq (p &&& mask) = p) (r1 : rd sq ((p + 1) &&& mask) = p + 1) (m1 : p - (p + 1) = -1) (t1 : ¬ p + 1 = p) (d1 : p + 1 + 1 - (p + 1) = 1) (hc : 0 < cap) : (law_b452 (Q.mk (wr (wr sq (p &&& mask) (p + 1)) (p &&& mask) (p + cap)) (wr (List.replicate 8 0) (p &&& mask) a) [0, 0, 0, 0] [p, p, 0, 0] [a, a, 0, 0] [1, 1, 0, 0] [0, a, 0, 0] (List.replicate 4 0) (1 :: 2 :: 3 :: 3 :: 0 :: 0 :: List.replicate 58 0) (0 :: 1 :: 0 :: 1 :: 0 :: 0 :: List.replicate 58 0) (a :: 0 :: 0 :: a :: 0 :: 0 :: List.replicate 58 0) (List.replicate 8 0) [0, 0, 0, 0, 0, 0] [0, 0, 0, 0, 0, 0] [0, 0, 0, 0, 0, 0] [0, 0, 0, 0, 0, 0] [0, 0, 0, 0, 0, 0] [0, 0, 0, 0, 0, 0] [0, 0, 0, 0, 0, 0] [0, 0, 0, 0] (List.replicate 56 0) [0, 0, 0, 0, 0, 0, 0] [0, 0, 0, 0, 0, 0, 0] [0, 0, 0, 0, 0, 0, 0] 2 cap mask (p + 1) (p + 1) 4 0 0 0) a b 2 1).map (·.1) = some 1 := by
  unfold law_b452
  rw [own_k16 p cap mask a b sq l8 i0 i1 ne r0 r1 m1 t1 d1 hc, Option.bind_some, if_neg own_n10, if_neg own_n10]
  exact own_L478 p cap mask a b sq l8 i0 i1 ne r0 r1 m1 t1 d1 hc
theorem own_L426 (p cap mask a b : Int32) (sq : List Int32) (l8 : sq.length = 8) (i0 : inb 8 (p &&& mask) = true) (i1 : inb 8 ((p + 1) &&& mask) = true) (ne : ¬ (p &&& mask) = ((p + 1) &&& mask)) (r0 : rd sq (p &&& mask) = p) (r1 : rd sq ((p + 1) &&& mask) = p + 1) (m1 : p - (p + 1) = -1) (t1 : ¬ p + 1 = p) (d1 : p + 1 + 1 - (p + 1) = 1) (hc : 0 < cap) : (law_b426 (Q.mk (wr (wr sq (p &&& mask) (p + 1)) (p &&& mask) (p + cap)) (wr (List.replicate 8 0) (p &&& mask) a) [0, 0, 0, 0] [p, p, 0, 0] [a, a, 0, 0] [1, 1, 0, 0] [0, a, 0, 0] (List.replicate 4 0) (1 :: 2 :: 3 :: 3 :: 0 :: 0 :: List.replicate 58 0) (0 :: 1 :: 0 :: 1 :: 0 :: 0 :: List.replicate 58 0) (a :: 0 :: 0 :: a :: 0 :: 0 :: List.replicate 58 0) (List.replicate 8 0) [0, 0, 0, 0, 0, 0] [0, 0, 0, 0, 0, 0] [0, 0, 0, 0, 0, 0] [0, 0, 0, 0, 0, 0] [0, 0, 0, 0, 0, 0] [0, 0, 0, 0, 0, 0] [0, 0, 0, 0, 0, 0] [0, 0, 0, 0] (List.replicate 56 0) [0, 0, 0, 0, 0, 0, 0] [0, 0, 0, 0, 0, 0, 0] [0, 0, 0, 0, 0, 0, 0] 2 cap mask (p + 1) (p + 1) 4 0 0 0) a b 2 1).map (·.1) = some 1 := by
  unfold law_b426
  rw [own_g_6 p cap mask a b sq l8 i0 i1 ne r0 r1 m1 t1 d1 hc, Option.bind_some, if_neg own_n10, if_pos (by rfl)]
  exact own_L452 p cap mask a b sq l8 i0 i1 ne r0 r1 m1 t1 d1 hc
theorem own_L400 (p cap mask a b : Int32) (sq : List Int32) (l8 : sq.length = 8) (i0 : inb 8 (p &&& mask) = true) (i1 : inb 8 ((p + 1) &&& mask) = true) (ne : ¬ (p &&& mask) = ((p + 1) &&& mask)) (r0 : rd sq (p &&& mask) = p) (r1 : rd sq ((p + 1) &&& mask) = p + 1) (m1 : p - (p + 1) = -1) (t1 : ¬ p + 1 = p) (d1 : p + 1 + 1 - (p + 1) = 1) (hc : 0 < cap) : (law_b400 (Q.mk (wr (wr sq (p &&& mask) (p + 1)) (p &&& mask) (p + cap)) (wr (List.replicate 8 0) (p &&& mask) a) [0, 0, 0, 0] [p, p, 0, 0] [a, a, 0, 0] [1, 1, 0, 0] [0, a, 0, 0] (List.replicate 4 0) (1 :: 2 :: 3 :: 3 :: 0 :: 0 :: List.replicate 58 0) (0 :: 1 :: 0 :: 1 :: 0 :: 0 :: List.replicate 58 0) (a :: 0 :: 0 :: a :: 0 :: 0 :: List.replicate 58 0) (List.replicate 8 0) [0, 0, 0, 0, 0, 0] [0, 0, 0, 0, 0, 0] [0, 0, 0, 0, 0, 0] [0, 0, 0, 0, 0, 0] [0, 0, 0, 0, 0, 0] [0, 0, 0, 0, 0, 0] [0, 0, 0, 0, 0, 0] [0, 0, 0, 0] (List.replicate 56 0) [0, 0, 0, 0, 0, 0, 0] [0, 0, 0, 0, 0, 0, 0] [0, 0, 0, 0, 0, 0, 0] 2 cap mask (p + 1) (p + 1) 4 0 0 0) a b 2 1).map (·.1) = some 1 := by
  unfold law_b400
  rw [own_g_5 p cap mask a b sq l8 i0 i1 ne r0 r1 m1 t1 d1 hc, Option.bind_some, if_neg own_n10, if_pos (by rfl)]
  exact own_L426 p cap mask a b sq l8 i0 i1 ne r0 r1 m1 t1 d1 hc
theorem own_L375 (p cap mask a b : Int32) (sq : List Int32) (l8 : sq.length = 8) (i0 : inb 8 (p &&& mask) = true) (i1 : inb 8 ((p + 1) &&& mask) = true) (ne : ¬ (p &&& mask) = ((p + 1) &&& mask)) (r0 : rd sq (p &&& mask) = p) (r1 : rd sq ((p + 1) &&& mask) = p + 1) (m1 : p - (p + 1) = -1) (t1 : ¬ p + 1 = p) (d1 : p + 1 + 1 - (p + 1) = 1) (hc : 0 < cap) : (law_b375 (Q.mk (wr (wr sq (p &&& mask) (p + 1)) (p &&& mask) (p + cap)) (wr (List.replicate 8 0) (p &&& mask) a) [0, 0, 0, 0] [p, p, 0, 0] [a, a, 0, 0] [1, 1, 0, 0] [0, a, 0, 0] (List.replicate 4 0) (1 :: 2 :: 3 :: 3 :: 0 :: 0 :: List.replicate 58 0) (0 :: 1 :: 0 :: 1 :: 0 :: 0 :: List.replicate 58 0) (a :: 0 :: 0 :: a :: 0 :: 0 :: List.replicate 58 0) (List.replicate 8 0) [0, 0, 0, 0, 0, 0] [0, 0, 0, 0, 0, 0] [0, 0, 0, 0, 0, 0] [0, 0, 0, 0, 0, 0] [0, 0, 0, 0, 0, 0] [0, 0, 0, 0, 0, 0] [0, 0, 0, 0, 0, 0] [0, 0, 0, 0] (List.replicate 56 0) [0, 0, 0, 0, 0, 0, 0] [0, 0, 0, 0, 0, 0, 0] [0, 0, 0, 0, 0, 0, 0] 2 cap mask (p + 1) (p + 1) 4 0 0 0) a b 2 1).map (·.1) = some 1 := by
  unfold law_b375
  rw [own_g_4 p cap mask a b sq l8 i0 i1 ne r0 r1 m1 t1 d1 hc, Option.bind_some, if_neg own_n10, if_pos (by rfl)]
  exact own_L400 p cap mask a b sq l8 i0 i1 ne r0 r1 m1 t1 d1 hc
theorem own_L349 (p cap mask a b : Int32) (sq : List Int32) (l8 : sq.length = 8) (i0 : inb 8 (p &&& mask) = true) (i1 : inb 8 ((p + 1) &&& mask) = true) (ne : ¬ (p &&& mask) = ((p + 1) &&& mask)) (r0 : rd sq (p &&& mask) = p) (r1 : rd sq ((p + 1) &&& mask) = p + 1) (m1 : p - (p + 1) = -1) (t1 : ¬ p + 1 = p) (d1 : p + 1 + 1 - (p + 1) = 1) (hc : 0 < cap) : (law_b349 (Q.mk (wr (wr sq (p &&& mask) (p + 1)) (p &&& mask) (p + cap)) (wr (List.replicate 8 0) (p &&& mask) a) [0, 0, 0, 0] [p, p, 0, 0] [a, a, 0, 0] [1, 1, 0, 0] [0, a, 0, 0] (List.replicate 4 0) (1 :: 2 :: 3 :: 3 :: 0 :: 0 :: List.replicate 58 0) (0 :: 1 :: 0 :: 1 :: 0 :: 0 :: List.replicate 58 0) (a :: 0 :: 0 :: a :: 0 :: 0 :: List.replicate 58 0) (List.replicate 8 0) [0, 0, 0, 0, 0, 0] [0, 0, 0, 0, 0, 0] [0, 0, 0, 0, 0, 0] [0, 0, 0, 0, 0, 0] [0, 0, 0, 0, 0, 0] [0, 0, 0, 0, 0, 0] [0, 0, 0, 0, 0, 0] [0, 0, 0, 0] (List.replicate 56 0) [0, 0, 0, 0, 0, 0, 0] [0, 0, 0, 0, 0, 0, 0] [0, 0, 0, 0, 0, 0, 0] 2 cap mask (p + 1) (p + 1) 4 0 0 0) a b 2 1).map (·.1) = some 1 := by
  unfold law_b349
  rw [own_g_3 p cap mask a b sq l8 i0 i1 ne r0 r1 m1 t1 d1 hc, Option.bind_some, if_neg own_n10, if_pos (by rfl)]
  exact own_L375 p cap mask a b sq l8 i0 i1 ne r0 r1 m1 t1 d1 hc
theorem own_L320 (p cap mask a b : Int32) (sq : List Int32) (l8 : sq.length = 8) (i0 : inb 8 (p &&& mask) = true) (i1 : inb 8 ((p + 1) &&& mask) = true) (ne : ¬ (p &&& mask) = ((p + 1) &&& mask)) (r0 : rd sq (p &&& mask) = p) (r1 : rd sq ((p + 1) &&& mask) = p + 1) (m1 : p - (p + 1) = -1) (t1 : ¬ p + 1 = p) (d1 : p + 1 + 1 - (p + 1) = 1) (hc : 0 < cap) : (law_b320 (Q.mk (wr sq (p &&& mask) (p + 1)) (wr (List.replicate 8 0) (p &&& mask) a) [0, 21, 0, 0] [p, p, 0, 0] [a, 0, 0, 0] [1, 0, 0, 0] [0, 0, 0, 0] (List.replicate 4 0) (1 :: 2 :: 3 :: 0 :: 0 :: 0 :: List.replicate 58 0) (0 :: 1 :: 0 :: 0 :: 0 :: 0 :: List.replicate 58 0) (a :: 0 :: 0 :: 0 :: 0 :: 0 :: List.replicate 58 0) (List.replicate 8 0) [0, 0, 0, 0, 0, 0] [0, 0, 0, 0, 0, 0] [0, 0, 0, 0, 0, 0] [0, 0, 0, 0, 0, 0] [0, 0, 0, 0, 0, 0] [0, 0, 0, 0, 0, 0] [0, 0, 0, 0, 0, 0] [0, 0, 0, 0] (List.replicate 56 0) [0, 0, 0, 0, 0, 0, 0] [0, 0, 0, 0, 0, 0, 0] [0, 0, 0, 0, 0, 0, 0] 2 cap mask p (p + 1) 3 0 0 0) a b 2 1).map (·.1) = some 1 := by
  unfold law_b320
  rw [own_r1a p cap mask a b sq l8 i0 i1 ne r0 r1 m1 t1 d1 hc, Option.bind_some, if_neg own_n10, if_pos (by rfl)]
  exact own_L349 p cap mask a b sq l8 i0 i1 ne r0 r1 m1 t1 d1 hc
theorem own_L291 (p cap mask a b : Int32) (sq : List Int32) (l8 : sq.length = 8) (i0 : inb 8 (p &&& mask) = true) (i1 : inb 8 ((p + 1) &&& mask) = true) (ne : ¬ (p &&& mask) = ((p + 1) &&& mask)) (r0 : rd sq (p &&& mask) = p) (r1 : rd sq ((p + 1) &&& mask) = p + 1) (m1 : p - (p + 1) = -1) (t1 : ¬ p + 1 = p) (d1 : p + 1 + 1 - (p + 1) = 1) (hc : 0 < cap) : (law_b291 (Q.mk sq (List.replicate 8 0) [15, 21, 0, 0] [p, p, 0, 0] [a, 0, 0, 0] [0, 0, 0, 0] [0, 0, 0, 0] (List.replicate 4 0) (1 :: 2 :: 0 :: 0 :: 0 :: 0 :: List.replicate 58 0) (0 :: 1 :: 0 :: 0 :: 0 :: 0 :: List.replicate 58 0) (a :: 0 :: 0 :: 0 :: 0 :: 0 :: List.replicate 58 0) (List.replicate 8 0) [0, 0, 0, 0, 0, 0] [0, 0, 0, 0, 0, 0] [0, 0, 0, 0, 0, 0] [0, 0, 0, 0, 0, 0] [0, 0, 0, 0, 0, 0] [0, 0, 0, 0, 0, 0] [0, 0, 0, 0, 0, 0] [0, 0, 0, 0] (List.replicate 56 0) [0, 0, 0, 0, 0, 0, 0] [0, 0, 0, 0, 0, 0, 0] [0, 0, 0, 0, 0, 0, 0] 2 cap mask p (p + 1) 2 0 0 0) a b 2 1).map (·.1) = some 1 := by
  unfold law_b291
  rw [own_r0a p cap mask a b sq l8 i0 i1 ne r0 r1 m1 t1 d1 hc, Option.bind_some, if_neg own_n10, if_pos (by rfl)]
  exact own_L320 p cap mask a b sq l8 i0 i1 ne r0 r1 m1 t1 d1 hc
theorem own_L266 (p cap mask a b : Int32) (sq : List Int32) (l8 : sq.length = 8) (i0 : inb 8 (p &&& mask) = true) (i1 : inb 8 ((p + 1) &&& mask) = true) (ne : ¬ (p &&& mask) = ((p + 1) &&& mask)) (r0 : rd sq (p &&& mask) = p) (r1 : rd sq ((p + 1) &&& mask) = p + 1) (m1 : p - (p + 1) = -1) (t1 : ¬ p + 1 = p) (d1 : p + 1 + 1 - (p + 1) = 1) (hc : 0 < cap) : (law_b266 (Q.mk sq (List.replicate 8 0) [15, 21, 0, 0] [p, p, 0, 0] [a, 0, 0, 0] [0, 0, 0, 0] [0, 0, 0, 0] (List.replicate 4 0) (1 :: 2 :: 0 :: 0 :: 0 :: 0 :: List.replicate 58 0) (0 :: 1 :: 0 :: 0 :: 0 :: 0 :: List.replicate 58 0) (a :: 0 :: 0 :: 0 :: 0 :: 0 :: List.replicate 58 0) (List.replicate 8 0) [0, 0, 0, 0, 0, 0] [0, 0, 0, 0, 0, 0] [0, 0, 0, 0, 0, 0] [0, 0, 0, 0, 0, 0] [0, 0, 0, 0, 0, 0] [0, 0, 0, 0, 0, 0] [0, 0, 0, 0, 0, 0] [0, 0, 0, 0] (List.replicate 56 0) [0, 0, 0, 0, 0, 0, 0] [0, 0, 0, 0, 0, 0, 0] [0, 0, 0, 0, 0, 0, 0] 2 cap mask p (p + 1) 2 0 0 0) a b 2 1).map (·.1) = some 1 := by
  unfold law_b266
  rw [own_g_2 p cap mask a b sq l8 i0 i1 ne r0 r1 m1 t1 d1 hc, Option.bind_some, if_neg own_n10, if_pos (by rfl)]
  exact own_L291 p cap mask a b sq l8 i0 i1 ne r0 r1 m1 t1 d1 hc
theorem own_L239 (p cap mask a b : Int32) (sq : List Int32) (l8 : sq.length = 8) (i0 : inb 8 (p &&& mask) = true) (i1 : inb 8 ((p + 1) &&& mask) = true) (ne : ¬ (p &&& mask) = ((p + 1) &&& mask)) (r0 : rd sq (p &&& mask) = p) (r1 : rd sq ((p + 1) &&& mask) = p + 1) (m1 : p - (p + 1) = -1) (t1 : ¬ p + 1 = p) (d1 : p + 1 + 1 - (p + 1) = 1) (hc : 0 < cap) : (law_b239 (Q.mk sq (List.replicate 8 0) [15, 21, 0, 0] [p, p, 0, 0] [a, 0, 0, 0] [0, 0, 0, 0] [0, 0, 0, 0] (List.replicate 4 0) (1 :: 2 :: 0 :: 0 :: 0 :: 0 :: List.replicate 58 0) (0 :: 1 :: 0 :: 0 :: 0 :: 0 :: List.replicate 58 0) (a :: 0 :: 0 :: 0 :: 0 :: 0 :: List.replicate 58 0) (List.replicate 8 0) [0, 0, 0, 0, 0, 0] [0, 0, 0, 0, 0, 0] [0, 0, 0, 0, 0, 0] [0, 0, 0, 0, 0, 0] [0, 0, 0, 0, 0, 0] [0, 0, 0, 0, 0, 0] [0, 0, 0, 0, 0, 0] [0, 0, 0, 0] (List.replicate 56 0) [0, 0, 0, 0, 0, 0, 0] [0, 0, 0, 0, 0, 0, 0] [0, 0, 0, 0, 0, 0, 0] 2 cap mask p (p + 1) 2 0 0 0) a b 2 1).map (·.1) = some 1 := by
  unfold law_b239
  rw [own_g_1 p cap mask a b sq l8 i0 i1 ne r0 r1 m1 t1 d1 hc, Option.bind_some, if_neg own_n10, if_pos (by rfl)]
  exact own_L266 p cap mask a b sq l8 i0 i1 ne r0 r1 m1 t1 d1 hc
theorem own_L212 (p cap mask a b : Int32) (sq : List Int32) (l8 : sq.length = 8) (i0 : inb 8 (p &&& mask) = true) (i1 : inb 8 ((p + 1) &&& mask) = true) (ne : ¬ (p &&& mask) = ((p + 1) &&& mask)) (r0 : rd sq (p &&& mask) = p) (r1 : rd sq ((p + 1) &&& mask) = p + 1) (m1 : p - (p + 1) = -1) (t1 : ¬ p + 1 = p) (d1 : p + 1 + 1 - (p + 1) = 1) (hc : 0 < cap) : (law_b212 (Q.mk sq (List.replicate 8 0) [15, 24, 0, 0] [p, p, 0, 0] [a, 0, 0, 0] [0, 0, 0, 0] [0, 0, 0, 0] (List.replicate 4 0) (1 :: 2 :: 0 :: 0 :: 0 :: 0 :: List.replicate 58 0) (0 :: 1 :: 0 :: 0 :: 0 :: 0 :: List.replicate 58 0) (a :: 0 :: 0 :: 0 :: 0 :: 0 :: List.replicate 58 0) (List.replicate 8 0) [0, 0, 0, 0, 0, 0] [0, 0, 0, 0, 0, 0] [0, 0, 0, 0, 0, 0] [0, 0, 0, 0, 0, 0] [0, 0, 0, 0, 0, 0] [0, 0, 0, 0, 0, 0] [0, 0, 0, 0, 0, 0] [0, 0, 0, 0] (List.replicate 56 0) [0, 0, 0, 0, 0, 0, 0] [0, 0, 0, 0, 0, 0, 0] [0, 0, 0, 0, 0, 0, 0] 2 cap mask p (p + 1) 2 0 0 0) a b 1 2 1).map (·.1) = some 1 := by
  unfold law_b212
  rw [own_s_d3 p cap mask a b sq l8 i0 i1 ne r0 r1 m1 t1 d1 hc, Option.bind_some, if_neg own_n10, if_pos (by rfl)]
  exact own_L239 p cap mask a b sq l8 i0 i1 ne r0 r1 m1 t1 d1 hc
theorem own_L185 (p cap mask a b : Int32) (sq : List Int32) (l8 : sq.length = 8) (i0 : inb 8 (p &&& mask) = true) (i1 : inb 8 ((p + 1) &&& mask) = true) (ne : ¬ (p &&& mask) = ((p + 1) &&& mask)) (r0 : rd sq (p &&& mask) = p) (r1 : rd sq ((p + 1) &&& mask) = p + 1) (m1 : p - (p + 1) = -1) (t1 : ¬ p + 1 = p) (d1 : p + 1 + 1 - (p + 1) = 1) (hc : 0 < cap) : (law_b185 (Q.mk sq (List.replicate 8 0) [15, 22, 0, 0] [p, p, 0, 0] [a, 0, 0, 0] [0, 0, 0, 0] [0, 0, 0, 0] (List.replicate 4 0) (1 :: 2 :: 0 :: 0 :: 0 :: 0 :: List.replicate 58 0) (0 :: 1 :: 0 :: 0 :: 0 :: 0 :: List.replicate 58 0) (a :: 0 :: 0 :: 0 :: 0 :: 0 :: List.replicate 58 0) (List.replicate 8 0) [0, 0, 0, 0, 0, 0] [0, 0, 0, 0, 0, 0] [0, 0, 0, 0, 0, 0] [0, 0, 0, 0, 0, 0] [0, 0, 0, 0, 0, 0] [0, 0, 0, 0, 0, 0] [0, 0, 0, 0, 0, 0] [0, 0, 0, 0] (List.replicate 56 0) [0, 0, 0, 0, 0, 0, 0] [0, 0, 0, 0, 0, 0, 0] [0, 0, 0, 0, 0, 0, 0] 2 cap mask p (p + 1) 2 0 0 0) a b 1 2 1).map (·.1) = some 1 := by
  unfold law_b185
  rw [own_s_d2 p cap mask a b sq l8 i0 i1 ne r0 r1 m1 t1 d1 hc, Option.bind_some, if_neg own_n10, if_pos (by rfl)]
  exact own_L212 p cap mask a b sq l8 i0 i1 ne r0 r1 m1 t1 d1 hc
theorem own_L158 (p cap mask a b : Int32) (sq : List Int32) (l8 : sq.length = 8) (i0 : inb 8 (p &&& mask) = true) (i1 : inb 8 ((p + 1) &&& mask) = true) (ne : ¬ (p &&& mask) = ((p + 1) &&& mask)) (r0 : rd sq (p &&& mask) = p) (r1 : rd sq ((p + 1) &&& mask) = p + 1) (m1 : p - (p + 1) = -1) (t1 : ¬ p + 1 = p) (d1 : p + 1 + 1 - (p + 1) = 1) (hc : 0 < cap) : (law_b158 (Q.mk sq (List.replicate 8 0) [15, 21, 0, 0] [p, 0, 0, 0] [a, 0, 0, 0] [0, 0, 0, 0] [0, 0, 0, 0] (List.replicate 4 0) (1 :: 2 :: 0 :: 0 :: 0 :: 0 :: List.replicate 58 0) (0 :: 1 :: 0 :: 0 :: 0 :: 0 :: List.replicate 58 0) (a :: 0 :: 0 :: 0 :: 0 :: 0 :: List.replicate 58 0) (List.replicate 8 0) [0, 0, 0, 0, 0, 0] [0, 0, 0, 0, 0, 0] [0, 0, 0, 0, 0, 0] [0, 0, 0, 0, 0, 0] [0, 0, 0, 0, 0, 0] [0, 0, 0, 0, 0, 0] [0, 0, 0, 0, 0, 0] [0, 0, 0, 0] (List.replicate 56 0) [0, 0, 0, 0, 0, 0, 0] [0, 0, 0, 0, 0, 0, 0] [0, 0, 0, 0, 0, 0, 0] 2 cap mask p (p + 1) 2 0 0 0) a b 1 2 1).map (·.1) = some 1 := by
  unfold law_b158
  rw [own_s_d1 p cap mask a b sq l8 i0 i1 ne r0 r1 m1 t1 d1 hc, Option.bind_some, if_neg own_n10, if_pos (by rfl)]
  exact own_L185 p cap mask a b sq l8 i0 i1 ne r0 r1 m1 t1 d1 hc
theorem own_L133 (p cap mask a b : Int32) (sq : List Int32) (l8 : sq.length = 8) (i0 : inb 8 (p &&& mask) = true) (i1 : inb 8 ((p + 1) &&& mask) = true) (ne : ¬ (p &&& mask) = ((p + 1) &&& mask)) (r0 : rd sq (p &&& mask) = p) (r1 : rd sq ((p + 1) &&& mask) = p + 1) (m1 : p - (p + 1) = -1) (t1 : ¬ p + 1 = p) (d1 : p + 1 + 1 - (p + 1) = 1) (hc : 0 < cap) : (law_b133 (Q.mk sq (List.replicate 8 0) [15, 0, 0, 0] [p, 0, 0, 0] [a, 0, 0, 0] [0, 0, 0, 0] [0, 0, 0, 0] (List.replicate 4 0) (1 :: 0 :: 0 :: 0 :: 0 :: 0 :: List.replicate 58 0) (0 :: 0 :: 0 :: 0 :: 0 :: 0 :: List.replicate 58 0) (a :: 0 :: 0 :: 0 :: 0 :: 0 :: List.replicate 58 0) (List.replicate 8 0) [0, 0, 0, 0, 0, 0] [0, 0, 0, 0, 0, 0] [0, 0, 0, 0, 0, 0] [0, 0, 0, 0, 0, 0] [0, 0, 0, 0, 0, 0] [0, 0, 0, 0, 0, 0] [0, 0, 0, 0, 0, 0] [0, 0, 0, 0] (List.replicate 56 0) [0, 0, 0, 0, 0, 0, 0] [0, 0, 0, 0, 0, 0, 0] [0, 0, 0, 0, 0, 0, 0] 2 cap mask p (p + 1) 1 0 0 0) a b 1 2 1).map (·.1) = some 1 := by
  unfold law_b133
  rw [own_k5 p cap mask a b sq l8 i0 i1 ne r0 r1 m1 t1 d1 hc, Option.bind_some, if_neg own_n10, if_neg own_n10]
  exact own_L158 p cap mask a b sq l8 i0 i1 ne r0 r1 m1 t1 d1 hc
theorem own_L106 (p cap mask a b : Int32) (sq : List Int32) (l8 : sq.length = 8) (i0 : inb 8 (p &&& mask) = true) (i1 : inb 8 ((p + 1) &&& mask) = true) (ne : ¬ (p &&& mask) = ((p + 1) &&& mask)) (r0 : rd sq (p &&& mask) = p) (r1 : rd sq ((p + 1) &&& mask) = p + 1) (m1 : p - (p + 1) = -1) (t1 : ¬ p + 1 = p) (d1 : p + 1 + 1 - (p + 1) = 1) (hc : 0 < cap) : (law_b106 (Q.mk sq (List.replicate 8 0) [15, 0, 0, 0] [p, 0, 0, 0] [a, 0, 0, 0] [0, 0, 0, 0] [0, 0, 0, 0] (List.replicate 4 0) (1 :: 0 :: 0 :: 0 :: 0 :: 0 :: List.replicate 58 0) (0 :: 0 :: 0 :: 0 :: 0 :: 0 :: List.replicate 58 0) (a :: 0 :: 0 :: 0 :: 0 :: 0 :: List.replicate 58 0) (List.replicate 8 0) [0, 0, 0, 0, 0, 0] [0, 0, 0, 0, 0, 0] [0, 0, 0, 0, 0, 0] [0, 0, 0, 0, 0, 0] [0, 0, 0, 0, 0, 0] [0, 0, 0, 0, 0, 0] [0, 0, 0, 0, 0, 0] [0, 0, 0, 0] (List.replicate 56 0) [0, 0, 0, 0, 0, 0, 0] [0, 0, 0, 0, 0, 0, 0] [0, 0, 0, 0, 0, 0, 0] 2 cap mask p (p + 1) 1 0 0 0) a b 1 2 1).map (·.1) = some 1 := by
  unfold law_b106
  rw [own_g_0 p cap mask a b sq l8 i0 i1 ne r0 r1 m1 t1 d1 hc, Option.bind_some, if_neg own_n10, if_pos (by rfl)]
  exact own_L133 p cap mask a b sq l8 i0 i1 ne r0 r1 m1 t1 d1 hc
theorem own_L79 (p cap mask a b : Int32) (sq : List Int32) (l8 : sq.length = 8) (i0 : inb 8 (p &&& mask) = true) (i1 : inb 8 ((p + 1) &&& mask) = true) (ne : ¬ (p &&& mask) = ((p + 1) &&& mask)) (r0 : rd sq (p &&& mask) = p) (r1 : rd sq ((p + 1) &&& mask) = p + 1) (m1 : p - (p + 1) = -1) (t1 : ¬ p + 1 = p) (d1 : p + 1 + 1 - (p + 1) = 1) (hc : 0 < cap) : (law_b79 (Q.mk sq (List.replicate 8 0) [13, 0, 0, 0] [p, 0, 0, 0] [a, 0, 0, 0] [0, 0, 0, 0] [0, 0, 0, 0] (List.replicate 4 0) (1 :: 0 :: 0 :: 0 :: 0 :: 0 :: List.replicate 58 0) (0 :: 0 :: 0 :: 0 :: 0 :: 0 :: List.replicate 58 0) (a :: 0 :: 0 :: 0 :: 0 :: 0 :: List.replicate 58 0) (List.replicate 8 0) [0, 0, 0, 0, 0, 0] [0, 0, 0, 0, 0, 0] [0, 0, 0, 0, 0, 0] [0, 0, 0, 0, 0, 0] [0, 0, 0, 0, 0, 0] [0, 0, 0, 0, 0, 0] [0, 0, 0, 0, 0, 0] [0, 0, 0, 0] (List.replicate 56 0) [0, 0, 0, 0, 0, 0, 0] [0, 0, 0, 0, 0, 0, 0] [0, 0, 0, 0, 0, 0, 0] 2 cap mask p p 1 0 0 0) a b 1 2 1).map (·.1) = some 1 := by
  unfold law_b79
  rw [own_s_e3 p cap mask a b sq l8 i0 i1 ne r0 r1 m1 t1 d1 hc, Option.bind_some, if_neg own_n10, if_pos (by rfl)]
  exact own_L106 p cap mask a b sq l8 i0 i1 ne r0 r1 m1 t1 d1 hc
theorem own_L52 (p cap mask a b : Int32) (sq : List Int32) (l8 : sq.length = 8) (i0 : inb 8 (p &&& mask) = true) (i1 : inb 8 ((p + 1) &&& mask) = true) (ne : ¬ (p &&& mask) = ((p + 1) &&& mask)) (r0 : rd sq (p &&& mask) = p) (r1 : rd sq ((p + 1) &&& mask) = p + 1) (m1 : p - (p + 1) = -1) (t1 : ¬ p + 1 = p) (d1 : p + 1 + 1 - (p + 1) = 1) (hc : 0 < cap) : (law_b52 (Q.mk sq (List.replicate 8 0) [12, 0, 0, 0] [p, 0, 0, 0] [a, 0, 0, 0] [0, 0, 0, 0] [0, 0, 0, 0] (List.replicate 4 0) (1 :: 0 :: 0 :: 0 :: 0 :: 0 :: List.replicate 58 0) (0 :: 0 :: 0 :: 0 :: 0 :: 0 :: List.replicate 58 0) (a :: 0 :: 0 :: 0 :: 0 :: 0 :: List.replicate 58 0) (List.replicate 8 0) [0, 0, 0, 0, 0, 0] [0, 0, 0, 0, 0, 0] [0, 0, 0, 0, 0, 0] [0, 0, 0, 0, 0, 0] [0, 0, 0, 0, 0, 0] [0, 0, 0, 0, 0, 0] [0, 0, 0, 0, 0, 0] [0, 0, 0, 0] (List.replicate 56 0) [0, 0, 0, 0, 0, 0, 0] [0, 0, 0, 0, 0, 0, 0] [0, 0, 0, 0, 0, 0, 0] 2 cap mask p p 1 0 0 0) a b 1 2 1).map (·.1) = some 1 := by
  unfold law_b52
  rw [own_s_e2 p cap mask a b sq l8 i0 i1 ne r0 r1 m1 t1 d1 hc, Option.bind_some, if_neg own_n10, if_pos (by rfl)]
  exact own_L79 p cap mask a b sq l8 i0 i1 ne r0 r1 m1 t1 d1 hc
theorem own_run (p cap mask a b : Int32) (sq : List Int32) (l8 : sq.length = 8) (i0 : inb 8 (p &&& mask) = true) (i1 : inb 8 ((p + 1) &&& mask) = true) (ne : ¬ (p &&& mask) = ((p + 1) &&& mask)) (r0 : rd sq (p &&& mask) = p) (r1 : rd sq ((p + 1) &&& mask) = p + 1) (m1 : p - (p + 1) = -1) (t1 : ¬ p + 1 = p) (d1 : p + 1 + 1 - (p + 1) = 1) (hc : 0 < cap) : ((j_startEnqueue (Q.mk sq (List.replicate 8 0) [0, 0, 0, 0] [0, 0, 0, 0] [0, 0, 0, 0] [0, 0, 0, 0] [0, 0, 0, 0] (List.replicate 4 0) (0 :: 0 :: 0 :: 0 :: 0 :: 0 :: List.replicate 58 0) (0 :: 0 :: 0 :: 0 :: 0 :: 0 :: List.replicate 58 0) (0 :: 0 :: 0 :: 0 :: 0 :: 0 :: List.replicate 58 0) (List.replicate 8 0) [0, 0, 0, 0, 0, 0] [0, 0, 0, 0, 0, 0] [0, 0, 0, 0, 0, 0] [0, 0, 0, 0, 0, 0] [0, 0, 0, 0, 0, 0] [0, 0, 0, 0, 0, 0] [0, 0, 0, 0, 0, 0] [0, 0, 0, 0] (List.replicate 56 0) [0, 0, 0, 0, 0, 0, 0] [0, 0, 0, 0, 0, 0, 0] [0, 0, 0, 0, 0, 0, 0] 2 cap mask p p 0 0 0 0) 0 a).bind fun p43 => ((j_step p43.2 0).bind fun p132 => (law_b52 p132.2 a b 1 2 (if p43.1 = 0 then 0 else (if p132.1 = 1 then 1 else 0))))).map (·.1) = some 1 := by
  rw [own_k1 p cap mask a b sq l8 i0 i1 ne r0 r1 m1 t1 d1 hc, Option.bind_some, own_s_e1 p cap mask a b sq l8 i0 i1 ne r0 r1 m1 t1 d1 hc, Option.bind_some, if_neg own_n10, if_pos (by rfl)]
  exact own_L52 p cap mask a b sq l8 i0 i1 ne r0 r1 m1 t1 d1 hc
theorem own_ofN {x : Int32} (h : 0 ≤ x.toInt) : x = Int32.ofNat x.toInt.toNat := by
  apply Int32.toInt_inj.mp
  have q : x.toInt < 2147483648 := by have := Int32.toInt_lt x; simpa using this
  rw [own_n2i (by omega)]; omega
theorem own_cid (v : Int32) : j_clamp (j_clamp v 1 3) 1 3 = j_clamp v 1 3 := by
  have h := own_cl (v := v) (a := 1) (b := 3) (by decide)
  simp only [Int32.reduceToInt] at h
  generalize j_clamp v 1 3 = w at h
  unfold j_clamp
  rw [if_neg (by simp only [lt32, Int32.reduceToInt]; omega), if_neg (by simp only [lt32, Int32.reduceToInt]; omega)]
theorem own_cid2 (v : Int32) : j_clamp (j_clamp v 0 63) 0 63 = j_clamp v 0 63 := by
  have h := own_cl (v := v) (a := 0) (b := 63) (by decide)
  simp only [Int32.reduceToInt] at h
  generalize j_clamp v 0 63 = w at h
  unfold j_clamp
  rw [if_neg (by simp only [lt32, Int32.reduceToInt]; omega), if_neg (by simp only [lt32, Int32.reduceToInt]; omega)]
def own_ok0 (s : Q) : Bool := (s.f1 == (List.replicate 8 0)) && (s.f2 == ([0, 0, 0, 0])) && (s.f3 == ([0, 0, 0, 0])) && (s.f4 == ([0, 0, 0, 0])) && (s.f5 == ([0, 0, 0, 0])) && (s.f6 == ([0, 0, 0, 0])) && (s.f7 == (List.replicate 4 0)) && (s.f8 == ((0 :: 0 :: 0 :: 0 :: 0 :: 0 :: List.replicate 58 0))) && (s.f9 == ((0 :: 0 :: 0 :: 0 :: 0 :: 0 :: List.replicate 58 0))) && (s.f10 == ((0 :: 0 :: 0 :: 0 :: 0 :: 0 :: List.replicate 58 0))) && (s.f11 == (List.replicate 8 0)) && (s.f12 == ([0, 0, 0, 0, 0, 0])) && (s.f13 == ([0, 0, 0, 0, 0, 0])) && (s.f14 == ([0, 0, 0, 0, 0, 0])) && (s.f15 == ([0, 0, 0, 0, 0, 0])) && (s.f16 == ([0, 0, 0, 0, 0, 0])) && (s.f17 == ([0, 0, 0, 0, 0, 0])) && (s.f18 == ([0, 0, 0, 0, 0, 0])) && (s.f19 == ([0, 0, 0, 0])) && (s.f20 == (List.replicate 56 0)) && (s.f21 == ([0, 0, 0, 0, 0, 0, 0])) && (s.f22 == ([0, 0, 0, 0, 0, 0, 0])) && (s.f23 == ([0, 0, 0, 0, 0, 0, 0])) && (s.f24 == (2)) && (s.f28 == (s.f27)) && (s.f29 == (0)) && (s.f30 == (0)) && (s.f31 == (0)) && (s.f32 == (0))
def own_ok1 (s : Q) : Bool := (s.f0.length == 8) && (inb 8 (s.f27 &&& s.f26) && (inb 8 ((s.f27 + 1) &&& s.f26) && (!((s.f27 &&& s.f26) == ((s.f27 + 1) &&& s.f26)) && ((rd s.f0 (s.f27 &&& s.f26) == s.f27) && ((rd s.f0 ((s.f27 + 1) &&& s.f26) == s.f27 + 1) && ((s.f27 - (s.f27 + 1) == -1) && (!(s.f27 + 1 == s.f27) && ((s.f27 + 1 + 1 - (s.f27 + 1) == 1) && decide (0 < s.f25)))))))))
set_option maxHeartbeats 0 in
theorem own_all : ∀ c : Fin 3, ∀ o : Fin 64, (j_init (Int32.ofNat (1 + c.val)) 2 (Int32.ofNat o.val)).map (fun s => own_ok0 s && own_ok1 s) = some true := by decide +kernel
theorem own_law (v0 v1 v2 v3 : Int32) : (law v0 v1 v2 v3).map (·.1) = some 1 := by
  have ei : j_init v0 2 v1 = j_init (j_clamp v0 1 3) 2 (j_clamp v1 0 63) := by
    simp only [j_init, j_init_b189, own_cid, own_cid2]
  have c0 := own_cl (v := v0) (a := 1) (b := 3) (by decide)
  have c1 := own_cl (v := v1) (a := 0) (b := 63) (by decide)
  simp only [Int32.reduceToInt] at c0 c1
  have e0 := own_ofN (x := j_clamp v0 1 3) (by omega)
  have e1 := own_ofN (x := j_clamp v1 0 63) (by omega)
  have hA : (j_clamp v0 1 3).toInt.toNat = 1 + ((j_clamp v0 1 3).toInt.toNat - 1) := by omega
  have k := own_all ⟨(j_clamp v0 1 3).toInt.toNat - 1, by omega⟩ ⟨(j_clamp v1 0 63).toInt.toNat, by omega⟩
  simp only at k
  rw [← hA, ← e0, ← e1, ← ei] at k
  obtain ⟨s, e, ks⟩ := Option.map_eq_some_iff.mp k
  simp only [own_ok0, own_ok1, Bool.and_eq_true, beq_iff_eq, Bool.not_eq_true', beq_eq_false_iff_ne, decide_eq_true_eq] at ks
  obtain ⟨⟨⟨⟨⟨⟨⟨⟨⟨⟨⟨⟨⟨⟨⟨⟨⟨⟨⟨⟨⟨⟨⟨⟨⟨⟨⟨⟨⟨k0, k1⟩, k2⟩, k3⟩, k4⟩, k5⟩, k6⟩, k7⟩, k8⟩, k9⟩, k10⟩, k11⟩, k12⟩, k13⟩, k14⟩, k15⟩, k16⟩, k17⟩, k18⟩, k19⟩, k20⟩, k21⟩, k22⟩, k23⟩, k24⟩, k25⟩, k26⟩, k27⟩, k28⟩, l8, i0, i1, ne, r0, r1, m1, t1, d1, hc⟩ := ks
  have es : s = (Q.mk s.f0 (List.replicate 8 0) [0, 0, 0, 0] [0, 0, 0, 0] [0, 0, 0, 0] [0, 0, 0, 0] [0, 0, 0, 0] (List.replicate 4 0) (0 :: 0 :: 0 :: 0 :: 0 :: 0 :: List.replicate 58 0) (0 :: 0 :: 0 :: 0 :: 0 :: 0 :: List.replicate 58 0) (0 :: 0 :: 0 :: 0 :: 0 :: 0 :: List.replicate 58 0) (List.replicate 8 0) [0, 0, 0, 0, 0, 0] [0, 0, 0, 0, 0, 0] [0, 0, 0, 0, 0, 0] [0, 0, 0, 0, 0, 0] [0, 0, 0, 0, 0, 0] [0, 0, 0, 0, 0, 0] [0, 0, 0, 0, 0, 0] [0, 0, 0, 0] (List.replicate 56 0) [0, 0, 0, 0, 0, 0, 0] [0, 0, 0, 0, 0, 0, 0] [0, 0, 0, 0, 0, 0, 0] 2 s.f25 s.f26 s.f27 s.f27 0 0 0 0) := by
    refine (own_eta s).symm.trans ?_
    rw [k0, k1, k2, k3, k4, k5, k6, k7, k8, k9, k10, k11, k12, k13, k14, k15, k16, k17, k18, k19, k20, k21, k22, k23, k24, k25, k26, k27, k28]
  unfold law
  rw [e, Option.bind_some, es]
  exact own_run s.f27 s.f25 s.f26 v2 v3 s.f0 l8 i0 i1 ne r0 r1 m1 t1 d1 hc

set_option maxRecDepth 65536 in
set_option maxHeartbeats 4000000 in
theorem comes_1 {Post : Tables → Env → Array Value → State → Outcome → State → Prop} (hpost : ∀ tb e args s v u, (limb_1_1.after args s (.returned v) u = true ∧ limb_1_2.after args s (.returned v) u = true ∧ True) → FrameEnd s (.returned v) u (Jvm.fieldLocs frame_1_writes args s ++ Jvm.arrayLocs frame_1_arrays args s ++ Jvm.staticLocs frame_1_statics s) 64 896 → Post tb e args s (.returned v) u) :
    ArmFor flags0 classFile x code maxLocals ret World_1 tables_1 room_1 Calls_1 rest_1 Pre_1 Post := by
  intro l hfl _ _ p e ha hc hk s m args below hf hA hF happ hP
  obtain ⟨hcalls, hrest, hpre⟩ := hP
  obtain ⟨-, -, -, hnamed, -, -, -, hat⟩ := (Spec.applies_iff hf).mp happ
  obtain ⟨hg, hn⟩ := and_e (Cond.before_iff.mp (show (Jvm.Cond.and given_1 narrow_1).before args s = true from hpre))
  obtain ⟨hcnt, h0⟩ := and_e hg
  obtain ⟨w0, w1, w2, w3, rfl⟩ : ∃ w0 w1 w2 w3 : Value, args = #[w0, w1, w2, w3] := by
    have hs : args.size = 4 := by simpa [Cond.value, given_1] using hcnt
    obtain ⟨L⟩ := args
    match L, hs with
    | [w0, w1, w2, w3], _ => exact ⟨w0, w1, w2, w3, rfl⟩
  have hw := fun d (hd : d ∈ tables_1) => atoms_spec (ws := Jvm.Cond.code x code maxLocals ret :: tables_1) hat d (List.mem_cons_of_mem _ hd)
  obtain ⟨q0, h1⟩ := and_e h0
  obtain ⟨i0, e0⟩ := is_v q0
  obtain rfl : w0 = .int i0 := Option.some.inj e0
  obtain ⟨q1, h2⟩ := and_e h1
  obtain ⟨i1, e1⟩ := is_v q1
  obtain rfl : w1 = .int i1 := Option.some.inj e1
  obtain ⟨q2, h3⟩ := and_e h2
  obtain ⟨i2, e2⟩ := is_v q2
  obtain rfl : w2 = .int i2 := Option.some.inj e2
  obtain ⟨i3, e3⟩ := is_v h3
  obtain rfl : w3 = .int i3 := Option.some.inj e3
  have hL := own_law i0 i1 i2 i3
  obtain ⟨res, hres, hr1⟩ := Option.map_eq_some_iff.mp hL
  obtain ⟨n, hrun⟩ := ev_law i0 i1 i2 i3 hres rfl
  have hr1' : res.1 = 1 := hr1
  rw [hr1'] at hrun
  have hcap := run_cap hrun
  have hcC : own_P.capC = 64 := rfl
  have hcS : own_P.capS = 896 := rfl
  rw [hcC, hcS] at hcap
  have hc1 : (W0 []).length = 0 := rfl
  have hc2 : hsz own_P (W0 []) = 0 := rfl
  have hM := metOf (sound (own_good hw) n) (k := 0) (as := [.int i0, .int i1, .int i2, .int i3]) (H := (W0 [])) hrun (l := l) (wsC := tables_1) (rm := room_1) own_pn0 rfl (fun h => nomatch h) (by decide) (by decide) (by show _ ≤ 64; omega) (by show _ ≤ 896; omega) (am := []) (ws := [.int i0, .int i1, .int i2, .int i3]) (h := s.heap) (n0 := s.heap.size) ⟨_, _, rfl, rfl, _, _, rfl, rfl, _, _, rfl, rfl, _, _, rfl, rfl, rfl⟩ (Nat.le_of_ble_eq_true rfl) (HR.none _ _ _ _ _) (Nat.le_refl _)
  obtain ⟨n, o, h1, h2, h3, w, L, rfl, ⟨N, -, am', -, -, hv⟩, hq⟩ := hM p e ha hc hk s m _ below hf ((Spec.applies_iff_loose hf).mp happ).1 ⟨rfl, State.Warmed39.refl s, rfl⟩ trivial
  obtain ⟨y, rfl, rfl⟩ := hv
  exact ⟨n, _, h1, h2, h3, hpost _ _ _ _ _ _ ⟨Cond.after_iff.mpr rfl, Cond.after_iff.mpr (eq_i res_at (Term.int_eval (1)) rfl), trivial⟩ ⟨hq.1, hq.2.1, (hq.2.2.sift fun y hy => Or.inr (N y hy)).mono (by omega) (by omega)⟩⟩
theorem main_1_1 : Claimed_1_1 := comes_1 fun _ _ _ _ _ _ h hF => ⟨h.1, hF⟩
theorem main_1_2 : Claimed_1_2 := comes_1 fun _ _ _ _ _ _ h hF => ⟨h.2.1, hF⟩
end Jvm.Pilot.@@N@@
namespace Jvm.Pilot.@@N@@
open Jvm Jvm.ClassFile Sem Op Lib Jvm.Free Jvm.Stand Jvm.Pilot.@@N@@.Jvm.D
/-! MADE BY PROGRAM (witnessworld.py) out of the Statement's table words and the real class files: 9 classes; the members and pool entries that the words name. The judged class is class 1, her method 1. -/
namespace start1
open Jvm.ClassFile
def u (s : String) : CpInfo := .utf8 (stringToUtf16 s)
/-- a pool by its gaps: so many unusable entries, then the entry; so many at the end -/
def gap : Nat → List CpInfo → List CpInfo
  | 0, r => r
  | n + 1, r => .unusable :: gap n r
def poolList (es : List (Nat × CpInfo)) (last : Nat) : List CpInfo := es.foldr (fun e r => gap e.1 (e.2 :: r)) (gap last [])
def pool (es : List (Nat × CpInfo)) (last : Nat) : Array CpInfo := ⟨poolList es last⟩
def fileOf (pool : Array CpInfo) (this : Nat) (attrs : Array Attribute := #[]) (ms : Array MethodInfo := #[]) (fl : Nat := 33) (sup : Nat := 0) (ifs : Array Nat := #[]) (fds : Array FieldInfo := #[]) : ClassFile where
  minorVersion := 0
  majorVersion := 65
  constantPool := pool
  accessFlags := fl
  thisClass := this
  superClass := sup
  interfaces := ifs
  fields := fds
  methods := ms
  attributes := attrs
def plain (name : String) (sup : Option ClassId) : Class where
  name := name
  kind := .ordinary
  loader := none
  accessFlags := 33
  super := sup
  interfaces := #[]
  cf := none
  fields := #[]
  methods := #[]
  instanceTypes := #[]
  staticTypes := #[]
  resolved := #[]
  callSites := []
  init := .initialized
  statics := none
  mirror := none

def pool0 : Array CpInfo := pool [(5, u "<init>"), (0, u "()V"), (1, .class_ 10), (1, u "java/lang/Object")] 113

def k0c0 : Code := { maxStack := 0, maxLocals := 1, code := object_method_1_code, exceptionTable := #[], attributes := #[] }
def k0m0 : Method := { name := "<init>", desc := "()V", sig := { parameters := [], returnType := none }, accessFlags := 1, code := some k0c0 }
/-- java/lang/Object -/
def k0 : Class := { plain "java/lang/Object" none with
  accessFlags := 33
  interfaces := #[]
  cf := some (fileOf pool0 8 #[] #[{ accessFlags := 1, nameIndex := 5, descriptorIndex := 6, attributes := #[] }] 33 0 #[] #[])
  fields := #[]
  methods := #[k0m0]
  instanceTypes := #[]
  staticTypes := #[]
  resolved := Array.replicate 124 none
  statics := none }

def pool1 : Array CpInfo := pool [(2, .class_ 4), (1, u "java/lang/Object"), (0, u "<init>"), (0, u "()V"), (0, .class_ 8), (0, u "SeqRingQueue"), (0, .methodref 7 10), (0, .nameAndType 5 11), (0, u "(III)V"), (0, .methodref 7 13), (0, .nameAndType 14 15), (0, u "startEnqueue"), (0, u "(II)Z"), (0, .methodref 7 17), (0, .nameAndType 18 19), (0, u "step"), (0, u "(I)I"), (0, .methodref 7 21), (0, .nameAndType 22 19), (0, u "state"), (0, .methodref 7 24), (0, .nameAndType 25 26), (0, u "startDequeue"), (0, u "(I)Z"), (0, .methodref 7 28), (0, .nameAndType 29 30), (0, u "contentCount"), (0, u "()I"), (0, .methodref 7 32), (0, .nameAndType 33 34), (0, u "run"), (0, u "(II)I"), (0, .methodref 7 36), (0, .nameAndType 37 19), (0, u "lastStatus"), (0, .methodref 7 39), (0, .nameAndType 40 19), (0, u "lastValue"), (0, .methodref 7 42), (0, .nameAndType 43 19), (0, u "contentAt"), (0, .methodref 7 45), (0, .nameAndType 46 30), (0, u "historyLength"), (0, .methodref 7 48), (0, .nameAndType 49 19), (0, u "historyEvent"), (0, .methodref 7 51), (0, .nameAndType 52 19), (0, u "historyValue"), (0, .methodref 7 54), (0, .nameAndType 55 30), (0, u "check"), (0, .class_ 57), (0, u "SeqRingQueueL3"), (2, u "law"), (0, u "(IIII)Z")] 3

def k1m0 : Method := { name := "<init>", desc := "()V", sig := { parameters := [], returnType := none }, accessFlags := 1, code := none }
def k1c1 : Code := { maxStack := 5, maxLocals := 14, code := code, exceptionTable := #[], attributes := #[] }
def k1m1 : Method := { name := "law", desc := "(IIII)Z", sig := { parameters := [.int, .int, .int, .int], returnType := some .boolean }, accessFlags := 9, code := some k1c1 }
/-- SeqRingQueueL3 -/
def k1 : Class := { plain "SeqRingQueueL3" (some 0) with
  accessFlags := 49
  interfaces := #[]
  cf := some (fileOf pool1 56 #[] #[{ accessFlags := 1, nameIndex := 5, descriptorIndex := 6, attributes := #[] }, { accessFlags := 9, nameIndex := 60, descriptorIndex := 61, attributes := #[] }] 49 2 #[] #[])
  fields := #[]
  methods := #[k1m0, k1m1]
  instanceTypes := #[]
  staticTypes := #[]
  resolved := Array.replicate 65 none
  statics := none }

def pool2 : Array CpInfo := pool [(1, .methodref 2 3), (0, .class_ 4), (0, .nameAndType 5 6), (0, u "java/lang/Object"), (0, u "<init>"), (0, u "()V"), (0, .fieldref 8 9), (0, .class_ 10), (0, .nameAndType 11 12), (0, u "SeqRingQueue"), (0, u "seq"), (0, u "[I"), (0, .fieldref 8 14), (0, .nameAndType 15 12), (0, u "val"), (0, .fieldref 8 17), (0, .nameAndType 18 12), (0, u "st"), (0, .fieldref 8 20), (0, .nameAndType 21 12), (0, u "locP"), (0, .fieldref 8 23), (0, .nameAndType 24 12), (0, u "locV"), (0, .fieldref 8 26), (0, .nameAndType 27 12), (0, u "lastSt"), (0, .fieldref 8 29), (0, .nameAndType 30 12), (0, u "lastVal"), (0, .fieldref 8 32), (0, .nameAndType 33 12), (0, u "logKind"), (0, .fieldref 8 35), (0, .nameAndType 36 12), (0, u "evKind"), (0, .fieldref 8 38), (0, .nameAndType 39 12), (0, u "evThread"), (0, .fieldref 8 41), (0, .nameAndType 42 12), (0, u "evVal"), (0, .fieldref 8 44), (0, .nameAndType 45 12), (0, u "snap"), (0, .fieldref 8 47), (0, .nameAndType 48 12), (0, u "opKind"), (0, .fieldref 8 50), (0, .nameAndType 51 12), (0, u "opArg"), (0, .fieldref 8 53), (0, .nameAndType 54 12), (0, u "opInv"), (0, .fieldref 8 56), (0, .nameAndType 57 12), (0, u "opRes"), (0, .fieldref 8 59), (0, .nameAndType 60 12), (0, u "opStatus"), (0, .fieldref 8 62), (0, .nameAndType 63 12), (0, u "opRVal"), (0, .fieldref 8 65), (0, .nameAndType 66 12), (0, u "predMask"), (0, .fieldref 8 68), (0, .nameAndType 69 12), (0, u "openOp"), (0, .fieldref 8 71), (0, .nameAndType 72 12), (0, u "qBuf"), (0, .fieldref 8 74), (0, .nameAndType 75 12), (0, u "qLen"), (0, .fieldref 8 77), (0, .nameAndType 78 12), (0, u "nextCand"), (0, .fieldref 8 80), (0, .nameAndType 81 12), (0, u "chosen"), (0, .methodref 8 83), (0, .nameAndType 84 85), (0, u "clamp"), (0, u "(III)I"), (0, .fieldref 8 87), (0, .nameAndType 88 89), (0, u "nThreads"), (0, u "I"), (0, .fieldref 8 91), (0, .nameAndType 92 89), (0, u "cap"), (0, .fieldref 8 94), (0, .nameAndType 95 89), (0, u "mask"), (0, .integer 2147483584), (0, .fieldref 8 98), (0, .nameAndType 99 89), (0, u "head"), (0, .fieldref 8 101), (0, .nameAndType 102 89), (0, u "tail"), (0, .fieldref 8 104), (0, .nameAndType 105 89), (0, u "histLen"), (0, .fieldref 8 107), (0, .nameAndType 108 89), (0, u "snapLen"), (0, .methodref 8 110), (0, .nameAndType 111 112), (0, u "pending"), (0, u "()I"), (0, .methodref 8 114), (0, .nameAndType 115 116), (0, u "valid"), (0, u "(I)Z"), (0, .methodref 8 118), (0, .nameAndType 119 120), (0, u "hasRoom"), (0, u "()Z"), (0, .methodref 8 122), (0, .nameAndType 123 124), (0, u "append"), (0, u "(III)V"), (0, .methodref 8 126), (0, .nameAndType 127 116), (0, u "doStep"), (0, .methodref 8 129), (0, .nameAndType 130 131), (0, u "enqStep"), (0, u "(II)Z"), (0, .methodref 8 133), (0, .nameAndType 134 131), (0, u "deqStep"), (0, .methodref 8 136), (0, .nameAndType 137 124), (0, u "finish"), (0, .methodref 8 139), (0, .nameAndType 140 141), (0, u "resKind"), (0, u "(I)I"), (0, .methodref 8 143), (0, .nameAndType 144 112), (0, u "contentCount"), (0, .methodref 8 146), (0, .nameAndType 147 112), (0, u "countInvocations"), (0, .methodref 8 149), (0, .nameAndType 150 6), (0, u "parseOps"), (0, .methodref 8 152), (0, .nameAndType 153 6), (0, u "buildPreds"), (0, .methodref 8 155), (0, .nameAndType 156 112), (0, u "search"), (0, .fieldref 8 158), (0, .nameAndType 159 89), (0, u "opCount"), (0, .methodref 8 161), (0, .nameAndType 162 163), (0, u "addOp"), (0, u "(II)V"), (0, .methodref 8 165), (0, .nameAndType 166 163), (0, u "closeOp"), (0, .fieldref 8 168), (0, .nameAndType 169 89), (0, u "completeMask"), (0, .integer 200000), (0, .methodref 8 172), (0, .nameAndType 173 131), (0, u "apply"), (0, .methodref 8 175), (0, .nameAndType 176 131), (0, u "applyEnq"), (0, .methodref 8 178), (0, .nameAndType 179 131), (0, u "applyDeq"), (0, .methodref 8 181), (0, .nameAndType 182 163), (0, u "copyQueue"), (0, u "REFUSED"), (2, u "IDLE"), (1, u "RUNNING"), (1, u "FINISHED"), (1, u "ENQ"), (0, u "DEQ"), (0, u "NONE"), (0, u "OK"), (0, u "FULL"), (0, u "EMPTY"), (1, u "ST_IDLE"), (0, u "ST_LOGGED"), (0, u "E_LOAD_TAIL"), (1, u "E_LOAD_SEQ"), (1, u "E_CAS"), (1, u "E_LOAD_HEAD"), (1, u "E_STORE_VAL"), (1, u "E_PUBLISH"), (1, u "D_LOAD_HEAD"), (1, u "D_LOAD_SEQ"), (1, u "D_CAS"), (1, u "D_LOAD_TAIL"), (1, u "D_LOAD_VAL"), (1, u "D_RELEASE"), (1, u "EV_INV_ENQ"), (0, u "EV_INV_DEQ"), (0, u "EV_RES_OK"), (0, u "EV_RES_FULL"), (1, u "EV_RES_EMPTY"), (1, u "HISTORY_CAP"), (1, u "CHECK_LIMIT"), (1, u "YES"), (0, u "NO"), (0, u "TOO_LONG"), (3, u "startEnqueue"), (0, u "startDequeue"), (0, u "step"), (0, u "run"), (0, u "(II)I"), (1, u "state"), (0, u "lastStatus"), (0, u "lastValue"), (0, u "contentAt"), (4, u "historyLength"), (0, u "historyEvent"), (0, u "historyValue"), (0, u "check")] 2

def k2c0 : Code := { maxStack := 5, maxLocals := 8, code := prog_1_method_1_code, exceptionTable := #[], attributes := #[] }
def k2m0 : Method := { name := "<init>", desc := "(III)V", sig := { parameters := [.int, .int, .int], returnType := none }, accessFlags := 1, code := some k2c0 }
def k2c1 : Code := { maxStack := 2, maxLocals := 4, code := prog_1_method_2_code, exceptionTable := #[], attributes := #[] }
def k2m1 : Method := { name := "clamp", desc := "(III)I", sig := { parameters := [.int, .int, .int], returnType := some .int }, accessFlags := 2, code := some k2c1 }
def k2c2 : Code := { maxStack := 2, maxLocals := 2, code := prog_1_method_3_code, exceptionTable := #[], attributes := #[] }
def k2m2 : Method := { name := "valid", desc := "(I)Z", sig := { parameters := [.int], returnType := some .boolean }, accessFlags := 2, code := some k2c2 }
def k2c3 : Code := { maxStack := 2, maxLocals := 3, code := prog_1_method_4_code, exceptionTable := #[], attributes := #[] }
def k2m3 : Method := { name := "pending", desc := "()I", sig := { parameters := [], returnType := some .int }, accessFlags := 2, code := some k2c3 }
def k2c4 : Code := { maxStack := 2, maxLocals := 2, code := prog_1_method_5_code, exceptionTable := #[], attributes := #[] }
def k2m4 : Method := { name := "hasRoom", desc := "()Z", sig := { parameters := [], returnType := some .boolean }, accessFlags := 2, code := some k2c4 }
def k2c5 : Code := { maxStack := 3, maxLocals := 4, code := prog_1_method_6_code, exceptionTable := #[], attributes := #[] }
def k2m5 : Method := { name := "append", desc := "(III)V", sig := { parameters := [.int, .int, .int], returnType := none }, accessFlags := 2, code := some k2c5 }
def k2c6 : Code := { maxStack := 2, maxLocals := 2, code := prog_1_method_7_code, exceptionTable := #[], attributes := #[] }
def k2m6 : Method := { name := "resKind", desc := "(I)I", sig := { parameters := [.int], returnType := some .int }, accessFlags := 2, code := some k2c6 }
def k2c7 : Code := { maxStack := 4, maxLocals := 3, code := prog_1_method_8_code, exceptionTable := #[], attributes := #[] }
def k2m7 : Method := { name := "startEnqueue", desc := "(II)Z", sig := { parameters := [.int, .int], returnType := some .boolean }, accessFlags := 1, code := some k2c7 }
def k2c8 : Code := { maxStack := 4, maxLocals := 2, code := prog_1_method_9_code, exceptionTable := #[], attributes := #[] }
def k2m8 : Method := { name := "startDequeue", desc := "(I)Z", sig := { parameters := [.int], returnType := some .boolean }, accessFlags := 1, code := some k2c8 }
def k2c9 : Code := { maxStack := 2, maxLocals := 2, code := prog_1_method_10_code, exceptionTable := #[], attributes := #[] }
def k2m9 : Method := { name := "step", desc := "(I)I", sig := { parameters := [.int], returnType := some .int }, accessFlags := 1, code := some k2c9 }
def k2c10 : Code := { maxStack := 4, maxLocals := 5, code := prog_1_method_11_code, exceptionTable := #[], attributes := #[] }
def k2m10 : Method := { name := "run", desc := "(II)I", sig := { parameters := [.int, .int], returnType := some .int }, accessFlags := 1, code := some k2c10 }
def k2c11 : Code := { maxStack := 3, maxLocals := 3, code := prog_1_method_12_code, exceptionTable := #[], attributes := #[] }
def k2m11 : Method := { name := "doStep", desc := "(I)Z", sig := { parameters := [.int], returnType := some .boolean }, accessFlags := 2, code := some k2c11 }
def k2c12 : Code := { maxStack := 4, maxLocals := 6, code := prog_1_method_13_code, exceptionTable := #[], attributes := #[] }
def k2m12 : Method := { name := "enqStep", desc := "(II)Z", sig := { parameters := [.int, .int], returnType := some .boolean }, accessFlags := 2, code := some k2c12 }
def k2c13 : Code := { maxStack := 5, maxLocals := 6, code := prog_1_method_14_code, exceptionTable := #[], attributes := #[] }
def k2m13 : Method := { name := "deqStep", desc := "(II)Z", sig := { parameters := [.int, .int], returnType := some .boolean }, accessFlags := 2, code := some k2c13 }
def k2c14 : Code := { maxStack := 4, maxLocals := 5, code := prog_1_method_15_code, exceptionTable := #[], attributes := #[] }
def k2m14 : Method := { name := "finish", desc := "(III)V", sig := { parameters := [.int, .int, .int], returnType := none }, accessFlags := 2, code := some k2c14 }
def k2c15 : Code := { maxStack := 2, maxLocals := 2, code := prog_1_method_16_code, exceptionTable := #[], attributes := #[] }
def k2m15 : Method := { name := "state", desc := "(I)I", sig := { parameters := [.int], returnType := some .int }, accessFlags := 1, code := some k2c15 }
def k2c16 : Code := { maxStack := 2, maxLocals := 2, code := prog_1_method_17_code, exceptionTable := #[], attributes := #[] }
def k2m16 : Method := { name := "lastStatus", desc := "(I)I", sig := { parameters := [.int], returnType := some .int }, accessFlags := 1, code := some k2c16 }
def k2c17 : Code := { maxStack := 2, maxLocals := 2, code := prog_1_method_18_code, exceptionTable := #[], attributes := #[] }
def k2m17 : Method := { name := "lastValue", desc := "(I)I", sig := { parameters := [.int], returnType := some .int }, accessFlags := 1, code := some k2c17 }
def k2c18 : Code := { maxStack := 2, maxLocals := 2, code := prog_1_method_19_code, exceptionTable := #[], attributes := #[] }
def k2m18 : Method := { name := "contentCount", desc := "()I", sig := { parameters := [], returnType := some .int }, accessFlags := 1, code := some k2c18 }
def k2c19 : Code := { maxStack := 3, maxLocals := 3, code := prog_1_method_20_code, exceptionTable := #[], attributes := #[] }
def k2m19 : Method := { name := "contentAt", desc := "(I)I", sig := { parameters := [.int], returnType := some .int }, accessFlags := 1, code := some k2c19 }
def k2c20 : Code := { maxStack := 1, maxLocals := 1, code := prog_1_method_24_code, exceptionTable := #[], attributes := #[] }
def k2m20 : Method := { name := "historyLength", desc := "()I", sig := { parameters := [], returnType := some .int }, accessFlags := 1, code := some k2c20 }
def k2c21 : Code := { maxStack := 3, maxLocals := 2, code := prog_1_method_25_code, exceptionTable := #[], attributes := #[] }
def k2m21 : Method := { name := "historyEvent", desc := "(I)I", sig := { parameters := [.int], returnType := some .int }, accessFlags := 1, code := some k2c21 }
def k2c22 : Code := { maxStack := 2, maxLocals := 2, code := prog_1_method_26_code, exceptionTable := #[], attributes := #[] }
def k2m22 : Method := { name := "historyValue", desc := "(I)I", sig := { parameters := [.int], returnType := some .int }, accessFlags := 1, code := some k2c22 }
def k2c23 : Code := { maxStack := 2, maxLocals := 2, code := prog_1_method_27_code, exceptionTable := #[], attributes := #[] }
def k2m23 : Method := { name := "check", desc := "()I", sig := { parameters := [], returnType := some .int }, accessFlags := 1, code := some k2c23 }
def k2c24 : Code := { maxStack := 2, maxLocals := 3, code := prog_1_method_28_code, exceptionTable := #[], attributes := #[] }
def k2m24 : Method := { name := "countInvocations", desc := "()I", sig := { parameters := [], returnType := some .int }, accessFlags := 2, code := some k2c24 }
def k2c25 : Code := { maxStack := 3, maxLocals := 3, code := prog_1_method_29_code, exceptionTable := #[], attributes := #[] }
def k2m25 : Method := { name := "parseOps", desc := "()V", sig := { parameters := [], returnType := none }, accessFlags := 2, code := some k2c25 }
def k2c26 : Code := { maxStack := 4, maxLocals := 4, code := prog_1_method_30_code, exceptionTable := #[], attributes := #[] }
def k2m26 : Method := { name := "addOp", desc := "(II)V", sig := { parameters := [.int, .int], returnType := none }, accessFlags := 2, code := some k2c26 }
def k2c27 : Code := { maxStack := 4, maxLocals := 5, code := prog_1_method_31_code, exceptionTable := #[], attributes := #[] }
def k2m27 : Method := { name := "closeOp", desc := "(II)V", sig := { parameters := [.int, .int], returnType := none }, accessFlags := 2, code := some k2c27 }
def k2c28 : Code := { maxStack := 5, maxLocals := 3, code := prog_1_method_32_code, exceptionTable := #[], attributes := #[] }
def k2m28 : Method := { name := "buildPreds", desc := "()V", sig := { parameters := [], returnType := none }, accessFlags := 2, code := some k2c28 }
def k2c29 : Code := { maxStack := 4, maxLocals := 5, code := prog_1_method_33_code, exceptionTable := #[], attributes := #[] }
def k2m29 : Method := { name := "search", desc := "()I", sig := { parameters := [], returnType := some .int }, accessFlags := 2, code := some k2c29 }
def k2c30 : Code := { maxStack := 3, maxLocals := 3, code := prog_1_method_34_code, exceptionTable := #[], attributes := #[] }
def k2m30 : Method := { name := "apply", desc := "(II)Z", sig := { parameters := [.int, .int], returnType := some .boolean }, accessFlags := 2, code := some k2c30 }
def k2c31 : Code := { maxStack := 4, maxLocals := 6, code := prog_1_method_35_code, exceptionTable := #[], attributes := #[] }
def k2m31 : Method := { name := "applyEnq", desc := "(II)Z", sig := { parameters := [.int, .int], returnType := some .boolean }, accessFlags := 2, code := some k2c31 }
def k2c32 : Code := { maxStack := 3, maxLocals := 6, code := prog_1_method_36_code, exceptionTable := #[], attributes := #[] }
def k2m32 : Method := { name := "applyDeq", desc := "(II)Z", sig := { parameters := [.int, .int], returnType := some .boolean }, accessFlags := 2, code := some k2c32 }
def k2c33 : Code := { maxStack := 5, maxLocals := 8, code := prog_1_method_37_code, exceptionTable := #[], attributes := #[] }
def k2m33 : Method := { name := "copyQueue", desc := "(II)V", sig := { parameters := [.int, .int], returnType := none }, accessFlags := 2, code := some k2c33 }
/-- SeqRingQueue -/
def k2 : Class := { plain "SeqRingQueue" (some 0) with
  accessFlags := 49
  interfaces := #[]
  cf := some (fileOf pool2 8 #[] #[{ accessFlags := 1, nameIndex := 5, descriptorIndex := 124, attributes := #[] }, { accessFlags := 2, nameIndex := 84, descriptorIndex := 85, attributes := #[] }, { accessFlags := 2, nameIndex := 115, descriptorIndex := 116, attributes := #[] }, { accessFlags := 2, nameIndex := 111, descriptorIndex := 112, attributes := #[] }, { accessFlags := 2, nameIndex := 119, descriptorIndex := 120, attributes := #[] }, { accessFlags := 2, nameIndex := 123, descriptorIndex := 124, attributes := #[] }, { accessFlags := 2, nameIndex := 140, descriptorIndex := 141, attributes := #[] }, { accessFlags := 1, nameIndex := 242, descriptorIndex := 131, attributes := #[] }, { accessFlags := 1, nameIndex := 243, descriptorIndex := 116, attributes := #[] }, { accessFlags := 1, nameIndex := 244, descriptorIndex := 141, attributes := #[] }, { accessFlags := 1, nameIndex := 245, descriptorIndex := 246, attributes := #[] }, { accessFlags := 2, nameIndex := 127, descriptorIndex := 116, attributes := #[] }, { accessFlags := 2, nameIndex := 130, descriptorIndex := 131, attributes := #[] }, { accessFlags := 2, nameIndex := 134, descriptorIndex := 131, attributes := #[] }, { accessFlags := 2, nameIndex := 137, descriptorIndex := 124, attributes := #[] }, { accessFlags := 1, nameIndex := 248, descriptorIndex := 141, attributes := #[] }, { accessFlags := 1, nameIndex := 249, descriptorIndex := 141, attributes := #[] }, { accessFlags := 1, nameIndex := 250, descriptorIndex := 141, attributes := #[] }, { accessFlags := 1, nameIndex := 144, descriptorIndex := 112, attributes := #[] }, { accessFlags := 1, nameIndex := 251, descriptorIndex := 141, attributes := #[] }, { accessFlags := 1, nameIndex := 256, descriptorIndex := 112, attributes := #[] }, { accessFlags := 1, nameIndex := 257, descriptorIndex := 141, attributes := #[] }, { accessFlags := 1, nameIndex := 258, descriptorIndex := 141, attributes := #[] }, { accessFlags := 1, nameIndex := 259, descriptorIndex := 112, attributes := #[] }, { accessFlags := 2, nameIndex := 147, descriptorIndex := 112, attributes := #[] }, { accessFlags := 2, nameIndex := 150, descriptorIndex := 6, attributes := #[] }, { accessFlags := 2, nameIndex := 162, descriptorIndex := 163, attributes := #[] }, { accessFlags := 2, nameIndex := 166, descriptorIndex := 163, attributes := #[] }, { accessFlags := 2, nameIndex := 153, descriptorIndex := 6, attributes := #[] }, { accessFlags := 2, nameIndex := 156, descriptorIndex := 112, attributes := #[] }, { accessFlags := 2, nameIndex := 173, descriptorIndex := 131, attributes := #[] }, { accessFlags := 2, nameIndex := 176, descriptorIndex := 131, attributes := #[] }, { accessFlags := 2, nameIndex := 179, descriptorIndex := 131, attributes := #[] }, { accessFlags := 2, nameIndex := 182, descriptorIndex := 163, attributes := #[] }] 49 2 #[] #[{ accessFlags := 25, nameIndex := 183, descriptorIndex := 89, attributes := #[] }, { accessFlags := 25, nameIndex := 186, descriptorIndex := 89, attributes := #[] }, { accessFlags := 25, nameIndex := 188, descriptorIndex := 89, attributes := #[] }, { accessFlags := 25, nameIndex := 190, descriptorIndex := 89, attributes := #[] }, { accessFlags := 25, nameIndex := 192, descriptorIndex := 89, attributes := #[] }, { accessFlags := 25, nameIndex := 193, descriptorIndex := 89, attributes := #[] }, { accessFlags := 25, nameIndex := 194, descriptorIndex := 89, attributes := #[] }, { accessFlags := 25, nameIndex := 195, descriptorIndex := 89, attributes := #[] }, { accessFlags := 25, nameIndex := 196, descriptorIndex := 89, attributes := #[] }, { accessFlags := 25, nameIndex := 197, descriptorIndex := 89, attributes := #[] }, { accessFlags := 25, nameIndex := 199, descriptorIndex := 89, attributes := #[] }, { accessFlags := 25, nameIndex := 200, descriptorIndex := 89, attributes := #[] }, { accessFlags := 25, nameIndex := 201, descriptorIndex := 89, attributes := #[] }, { accessFlags := 25, nameIndex := 203, descriptorIndex := 89, attributes := #[] }, { accessFlags := 25, nameIndex := 205, descriptorIndex := 89, attributes := #[] }, { accessFlags := 25, nameIndex := 207, descriptorIndex := 89, attributes := #[] }, { accessFlags := 25, nameIndex := 209, descriptorIndex := 89, attributes := #[] }, { accessFlags := 25, nameIndex := 211, descriptorIndex := 89, attributes := #[] }, { accessFlags := 25, nameIndex := 213, descriptorIndex := 89, attributes := #[] }, { accessFlags := 25, nameIndex := 215, descriptorIndex := 89, attributes := #[] }, { accessFlags := 25, nameIndex := 217, descriptorIndex := 89, attributes := #[] }, { accessFlags := 25, nameIndex := 219, descriptorIndex := 89, attributes := #[] }, { accessFlags := 25, nameIndex := 221, descriptorIndex := 89, attributes := #[] }, { accessFlags := 25, nameIndex := 223, descriptorIndex := 89, attributes := #[] }, { accessFlags := 25, nameIndex := 225, descriptorIndex := 89, attributes := #[] }, { accessFlags := 25, nameIndex := 226, descriptorIndex := 89, attributes := #[] }, { accessFlags := 25, nameIndex := 227, descriptorIndex := 89, attributes := #[] }, { accessFlags := 25, nameIndex := 228, descriptorIndex := 89, attributes := #[] }, { accessFlags := 25, nameIndex := 230, descriptorIndex := 89, attributes := #[] }, { accessFlags := 25, nameIndex := 232, descriptorIndex := 89, attributes := #[] }, { accessFlags := 25, nameIndex := 234, descriptorIndex := 89, attributes := #[] }, { accessFlags := 25, nameIndex := 236, descriptorIndex := 89, attributes := #[] }, { accessFlags := 25, nameIndex := 237, descriptorIndex := 89, attributes := #[] }, { accessFlags := 25, nameIndex := 238, descriptorIndex := 89, attributes := #[] }, { accessFlags := 2, nameIndex := 92, descriptorIndex := 89, attributes := #[] }, { accessFlags := 2, nameIndex := 95, descriptorIndex := 89, attributes := #[] }, { accessFlags := 2, nameIndex := 88, descriptorIndex := 89, attributes := #[] }, { accessFlags := 2, nameIndex := 99, descriptorIndex := 89, attributes := #[] }, { accessFlags := 2, nameIndex := 102, descriptorIndex := 89, attributes := #[] }, { accessFlags := 2, nameIndex := 11, descriptorIndex := 12, attributes := #[] }, { accessFlags := 2, nameIndex := 15, descriptorIndex := 12, attributes := #[] }, { accessFlags := 2, nameIndex := 18, descriptorIndex := 12, attributes := #[] }, { accessFlags := 2, nameIndex := 21, descriptorIndex := 12, attributes := #[] }, { accessFlags := 2, nameIndex := 24, descriptorIndex := 12, attributes := #[] }, { accessFlags := 2, nameIndex := 27, descriptorIndex := 12, attributes := #[] }, { accessFlags := 2, nameIndex := 30, descriptorIndex := 12, attributes := #[] }, { accessFlags := 2, nameIndex := 33, descriptorIndex := 12, attributes := #[] }, { accessFlags := 2, nameIndex := 36, descriptorIndex := 12, attributes := #[] }, { accessFlags := 2, nameIndex := 39, descriptorIndex := 12, attributes := #[] }, { accessFlags := 2, nameIndex := 42, descriptorIndex := 12, attributes := #[] }, { accessFlags := 2, nameIndex := 105, descriptorIndex := 89, attributes := #[] }, { accessFlags := 2, nameIndex := 45, descriptorIndex := 12, attributes := #[] }, { accessFlags := 2, nameIndex := 108, descriptorIndex := 89, attributes := #[] }, { accessFlags := 2, nameIndex := 48, descriptorIndex := 12, attributes := #[] }, { accessFlags := 2, nameIndex := 51, descriptorIndex := 12, attributes := #[] }, { accessFlags := 2, nameIndex := 54, descriptorIndex := 12, attributes := #[] }, { accessFlags := 2, nameIndex := 57, descriptorIndex := 12, attributes := #[] }, { accessFlags := 2, nameIndex := 60, descriptorIndex := 12, attributes := #[] }, { accessFlags := 2, nameIndex := 63, descriptorIndex := 12, attributes := #[] }, { accessFlags := 2, nameIndex := 66, descriptorIndex := 12, attributes := #[] }, { accessFlags := 2, nameIndex := 69, descriptorIndex := 12, attributes := #[] }, { accessFlags := 2, nameIndex := 72, descriptorIndex := 12, attributes := #[] }, { accessFlags := 2, nameIndex := 75, descriptorIndex := 12, attributes := #[] }, { accessFlags := 2, nameIndex := 78, descriptorIndex := 12, attributes := #[] }, { accessFlags := 2, nameIndex := 81, descriptorIndex := 12, attributes := #[] }, { accessFlags := 2, nameIndex := 159, descriptorIndex := 89, attributes := #[] }, { accessFlags := 2, nameIndex := 169, descriptorIndex := 89, attributes := #[] }])
  fields := #[{ name := "REFUSED", type := .int, accessFlags := 25, slot := 0, constantValue := 0 }, { name := "IDLE", type := .int, accessFlags := 25, slot := 1, constantValue := 0 }, { name := "RUNNING", type := .int, accessFlags := 25, slot := 2, constantValue := 0 }, { name := "FINISHED", type := .int, accessFlags := 25, slot := 3, constantValue := 0 }, { name := "ENQ", type := .int, accessFlags := 25, slot := 4, constantValue := 0 }, { name := "DEQ", type := .int, accessFlags := 25, slot := 5, constantValue := 0 }, { name := "NONE", type := .int, accessFlags := 25, slot := 6, constantValue := 0 }, { name := "OK", type := .int, accessFlags := 25, slot := 7, constantValue := 0 }, { name := "FULL", type := .int, accessFlags := 25, slot := 8, constantValue := 0 }, { name := "EMPTY", type := .int, accessFlags := 25, slot := 9, constantValue := 0 }, { name := "ST_IDLE", type := .int, accessFlags := 25, slot := 10, constantValue := 0 }, { name := "ST_LOGGED", type := .int, accessFlags := 25, slot := 11, constantValue := 0 }, { name := "E_LOAD_TAIL", type := .int, accessFlags := 25, slot := 12, constantValue := 0 }, { name := "E_LOAD_SEQ", type := .int, accessFlags := 25, slot := 13, constantValue := 0 }, { name := "E_CAS", type := .int, accessFlags := 25, slot := 14, constantValue := 0 }, { name := "E_LOAD_HEAD", type := .int, accessFlags := 25, slot := 15, constantValue := 0 }, { name := "E_STORE_VAL", type := .int, accessFlags := 25, slot := 16, constantValue := 0 }, { name := "E_PUBLISH", type := .int, accessFlags := 25, slot := 17, constantValue := 0 }, { name := "D_LOAD_HEAD", type := .int, accessFlags := 25, slot := 18, constantValue := 0 }, { name := "D_LOAD_SEQ", type := .int, accessFlags := 25, slot := 19, constantValue := 0 }, { name := "D_CAS", type := .int, accessFlags := 25, slot := 20, constantValue := 0 }, { name := "D_LOAD_TAIL", type := .int, accessFlags := 25, slot := 21, constantValue := 0 }, { name := "D_LOAD_VAL", type := .int, accessFlags := 25, slot := 22, constantValue := 0 }, { name := "D_RELEASE", type := .int, accessFlags := 25, slot := 23, constantValue := 0 }, { name := "EV_INV_ENQ", type := .int, accessFlags := 25, slot := 24, constantValue := 0 }, { name := "EV_INV_DEQ", type := .int, accessFlags := 25, slot := 25, constantValue := 0 }, { name := "EV_RES_OK", type := .int, accessFlags := 25, slot := 26, constantValue := 0 }, { name := "EV_RES_FULL", type := .int, accessFlags := 25, slot := 27, constantValue := 0 }, { name := "EV_RES_EMPTY", type := .int, accessFlags := 25, slot := 28, constantValue := 0 }, { name := "HISTORY_CAP", type := .int, accessFlags := 25, slot := 29, constantValue := 0 }, { name := "CHECK_LIMIT", type := .int, accessFlags := 25, slot := 30, constantValue := 0 }, { name := "YES", type := .int, accessFlags := 25, slot := 31, constantValue := 0 }, { name := "NO", type := .int, accessFlags := 25, slot := 32, constantValue := 0 }, { name := "TOO_LONG", type := .int, accessFlags := 25, slot := 33, constantValue := 0 }, { name := "cap", type := .int, accessFlags := 2, slot := 0, constantValue := 0 }, { name := "mask", type := .int, accessFlags := 2, slot := 1, constantValue := 0 }, { name := "nThreads", type := .int, accessFlags := 2, slot := 2, constantValue := 0 }, { name := "head", type := .int, accessFlags := 2, slot := 3, constantValue := 0 }, { name := "tail", type := .int, accessFlags := 2, slot := 4, constantValue := 0 }, { name := "seq", type := (.array .int), accessFlags := 2, slot := 5, constantValue := 0 }, { name := "val", type := (.array .int), accessFlags := 2, slot := 6, constantValue := 0 }, { name := "st", type := (.array .int), accessFlags := 2, slot := 7, constantValue := 0 }, { name := "locP", type := (.array .int), accessFlags := 2, slot := 8, constantValue := 0 }, { name := "locV", type := (.array .int), accessFlags := 2, slot := 9, constantValue := 0 }, { name := "lastSt", type := (.array .int), accessFlags := 2, slot := 10, constantValue := 0 }, { name := "lastVal", type := (.array .int), accessFlags := 2, slot := 11, constantValue := 0 }, { name := "logKind", type := (.array .int), accessFlags := 2, slot := 12, constantValue := 0 }, { name := "evKind", type := (.array .int), accessFlags := 2, slot := 13, constantValue := 0 }, { name := "evThread", type := (.array .int), accessFlags := 2, slot := 14, constantValue := 0 }, { name := "evVal", type := (.array .int), accessFlags := 2, slot := 15, constantValue := 0 }, { name := "histLen", type := .int, accessFlags := 2, slot := 16, constantValue := 0 }, { name := "snap", type := (.array .int), accessFlags := 2, slot := 17, constantValue := 0 }, { name := "snapLen", type := .int, accessFlags := 2, slot := 18, constantValue := 0 }, { name := "opKind", type := (.array .int), accessFlags := 2, slot := 19, constantValue := 0 }, { name := "opArg", type := (.array .int), accessFlags := 2, slot := 20, constantValue := 0 }, { name := "opInv", type := (.array .int), accessFlags := 2, slot := 21, constantValue := 0 }, { name := "opRes", type := (.array .int), accessFlags := 2, slot := 22, constantValue := 0 }, { name := "opStatus", type := (.array .int), accessFlags := 2, slot := 23, constantValue := 0 }, { name := "opRVal", type := (.array .int), accessFlags := 2, slot := 24, constantValue := 0 }, { name := "predMask", type := (.array .int), accessFlags := 2, slot := 25, constantValue := 0 }, { name := "openOp", type := (.array .int), accessFlags := 2, slot := 26, constantValue := 0 }, { name := "qBuf", type := (.array .int), accessFlags := 2, slot := 27, constantValue := 0 }, { name := "qLen", type := (.array .int), accessFlags := 2, slot := 28, constantValue := 0 }, { name := "nextCand", type := (.array .int), accessFlags := 2, slot := 29, constantValue := 0 }, { name := "chosen", type := (.array .int), accessFlags := 2, slot := 30, constantValue := 0 }, { name := "opCount", type := .int, accessFlags := 2, slot := 31, constantValue := 0 }, { name := "completeMask", type := .int, accessFlags := 2, slot := 32, constantValue := 0 }]
  methods := #[k2m0, k2m1, k2m2, k2m3, k2m4, k2m5, k2m6, k2m7, k2m8, k2m9, k2m10, k2m11, k2m12, k2m13, k2m14, k2m15, k2m16, k2m17, k2m18, k2m19, k2m20, k2m21, k2m22, k2m23, k2m24, k2m25, k2m26, k2m27, k2m28, k2m29, k2m30, k2m31, k2m32, k2m33]
  instanceTypes := #[.int, .int, .int, .int, .int, (.array .int), (.array .int), (.array .int), (.array .int), (.array .int), (.array .int), (.array .int), (.array .int), (.array .int), (.array .int), (.array .int), .int, (.array .int), .int, (.array .int), (.array .int), (.array .int), (.array .int), (.array .int), (.array .int), (.array .int), (.array .int), (.array .int), (.array .int), (.array .int), (.array .int), .int, .int]
  staticTypes := #[.int, .int, .int, .int, .int, .int, .int, .int, .int, .int, .int, .int, .int, .int, .int, .int, .int, .int, .int, .int, .int, .int, .int, .int, .int, .int, .int, .int, .int, .int, .int, .int, .int, .int]
  resolved := Array.replicate 262 none
  statics := none }

def pool3 : Array CpInfo := pool [(1, u "java/lang/Cloneable"), (0, .class_ 1), (0, u "java/lang/Object"), (0, .class_ 3)] 3

/-- java/lang/Cloneable -/
def k3 : Class := { plain "java/lang/Cloneable" (some 0) with
  accessFlags := 1537
  interfaces := #[]
  cf := some (fileOf pool3 2 #[] #[] 1537 4 #[] #[])
  fields := #[]
  methods := #[]
  instanceTypes := #[]
  staticTypes := #[]
  resolved := Array.replicate 8 none
  statics := none }

def pool4 : Array CpInfo := pool [(1, u "java/io/Serializable"), (0, .class_ 1), (0, u "java/lang/Object"), (0, .class_ 3)] 3

/-- java/io/Serializable -/
def k4 : Class := { plain "java/io/Serializable" (some 0) with
  accessFlags := 1537
  interfaces := #[]
  cf := some (fileOf pool4 2 #[] #[] 1537 4 #[] #[])
  fields := #[]
  methods := #[]
  instanceTypes := #[]
  staticTypes := #[]
  resolved := Array.replicate 8 none
  statics := none }

/-- the primitive byte -/
def k5 : Class := { plain "byte" none with kind := .primitive 'B', accessFlags := 0x411 }
/-- [B -/
def k6 : Class := { plain "[B" (some 0) with kind := .array 5 .byte, interfaces := #[3, 4], accessFlags := 1041 }

/-- the primitive int -/
def k7 : Class := { plain "int" none with kind := .primitive 'I', accessFlags := 0x411 }
/-- [I -/
def k8 : Class := { plain "[I" (some 0) with kind := .array 7 .int, interfaces := #[3, 4], accessFlags := 1041 }

def heap : Heap := #[]
def classes : Array Class := #[k0, k1, k2, k3, k4, k5, k6, k7, k8]
def interned : List (Array UInt16 × Addr) := []
def slotsUsed : Nat := 0
def theMethod : MethodId := ⟨1, 1⟩
def args0 : Array Value := #[.int 1, .int 1, .int 1, .int 1]
def aboutOver (below : List Frame) : State where
  vm := { classes := classes, interned := interned.toArray }
  heap := heap
  slotsUsed := slotsUsed
  threads := #[{ frames := .invoking theMethod args0 :: below }]
def below0 : List Frame := [.native { method := ⟨0, 0⟩, args := #[] }]
def about1 : State := aboutOver below0
def p0 : Program := .bare "" "" ""
def e0 : Env := launch0.env 0 0 0
theorem w_frames : about1.frames = Frame.invoking theMethod args0 :: below0 := rfl
set_option maxRecDepth 65536 in
theorem w_args : argsFit about1.vm theMethod args0 = true := by decide +kernel
set_option maxRecDepth 65536 in
theorem w_heap : heapFits about1 = true := by decide +kernel
set_option maxRecDepth 65536 in
theorem w_runnable : about1.curStatus? = some .runnable := by decide +kernel
set_option maxRecDepth 65536 in
theorem w_alone : about1.alone = true := by decide +kernel
set_option maxRecDepth 65536 in
theorem w_named : about1.methodNamed? x = some theMethod := by decide +kernel
set_option maxRecDepth 65536 in
theorem w_hears : about1.hears theMethod below0 = true := by decide +kernel
set_option maxRecDepth 65536 in
theorem w_ripe : about1.ripe theMethod args0 below0 = true := by decide +kernel
theorem w_running : about1.status = .running := rfl
set_option maxRecDepth 65536 in
theorem w_room : about1.hasRoom e0.platform room_1 = true :=
  launch0.hasRoom_least _ room_1 (by decide +kernel) (by decide +kernel) (by decide +kernel) (by decide +kernel) (by decide +kernel) (by decide +kernel)
theorem allAtoms_all (ts : List Jvm.Cond) (a : Array Jvm.Value) (st : Jvm.State) : (allAtoms ts).before a st = ts.all (fun c => c.before a st) := by
  induction ts with
  | nil => rfl
  | cons c t ih =>
    show (Jvm.Cond.and c (allAtoms t)).before a st = _
    rw [Jvm.Cond.before_and, ih, List.all_cons]
def words1 : List Jvm.Cond := Jvm.Cond.code x code maxLocals ret :: tables_1
/-- a 'code' word, met by the world's own term for the bytes: nothing is compared byte by byte -/
theorem code_word {y : MethodName} {bytes : ByteArray} {mx : Nat} {rt : Option FieldType} {a : Array Value} {s : State} {m : MethodId} {meth : Method} {c : Code} (h1 : s.methodNamed? y = some m) (h2 : s.vm.method? m = some meth) (h3 : meth.code = some c) (h4 : c.code = bytes)
    (h5 : (c.maxLocals == mx && c.exceptionTable.isEmpty && decide (c.maxStack ≤ mostOperands) && decide (meth.sig.returnType = rt) && !meth.locks && decide (parseMethodDescriptor y.desc = some meth.sig)) = true) : (Jvm.Cond.code y bytes mx rt).before a s = true := by
  simp only [Bool.and_eq_true, beq_iff_eq, Bool.not_eq_true', decide_eq_true_eq] at h5
  obtain ⟨⟨⟨⟨⟨g1, g2⟩, g3⟩, g4⟩, g5⟩, g6⟩ := h5
  simp [Cond.before, Cond.holds, Cond.value, h1, h2, h3, h4, g1, g2, g3, g4, g5, g6]
def isCode : Jvm.Cond → Bool
  | .code _ _ _ _ => true
  | _ => false
theorem all_split {L : List Jvm.Cond} {P : Jvm.Cond → Bool} (h1 : L.all (fun c => isCode c || P c) = true) (h2 : ∀ c ∈ L.filter isCode, P c = true) : L.all P = true := by
  refine List.all_eq_true.mpr fun c hc => ?_
  have h := List.all_eq_true.mp h1 c hc
  rcases Bool.eq_false_or_eq_true (isCode c) with hi | hi
  · exact h2 c (List.mem_filter.mpr ⟨hc, hi⟩)
  · simpa [hi] using h
set_option maxRecDepth 65536 in
theorem w_c0 : (Jvm.Cond.code x code maxLocals ret).before args0 about1 = true := code_word (m := ⟨1, 1⟩) (meth := k1m1) (c := k1c1) (by decide +kernel) rfl rfl rfl (by decide +kernel)
set_option maxRecDepth 65536 in
theorem w_c1 : (Jvm.Cond.code ({ cls := "SeqRingQueue", name := "<init>", desc := "(III)V" } : Jvm.MethodName) prog_1_method_1_code (8 : Nat) (Option.none : Option Jvm.ClassFile.FieldType)).before args0 about1 = true := code_word (m := ⟨2, 0⟩) (meth := k2m0) (c := k2c0) (by decide +kernel) rfl rfl rfl (by decide +kernel)
set_option maxRecDepth 65536 in
theorem w_c2 : (Jvm.Cond.code ({ cls := "java/lang/Object", name := "<init>", desc := "()V" } : Jvm.MethodName) object_method_1_code (1 : Nat) (Option.none : Option Jvm.ClassFile.FieldType)).before args0 about1 = true := code_word (m := ⟨0, 0⟩) (meth := k0m0) (c := k0c0) (by decide +kernel) rfl rfl rfl (by decide +kernel)
set_option maxRecDepth 65536 in
theorem w_c3 : (Jvm.Cond.code ({ cls := "SeqRingQueue", name := "clamp", desc := "(III)I" } : Jvm.MethodName) prog_1_method_2_code (4 : Nat) (Option.some Jvm.ClassFile.FieldType.int)).before args0 about1 = true := code_word (m := ⟨2, 1⟩) (meth := k2m1) (c := k2c1) (by decide +kernel) rfl rfl rfl (by decide +kernel)
set_option maxRecDepth 65536 in
theorem w_c4 : (Jvm.Cond.code ({ cls := "SeqRingQueue", name := "startEnqueue", desc := "(II)Z" } : Jvm.MethodName) prog_1_method_8_code (3 : Nat) (Option.some Jvm.ClassFile.FieldType.boolean)).before args0 about1 = true := code_word (m := ⟨2, 7⟩) (meth := k2m7) (c := k2c7) (by decide +kernel) rfl rfl rfl (by decide +kernel)
set_option maxRecDepth 65536 in
theorem w_c5 : (Jvm.Cond.code ({ cls := "SeqRingQueue", name := "valid", desc := "(I)Z" } : Jvm.MethodName) prog_1_method_3_code (2 : Nat) (Option.some Jvm.ClassFile.FieldType.boolean)).before args0 about1 = true := code_word (m := ⟨2, 2⟩) (meth := k2m2) (c := k2c2) (by decide +kernel) rfl rfl rfl (by decide +kernel)
set_option maxRecDepth 65536 in
theorem w_c6 : (Jvm.Cond.code ({ cls := "SeqRingQueue", name := "hasRoom", desc := "()Z" } : Jvm.MethodName) prog_1_method_5_code (2 : Nat) (Option.some Jvm.ClassFile.FieldType.boolean)).before args0 about1 = true := code_word (m := ⟨2, 4⟩) (meth := k2m4) (c := k2c4) (by decide +kernel) rfl rfl rfl (by decide +kernel)
set_option maxRecDepth 65536 in
theorem w_c7 : (Jvm.Cond.code ({ cls := "SeqRingQueue", name := "pending", desc := "()I" } : Jvm.MethodName) prog_1_method_4_code (3 : Nat) (Option.some Jvm.ClassFile.FieldType.int)).before args0 about1 = true := code_word (m := ⟨2, 3⟩) (meth := k2m3) (c := k2c3) (by decide +kernel) rfl rfl rfl (by decide +kernel)
set_option maxRecDepth 65536 in
theorem w_c8 : (Jvm.Cond.code ({ cls := "SeqRingQueue", name := "append", desc := "(III)V" } : Jvm.MethodName) prog_1_method_6_code (4 : Nat) (Option.none : Option Jvm.ClassFile.FieldType)).before args0 about1 = true := code_word (m := ⟨2, 5⟩) (meth := k2m5) (c := k2c5) (by decide +kernel) rfl rfl rfl (by decide +kernel)
set_option maxRecDepth 65536 in
theorem w_c9 : (Jvm.Cond.code ({ cls := "SeqRingQueue", name := "step", desc := "(I)I" } : Jvm.MethodName) prog_1_method_10_code (2 : Nat) (Option.some Jvm.ClassFile.FieldType.int)).before args0 about1 = true := code_word (m := ⟨2, 9⟩) (meth := k2m9) (c := k2c9) (by decide +kernel) rfl rfl rfl (by decide +kernel)
set_option maxRecDepth 65536 in
theorem w_c10 : (Jvm.Cond.code ({ cls := "SeqRingQueue", name := "doStep", desc := "(I)Z" } : Jvm.MethodName) prog_1_method_12_code (3 : Nat) (Option.some Jvm.ClassFile.FieldType.boolean)).before args0 about1 = true := code_word (m := ⟨2, 11⟩) (meth := k2m11) (c := k2c11) (by decide +kernel) rfl rfl rfl (by decide +kernel)
set_option maxRecDepth 65536 in
theorem w_c11 : (Jvm.Cond.code ({ cls := "SeqRingQueue", name := "enqStep", desc := "(II)Z" } : Jvm.MethodName) prog_1_method_13_code (6 : Nat) (Option.some Jvm.ClassFile.FieldType.boolean)).before args0 about1 = true := code_word (m := ⟨2, 12⟩) (meth := k2m12) (c := k2c12) (by decide +kernel) rfl rfl rfl (by decide +kernel)
set_option maxRecDepth 65536 in
theorem w_c12 : (Jvm.Cond.code ({ cls := "SeqRingQueue", name := "state", desc := "(I)I" } : Jvm.MethodName) prog_1_method_16_code (2 : Nat) (Option.some Jvm.ClassFile.FieldType.int)).before args0 about1 = true := code_word (m := ⟨2, 15⟩) (meth := k2m15) (c := k2c15) (by decide +kernel) rfl rfl rfl (by decide +kernel)
set_option maxRecDepth 65536 in
theorem w_c13 : (Jvm.Cond.code ({ cls := "SeqRingQueue", name := "startDequeue", desc := "(I)Z" } : Jvm.MethodName) prog_1_method_9_code (2 : Nat) (Option.some Jvm.ClassFile.FieldType.boolean)).before args0 about1 = true := code_word (m := ⟨2, 8⟩) (meth := k2m8) (c := k2c8) (by decide +kernel) rfl rfl rfl (by decide +kernel)
set_option maxRecDepth 65536 in
theorem w_c14 : (Jvm.Cond.code ({ cls := "SeqRingQueue", name := "deqStep", desc := "(II)Z" } : Jvm.MethodName) prog_1_method_14_code (6 : Nat) (Option.some Jvm.ClassFile.FieldType.boolean)).before args0 about1 = true := code_word (m := ⟨2, 13⟩) (meth := k2m13) (c := k2c13) (by decide +kernel) rfl rfl rfl (by decide +kernel)
set_option maxRecDepth 65536 in
theorem w_c15 : (Jvm.Cond.code ({ cls := "SeqRingQueue", name := "contentCount", desc := "()I" } : Jvm.MethodName) prog_1_method_19_code (2 : Nat) (Option.some Jvm.ClassFile.FieldType.int)).before args0 about1 = true := code_word (m := ⟨2, 18⟩) (meth := k2m18) (c := k2c18) (by decide +kernel) rfl rfl rfl (by decide +kernel)
set_option maxRecDepth 65536 in
theorem w_c16 : (Jvm.Cond.code ({ cls := "SeqRingQueue", name := "run", desc := "(II)I" } : Jvm.MethodName) prog_1_method_11_code (5 : Nat) (Option.some Jvm.ClassFile.FieldType.int)).before args0 about1 = true := code_word (m := ⟨2, 10⟩) (meth := k2m10) (c := k2c10) (by decide +kernel) rfl rfl rfl (by decide +kernel)
set_option maxRecDepth 65536 in
theorem w_c17 : (Jvm.Cond.code ({ cls := "SeqRingQueue", name := "finish", desc := "(III)V" } : Jvm.MethodName) prog_1_method_15_code (5 : Nat) (Option.none : Option Jvm.ClassFile.FieldType)).before args0 about1 = true := code_word (m := ⟨2, 14⟩) (meth := k2m14) (c := k2c14) (by decide +kernel) rfl rfl rfl (by decide +kernel)
set_option maxRecDepth 65536 in
theorem w_c18 : (Jvm.Cond.code ({ cls := "SeqRingQueue", name := "resKind", desc := "(I)I" } : Jvm.MethodName) prog_1_method_7_code (2 : Nat) (Option.some Jvm.ClassFile.FieldType.int)).before args0 about1 = true := code_word (m := ⟨2, 6⟩) (meth := k2m6) (c := k2c6) (by decide +kernel) rfl rfl rfl (by decide +kernel)
set_option maxRecDepth 65536 in
theorem w_c19 : (Jvm.Cond.code ({ cls := "SeqRingQueue", name := "lastStatus", desc := "(I)I" } : Jvm.MethodName) prog_1_method_17_code (2 : Nat) (Option.some Jvm.ClassFile.FieldType.int)).before args0 about1 = true := code_word (m := ⟨2, 16⟩) (meth := k2m16) (c := k2c16) (by decide +kernel) rfl rfl rfl (by decide +kernel)
set_option maxRecDepth 65536 in
theorem w_c20 : (Jvm.Cond.code ({ cls := "SeqRingQueue", name := "lastValue", desc := "(I)I" } : Jvm.MethodName) prog_1_method_18_code (2 : Nat) (Option.some Jvm.ClassFile.FieldType.int)).before args0 about1 = true := code_word (m := ⟨2, 17⟩) (meth := k2m17) (c := k2c17) (by decide +kernel) rfl rfl rfl (by decide +kernel)
set_option maxRecDepth 65536 in
theorem w_c21 : (Jvm.Cond.code ({ cls := "SeqRingQueue", name := "contentAt", desc := "(I)I" } : Jvm.MethodName) prog_1_method_20_code (3 : Nat) (Option.some Jvm.ClassFile.FieldType.int)).before args0 about1 = true := code_word (m := ⟨2, 19⟩) (meth := k2m19) (c := k2c19) (by decide +kernel) rfl rfl rfl (by decide +kernel)
set_option maxRecDepth 65536 in
theorem w_c22 : (Jvm.Cond.code ({ cls := "SeqRingQueue", name := "historyLength", desc := "()I" } : Jvm.MethodName) prog_1_method_24_code (1 : Nat) (Option.some Jvm.ClassFile.FieldType.int)).before args0 about1 = true := code_word (m := ⟨2, 20⟩) (meth := k2m20) (c := k2c20) (by decide +kernel) rfl rfl rfl (by decide +kernel)
set_option maxRecDepth 65536 in
theorem w_c23 : (Jvm.Cond.code ({ cls := "SeqRingQueue", name := "historyEvent", desc := "(I)I" } : Jvm.MethodName) prog_1_method_25_code (2 : Nat) (Option.some Jvm.ClassFile.FieldType.int)).before args0 about1 = true := code_word (m := ⟨2, 21⟩) (meth := k2m21) (c := k2c21) (by decide +kernel) rfl rfl rfl (by decide +kernel)
set_option maxRecDepth 65536 in
theorem w_c24 : (Jvm.Cond.code ({ cls := "SeqRingQueue", name := "historyValue", desc := "(I)I" } : Jvm.MethodName) prog_1_method_26_code (2 : Nat) (Option.some Jvm.ClassFile.FieldType.int)).before args0 about1 = true := code_word (m := ⟨2, 22⟩) (meth := k2m22) (c := k2c22) (by decide +kernel) rfl rfl rfl (by decide +kernel)
set_option maxRecDepth 65536 in
theorem w_c25 : (Jvm.Cond.code ({ cls := "SeqRingQueue", name := "check", desc := "()I" } : Jvm.MethodName) prog_1_method_27_code (2 : Nat) (Option.some Jvm.ClassFile.FieldType.int)).before args0 about1 = true := code_word (m := ⟨2, 23⟩) (meth := k2m23) (c := k2c23) (by decide +kernel) rfl rfl rfl (by decide +kernel)
set_option maxRecDepth 65536 in
theorem w_c26 : (Jvm.Cond.code ({ cls := "SeqRingQueue", name := "countInvocations", desc := "()I" } : Jvm.MethodName) prog_1_method_28_code (3 : Nat) (Option.some Jvm.ClassFile.FieldType.int)).before args0 about1 = true := code_word (m := ⟨2, 24⟩) (meth := k2m24) (c := k2c24) (by decide +kernel) rfl rfl rfl (by decide +kernel)
set_option maxRecDepth 65536 in
theorem w_c27 : (Jvm.Cond.code ({ cls := "SeqRingQueue", name := "parseOps", desc := "()V" } : Jvm.MethodName) prog_1_method_29_code (3 : Nat) (Option.none : Option Jvm.ClassFile.FieldType)).before args0 about1 = true := code_word (m := ⟨2, 25⟩) (meth := k2m25) (c := k2c25) (by decide +kernel) rfl rfl rfl (by decide +kernel)
set_option maxRecDepth 65536 in
theorem w_c28 : (Jvm.Cond.code ({ cls := "SeqRingQueue", name := "addOp", desc := "(II)V" } : Jvm.MethodName) prog_1_method_30_code (4 : Nat) (Option.none : Option Jvm.ClassFile.FieldType)).before args0 about1 = true := code_word (m := ⟨2, 26⟩) (meth := k2m26) (c := k2c26) (by decide +kernel) rfl rfl rfl (by decide +kernel)
set_option maxRecDepth 65536 in
theorem w_c29 : (Jvm.Cond.code ({ cls := "SeqRingQueue", name := "closeOp", desc := "(II)V" } : Jvm.MethodName) prog_1_method_31_code (5 : Nat) (Option.none : Option Jvm.ClassFile.FieldType)).before args0 about1 = true := code_word (m := ⟨2, 27⟩) (meth := k2m27) (c := k2c27) (by decide +kernel) rfl rfl rfl (by decide +kernel)
set_option maxRecDepth 65536 in
theorem w_c30 : (Jvm.Cond.code ({ cls := "SeqRingQueue", name := "buildPreds", desc := "()V" } : Jvm.MethodName) prog_1_method_32_code (3 : Nat) (Option.none : Option Jvm.ClassFile.FieldType)).before args0 about1 = true := code_word (m := ⟨2, 28⟩) (meth := k2m28) (c := k2c28) (by decide +kernel) rfl rfl rfl (by decide +kernel)
set_option maxRecDepth 65536 in
theorem w_c31 : (Jvm.Cond.code ({ cls := "SeqRingQueue", name := "search", desc := "()I" } : Jvm.MethodName) prog_1_method_33_code (5 : Nat) (Option.some Jvm.ClassFile.FieldType.int)).before args0 about1 = true := code_word (m := ⟨2, 29⟩) (meth := k2m29) (c := k2c29) (by decide +kernel) rfl rfl rfl (by decide +kernel)
set_option maxRecDepth 65536 in
theorem w_c32 : (Jvm.Cond.code ({ cls := "SeqRingQueue", name := "apply", desc := "(II)Z" } : Jvm.MethodName) prog_1_method_34_code (3 : Nat) (Option.some Jvm.ClassFile.FieldType.boolean)).before args0 about1 = true := code_word (m := ⟨2, 30⟩) (meth := k2m30) (c := k2c30) (by decide +kernel) rfl rfl rfl (by decide +kernel)
set_option maxRecDepth 65536 in
theorem w_c33 : (Jvm.Cond.code ({ cls := "SeqRingQueue", name := "applyEnq", desc := "(II)Z" } : Jvm.MethodName) prog_1_method_35_code (6 : Nat) (Option.some Jvm.ClassFile.FieldType.boolean)).before args0 about1 = true := code_word (m := ⟨2, 31⟩) (meth := k2m31) (c := k2c31) (by decide +kernel) rfl rfl rfl (by decide +kernel)
set_option maxRecDepth 65536 in
theorem w_c34 : (Jvm.Cond.code ({ cls := "SeqRingQueue", name := "copyQueue", desc := "(II)V" } : Jvm.MethodName) prog_1_method_37_code (8 : Nat) (Option.none : Option Jvm.ClassFile.FieldType)).before args0 about1 = true := code_word (m := ⟨2, 33⟩) (meth := k2m33) (c := k2c33) (by decide +kernel) rfl rfl rfl (by decide +kernel)
set_option maxRecDepth 65536 in
theorem w_c35 : (Jvm.Cond.code ({ cls := "SeqRingQueue", name := "applyDeq", desc := "(II)Z" } : Jvm.MethodName) prog_1_method_36_code (6 : Nat) (Option.some Jvm.ClassFile.FieldType.boolean)).before args0 about1 = true := code_word (m := ⟨2, 32⟩) (meth := k2m32) (c := k2c32) (by decide +kernel) rfl rfl rfl (by decide +kernel)
def codes1 : List Jvm.Cond := [Jvm.Cond.code x code maxLocals ret, Jvm.Cond.code ({ cls := "SeqRingQueue", name := "<init>", desc := "(III)V" } : Jvm.MethodName) prog_1_method_1_code (8 : Nat) (Option.none : Option Jvm.ClassFile.FieldType), Jvm.Cond.code ({ cls := "java/lang/Object", name := "<init>", desc := "()V" } : Jvm.MethodName) object_method_1_code (1 : Nat) (Option.none : Option Jvm.ClassFile.FieldType), Jvm.Cond.code ({ cls := "SeqRingQueue", name := "clamp", desc := "(III)I" } : Jvm.MethodName) prog_1_method_2_code (4 : Nat) (Option.some Jvm.ClassFile.FieldType.int), Jvm.Cond.code ({ cls := "SeqRingQueue", name := "startEnqueue", desc := "(II)Z" } : Jvm.MethodName) prog_1_method_8_code (3 : Nat) (Option.some Jvm.ClassFile.FieldType.boolean), Jvm.Cond.code ({ cls := "SeqRingQueue", name := "valid", desc := "(I)Z" } : Jvm.MethodName) prog_1_method_3_code (2 : Nat) (Option.some Jvm.ClassFile.FieldType.boolean), Jvm.Cond.code ({ cls := "SeqRingQueue", name := "hasRoom", desc := "()Z" } : Jvm.MethodName) prog_1_method_5_code (2 : Nat) (Option.some Jvm.ClassFile.FieldType.boolean), Jvm.Cond.code ({ cls := "SeqRingQueue", name := "pending", desc := "()I" } : Jvm.MethodName) prog_1_method_4_code (3 : Nat) (Option.some Jvm.ClassFile.FieldType.int), Jvm.Cond.code ({ cls := "SeqRingQueue", name := "append", desc := "(III)V" } : Jvm.MethodName) prog_1_method_6_code (4 : Nat) (Option.none : Option Jvm.ClassFile.FieldType), Jvm.Cond.code ({ cls := "SeqRingQueue", name := "step", desc := "(I)I" } : Jvm.MethodName) prog_1_method_10_code (2 : Nat) (Option.some Jvm.ClassFile.FieldType.int), Jvm.Cond.code ({ cls := "SeqRingQueue", name := "doStep", desc := "(I)Z" } : Jvm.MethodName) prog_1_method_12_code (3 : Nat) (Option.some Jvm.ClassFile.FieldType.boolean), Jvm.Cond.code ({ cls := "SeqRingQueue", name := "enqStep", desc := "(II)Z" } : Jvm.MethodName) prog_1_method_13_code (6 : Nat) (Option.some Jvm.ClassFile.FieldType.boolean), Jvm.Cond.code ({ cls := "SeqRingQueue", name := "state", desc := "(I)I" } : Jvm.MethodName) prog_1_method_16_code (2 : Nat) (Option.some Jvm.ClassFile.FieldType.int), Jvm.Cond.code ({ cls := "SeqRingQueue", name := "startDequeue", desc := "(I)Z" } : Jvm.MethodName) prog_1_method_9_code (2 : Nat) (Option.some Jvm.ClassFile.FieldType.boolean), Jvm.Cond.code ({ cls := "SeqRingQueue", name := "deqStep", desc := "(II)Z" } : Jvm.MethodName) prog_1_method_14_code (6 : Nat) (Option.some Jvm.ClassFile.FieldType.boolean), Jvm.Cond.code ({ cls := "SeqRingQueue", name := "contentCount", desc := "()I" } : Jvm.MethodName) prog_1_method_19_code (2 : Nat) (Option.some Jvm.ClassFile.FieldType.int), Jvm.Cond.code ({ cls := "SeqRingQueue", name := "run", desc := "(II)I" } : Jvm.MethodName) prog_1_method_11_code (5 : Nat) (Option.some Jvm.ClassFile.FieldType.int), Jvm.Cond.code ({ cls := "SeqRingQueue", name := "finish", desc := "(III)V" } : Jvm.MethodName) prog_1_method_15_code (5 : Nat) (Option.none : Option Jvm.ClassFile.FieldType), Jvm.Cond.code ({ cls := "SeqRingQueue", name := "resKind", desc := "(I)I" } : Jvm.MethodName) prog_1_method_7_code (2 : Nat) (Option.some Jvm.ClassFile.FieldType.int), Jvm.Cond.code ({ cls := "SeqRingQueue", name := "lastStatus", desc := "(I)I" } : Jvm.MethodName) prog_1_method_17_code (2 : Nat) (Option.some Jvm.ClassFile.FieldType.int), Jvm.Cond.code ({ cls := "SeqRingQueue", name := "lastValue", desc := "(I)I" } : Jvm.MethodName) prog_1_method_18_code (2 : Nat) (Option.some Jvm.ClassFile.FieldType.int), Jvm.Cond.code ({ cls := "SeqRingQueue", name := "contentAt", desc := "(I)I" } : Jvm.MethodName) prog_1_method_20_code (3 : Nat) (Option.some Jvm.ClassFile.FieldType.int), Jvm.Cond.code ({ cls := "SeqRingQueue", name := "historyLength", desc := "()I" } : Jvm.MethodName) prog_1_method_24_code (1 : Nat) (Option.some Jvm.ClassFile.FieldType.int), Jvm.Cond.code ({ cls := "SeqRingQueue", name := "historyEvent", desc := "(I)I" } : Jvm.MethodName) prog_1_method_25_code (2 : Nat) (Option.some Jvm.ClassFile.FieldType.int), Jvm.Cond.code ({ cls := "SeqRingQueue", name := "historyValue", desc := "(I)I" } : Jvm.MethodName) prog_1_method_26_code (2 : Nat) (Option.some Jvm.ClassFile.FieldType.int), Jvm.Cond.code ({ cls := "SeqRingQueue", name := "check", desc := "()I" } : Jvm.MethodName) prog_1_method_27_code (2 : Nat) (Option.some Jvm.ClassFile.FieldType.int), Jvm.Cond.code ({ cls := "SeqRingQueue", name := "countInvocations", desc := "()I" } : Jvm.MethodName) prog_1_method_28_code (3 : Nat) (Option.some Jvm.ClassFile.FieldType.int), Jvm.Cond.code ({ cls := "SeqRingQueue", name := "parseOps", desc := "()V" } : Jvm.MethodName) prog_1_method_29_code (3 : Nat) (Option.none : Option Jvm.ClassFile.FieldType), Jvm.Cond.code ({ cls := "SeqRingQueue", name := "addOp", desc := "(II)V" } : Jvm.MethodName) prog_1_method_30_code (4 : Nat) (Option.none : Option Jvm.ClassFile.FieldType), Jvm.Cond.code ({ cls := "SeqRingQueue", name := "closeOp", desc := "(II)V" } : Jvm.MethodName) prog_1_method_31_code (5 : Nat) (Option.none : Option Jvm.ClassFile.FieldType), Jvm.Cond.code ({ cls := "SeqRingQueue", name := "buildPreds", desc := "()V" } : Jvm.MethodName) prog_1_method_32_code (3 : Nat) (Option.none : Option Jvm.ClassFile.FieldType), Jvm.Cond.code ({ cls := "SeqRingQueue", name := "search", desc := "()I" } : Jvm.MethodName) prog_1_method_33_code (5 : Nat) (Option.some Jvm.ClassFile.FieldType.int), Jvm.Cond.code ({ cls := "SeqRingQueue", name := "apply", desc := "(II)Z" } : Jvm.MethodName) prog_1_method_34_code (3 : Nat) (Option.some Jvm.ClassFile.FieldType.boolean), Jvm.Cond.code ({ cls := "SeqRingQueue", name := "applyEnq", desc := "(II)Z" } : Jvm.MethodName) prog_1_method_35_code (6 : Nat) (Option.some Jvm.ClassFile.FieldType.boolean), Jvm.Cond.code ({ cls := "SeqRingQueue", name := "copyQueue", desc := "(II)V" } : Jvm.MethodName) prog_1_method_37_code (8 : Nat) (Option.none : Option Jvm.ClassFile.FieldType), Jvm.Cond.code ({ cls := "SeqRingQueue", name := "applyDeq", desc := "(II)Z" } : Jvm.MethodName) prog_1_method_36_code (6 : Nat) (Option.some Jvm.ClassFile.FieldType.boolean)]
set_option maxRecDepth 65536 in
theorem codes_eq : words1.filter isCode = codes1 := rfl
theorem w_codes : ∀ c ∈ words1.filter isCode, c.before args0 about1 = true := by
  rw [codes_eq]
  intro c hc
  simp only [codes1, List.mem_cons, List.not_mem_nil, or_false] at hc
  rcases hc with rfl | rfl | rfl | rfl | rfl | rfl | rfl | rfl | rfl | rfl | rfl | rfl | rfl | rfl | rfl | rfl | rfl | rfl | rfl | rfl | rfl | rfl | rfl | rfl | rfl | rfl | rfl | rfl | rfl | rfl | rfl | rfl | rfl | rfl | rfl | rfl
  · exact w_c0
  · exact w_c1
  · exact w_c2
  · exact w_c3
  · exact w_c4
  · exact w_c5
  · exact w_c6
  · exact w_c7
  · exact w_c8
  · exact w_c9
  · exact w_c10
  · exact w_c11
  · exact w_c12
  · exact w_c13
  · exact w_c14
  · exact w_c15
  · exact w_c16
  · exact w_c17
  · exact w_c18
  · exact w_c19
  · exact w_c20
  · exact w_c21
  · exact w_c22
  · exact w_c23
  · exact w_c24
  · exact w_c25
  · exact w_c26
  · exact w_c27
  · exact w_c28
  · exact w_c29
  · exact w_c30
  · exact w_c31
  · exact w_c32
  · exact w_c33
  · exact w_c34
  · exact w_c35
set_option maxRecDepth 65536 in
theorem w_t1 : (words1.take 24).all (fun c => isCode c || c.before args0 about1) = true := by decide +kernel
set_option maxRecDepth 65536 in
theorem w_t2 : ((words1.drop 24).take 24).all (fun c => isCode c || c.before args0 about1) = true := by decide +kernel
set_option maxRecDepth 65536 in
theorem w_t3 : (((words1.drop 24).drop 24).take 24).all (fun c => isCode c || c.before args0 about1) = true := by decide +kernel
set_option maxRecDepth 65536 in
theorem w_t4 : ((((words1.drop 24).drop 24).drop 24).take 24).all (fun c => isCode c || c.before args0 about1) = true := by decide +kernel
set_option maxRecDepth 65536 in
theorem w_t5 : (((((words1.drop 24).drop 24).drop 24).drop 24).take 24).all (fun c => isCode c || c.before args0 about1) = true := by decide +kernel
set_option maxRecDepth 65536 in
theorem w_t6 : ((((((words1.drop 24).drop 24).drop 24).drop 24).drop 24).take 24).all (fun c => isCode c || c.before args0 about1) = true := by decide +kernel
set_option maxRecDepth 65536 in
theorem w_t7 : (((((((words1.drop 24).drop 24).drop 24).drop 24).drop 24).drop 24).take 24).all (fun c => isCode c || c.before args0 about1) = true := by decide +kernel
set_option maxRecDepth 65536 in
theorem w_t8 : ((((((((words1.drop 24).drop 24).drop 24).drop 24).drop 24).drop 24).drop 24).take 24).all (fun c => isCode c || c.before args0 about1) = true := by decide +kernel
set_option maxRecDepth 65536 in
theorem w_t9 : (((((((((words1.drop 24).drop 24).drop 24).drop 24).drop 24).drop 24).drop 24).drop 24).take 24).all (fun c => isCode c || c.before args0 about1) = true := by decide +kernel
set_option maxRecDepth 65536 in
theorem w_t10 : (((((((((words1.drop 24).drop 24).drop 24).drop 24).drop 24).drop 24).drop 24).drop 24).drop 24).all (fun c => isCode c || c.before args0 about1) = true := by decide +kernel
theorem w_tables : (allAtoms (Jvm.Cond.code x code maxLocals ret :: tables_1)).before args0 about1 = true := by
  rw [allAtoms_all]
  show words1.all (fun c => c.before args0 about1) = true
  refine all_split ?_ w_codes
  rw [← List.take_append_drop 24 words1, List.all_append, w_t1, ← List.take_append_drop 24 (words1.drop 24), List.all_append, w_t2, ← List.take_append_drop 24 ((words1.drop 24).drop 24), List.all_append, w_t3, ← List.take_append_drop 24 (((words1.drop 24).drop 24).drop 24), List.all_append, w_t4, ← List.take_append_drop 24 ((((words1.drop 24).drop 24).drop 24).drop 24), List.all_append, w_t5, ← List.take_append_drop 24 (((((words1.drop 24).drop 24).drop 24).drop 24).drop 24), List.all_append, w_t6, ← List.take_append_drop 24 ((((((words1.drop 24).drop 24).drop 24).drop 24).drop 24).drop 24), List.all_append, w_t7, ← List.take_append_drop 24 (((((((words1.drop 24).drop 24).drop 24).drop 24).drop 24).drop 24).drop 24), List.all_append, w_t8, ← List.take_append_drop 24 ((((((((words1.drop 24).drop 24).drop 24).drop 24).drop 24).drop 24).drop 24).drop 24), List.all_append, w_t9, w_t10]
  rfl
set_option maxRecDepth 65536 in
theorem w_case : (Jvm.Cond.and given_1 narrow_1).before args0 about1 = true := by decide +kernel
theorem w_applies : (headSpec (Jvm.Cond.code x code maxLocals ret :: tables_1) room_1).applies x e0.platform about1 = true :=
  (Spec.applies_iff w_frames).mpr ⟨w_running, w_runnable, w_alone, w_named, w_hears, w_ripe, w_room, w_tables⟩
theorem atStart : AtStart classFile x code maxLocals ret World_1 tables_1 room_1 Calls_1 rest_1 Pre_1 launch0 p0 e0 about1 theMethod args0 below0 :=
  ⟨lists_1, trivial, launch0.admits_env _ _ _, launch0.least_env, fairChoices_fair.cas, fairChoices_fair.clock, w_frames, w_args, w_heap, w_applies, trivial, trivial, w_case⟩
end start1
theorem witness_1 : WitnessClaimed_1 := ⟨start1.p0, start1.e0, start1.about1, start1.theMethod, start1.args0, start1.below0, start1.atStart⟩
end Jvm.Pilot.@@N@@
