import JvmDerived
import JvmDerived.Pilot.@@N@@Statement
import JvmDerived.Pilot.@@N@@Code
set_option linter.unusedVariables false
set_option linter.unusedSimpArgs false
/-! # A small executor over an abstract heap, and that it is sound for the model (Stand's family). Same text in every claim. -/
namespace Jvm.OwnX
open Sem ClassFile Op Lib Jvm.Stand Jvm.Free Jvm.LawKit Jvm.RoadKit
/-- a cell: an object's fields; an array of ints (0: handed in; 1), booleans (2), bytes (3); an array of longs -/
abbrev ACell := Sum (List Value) (Sum (Nat × List Int32) (List Int64))
abbrev AHeap := List ACell
abbrev ALoc := List (Option Value)
/-- a method: class, maxLocals, how many it pops, what it returns, is it a constructor, frames, locals -/
abbrev MI := Nat × Nat × Nat × Option FieldType × Bool × Nat × Nat
/-- code | methods | method links (kind, callee) | field links | constants | fields (name, descriptor, kind, final) | slots of an object | read-only cells | cells at most | slots at most -/
def Prog : Type := (Nat → Nat → Option (Instr × Nat)) × (Nat → MI) × (Nat → Nat → Option (Nat × Nat)) × (Nat → Nat → Option Nat) × (Nat → Nat → Option Value) × List (String × String × Nat × Bool) × Nat × Nat × Nat × Nat
def Prog.code (P : Prog) : Nat → Nat → Option (Instr × Nat) := P.1
def Prog.mi (P : Prog) : Nat → MI := P.2.1
def Prog.link (P : Prog) : Nat → Nat → Option (Nat × Nat) := P.2.2.1
def Prog.fld (P : Prog) : Nat → Nat → Option Nat := P.2.2.2.1
def Prog.kon (P : Prog) : Nat → Nat → Option Value := P.2.2.2.2.1
def Prog.fields (P : Prog) : List (String × String × Nat × Bool) := P.2.2.2.2.2.1
def Prog.objN (P : Prog) : Nat := P.2.2.2.2.2.2.1
def Prog.ro (P : Prog) : Nat := P.2.2.2.2.2.2.2.1
def Prog.capC (P : Prog) : Nat := P.2.2.2.2.2.2.2.2.1
def Prog.capS (P : Prog) : Nat := P.2.2.2.2.2.2.2.2.2
def Prog.cls (P : Prog) (k : Nat) : Nat := (P.mi k).1
def Prog.maxL (P : Prog) (k : Nat) : Nat := (P.mi k).2.1
def Prog.pops (P : Prog) (k : Nat) : Nat := (P.mi k).2.2.1
def Prog.ret (P : Prog) (k : Nat) : Option FieldType := (P.mi k).2.2.2.1
def Prog.ini (P : Prog) (k : Nat) : Bool := (P.mi k).2.2.2.2.1
def Prog.rf (P : Prog) (k : Nat) : Nat := (P.mi k).2.2.2.2.2.1
def Prog.rl (P : Prog) (k : Nat) : Nat := (P.mi k).2.2.2.2.2.2
def dflt : Nat → Value
  | 0 => .int 0
  | 1 => .int 0
  | 2 => .long 0
  | _ => .null
def Prog.fresh (P : Prog) : List Value := P.fields.map fun f => dflt f.2.2.1
/-- is j a place of an array of n -/
def inb (n : Nat) (j : Int32) : Bool := !(decide (j < 0)) && Nat.ble (j.toNatClampNeg + 1) n
def rd (xs : List Int32) (j : Int32) : Int32 := xs.getD j.toNatClampNeg 0
def wr (xs : List Int32) (j v : Int32) : List Int32 := xs.set j.toNatClampNeg v
def rdL (xs : List Int64) (j : Int32) : Int64 := xs.getD j.toNatClampNeg 0
def wrL (xs : List Int64) (j : Int32) (v : Int64) : List Int64 := xs.set j.toNatClampNeg v
def kill1 (L : ALoc) (i : Nat) : ALoc :=
  match i with
  | 0 => L
  | i + 1 => match L[i]? with
    | some (some (.long _)) => L.set i none
    | _ => L
def lput (L : ALoc) (i : Nat) (v : Value) : Option ALoc := bif Nat.ble (i + 1) L.length then some ((kill1 L i).set i (some v)) else none
def lputL (L : ALoc) (i : Nat) (v : Int64) : Option ALoc := bif Nat.ble (i + 2) L.length then some (((kill1 L i).set i (some (.long v))).set (i + 1) none) else none
def entL : List Value → ALoc
  | [] => []
  | .long v :: r => some (.long v) :: none :: entL r
  | v :: r => some v :: entL r
def pad (n : Nat) (L : ALoc) : ALoc := L ++ List.replicate (n - L.length) none
def entry (P : Prog) (k : Nat) (as : List Value) : ALoc := pad (P.maxL k) (entL as)
def cat (v : Value) : Nat := match v with | .long _ => 2 | _ => 1
def cats : List Value → Nat
  | [] => 0
  | v :: r => cat v + cats r
def okV : Value → Bool
  | .int _ => true | .long _ => true | .ref _ => true | .null => true | _ => false
def csz : Nat → ACell → Nat
  | n, .inl _ => n
  | _, .inr (.inl (0, _)) => 0
  | _, .inr (.inl (_, x)) => x.length
  | _, .inr (.inr x) => x.length
def hsz (P : Prog) : AHeap → Nat
  | [] => 0
  | c :: r => csz P.objN c + hsz P r
/-- how long an instruction is (0: as decode says) -/
def ilen : Instr → Nat
  | .iload _ => 2 | .lload _ => 2 | .aload _ => 2 | .istore _ => 2 | .lstore _ => 2 | .astore _ => 2 | .bipush _ => 2 | .ldc _ => 2 | .newarray _ => 2
  | .iinc _ _ => 3 | .sipush _ => 3 | .goto _ => 3 | .ifCond _ _ => 3 | .if_icmp _ _ => 3 | .getfield _ => 3 | .putfield _ => 3 | .new _ => 3 | .invokespecial _ => 3 | .invokestatic _ => 3 | .invokevirtual _ => 3 | .ldc2_w _ => 3
  | .tableswitch _ _ _ _ => 0
  | _ => 1
def tgt (pc : Nat) (o : Int) : Option Nat := match (pc : Int) + o with | .ofNat n => some n | .negSucc _ => none
def ish (x y : Int32) : Int32 := x <<< (y &&& 31)
def isr (x y : Int32) : Int32 := x >>> (y &&& 31)
def ush (x y : Int32) : Int32 := (x.toUInt32 >>> (y &&& 31).toUInt32).toInt32
def lsh (x : Int64) (y : Int32) : Int64 := x <<< (y &&& 0x3f).toInt64
def lus (x : Int64) (y : Int32) : Int64 := (x.toUInt64 >>> (y &&& 0x3f).toInt64.toUInt64).toInt64
def lcm (x y : Int64) : Int32 := if x > y then 1 else if x = y then 0 else -1
def i8 (x : Int32) : Int32 := x.toInt8.toInt32
def aop : Instr → Option (Int32 → Int32 → Int32)
  | .iadd => some fun x y => x + y
  | .isub => some fun x y => x - y
  | .imul => some fun x y => x * y
  | .iand => some fun x y => x &&& y
  | .ior => some fun x y => x ||| y
  | .ixor => some fun x y => x ^^^ y
  | .ishl => some fun x y => x <<< (y &&& 31)
  | .ishr => some fun x y => x >>> (y &&& 31)
  | .iushr => some fun x y => (x.toUInt32 >>> (y &&& 31).toUInt32).toInt32
  | _ => none
def lop : Instr → Option (Int64 → Int64 → Int64)
  | .ladd => some fun x y => x + y
  | .lsub => some fun x y => x - y
  | .lmul => some fun x y => x * y
  | .land => some fun x y => x &&& y
  | .lor => some fun x y => x ||| y
  | .lxor => some fun x y => x ^^^ y
  | _ => none
def loadI (L : ALoc) (n : Nat) : Option Int32 := match L[n]? with | some (some (.int x)) => some x | _ => none
def loadJ (L : ALoc) (n : Nat) : Option Int64 := match L[n]? with | some (some (.long x)) => some x | _ => none
def loadA (L : ALoc) (n : Nat) : Option Nat := match L[n]? with | some (some (.ref a)) => some a | _ => none
def getC (H : AHeap) (a j : Nat) : Option Value := match H[a]? with | some (.inl fs) => fs[j]? | _ => none
def conv (t : Nat) (v : Value) : Option Value :=
  match t, v with
  | 0, .int x => some (.int x)
  | 1, .int x => some (.int (x &&& 1))
  | 2, .long x => some (.long x)
  | 3, .ref a => some (.ref a)
  | _, _ => none
/-- a step within one frame -/
abbrev St := Nat × ALoc × List Value × AHeap
def atyOf : ArrayType → Option Nat
  | .int => some 1 | .boolean => some 2 | .byte => some 3 | .long => some 4 | _ => none
def newC (t n : Nat) : ACell := match t with | 4 => .inr (.inr (List.replicate n 0)) | t => .inr (.inl (t, List.replicate n 0))
def isObjInit (P : Prog) (k j : Nat) : Bool := match P.link (P.cls k) j with | some (4, _) => true | _ => false
/-- what is stored into an array of that kind -/
def narA (t : Nat) (x : Int32) : Int32 := match t with | 2 => x &&& 1 | 3 => x.toInt8.toInt32 | _ => x
def step (P : Prog) (k : Nat) (i : Instr) (np pc : Nat) (L : ALoc) (S : List Value) (H : AHeap) : Option St :=
  match i with
  | .iload_n n => match loadI L n.val with | some x => some (np, L, .int x :: S, H) | none => none
  | .iload n => match loadI L n with | some x => some (np, L, .int x :: S, H) | none => none
  | .lload_n n => match loadJ L n.val with | some x => some (np, L, .long x :: S, H) | none => none
  | .lload n => match loadJ L n with | some x => some (np, L, .long x :: S, H) | none => none
  | .aload_n n => match loadA L n.val with | some x => some (np, L, .ref x :: S, H) | none => none
  | .aload n => match loadA L n with | some x => some (np, L, .ref x :: S, H) | none => none
  | .istore_n n => match S with | .int x :: r => (match lput L n.val (.int x) with | some L' => some (np, L', r, H) | none => none) | _ => none
  | .istore n => match S with | .int x :: r => (match lput L n (.int x) with | some L' => some (np, L', r, H) | none => none) | _ => none
  | .astore_n n => match S with | .ref x :: r => (match lput L n.val (.ref x) with | some L' => some (np, L', r, H) | none => none) | _ => none
  | .astore n => match S with | .ref x :: r => (match lput L n (.ref x) with | some L' => some (np, L', r, H) | none => none) | _ => none
  | .lstore_n n => match S with | .long x :: r => (match lputL L n.val x with | some L' => some (np, L', r, H) | none => none) | _ => none
  | .lstore n => match S with | .long x :: r => (match lputL L n x with | some L' => some (np, L', r, H) | none => none) | _ => none
  | .iinc n c => match loadI L n with | some x => (match lput L n (.int (x + Int32.ofInt c)) with | some L' => some (np, L', S, H) | none => none) | none => none
  | .iconst c => some (np, L, .int (Int32.ofInt c) :: S, H)
  | .bipush c => some (np, L, .int (Int8.ofInt c).toInt32 :: S, H)
  | .sipush c => some (np, L, .int (Int16.ofInt c).toInt32 :: S, H)
  | .lconst c => some (np, L, .long (Int64.ofNat c) :: S, H)
  | .ldc j => match P.kon (P.cls k) j with | some (.int x) => some (np, L, .int x :: S, H) | _ => none
  | .ldc2_w j => match P.kon (P.cls k) j with | some (.long x) => some (np, L, .long x :: S, H) | _ => none
  | .idiv => match S with | .int y :: .int x :: r => (bif decide (y = 0) then none else some (np, L, .int (x / y) :: r, H)) | _ => none
  | .irem => match S with | .int y :: .int x :: r => (bif decide (y = 0) then none else some (np, L, .int (x % y) :: r, H)) | _ => none
  | .lshl => match S with | .int y :: .long x :: r => some (np, L, .long (x <<< (y &&& 0x3f).toInt64) :: r, H) | _ => none
  | .lushr => match S with | .int y :: .long x :: r => some (np, L, .long ((x.toUInt64 >>> (y &&& 0x3f).toInt64.toUInt64).toInt64) :: r, H) | _ => none
  | .lcmp => match S with | .long y :: .long x :: r => some (np, L, .int (if x > y then 1 else if x = y then 0 else -1) :: r, H) | _ => none
  | .lneg => match S with | .long x :: r => some (np, L, .long (-x) :: r, H) | _ => none
  | .i2l => match S with | .int x :: r => some (np, L, .long x.toInt64 :: r, H) | _ => none
  | .l2i => match S with | .long x :: r => some (np, L, .int x.toInt32 :: r, H) | _ => none
  | .i2b => match S with | .int x :: r => some (np, L, .int x.toInt8.toInt32 :: r, H) | _ => none
  | .dup => match S with | .ref x :: r => some (np, L, .ref x :: .ref x :: r, H) | .int x :: r => some (np, L, .int x :: .int x :: r, H) | _ => none
  | .dup2 => match S with | .int x :: .ref y :: r => some (np, L, .int x :: .ref y :: .int x :: .ref y :: r, H) | _ => none
  | .pop => match S with | .int _ :: r => some (np, L, r, H) | .ref _ :: r => some (np, L, r, H) | _ => none
  | .goto o => match tgt pc o with | some t => some (t, L, S, H) | none => none
  | .ifCond cd o => match S with
    | .int x :: r => (bif if_icmp.holds cd x 0 then (match tgt pc o with | some t => some (t, L, r, H) | none => none) else some (np, L, r, H))
    | _ => none
  | .if_icmp cd o => match S with
    | .int y :: .int x :: r => (bif if_icmp.holds cd x y then (match tgt pc o with | some t => some (t, L, r, H) | none => none) else some (np, L, r, H))
    | _ => none
  | .tableswitch d lo hi offs => match S with
    | .int x :: r => (bif decide (x.toInt < lo) || decide (x.toInt > hi) then (match tgt pc d with | some t => some (t, L, r, H) | none => none)
        else (match offs.toList[(x.toInt - lo).toNat]? with | some o => (match tgt pc o with | some t => some (t, L, r, H) | none => none) | none => none))
    | _ => none
  | .getfield j => match S with
    | .ref a :: r => (match P.fld (P.cls k) j with | some f => (match getC H a f with | some v => some (np, L, v :: r, H) | none => none) | none => none)
    | _ => none
  | .putfield j => match S with
    | v :: .ref a :: r => (match P.fld (P.cls k) j with
      | some f => (match P.fields[f]? with
        | some (_, _, t, fin) => (bif (!fin || P.ini k) && Nat.ble P.ro a then (match conv t v with
          | some v' => (match H[a]? with
            | some (.inl fs) => (bif Nat.ble (f + 1) fs.length then some (np, L, r, H.set a (.inl (fs.set f v'))) else none)
            | _ => none)
          | none => none) else none)
        | none => none)
      | none => none)
    | _ => none
  | .iaload => match S with
    | .int j :: .ref a :: r => (match H[a]? with
      | some (.inr (.inl (1, xs))) => (bif inb xs.length j then some (np, L, .int (rd xs j) :: r, H) else none)
      | some (.inr (.inl (0, xs))) => (bif inb xs.length j then some (np, L, .int (rd xs j) :: r, H) else none)
      | _ => none)
    | _ => none
  | .baload => match S with
    | .int j :: .ref a :: r => (match H[a]? with
      | some (.inr (.inl (2, xs))) => (bif inb xs.length j then some (np, L, .int (rd xs j) :: r, H) else none)
      | some (.inr (.inl (3, xs))) => (bif inb xs.length j then some (np, L, .int (rd xs j) :: r, H) else none)
      | _ => none)
    | _ => none
  | .laload => match S with
    | .int j :: .ref a :: r => (match H[a]? with | some (.inr (.inr xs)) => (bif inb xs.length j then some (np, L, .long (rdL xs j) :: r, H) else none) | _ => none)
    | _ => none
  | .iastore => match S with
    | .int x :: .int j :: .ref a :: r => (bif Nat.ble P.ro a then (match H[a]? with | some (.inr (.inl (1, xs))) => (bif inb xs.length j then some (np, L, r, H.set a (.inr (.inl (1, wr xs j x)))) else none) | _ => none) else none)
    | _ => none
  | .bastore => match S with
    | .int x :: .int j :: .ref a :: r => (bif Nat.ble P.ro a then (match H[a]? with
      | some (.inr (.inl (2, xs))) => (bif inb xs.length j then some (np, L, r, H.set a (.inr (.inl (2, wr xs j (x &&& 1))))) else none)
      | some (.inr (.inl (3, xs))) => (bif inb xs.length j then some (np, L, r, H.set a (.inr (.inl (3, wr xs j x.toInt8.toInt32)))) else none)
      | _ => none) else none)
    | _ => none
  | .lastore => match S with
    | .long x :: .int j :: .ref a :: r => (bif Nat.ble P.ro a then (match H[a]? with | some (.inr (.inr xs)) => (bif inb xs.length j then some (np, L, r, H.set a (.inr (.inr (wrL xs j x)))) else none) | _ => none) else none)
    | _ => none
  | .arraylength => match S with
    | .ref a :: r => (match H[a]? with
      | some (.inr (.inl (_, xs))) => some (np, L, .int xs.length.toInt32 :: r, H)
      | some (.inr (.inr xs)) => some (np, L, .int xs.length.toInt32 :: r, H)
      | _ => none)
    | _ => none
  | .newarray t => match S with
    | .int n :: r => (match atyOf t with | some q => (bif !(decide (n < 0)) && Nat.ble n.toNatClampNeg 60000 && Nat.ble (H.length + 1) P.capC && Nat.ble (hsz P H + n.toNatClampNeg) P.capS then some (np, L, .ref H.length :: r, H ++ [newC q n.toNatClampNeg]) else none) | none => none)
    | _ => none
  | .new j => match P.link (P.cls k) j with | some (5, _) => (bif Nat.ble (H.length + 1) P.capC && Nat.ble (hsz P H + P.objN) P.capS then some (np, L, .ref H.length :: S, H ++ [.inl P.fresh]) else none) | _ => none
  | .invokespecial j => match S with
    | .ref _ :: r => (bif isObjInit P k j && Nat.ble 1 (P.rf k) && Nat.ble (cats r + 12) (P.rl k) then some (np, L, r, H) else none)
    | _ => none
  | i => match S with
    | .int y :: .int x :: r => (match aop i with | some f => some (np, L, .int (f x y) :: r, H) | none => none)
    | .long y :: .long x :: r => (match lop i with | some f => some (np, L, .long (f x y) :: r, H) | none => none)
    | _ => none
/-- what a return hands back -/
def retV (P : Prog) (k : Nat) (i : Instr) (S : List Value) : Option (Option Value) :=
  match i with
  | .return_ => match S, P.ret k with | [], none => some none | _, _ => none
  | .ireturn => match S with
    | .int x :: _ => (match P.ret k with | some .int => some (some (.int x)) | some .boolean => some (some (.int (x &&& 1))) | _ => none)
    | _ => none
  | .lreturn => match S with | .long x :: _ => (match P.ret k with | some .long => some (some (.long x)) | _ => none) | _ => none
  | _ => none
def kindOk : Instr → Nat → Bool
  | .invokestatic _, 0 => true
  | .invokespecial _, 1 => true
  | .invokevirtual _, 2 => true
  | .invokevirtual _, 3 => true
  | _, _ => false
def poolOf : Instr → Option Nat
  | .invokestatic j => some j
  | .invokespecial j => some j
  | .invokevirtual j => some j
  | _ => none
/-- the receiver is there -/
def recvOk (P : Prog) (H : AHeap) (q : Nat) (as : List Value) : Bool :=
  match q with
  | 0 => true
  | _ => match as with
    | .ref a :: _ => (match H[a]? with | some (.inl _) => true | _ => false)
    | _ => false
def callV (P : Prog) (k : Nat) (i : Instr) (S : List Value) (H : AHeap) : Option (Nat × List Value × List Value) :=
  match poolOf i with
  | none => none
  | some j => match P.link (P.cls k) j with
    | none => none
    | some (q, k') =>
      bif kindOk i q && Nat.ble (P.pops k') S.length && Nat.ble (P.rf k' + 1) (P.rf k) && Nat.ble (cats (S.drop (P.pops k')) + (P.maxL k' + 11) + P.rl k') (P.rl k) && recvOk P H q (S.take (P.pops k')).reverse && Nat.ble (entL (S.take (P.pops k')).reverse).length (P.maxL k') then
        some (k', (S.take (P.pops k')).reverse, S.drop (P.pops k'))
      else none
def run (P : Prog) : Nat → Nat → Nat → ALoc → List Value → AHeap → Option (Option Value × AHeap)
  | 0, _, _, _, _, _ => none
  | n + 1, k, pc, L, S, H =>
    match P.code k pc with
    | none => none
    | some (i, np) =>
      match retV P k i S with
      | some v => some (v, H)
      | none =>
        match callV P k i S H with
        | some (k', as, rest) =>
          (match run P n k' 0 (entry P k' as) [] H with
          | some (v, H1) => run P n k np L (v.toList ++ rest) H1
          | none => none)
        | none =>
          (match step P k i np pc L S H with
          | some (pc', L', S', H') => run P n k pc' L' S' H'
          | none => none)
def Eval (P : Prog) (k pc : Nat) (L : ALoc) (S : List Value) (H : AHeap) (out : Option Value × AHeap) : Prop := ∃ n, run P n k pc L S H = some out
end Jvm.OwnX
namespace Jvm.OwnX
open Sem ClassFile Op Lib Jvm.Stand Jvm.Free Jvm.LawKit Jvm.RoadKit
/-! ## values, stacks, local variables -/
def VR (am : List Addr) (v w : Value) : Prop := match v with
  | .ref i => ∃ a, am[i]? = some a ∧ w = .ref a
  | .int x => w = .int x
  | .long x => w = .long x
  | .null => w = .null
  | _ => False
def SR (am : List Addr) : List Value → List Value → Prop
  | [], ws => ws = []
  | v :: vs, ws => ∃ w ws', ws = w :: ws' ∧ VR am v w ∧ SR am vs ws'
def Pre (am am' : List Addr) : Prop := ∀ (i : Nat) (a : Addr), am[i]? = some a → am'[i]? = some a
theorem Pre.refl (am : List Addr) : Pre am am := fun _ _ h => h
theorem Pre.trans {a b c : List Addr} (h : Pre a b) (h' : Pre b c) : Pre a c := fun i x q => h' i x (h i x q)
theorem Pre.app (am : List Addr) (x : Addr) : Pre am (am ++ [x]) := fun i a h => by
  rw [List.getElem?_append_left (List.getElem?_eq_some_iff.mp h).1]; exact h
theorem VR.mono {am am' : List Addr} (h : Pre am am') {v w : Value} (r : VR am v w) : VR am' v w := by
  cases v <;> simp only [VR] at r ⊢ <;> try exact r
  obtain ⟨a, h1, h2⟩ := r; exact ⟨a, h _ _ h1, h2⟩
theorem SR.mono {am am' : List Addr} (h : Pre am am') : ∀ {S ws : List Value}, SR am S ws → SR am' S ws
  | [], _, r => r
  | _ :: _, _, ⟨w, ws', e, r1, r2⟩ => ⟨w, ws', e, r1.mono h, SR.mono h r2⟩
theorem VR.cat {am : List Addr} {v w : Value} (r : VR am v w) : w.category = OwnX.cat v := by
  cases v <;> simp only [VR] at r
  · subst r; rfl
  · subst r; rfl
  · subst r; rfl
  · obtain ⟨a, -, rfl⟩ := r; rfl
theorem SR.cats {am : List Addr} : ∀ {S ws : List Value}, SR am S ws → (ws.map fun v => v.category).sum = OwnX.cats S
  | [], _, r => by cases r; rfl
  | v :: vs, _, ⟨w, ws', e, r1, r2⟩ => by subst e; simp [OwnX.cats, r1.cat, SR.cats r2]
theorem SR.app {am : List Addr} : ∀ {S ws : List Value} (A B : List Value), SR am S ws → S = A ++ B → ∃ x y, ws = x ++ y ∧ SR am A x ∧ SR am B y
  | S, ws, [], B, r, e => ⟨[], ws, rfl, rfl, by rw [show B = S from by simpa using e.symm]; exact r⟩
  | S, ws, v :: A, B, r, e => by
    subst e
    obtain ⟨w, ws', rfl, r1, r2⟩ := r
    obtain ⟨x, y, rfl, h1, h2⟩ := SR.app A B r2 rfl
    exact ⟨w :: x, y, rfl, ⟨w, x, rfl, r1, h1⟩, h2⟩
theorem SR.join {am : List Addr} : ∀ {A x B y : List Value}, SR am A x → SR am B y → SR am (A ++ B) (x ++ y)
  | [], _, _, _, h, h' => by cases h; exact h'
  | _ :: _, _, _, _, ⟨w, ws', e, r1, r2⟩, h' => by subst e; exact ⟨w, _, rfl, r1, SR.join r2 h'⟩
theorem SR.rev {am : List Addr} : ∀ {A x : List Value}, SR am A x → SR am A.reverse x.reverse
  | [], _, h => by cases h; rfl
  | _ :: _, _, ⟨w, ws', e, r1, r2⟩ => by
    subst e
    rw [List.reverse_cons, List.reverse_cons]
    exact SR.join (SR.rev r2) ⟨w, [], rfl, r1, rfl⟩
theorem SR.len {am : List Addr} : ∀ {A x : List Value}, SR am A x → x.length = A.length
  | [], _, h => by cases h; rfl
  | _ :: _, _, ⟨w, ws', e, r1, r2⟩ => by subst e; simp [SR.len r2]
def WFL (l : Array Slot) : Prop := (∀ (i : Nat) w, l[i]? = some (.val w) → w.category = 2 → l[i + 1]? = some .second) ∧ (∀ (i : Nat), l[i]? = some .second → ∃ (j : Nat) (w : Value), i = j + 1 ∧ l[j]? = some (.val w) ∧ w.category = 2)
/-- the places of the variables behind a store of one word -/
def After1 (l l' : Array Slot) (i : Nat) (v : Value) : Prop := ∀ j : Nat, l'[j]? = if j = i then some (.val v) else if j + 1 = i ∧ l[i]? = some .second then some .unset else if j = i + 1 ∧ l[j]? = some .second then some .unset else l[j]?
theorem sib (l : Array Slot) (i j : Nat) (x : Slot) (hi : i < l.size) : (l.setIfInBounds i x)[j]? = if j = i then some x else l[j]? := by
  by_cases h : j = i
  · subst h; simp [hi]
  · simp [Array.getElem?_setIfInBounds_ne (Ne.symm h), h]
theorem store1w {l : Array Slot} {i : Nat} {v : Value} (hw : WFL l) (hi : i < l.size) (hv : v.category = 1) : ∃ l', storeLocals l i v = some l' ∧ l'.size = l.size ∧ After1 l l' i v := by
  have hv2 : ¬ v.category = 2 := by omega
  have hg : l[i]? = some l[i] := Array.getElem?_eq_getElem hi
  cases hq : l[i] with
  | unset =>
    rw [hq] at hg
    refine ⟨l.setIfInBounds i (.val v), by simp [storeLocals, storeSelf, setAt, hg, hq, hi, hv2], by simp, fun j => ?_⟩
    rw [sib _ _ _ _ hi, hg]
    by_cases h : j = i
    · simp [h]
    · simp only [h, if_false, reduceCtorEq, and_false, Option.some.injEq]
      by_cases h2 : j = i + 1 ∧ l[j]? = some .second
      · obtain ⟨j', w, e1, e2, e3⟩ := hw.2 _ h2.2
        have : j' = i := by omega
        subst this; rw [hg] at e2; cases e2
      · simp [h2]
  | second =>
    rw [hq] at hg
    obtain ⟨j0, w, e1, e2, e3⟩ := hw.2 _ hg
    subst e1
    have hj0 : j0 < l.size := by omega
    refine ⟨(l.setIfInBounds j0 .unset).setIfInBounds (j0 + 1) (.val v), by simp [storeLocals, storeSelf, setAt, hg, hq, hi, hv2, hj0], by simp, fun j => ?_⟩
    rw [sib _ _ _ _ (by simpa using hi), sib _ _ _ _ hj0, hg]
    by_cases h : j = j0 + 1
    · simp [h]
    · by_cases h3 : j = j0
      · subst h3; simp
      · have h4 : ¬ (j + 1 = j0 + 1) := by omega
        by_cases h2 : j = j0 + 1 + 1 ∧ l[j]? = some .second
        · obtain ⟨j', w', f1, f2, f3⟩ := hw.2 _ h2.2
          have : j' = j0 + 1 := by omega
          subst this; rw [hg] at f2; cases f2
        · simp [h, h3, h2]
  | val old =>
    rw [hq] at hg
    by_cases hc : old.category = 2
    · have h1 := hw.1 _ _ hg hc
      have h1' := (Array.getElem?_eq_some_iff.mp h1).1
      refine ⟨(l.setIfInBounds (i + 1) .unset).setIfInBounds i (.val v), by simp [storeLocals, storeSelf, setAt, hg, hq, hi, hv2, hc, h1'], by simp, fun j => ?_⟩
      rw [sib _ _ _ _ (by simpa using hi), sib _ _ _ _ h1', hg]
      by_cases h : j = i
      · simp [h]
      · by_cases h3 : j = i + 1
        · subst h3; simp [h1]
        · simp [h, h3]
    · refine ⟨l.setIfInBounds i (.val v), by simp [storeLocals, storeSelf, setAt, hg, hq, hi, hv2, hc], by simp, fun j => ?_⟩
      rw [sib _ _ _ _ hi, hg]
      by_cases h : j = i
      · simp [h]
      · simp only [h, if_false, reduceCtorEq, and_false, Option.some.injEq]
        by_cases h2 : j = i + 1 ∧ l[j]? = some .second
        · obtain ⟨j', w, e1, e2, e3⟩ := hw.2 _ h2.2
          have : j' = i := by omega
          subst this; rw [hg] at e2; cases e2; exact absurd e3 hc
        · simp [h2]
theorem After1.wf {l l' : Array Slot} {i : Nat} {v : Value} (hw : WFL l) (hv : v.category = 1) (A : After1 l l' i v) : WFL l' := by
  refine ⟨fun j w h1 h2 => ?_, fun j h1 => ?_⟩
  · rw [A j] at h1
    by_cases c1 : j = i
    · simp only [c1, if_true, Option.some.injEq, Slot.val.injEq] at h1; subst h1; omega
    · rw [if_neg c1] at h1
      by_cases c2 : j + 1 = i ∧ l[i]? = some .second
      · rw [if_pos c2] at h1; cases h1
      · rw [if_neg c2] at h1
        by_cases c3 : j = i + 1 ∧ l[j]? = some .second
        · rw [if_pos c3] at h1; cases h1
        · rw [if_neg c3] at h1
          have h3 := hw.1 _ _ h1 h2
          rw [A (j + 1)]
          have n1 : ¬ (j + 1 = i) := fun q => c2 ⟨q, q ▸ h3⟩
          have n2 : ¬ (j + 1 + 1 = i ∧ l[i]? = some .second) := fun ⟨q1, q2⟩ => by
            obtain ⟨j', w', f1, f2, f3⟩ := hw.2 _ q2
            have : j' = j + 1 := by omega
            subst this; rw [h3] at f2; cases f2
          have n3 : ¬ (j + 1 = i + 1 ∧ l[j + 1]? = some .second) := fun ⟨q1, _⟩ => c1 (by omega)
          rw [if_neg n1, if_neg n2, if_neg n3]; exact h3
  · rw [A j] at h1
    by_cases c1 : j = i
    · rw [if_pos c1] at h1; cases h1
    · rw [if_neg c1] at h1
      by_cases c2 : j + 1 = i ∧ l[i]? = some .second
      · rw [if_pos c2] at h1; cases h1
      · rw [if_neg c2] at h1
        by_cases c3 : j = i + 1 ∧ l[j]? = some .second
        · rw [if_pos c3] at h1; cases h1
        · rw [if_neg c3] at h1
          obtain ⟨j', w, e1, e2, e3⟩ := hw.2 _ h1
          refine ⟨j', w, e1, ?_, e3⟩
          rw [A j']
          have n1 : ¬ (j' = i) := fun q => c3 ⟨by omega, h1⟩
          have n2 : ¬ (j' + 1 = i ∧ l[i]? = some .second) := fun ⟨q, _⟩ => c1 (by omega)
          have n3 : ¬ (j' = i + 1 ∧ l[j']? = some .second) := fun ⟨_, q⟩ => by rw [e2] at q; cases q
          rw [if_neg n1, if_neg n2, if_neg n3]; exact e2
def lng (o : Option Slot) : Bool := match o with | some (.val w) => decide (w.category = 2) | _ => false
theorem lng_iff (o : Option Slot) : lng o = true ↔ ∃ w, o = some (.val w) ∧ w.category = 2 := by
  unfold lng
  split
  · rename_i w; simp
  · rename_i h; simp; intro w hw; exact absurd hw (h w)
/-- behind a store of a long -/
def After2 (l l' : Array Slot) (i : Nat) (v : Value) : Prop := ∀ j : Nat, l'[j]? = if j = i then some (.val v) else if j = i + 1 then some .second else if j + 1 = i ∧ l[i]? = some .second then some .unset else if j = i + 2 ∧ l[j]? = some .second then some .unset else l[j]?
theorem self2 {l : Array Slot} {i : Nat} {v : Value} (hi : i + 1 < l.size) (hv : v.category = 2) (hz : ∀ w, l[i + 1]? = some (.val w) → w.category = 2 → i + 2 < l.size) :
    ∃ l', storeSelf l i v = some l' ∧ l'.size = l.size ∧ ∀ j : Nat, l'[j]? = if j = i then some (.val v) else if j = i + 1 then some .second else if j = i + 2 ∧ lng l[i + 1]? = true then some .unset else l[j]? := by
  have hi0 : i < l.size := by omega
  have hg : l[i + 1]? = some l[i + 1] := Array.getElem?_eq_getElem hi
  have hne : (l.setIfInBounds i (.val v))[i + 1]? = l[i + 1]? := Array.getElem?_setIfInBounds_ne (by omega)
  have hplain : (∀ w, l[i + 1] = .val w → ¬ w.category = 2) → storeSelf l i v = some ((l.setIfInBounds i (.val v)).setIfInBounds (i + 1) .second) := fun hn => by
    cases hq : l[i + 1] with
    | val w => simp [storeSelf, setAt, hi0, hv, hne, hg, hq, hn _ hq, hi]
    | unset => simp [storeSelf, setAt, hi0, hv, hne, hg, hq, hi]
    | second => simp [storeSelf, setAt, hi0, hv, hne, hg, hq, hi]
  by_cases hx : ∃ w, l[i + 1] = .val w ∧ w.category = 2
  · obtain ⟨w, hw1, hw2⟩ := hx
    have h2 := hz w (by rw [hg, hw1]) hw2
    refine ⟨((l.setIfInBounds i (.val v)).setIfInBounds (i + 2) .unset).setIfInBounds (i + 1) .second, by simp [storeSelf, setAt, hi0, hv, hne, hg, hw1, hw2, hi, h2], by simp, fun j => ?_⟩
    rw [sib _ _ _ _ (by simpa using hi), sib _ _ _ _ (by simpa using h2), sib _ _ _ _ hi0]
    have hE : lng l[i + 1]? = true := (lng_iff _).mpr ⟨w, by rw [hg, hw1], hw2⟩
    by_cases c1 : j = i
    · subst c1; simp
    · by_cases c2 : j = i + 1
      · subst c2; simp
      · by_cases c3 : j = i + 2
        · subst c3; simp [hE]
        · simp [c1, c2, c3]
  · refine ⟨_, hplain fun w h1 h2 => hx ⟨w, h1, h2⟩, by simp, fun j => ?_⟩
    rw [sib _ _ _ _ (by simpa using hi), sib _ _ _ _ hi0]
    have hE : ¬ lng l[i + 1]? = true := fun q => by
      obtain ⟨w, q1, q2⟩ := (lng_iff _).mp q
      exact hx ⟨w, by rw [hg] at q1; exact Option.some.inj q1, q2⟩
    by_cases c1 : j = i
    · subst c1; simp
    · by_cases c2 : j = i + 1
      · subst c2; simp
      · simp [c1, c2, hE]
theorem store2w {l : Array Slot} {i : Nat} {v : Value} (hw : WFL l) (hi : i + 1 < l.size) (hv : v.category = 2) : ∃ l', storeLocals l i v = some l' ∧ l'.size = l.size ∧ After2 l l' i v := by
  have hi0 : i < l.size := by omega
  have hg : l[i]? = some l[i] := Array.getElem?_eq_getElem hi0
  have hz : ∀ w, l[i + 1]? = some (.val w) → w.category = 2 → i + 2 < l.size := fun w q1 q2 => (Array.getElem?_eq_some_iff.mp (hw.1 _ _ q1 q2)).1
  have hsec : ∀ j : Nat, (j = i + 2 ∧ lng l[i + 1]? = true) ↔ (j = i + 2 ∧ l[j]? = some .second) := fun j => by
    constructor
    · rintro ⟨rfl, q⟩
      obtain ⟨w, q1, q2⟩ := (lng_iff _).mp q
      exact ⟨rfl, hw.1 _ _ q1 q2⟩
    · rintro ⟨rfl, q⟩
      obtain ⟨j', w, e1, e2, e3⟩ := hw.2 _ q
      have : j' = i + 1 := by omega
      subst this; exact ⟨rfl, (lng_iff _).mpr ⟨w, e2, e3⟩⟩
  cases hq : l[i] with
  | unset =>
    rw [hq] at hg
    obtain ⟨l', h1, h2, h3⟩ := self2 hi hv hz
    refine ⟨l', by simp [storeLocals, hg, hq, hi0, h1], h2, fun j => ?_⟩
    rw [h3 j, hg]; simp only [hsec, reduceCtorEq, and_false, if_false, Option.some.injEq]
  | second =>
    rw [hq] at hg
    obtain ⟨j0, w, e1, e2, e3⟩ := hw.2 _ hg
    subst e1
    have hj0 : j0 < l.size := by omega
    have hi' : j0 + 1 + 1 < (l.setIfInBounds j0 .unset).size := by simpa using hi
    have hk : ∀ j : Nat, j ≠ j0 → (l.setIfInBounds j0 .unset)[j]? = l[j]? := fun j h => Array.getElem?_setIfInBounds_ne (Ne.symm h)
    obtain ⟨l', h1, h2, h3⟩ := self2 (l := l.setIfInBounds j0 .unset) hi' hv (fun w q1 q2 => by rw [hk _ (by omega)] at q1; simpa using hz w q1 q2)
    refine ⟨l', by simp [storeLocals, setAt, hg, hq, hi0, hj0, h1], by simpa using h2, fun j => ?_⟩
    rw [h3 j, hg, hk (j0 + 1 + 1) (by omega)]; simp only [hsec]
    by_cases c1 : j = j0 + 1
    · simp [c1]
    · by_cases c2 : j = j0 + 1 + 1
      · simp [c2]
      · by_cases c3 : j = j0
        · subst c3; simp [hj0]
        · rw [hk _ c3]
          have : ¬ (j + 1 = j0 + 1) := by omega
          simp [c1, c2, c3]
  | val old =>
    rw [hq] at hg
    by_cases hc : old.category = 2
    · have g1 := hw.1 _ _ hg hc
      have hi' : i + 1 < (l.setIfInBounds (i + 1) .unset).size := by simpa using hi
      have hk : ∀ j : Nat, j ≠ i + 1 → (l.setIfInBounds (i + 1) .unset)[j]? = l[j]? := fun j h => Array.getElem?_setIfInBounds_ne (Ne.symm h)
      have hk1 : (l.setIfInBounds (i + 1) .unset)[i + 1]? = some .unset := by simp [hi]
      obtain ⟨l', h1, h2, h3⟩ := self2 (l := l.setIfInBounds (i + 1) .unset) hi' hv (fun w q1 q2 => by rw [hk1] at q1; cases q1)
      refine ⟨l', by simp [storeLocals, setAt, hg, hq, hi0, hc, hi, h1], by simpa using h2, fun j => ?_⟩
      rw [h3 j, hg, hk1]
      by_cases c1 : j = i
      · simp [c1]
      · by_cases c2 : j = i + 1
        · simp [c2]
        · rw [hk _ c2]
          have c3 : ¬ (j = i + 2 ∧ l[j]? = some .second) := fun ⟨q1, q2⟩ => by
            subst q1
            obtain ⟨j', w, e1, e2, e3⟩ := hw.2 _ q2
            have : j' = i + 1 := by omega
            subst this; rw [g1] at e2; cases e2
          simp [c1, c2, c3, lng]
    · obtain ⟨l', h1, h2, h3⟩ := self2 hi hv hz
      refine ⟨l', by simp [storeLocals, hg, hq, hi0, hc, h1], h2, fun j => ?_⟩
      rw [h3 j, hg]; simp only [hsec, reduceCtorEq, and_false, if_false, Option.some.injEq]
theorem After2.wf {l l' : Array Slot} {i : Nat} {v : Value} (hw : WFL l) (hv : v.category = 2) (A : After2 l l' i v) : WFL l' := by
  refine ⟨fun j w h1 h2 => ?_, fun j h1 => ?_⟩
  · rw [A j] at h1
    by_cases c1 : j = i
    · subst c1; rw [A (j + 1)]; simp
    · rw [if_neg c1] at h1
      by_cases c0 : j = i + 1
      · rw [if_pos c0] at h1; cases h1
      · rw [if_neg c0] at h1
        by_cases c2 : j + 1 = i ∧ l[i]? = some .second
        · rw [if_pos c2] at h1; cases h1
        · rw [if_neg c2] at h1
          by_cases c3 : j = i + 2 ∧ l[j]? = some .second
          · rw [if_pos c3] at h1; cases h1
          · rw [if_neg c3] at h1
            have h3 := hw.1 _ _ h1 h2
            rw [A (j + 1)]
            have n1 : ¬ (j + 1 = i) := fun q => c2 ⟨q, q ▸ h3⟩
            have n0 : ¬ (j + 1 = i + 1) := by omega
            have n2 : ¬ (j + 1 + 1 = i ∧ l[i]? = some .second) := fun ⟨q1, q2⟩ => by
              obtain ⟨j', w', f1, f2, f3⟩ := hw.2 _ q2
              have : j' = j + 1 := by omega
              subst this; rw [h3] at f2; cases f2
            have n3 : ¬ (j + 1 = i + 2 ∧ l[j + 1]? = some .second) := fun ⟨q1, _⟩ => c0 (by omega)
            rw [if_neg n1, if_neg n0, if_neg n2, if_neg n3]; exact h3
  · rw [A j] at h1
    by_cases c1 : j = i
    · rw [if_pos c1] at h1; cases h1
    · rw [if_neg c1] at h1
      by_cases c0 : j = i + 1
      · subst c0; exact ⟨i, v, rfl, by rw [A i]; simp, hv⟩
      · rw [if_neg c0] at h1
        by_cases c2 : j + 1 = i ∧ l[i]? = some .second
        · rw [if_pos c2] at h1; cases h1
        · rw [if_neg c2] at h1
          by_cases c3 : j = i + 2 ∧ l[j]? = some .second
          · rw [if_pos c3] at h1; cases h1
          · rw [if_neg c3] at h1
            obtain ⟨j', w, e1, e2, e3⟩ := hw.2 _ h1
            refine ⟨j', w, e1, ?_, e3⟩
            rw [A j']
            have n1 : ¬ (j' = i) := fun q => c0 (by omega)
            have n0 : ¬ (j' = i + 1) := fun q => c3 ⟨by omega, h1⟩
            have n2 : ¬ (j' + 1 = i ∧ l[i]? = some .second) := fun ⟨q, _⟩ => c1 (by omega)
            have n3 : ¬ (j' = i + 2 ∧ l[j']? = some .second) := fun ⟨_, q⟩ => by rw [e2] at q; cases q
            rw [if_neg n1, if_neg n0, if_neg n2, if_neg n3]; exact e2
def LR (am : List Addr) (L : ALoc) (l : Array Slot) : Prop := L.length = l.size ∧ WFL l ∧ ∀ (i : Nat) v, L[i]? = some (some v) → ∃ w, l[i]? = some (.val w) ∧ VR am v w
theorem LR.mono {am am' : List Addr} (h : Pre am am') {L : ALoc} {l : Array Slot} (r : LR am L l) : LR am' L l :=
  ⟨r.1, r.2.1, fun i v q => by obtain ⟨w, h1, h2⟩ := r.2.2 i v q; exact ⟨w, h1, h2.mono h⟩⟩
theorem kill1_len (L : ALoc) (i : Nat) : (kill1 L i).length = L.length := by
  unfold kill1; split
  · rfl
  · split <;> simp
theorem kill1_get {L : ALoc} {i j : Nat} {v : Value} (h : (kill1 L i)[j]? = some (some v)) : L[j]? = some (some v) ∧ (j + 1 = i → ∀ x, v ≠ .long x) := by
  unfold kill1 at h
  split at h
  · exact ⟨h, fun q => by omega⟩
  · rename_i i
    split at h
    · rename_i x hx
      by_cases e : j = i
      · subst e
        rw [List.getElem?_set] at h
        split at h
        · split at h <;> simp at h
        · omega
      · rw [List.getElem?_set_ne (Ne.symm e)] at h
        exact ⟨h, fun q => absurd (by omega) e⟩
    · rename_i hn
      refine ⟨h, fun q x e => ?_⟩
      have : j = i := by omega
      subst this; subst e; exact hn x h
theorem LR.put {am : List Addr} {L L' : ALoc} {l : Array Slot} {i : Nat} {v w : Value} (r : LR am L l) (h : lput L i v = some L') (hv : VR am v w) (hc : w.category = 1) : ∃ l', storeLocals l i w = some l' ∧ l'.size = l.size ∧ LR am L' l' := by
  unfold lput at h
  cases hb : Nat.ble (i + 1) L.length
  · rw [hb] at h; cases h
  · rw [hb] at h
    have hi : i < L.length := Nat.le_of_ble_eq_true hb
    simp only [cond_true, Option.some.injEq] at h
    obtain ⟨l', h1, h2, h3⟩ := store1w (v := w) r.2.1 (by rw [← r.1]; exact hi) hc
    refine ⟨l', h1, h2, ?_, h3.wf r.2.1 hc, fun j u hu => ?_⟩
    · rw [← h]; simp [kill1_len, r.1, h2]
    · rw [← h, List.getElem?_set] at hu
      rw [h3 j]
      by_cases c : i = j
      · subst c
        simp only [if_true] at hu
        split at hu
        · cases hu; exact ⟨w, by simp, hv⟩
        · cases hu
      · rw [if_neg c] at hu
        obtain ⟨q1, q2⟩ := kill1_get hu
        obtain ⟨w', q3, q4⟩ := r.2.2 j u q1
        have n1 : ¬ (j = i) := fun q => c q.symm
        have n2 : ¬ (j + 1 = i ∧ l[i]? = some .second) := fun ⟨a1, a2⟩ => by
          obtain ⟨j', w2, e1, e2, e3⟩ := r.2.1.2 _ a2
          have : j' = j := by omega
          subst this; rw [q3] at e2; cases e2
          have q5 := q4.cat
          rw [e3] at q5
          cases u <;> simp [OwnX.cat] at q5
          exact q2 a1 _ rfl
        have n3 : ¬ (j = i + 1 ∧ l[j]? = some .second) := fun ⟨_, q⟩ => by rw [q3] at q; cases q
        exact ⟨w', by rw [if_neg n1, if_neg n2, if_neg n3]; exact q3, q4⟩
theorem LR.putL {am : List Addr} {L L' : ALoc} {l : Array Slot} {i : Nat} {x : Int64} (r : LR am L l) (h : lputL L i x = some L') : ∃ l', storeLocals l i (.long x) = some l' ∧ l'.size = l.size ∧ LR am L' l' := by
  unfold lputL at h
  cases hb : Nat.ble (i + 2) L.length
  · rw [hb] at h; cases h
  · rw [hb] at h
    have hi : i + 1 < L.length := Nat.le_of_ble_eq_true hb
    simp only [cond_true, Option.some.injEq] at h
    obtain ⟨l', h1, h2, h3⟩ := store2w (v := .long x) r.2.1 (by rw [← r.1]; exact hi) rfl
    refine ⟨l', h1, h2, ?_, h3.wf r.2.1 rfl, fun j u hu => ?_⟩
    · rw [← h]; simp [kill1_len, r.1, h2]
    · rw [← h, List.getElem?_set] at hu
      rw [h3 j]
      by_cases c0 : i + 1 = j
      · subst c0
        simp only [if_true] at hu
        split at hu <;> cases hu
      · rw [if_neg c0, List.getElem?_set] at hu
        by_cases c : i = j
        · subst c
          simp only [if_true] at hu
          split at hu
          · cases hu; exact ⟨.long x, by simp, rfl⟩
          · cases hu
        · rw [if_neg c] at hu
          obtain ⟨q1, q2⟩ := kill1_get hu
          obtain ⟨w', q3, q4⟩ := r.2.2 j u q1
          have n1 : ¬ (j = i) := fun q => c q.symm
          have n0 : ¬ (j = i + 1) := fun q => c0 q.symm
          have n2 : ¬ (j + 1 = i ∧ l[i]? = some .second) := fun ⟨a1, a2⟩ => by
            obtain ⟨j', w2, e1, e2, e3⟩ := r.2.1.2 _ a2
            have : j' = j := by omega
            subst this; rw [q3] at e2; cases e2
            have q5 := q4.cat
            rw [e3] at q5
            cases u <;> simp [OwnX.cat] at q5
            exact q2 a1 _ rfl
          have n3 : ¬ (j = i + 2 ∧ l[j]? = some .second) := fun ⟨_, q⟩ => by rw [q3] at q; cases q
          exact ⟨w', by rw [if_neg n1, if_neg n0, if_neg n2, if_neg n3]; exact q3, q4⟩
theorem LR.int {am : List Addr} {L : ALoc} {l : Array Slot} {i : Nat} {x : Int32} (r : LR am L l) (h : loadI L i = some x) : l[i]? = some (.val (.int x)) := by
  unfold loadI at h
  split at h
  · rename_i y hy
    cases h
    obtain ⟨w, h1, h2⟩ := r.2.2 _ _ hy
    cases h2; exact h1
  · cases h
theorem LR.long {am : List Addr} {L : ALoc} {l : Array Slot} {i : Nat} {x : Int64} (r : LR am L l) (h : loadJ L i = some x) : l[i]? = some (.val (.long x)) := by
  unfold loadJ at h
  split at h
  · rename_i y hy
    cases h
    obtain ⟨w, h1, h2⟩ := r.2.2 _ _ hy
    cases h2; exact h1
  · cases h
theorem LR.ref {am : List Addr} {L : ALoc} {l : Array Slot} {i x : Nat} (r : LR am L l) (h : loadA L i = some x) : ∃ a, am[x]? = some a ∧ l[i]? = some (.val (.ref a)) := by
  unfold loadA at h
  split at h
  · rename_i y hy
    cases h
    obtain ⟨w, h1, a, h2, rfl⟩ := r.2.2 _ _ hy
    exact ⟨a, h2, h1⟩
  · cases h
end Jvm.OwnX
namespace Jvm.OwnX
open Sem ClassFile Op Lib Jvm.Stand Jvm.Free Jvm.LawKit Jvm.RoadKit
/-! ## the entry's variables -/
def slotsL : List Value → List Slot
  | [] => []
  | v :: r => if v.category = 2 then .val v :: .second :: slotsL r else .val v :: slotsL r
theorem fold_slots : ∀ (ws : List Value) (acc : Array Slot), ws.foldl (fun acc v => if v.category = 2 then (acc.push (.val v)).push .second else acc.push (.val v)) acc = acc ++ (slotsL ws).toArray
  | [], acc => by simp [slotsL]
  | v :: r, acc => by
    rw [List.foldl_cons, fold_slots r]
    by_cases h : v.category = 2
    · simp only [h, if_true, slotsL]; apply Array.ext'; simp
    · simp only [h, if_false, slotsL]; apply Array.ext'; simp
theorem argsToLocals_eq (ws : List Value) (n : Nat) : argsToLocals ws.toArray n = (slotsL ws ++ List.replicate (n - (slotsL ws).length) Slot.unset).toArray := by
  unfold argsToLocals
  have h : Array.foldl (fun acc v => if v.category = 2 then (acc.push (.val v)).push .second else acc.push (.val v)) #[] ws.toArray = (slotsL ws).toArray := by
    rw [List.foldl_toArray, fold_slots]; simp
  simp only [h]
  apply Array.ext'; simp
def WFl (s : List Slot) : Prop := (∀ (i : Nat) (w : Value), s[i]? = some (Slot.val w) → w.category = 2 → s[i + 1]? = some Slot.second) ∧ (∀ (i : Nat), s[i]? = some Slot.second → ∃ (j : Nat) (w : Value), i = j + 1 ∧ s[j]? = some (Slot.val w) ∧ w.category = 2)
theorem WFl.nil : WFl [] := ⟨fun i w h => by simp at h, fun i h => by simp at h⟩
theorem WFl.one {s : List Slot} (h : WFl s) {v : Value} (hv : ¬ v.category = 2) : WFl (.val v :: s) := by
  refine ⟨fun i w h1 h2 => ?_, fun i h1 => ?_⟩
  · cases i with
    | zero => simp at h1; subst h1; exact absurd h2 hv
    | succ i => rw [List.getElem?_cons_succ] at h1 ⊢; exact h.1 _ _ h1 h2
  · cases i with
    | zero => simp at h1
    | succ i =>
      rw [List.getElem?_cons_succ] at h1
      obtain ⟨j, w, rfl, e2, e3⟩ := h.2 _ h1
      exact ⟨j + 1, w, rfl, by rw [List.getElem?_cons_succ]; exact e2, e3⟩
theorem WFl.two {s : List Slot} (h : WFl s) {v : Value} (hv : v.category = 2) : WFl (.val v :: .second :: s) := by
  refine ⟨fun i w h1 h2 => ?_, fun i h1 => ?_⟩
  · match i with
    | 0 => simp
    | 1 => simp at h1
    | i + 2 => simp only [List.getElem?_cons_succ] at h1 ⊢; exact h.1 _ _ h1 h2
  · match i with
    | 0 => simp at h1
    | 1 => exact ⟨0, v, rfl, by simp, hv⟩
    | i + 2 =>
      simp only [List.getElem?_cons_succ] at h1
      obtain ⟨j, w, rfl, e2, e3⟩ := h.2 _ h1
      exact ⟨j + 2, w, rfl, by simp only [List.getElem?_cons_succ]; exact e2, e3⟩
theorem WFl.pad {s : List Slot} (h : WFl s) (n : Nat) : WFl (s ++ List.replicate n Slot.unset) := by
  have hk : ∀ (i : Nat) (x : Slot), (s ++ List.replicate n Slot.unset)[i]? = some x → x ≠ Slot.unset → s[i]? = some x := fun i x q hx => by
    by_cases c : i < s.length
    · rw [List.getElem?_append_left c] at q; exact q
    · rw [List.getElem?_append_right (by omega), List.getElem?_replicate] at q
      split at q
      · cases q; exact absurd rfl hx
      · cases q
  have hl : ∀ (i : Nat) (x : Slot), s[i]? = some x → (s ++ List.replicate n Slot.unset)[i]? = some x := fun i x q => by
    rw [List.getElem?_append_left (List.getElem?_eq_some_iff.mp q).1]; exact q
  refine ⟨fun i w h1 h2 => hl _ _ (h.1 _ _ (hk _ _ h1 (by simp)) h2), fun i h1 => ?_⟩
  obtain ⟨j, w, e1, e2, e3⟩ := h.2 _ (hk _ _ h1 (by simp))
  exact ⟨j, w, e1, hl _ _ e2, e3⟩
theorem slotsL_ok {am : List Addr} : ∀ {as ws : List Value}, SR am as ws → (entL as).length = (slotsL ws).length ∧ WFl (slotsL ws) ∧ ∀ (i : Nat) (v : Value), (entL as)[i]? = some (some v) → ∃ w, (slotsL ws)[i]? = some (Slot.val w) ∧ VR am v w
  | [], _, h => by cases h; exact ⟨rfl, WFl.nil, fun i v q => by simp [entL] at q⟩
  | v :: r, _, ⟨w, ws', e, r1, r2⟩ => by
    subst e
    obtain ⟨i1, i2, i3⟩ := slotsL_ok r2
    have hc := r1.cat
    by_cases h2 : ∃ x, v = .long x
    · obtain ⟨x, rfl⟩ := h2
      have hc2 : w.category = 2 := hc
      refine ⟨by simp [entL, slotsL, hc2, i1], by simp only [slotsL, hc2, if_true]; exact i2.two hc2, fun i u q => ?_⟩
      simp only [slotsL, hc2, if_true, entL] at q ⊢
      match i with
      | 0 => simp at q; subst q; exact ⟨w, by simp, r1⟩
      | 1 => simp at q
      | i + 2 => simp only [List.getElem?_cons_succ] at q ⊢; exact i3 i u q
    · have hv1 : OwnX.cat v = 1 := by cases v <;> first | rfl | (exact absurd ⟨_, rfl⟩ h2)
      have hc2 : ¬ w.category = 2 := by rw [hc, hv1]; decide
      have he : entL (v :: r) = some v :: entL r := by cases v <;> first | rfl | (exact absurd ⟨_, rfl⟩ h2)
      refine ⟨by simp [he, slotsL, hc2, i1], by simp only [slotsL, hc2, if_false]; exact i2.one hc2, fun i u q => ?_⟩
      rw [he] at q
      simp only [slotsL, hc2, if_false]
      match i with
      | 0 => simp at q; subst q; exact ⟨w, by simp, r1⟩
      | i + 1 => simp only [List.getElem?_cons_succ] at q ⊢; exact i3 i u q
theorem LR.entry {am : List Addr} {as ws : List Value} {n : Nat} (h : SR am as ws) (hn : (entL as).length ≤ n) : LR am (pad n (entL as)) (argsToLocals ws.toArray n) := by
  obtain ⟨h1, h2, h3⟩ := slotsL_ok h
  rw [argsToLocals_eq]
  have hw := h2.pad (n - (slotsL ws).length)
  refine ⟨by simp [pad, h1], ⟨fun i w q1 q2 => ?_, fun i q1 => ?_⟩, fun i v q => ?_⟩
  · rw [List.getElem?_toArray] at q1 ⊢; exact hw.1 _ _ q1 q2
  · rw [List.getElem?_toArray] at q1
    obtain ⟨j, w, e1, e2, e3⟩ := hw.2 _ q1
    exact ⟨j, w, e1, by rw [List.getElem?_toArray]; exact e2, e3⟩
  · have hi : i < (entL as).length := by
      by_cases c : i < (entL as).length
      · exact c
      · unfold pad at q
        rw [List.getElem?_append_right (by omega), List.getElem?_replicate] at q
        split at q
        · cases q
        · cases q
    unfold pad at q
    rw [List.getElem?_append_left hi] at q
    obtain ⟨w, e1, e2⟩ := h3 i v q
    exact ⟨w, by rw [List.getElem?_toArray, List.getElem?_append_left (by omega)]; exact e1, e2⟩
theorem entry_size {ws : List Value} {n : Nat} (h : (slotsL ws).length ≤ n) : (argsToLocals ws.toArray n).size = n := by
  rw [argsToLocals_eq]; simp; omega
/-! ## the heap -/
def aty : Nat → FieldType
  | 0 => .int
  | 1 => .int
  | 2 => .boolean
  | 3 => .byte
  | _ => .long
def CR (P : Prog) (C : String) (Z : State) (am : List Addr) (c : ACell) (h : Heap) (a : Addr) : Prop := match c with
  | .inl fs => Exa Z h a C ∧ fs.length = P.fields.length ∧ ∀ (j : Nat) (v : Value) (n d : String) (t : Nat) (f : Bool), fs[j]? = some v → P.fields[j]? = some (n, d, t, f) → ∃ w, VR am v w ∧ Fld Z h a C n d w
  | .inr (.inl (t, xs)) => ∃ cl, Arr Z h a cl (aty t) ∧ cl.slots.size = xs.length ∧ ∀ (j : Nat) (x : Int32), xs[j]? = some x → cl.slots[j]? = some (.int x)
  | .inr (.inr xs) => ∃ cl, Arr Z h a cl .long ∧ cl.slots.size = xs.length ∧ ∀ (j : Nat) (x : Int64), xs[j]? = some x → cl.slots[j]? = some (.long x)
def HR (P : Prog) (C : String) (Z : State) (n0 : Nat) (am : List Addr) (H : AHeap) (h : Heap) : Prop :=
  am.length = H.length ∧ (∀ (i j : Nat) (a : Addr), am[i]? = some a → am[j]? = some a → i = j) ∧ (∀ (i : Nat) (a : Addr), am[i]? = some a → a < h.size ∧ (P.ro ≤ i → n0 ≤ a)) ∧ ∀ (i : Nat) (c : ACell), H[i]? = some c → ∃ a, am[i]? = some a ∧ CR P C Z am c h a
section Heap
variable {P : Prog} {C : String} {Z : State} {n0 : Nat} {am am' : List Addr} {H : AHeap} {h h' : Heap} {a b : Addr} {c : ACell}
theorem CR.ext (E : Ext h h') (hp : Pre am am') (r : CR P C Z am c h a) : CR P C Z am' c h' a := by
  match c, r with
  | .inl fs, ⟨r1, r2, r3⟩ => exact ⟨r1.ext E, r2, fun j v n d t f q1 q2 => by obtain ⟨w, e1, e2⟩ := r3 j v n d t f q1 q2; exact ⟨w, e1.mono hp, e2.ext E⟩⟩
  | .inr (.inl (t, xs)), ⟨cl, r1, r2⟩ => exact ⟨cl, r1.ext E, r2⟩
  | .inr (.inr xs), ⟨cl, r1, r2⟩ => exact ⟨cl, r1.ext E, r2⟩
theorem CR.other {sl : Nat} {v : Value} (W : Wr h h' b sl v) (hne : a ≠ b) (r : CR P C Z am c h a) : CR P C Z am c h' a := by
  match c, r with
  | .inl fs, ⟨r1, r2, r3⟩ => exact ⟨r1.wr W, r2, fun j v n d t f q1 q2 => by obtain ⟨w, e1, e2⟩ := r3 j v n d t f q1 q2; exact ⟨w, e1, e2.other W (Or.inl hne)⟩⟩
  | .inr (.inl (t, xs)), ⟨cl, r1, r2⟩ => exact ⟨cl, r1.other W hne, r2⟩
  | .inr (.inr xs), ⟨cl, r1, r2⟩ => exact ⟨cl, r1.other W hne, r2⟩
/-- a new cell -/
theorem HR.push (E : Ext h h') (r : HR P C Z n0 am H h) (hlt : h.size < h'.size) (hn : n0 ≤ h.size) (hc : CR P C Z (am ++ [h.size]) c h' h.size) : HR P C Z n0 (am ++ [h.size]) (H ++ [c]) h' := by
  obtain ⟨r1, r2, r3, r4⟩ := r
  have hin : ∀ (i : Nat) (x : Addr), (am ++ [h.size])[i]? = some x → (am[i]? = some x ∧ i < am.length) ∨ (i = am.length ∧ x = h.size) := fun i x q => by
    by_cases ci : i < am.length
    · rw [List.getElem?_append_left ci] at q; exact Or.inl ⟨q, ci⟩
    · rw [List.getElem?_append_right (by omega)] at q
      have : i - am.length = 0 := by
        by_cases z : i - am.length = 0
        · exact z
        · rw [List.getElem?_eq_none (by simp; omega)] at q; cases q
      rw [this] at q
      simp at q
      exact Or.inr ⟨by omega, q.symm⟩
  refine ⟨by simp [r1], fun i j x q1 q2 => ?_, fun i x q => ?_, fun i d q => ?_⟩
  · rcases hin i x q1 with ⟨u1, u2⟩ | ⟨u1, u2⟩ <;> rcases hin j x q2 with ⟨v1, v2⟩ | ⟨v1, v2⟩
    · exact r2 _ _ _ u1 v1
    · subst v2; exact absurd (r3 _ _ u1).1 (Nat.lt_irrefl _)
    · subst u2; exact absurd (r3 _ _ v1).1 (Nat.lt_irrefl _)
    · omega
  · rcases hin i x q with ⟨u1, u2⟩ | ⟨u1, u2⟩
    · have := r3 _ _ u1; exact ⟨Nat.lt_of_lt_of_le this.1 E.1, this.2⟩
    · subst u2; exact ⟨hlt, fun _ => hn⟩
  · by_cases ci : i < H.length
    · rw [List.getElem?_append_left ci] at q
      obtain ⟨x, e1, e2⟩ := r4 i d q
      exact ⟨x, Pre.app am _ _ _ e1, e2.ext E (Pre.app am _)⟩
    · rw [List.getElem?_append_right (by omega)] at q
      have : i - H.length = 0 := by
        by_cases z : i - H.length = 0
        · exact z
        · rw [List.getElem?_eq_none (by simp; omega)] at q; cases q
      rw [this] at q
      simp at q; subst q
      have e : i = am.length := by omega
      exact ⟨h.size, by rw [e]; simp, hc⟩
/-- a cell changed in place -/
theorem HR.upd {i sl : Nat} {v : Value} (W : Wr h h' a sl v) (r : HR P C Z n0 am H h) (hi : am[i]? = some a) (hc : CR P C Z am c h' a) : HR P C Z n0 am (H.set i c) h' := by
  obtain ⟨r1, r2, r3, r4⟩ := r
  refine ⟨by simp [r1], r2, fun j x q => by rw [W.size]; exact r3 _ _ q, fun j d q => ?_⟩
  rw [List.getElem?_set] at q
  by_cases e : i = j
  · subst e
    simp only [if_true] at q
    split at q
    · cases q; exact ⟨a, hi, hc⟩
    · cases q
  · rw [if_neg e] at q
    obtain ⟨x, e1, e2⟩ := r4 j d q
    exact ⟨x, e1, e2.other W fun q => e (r2 _ _ _ hi (q ▸ e1))⟩
theorem inb_spec {n : Nat} {j : Int32} (h : inb n j = true) : ¬ (j < 0 ∨ n ≤ j.toNatClampNeg) := by
  simp only [inb, Bool.and_eq_true, Bool.not_eq_true', decide_eq_false_iff_not] at h
  have h2 : j.toNatClampNeg < n := Nat.le_of_ble_eq_true h.2
  rintro (q | q)
  · exact h.1 q
  · omega
theorem inb_lt {n : Nat} {j : Int32} (h : inb n j = true) : j.toNatClampNeg < n := by
  have := inb_spec h; exact Nat.lt_of_not_le fun q => this (Or.inr q)
theorem rd_at {xs : List Int32} {j : Int32} (h : inb xs.length j = true) : xs[j.toNatClampNeg]? = some (rd xs j) := by
  rw [rd, List.getD_eq_getElem?_getD, List.getElem?_eq_getElem (inb_lt h)]; rfl
theorem rdL_at {xs : List Int64} {j : Int32} (h : inb xs.length j = true) : xs[j.toNatClampNeg]? = some (rdL xs j) := by
  rw [rdL, List.getD_eq_getElem?_getD, List.getElem?_eq_getElem (inb_lt h)]; rfl
theorem CR.wrI {t : Nat} {xs : List Int32} {j x : Int32} (W : Wr h h' a j.toNatClampNeg (.int x)) (r : CR P C Z am (.inr (.inl (t, xs))) h a) : CR P C Z am (.inr (.inl (t, wr xs j x))) h' a := by
  obtain ⟨cl, r1, r2, r3⟩ := r
  refine ⟨_, r1.same W, by rw [sz_set, r2]; simp [wr], fun i y q => ?_⟩
  unfold wr at q
  rw [List.getElem?_set] at q
  by_cases e : j.toNatClampNeg = i
  · rw [if_pos e] at q
    split at q
    · cases q; subst e
      have hs : j.toNatClampNeg < cl.slots.size := by omega
      simp [Cell.setSlot, hs]
    · cases q
  · rw [if_neg e] at q
    simp only [Cell.setSlot]
    rw [Array.getElem?_setIfInBounds_ne e]; exact r3 _ _ q
theorem CR.wrJ {xs : List Int64} {j : Int32} {x : Int64} (W : Wr h h' a j.toNatClampNeg (.long x)) (r : CR P C Z am (.inr (.inr xs)) h a) : CR P C Z am (.inr (.inr (wrL xs j x))) h' a := by
  obtain ⟨cl, r1, r2, r3⟩ := r
  refine ⟨_, r1.same W, by rw [sz_set, r2]; simp [wrL], fun i y q => ?_⟩
  unfold wrL at q
  rw [List.getElem?_set] at q
  by_cases e : j.toNatClampNeg = i
  · rw [if_pos e] at q
    split at q
    · cases q; subst e
      have hs : j.toNatClampNeg < cl.slots.size := by omega
      simp [Cell.setSlot, hs]
    · cases q
  · rw [if_neg e] at q
    simp only [Cell.setSlot]
    rw [Array.getElem?_setIfInBounds_ne e]; exact r3 _ _ q
end Heap
/-! ## what the sheet's words must say -/
def tyOk : Nat → FieldType → Bool
  | 0, .int => true
  | 1, .boolean => true
  | 2, .long => true
  | 3, .array _ => true
  | _, _ => false
def rcv (q : Nat) : Nat := match q with | 0 => 0 | _ => 1
def KindOk (P : Prog) (nm : Nat → MethodName) (C : String) (Z : State) (a0 : Array Value) (q k : Nat) : Prop := match q with
  | 0 => (Cond.static (nm k)).before a0 Z = true
  | 1 => (nm k).name = "<init>" ∧ (Cond.instanceMethod (nm k)).before a0 Z = true ∧ P.ret k = none
  | 2 => (Cond.declares (nm k)).before a0 Z = true ∧ (Cond.instanceMethod (nm k)).before a0 Z = true ∧ (Cond.selects C (nm k) (nm k)).before a0 Z = true
  | _ => (nm k).cls = C ∧ (Cond.instanceMethod (nm k)).before a0 Z = true ∧ (Cond.privateMethod (nm k)).before a0 Z = true
def CallOk (P : Prog) (nm : Nat → MethodName) (bc : Nat → ByteArray) (cn : Nat → String) (C : String) (Z : State) (a0 : Array Value) (c j q k : Nat) : Prop :=
  (Cond.methodLink (cn c) j (nm k)).before a0 Z = true ∧ (Cond.code (nm k) (bc k) (P.maxL k) (P.ret k)).before a0 Z = true ∧ (Cond.initialized (nm k).cls).before a0 Z = true ∧
      (∃ ps r, parseMethodDescriptor (nm k).desc = some ⟨ps, r⟩ ∧ P.pops k = ps.length + rcv q) ∧ plainName (nm k).cls = true ∧ ((nm k).cls ≠ "java/lang/invoke/MethodHandle" ∧ (nm k).cls ≠ "java/lang/invoke/VarHandle") ∧ (nm k).cls = cn (P.cls k) ∧ (P.ini k = true → (nm k).name = "<init>" ∧ (nm k).cls = C) ∧ KindOk P nm C Z a0 q k
def LinkOk (P : Prog) (nm : Nat → MethodName) (bc : Nat → ByteArray) (cn : Nat → String) (C : String) (Z : State) (a0 : Array Value) (c j q k : Nat) : Prop := match q with
  | 4 => (Cond.methodLink (cn c) j Lib.objectInit).before a0 Z = true ∧ (Cond.instanceMethod Lib.objectInit).before a0 Z = true ∧ (Cond.code Lib.objectInit ⟨#[0xb1]⟩ 1 none).before a0 Z = true
  | 5 => (Cond.classLink (cn c) j C).before a0 Z = true
  | q => CallOk P nm bc cn C Z a0 c j q k
def KonOk (cn : Nat → String) (Z : State) (a0 : Array Value) (c j : Nat) (v : Value) : Prop := match v with
  | .int x => (Cond.constant (cn c) j x).before a0 Z = true
  | .long x => (Cond.constantLong (cn c) j x).before a0 Z = true
  | _ => False
def Good (P : Prog) (nm : Nat → MethodName) (bc : Nat → ByteArray) (cn : Nat → String) (C : String) (Z : State) (a0 : Array Value) : Prop :=
  (∀ k pc i np, P.code k pc = some (i, np) → ∃ len, decode (bc k) pc = .ok (i, len) ∧ np = pc + len ∧ (ilen i = 0 ∨ len = ilen i)) ∧
  (∀ c j f, P.fld c j = some f → ∃ n d t fin, P.fields[f]? = some (n, d, t, fin) ∧ (Cond.fieldLink (cn c) j C n d).before a0 Z = true) ∧
  (∀ (f : Nat) n d t (fin : Bool), P.fields[f]? = some (n, d, t, fin) → (bif fin then (Cond.laysFinal C C n d).before a0 Z else (Cond.lays C C n d).before a0 Z) = true ∧ ∃ ty, parseFieldDescriptor d = some ty ∧ tyOk t ty = true ∧ defaultValue ty = dflt t) ∧
  (∀ (f g : Nat) n d t (fin : Bool) n' d' t' (fin' : Bool), P.fields[f]? = some (n, d, t, fin) → P.fields[g]? = some (n', d', t', fin') → f ≠ g → n ≠ n') ∧
  (∀ c j v, P.kon c j = some v → KonOk cn Z a0 c j v) ∧
  (Cond.instantiable C P.objN).before a0 Z = true ∧ (Cond.initialized C).before a0 Z = true ∧
  (∀ k pc t np, P.code k pc = some (.newarray t, np) → (Cond.arrayClass (newarray.typeOf t)).before a0 Z = true) ∧
  (∀ c j q k, P.link c j = some (q, k) → LinkOk P nm bc cn C Z a0 c j q k)
end Jvm.OwnX
namespace Jvm.OwnX
open Sem ClassFile Op Lib Jvm.Stand Jvm.Free Jvm.LawKit Jvm.RoadKit
section Sound
variable {p : Program} {l : Launch} {e : Env} {R : Room} {s : State} {m : MethodId} {args : Array Value} {below : List Frame} {meth : Method} {c : Code} {T : State} {locs : List Loc} {cells slots : Nat}
variable {P : Prog} {nm : Nat → MethodName} {bc : Nat → ByteArray} {cn : Nat → String} {C : String} {Z : State} {a0 : Array Value} {n0 : Nat}
/-- where the walk stands behind a step -/
def Behind (p : Program) (l : Launch) (e : Env) (R : Room) (s : State) (m : MethodId) (args : Array Value) (below : List Frame) (meth : Method) (c : Code) (P : Prog) (C : String) (Z : State) (n0 : Nat) (am : List Addr) (cells slots : Nat)
    (T : State) (pc : Nat) (ls : Array Slot) (st : List Value) (pc' : Nat) (L' : ALoc) (S' : List Value) (H' : AHeap) (dc ds : Nat) : Prop :=
  ∃ T' am' ls' st' locs', Stand p l e R s m args below meth c T' locs' (cells + dc) (slots + ds) ∧ LR am' L' ls' ∧ ls'.size = ls.size ∧ SR am' S' st' ∧ HR P C Z n0 am' H' T'.heap ∧ Pre am am' ∧ Fr n0 locs' ∧ n0 ≤ T'.heap.size ∧
    ∀ target, Steps p.tables e below (T'.setTop (mkF m pc' ls' st')) target → Steps p.tables e below (T.setTop (mkF m pc ls st)) target
theorem Behind.plain {am : List Addr} {H : AHeap} {pc pc' : Nat} {L' : ALoc} {S' : List Value} {ls ls' : Array Slot} {st st' : List Value} (X : Stand p l e R s m args below meth c T locs cells slots) (hL : LR am L' ls') (hz : ls'.size = ls.size) (hS : SR am S' st') (hH : HR P C Z n0 am H T.heap) (hF : Fr n0 locs) (hn : n0 ≤ T.heap.size)
    (hs : ∀ target, Steps p.tables e below (T.setTop (mkF m pc' ls' st')) target → Steps p.tables e below (T.setTop (mkF m pc ls st)) target) : Behind p l e R s m args below meth c P C Z n0 am cells slots T pc ls st pc' L' S' H (H.length - H.length) (hsz P H - hsz P H) :=
  ⟨T, am, ls', st', locs, by simpa using X, hL, hz, hS, hH, Pre.refl _, hF, hn, hs⟩
theorem Behind.plain' {T' : State} {am : List Addr} {H : AHeap} {pc pc' : Nat} {L' : ALoc} {S' : List Value} {ls ls' : Array Slot} {st st' : List Value} (X : Stand p l e R s m args below meth c T' locs cells slots) (eT : T'.heap = T.heap) (hL : LR am L' ls') (hz : ls'.size = ls.size) (hS : SR am S' st') (hH : HR P C Z n0 am H T.heap) (hF : Fr n0 locs) (hn : n0 ≤ T.heap.size)
    (hs : ∀ target, Steps p.tables e below (T'.setTop (mkF m pc' ls' st')) target → Steps p.tables e below (T.setTop (mkF m pc ls st)) target) : Behind p l e R s m args below meth c P C Z n0 am cells slots T pc ls st pc' L' S' H (H.length - H.length) (hsz P H - hsz P H) :=
  ⟨T', am, ls', st', locs, by simpa using X, hL, hz, hS, by rw [eT]; exact hH, Pre.refl _, hF, by rw [eT]; exact hn, hs⟩
theorem tgt_spec {pc t : Nat} {o : Int} (h : tgt pc o = some t) : 0 ≤ (pc : Int) + o ∧ ((pc : Int) + o).toNat = t := by
  unfold tgt at h
  split at h
  · rename_i n hn; cases h; rw [hn]; exact ⟨Int.natCast_nonneg _, rfl⟩
  · cases h
theorem hsz_app (P : Prog) : ∀ (H : AHeap) (c : ACell), hsz P (H ++ [c]) = hsz P H + csz P.objN c
  | [], c => by simp [hsz]
  | x :: r, c => by simp only [List.cons_append, hsz, hsz_app P r c]; omega
theorem hsz_append (P : Prog) : ∀ (H T : AHeap), hsz P (H ++ T) = hsz P H + hsz P T
  | [], T => by simp [hsz]
  | x :: r, T => by simp only [List.cons_append, hsz, hsz_append P r T]; omega
theorem hsz_set (P : Prog) : ∀ (H : AHeap) (i : Nat) (c c' : ACell), H[i]? = some c' → csz P.objN c = csz P.objN c' → hsz P (H.set i c) = hsz P H
  | [], i, c, c', h, _ => by simp at h
  | x :: r, 0, c, c', h, e => by simp at h; subst h; simp [hsz, e]
  | x :: r, i + 1, c, c', h, e => by simp only [List.set_cons_succ, hsz]; rw [List.getElem?_cons_succ] at h; rw [hsz_set P r i c c' h e]
/-- a write -/
theorem Behind.write {T' : State} {am : List Addr} {H : AHeap} {i sl : Nat} {cc cc' : ACell} {a : Addr} {w : Value} {h' : Heap} {pc pc' : Nat} {L' : ALoc} {S' : List Value} {ls : Array Slot} {st st' : List Value} (X : Stand p l e R s m args below meth c T' (locs ++ [⟨a, sl⟩]) cells slots) (eT : T'.heap = h') (W : Wr T.heap h' a sl w)
    (hL : LR am L' ls) (hS : SR am S' st') (hH : HR P C Z n0 am H T.heap) (hi : am[i]? = some a) (hro : P.ro ≤ i) (hc' : H[i]? = some cc') (hcs : csz P.objN cc = csz P.objN cc') (hC : CR P C Z am cc h' a) (hF : Fr n0 locs) (hn : n0 ≤ T.heap.size)
    (hs : ∀ target, Steps p.tables e below (T'.setTop (mkF m pc' ls st')) target → Steps p.tables e below (T.setTop (mkF m pc ls st)) target) :
    Behind p l e R s m args below meth c P C Z n0 am cells slots T pc ls st pc' L' S' (H.set i cc) ((H.set i cc).length - H.length) (hsz P (H.set i cc) - hsz P H) := by
  rw [hsz_set P H i cc cc' hc' hcs]
  refine ⟨T', am, ls, st', _, by simpa using X, hL, rfl, hS, by rw [eT]; exact hH.upd W hi hC, Pre.refl _, Fr.snoc X hF ((hH.2.2.1 _ _ hi).2 hro), by rw [eT, W.size]; exact hn, hs⟩
theorem arr_new {am : List Addr} {h h' : Heap} {cA : ClassId} {q : Nat} {n : Int32} {t : ArrayType} (ht : atyOf t = some q) (hn : ¬ n < 0) (A : Arr Z h' h.size (newA cA (newarray.typeOf t) n) (newarray.typeOf t)) : CR P C Z am (newC q n.toNatClampNeg) h' h.size := by
  have key : ∀ {d : Value}, ∀ j, (Array.replicate n.toNatClampNeg d)[j]? = if j < n.toNatClampNeg then some d else none := fun j => by rw [Array.getElem?_replicate]
  cases t <;> simp only [atyOf, Option.some.injEq, reduceCtorEq] at ht <;> subst ht
  · refine ⟨_, A, by simp [newA], fun j x q => ?_⟩
    rw [List.getElem?_replicate] at q
    split at q
    · cases q; simp only [newA]; rw [key, if_pos (by assumption)]; rfl
    · cases q
  · refine ⟨_, A, by simp [newA], fun j x q => ?_⟩
    rw [List.getElem?_replicate] at q
    split at q
    · cases q; simp only [newA]; rw [key, if_pos (by assumption)]; rfl
    · cases q
  · refine ⟨_, A, by simp [newA], fun j x q => ?_⟩
    rw [List.getElem?_replicate] at q
    split at q
    · cases q; simp only [newA]; rw [key, if_pos (by assumption)]; rfl
    · cases q
  · refine ⟨_, A, by simp [newA], fun j x q => ?_⟩
    rw [List.getElem?_replicate] at q
    split at q
    · cases q; simp only [newA]; rw [key, if_pos (by assumption)]; rfl
    · cases q
theorem csz_new {t : ArrayType} {q : Nat} (N n : Nat) (ht : atyOf t = some q) : csz N (newC q n) = n := by
  cases t <;> simp only [atyOf, Option.some.injEq, reduceCtorEq] at ht <;> subst ht <;> simp [newC, csz]
set_option maxHeartbeats 4000000 in
theorem step_sound (G : Good P nm bc cn C Z a0) {k pc np pc' : Nat} {i : Instr} {L L' : ALoc} {S S' : List Value} {H H' : AHeap} (hcode : P.code k pc = some (i, np)) (h : step P k i np pc L S H = some (pc', L', S', H'))
    (X : Stand p l e R s m args below meth c T locs cells slots) (hx : p.tables.exec = Jvm.exec) (hZ : Z.Warmed39 s.vm) (hby : c.code = bc k) (hml : c.maxLocals = P.maxL k) (hown : s.vm.findClass (cn (P.cls k)) = some m.cls) (hini : P.ini k = true → meth.name = "<init>" ∧ cn (P.cls k) = C)
    (hrf : P.rf k ≤ R.frames) (hrl : P.rl k ≤ R.locals) (hcells : cells + (H'.length - H.length) ≤ R.cells) (hslots : slots + (hsz P H' - hsz P H) ≤ R.slots) {am : List Addr} {ls : Array Slot} {st : List Value} (hlz : ls.size = P.maxL k) (hL : LR am L ls) (hS : SR am S st) (hH : HR P C Z n0 am H T.heap) (hF : Fr n0 locs) (hn : n0 ≤ T.heap.size) :
    Behind p l e R s m args below meth c P C Z n0 am cells slots T pc ls st pc' L' S' H' (H'.length - H.length) (hsz P H' - hsz P H) := by
  obtain ⟨G1, G2, G3, G4, G5, G6, G7, G8, G9⟩ := G
  obtain ⟨len, hdec, rfl, hlen⟩ := G1 _ _ _ _ hcode
  have hd : decode c.code pc = .ok (i, len) := by rw [hby]; exact hdec
  cases i
  case iload_n n =>
    simp only [step] at h
    obtain rfl := hlen.resolve_left (by simp [ilen])
    cases hl : loadI L n.val with
    | none => simp [hl] at h
    | some x =>
      simp only [hl, Option.some.injEq, Prod.mk.injEq] at h; obtain ⟨rfl, rfl, rfl, rfl⟩ := h
      exact Behind.plain X hL rfl ⟨_, _, rfl, rfl, hS⟩ hH hF hn fun target hr => XS.iloadN X.here hx rfl (g := mkF m pc ls st) hd (hL.int hl) hr
  case iload n =>
    simp only [step] at h
    obtain rfl := hlen.resolve_left (by simp [ilen])
    cases hl : loadI L n with
    | none => simp [hl] at h
    | some x =>
      simp only [hl, Option.some.injEq, Prod.mk.injEq] at h; obtain ⟨rfl, rfl, rfl, rfl⟩ := h
      exact Behind.plain X hL rfl ⟨_, _, rfl, rfl, hS⟩ hH hF hn fun target hr => XS.iload X.here hx rfl (g := mkF m pc ls st) hd (hL.int hl) hr
  case lload_n n =>
    simp only [step] at h
    obtain rfl := hlen.resolve_left (by simp [ilen])
    cases hl : loadJ L n.val with
    | none => simp [hl] at h
    | some x =>
      simp only [hl, Option.some.injEq, Prod.mk.injEq] at h; obtain ⟨rfl, rfl, rfl, rfl⟩ := h
      exact Behind.plain X hL rfl ⟨_, _, rfl, rfl, hS⟩ hH hF hn fun target hr => XS.lloadN X.here hx rfl (g := mkF m pc ls st) hd (hL.long hl) hr
  case lload n =>
    simp only [step] at h
    obtain rfl := hlen.resolve_left (by simp [ilen])
    cases hl : loadJ L n with
    | none => simp [hl] at h
    | some x =>
      simp only [hl, Option.some.injEq, Prod.mk.injEq] at h; obtain ⟨rfl, rfl, rfl, rfl⟩ := h
      exact Behind.plain X hL rfl ⟨_, _, rfl, rfl, hS⟩ hH hF hn fun target hr => XS.lload X.here hx rfl (g := mkF m pc ls st) hd (hL.long hl) hr
  case aload_n n =>
    simp only [step] at h
    obtain rfl := hlen.resolve_left (by simp [ilen])
    cases hl : loadA L n.val with
    | none => simp [hl] at h
    | some x =>
      simp only [hl, Option.some.injEq, Prod.mk.injEq] at h; obtain ⟨rfl, rfl, rfl, rfl⟩ := h
      obtain ⟨a, ha, hl'⟩ := hL.ref hl
      exact Behind.plain X hL rfl ⟨_, _, rfl, ⟨a, ha, rfl⟩, hS⟩ hH hF hn fun target hr => XS.aloadN X.here hx rfl (g := mkF m pc ls st) hd hl' rfl hr
  case aload n =>
    simp only [step] at h
    obtain rfl := hlen.resolve_left (by simp [ilen])
    cases hl : loadA L n with
    | none => simp [hl] at h
    | some x =>
      simp only [hl, Option.some.injEq, Prod.mk.injEq] at h; obtain ⟨rfl, rfl, rfl, rfl⟩ := h
      obtain ⟨a, ha, hl'⟩ := hL.ref hl
      exact Behind.plain X hL rfl ⟨_, _, rfl, ⟨a, ha, rfl⟩, hS⟩ hH hF hn fun target hr => XS.aload X.here hx rfl (g := mkF m pc ls st) hd hl' rfl hr
  case istore_n n =>
    simp only [step] at h
    obtain rfl := hlen.resolve_left (by simp [ilen])
    split at h
    · rename_i x r
      cases hl : lput L n.val (.int x) with
      | none => simp [hl] at h
      | some L2 =>
        simp only [hl, Option.some.injEq, Prod.mk.injEq] at h; obtain ⟨rfl, rfl, rfl, rfl⟩ := h
        obtain ⟨_, _, rfl, rfl, hr'⟩ := hS
        obtain ⟨l', h1, h2, h3⟩ := hL.put (w := .int x) hl rfl rfl
        exact Behind.plain X h3 h2 hr' hH hF hn fun target hr => XS.istoreN X.here hx rfl (g := mkF m pc ls _) hd rfl h1 hr
    · cases h
  case istore n =>
    simp only [step] at h
    obtain rfl := hlen.resolve_left (by simp [ilen])
    split at h
    · rename_i x r
      cases hl : lput L n (.int x) with
      | none => simp [hl] at h
      | some L2 =>
        simp only [hl, Option.some.injEq, Prod.mk.injEq] at h; obtain ⟨rfl, rfl, rfl, rfl⟩ := h
        obtain ⟨_, _, rfl, rfl, hr'⟩ := hS
        obtain ⟨l', h1, h2, h3⟩ := hL.put (w := .int x) hl rfl rfl
        exact Behind.plain X h3 h2 hr' hH hF hn fun target hr => XS.istore X.here hx rfl (g := mkF m pc ls _) hd rfl h1 hr
    · cases h
  case lstore_n n =>
    simp only [step] at h
    obtain rfl := hlen.resolve_left (by simp [ilen])
    split at h
    · rename_i x r
      cases hl : lputL L n.val x with
      | none => simp [hl] at h
      | some L2 =>
        simp only [hl, Option.some.injEq, Prod.mk.injEq] at h; obtain ⟨rfl, rfl, rfl, rfl⟩ := h
        obtain ⟨_, _, rfl, rfl, hr'⟩ := hS
        obtain ⟨l', h1, h2, h3⟩ := hL.putL hl
        exact Behind.plain X h3 h2 hr' hH hF hn fun target hr => XS.lstoreN X.here hx rfl (g := mkF m pc ls _) hd rfl h1 hr
    · cases h
  case lstore n =>
    simp only [step] at h
    obtain rfl := hlen.resolve_left (by simp [ilen])
    split at h
    · rename_i x r
      cases hl : lputL L n x with
      | none => simp [hl] at h
      | some L2 =>
        simp only [hl, Option.some.injEq, Prod.mk.injEq] at h; obtain ⟨rfl, rfl, rfl, rfl⟩ := h
        obtain ⟨_, _, rfl, rfl, hr'⟩ := hS
        obtain ⟨l', h1, h2, h3⟩ := hL.putL hl
        exact Behind.plain X h3 h2 hr' hH hF hn fun target hr => XS.lstore X.here hx rfl (g := mkF m pc ls _) hd rfl h1 hr
    · cases h
  case astore_n n =>
    simp only [step] at h
    obtain rfl := hlen.resolve_left (by simp [ilen])
    split at h
    · rename_i x r
      cases hl : lput L n.val (.ref x) with
      | none => simp [hl] at h
      | some L2 =>
        simp only [hl, Option.some.injEq, Prod.mk.injEq] at h; obtain ⟨rfl, rfl, rfl, rfl⟩ := h
        obtain ⟨_, _, rfl, ⟨a, ha, rfl⟩, hr'⟩ := hS
        obtain ⟨l', h1, h2, h3⟩ := hL.put (w := .ref a) hl ⟨a, ha, rfl⟩ rfl
        exact Behind.plain X h3 h2 hr' hH hF hn fun target hr => XS.astoreN X.here hx rfl (g := mkF m pc ls _) hd rfl rfl h1 hr
    · cases h
  case astore n =>
    simp only [step] at h
    obtain rfl := hlen.resolve_left (by simp [ilen])
    split at h
    · rename_i x r
      cases hl : lput L n (.ref x) with
      | none => simp [hl] at h
      | some L2 =>
        simp only [hl, Option.some.injEq, Prod.mk.injEq] at h; obtain ⟨rfl, rfl, rfl, rfl⟩ := h
        obtain ⟨_, _, rfl, ⟨a, ha, rfl⟩, hr'⟩ := hS
        obtain ⟨l', h1, h2, h3⟩ := hL.put (w := .ref a) hl ⟨a, ha, rfl⟩ rfl
        exact Behind.plain X h3 h2 hr' hH hF hn fun target hr => XS.astore X.here hx rfl (g := mkF m pc ls _) hd rfl rfl h1 hr
    · cases h
  case iinc n cst =>
    simp only [step] at h
    obtain rfl := hlen.resolve_left (by simp [ilen])
    cases hl : loadI L n with
    | none => simp [hl] at h
    | some x =>
      cases hp : lput L n (.int (x + Int32.ofInt cst)) with
      | none => simp [hl, hp] at h
      | some L2 =>
        simp only [hl, hp, Option.some.injEq, Prod.mk.injEq] at h; obtain ⟨rfl, rfl, rfl, rfl⟩ := h
        obtain ⟨l', h1, h2, h3⟩ := hL.put (w := .int (x + Int32.ofInt cst)) hp rfl rfl
        exact Behind.plain X h3 h2 hS hH hF hn fun target hr => XS.iinc X.here hx rfl (g := mkF m pc ls st) hd (hL.int hl) h1 hr
  case iconst q =>
    simp only [step] at h
    obtain rfl := hlen.resolve_left (by simp [ilen])
    simp only [Option.some.injEq, Prod.mk.injEq] at h; obtain ⟨rfl, rfl, rfl, rfl⟩ := h
    exact Behind.plain X hL rfl ⟨_, _, rfl, rfl, hS⟩ hH hF hn fun target hr => XS.iconst X.here hx rfl (g := mkF m pc ls st) hd hr
  case bipush q =>
    simp only [step] at h
    obtain rfl := hlen.resolve_left (by simp [ilen])
    simp only [Option.some.injEq, Prod.mk.injEq] at h; obtain ⟨rfl, rfl, rfl, rfl⟩ := h
    exact Behind.plain X hL rfl ⟨_, _, rfl, rfl, hS⟩ hH hF hn fun target hr => XS.bipush X.here hx rfl (g := mkF m pc ls st) hd hr
  case sipush q =>
    simp only [step] at h
    obtain rfl := hlen.resolve_left (by simp [ilen])
    simp only [Option.some.injEq, Prod.mk.injEq] at h; obtain ⟨rfl, rfl, rfl, rfl⟩ := h
    exact Behind.plain X hL rfl ⟨_, _, rfl, rfl, hS⟩ hH hF hn fun target hr => XS.sipush X.here hx rfl (g := mkF m pc ls st) hd hr
  case lconst q =>
    simp only [step] at h
    obtain rfl := hlen.resolve_left (by simp [ilen])
    simp only [Option.some.injEq, Prod.mk.injEq] at h; obtain ⟨rfl, rfl, rfl, rfl⟩ := h
    exact Behind.plain X hL rfl ⟨_, _, rfl, rfl, hS⟩ hH hF hn fun target hr => XS.lconst X.here hx rfl (g := mkF m pc ls st) hd hr
  case ldc j =>
    simp only [step] at h
    obtain rfl := hlen.resolve_left (by simp [ilen])
    split at h
    · rename_i x hk
      simp only [Option.some.injEq, Prod.mk.injEq] at h; obtain ⟨rfl, rfl, rfl, rfl⟩ := h
      have w := G5 _ _ _ hk
      exact Behind.plain X hL rfl ⟨_, _, rfl, rfl, hS⟩ hH hF hn fun target hr => X.ldcInt hx hown (mvT hZ w) (g := mkF m pc ls st) rfl hd _ hr
    · cases h
  case ldc2_w j =>
    simp only [step] at h
    obtain rfl := hlen.resolve_left (by simp [ilen])
    split at h
    · rename_i x hk
      simp only [Option.some.injEq, Prod.mk.injEq] at h; obtain ⟨rfl, rfl, rfl, rfl⟩ := h
      have w := G5 _ _ _ hk
      exact Behind.plain X hL rfl ⟨_, _, rfl, rfl, hS⟩ hH hF hn fun target hr => X.ldc2Long hx hown (mvT hZ w) (g := mkF m pc ls st) rfl hd _ hr
    · cases h
  case idiv =>
    simp only [step] at h
    obtain rfl := hlen.resolve_left (by simp [ilen])
    split at h
    · rename_i y x r
      by_cases hy : y = 0
      · simp [hy] at h
      · simp only [hy, decide_false, cond_false, Option.some.injEq, Prod.mk.injEq] at h; obtain ⟨rfl, rfl, rfl, rfl⟩ := h
        obtain ⟨_, _, rfl, rfl, _, _, rfl, rfl, hr'⟩ := hS
        exact Behind.plain X hL rfl ⟨_, _, rfl, rfl, hr'⟩ hH hF hn fun target hr => XS.idiv X.here hx rfl (g := mkF m pc ls _) hd rfl hy hr
    · cases h
  case irem =>
    simp only [step] at h
    obtain rfl := hlen.resolve_left (by simp [ilen])
    split at h
    · rename_i y x r
      by_cases hy : y = 0
      · simp [hy] at h
      · simp only [hy, decide_false, cond_false, Option.some.injEq, Prod.mk.injEq] at h; obtain ⟨rfl, rfl, rfl, rfl⟩ := h
        obtain ⟨_, _, rfl, rfl, _, _, rfl, rfl, hr'⟩ := hS
        exact Behind.plain X hL rfl ⟨_, _, rfl, rfl, hr'⟩ hH hF hn fun target hr => iremM X hx rfl (g := mkF m pc ls _) hd rfl hy hr
    · cases h
  case lshl =>
    simp only [step] at h
    obtain rfl := hlen.resolve_left (by simp [ilen])
    split at h
    · rename_i y x r
      simp only [Option.some.injEq, Prod.mk.injEq] at h; obtain ⟨rfl, rfl, rfl, rfl⟩ := h
      obtain ⟨_, _, rfl, rfl, _, _, rfl, rfl, hr'⟩ := hS
      exact Behind.plain X hL rfl ⟨_, _, rfl, rfl, hr'⟩ hH hF hn fun target hr => XS.lshl X.here hx rfl (g := mkF m pc ls _) hd rfl hr
    · cases h
  case lushr =>
    simp only [step] at h
    obtain rfl := hlen.resolve_left (by simp [ilen])
    split at h
    · rename_i y x r
      simp only [Option.some.injEq, Prod.mk.injEq] at h; obtain ⟨rfl, rfl, rfl, rfl⟩ := h
      obtain ⟨_, _, rfl, rfl, _, _, rfl, rfl, hr'⟩ := hS
      exact Behind.plain X hL rfl ⟨_, _, rfl, rfl, hr'⟩ hH hF hn fun target hr => XS.lushr X.here hx rfl (g := mkF m pc ls _) hd rfl hr
    · cases h
  case lcmp =>
    simp only [step] at h
    obtain rfl := hlen.resolve_left (by simp [ilen])
    split at h
    · rename_i y x r
      simp only [Option.some.injEq, Prod.mk.injEq] at h; obtain ⟨rfl, rfl, rfl, rfl⟩ := h
      obtain ⟨_, _, rfl, rfl, _, _, rfl, rfl, hr'⟩ := hS
      exact Behind.plain X hL rfl ⟨_, _, rfl, rfl, hr'⟩ hH hF hn fun target hr => XS.lcmp X.here hx rfl (g := mkF m pc ls _) hd rfl hr
    · cases h
  case lneg =>
    simp only [step] at h
    obtain rfl := hlen.resolve_left (by simp [ilen])
    split at h
    · rename_i x r
      simp only [Option.some.injEq, Prod.mk.injEq] at h; obtain ⟨rfl, rfl, rfl, rfl⟩ := h
      obtain ⟨_, _, rfl, rfl, hr'⟩ := hS
      exact Behind.plain X hL rfl ⟨_, _, rfl, rfl, hr'⟩ hH hF hn fun target hr => XS.lneg X.here hx rfl (g := mkF m pc ls _) hd rfl hr
    · cases h
  case i2l =>
    simp only [step] at h
    obtain rfl := hlen.resolve_left (by simp [ilen])
    split at h
    · rename_i x r
      simp only [Option.some.injEq, Prod.mk.injEq] at h; obtain ⟨rfl, rfl, rfl, rfl⟩ := h
      obtain ⟨_, _, rfl, rfl, hr'⟩ := hS
      exact Behind.plain X hL rfl ⟨_, _, rfl, rfl, hr'⟩ hH hF hn fun target hr => XS.i2l X.here hx rfl (g := mkF m pc ls _) hd rfl hr
    · cases h
  case l2i =>
    simp only [step] at h
    obtain rfl := hlen.resolve_left (by simp [ilen])
    split at h
    · rename_i x r
      simp only [Option.some.injEq, Prod.mk.injEq] at h; obtain ⟨rfl, rfl, rfl, rfl⟩ := h
      obtain ⟨_, _, rfl, rfl, hr'⟩ := hS
      exact Behind.plain X hL rfl ⟨_, _, rfl, rfl, hr'⟩ hH hF hn fun target hr => XS.l2i X.here hx rfl (g := mkF m pc ls _) hd rfl hr
    · cases h
  case i2b =>
    simp only [step] at h
    obtain rfl := hlen.resolve_left (by simp [ilen])
    split at h
    · rename_i x r
      simp only [Option.some.injEq, Prod.mk.injEq] at h; obtain ⟨rfl, rfl, rfl, rfl⟩ := h
      obtain ⟨_, _, rfl, rfl, hr'⟩ := hS
      exact Behind.plain X hL rfl ⟨_, _, rfl, rfl, hr'⟩ hH hF hn fun target hr => XS.i2b X.here hx rfl (g := mkF m pc ls _) hd rfl hr
    · cases h
  case dup =>
    simp only [step] at h
    obtain rfl := hlen.resolve_left (by simp [ilen])
    split at h
    · rename_i x r
      simp only [Option.some.injEq, Prod.mk.injEq] at h; obtain ⟨rfl, rfl, rfl, rfl⟩ := h
      obtain ⟨_, _, rfl, ⟨a, ha, rfl⟩, hr'⟩ := hS
      exact Behind.plain X hL rfl ⟨_, _, rfl, ⟨a, ha, rfl⟩, _, _, rfl, ⟨a, ha, rfl⟩, hr'⟩ hH hF hn fun target hr => XS.dup X.here hx rfl (g := mkF m pc ls _) hd rfl rfl hr
    · rename_i x r
      simp only [Option.some.injEq, Prod.mk.injEq] at h; obtain ⟨rfl, rfl, rfl, rfl⟩ := h
      obtain ⟨_, _, rfl, rfl, hr'⟩ := hS
      exact Behind.plain X hL rfl ⟨_, _, rfl, rfl, _, _, rfl, rfl, hr'⟩ hH hF hn fun target hr => XS.dup X.here hx rfl (g := mkF m pc ls _) hd rfl rfl hr
    · cases h
  case dup2 =>
    simp only [step] at h
    obtain rfl := hlen.resolve_left (by simp [ilen])
    split at h
    · rename_i x y r
      simp only [Option.some.injEq, Prod.mk.injEq] at h; obtain ⟨rfl, rfl, rfl, rfl⟩ := h
      obtain ⟨_, _, rfl, rfl, _, _, rfl, ⟨a, ha, rfl⟩, hr'⟩ := hS
      exact Behind.plain X hL rfl ⟨_, _, rfl, rfl, _, _, rfl, ⟨a, ha, rfl⟩, _, _, rfl, rfl, _, _, rfl, ⟨a, ha, rfl⟩, hr'⟩ hH hF hn fun target hr => XT.dup2 X.here hx rfl (g := mkF m pc ls _) hd rfl rfl rfl hr
    · cases h
  case pop =>
    simp only [step] at h
    obtain rfl := hlen.resolve_left (by simp [ilen])
    split at h
    · rename_i x r
      simp only [Option.some.injEq, Prod.mk.injEq] at h; obtain ⟨rfl, rfl, rfl, rfl⟩ := h
      obtain ⟨_, _, rfl, rfl, hr'⟩ := hS
      exact Behind.plain X hL rfl hr' hH hF hn fun target hr => XS.pop X.here hx rfl (g := mkF m pc ls _) hd rfl rfl hr
    · rename_i x r
      simp only [Option.some.injEq, Prod.mk.injEq] at h; obtain ⟨rfl, rfl, rfl, rfl⟩ := h
      obtain ⟨_, _, rfl, ⟨a, ha, rfl⟩, hr'⟩ := hS
      exact Behind.plain X hL rfl hr' hH hF hn fun target hr => XS.pop X.here hx rfl (g := mkF m pc ls _) hd rfl rfl hr
    · cases h
  case goto o =>
    simp only [step] at h
    obtain rfl := hlen.resolve_left (by simp [ilen])
    cases ht : tgt pc o with
    | none => simp [ht] at h
    | some t =>
      simp only [ht, Option.some.injEq, Prod.mk.injEq] at h; obtain ⟨rfl, rfl, rfl, rfl⟩ := h
      exact Behind.plain X hL rfl hS hH hF hn fun target hr => XS.goto X.here hx rfl (g := mkF m pc ls st) (pc0 := pc) rfl hd (tgt_spec ht).1 (tgt_spec ht).2 hr
  case ifCond cd o =>
    simp only [step] at h
    obtain rfl := hlen.resolve_left (by simp [ilen])
    split at h
    · rename_i x r
      obtain ⟨_, _, rfl, rfl, hr'⟩ := hS
      cases hc : if_icmp.holds cd x 0
      · simp only [hc, cond_false, Option.some.injEq, Prod.mk.injEq] at h; obtain ⟨rfl, rfl, rfl, rfl⟩ := h
        exact Behind.plain X hL rfl hr' hH hF hn fun target hr => XS.ifNo X.here hx rfl (g := mkF m pc ls _) hd rfl ((if0 _ _).trans hc) hr
      · cases ht : tgt pc o with
        | none => simp [hc, ht] at h
        | some t =>
          simp only [hc, ht, cond_true, Option.some.injEq, Prod.mk.injEq] at h; obtain ⟨rfl, rfl, rfl, rfl⟩ := h
          exact Behind.plain X hL rfl hr' hH hF hn fun target hr => XS.ifYes X.here hx rfl (g := mkF m pc ls _) (pc0 := pc) rfl hd rfl ((if0 _ _).trans hc) (tgt_spec ht).1 (tgt_spec ht).2 hr
    · cases h
  case if_icmp cd o =>
    simp only [step] at h
    obtain rfl := hlen.resolve_left (by simp [ilen])
    split at h
    · rename_i y x r
      obtain ⟨_, _, rfl, rfl, _, _, rfl, rfl, hr'⟩ := hS
      cases hc : if_icmp.holds cd x y
      · simp only [hc, cond_false, Option.some.injEq, Prod.mk.injEq] at h; obtain ⟨rfl, rfl, rfl, rfl⟩ := h
        exact Behind.plain X hL rfl hr' hH hF hn fun target hr => XS.icmpNo X.here hx rfl (g := mkF m pc ls _) hd rfl hc hr
      · cases ht : tgt pc o with
        | none => simp [hc, ht] at h
        | some t =>
          simp only [hc, ht, cond_true, Option.some.injEq, Prod.mk.injEq] at h; obtain ⟨rfl, rfl, rfl, rfl⟩ := h
          exact Behind.plain X hL rfl hr' hH hF hn fun target hr => XS.icmpYes X.here hx rfl (g := mkF m pc ls _) (pc0 := pc) rfl hd rfl hc (tgt_spec ht).1 (tgt_spec ht).2 hr
    · cases h
  case tableswitch d lo hi offs =>
    simp only [step] at h
    split at h
    · rename_i x r
      obtain ⟨_, _, rfl, rfl, hr'⟩ := hS
      by_cases ho : x.toInt < lo ∨ x.toInt > hi
      · have ho' : (decide (x.toInt < lo) || decide (x.toInt > hi)) = true := by simpa using ho
        cases ht : tgt pc d with
        | none => simp [ho', ht] at h
        | some t =>
          simp only [ho', ht, cond_true, Option.some.injEq, Prod.mk.injEq] at h; obtain ⟨rfl, rfl, rfl, rfl⟩ := h
          exact Behind.plain X hL rfl hr' hH hF hn fun target hr => XS.tswOut X.here hx rfl (g := mkF m pc ls _) (pc0 := pc) rfl hd rfl ho (tgt_spec ht).1 (tgt_spec ht).2 hr
      · have ho' : (decide (x.toInt < lo) || decide (x.toInt > hi)) = false := by simpa using ho
        cases hq : offs.toList[(x.toInt - lo).toNat]? with
        | none => simp [ho', hq] at h
        | some o =>
          cases ht : tgt pc o with
          | none => simp [ho', hq, ht] at h
          | some t =>
            simp only [ho', hq, ht, cond_false, Option.some.injEq, Prod.mk.injEq] at h; obtain ⟨rfl, rfl, rfl, rfl⟩ := h
            exact Behind.plain X hL rfl hr' hH hF hn fun target hr => XS.tswIn X.here hx rfl (g := mkF m pc ls _) (pc0 := pc) rfl hd rfl ho (by rw [← Array.getElem?_toList]; exact hq) (tgt_spec ht).1 (tgt_spec ht).2 hr
    · cases h
  case getfield j =>
    simp only [step] at h
    obtain rfl := hlen.resolve_left (by simp [ilen])
    split at h
    · rename_i a r
      obtain ⟨_, _, rfl, ⟨b, hb, rfl⟩, hr'⟩ := hS
      cases hf : P.fld (P.cls k) j with
      | none => simp [hf] at h
      | some f =>
        cases hg : getC H a f with
        | none => simp [hf, hg] at h
        | some v =>
          simp only [hf, hg, Option.some.injEq, Prod.mk.injEq] at h; obtain ⟨rfl, rfl, rfl, rfl⟩ := h
          obtain ⟨n, d, t, fin, g1, g2⟩ := G2 _ _ _ hf
          unfold getC at hg
          split at hg
          · rename_i fs hfs
            obtain ⟨b', e1, e2, e3, e4⟩ := hH.2.2.2 _ _ hfs
            cases hb.symm.trans e1
            obtain ⟨w, e5, e6⟩ := e4 _ _ _ _ _ _ hg g1
            obtain ⟨T2, X2, e7, s2⟩ := getF X hx hZ hown (host := "") (Or.inl g2) Via.refl rfl e6 (g := mkF m pc ls _) rfl rfl hd
            exact Behind.plain' X2 e7 hL rfl ⟨w, _, rfl, e5, hr'⟩ hH hF hn s2
          · cases hg
    · cases h
  case putfield j =>
    simp only [step] at h
    obtain rfl := hlen.resolve_left (by simp [ilen])
    split at h
    · rename_i v a r
      obtain ⟨w0, _, rfl, hv0, _, _, rfl, ⟨b, hb, rfl⟩, hr'⟩ := hS
      cases hf : P.fld (P.cls k) j with
      | none => simp [hf] at h
      | some f =>
        obtain ⟨n, d, t, fin, g1, g2⟩ := G2 _ _ _ hf
        simp only [hf, g1] at h
        cases hq : (!fin || P.ini k) && Nat.ble P.ro a
        · simp [hq] at h
        · simp only [hq, cond_true] at h
          cases hv : conv t v with
          | none => simp [hv] at h
          | some v' =>
            simp only [hv] at h
            split at h
            · rename_i fs hfs
              cases hz : Nat.ble (f + 1) fs.length
              · simp [hz] at h
              · simp only [hz, cond_true, Option.some.injEq, Prod.mk.injEq] at h; obtain ⟨rfl, rfl, rfl, rfl⟩ := h
                obtain ⟨b', e1, e2, e3, e4⟩ := hH.2.2.2 _ _ hfs
                cases hb.symm.trans e1
                simp only [Bool.and_eq_true, Bool.or_eq_true, Bool.not_eq_true'] at hq
                have hro : P.ro ≤ a := Nat.le_of_ble_eq_true hq.2
                have hfl : f < fs.length := Nat.le_of_ble_eq_true hz
                obtain ⟨l1, ty, l2, l3, l4⟩ := G3 _ _ _ _ _ g1
                obtain ⟨w, hw, hnw, hfw⟩ : ∃ w, VR am v' w ∧ narrow ty w0 = w ∧ fits ty w = true := by
                  unfold conv at hv
                  split at hv
                  · cases hv; cases hv0; cases ty <;> simp only [tyOk, Bool.false_eq_true] at l3; exact ⟨_, rfl, rfl, rfl⟩
                  · cases hv; cases hv0; cases ty <;> simp only [tyOk, Bool.false_eq_true] at l3; exact ⟨_, rfl, rfl, fits_nar_bool _⟩
                  · cases hv; cases hv0; cases ty <;> simp only [tyOk, Bool.false_eq_true] at l3; exact ⟨_, rfl, rfl, rfl⟩
                  · cases hv; obtain ⟨z, hz1, rfl⟩ := hv0; cases ty <;> simp only [tyOk, Bool.false_eq_true] at l3; exact ⟨_, ⟨z, hz1, rfl⟩, rfl, rfl⟩
                  · cases hv
                obtain ⟨old, o1, o2⟩ := e4 f _ _ _ _ _ (List.getElem?_eq_getElem hfl) g1
                have hfin : (Cond.lays C C n d).before a0 Z = true ∨ ((Cond.laysFinal C C n d).before a0 Z = true ∧ cn (P.cls k) = C ∧ meth.name = "<init>") := by
                  cases fin
                  · exact Or.inl l1
                  · obtain ⟨q1, q2⟩ := hini (by simpa using hq.1); exact Or.inr ⟨l1, q2, q1⟩
                obtain ⟨T2, h2, X2, e7, W2, s2⟩ := putFN X hx hZ hown g2 Via.refl rfl o2 e2 hfin G6 l2 hnw hfw (g := mkF m pc ls _) rfl rfl hd
                refine Behind.write (T' := T2) X2 e7 W2 hL hr' hH hb hro hfs rfl ?_ hF hn s2
                refine ⟨e2.wr W2, by rw [List.length_set]; exact e3, fun j' u n' d' t' f' q1 q2 => ?_⟩
                rw [List.getElem?_set] at q1
                by_cases ej : f = j'
                · subst ej
                  rw [if_pos rfl, if_pos hfl] at q1
                  cases q1
                  rw [g1] at q2; cases q2
                  exact ⟨w, hw, o2.same W2⟩
                · rw [if_neg ej] at q1
                  obtain ⟨w', y1, y2⟩ := e4 _ _ _ _ _ _ q1 q2
                  obtain ⟨l1', ty', l2', -, -⟩ := G3 _ _ _ _ _ q2
                  have hl1 : Laid Z a0 C C n d := by cases fin; exact Or.inl l1; exact Or.inr l1
                  have hl2 : Laid Z a0 C C n' d' := by cases f'; exact Or.inl l1'; exact Or.inr l1'
                  exact ⟨w', y1, y2.other W2 (Or.inr (slot_ne hl2 hl1 (G4 _ _ _ _ _ _ _ _ _ _ q2 g1 (Ne.symm ej)) l2' l2))⟩
            · cases h
    · cases h
  case iaload =>
    simp only [step] at h
    obtain rfl := hlen.resolve_left (by simp [ilen])
    split at h
    · rename_i j a r
      obtain ⟨_, _, rfl, rfl, _, _, rfl, ⟨b, hb, rfl⟩, hr'⟩ := hS
      split at h
      · rename_i xs hxs
        cases hj : inb xs.length j
        · simp [hj] at h
        · simp only [hj, cond_true, Option.some.injEq, Prod.mk.injEq] at h; obtain ⟨rfl, rfl, rfl, rfl⟩ := h
          obtain ⟨b', e1, cl, A1, A2, A3⟩ := hH.2.2.2 _ _ hxs
          cases hb.symm.trans e1
          have hin := inb_spec hj
          rw [← A2] at hin
          exact Behind.plain X hL rfl ⟨_, _, rfl, rfl, hr'⟩ hH hF hn fun target hr => X.iaload hx A1.1 (State.isArrayOf_alike hZ.alike A1.2.1) A1.2.2 hin (A3 _ _ (rd_at hj)) (g := mkF m pc ls _) rfl rfl hd _ hr
      · rename_i xs hxs
        cases hj : inb xs.length j
        · simp [hj] at h
        · simp only [hj, cond_true, Option.some.injEq, Prod.mk.injEq] at h; obtain ⟨rfl, rfl, rfl, rfl⟩ := h
          obtain ⟨b', e1, cl, A1, A2, A3⟩ := hH.2.2.2 _ _ hxs
          cases hb.symm.trans e1
          have hin := inb_spec hj
          rw [← A2] at hin
          exact Behind.plain X hL rfl ⟨_, _, rfl, rfl, hr'⟩ hH hF hn fun target hr => X.iaload hx A1.1 (State.isArrayOf_alike hZ.alike A1.2.1) A1.2.2 hin (A3 _ _ (rd_at hj)) (g := mkF m pc ls _) rfl rfl hd _ hr
      · cases h
    · cases h
  case baload =>
    simp only [step] at h
    obtain rfl := hlen.resolve_left (by simp [ilen])
    split at h
    · rename_i j a r
      obtain ⟨_, _, rfl, rfl, _, _, rfl, ⟨b, hb, rfl⟩, hr'⟩ := hS
      split at h
      · rename_i xs hxs
        cases hj : inb xs.length j
        · simp [hj] at h
        · simp only [hj, cond_true, Option.some.injEq, Prod.mk.injEq] at h; obtain ⟨rfl, rfl, rfl, rfl⟩ := h
          obtain ⟨b', e1, cl, A1, A2, A3⟩ := hH.2.2.2 _ _ hxs
          cases hb.symm.trans e1
          have hin := inb_spec hj
          rw [← A2] at hin
          exact Behind.plain X hL rfl ⟨_, _, rfl, rfl, hr'⟩ hH hF hn fun target hr => X.baloadBooleans hx A1.1 (State.isArrayOf_alike hZ.alike A1.2.1) A1.2.2 hin (A3 _ _ (rd_at hj)) (g := mkF m pc ls _) rfl rfl hd _ hr
      · rename_i xs hxs
        cases hj : inb xs.length j
        · simp [hj] at h
        · simp only [hj, cond_true, Option.some.injEq, Prod.mk.injEq] at h; obtain ⟨rfl, rfl, rfl, rfl⟩ := h
          obtain ⟨b', e1, cl, A1, A2, A3⟩ := hH.2.2.2 _ _ hxs
          cases hb.symm.trans e1
          have hin := inb_spec hj
          rw [← A2] at hin
          exact Behind.plain X hL rfl ⟨_, _, rfl, rfl, hr'⟩ hH hF hn fun target hr => X.baloadBytes hx A1.1 (State.isArrayOf_alike hZ.alike A1.2.1) A1.2.2 hin (A3 _ _ (rd_at hj)) (g := mkF m pc ls _) rfl rfl hd _ hr
      · cases h
    · cases h
  case laload =>
    simp only [step] at h
    obtain rfl := hlen.resolve_left (by simp [ilen])
    split at h
    · rename_i j a r
      obtain ⟨_, _, rfl, rfl, _, _, rfl, ⟨b, hb, rfl⟩, hr'⟩ := hS
      split at h
      · rename_i xs hxs
        cases hj : inb xs.length j
        · simp [hj] at h
        · simp only [hj, cond_true, Option.some.injEq, Prod.mk.injEq] at h; obtain ⟨rfl, rfl, rfl, rfl⟩ := h
          obtain ⟨b', e1, cl, A1, A2, A3⟩ := hH.2.2.2 _ _ hxs
          cases hb.symm.trans e1
          have hin := inb_spec hj
          rw [← A2] at hin
          exact Behind.plain X hL rfl ⟨_, _, rfl, rfl, hr'⟩ hH hF hn fun target hr => X.laload hx A1.1 (State.isArrayOf_alike hZ.alike A1.2.1) A1.2.2 hin (A3 _ _ (rdL_at hj)) (g := mkF m pc ls _) rfl rfl hd _ hr
      · cases h
    · cases h
  case iastore =>
    simp only [step] at h
    obtain rfl := hlen.resolve_left (by simp [ilen])
    split at h
    · rename_i x j a r
      obtain ⟨_, _, rfl, rfl, _, _, rfl, rfl, _, _, rfl, ⟨b, hb, rfl⟩, hr'⟩ := hS
      cases hq : Nat.ble P.ro a
      · simp [hq] at h
      · simp only [hq, cond_true] at h
        have hro : P.ro ≤ a := Nat.le_of_ble_eq_true hq
        split at h
        · rename_i xs hxs
          cases hj : inb xs.length j
          · simp [hj] at h
          · simp only [hj, cond_true, Option.some.injEq, Prod.mk.injEq] at h; obtain ⟨rfl, rfl, rfl, rfl⟩ := h
            obtain ⟨b', e1, hcr⟩ := hH.2.2.2 _ _ hxs
            cases hb.symm.trans e1
            have hcr0 := hcr
            obtain ⟨cl, A1, A2, A3⟩ := hcr0
            have hin := inb_spec hj
            rw [← A2] at hin
            obtain ⟨T2, h2, X2, e7, W2, s2⟩ := stI X hx hZ rfl A1 hin (g := mkF m pc ls _) rfl rfl hd
            exact Behind.write (T' := T2) X2 e7 W2 hL hr' hH hb hro hxs (by simp [csz, wr, wrL]) (CR.wrI W2 hcr) hF hn s2
        · cases h
    · cases h
  case bastore =>
    simp only [step] at h
    obtain rfl := hlen.resolve_left (by simp [ilen])
    split at h
    · rename_i x j a r
      obtain ⟨_, _, rfl, rfl, _, _, rfl, rfl, _, _, rfl, ⟨b, hb, rfl⟩, hr'⟩ := hS
      cases hq : Nat.ble P.ro a
      · simp [hq] at h
      · simp only [hq, cond_true] at h
        have hro : P.ro ≤ a := Nat.le_of_ble_eq_true hq
        split at h
        · rename_i xs hxs
          cases hj : inb xs.length j
          · simp [hj] at h
          · simp only [hj, cond_true, Option.some.injEq, Prod.mk.injEq] at h; obtain ⟨rfl, rfl, rfl, rfl⟩ := h
            obtain ⟨b', e1, hcr⟩ := hH.2.2.2 _ _ hxs
            cases hb.symm.trans e1
            have hcr0 := hcr
            obtain ⟨cl, A1, A2, A3⟩ := hcr0
            have hin := inb_spec hj
            rw [← A2] at hin
            obtain ⟨T2, h2, X2, e7, W2, s2⟩ := stZ X hx hZ rfl A1 hin (g := mkF m pc ls _) rfl rfl hd
            exact Behind.write (T' := T2) X2 e7 W2 hL hr' hH hb hro hxs (by simp [csz, wr, wrL]) (CR.wrI W2 hcr) hF hn s2
        · rename_i xs hxs
          cases hj : inb xs.length j
          · simp [hj] at h
          · simp only [hj, cond_true, Option.some.injEq, Prod.mk.injEq] at h; obtain ⟨rfl, rfl, rfl, rfl⟩ := h
            obtain ⟨b', e1, hcr⟩ := hH.2.2.2 _ _ hxs
            cases hb.symm.trans e1
            have hcr0 := hcr
            obtain ⟨cl, A1, A2, A3⟩ := hcr0
            have hin := inb_spec hj
            rw [← A2] at hin
            obtain ⟨T2, h2, X2, e7, W2, s2⟩ := stB X hx hZ rfl A1 hin (g := mkF m pc ls _) rfl rfl hd
            exact Behind.write (T' := T2) X2 e7 W2 hL hr' hH hb hro hxs (by simp [csz, wr, wrL]) (CR.wrI W2 hcr) hF hn s2
        · cases h
    · cases h
  case lastore =>
    simp only [step] at h
    obtain rfl := hlen.resolve_left (by simp [ilen])
    split at h
    · rename_i x j a r
      obtain ⟨_, _, rfl, rfl, _, _, rfl, rfl, _, _, rfl, ⟨b, hb, rfl⟩, hr'⟩ := hS
      cases hq : Nat.ble P.ro a
      · simp [hq] at h
      · simp only [hq, cond_true] at h
        have hro : P.ro ≤ a := Nat.le_of_ble_eq_true hq
        split at h
        · rename_i xs hxs
          cases hj : inb xs.length j
          · simp [hj] at h
          · simp only [hj, cond_true, Option.some.injEq, Prod.mk.injEq] at h; obtain ⟨rfl, rfl, rfl, rfl⟩ := h
            obtain ⟨b', e1, hcr⟩ := hH.2.2.2 _ _ hxs
            cases hb.symm.trans e1
            have hcr0 := hcr
            obtain ⟨cl, A1, A2, A3⟩ := hcr0
            have hin := inb_spec hj
            rw [← A2] at hin
            obtain ⟨T2, h2, X2, e7, W2, s2⟩ := stJ X hx hZ rfl A1 hin (g := mkF m pc ls _) rfl rfl hd
            exact Behind.write (T' := T2) X2 e7 W2 hL hr' hH hb hro hxs (by simp [csz, wr, wrL]) (CR.wrJ W2 hcr) hF hn s2
        · cases h
    · cases h
  case arraylength =>
    simp only [step] at h
    obtain rfl := hlen.resolve_left (by simp [ilen])
    split at h
    · rename_i a r
      obtain ⟨_, _, rfl, ⟨b, hb, rfl⟩, hr'⟩ := hS
      split at h
      · rename_i t xs hxs
        simp only [Option.some.injEq, Prod.mk.injEq] at h; obtain ⟨rfl, rfl, rfl, rfl⟩ := h
        obtain ⟨b', e1, cl, A1, A2, A3⟩ := hH.2.2.2 _ _ hxs
        cases hb.symm.trans e1
        exact Behind.plain X hL rfl ⟨_, _, rfl, rfl, hr'⟩ hH hF hn fun target hr => X.arraylength hx A1.1 (State.isArrayOf_alike hZ.alike A1.2.1) (g := mkF m pc ls _) rfl rfl hd _ (by rw [A2]; exact hr)
      · rename_i xs hxs
        simp only [Option.some.injEq, Prod.mk.injEq] at h; obtain ⟨rfl, rfl, rfl, rfl⟩ := h
        obtain ⟨b', e1, cl, A1, A2, A3⟩ := hH.2.2.2 _ _ hxs
        cases hb.symm.trans e1
        exact Behind.plain X hL rfl ⟨_, _, rfl, rfl, hr'⟩ hH hF hn fun target hr => X.arraylength hx A1.1 (State.isArrayOf_alike hZ.alike A1.2.1) (g := mkF m pc ls _) rfl rfl hd _ (by rw [A2]; exact hr)
      · cases h
    · cases h
  case newarray t =>
    simp only [step] at h
    obtain rfl := hlen.resolve_left (by simp [ilen])
    split at h
    · rename_i n r
      obtain ⟨_, _, rfl, rfl, hr'⟩ := hS
      cases ht : atyOf t with
      | none => simp [ht] at h
      | some q =>
        simp only [ht] at h
        cases hq : (!(decide (n < 0)) && Nat.ble n.toNatClampNeg 60000 && Nat.ble (H.length + 1) P.capC && Nat.ble (hsz P H + n.toNatClampNeg) P.capS)
        · simp [hq] at h
        · simp only [hq, cond_true, Option.some.injEq, Prod.mk.injEq] at h; obtain ⟨rfl, rfl, rfl, rfl⟩ := h
          simp only [Bool.and_eq_true, Bool.not_eq_true', decide_eq_false_iff_not] at hq
          have hcap : n.toNatClampNeg ≤ 60000 := Nat.le_of_ble_eq_true hq.1.1.2
          have hq1 := hq.1.1.1
          have d1 : (H ++ [newC q n.toNatClampNeg]).length - H.length = 1 := by simp
          have d2 : hsz P (H ++ [newC q n.toNatClampNeg]) - hsz P H = n.toNatClampNeg := by rw [hsz_app, csz_new _ _ ht]; omega
          rw [d1] at hcells ⊢; rw [d2] at hslots ⊢
          obtain ⟨T2, h2, cA, X2, e7, E2, A2, s2⟩ := newP X hx hZ (G8 _ _ _ _ hcode) rfl (g := mkF m pc ls _) rfl hd rfl hq1 (cap := n.toNatClampNeg) (Nat.le_refl _) (by omega) hcells hslots
          have hlt : T.heap.size < h2.size := A2.lt
          have hm' := hH.1
          refine ⟨T2, am ++ [T.heap.size], ls, _, locs, X2, hL.mono (Pre.app _ _), rfl, ⟨_, _, rfl, ⟨T.heap.size, by rw [← hm']; simp, rfl⟩, hr'.mono (Pre.app _ _)⟩, by rw [e7]; exact hH.push E2 hlt hn (arr_new ht hq1 A2), Pre.app _ _, hF, by rw [e7]; omega, s2⟩
    · cases h
  case new j =>
    simp only [step] at h
    obtain rfl := hlen.resolve_left (by simp [ilen])
    split at h
    · rename_i q hk
      rw [Bool.cond_eq_ite] at h
      split at h
      case isFalse => cases h
      simp only [Option.some.injEq, Prod.mk.injEq] at h; obtain ⟨rfl, rfl, rfl, rfl⟩ := h
      have w := G9 _ _ _ _ hk
      have d1 : (H ++ [Sum.inl P.fresh]).length - H.length = 1 := by simp
      have d2 : hsz P (H ++ [Sum.inl P.fresh]) - hsz P H = P.objN := by rw [hsz_app]; simp [csz]
      rw [d1] at hcells ⊢; rw [d2] at hslots ⊢
      obtain ⟨T2, h2, X2, e7, E2, A2, D2, -, s2⟩ := newO X hx hZ hown w G6 G7 rfl (g := mkF m pc ls st) rfl hd hcells hslots
      have hlt : T.heap.size < h2.size := A2.lt
      have hm' := hH.1
      refine ⟨T2, am ++ [T.heap.size], ls, _, locs, X2, hL.mono (Pre.app _ _), rfl, ⟨_, _, rfl, ⟨T.heap.size, by rw [← hm']; simp, rfl⟩, hS.mono (Pre.app _ _)⟩, ?_, Pre.app _ _, hF, by rw [e7]; omega, s2⟩
      rw [e7]
      refine hH.push E2 hlt hn ⟨A2, by simp [Prog.fresh], fun j' v n d t f q1 q2 => ?_⟩
      obtain ⟨l1, ty, l2, l3, l4⟩ := G3 _ _ _ _ _ q2
      have hl1 : Laid Z a0 C C n d := by cases f; exact Or.inl l1; exact Or.inr l1
      have hv : v = dflt t := by rw [Prog.fresh, List.getElem?_map, q2] at q1; simpa using q1.symm
      subst hv
      refine ⟨defaultValue ty, ?_, D2 hl1 l2⟩
      rw [l4]; unfold dflt; split <;> rfl
    · cases h
  case invokespecial j =>
    simp only [step] at h
    obtain rfl := hlen.resolve_left (by simp [ilen])
    split at h
    · rename_i a r
      obtain ⟨_, _, rfl, ⟨b, hb, rfl⟩, hr'⟩ := hS
      cases hq : isObjInit P k j && Nat.ble 1 (P.rf k) && Nat.ble (cats r + 12) (P.rl k)
      · simp [hq] at h
      · simp only [hq, cond_true, Option.some.injEq, Prod.mk.injEq] at h; obtain ⟨rfl, rfl, rfl, rfl⟩ := h
        simp only [Bool.and_eq_true] at hq
        have h1 : 1 ≤ P.rf k := Nat.le_of_ble_eq_true hq.1.2
        have h2 : cats r + 12 ≤ P.rl k := Nat.le_of_ble_eq_true hq.2
        have h3 := hq.1.1
        unfold isObjInit at h3
        split at h3
        · rename_i kk hk
          obtain ⟨w1, w2, w3⟩ := G9 _ _ _ _ hk
          obtain ⟨T2, X2, e7, s2⟩ := initO X hx hZ hown w1 w2 w3 rfl (g := mkF m pc ls _) rfl (by rw [hml]; exact hlz) rfl hd (by omega) (W := cats r) (by rw [hr'.cats]; show 2 * 0 + _ ≤ _; omega) (by omega)
          exact Behind.plain' X2 e7 hL rfl hr' hH hF hn s2
        · cases h3
    · cases h
  case iadd =>
    simp only [step] at h
    obtain rfl := hlen.resolve_left (by simp [ilen])
    split at h
    · rename_i y x r
      simp only [aop, Option.some.injEq, Prod.mk.injEq] at h; obtain ⟨rfl, rfl, rfl, rfl⟩ := h
      obtain ⟨_, _, rfl, rfl, _, _, rfl, rfl, hr'⟩ := hS
      exact Behind.plain X hL rfl ⟨_, _, rfl, rfl, hr'⟩ hH hF hn fun target hr => XS.iadd X.here hx rfl (g := mkF m pc ls _) hd rfl hr
    · simp [lop] at h
    · cases h
  case isub =>
    simp only [step] at h
    obtain rfl := hlen.resolve_left (by simp [ilen])
    split at h
    · rename_i y x r
      simp only [aop, Option.some.injEq, Prod.mk.injEq] at h; obtain ⟨rfl, rfl, rfl, rfl⟩ := h
      obtain ⟨_, _, rfl, rfl, _, _, rfl, rfl, hr'⟩ := hS
      exact Behind.plain X hL rfl ⟨_, _, rfl, rfl, hr'⟩ hH hF hn fun target hr => XS.isub X.here hx rfl (g := mkF m pc ls _) hd rfl hr
    · simp [lop] at h
    · cases h
  case imul =>
    simp only [step] at h
    obtain rfl := hlen.resolve_left (by simp [ilen])
    split at h
    · rename_i y x r
      simp only [aop, Option.some.injEq, Prod.mk.injEq] at h; obtain ⟨rfl, rfl, rfl, rfl⟩ := h
      obtain ⟨_, _, rfl, rfl, _, _, rfl, rfl, hr'⟩ := hS
      exact Behind.plain X hL rfl ⟨_, _, rfl, rfl, hr'⟩ hH hF hn fun target hr => XS.imul X.here hx rfl (g := mkF m pc ls _) hd rfl hr
    · simp [lop] at h
    · cases h
  case iand =>
    simp only [step] at h
    obtain rfl := hlen.resolve_left (by simp [ilen])
    split at h
    · rename_i y x r
      simp only [aop, Option.some.injEq, Prod.mk.injEq] at h; obtain ⟨rfl, rfl, rfl, rfl⟩ := h
      obtain ⟨_, _, rfl, rfl, _, _, rfl, rfl, hr'⟩ := hS
      exact Behind.plain X hL rfl ⟨_, _, rfl, rfl, hr'⟩ hH hF hn fun target hr => XS.iand X.here hx rfl (g := mkF m pc ls _) hd rfl hr
    · simp [lop] at h
    · cases h
  case ior =>
    simp only [step] at h
    obtain rfl := hlen.resolve_left (by simp [ilen])
    split at h
    · rename_i y x r
      simp only [aop, Option.some.injEq, Prod.mk.injEq] at h; obtain ⟨rfl, rfl, rfl, rfl⟩ := h
      obtain ⟨_, _, rfl, rfl, _, _, rfl, rfl, hr'⟩ := hS
      exact Behind.plain X hL rfl ⟨_, _, rfl, rfl, hr'⟩ hH hF hn fun target hr => XS.ior X.here hx rfl (g := mkF m pc ls _) hd rfl hr
    · simp [lop] at h
    · cases h
  case ixor =>
    simp only [step] at h
    obtain rfl := hlen.resolve_left (by simp [ilen])
    split at h
    · rename_i y x r
      simp only [aop, Option.some.injEq, Prod.mk.injEq] at h; obtain ⟨rfl, rfl, rfl, rfl⟩ := h
      obtain ⟨_, _, rfl, rfl, _, _, rfl, rfl, hr'⟩ := hS
      exact Behind.plain X hL rfl ⟨_, _, rfl, rfl, hr'⟩ hH hF hn fun target hr => XS.ixor X.here hx rfl (g := mkF m pc ls _) hd rfl hr
    · simp [lop] at h
    · cases h
  case ishl =>
    simp only [step] at h
    obtain rfl := hlen.resolve_left (by simp [ilen])
    split at h
    · rename_i y x r
      simp only [aop, Option.some.injEq, Prod.mk.injEq] at h; obtain ⟨rfl, rfl, rfl, rfl⟩ := h
      obtain ⟨_, _, rfl, rfl, _, _, rfl, rfl, hr'⟩ := hS
      exact Behind.plain X hL rfl ⟨_, _, rfl, rfl, hr'⟩ hH hF hn fun target hr => XS.ishl X.here hx rfl (g := mkF m pc ls _) hd rfl hr
    · simp [lop] at h
    · cases h
  case ishr =>
    simp only [step] at h
    obtain rfl := hlen.resolve_left (by simp [ilen])
    split at h
    · rename_i y x r
      simp only [aop, Option.some.injEq, Prod.mk.injEq] at h; obtain ⟨rfl, rfl, rfl, rfl⟩ := h
      obtain ⟨_, _, rfl, rfl, _, _, rfl, rfl, hr'⟩ := hS
      exact Behind.plain X hL rfl ⟨_, _, rfl, rfl, hr'⟩ hH hF hn fun target hr => XS.ishr X.here hx rfl (g := mkF m pc ls _) hd rfl hr
    · simp [lop] at h
    · cases h
  case iushr =>
    simp only [step] at h
    obtain rfl := hlen.resolve_left (by simp [ilen])
    split at h
    · rename_i y x r
      simp only [aop, Option.some.injEq, Prod.mk.injEq] at h; obtain ⟨rfl, rfl, rfl, rfl⟩ := h
      obtain ⟨_, _, rfl, rfl, _, _, rfl, rfl, hr'⟩ := hS
      exact Behind.plain X hL rfl ⟨_, _, rfl, rfl, hr'⟩ hH hF hn fun target hr => XS.iushr X.here hx rfl (g := mkF m pc ls _) hd rfl hr
    · simp [lop] at h
    · cases h
  case ladd =>
    simp only [step] at h
    obtain rfl := hlen.resolve_left (by simp [ilen])
    split at h
    · simp [aop] at h
    · rename_i y x r
      simp only [lop, Option.some.injEq, Prod.mk.injEq] at h; obtain ⟨rfl, rfl, rfl, rfl⟩ := h
      obtain ⟨_, _, rfl, rfl, _, _, rfl, rfl, hr'⟩ := hS
      exact Behind.plain X hL rfl ⟨_, _, rfl, rfl, hr'⟩ hH hF hn fun target hr => XS.ladd X.here hx rfl (g := mkF m pc ls _) hd rfl hr
    · cases h
  case lsub =>
    simp only [step] at h
    obtain rfl := hlen.resolve_left (by simp [ilen])
    split at h
    · simp [aop] at h
    · rename_i y x r
      simp only [lop, Option.some.injEq, Prod.mk.injEq] at h; obtain ⟨rfl, rfl, rfl, rfl⟩ := h
      obtain ⟨_, _, rfl, rfl, _, _, rfl, rfl, hr'⟩ := hS
      exact Behind.plain X hL rfl ⟨_, _, rfl, rfl, hr'⟩ hH hF hn fun target hr => XS.lsub X.here hx rfl (g := mkF m pc ls _) hd rfl hr
    · cases h
  case lmul =>
    simp only [step] at h
    obtain rfl := hlen.resolve_left (by simp [ilen])
    split at h
    · simp [aop] at h
    · rename_i y x r
      simp only [lop, Option.some.injEq, Prod.mk.injEq] at h; obtain ⟨rfl, rfl, rfl, rfl⟩ := h
      obtain ⟨_, _, rfl, rfl, _, _, rfl, rfl, hr'⟩ := hS
      exact Behind.plain X hL rfl ⟨_, _, rfl, rfl, hr'⟩ hH hF hn fun target hr => XS.lmul X.here hx rfl (g := mkF m pc ls _) hd rfl hr
    · cases h
  case land =>
    simp only [step] at h
    obtain rfl := hlen.resolve_left (by simp [ilen])
    split at h
    · simp [aop] at h
    · rename_i y x r
      simp only [lop, Option.some.injEq, Prod.mk.injEq] at h; obtain ⟨rfl, rfl, rfl, rfl⟩ := h
      obtain ⟨_, _, rfl, rfl, _, _, rfl, rfl, hr'⟩ := hS
      exact Behind.plain X hL rfl ⟨_, _, rfl, rfl, hr'⟩ hH hF hn fun target hr => XS.land X.here hx rfl (g := mkF m pc ls _) hd rfl hr
    · cases h
  case lor =>
    simp only [step] at h
    obtain rfl := hlen.resolve_left (by simp [ilen])
    split at h
    · simp [aop] at h
    · rename_i y x r
      simp only [lop, Option.some.injEq, Prod.mk.injEq] at h; obtain ⟨rfl, rfl, rfl, rfl⟩ := h
      obtain ⟨_, _, rfl, rfl, _, _, rfl, rfl, hr'⟩ := hS
      exact Behind.plain X hL rfl ⟨_, _, rfl, rfl, hr'⟩ hH hF hn fun target hr => XS.lor X.here hx rfl (g := mkF m pc ls _) hd rfl hr
    · cases h
  case lxor =>
    simp only [step] at h
    obtain rfl := hlen.resolve_left (by simp [ilen])
    split at h
    · simp [aop] at h
    · rename_i y x r
      simp only [lop, Option.some.injEq, Prod.mk.injEq] at h; obtain ⟨rfl, rfl, rfl, rfl⟩ := h
      obtain ⟨_, _, rfl, rfl, _, _, rfl, rfl, hr'⟩ := hS
      exact Behind.plain X hL rfl ⟨_, _, rfl, rfl, hr'⟩ hH hF hn fun target hr => XS.lxor X.here hx rfl (g := mkF m pc ls _) hd rfl hr
    · cases h
  all_goals (exfalso; simp only [step] at h; split at h <;> simp [aop, lop] at h)
end Sound
end Jvm.OwnX
namespace Jvm.OwnX
open Sem ClassFile Op Lib Jvm.Stand Jvm.Free Jvm.LawKit Jvm.RoadKit
set_option maxHeartbeats 4000000 in
theorem step_grow {P : Prog} {k pc np pc' : Nat} {i : Instr} {L L' : ALoc} {S S' : List Value} {H H' : AHeap} (h : step P k i np pc L S H = some (pc', L', S', H')) : H.length ≤ H'.length ∧ hsz P H ≤ hsz P H' := by
  cases i <;> simp only [step, Bool.cond_eq_ite] at h
  all_goals (repeat' (split at h))
  all_goals first
    | (cases h; done)
    | (simp only [Option.some.injEq, Prod.mk.injEq] at h; obtain ⟨-, -, -, rfl⟩ := h; exact ⟨Nat.le_refl _, Nat.le_refl _⟩)
    | (simp only [Option.some.injEq, Prod.mk.injEq] at h; obtain ⟨-, -, -, rfl⟩ := h; exact ⟨by simp, by rw [hsz_app]; omega⟩)
    | (simp only [Option.some.injEq, Prod.mk.injEq] at h; obtain ⟨-, -, -, rfl⟩ := h; exact ⟨by simp, Nat.le_of_eq (hsz_set P _ _ _ _ (by assumption) (by simp [csz, wr, wrL])).symm⟩)
set_option maxHeartbeats 4000000 in
theorem step_cap {P : Prog} {k pc np pc' : Nat} {i : Instr} {L L' : ALoc} {S S' : List Value} {H H' : AHeap} (h : step P k i np pc L S H = some (pc', L', S', H')) : (H'.length ≤ H.length ∨ H'.length ≤ P.capC) ∧ (hsz P H' ≤ hsz P H ∨ hsz P H' ≤ P.capS) := by
  cases i <;> simp only [step, Bool.cond_eq_ite] at h
  case newarray t =>
    split at h
    · split at h
      · rename_i q ht
        split at h
        · rename_i hq
          simp only [Option.some.injEq, Prod.mk.injEq] at h; obtain ⟨-, -, -, rfl⟩ := h
          simp only [Bool.and_eq_true] at hq
          have h1 := Nat.le_of_ble_eq_true hq.1.2
          have h2 := Nat.le_of_ble_eq_true hq.2
          exact ⟨Or.inr (by simpa using h1), Or.inr (by rw [hsz_app, csz_new _ _ ht]; exact h2)⟩
        · cases h
      · cases h
    · cases h
  case new j =>
    split at h
    · split at h
      · rename_i hq
        simp only [Option.some.injEq, Prod.mk.injEq] at h; obtain ⟨-, -, -, rfl⟩ := h
        simp only [Bool.and_eq_true] at hq
        have h1 := Nat.le_of_ble_eq_true hq.1
        have h2 := Nat.le_of_ble_eq_true hq.2
        exact ⟨Or.inr (by simpa using h1), Or.inr (by rw [hsz_app]; exact h2)⟩
      · cases h
    · cases h
  all_goals (repeat' (split at h))
  all_goals first
    | (cases h; done)
    | (simp only [Option.some.injEq, Prod.mk.injEq] at h; obtain ⟨-, -, -, rfl⟩ := h; exact ⟨Or.inl (Nat.le_refl _), Or.inl (Nat.le_refl _)⟩)
    | (simp only [Option.some.injEq, Prod.mk.injEq] at h; obtain ⟨-, -, -, rfl⟩ := h; exact ⟨Or.inl (by simp), Or.inl (Nat.le_of_eq (hsz_set P _ _ _ _ (by assumption) (by simp [csz, wr, wrL])))⟩)
theorem run_cap {P : Prog} : ∀ {n k pc : Nat} {L : ALoc} {S : List Value} {H : AHeap} {v : Option Value} {H' : AHeap}, run P n k pc L S H = some (v, H') → (H'.length ≤ H.length ∨ H'.length ≤ P.capC) ∧ (hsz P H' ≤ hsz P H ∨ hsz P H' ≤ P.capS)
  | 0, k, pc, L, S, H, v, H', h => by simp [run] at h
  | n + 1, k, pc, L, S, H, v, H', h => by
    rw [run] at h
    split at h
    · cases h
    · split at h
      · cases h; exact ⟨Or.inl (Nat.le_refl _), Or.inl (Nat.le_refl _)⟩
      · split at h
        · split at h
          · rename_i h1
            have g1 := run_cap h1
            have g2 := run_cap h
            omega
          · cases h
        · split at h
          · rename_i h1
            have g1 := step_cap h1
            have g2 := run_cap h
            omega
          · cases h
theorem run_grow {P : Prog} : ∀ {n k pc : Nat} {L : ALoc} {S : List Value} {H : AHeap} {v : Option Value} {H' : AHeap}, run P n k pc L S H = some (v, H') → H.length ≤ H'.length ∧ hsz P H ≤ hsz P H'
  | 0, k, pc, L, S, H, v, H', h => by simp [run] at h
  | n + 1, k, pc, L, S, H, v, H', h => by
    rw [run] at h
    split at h
    · cases h
    · split at h
      · cases h; exact ⟨Nat.le_refl _, Nat.le_refl _⟩
      · split at h
        · split at h
          · rename_i h1
            have g1 := run_grow h1
            have g2 := run_grow h
            omega
          · cases h
        · split at h
          · rename_i h1
            have g1 := step_grow h1
            have g2 := run_grow h
            omega
          · cases h
def OVR (am : List Addr) (v w : Option Value) : Prop := match v with
  | none => w = none
  | some x => ∃ y, w = some y ∧ VR am x y
theorem callV_spec {P : Prog} {k k' : Nat} {i : Instr} {S as rest : List Value} {H : AHeap} (h : callV P k i S H = some (k', as, rest)) :
    ∃ j q, poolOf i = some j ∧ P.link (P.cls k) j = some (q, k') ∧ kindOk i q = true ∧ S = as.reverse ++ rest ∧ as.length = P.pops k' ∧ P.rf k' + 1 ≤ P.rf k ∧ cats rest + (P.maxL k' + 11) + P.rl k' ≤ P.rl k ∧ recvOk P H q as = true ∧ (entL as).length ≤ P.maxL k' := by
  unfold callV at h
  split at h
  · cases h
  · rename_i j hj
    split at h
    · cases h
    · rename_i q k'' hk
      rw [Bool.cond_eq_ite] at h
      split at h
      · rename_i hc
        simp only [Option.some.injEq, Prod.mk.injEq] at h
        obtain ⟨rfl, rfl, rfl⟩ := h
        simp only [Bool.and_eq_true] at hc
        obtain ⟨⟨⟨⟨⟨c1, c2⟩, c3⟩, c4⟩, c5⟩, c6⟩ := hc
        have c2' := Nat.le_of_ble_eq_true c2
        exact ⟨j, q, hj, hk, c1, by rw [List.reverse_reverse, List.take_append_drop], by simp [c2'], Nat.le_of_ble_eq_true c3, Nat.le_of_ble_eq_true c4, c5, Nat.le_of_ble_eq_true c6⟩
      · cases h
theorem linkOk_call {P : Prog} {nm : Nat → MethodName} {bc : Nat → ByteArray} {cn : Nat → String} {C : String} {Z : State} {a0 : Array Value} {c j q k : Nat} (h4 : q ≠ 4) (h5 : q ≠ 5) (h : LinkOk P nm bc cn C Z a0 c j q k) : CallOk P nm bc cn C Z a0 c j q k := by
  unfold LinkOk at h
  split at h
  · exact absurd rfl h4
  · exact absurd rfl h5
  · exact h
theorem recv_spec {P : Prog} {H : AHeap} {q : Nat} {as : List Value} (h0 : q ≠ 0) (h : recvOk P H q as = true) : ∃ a r fs, as = .ref a :: r ∧ H[a]? = some (.inl fs) := by
  unfold recvOk at h
  split at h
  · exact absurd rfl h0
  · split at h
    · split at h
      · rename_i fs hfs
        exact ⟨_, _, fs, rfl, hfs⟩
      · cases h
    · cases h
theorem retV_spec {P : Prog} {k : Nat} {i : Instr} {S : List Value} {v : Option Value} (h : retV P k i S = some v) :
    (i = .return_ ∧ S = [] ∧ P.ret k = none ∧ v = none) ∨ (∃ x r, i = .ireturn ∧ S = .int x :: r ∧ P.ret k = some .int ∧ v = some (.int x)) ∨ (∃ x r, i = .ireturn ∧ S = .int x :: r ∧ P.ret k = some .boolean ∧ v = some (.int (x &&& 1))) ∨ (∃ x r, i = .lreturn ∧ S = .long x :: r ∧ P.ret k = some .long ∧ v = some (.long x)) := by
  unfold retV at h
  split at h
  · split at h
    · rename_i hr; cases h; exact Or.inl ⟨rfl, rfl, hr, rfl⟩
    · cases h
  · split at h
    · split at h
      · rename_i hr; cases h; exact Or.inr (Or.inl ⟨_, _, rfl, rfl, hr, rfl⟩)
      · rename_i hr; cases h; exact Or.inr (Or.inr (Or.inl ⟨_, _, rfl, rfl, hr, rfl⟩))
      · cases h
    · cases h
  · split at h
    · split at h
      · rename_i hr; cases h; exact Or.inr (Or.inr (Or.inr ⟨_, _, rfl, rfl, hr, rfl⟩))
      · cases h
    · cases h
  · cases h
/-- what a callee's contract says behind it -/
def QC (P : Prog) (C : String) (Z : State) (n0 : Nat) (am : List Addr) (v : Option Value) (H1 : AHeap) (w : Option Value) (h' : Heap) (Lc : List Loc) : Prop := Fr n0 Lc ∧ n0 ≤ h'.size ∧ ∃ am', Pre am am' ∧ HR P C Z n0 am' H1 h' ∧ OVR am' v w
/-- the frame's theorem, for one amount of fuel -/
def SoundAt (P : Prog) (nm : Nat → MethodName) (bc : Nat → ByteArray) (cn : Nat → String) (C : String) (Z : State) (n : Nat) : Prop :=
  ∀ (k pc : Nat) (L : ALoc) (S : List Value) (H : AHeap) (v : Option Value) (H' : AHeap), run P n k pc L S H = some (v, H') →
  ∀ {p : Program} {l : Launch} {e : Env} {R : Room} {s : State} {m : MethodId} {args : Array Value} {below : List Frame} {meth : Method} {c : Code} {T : State} {locs : List Loc} {cells slots n0 : Nat} {am : List Addr} {ls : Array Slot} {st : List Value},
    Stand p l e R s m args below meth c T locs cells slots → p.tables.exec = Jvm.exec → Z.Warmed39 s.vm → c.code = bc k → c.maxLocals = P.maxL k → meth.sig.returnType = P.ret k → s.vm.findClass (cn (P.cls k)) = some m.cls → (P.ini k = true → meth.name = "<init>" ∧ cn (P.cls k) = C) →
    P.rf k ≤ R.frames → P.rl k ≤ R.locals → cells + (H'.length - H.length) ≤ R.cells → slots + (hsz P H' - hsz P H) ≤ R.slots → ls.size = P.maxL k → LR am L ls → SR am S st → HR P C Z n0 am H T.heap → Fr n0 locs → n0 ≤ T.heap.size →
    ∃ T' am' locs' w, Stand p l e R s m args below meth c T' locs' (cells + (H'.length - H.length)) (slots + (hsz P H' - hsz P H)) ∧ HR P C Z n0 am' H' T'.heap ∧ Pre am am' ∧ Fr n0 locs' ∧ OVR am' v w ∧ n0 ≤ T'.heap.size ∧ (P.ret k = none → w = none) ∧
      ∀ fs, (∀ (f : JFrame) (acts : List Action), f.method = m → f.locked = none → f.entered = [] → (doReturn e (T'.setTop f) acts w).1 = T'.setFrames fs) → Steps p.tables e below (T.setTop (mkF m pc ls st)) (T'.setFrames fs)
section Met
variable {P : Prog} {nm : Nat → MethodName} {bc : Nat → ByteArray} {cn : Nat → String} {C : String} {Z : State} {a0 : Array Value}
theorem metOf {n k : Nat} {as : List Value} {H H1 : AHeap} {v : Option Value} (IH : SoundAt P nm bc cn C Z n) (hrun : run P n k 0 (entry P k as) [] H = some (v, H1)) {l : Launch} {wsC : List Cond} {rm : Room} (hpl : plainName (nm k).cls = true) (hcls : (nm k).cls = cn (P.cls k)) (hini : P.ini k = true → (nm k).name = "<init>" ∧ (nm k).cls = C)
    (hrf : P.rf k ≤ rm.frames) (hrl : P.rl k ≤ rm.locals) (hrc : H1.length - H.length ≤ rm.cells) (hrs : hsz P H1 - hsz P H ≤ rm.slots) {am : List Addr} {ws : List Value} {h : Heap} {n0 : Nat} (hS : SR am as ws) (hE : (entL as).length ≤ P.maxL k) (hH : HR P C Z n0 am H h) (hn : n0 ≤ h.size) :
    MetFree l (nm k) (head1 (Cond.code (nm k) (bc k) (P.maxL k) (P.ret k) :: wsC) rm) (fun a U => a = ws.toArray ∧ Z.Warmed39 U.vm ∧ U.heap = h) (fun _ _ _ _ _ => True)
      (fun _ U o U' => ∃ w Lc, o = .returned w ∧ QC P C Z n0 am v H1 w U'.heap Lc ∧ FrameEnd U o U' Lc (H1.length - H.length) (hsz P H1 - hsz P H)) := by
  refine MetFree.of_bodySF (plainFor_of_name hpl) hisR ?_
  intro p e s m args below meth c s₁ Bd hml0 hP hK
  obtain ⟨rfl, hZ, hh⟩ := hP
  have hown : s.vm.findClass (nm k).cls = some m.cls := findClass_of_methodNamed Bd.named
  have hnm := (name_of_methodNamed Bd.named Bd.method).1
  have X0 : Stand p l e rm s m ws.toArray below meth c s₁ [] 0 0 := Stand.of_body Bd
  have e0 : s₁.heap = h := by rw [← hh, Bd.state]; rfl
  have hsl := (slotsL_ok hS).1
  obtain ⟨T', am', locs', w, X', h1, h2, h3, h4, h5, h6, h7⟩ := IH k 0 _ _ _ _ _ hrun X0 Bd.exec hZ Bd.bytes hml0 Bd.returns (by rw [← hcls]; exact hown) (fun q => ⟨by rw [hnm]; exact (hini q).1, by rw [← hcls]; exact (hini q).2⟩) hrf hrl (by omega) (by omega) (entry_size (ws := ws) (n := P.maxL k) (by omega)) (LR.entry hS hE) (st := []) rfl (by rw [e0]; exact hH) (Fr.nil n0) (by rw [e0]; exact hn)
  obtain ⟨fs, hr, hrun', hended, hW, hsame⟩ := X'.leave (v := w) (fun q => h6 (by rw [← Bd.returns]; exact q))
  exact ⟨_, _, h7 fs hr, hrun', hended, w, locs', rfl, ⟨h3, h5, am', h2, h1, h4⟩, ⟨_, rfl⟩, hW, hsame.mono (by omega) (by omega)⟩
variable {p : Program} {l : Launch} {e : Env} {R : Room} {s : State} {m : MethodId} {args : Array Value} {below : List Frame} {meth : Method} {c : Code} {T : State} {locs : List Loc} {cells slots n0 : Nat}
theorem call_sound (G : Good P nm bc cn C Z a0) {n k k' pc np : Nat} {i : Instr} {S as rest : List Value} {H H1 : AHeap} {v : Option Value} (IH : SoundAt P nm bc cn C Z n) (hcode : P.code k pc = some (i, np)) (hcall : callV P k i S H = some (k', as, rest)) (hrun : run P n k' 0 (entry P k' as) [] H = some (v, H1))
    (X : Stand p l e R s m args below meth c T locs cells slots) (hx : p.tables.exec = Jvm.exec) (hZ : Z.Warmed39 s.vm) (hby : c.code = bc k) (hml : c.maxLocals = P.maxL k) (hown : s.vm.findClass (cn (P.cls k)) = some m.cls)
    (hrf : P.rf k ≤ R.frames) (hrl : P.rl k ≤ R.locals) (hcells : cells + (H1.length - H.length) ≤ R.cells) (hslots : slots + (hsz P H1 - hsz P H) ≤ R.slots) {am : List Addr} {ls : Array Slot} {st : List Value} (hlz : ls.size = P.maxL k) (hS : SR am S st) (hH : HR P C Z n0 am H T.heap) (hn : n0 ≤ T.heap.size) :
    ∃ T2 w Lc z, np = pc + 3 ∧ Stand p l e R s m args below meth c T2 (locs ++ Lc) (cells + (H1.length - H.length)) (slots + (hsz P H1 - hsz P H)) ∧ QC P C Z n0 am v H1 w T2.heap Lc ∧ SR am rest z ∧
      ∀ target, Steps p.tables e below (T2.setTop (mkF m (pc + 3) ls (w.toList ++ z))) target → Steps p.tables e below (T.setTop (mkF m pc ls st)) target := by
  obtain ⟨j, q, hj, hk, hkind, rfl, hlen, c3, c4, c5, c6⟩ := callV_spec hcall
  obtain ⟨G1, -, -, -, -, G6, -, -, G9⟩ := G
  obtain ⟨len, hdec, rfl, hlen'⟩ := G1 _ _ _ _ hcode
  have hd : decode c.code pc = .ok (i, len) := by rw [hby]; exact hdec
  obtain ⟨y, z, rfl, hy, hz⟩ := SR.app _ _ hS rfl
  have hws : SR am as y.reverse := by have := hy.rev; rwa [List.reverse_reverse] at this
  have hcz := hz.cats
  have lk := G9 _ _ _ _ hk
  have hq4 : q ≠ 4 := fun q4 => by subst q4; cases i <;> simp [kindOk] at hkind
  have hq5 : q ≠ 5 := fun q5 => by subst q5; cases i <;> simp [kindOk] at hkind
  have lk' : CallOk P nm bc cn C Z a0 (P.cls k) j q k' := linkOk_call hq4 hq5 lk
  obtain ⟨w1, w2, w3, ⟨ps, r, w4, w5⟩, w6, w7, w8, w9, w10⟩ := lk'
  have hM := metOf IH hrun (l := l) (wsC := []) (rm := ({ frames := P.rf k', cells := H1.length - H.length, slots := hsz P H1 - hsz P H, locals := P.rl k' } : Room)) w6 w8 w9 (Nat.le_refl _) (Nat.le_refl _) (Nat.le_refl _) (Nat.le_refl _) hws c6 hH hn
  have hB := backOf (R := R) (p := p) (e := e) (below := below) (args := args) (s := s) (len := 3) (W := cats rest) hM hZ w2 w3 (by show P.rf k' + 1 ≤ _; omega) (by show cats rest + (P.maxL k' + 11) + P.rl k' ≤ _; omega)
  have hyl : y.reverse.length = as.length := hws.len
  have recv : q ≠ 0 → ∃ a r' b ws', as = .ref a :: r' ∧ y.reverse = .ref b :: ws' ∧ Exa Z T.heap b C := fun h0 => by
    obtain ⟨a, r', fs, rfl, hfs⟩ := recv_spec h0 c5
    obtain ⟨_, ws', e1, ⟨b, hb, rfl⟩, -⟩ := hws
    obtain ⟨b', f1, f2, -⟩ := hH.2.2.2 _ _ hfs
    cases hb.symm.trans f1
    exact ⟨a, r', b, ws', rfl, e1, f2⟩
  cases i <;> simp only [poolOf, Option.some.injEq, reduceCtorEq] at hj
  case invokestatic j' =>
    subst hj
    obtain rfl : len = 3 := hlen'.resolve_left (by simp [ilen])
    obtain rfl : q = 0 := by
      match q, hkind with
      | 0, _ => rfl
    obtain ⟨w, _, ⟨T2, L2, k2, n2⟩, -, X2, ⟨Lc, hQ, l1, l2, l3⟩, st2⟩ := Jvm.LawKit.callS X hx (y := nm k') hown (mvT hZ w1) (mvT hZ w10) (mvT hZ w3) (mvT hZ w2) w7 hB (g := mkF m pc ls (y ++ z)) rfl (by rw [hml]; exact hlz) (argsL := y.reverse) (rest := z) (lenOf w4 (by rw [hyl, hlen, w5]; rfl)) (by simp) (by rw [hcz]; show 2 * 0 + _ ≤ _; omega) hd (fun _ _ => ⟨rfl, rfl, hcells, hslots⟩)
    dsimp only [Pt.U, Pt.locs, Pt.cells, Pt.slots] at X2 l1 l2 l3 st2 hQ
    subst l1 l2 l3
    exact ⟨T2, w, Lc, z, rfl, X2, hQ, hz, st2⟩
  case invokespecial j' =>
    subst hj
    obtain rfl : len = 3 := hlen'.resolve_left (by simp [ilen])
    obtain rfl : q = 1 := by
      match q, hkind with
      | 1, _ => rfl
    obtain ⟨a, r', b, ws', ea, ey, hEx⟩ := recv (by decide)
    obtain ⟨w11, w12, w13⟩ := w10
    have ey' : y = ws'.reverse ++ [.ref b] := by rw [← List.reverse_reverse y, ey]; simp
    rw [ey] at hB
    have hl : ws'.length = ps.length := by rw [ey, hlen, w5] at hyl; simpa [rcv] using hyl
    obtain ⟨w, _, ⟨T2, L2, k2, n2⟩, -, X2, ⟨Lc, hQ, l1, l2, l3⟩, st2⟩ := X.specialBack hx (y := nm k') w11 hown (mvT hZ w1) (mvT hZ w12) (bytes := bc k') (maxL := P.maxL k') (mvT hZ (by rw [w13] at w2; exact w2)) w7 hB (g := mkF m pc ls (y ++ z)) rfl (by rw [hml]; exact hlz) (Steps.refl _) (a := b) (argsL := ws') (rest := z) (lenOf w4 hl) (by rw [ey']; simp) (by rw [hcz]; show 2 * 0 + _ ≤ _; omega) hd (fun _ _ => ⟨rfl, rfl, hcells, hslots⟩)
    dsimp only [Pt.U, Pt.locs, Pt.cells, Pt.slots] at X2 l1 l2 l3 st2 hQ
    subst l1 l2 l3
    exact ⟨T2, w, Lc, z, rfl, X2, hQ, hz, fun target hr => st2.trans hr⟩
  case invokevirtual j' =>
    subst hj
    obtain rfl : len = 3 := hlen'.resolve_left (by simp [ilen])
    have hq : q = 2 ∨ q = 3 := by
      match q, hkind with
      | 2, _ => exact Or.inl rfl
      | 3, _ => exact Or.inr rfl
    obtain ⟨a, r', b, ws', ea, ey, hEx⟩ := recv (by omega)
    have ey' : y = ws'.reverse ++ [.ref b] := by rw [← List.reverse_reverse y, ey]; simp
    rw [ey] at hB
    rcases hq with rfl | rfl
    · obtain ⟨w11, w12, w13⟩ := w10
      have hl : ws'.length = ps.length := by rw [ey, hlen, w5] at hyl; simpa [rcv] using hyl
      obtain ⟨cq, kq, qa, qb, qc⟩ := isOf hZ rfl hEx
      obtain ⟨w, _, ⟨T2, L2, k2, n2⟩, -, X2, ⟨Lc, hQ, l1, l2, l3⟩, st2⟩ := X.virtualBack hx (y := nm k') (z := nm k') hown (mvT hZ w1) (mvT hZ w11) (notFace_of_selects (args := #[]) (mvT hZ w13)) (mvT hZ w13) (mvT hZ w12) w7 hB qa qc (g := mkF m pc ls (y ++ z)) rfl (by rw [hml]; exact hlz) (Steps.refl _) (argsL := ws') (rest := z) (lenOf w4 hl) (by rw [ey']; simp) (by rw [hcz]; show 2 * 0 + _ ≤ _; omega) hd (fun _ _ => ⟨rfl, rfl, hcells, hslots⟩)
      dsimp only [Pt.U, Pt.locs, Pt.cells, Pt.slots] at X2 l1 l2 l3 st2 hQ
      subst l1 l2 l3
      exact ⟨T2, w, Lc, z, rfl, X2, hQ, hz, fun target hr => st2.trans hr⟩
    · obtain ⟨w11, w12, w13⟩ := w10
      have hl : ws'.length = ps.length := by rw [ey, hlen, w5] at hyl; simpa [rcv] using hyl
      obtain ⟨cq, q1, q2⟩ := hEx.cell
      obtain ⟨cC, kC, i1, i2, i3, i4, -⟩ := Cond.instantiable_spec (mvT hZ G6 : (Cond.instantiable C P.objN).before #[] s = true)
      have hpriv : s.PrivateAt (nm k') := Cond.privateMethod_at (mvP hZ w13 (args := #[]))
      have hsel : (Cond.selects (nm k').cls (nm k') (nm k')).before args s = true := selects_self_of_private (by rw [w11]; exact i1) i2 (by simpa using (Bool.or_eq_false_iff.mp i4).1) hpriv (mvT hZ w12) w7
      obtain ⟨w, _, ⟨T2, L2, k2, n2⟩, -, X2, ⟨Lc, hQ, l1, l2, l3⟩, st2⟩ := X.privateBack hx (y := nm k') hown (mvT hZ w1) (mvT hZ w12) hsel hpriv (mvT hZ w2) w7 hB (g := mkF m pc ls (y ++ z)) rfl (by rw [hml]; exact hlz) (Steps.refl _) (a := b) q1 q2 (argsL := ws') (rest := z) (lenOf w4 hl) (by rw [ey']; simp) (by rw [hcz]; show 2 * 0 + _ ≤ _; omega) hd (fun _ _ => ⟨rfl, rfl, hcells, hslots⟩)
      dsimp only [Pt.U, Pt.locs, Pt.cells, Pt.slots] at X2 l1 l2 l3 st2 hQ
      subst l1 l2 l3
      exact ⟨T2, w, Lc, z, rfl, X2, hQ, hz, fun target hr => st2.trans hr⟩
theorem ret_sound (G : Good P nm bc cn C Z a0) {k pc np : Nat} {i : Instr} {S : List Value} {v : Option Value} (hcode : P.code k pc = some (i, np)) (h : retV P k i S = some v)
    (X : Stand p l e R s m args below meth c T locs cells slots) (hx : p.tables.exec = Jvm.exec) (hby : c.code = bc k) (hret : meth.sig.returnType = P.ret k) {am : List Addr} {ls : Array Slot} {st : List Value} (hS : SR am S st) :
    ∃ w, OVR am v w ∧ (P.ret k = none → w = none) ∧ ∀ fs, (∀ (f : JFrame) (acts : List Action), f.method = m → f.locked = none → f.entered = [] → (doReturn e (T.setTop f) acts w).1 = T.setFrames fs) → Steps p.tables e below (T.setTop (mkF m pc ls st)) (T.setFrames fs) := by
  obtain ⟨G1, -⟩ := G
  obtain ⟨len, hdec, rfl, hlen⟩ := G1 _ _ _ _ hcode
  have hd : decode c.code pc = .ok (i, len) := by rw [hby]; exact hdec
  rcases retV_spec h with ⟨rfl, rfl, hr, rfl⟩ | ⟨x, r, rfl, rfl, hr, rfl⟩ | ⟨x, r, rfl, rfl, hr, rfl⟩ | ⟨x, r, rfl, rfl, hr, rfl⟩
  · obtain rfl : len = 1 := hlen.resolve_left (by simp [ilen])
    cases hS
    exact ⟨none, rfl, fun _ => rfl, fun fs hl => X.returnOut hx (hret.trans hr) hd hl⟩
  · obtain rfl : len = 1 := hlen.resolve_left (by simp [ilen])
    obtain ⟨_, _, rfl, rfl, hr'⟩ := hS
    exact ⟨some (.int x), ⟨_, rfl, rfl⟩, (fun q => by rw [hr] at q; cases q), fun fs hl => retOut X hx (hret.trans hr) rfl (Or.inl ⟨rfl, Or.inl rfl, x, rfl⟩) hd hl⟩
  · obtain rfl : len = 1 := hlen.resolve_left (by simp [ilen])
    obtain ⟨_, _, rfl, rfl, hr'⟩ := hS
    exact ⟨some (.int (x &&& 1)), ⟨_, rfl, rfl⟩, (fun q => by rw [hr] at q; cases q), fun fs hl => retN X hx (hret.trans hr) (Or.inl rfl) hd hl⟩
  · obtain rfl : len = 1 := hlen.resolve_left (by simp [ilen])
    obtain ⟨_, _, rfl, rfl, hr'⟩ := hS
    exact ⟨some (.long x), ⟨_, rfl, rfl⟩, (fun q => by rw [hr] at q; cases q), fun fs hl => retOut X hx (hret.trans hr) rfl (Or.inr (Or.inl ⟨rfl, rfl, x, rfl⟩)) hd hl⟩
theorem SR.opt {am : List Addr} {v w : Option Value} {S st : List Value} (h : OVR am v w) (hS : SR am S st) : SR am (v.toList ++ S) (w.toList ++ st) := by
  cases v with
  | none => cases h; exact hS
  | some x => obtain ⟨y, rfl, h1⟩ := h; exact ⟨y, st, rfl, h1, hS⟩
theorem sound (G : Good P nm bc cn C Z a0) : ∀ n, SoundAt P nm bc cn C Z n
  | 0 => fun k pc L S H v H' h => by simp [run] at h
  | n + 1 => fun k pc L S H v H' h => by
    have IH := sound G n
    intro p l e R s m args below meth c T locs cells slots n0 am ls st X hx hZ hby hml hret hown hini hrf hrl hcells hslots hlz hL hS hH hF hn
    rw [run] at h
    split at h
    · cases h
    · rename_i i np hcode
      split at h
      · rename_i v' hv
        cases h
        obtain ⟨w, h1, h2, h3⟩ := ret_sound G hcode hv X hx hby hret (ls := ls) hS
        exact ⟨T, am, locs, w, by simpa using X, hH, Pre.refl _, hF, h1, hn, h2, h3⟩
      · split at h
        · rename_i k' as rest hcall
          split at h
          · rename_i v1 H1 hr1
            have g1 := run_grow hr1
            have g2 := run_grow h
            obtain ⟨T2, w, Lc, z, rfl, X2, ⟨q1, q2, am2, q3, q4, q5⟩, hz, st2⟩ := call_sound G IH hcode hcall hr1 X hx hZ hby hml hown hrf hrl (by omega) (by omega) (ls := ls) hlz hS hH hn
            obtain ⟨T', am', locs', w', X', f1, f2, f3, f4, f5, f6, f7⟩ := IH k _ _ _ _ _ _ h X2 hx hZ hby hml hret hown hini hrf hrl (by omega) (by omega) hlz (hL.mono q3) (SR.opt q5 (hz.mono q3)) q4 (Fr.app hF q1) q2
            refine ⟨T', am', locs', w', ?_, f1, q3.trans f2, f3, f4, f5, f6, fun fs hl => st2 _ (f7 fs hl)⟩
            have a1 : cells + (H1.length - H.length) + (H'.length - H1.length) = cells + (H'.length - H.length) := by omega
            have a2 : slots + (hsz P H1 - hsz P H) + (hsz P H' - hsz P H1) = slots + (hsz P H' - hsz P H) := by omega
            rw [a1, a2] at X'; exact X'
          · cases h
        · split at h
          · rename_i pc1 L1 S1 H1 hs1
            have g1 := step_grow hs1
            have g2 := run_grow h
            obtain ⟨T2, am2, ls2, st2, locs2, X2, b1, b2, b3, b4, b5, b6, b7, b8⟩ := step_sound G hcode hs1 X hx hZ hby hml hown hini hrf hrl (by omega) (by omega) hlz hL hS hH hF hn
            obtain ⟨T', am', locs', w', X', f1, f2, f3, f4, f5, f6, f7⟩ := IH k _ _ _ _ _ _ h X2 hx hZ hby hml hret hown hini hrf hrl (by omega) (by omega) (b2.trans hlz) b1 b3 b4 b6 b7
            refine ⟨T', am', locs', w', ?_, f1, b5.trans f2, f3, f4, f5, f6, fun fs hl => b8 _ (f7 fs hl)⟩
            have a1 : cells + (H1.length - H.length) + (H'.length - H1.length) = cells + (H'.length - H.length) := by omega
            have a2 : slots + (hsz P H1 - hsz P H) + (hsz P H' - hsz P H1) = slots + (hsz P H' - hsz P H) := by omega
            rw [a1, a2] at X'; exact X'
          · cases h
end Met
end Jvm.OwnX
namespace Jvm.OwnX
open Sem ClassFile Op Lib Jvm.Stand Jvm.Free Jvm.LawKit Jvm.RoadKit
theorem run_succ {P : Prog} : ∀ (n : Nat) {k pc : Nat} {L : ALoc} {S : List Value} {H : AHeap} {out : Option Value × AHeap}, run P n k pc L S H = some out → run P (n + 1) k pc L S H = some out
  | 0, k, pc, L, S, H, out, h => by simp [run] at h
  | n + 1, k, pc, L, S, H, out, h => by
    rw [run] at h
    rw [run]
    split at h
    · cases h
    · rename_i i np hc
      try simp only [hc]
      split at h
      · rename_i v hv
        try simp only [hv]
        exact h
      · rename_i hv
        try simp only [hv]
        split at h
        · rename_i k' as rest hcall
          try simp only [hcall]
          split at h
          · rename_i v1 H1 h1
            rw [run_succ n h1]; exact run_succ n h
          · cases h
        · rename_i hcall
          try simp only [hcall]
          split at h
          · rename_i pc1 L1 S1 H1 h1
            try simp only [h1]
            exact run_succ n h
          · cases h
theorem run_le {P : Prog} {n m k pc : Nat} {L : ALoc} {S : List Value} {H : AHeap} {out : Option Value × AHeap} (hm : n ≤ m) (h : run P n k pc L S H = some out) : run P m k pc L S H = some out := by
  induction hm with
  | refl => exact h
  | step _ ih => exact run_succ _ ih
section Rules
variable {P : Prog} {k pc np : Nat} {L L' : ALoc} {S r : List Value} {H : AHeap} {out : Option Value × AHeap}
theorem Eval.of_step {i : Instr} {pc' : Nat} {S' : List Value} {H' : AHeap} (hc : P.code k pc = some (i, np)) (h1 : retV P k i S = none) (h2 : callV P k i S H = none) (h3 : step P k i np pc L S H = some (pc', L', S', H')) (h : Eval P k pc' L' S' H' out) : Eval P k pc L S H out := by
  obtain ⟨n, h⟩ := h
  exact ⟨n + 1, by rw [run]; simp only [hc, h1, h2, h3]; exact h⟩
theorem Eval.call {i : Instr} {k' : Nat} {as rest : List Value} {v : Option Value} {H1 : AHeap} (hc : P.code k pc = some (i, np)) (h2 : callV P k i S H = some (k', as, rest)) (he : Eval P k' 0 (entry P k' as) [] H (v, H1)) (h : Eval P k np L (v.toList ++ rest) H1 out) : Eval P k pc L S H out := by
  obtain ⟨n, he⟩ := he
  obtain ⟨m, h⟩ := h
  have h1 : retV P k i S = none := by
    unfold callV at h2
    cases i <;> simp only [poolOf, reduceCtorEq] at h2 <;> rfl
  exact ⟨n + m + 1, by rw [run]; simp only [hc, h1, h2]; rw [run_le (Nat.le_add_right n m) he]; exact run_le (Nat.le_add_left m n) h⟩
theorem Eval.ret {i : Instr} {v : Option Value} (hc : P.code k pc = some (i, np)) (h1 : retV P k i S = some v) : Eval P k pc L S H (v, H) := ⟨1, by rw [run]; simp only [hc, h1]⟩
theorem Eval.eq {out' : Option Value × AHeap} (h : Eval P k pc L S H out') (e : out' = out) : Eval P k pc L S H out := e ▸ h
theorem Eval.iload_n {n : Fin 4} {x : Int32} (hc : P.code k pc = some (.iload_n n, np)) (hl : loadI L n.val = some x) (h : Eval P k np L (.int x :: S) H out) : Eval P k pc L S H out := Eval.of_step hc rfl rfl (by simp only [step, hl]) h
theorem Eval.iload {n : Nat} {x : Int32} (hc : P.code k pc = some (.iload n, np)) (hl : loadI L n = some x) (h : Eval P k np L (.int x :: S) H out) : Eval P k pc L S H out := Eval.of_step hc rfl rfl (by simp only [step, hl]) h
theorem Eval.lload_n {n : Fin 4} {x : Int64} (hc : P.code k pc = some (.lload_n n, np)) (hl : loadJ L n.val = some x) (h : Eval P k np L (.long x :: S) H out) : Eval P k pc L S H out := Eval.of_step hc rfl rfl (by simp only [step, hl]) h
theorem Eval.lload {n : Nat} {x : Int64} (hc : P.code k pc = some (.lload n, np)) (hl : loadJ L n = some x) (h : Eval P k np L (.long x :: S) H out) : Eval P k pc L S H out := Eval.of_step hc rfl rfl (by simp only [step, hl]) h
theorem Eval.aload_n {n : Fin 4} {x : Nat} (hc : P.code k pc = some (.aload_n n, np)) (hl : loadA L n.val = some x) (h : Eval P k np L (.ref x :: S) H out) : Eval P k pc L S H out := Eval.of_step hc rfl rfl (by simp only [step, hl]) h
theorem Eval.aload {n x : Nat} (hc : P.code k pc = some (.aload n, np)) (hl : loadA L n = some x) (h : Eval P k np L (.ref x :: S) H out) : Eval P k pc L S H out := Eval.of_step hc rfl rfl (by simp only [step, hl]) h
theorem Eval.istore_n {n : Fin 4} {x : Int32} (hc : P.code k pc = some (.istore_n n, np)) (hl : lput L n.val (.int x) = some L') (h : Eval P k np L' r H out) : Eval P k pc L (.int x :: r) H out := Eval.of_step hc rfl rfl (by simp only [step, hl]) h
theorem Eval.istore {n : Nat} {x : Int32} (hc : P.code k pc = some (.istore n, np)) (hl : lput L n (.int x) = some L') (h : Eval P k np L' r H out) : Eval P k pc L (.int x :: r) H out := Eval.of_step hc rfl rfl (by simp only [step, hl]) h
theorem Eval.astore_n {n : Fin 4} {x : Nat} (hc : P.code k pc = some (.astore_n n, np)) (hl : lput L n.val (.ref x) = some L') (h : Eval P k np L' r H out) : Eval P k pc L (.ref x :: r) H out := Eval.of_step hc rfl rfl (by simp only [step, hl]) h
theorem Eval.astore {n x : Nat} (hc : P.code k pc = some (.astore n, np)) (hl : lput L n (.ref x) = some L') (h : Eval P k np L' r H out) : Eval P k pc L (.ref x :: r) H out := Eval.of_step hc rfl rfl (by simp only [step, hl]) h
theorem Eval.lstore_n {n : Fin 4} {x : Int64} (hc : P.code k pc = some (.lstore_n n, np)) (hl : lputL L n.val x = some L') (h : Eval P k np L' r H out) : Eval P k pc L (.long x :: r) H out := Eval.of_step hc rfl rfl (by simp only [step, hl]) h
theorem Eval.lstore {n : Nat} {x : Int64} (hc : P.code k pc = some (.lstore n, np)) (hl : lputL L n x = some L') (h : Eval P k np L' r H out) : Eval P k pc L (.long x :: r) H out := Eval.of_step hc rfl rfl (by simp only [step, hl]) h
theorem Eval.iinc {n : Nat} {c : Int} {x : Int32} (hc : P.code k pc = some (.iinc n c, np)) (hl : loadI L n = some x) (hp : lput L n (.int (x + Int32.ofInt c)) = some L') (h : Eval P k np L' S H out) : Eval P k pc L S H out := Eval.of_step hc rfl rfl (by simp only [step, hl, hp]) h
theorem Eval.iconst {c : Int} {x : Int32} (hc : P.code k pc = some (.iconst c, np)) (hx : Int32.ofInt c = x) (h : Eval P k np L (.int x :: S) H out) : Eval P k pc L S H out := Eval.of_step hc rfl rfl (by subst hx; rfl) h
theorem Eval.bipush {c : Int} {x : Int32} (hc : P.code k pc = some (.bipush c, np)) (hx : (Int8.ofInt c).toInt32 = x) (h : Eval P k np L (.int x :: S) H out) : Eval P k pc L S H out := Eval.of_step hc rfl rfl (by subst hx; rfl) h
theorem Eval.sipush {c : Int} {x : Int32} (hc : P.code k pc = some (.sipush c, np)) (hx : (Int16.ofInt c).toInt32 = x) (h : Eval P k np L (.int x :: S) H out) : Eval P k pc L S H out := Eval.of_step hc rfl rfl (by subst hx; rfl) h
theorem Eval.lconst {c : Fin 2} {x : Int64} (hc : P.code k pc = some (.lconst c, np)) (hx : Int64.ofNat c = x) (h : Eval P k np L (.long x :: S) H out) : Eval P k pc L S H out := Eval.of_step hc rfl rfl (by subst hx; rfl) h
theorem Eval.ldc {j : Nat} {x : Int32} (hc : P.code k pc = some (.ldc j, np)) (hx : P.kon (P.cls k) j = some (.int x)) (h : Eval P k np L (.int x :: S) H out) : Eval P k pc L S H out := Eval.of_step hc rfl rfl (by simp only [step, hx]) h
theorem Eval.ldc2_w {j : Nat} {x : Int64} (hc : P.code k pc = some (.ldc2_w j, np)) (hx : P.kon (P.cls k) j = some (.long x)) (h : Eval P k np L (.long x :: S) H out) : Eval P k pc L S H out := Eval.of_step hc rfl rfl (by simp only [step, hx]) h
theorem Eval.idiv {x y : Int32} (hc : P.code k pc = some (.idiv, np)) (hy : ¬ y = 0) (h : Eval P k np L (.int (x / y) :: r) H out) : Eval P k pc L (.int y :: .int x :: r) H out := Eval.of_step hc rfl rfl (by simp [step, hy]) h
theorem Eval.irem {x y : Int32} (hc : P.code k pc = some (.irem, np)) (hy : ¬ y = 0) (h : Eval P k np L (.int (x % y) :: r) H out) : Eval P k pc L (.int y :: .int x :: r) H out := Eval.of_step hc rfl rfl (by simp [step, hy]) h
theorem Eval.iadd {x y : Int32} (hc : P.code k pc = some (.iadd, np))  (h : Eval P k np L (.int (x + y) :: r) H out) : Eval P k pc L (.int y :: .int x :: r) H out := Eval.of_step hc rfl rfl (by rfl) h
theorem Eval.isub {x y : Int32} (hc : P.code k pc = some (.isub, np))  (h : Eval P k np L (.int (x - y) :: r) H out) : Eval P k pc L (.int y :: .int x :: r) H out := Eval.of_step hc rfl rfl (by rfl) h
theorem Eval.imul {x y : Int32} (hc : P.code k pc = some (.imul, np))  (h : Eval P k np L (.int (x * y) :: r) H out) : Eval P k pc L (.int y :: .int x :: r) H out := Eval.of_step hc rfl rfl (by rfl) h
theorem Eval.iand {x y : Int32} (hc : P.code k pc = some (.iand, np))  (h : Eval P k np L (.int (x &&& y) :: r) H out) : Eval P k pc L (.int y :: .int x :: r) H out := Eval.of_step hc rfl rfl (by rfl) h
theorem Eval.ior {x y : Int32} (hc : P.code k pc = some (.ior, np))  (h : Eval P k np L (.int (x ||| y) :: r) H out) : Eval P k pc L (.int y :: .int x :: r) H out := Eval.of_step hc rfl rfl (by rfl) h
theorem Eval.ixor {x y : Int32} (hc : P.code k pc = some (.ixor, np))  (h : Eval P k np L (.int (x ^^^ y) :: r) H out) : Eval P k pc L (.int y :: .int x :: r) H out := Eval.of_step hc rfl rfl (by rfl) h
theorem Eval.ishl {x y : Int32} (hc : P.code k pc = some (.ishl, np))  (h : Eval P k np L (.int (ish x y) :: r) H out) : Eval P k pc L (.int y :: .int x :: r) H out := Eval.of_step hc rfl rfl (by rfl) h
theorem Eval.ishr {x y : Int32} (hc : P.code k pc = some (.ishr, np))  (h : Eval P k np L (.int (isr x y) :: r) H out) : Eval P k pc L (.int y :: .int x :: r) H out := Eval.of_step hc rfl rfl (by rfl) h
theorem Eval.iushr {x y : Int32} (hc : P.code k pc = some (.iushr, np))  (h : Eval P k np L (.int (ush x y) :: r) H out) : Eval P k pc L (.int y :: .int x :: r) H out := Eval.of_step hc rfl rfl (by rfl) h
theorem Eval.ladd {x y : Int64} (hc : P.code k pc = some (.ladd, np))  (h : Eval P k np L (.long (x + y) :: r) H out) : Eval P k pc L (.long y :: .long x :: r) H out := Eval.of_step hc rfl rfl (by rfl) h
theorem Eval.lsub {x y : Int64} (hc : P.code k pc = some (.lsub, np))  (h : Eval P k np L (.long (x - y) :: r) H out) : Eval P k pc L (.long y :: .long x :: r) H out := Eval.of_step hc rfl rfl (by rfl) h
theorem Eval.lmul {x y : Int64} (hc : P.code k pc = some (.lmul, np))  (h : Eval P k np L (.long (x * y) :: r) H out) : Eval P k pc L (.long y :: .long x :: r) H out := Eval.of_step hc rfl rfl (by rfl) h
theorem Eval.land {x y : Int64} (hc : P.code k pc = some (.land, np))  (h : Eval P k np L (.long (x &&& y) :: r) H out) : Eval P k pc L (.long y :: .long x :: r) H out := Eval.of_step hc rfl rfl (by rfl) h
theorem Eval.lor {x y : Int64} (hc : P.code k pc = some (.lor, np))  (h : Eval P k np L (.long (x ||| y) :: r) H out) : Eval P k pc L (.long y :: .long x :: r) H out := Eval.of_step hc rfl rfl (by rfl) h
theorem Eval.lxor {x y : Int64} (hc : P.code k pc = some (.lxor, np))  (h : Eval P k np L (.long (x ^^^ y) :: r) H out) : Eval P k pc L (.long y :: .long x :: r) H out := Eval.of_step hc rfl rfl (by rfl) h
theorem Eval.lshl {x : Int64} {y : Int32} (hc : P.code k pc = some (.lshl, np))  (h : Eval P k np L (.long (lsh x y) :: r) H out) : Eval P k pc L (.int y :: .long x :: r) H out := Eval.of_step hc rfl rfl (by rfl) h
theorem Eval.lushr {x : Int64} {y : Int32} (hc : P.code k pc = some (.lushr, np))  (h : Eval P k np L (.long (lus x y) :: r) H out) : Eval P k pc L (.int y :: .long x :: r) H out := Eval.of_step hc rfl rfl (by rfl) h
theorem Eval.lcmp {x y : Int64} (hc : P.code k pc = some (.lcmp, np))  (h : Eval P k np L (.int (lcm x y) :: r) H out) : Eval P k pc L (.long y :: .long x :: r) H out := Eval.of_step hc rfl rfl (by rfl) h
theorem Eval.lneg {x : Int64} (hc : P.code k pc = some (.lneg, np))  (h : Eval P k np L (.long (-x) :: r) H out) : Eval P k pc L (.long x :: r) H out := Eval.of_step hc rfl rfl (by rfl) h
theorem Eval.i2l {x : Int32} (hc : P.code k pc = some (.i2l, np))  (h : Eval P k np L (.long x.toInt64 :: r) H out) : Eval P k pc L (.int x :: r) H out := Eval.of_step hc rfl rfl (by rfl) h
theorem Eval.l2i {x : Int64} (hc : P.code k pc = some (.l2i, np))  (h : Eval P k np L (.int x.toInt32 :: r) H out) : Eval P k pc L (.long x :: r) H out := Eval.of_step hc rfl rfl (by rfl) h
theorem Eval.i2b {x : Int32} (hc : P.code k pc = some (.i2b, np))  (h : Eval P k np L (.int (i8 x) :: r) H out) : Eval P k pc L (.int x :: r) H out := Eval.of_step hc rfl rfl (by rfl) h
theorem Eval.dupR {x : Nat} (hc : P.code k pc = some (.dup, np))  (h : Eval P k np L (.ref x :: .ref x :: r) H out) : Eval P k pc L (.ref x :: r) H out := Eval.of_step hc rfl rfl (by rfl) h
theorem Eval.dupI {x : Int32} (hc : P.code k pc = some (.dup, np))  (h : Eval P k np L (.int x :: .int x :: r) H out) : Eval P k pc L (.int x :: r) H out := Eval.of_step hc rfl rfl (by rfl) h
theorem Eval.dup2 {x : Int32} {y : Nat} (hc : P.code k pc = some (.dup2, np))  (h : Eval P k np L (.int x :: .ref y :: .int x :: .ref y :: r) H out) : Eval P k pc L (.int x :: .ref y :: r) H out := Eval.of_step hc rfl rfl (by rfl) h
theorem Eval.popI {x : Int32} (hc : P.code k pc = some (.pop, np))  (h : Eval P k np L r H out) : Eval P k pc L (.int x :: r) H out := Eval.of_step hc rfl rfl (by rfl) h
theorem Eval.popR {x : Nat} (hc : P.code k pc = some (.pop, np))  (h : Eval P k np L r H out) : Eval P k pc L (.ref x :: r) H out := Eval.of_step hc rfl rfl (by rfl) h
theorem Eval.goto {o : Int} {t : Nat} (hc : P.code k pc = some (.goto o, np)) (ht : tgt pc o = some t) (h : Eval P k t L S H out) : Eval P k pc L S H out := Eval.of_step hc rfl rfl (by simp only [step, ht]) h
theorem Eval.ifT {cd : ClassFile.Cond} {o : Int} {t : Nat} {x : Int32} (hc : P.code k pc = some (.ifCond cd o, np)) (ht : tgt pc o = some t) (hb : if_icmp.holds cd x 0 = true) (h : Eval P k t L r H out) : Eval P k pc L (.int x :: r) H out := Eval.of_step hc rfl rfl (by simp only [step, ht, hb, cond_true]) h
theorem Eval.ifF {cd : ClassFile.Cond} {o : Int} {x : Int32} (hc : P.code k pc = some (.ifCond cd o, np)) (hb : if_icmp.holds cd x 0 = false) (h : Eval P k np L r H out) : Eval P k pc L (.int x :: r) H out := Eval.of_step hc rfl rfl (by simp only [step, hb, cond_false]) h
theorem Eval.icmpT {cd : ClassFile.Cond} {o : Int} {t : Nat} {x y : Int32} (hc : P.code k pc = some (.if_icmp cd o, np)) (ht : tgt pc o = some t) (hb : if_icmp.holds cd x y = true) (h : Eval P k t L r H out) : Eval P k pc L (.int y :: .int x :: r) H out := Eval.of_step hc rfl rfl (by simp only [step, ht, hb, cond_true]) h
theorem Eval.icmpF {cd : ClassFile.Cond} {o : Int} {x y : Int32} (hc : P.code k pc = some (.if_icmp cd o, np)) (hb : if_icmp.holds cd x y = false) (h : Eval P k np L r H out) : Eval P k pc L (.int y :: .int x :: r) H out := Eval.of_step hc rfl rfl (by simp only [step, hb, cond_false]) h
theorem Eval.tswIn {d lo hi o : Int} {offs : Array Int} {t : Nat} {x : Int32} (hc : P.code k pc = some (.tableswitch d lo hi offs, np)) (h1 : (decide (x.toInt < lo) || decide (x.toInt > hi)) = false) (h2 : offs.toList[(x.toInt - lo).toNat]? = some o) (ht : tgt pc o = some t) (h : Eval P k t L r H out) : Eval P k pc L (.int x :: r) H out := Eval.of_step hc rfl rfl (by simp only [step, h1, h2, ht, cond_false]) h
theorem Eval.tswOut {d lo hi : Int} {offs : Array Int} {t : Nat} {x : Int32} (hc : P.code k pc = some (.tableswitch d lo hi offs, np)) (h1 : (decide (x.toInt < lo) || decide (x.toInt > hi)) = true) (ht : tgt pc d = some t) (h : Eval P k t L r H out) : Eval P k pc L (.int x :: r) H out := Eval.of_step hc rfl rfl (by simp only [step, h1, ht, cond_true]) h
theorem Eval.getfield {j f a : Nat} {v : Value} (hc : P.code k pc = some (.getfield j, np)) (hf : P.fld (P.cls k) j = some f) (hg : getC H a f = some v) (h : Eval P k np L (v :: r) H out) : Eval P k pc L (.ref a :: r) H out := Eval.of_step hc rfl rfl (by simp only [step, hf, hg]) h
/-- the heap with a field written -/
def putC (P : Prog) (k : Nat) (H : AHeap) (a f : Nat) (v : Value) : Option AHeap := match P.fields[f]? with
  | some (_, _, t, fin) => (bif (!fin || P.ini k) && Nat.ble P.ro a then (match conv t v with
    | some v' => (match H[a]? with
      | some (.inl fs) => (bif Nat.ble (f + 1) fs.length then some (H.set a (.inl (fs.set f v'))) else none)
      | _ => none)
    | none => none) else none)
  | none => none
theorem putC_spec {P : Prog} {k a f : Nat} {v : Value} {H H1 : AHeap} (hp : putC P k H a f v = some H1) : ∃ n d t fin v' fs, P.fields[f]? = some (n, d, t, fin) ∧ ((!fin || P.ini k) && Nat.ble P.ro a) = true ∧ conv t v = some v' ∧ H[a]? = some (.inl fs) ∧ Nat.ble (f + 1) fs.length = true ∧ H1 = H.set a (.inl (fs.set f v')) := by
  unfold putC at hp
  simp only [Bool.cond_eq_ite] at hp
  split at hp
  · rename_i n d t fin hq
    split at hp
    · rename_i hc
      split at hp
      · rename_i v' hv
        split at hp
        · rename_i fs hfs
          split at hp
          · rename_i hz
            cases hp; exact ⟨n, d, t, fin, v', fs, hq, hc, hv, hfs, hz, rfl⟩
          · cases hp
        · cases hp
      · cases hp
    · cases hp
  · cases hp
theorem step_put {j f a : Nat} {v : Value} {H1 : AHeap} (hf : P.fld (P.cls k) j = some f) (hp : putC P k H a f v = some H1) : step P k (.putfield j) np pc L (v :: .ref a :: r) H = some (np, L, r, H1) := by
  obtain ⟨n, d, t, fin, v', fs, h1, h2, h3, h4, h5, rfl⟩ := putC_spec hp
  simp only [step, hf, h1, h2, h3, h4, h5, cond_true]
theorem Eval.putfield {j f a : Nat} {v : Value} {H1 : AHeap} (hc : P.code k pc = some (.putfield j, np)) (hf : P.fld (P.cls k) j = some f) (hp : putC P k H a f v = some H1) (h : Eval P k np L r H1 out) : Eval P k pc L (v :: .ref a :: r) H out := Eval.of_step hc rfl rfl (step_put hf hp) h
theorem Eval.iaload0 {a : Nat} {j : Int32} {xs : List Int32} (hc : P.code k pc = some (.iaload, np)) (ha : H[a]? = some (.inr (.inl (0, xs)))) (hj : inb xs.length j = true) (h : Eval P k np L (.int (rd xs j) :: r) H out) : Eval P k pc L (.int j :: .ref a :: r) H out := Eval.of_step hc rfl rfl (by simp only [step, ha, hj, cond_true]) h
theorem Eval.iaload {a : Nat} {j : Int32} {xs : List Int32} (hc : P.code k pc = some (.iaload, np)) (ha : H[a]? = some (.inr (.inl (1, xs)))) (hj : inb xs.length j = true) (h : Eval P k np L (.int (rd xs j) :: r) H out) : Eval P k pc L (.int j :: .ref a :: r) H out := Eval.of_step hc rfl rfl (by simp only [step, ha, hj, cond_true]) h
theorem Eval.baloadZ {a : Nat} {j : Int32} {xs : List Int32} (hc : P.code k pc = some (.baload, np)) (ha : H[a]? = some (.inr (.inl (2, xs)))) (hj : inb xs.length j = true) (h : Eval P k np L (.int (rd xs j) :: r) H out) : Eval P k pc L (.int j :: .ref a :: r) H out := Eval.of_step hc rfl rfl (by simp only [step, ha, hj, cond_true]) h
theorem Eval.baloadB {a : Nat} {j : Int32} {xs : List Int32} (hc : P.code k pc = some (.baload, np)) (ha : H[a]? = some (.inr (.inl (3, xs)))) (hj : inb xs.length j = true) (h : Eval P k np L (.int (rd xs j) :: r) H out) : Eval P k pc L (.int j :: .ref a :: r) H out := Eval.of_step hc rfl rfl (by simp only [step, ha, hj, cond_true]) h
theorem Eval.laload {a : Nat} {j : Int32} {xs : List Int64} (hc : P.code k pc = some (.laload, np)) (ha : H[a]? = some (.inr (.inr xs))) (hj : inb xs.length j = true) (h : Eval P k np L (.long (rdL xs j) :: r) H out) : Eval P k pc L (.int j :: .ref a :: r) H out := Eval.of_step hc rfl rfl (by simp only [step, ha, hj, cond_true]) h
theorem Eval.iastore {a : Nat} {j x : Int32} {xs : List Int32} {H1 : AHeap} (hc : P.code k pc = some (.iastore, np)) (hro : Nat.ble P.ro a = true) (ha : H[a]? = some (.inr (.inl (1, xs)))) (hj : inb xs.length j = true) (hH : H.set a (.inr (.inl (1, wr xs j x))) = H1) (h : Eval P k np L r H1 out) : Eval P k pc L (.int x :: .int j :: .ref a :: r) H out := Eval.of_step hc rfl rfl (by subst hH; simp only [step, hro, ha, hj, cond_true]; try rfl) h
theorem Eval.bastoreZ {a : Nat} {j x : Int32} {xs : List Int32} {H1 : AHeap} (hc : P.code k pc = some (.bastore, np)) (hro : Nat.ble P.ro a = true) (ha : H[a]? = some (.inr (.inl (2, xs)))) (hj : inb xs.length j = true) (hH : H.set a (.inr (.inl (2, wr xs j (x &&& 1)))) = H1) (h : Eval P k np L r H1 out) : Eval P k pc L (.int x :: .int j :: .ref a :: r) H out := Eval.of_step hc rfl rfl (by subst hH; simp only [step, hro, ha, hj, cond_true]; try rfl) h
theorem Eval.bastoreB {a : Nat} {j x : Int32} {xs : List Int32} {H1 : AHeap} (hc : P.code k pc = some (.bastore, np)) (hro : Nat.ble P.ro a = true) (ha : H[a]? = some (.inr (.inl (3, xs)))) (hj : inb xs.length j = true) (hH : H.set a (.inr (.inl (3, wr xs j (i8 x)))) = H1) (h : Eval P k np L r H1 out) : Eval P k pc L (.int x :: .int j :: .ref a :: r) H out := Eval.of_step hc rfl rfl (by subst hH; simp only [step, hro, ha, hj, cond_true]; try rfl) h
theorem Eval.lastore {a : Nat} {j : Int32} {x : Int64} {xs : List Int64} {H1 : AHeap} (hc : P.code k pc = some (.lastore, np)) (hro : Nat.ble P.ro a = true) (ha : H[a]? = some (.inr (.inr xs))) (hj : inb xs.length j = true) (hH : H.set a (.inr (.inr (wrL xs j x))) = H1) (h : Eval P k np L r H1 out) : Eval P k pc L (.long x :: .int j :: .ref a :: r) H out := Eval.of_step hc rfl rfl (by subst hH; simp only [step, hro, ha, hj, cond_true]; try rfl) h
theorem Eval.alenI {a t : Nat} {xs : List Int32} (hc : P.code k pc = some (.arraylength, np)) (ha : H[a]? = some (.inr (.inl (t, xs)))) (h : Eval P k np L (.int xs.length.toInt32 :: r) H out) : Eval P k pc L (.ref a :: r) H out := Eval.of_step hc rfl rfl (by simp only [step, ha]) h
theorem Eval.newarray {t : ArrayType} {n : Int32} {q a z N : Nat} {H1 : AHeap} (hc : P.code k pc = some (.newarray t, np)) (hla : H.length = a) (ht : atyOf t = some q) (hn : decide (n < 0) = false) (hN : n.toNatClampNeg = N) (hb : N ≤ 60000) (hC : a + 1 ≤ P.capC) (hz : hsz P H = z) (hS : z + N ≤ P.capS) (hH : H ++ [newC q N] = H1) (h : Eval P k np L (.ref a :: r) H1 out) : Eval P k pc L (.int n :: r) H out := by
  subst hla hN hz
  have hq : (!(decide (n < 0)) && Nat.ble n.toNatClampNeg 60000 && Nat.ble (H.length + 1) P.capC && Nat.ble (hsz P H + n.toNatClampNeg) P.capS) = true := by
    simp only [hn, Bool.not_false, Bool.true_and, Bool.and_eq_true]
    exact ⟨⟨Nat.ble_eq_true_of_le hb, Nat.ble_eq_true_of_le hC⟩, Nat.ble_eq_true_of_le hS⟩
  exact Eval.of_step hc rfl rfl (by simp only [step, ht, hq, cond_true, hH]) h
theorem Eval.new {j q a z : Nat} {H1 : AHeap} (hc : P.code k pc = some (.new j, np)) (hla : H.length = a) (ht : P.link (P.cls k) j = some (5, q)) (hC : a + 1 ≤ P.capC) (hz : hsz P H = z) (hS : z + P.objN ≤ P.capS) (hH : H ++ [.inl P.fresh] = H1) (h : Eval P k np L (.ref a :: S) H1 out) : Eval P k pc L S H out := by
  subst hla hz
  have hq : (Nat.ble (H.length + 1) P.capC && Nat.ble (hsz P H + P.objN) P.capS) = true := by
    simp only [Bool.and_eq_true]
    exact ⟨Nat.ble_eq_true_of_le hC, Nat.ble_eq_true_of_le hS⟩
  exact Eval.of_step hc rfl rfl (by simp only [step, ht, hq, cond_true, hH]) h
theorem Eval.objInit {j a : Nat} (hc : P.code k pc = some (.invokespecial j, np)) (hq : (isObjInit P k j && Nat.ble 1 (P.rf k) && Nat.ble (cats r + 12) (P.rl k)) = true) (h : Eval P k np L r H out) : Eval P k pc L (.ref a :: r) H out := by
  refine Eval.of_step hc rfl ?_ (by simp only [step, hq, cond_true]) h
  simp only [Bool.and_eq_true] at hq
  have h3 := hq.1.1
  unfold isObjInit at h3
  split at h3
  · rename_i kk hk
    simp [callV, poolOf, hk, kindOk]
  · cases h3
/-- the left knows at least what the right knows -/
def lw : ALoc → ALoc → Prop
  | [], b => b = []
  | a :: r, b => ∃ x r', b = x :: r' ∧ (x = none ∨ x = a) ∧ lw r r'
theorem lw.refl : ∀ L : ALoc, lw L L
  | [] => rfl
  | a :: r => ⟨a, r, rfl, Or.inr rfl, lw.refl r⟩
def mkL : Nat → ALoc → ALoc
  | _, [] => []
  | m, a :: r => (match Nat.mod m 2 with | 0 => none | _ => a) :: mkL (Nat.div m 2) r
theorem lw_mk : ∀ (m : Nat) (L : ALoc), lw L (mkL m L)
  | _, [] => rfl
  | m, a :: r => ⟨_, _, rfl, by cases h : Nat.mod m 2 with
    | zero => exact Or.inl rfl
    | succ k => exact Or.inr rfl, lw_mk (Nat.div m 2) r⟩
theorem lw.spec : ∀ {L L' : ALoc}, lw L L' → L.length = L'.length ∧ ∀ (i : Nat) v, L'[i]? = some (some v) → L[i]? = some (some v)
  | [], _, h => by cases h; exact ⟨rfl, fun i v q => by simp at q⟩
  | a :: r, _, ⟨x, r', e, h1, h2⟩ => by
    subst e
    obtain ⟨i1, i2⟩ := lw.spec h2
    refine ⟨by simp [i1], fun i v q => ?_⟩
    cases i with
    | zero =>
      simp only [List.getElem?_cons_zero, Option.some.injEq] at q ⊢
      rcases h1 with rfl | rfl
      · cases q
      · exact q
    | succ i => rw [List.getElem?_cons_succ] at q ⊢; exact i2 i v q
theorem lw.of : ∀ {L L' : ALoc}, L.length = L'.length → (∀ (i : Nat) v, L'[i]? = some (some v) → L[i]? = some (some v)) → lw L L'
  | [], L', h, _ => by cases L' with
    | nil => rfl
    | cons _ _ => simp at h
  | a :: r, L', h, q => by
    cases L' with
    | nil => simp at h
    | cons x r' =>
      refine ⟨x, r', rfl, ?_, lw.of (by simpa using h) fun i v e => ?_⟩
      · cases x with
        | none => exact Or.inl rfl
        | some v => have := q 0 v rfl; simp at this; exact Or.inr this.symm
      · have := q (i + 1) v (by rw [List.getElem?_cons_succ]; exact e); rwa [List.getElem?_cons_succ] at this
theorem lw.kill {L L' : ALoc} (h : lw L L') (i : Nat) : lw (kill1 L i) (kill1 L' i) := by
  obtain ⟨h1, h2⟩ := h.spec
  refine lw.of (by rw [kill1_len, kill1_len, h1]) fun j v q => ?_
  obtain ⟨q1, q2⟩ := kill1_get q
  have q3 := h2 _ _ q1
  unfold kill1
  split
  · exact q3
  · rename_i i
    split
    · rename_i x hx
      by_cases e : i = j
      · subst e; rw [hx] at q3; cases q3; exact absurd rfl (q2 rfl x)
      · rw [List.getElem?_set_ne e]; exact q3
    · exact q3
theorem lw.set {L L' : ALoc} (h : lw L L') (i : Nat) (x : Option Value) : lw (L.set i x) (L'.set i x) := by
  obtain ⟨h1, h2⟩ := h.spec
  refine lw.of (by simp [h1]) fun j v q => ?_
  rw [List.getElem?_set] at q ⊢
  split at q
  · rename_i e
    rw [if_pos e, h1]; exact q
  · rename_i e
    rw [if_neg e]; exact h2 _ _ q
theorem lw.put {L L' L1 : ALoc} (h : lw L L') {i : Nat} {v : Value} (hp : lput L' i v = some L1) : ∃ L2, lput L i v = some L2 ∧ lw L2 L1 := by
  unfold lput at hp ⊢
  rw [h.spec.1]
  rw [Bool.cond_eq_ite] at hp ⊢
  split at hp
  · rename_i hc
    cases hp; exact ⟨_, if_pos hc, (h.kill i).set i _⟩
  · cases hp
theorem lw.putL {L L' L1 : ALoc} (h : lw L L') {i : Nat} {v : Int64} (hp : lputL L' i v = some L1) : ∃ L2, lputL L i v = some L2 ∧ lw L2 L1 := by
  unfold lputL at hp ⊢
  rw [h.spec.1]
  rw [Bool.cond_eq_ite] at hp ⊢
  split at hp
  · rename_i hc
    cases hp; exact ⟨_, if_pos hc, ((h.kill i).set i _).set (i + 1) _⟩
  · cases hp
theorem lw.loadI {L L' : ALoc} (h : lw L L') {i : Nat} {x : Int32} (q : OwnX.loadI L' i = some x) : OwnX.loadI L i = some x := by
  unfold OwnX.loadI at q ⊢
  split at q
  · rename_i y hy
    rw [h.spec.2 _ _ hy]; exact q
  · cases q
theorem lw.loadJ {L L' : ALoc} (h : lw L L') {i : Nat} {x : Int64} (q : OwnX.loadJ L' i = some x) : OwnX.loadJ L i = some x := by
  unfold OwnX.loadJ at q ⊢
  split at q
  · rename_i y hy
    rw [h.spec.2 _ _ hy]; exact q
  · cases q
theorem lw.loadA {L L' : ALoc} (h : lw L L') {i x : Nat} (q : OwnX.loadA L' i = some x) : OwnX.loadA L i = some x := by
  unfold OwnX.loadA at q ⊢
  split at q
  · rename_i y hy
    rw [h.spec.2 _ _ hy]; exact q
  · cases q
set_option maxHeartbeats 4000000 in
theorem step_weak {i : Instr} {pc' : Nat} {S' : List Value} {H' : AHeap} {L1 : ALoc} (hw : lw L L') (h : step P k i np pc L' S H = some (pc', L1, S', H')) : ∃ L2, step P k i np pc L S H = some (pc', L2, S', H') ∧ lw L2 L1 := by
  cases i
  case iload_n n =>
    simp only [step] at h ⊢
    split at h
    · rename_i x hx
      rw [hw.loadI hx]; cases h; exact ⟨L, rfl, hw⟩
    · cases h
  case iload n =>
    simp only [step] at h ⊢
    split at h
    · rename_i x hx
      rw [hw.loadI hx]; cases h; exact ⟨L, rfl, hw⟩
    · cases h
  case lload_n n =>
    simp only [step] at h ⊢
    split at h
    · rename_i x hx
      rw [hw.loadJ hx]; cases h; exact ⟨L, rfl, hw⟩
    · cases h
  case lload n =>
    simp only [step] at h ⊢
    split at h
    · rename_i x hx
      rw [hw.loadJ hx]; cases h; exact ⟨L, rfl, hw⟩
    · cases h
  case aload_n n =>
    simp only [step] at h ⊢
    split at h
    · rename_i x hx
      rw [hw.loadA hx]; cases h; exact ⟨L, rfl, hw⟩
    · cases h
  case aload n =>
    simp only [step] at h ⊢
    split at h
    · rename_i x hx
      rw [hw.loadA hx]; cases h; exact ⟨L, rfl, hw⟩
    · cases h
  case istore_n n =>
    simp only [step] at h ⊢
    split at h
    · split at h
      · rename_i L3 hx
        obtain ⟨L2, e1, e2⟩ := hw.put hx
        cases h; exact ⟨L2, by simp only [e1], e2⟩
      · cases h
    · cases h
  case istore n =>
    simp only [step] at h ⊢
    split at h
    · split at h
      · rename_i L3 hx
        obtain ⟨L2, e1, e2⟩ := hw.put hx
        cases h; exact ⟨L2, by simp only [e1], e2⟩
      · cases h
    · cases h
  case astore_n n =>
    simp only [step] at h ⊢
    split at h
    · split at h
      · rename_i L3 hx
        obtain ⟨L2, e1, e2⟩ := hw.put hx
        cases h; exact ⟨L2, by simp only [e1], e2⟩
      · cases h
    · cases h
  case astore n =>
    simp only [step] at h ⊢
    split at h
    · split at h
      · rename_i L3 hx
        obtain ⟨L2, e1, e2⟩ := hw.put hx
        cases h; exact ⟨L2, by simp only [e1], e2⟩
      · cases h
    · cases h
  case lstore_n n =>
    simp only [step] at h ⊢
    split at h
    · split at h
      · rename_i L3 hx
        obtain ⟨L2, e1, e2⟩ := hw.putL hx
        cases h; exact ⟨L2, by simp only [e1], e2⟩
      · cases h
    · cases h
  case lstore n =>
    simp only [step] at h ⊢
    split at h
    · split at h
      · rename_i L3 hx
        obtain ⟨L2, e1, e2⟩ := hw.putL hx
        cases h; exact ⟨L2, by simp only [e1], e2⟩
      · cases h
    · cases h
  case iinc n c =>
    simp only [step] at h ⊢
    split at h
    · rename_i x hx
      rw [hw.loadI hx]
      split at h
      · rename_i L3 hp
        obtain ⟨L2, e1, e2⟩ := hw.put hp
        cases h; exact ⟨L2, by simp only [e1], e2⟩
      · cases h
    · cases h
  all_goals
    simp only [step, Bool.cond_eq_ite] at h ⊢
    repeat' (split at h)
  all_goals first
    | (cases h; done)
    | (simp only [Option.some.injEq, Prod.mk.injEq] at h; obtain ⟨rfl, rfl, rfl, rfl⟩ := h; refine ⟨L, ?_, hw⟩; first | rfl | (simp only [*, if_true, if_false]; done) | (simp [*]; done))
theorem run_weak : ∀ (n : Nat) {pc : Nat} {L L' : ALoc} {S : List Value} {H : AHeap} {out : Option Value × AHeap}, lw L L' → run P n k pc L' S H = some out → run P n k pc L S H = some out
  | 0, _, _, _, _, _, _, _, h => by simp [run] at h
  | n + 1, pc, L, L', S, H, out, hw, h => by
    rw [run] at h
    rw [run]
    split at h
    · cases h
    · rename_i i np hc
      try simp only [hc]
      split at h
      · rename_i v hv
        try simp only [hv]
        exact h
      · rename_i hv
        try simp only [hv]
        split at h
        · rename_i k' as rest hcall
          try simp only [hcall]
          split at h
          · rename_i v1 H1 h1
            try simp only [h1]
            exact run_weak n hw h
          · cases h
        · rename_i hcall
          try simp only [hcall]
          split at h
          · rename_i pc1 L1 S1 H1 h1
            obtain ⟨L2, e1, e2⟩ := step_weak hw h1
            simp only [e1]; exact run_weak n e2 h
          · cases h
theorem Eval.weak (hw : lw L L') (h : Eval P k pc L' S H out) : Eval P k pc L S H out := by
  obtain ⟨n, h⟩ := h
  exact ⟨n, run_weak n hw h⟩
end Rules
end Jvm.OwnX
namespace Jvm.OwnX
open Sem ClassFile Op Lib Jvm.Stand Jvm.Free Jvm.LawKit Jvm.RoadKit
/-! ## tables as lists -/
def findC : List (Nat × Instr × Nat) → Nat → Option (Instr × Nat)
  | [], _ => none
  | (q, x) :: r, pc => bif Nat.beq q pc then some x else findC r pc
abbrev CodeL := List (ByteArray × List (List (Nat × Instr × Nat)))
def codeAt (cs : CodeL) (k pc : Nat) : Option (Instr × Nat) := match cs[k]? with
  | some (_, ch) => (match ch[pc / 32]? with | some c => findC c pc | none => none)
  | none => none
def bcOf (cs : CodeL) (k : Nat) : ByteArray := match cs[k]? with | some (b, _) => b | none => ⟨#[]⟩
def okI (b : ByteArray) (e : Nat × Instr × Nat) : Bool := match decode b e.1 with
  | .ok (i, len) => decide (i = e.2.1) && Nat.beq (e.1 + len) e.2.2 && (Nat.beq (ilen i) 0 || Nat.beq len (ilen i))
  | _ => false
def okCs (cs : CodeL) : Bool := cs.all fun m => m.2.all fun c => c.all (okI m.1)
def tyCs (ty : ArrayType → Bool) (cs : CodeL) : Bool := cs.all fun m => m.2.all fun c => c.all fun e => match e.2.1 with | .newarray t => ty t | _ => true
theorem findC_mem : ∀ {l : List (Nat × Instr × Nat)} {pc : Nat} {x : Instr × Nat}, findC l pc = some x → (pc, x) ∈ l
  | [], pc, x, h => by cases h
  | (q, y) :: r, pc, x, h => by
    unfold findC at h
    cases hb : Nat.beq q pc
    · rw [hb] at h; exact List.mem_cons_of_mem _ (findC_mem h)
    · rw [hb] at h; cases h
      have : q = pc := Nat.eq_of_beq_eq_true hb
      subst this; exact List.mem_cons_self ..
theorem codeAt_mem {cs : CodeL} {k pc : Nat} {x : Instr × Nat} (h : codeAt cs k pc = some x) : ∃ m ∈ cs, bcOf cs k = m.1 ∧ ∃ c ∈ m.2, (pc, x) ∈ c := by
  unfold codeAt at h
  split at h
  · rename_i b ch hk
    split at h
    · rename_i c hc
      exact ⟨(b, ch), List.mem_of_getElem? hk, by simp [bcOf, hk], c, List.mem_of_getElem? hc, findC_mem h⟩
    · cases h
  · cases h
theorem code_ok {cs : CodeL} (h : okCs cs = true) {k pc : Nat} {i : Instr} {np : Nat} (hc : codeAt cs k pc = some (i, np)) : ∃ len, decode (bcOf cs k) pc = .ok (i, len) ∧ np = pc + len ∧ (ilen i = 0 ∨ len = ilen i) := by
  obtain ⟨m, h1, h2, c, h3, h4⟩ := codeAt_mem hc
  have q := List.all_eq_true.mp (List.all_eq_true.mp (List.all_eq_true.mp h m h1) c h3) _ h4
  unfold okI at q
  rw [h2]
  split at q
  · rename_i i' len hd
    simp only [Bool.and_eq_true, Bool.or_eq_true, decide_eq_true_eq] at q
    obtain ⟨⟨rfl, q2⟩, q3⟩ := q
    refine ⟨len, hd, (Nat.eq_of_beq_eq_true q2).symm, q3.elim (fun z => Or.inl (Nat.eq_of_beq_eq_true z)) fun z => Or.inr (Nat.eq_of_beq_eq_true z)⟩
  · cases q
theorem code_ty {ty : ArrayType → Bool} {cs : CodeL} (h : tyCs ty cs = true) {k pc : Nat} {t : ArrayType} {np : Nat} (hc : codeAt cs k pc = some (.newarray t, np)) : ty t = true := by
  obtain ⟨m, h1, h2, c, h3, h4⟩ := codeAt_mem hc
  exact List.all_eq_true.mp (List.all_eq_true.mp (List.all_eq_true.mp h m h1) c h3) _ h4
def lookT {α : Type} : List (Nat × Nat × α) → Nat → Nat → Option α
  | [], _, _ => none
  | (c', j', x) :: r, c, j => bif Nat.beq j' j && Nat.beq c' c then some x else lookT r c j
theorem lookT_mem {α : Type} : ∀ {l : List (Nat × Nat × α)} {c j : Nat} {x : α}, lookT l c j = some x → (c, j, x) ∈ l
  | [], c, j, x, h => by cases h
  | (c', j', y) :: r, c, j, x, h => by
    unfold lookT at h
    cases hb : (Nat.beq j' j && Nat.beq c' c)
    · rw [hb] at h; exact List.mem_cons_of_mem _ (lookT_mem h)
    · rw [hb] at h; cases h
      simp only [Bool.and_eq_true] at hb
      have h1 : j' = j := Nat.eq_of_beq_eq_true hb.1
      have h2 : c' = c := Nat.eq_of_beq_eq_true hb.2
      subst h1 h2; exact List.mem_cons_self ..
def AllP {α : Type} (p : α → Prop) : List α → Prop
  | [] => True
  | a :: r => p a ∧ AllP p r
theorem AllP.mem {α : Type} {p : α → Prop} : ∀ {l : List α}, AllP p l → ∀ a ∈ l, p a
  | [], _, a, h => nomatch h
  | _ :: _, ⟨h1, h2⟩, a, h => (List.mem_cons.mp h).elim (fun e => e ▸ h1) (AllP.mem h2 a)
def FldOk (P : Prog) (cn : Nat → String) (C : String) (Z : State) (a0 : Array Value) (e : Nat × Nat × Nat) : Prop := ∃ n d t fin, P.fields[e.2.2]? = some (n, d, t, fin) ∧ (Cond.fieldLink (cn e.1) e.2.1 C n d).before a0 Z = true
def FieldOk (C : String) (Z : State) (a0 : Array Value) (e : String × String × Nat × Bool) : Prop := (bif e.2.2.2 then (Cond.laysFinal C C e.1 e.2.1).before a0 Z else (Cond.lays C C e.1 e.2.1).before a0 Z) = true ∧ ∃ ty, parseFieldDescriptor e.2.1 = some ty ∧ tyOk e.2.2.1 ty = true ∧ defaultValue ty = dflt e.2.2.1
theorem good_of {cs : CodeL} {mi : Nat → MI} {links : List (Nat × Nat × Nat × Nat)} {flds : List (Nat × Nat × Nat)} {kons : List (Nat × Nat × Value)} {fields : List (String × String × Nat × Bool)} {objN ro cc cS : Nat} {nm : Nat → MethodName} {cn : Nat → String} {C : String} {Z : State} {a0 : Array Value} {ty : ArrayType → Bool} {P : Prog}
    (hP : P = (codeAt cs, mi, lookT links, lookT flds, lookT kons, fields, objN, ro, cc, cS)) (h1 : okCs cs = true) (h2 : AllP (FldOk P cn C Z a0) flds) (h3 : AllP (FieldOk C Z a0) fields) (h4 : (fields.map (·.1)).Nodup) (h5 : AllP (fun e => KonOk cn Z a0 e.1 e.2.1 e.2.2) kons)
    (h6 : (Cond.instantiable C objN).before a0 Z = true) (h7 : (Cond.initialized C).before a0 Z = true) (h8 : tyCs ty cs = true) (h8' : ∀ t, ty t = true → (Cond.arrayClass (newarray.typeOf t)).before a0 Z = true) (h9 : AllP (fun e => LinkOk P nm (bcOf cs) cn C Z a0 e.1 e.2.1 e.2.2.1 e.2.2.2) links) : Good P nm (bcOf cs) cn C Z a0 := by
  subst hP
  refine ⟨fun k pc i np h => code_ok h1 h, fun c j f h => h2.mem _ (lookT_mem h), fun f n d t fin h => h3.mem _ (List.mem_of_getElem? h), fun f g n d t fin n' d' t' fin' q1 q2 ne e => ?_, fun c j v h => h5.mem _ (lookT_mem h), h6, h7, fun k pc t np h => h8' _ (code_ty h8 h), fun c j q k h => h9.mem _ (lookT_mem h)⟩
  subst e
  have e1 : (fields.map (·.1))[f]? = some n := by rw [List.getElem?_map]; exact congrArg (Option.map (·.1)) q1
  have e2 : (fields.map (·.1))[g]? = some n := by rw [List.getElem?_map]; exact congrArg (Option.map (·.1)) q2
  exact ne ((List.getElem?_inj (List.getElem?_eq_some_iff.mp e1).1 h4).mp (e1.trans e2.symm))
/-! ## what the walks of functions use -/
theorem ite_some {α : Type} {c : Prop} [Decidable c] {a : Option α} {r : α} (h : (if c then a else none) = some r) : c ∧ a = some r := by
  by_cases hc : c
  · rw [if_pos hc] at h; exact ⟨hc, h⟩
  · rw [if_neg hc] at h; cases h
theorem ite_none {α : Type} {c : Prop} [Decidable c] {a : Option α} {r : α} (h : (if c then none else a) = some r) : ¬ c ∧ a = some r := by
  by_cases hc : c
  · rw [if_pos hc] at h; cases h
  · rw [if_neg hc] at h; exact ⟨hc, h⟩
theorem bind_some {α β : Type} {o : Option α} {f : α → Option β} {r : β} (h : o.bind f = some r) : ∃ a, o = some a ∧ f a = some r := Option.bind_eq_some_iff.mp h
section Calls
variable {P : Prog} {k pc np : Nat} {L L' : ALoc} {S S' : List Value} {H H1 : AHeap} {out : Option Value × AHeap} {i : Instr} {k' : Nat} {as rest : List Value}
theorem Eval.callI {x : Int32} (hc : P.code k pc = some (i, np)) (h2 : callV P k i S H = some (k', as, rest)) (he : Eval P k' 0 (entry P k' as) [] H (some (.int x), H1)) (h : Eval P k np L (.int x :: rest) H1 out) : Eval P k pc L S H out := Eval.call hc h2 he h
theorem Eval.callJ {x : Int64} (hc : P.code k pc = some (i, np)) (h2 : callV P k i S H = some (k', as, rest)) (he : Eval P k' 0 (entry P k' as) [] H (some (.long x), H1)) (h : Eval P k np L (.long x :: rest) H1 out) : Eval P k pc L S H out := Eval.call hc h2 he h
theorem Eval.callN (hc : P.code k pc = some (i, np)) (h2 : callV P k i S H = some (k', as, rest)) (he : Eval P k' 0 (entry P k' as) [] H (none, H1)) (h : Eval P k np L rest H1 out) : Eval P k pc L S H out := Eval.call hc h2 he h
theorem Eval.conv (h : Eval P k pc L S H out) (e1 : L = L') (e2 : S = S') : Eval P k pc L' S' H out := e1 ▸ e2 ▸ h
theorem Eval.heap {H' : AHeap} (e : H' = H) (h : Eval P k pc L S H' out) : Eval P k pc L S H out := e ▸ h
theorem Eval.retH {H' : AHeap} {v : Option Value} (e : H' = H) (hc : P.code k pc = some (i, np)) (h1 : retV P k i S = some v) : Eval P k pc L S H (v, H') := e ▸ Eval.ret hc h1
end Calls
end Jvm.OwnX
namespace Jvm.OwnX
open Sem ClassFile Op Lib Jvm.Stand Jvm.Free Jvm.LawKit Jvm.RoadKit
theorem HR.none (P : Prog) (C : String) (Z : State) (n0 : Nat) (h : Heap) : HR P C Z n0 [] [] h := ⟨rfl, fun i j a q => by simp at q, fun i a q => by simp at q, fun i c q => by simp at q⟩
def intOf : Value → Int32
  | .int x => x
  | _ => 0
theorem script_start {P : Prog} {C : String} {s : State} {a : Addr} {c : Cell} (hro : P.ro = 1) (hf : Fit s) (A : Arr s s.heap a c .int) : HR P C s s.heap.size [a] [.inr (.inl (0, c.slots.toList.map intOf))] s.heap := by
  have hlt := (Array.getElem?_eq_some_iff.mp A.1).1
  have hint : ∀ i (hi : i < c.slots.size), ∃ x, c.slots[i] = .int x := fun i hi => by
    have q := hf A.1 hi
    obtain ⟨hs, k, hk, comp, hkind⟩ := A.2.1
    have e : s.slotType? c.cls c.vm i = some .int := by
      cases hq : c.vm <;> first | exact absurd hq (hs _) | simp [State.slotType?, hk, hkind]
    have q2 : fits .int c.slots[i] = true := by simpa [State.fitsSlot, e] using q
    exact fit_I q2 (Or.inl rfl)
  refine ⟨rfl, fun i j x q1 q2 => ?_, fun i x q => ?_, fun i d q => ?_⟩
  · cases i with
    | zero => cases j with
      | zero => rfl
      | succ j => simp at q2
    | succ i => simp at q1
  · cases i with
    | zero => simp at q; subst q; exact ⟨hlt, fun h => by rw [hro] at h; omega⟩
    | succ i => simp at q
  · cases i with
    | zero =>
      simp at q; subst q
      refine ⟨a, rfl, c, A, by simp, fun j x hx => ?_⟩
      rw [List.getElem?_map] at hx
      obtain ⟨v, hv, rfl⟩ := Option.map_eq_some_iff.mp hx
      rw [Array.getElem?_toList] at hv
      obtain ⟨hj, rfl⟩ := Array.getElem?_eq_some_iff.mp hv
      obtain ⟨x, e⟩ := hint j hj
      rw [Array.getElem?_eq_getElem hj, e]; rfl
    | succ i => simp at q
end Jvm.OwnX
namespace Jvm.OwnX
/-! ## plain facts on the functions' words -/
theorem len_wr (xs : List Int32) (j v : Int32) : (wr xs j v).length = xs.length := by simp [wr]
theorem len_wrL (xs : List Int64) (j : Int32) (v : Int64) : (wrL xs j v).length = xs.length := by simp [wrL]
theorem rd_wr_same {xs : List Int32} {j : Int32} (h : inb xs.length j = true) (v : Int32) : rd (wr xs j v) j = v := by
  have := inb_lt h
  simp [rd, wr, List.getD_eq_getElem?_getD, this]
theorem rdL_wrL_same {xs : List Int64} {j : Int32} (h : inb xs.length j = true) (v : Int64) : rdL (wrL xs j v) j = v := by
  have := inb_lt h
  simp [rdL, wrL, List.getD_eq_getElem?_getD, this]
theorem nat_inj {i j : Int32} (hi : ¬ i < 0) (hj : ¬ j < 0) (h : i.toNatClampNeg = j.toNatClampNeg) : i = j := by
  apply Int32.toInt_inj.mp
  simp only [Int32.lt_iff_toInt_lt, Int32.toNatClampNeg, Int32.reduceToInt] at hi hj h; omega
theorem inb_nn {n : Nat} {j : Int32} (h : inb n j = true) : ¬ j < 0 := fun q => inb_spec h (Or.inl q)
theorem rd_wr_ne {xs : List Int32} {i j : Int32} (hi : ¬ i < 0) (hj : ¬ j < 0) (h : i ≠ j) (v : Int32) : rd (wr xs i v) j = rd xs j := by
  have : i.toNatClampNeg ≠ j.toNatClampNeg := fun q => h (nat_inj hi hj q)
  simp [rd, wr, List.getD_eq_getElem?_getD, List.getElem?_set_ne this]
theorem rdL_wrL_ne {xs : List Int64} {i j : Int32} (hi : ¬ i < 0) (hj : ¬ j < 0) (h : i ≠ j) (v : Int64) : rdL (wrL xs i v) j = rdL xs j := by
  have : i.toNatClampNeg ≠ j.toNatClampNeg := fun q => h (nat_inj hi hj q)
  simp [rdL, wrL, List.getD_eq_getElem?_getD, List.getElem?_set_ne this]
theorem rd_rep (n : Nat) (j : Int32) : rd (List.replicate n 0) j = 0 := by
  simp only [rd, List.getD_eq_getElem?_getD, List.getElem?_replicate]; split <;> rfl
theorem rdL_rep (n : Nat) (j : Int32) : rdL (List.replicate n 0) j = 0 := by
  simp only [rdL, List.getD_eq_getElem?_getD, List.getElem?_replicate]; split <;> rfl
theorem inb_iff {n : Nat} {j : Int32} : inb n j = true ↔ 0 ≤ j.toInt ∧ j.toInt < n := by
  simp only [inb, Bool.and_eq_true, Bool.not_eq_true', decide_eq_false_iff_not, Int32.lt_iff_toInt_lt, Int32.reduceToInt]
  constructor
  · rintro ⟨h1, h2⟩
    have h3 := Nat.le_of_ble_eq_true h2
    simp only [Int32.toNatClampNeg] at h3
    omega
  · rintro ⟨h1, h2⟩
    refine ⟨by omega, Nat.ble_eq_true_of_le ?_⟩
    simp only [Int32.toNatClampNeg]; omega
theorem lt32 {x y : Int32} : x < y ↔ x.toInt < y.toInt := Int32.lt_iff_toInt_lt
theorem eq32 {x y : Int32} : x = y ↔ x.toInt = y.toInt := Int32.toInt_inj.symm
end Jvm.OwnX
namespace Jvm.Pilot.@@N@@
open Jvm Jvm.ClassFile Sem Op Lib Jvm.Free Jvm.Stand Jvm.LawKit Jvm.RoadKit Bundle Jvm.Pilot.@@N@@.Jvm.D Jvm.OwnX
/-! # tables (printed by gen.py out of the claim's listing and sheet) -/
def oo (a k n m : Nat) : List Value := (List.range k).map (fun j => Value.ref (a + j)) ++ (List.replicate n Value.null ++ List.replicate m (Value.int 0))
abbrev oA (t n : Nat) : ACell := .inr (.inl (t, List.replicate n 0))
def own_cs : CodeL := [
  (code, [
    [(0, .new 8, 3), (3, .dup, 4), (4, .iconst 1, 5), (5, .iconst 3, 6), (6, .bipush 60, 8), (8, .invokespecial 64, 11), (11, .astore_n 1, 12), (12, .new 8, 15), (15, .dup, 16), (16, .iconst 1, 17), (17, .iconst 3, 18), (18, .bipush 60, 20), (20, .invokespecial 64, 23), (23, .astore_n 2, 24), (24, .iconst 0, 25), (25, .istore_n 3, 26), (26, .iload_n 3, 27), (27, .iconst 3, 28), (28, .iadd, 29), (29, .aload_n 0, 30), (30, .arraylength, 31), (31, .if_icmp .ge 303, 34)],
    [(34, .aload_n 0, 35), (35, .iload_n 3, 36), (36, .iaload, 37), (37, .bipush 7, 39), (39, .iand, 40), (40, .istore 4, 42), (42, .aload_n 0, 43), (43, .iload_n 3, 44), (44, .iconst 1, 45), (45, .iadd, 46), (46, .iaload, 47), (47, .iconst 3, 48), (48, .iand, 49), (49, .istore 5, 51), (51, .aload_n 0, 52), (52, .iload_n 3, 53), (53, .iconst 2, 54), (54, .iadd, 55), (55, .iaload, 56), (56, .istore 6, 58), (58, .aload_n 1, 59), (59, .iload 4, 61), (61, .iload 5, 63), (63, .iload 6, 65)],
    [(65, .invokestatic 67, 68), (68, .aload_n 2, 69), (69, .iload 4, 71), (71, .iload 5, 73), (73, .iload 6, 75), (75, .invokestatic 67, 78), (78, .if_icmp .eq 5, 81), (81, .iconst 0, 82), (82, .ireturn, 83), (83, .aload_n 0, 84), (84, .iload_n 3, 85), (85, .iconst 3, 86), (86, .iadd, 87), (87, .iaload, 88), (88, .istore 7, 90), (90, .iload 7, 92), (92, .bipush 7, 94), (94, .iand, 95), (95, .istore 8, 97)],
    [(97, .iload 7, 99), (99, .iconst 3, 100), (100, .ishr, 101), (101, .iconst 3, 102), (102, .iand, 103), (103, .istore 9, 105), (105, .iload 7, 107), (107, .iconst 5, 108), (108, .ishr, 109), (109, .sipush 1023, 112), (112, .iand, 113), (113, .istore 10, 115), (115, .aload_n 1, 116), (116, .iload 9, 118), (118, .invokevirtual 36, 121), (121, .istore 11, 123), (123, .iload 8, 125), (125, .ifCond .ne 25, 128)],
    [(128, .iload 11, 130), (130, .ifCond .eq 20, 133), (133, .aload_n 1, 134), (134, .iload 9, 136), (136, .iload 10, 138), (138, .sipush 255, 141), (141, .iand, 142), (142, .invokevirtual 7, 145), (145, .ifCond .eq 5, 148), (148, .iconst 0, 149), (149, .ireturn, 150), (150, .iload 8, 152), (152, .iconst 1, 153), (153, .if_icmp .ne 19, 156), (156, .iload 11, 158), (158, .ifCond .eq 14, 161)],
    [(161, .aload_n 1, 162), (162, .iload 9, 164), (164, .invokevirtual 13, 167), (167, .ifCond .eq 5, 170), (170, .iconst 0, 171), (171, .ireturn, 172), (172, .iload 8, 174), (174, .iconst 2, 175), (175, .if_icmp .ne 31, 178), (178, .iload 11, 180), (180, .iconst 1, 181), (181, .if_icmp .gt 25, 184), (184, .aload_n 1, 185), (185, .iload 9, 187), (187, .invokevirtual 32, 190), (190, .iload 9, 192)],
    [(192, .iconst 3, 193), (193, .if_icmp .ne 7, 196), (196, .iconst (-1), 197), (197, .goto 4, 200), (200, .iconst 0, 201), (201, .if_icmp .eq 5, 204), (204, .iconst 0, 205), (205, .ireturn, 206), (206, .iload 8, 208), (208, .iconst 3, 209), (209, .if_icmp .ne 33, 212), (212, .iload 11, 214), (214, .iconst 1, 215), (215, .if_icmp .gt 27, 218), (218, .aload_n 1, 219), (219, .iload 9, 221), (221, .iload 10, 223), (223, .invokevirtual 17, 226)],
    [(226, .iload 9, 228), (228, .iconst 3, 229), (229, .if_icmp .ne 7, 232), (232, .iconst (-1), 233), (233, .goto 4, 236), (236, .iconst 0, 237), (237, .if_icmp .eq 5, 240), (240, .iconst 0, 241), (241, .ireturn, 242), (242, .iload 8, 244), (244, .iconst 4, 245), (245, .if_icmp .ne 17, 248), (248, .aload_n 1, 249), (249, .iload 9, 251), (251, .iconst 3, 252), (252, .iload 10, 254), (254, .invokevirtual 21, 257)],
    [(257, .ifCond .eq 5, 260), (260, .iconst 0, 261), (261, .ireturn, 262), (262, .iload 8, 264), (264, .iconst 5, 265), (265, .if_icmp .ne 30, 268), (268, .aload_n 1, 269), (269, .iload 9, 271), (271, .iload 11, 273), (273, .iconst 1, 274), (274, .if_icmp .ne 7, 277), (277, .iconst 0, 278), (278, .goto 7, 281), (281, .iload 10, 283), (283, .iconst 3, 284), (284, .iand, 285), (285, .iload 10, 287), (287, .invokevirtual 25, 290)],
    [(290, .ifCond .eq 5, 293), (293, .iconst 0, 294), (294, .ireturn, 295), (295, .iload 8, 297), (297, .bipush 6, 299), (299, .if_icmp .ne 19, 302), (302, .aload_n 1, 303), (303, .invokestatic 73, 306), (306, .ifCond .eq 12, 309), (309, .aload_n 1, 310), (310, .invokevirtual 28, 313), (313, .ifCond .eq 5, 316), (316, .iconst 0, 317), (317, .ireturn, 318), (318, .aload_n 1, 319), (319, .aload_n 2, 320)],
    [(320, .invokestatic 77, 323), (323, .ifCond .ne 5, 326), (326, .iconst 0, 327), (327, .ireturn, 328), (328, .iinc 3 4, 331), (331, .goto (-305), 334), (334, .iconst 1, 335), (335, .ireturn, 336)]]),
  (prog_1_method_1_code, [
    [(0, .aload_n 0, 1), (1, .invokespecial 1, 4), (4, .aload_n 0, 5), (5, .bipush 8, 7), (7, .newarray .int, 9), (9, .putfield 7, 12), (12, .aload_n 0, 13), (13, .bipush 8, 15), (15, .newarray .int, 17), (17, .putfield 13, 20), (20, .aload_n 0, 21), (21, .iconst 4, 22), (22, .newarray .int, 24), (24, .putfield 16, 27), (27, .aload_n 0, 28), (28, .iconst 4, 29), (29, .newarray .int, 31), (31, .putfield 19, 34)],
    [(34, .aload_n 0, 35), (35, .iconst 4, 36), (36, .newarray .int, 38), (38, .putfield 22, 41), (41, .aload_n 0, 42), (42, .iconst 4, 43), (43, .newarray .int, 45), (45, .putfield 25, 48), (48, .aload_n 0, 49), (49, .iconst 4, 50), (50, .newarray .int, 52), (52, .putfield 28, 55), (55, .aload_n 0, 56), (56, .iconst 4, 57), (57, .newarray .int, 59), (59, .putfield 31, 62), (62, .aload_n 0, 63), (63, .bipush 64, 65)],
    [(65, .newarray .int, 67), (67, .putfield 34, 70), (70, .aload_n 0, 71), (71, .bipush 64, 73), (73, .newarray .int, 75), (75, .putfield 37, 78), (78, .aload_n 0, 79), (79, .bipush 64, 81), (81, .newarray .int, 83), (83, .putfield 40, 86), (86, .aload_n 0, 87), (87, .bipush 8, 89), (89, .newarray .int, 91), (91, .putfield 43, 94), (94, .aload_n 0, 95), (95, .bipush 6, 97)],
    [(97, .newarray .int, 99), (99, .putfield 46, 102), (102, .aload_n 0, 103), (103, .bipush 6, 105), (105, .newarray .int, 107), (107, .putfield 49, 110), (110, .aload_n 0, 111), (111, .bipush 6, 113), (113, .newarray .int, 115), (115, .putfield 52, 118), (118, .aload_n 0, 119), (119, .bipush 6, 121), (121, .newarray .int, 123), (123, .putfield 55, 126), (126, .aload_n 0, 127), (127, .bipush 6, 129)],
    [(129, .newarray .int, 131), (131, .putfield 58, 134), (134, .aload_n 0, 135), (135, .bipush 6, 137), (137, .newarray .int, 139), (139, .putfield 61, 142), (142, .aload_n 0, 143), (143, .bipush 6, 145), (145, .newarray .int, 147), (147, .putfield 64, 150), (150, .aload_n 0, 151), (151, .iconst 4, 152), (152, .newarray .int, 154), (154, .putfield 67, 157), (157, .aload_n 0, 158), (158, .bipush 56, 160)],
    [(160, .newarray .int, 162), (162, .putfield 70, 165), (165, .aload_n 0, 166), (166, .bipush 7, 168), (168, .newarray .int, 170), (170, .putfield 73, 173), (173, .aload_n 0, 174), (174, .bipush 7, 176), (176, .newarray .int, 178), (178, .putfield 76, 181), (181, .aload_n 0, 182), (182, .bipush 7, 184), (184, .newarray .int, 186), (186, .putfield 79, 189), (189, .aload_n 0, 190), (190, .iload_n 1, 191), (191, .iconst 1, 192)],
    [(192, .iconst 3, 193), (193, .invokevirtual 82, 196), (196, .istore 4, 198), (198, .aload_n 0, 199), (199, .aload_n 0, 200), (200, .iload_n 2, 201), (201, .iconst 1, 202), (202, .iconst 4, 203), (203, .invokevirtual 82, 206), (206, .putfield 86, 209), (209, .aload_n 0, 210), (210, .iload_n 3, 211), (211, .iconst 0, 212), (212, .bipush 63, 214), (214, .invokevirtual 82, 217), (217, .istore 5, 219), (219, .aload_n 0, 220), (220, .iconst 1, 221), (221, .iload 4, 223), (223, .ishl, 224)],
    [(224, .putfield 90, 227), (227, .aload_n 0, 228), (228, .aload_n 0, 229), (229, .getfield 90, 232), (232, .iconst 1, 233), (233, .isub, 234), (234, .putfield 93, 237), (237, .ldc 96, 239), (239, .iload 5, 241), (241, .iadd, 242), (242, .istore 6, 244), (244, .aload_n 0, 245), (245, .iload 6, 247), (247, .putfield 97, 250), (250, .aload_n 0, 251), (251, .iload 6, 253), (253, .putfield 100, 256)],
    [(256, .iconst 0, 257), (257, .istore 7, 259), (259, .iload 7, 261), (261, .bipush 8, 263), (263, .if_icmp .ge 41, 266), (266, .iload 7, 268), (268, .aload_n 0, 269), (269, .getfield 90, 272), (272, .if_icmp .lt 6, 275), (275, .goto 29, 278), (278, .aload_n 0, 279), (279, .getfield 7, 282), (282, .iload 6, 284), (284, .iload 7, 286), (286, .iadd, 287), (287, .aload_n 0, 288)],
    [(288, .getfield 93, 291), (291, .iand, 292), (292, .iload 6, 294), (294, .iload 7, 296), (296, .iadd, 297), (297, .iastore, 298), (298, .iinc 7 1, 301), (301, .goto (-42), 304), (304, .aload_n 0, 305), (305, .iconst 0, 306), (306, .putfield 103, 309), (309, .aload_n 0, 310), (310, .iconst 0, 311), (311, .putfield 106, 314), (314, .return_, 315)]]),
  (prog_1_method_2_code, [
    [(0, .iload_n 1, 1), (1, .iload_n 2, 2), (2, .if_icmp .ge 5, 5), (5, .iload_n 2, 6), (6, .ireturn, 7), (7, .iload_n 1, 8), (8, .iload_n 3, 9), (9, .if_icmp .le 5, 12), (12, .iload_n 3, 13), (13, .ireturn, 14), (14, .iload_n 1, 15), (15, .ireturn, 16)]]),
  (method_2_code, [
    [(0, .iload_n 1, 1), (1, .ifCond .ne 22, 4), (4, .aload_n 0, 5), (5, .iload_n 2, 6), (6, .iload_n 3, 7), (7, .sipush 255, 10), (10, .iand, 11), (11, .invokevirtual 7, 14), (14, .ifCond .eq 7, 17), (17, .iconst 1, 18), (18, .goto 4, 21), (21, .iconst 0, 22), (22, .ireturn, 23), (23, .iload_n 1, 24), (24, .iconst 1, 25), (25, .if_icmp .ne 17, 28), (28, .aload_n 0, 29), (29, .iload_n 2, 30), (30, .invokevirtual 13, 33)],
    [(33, .ifCond .eq 7, 36), (36, .iconst 1, 37), (37, .goto 4, 40), (40, .iconst 0, 41), (41, .ireturn, 42), (42, .iload_n 1, 43), (43, .iconst 3, 44), (44, .if_icmp .ne 13, 47), (47, .aload_n 0, 48), (48, .iload_n 2, 49), (49, .iload_n 3, 50), (50, .bipush 15, 52), (52, .iand, 53), (53, .invokevirtual 17, 56), (56, .ireturn, 57), (57, .iload_n 1, 58), (58, .iconst 4, 59), (59, .if_icmp .ne 28, 62), (62, .aload_n 0, 63), (63, .iload_n 2, 64)],
    [(64, .iload_n 3, 65), (65, .bipush 8, 67), (67, .ishr, 68), (68, .iconst 3, 69), (69, .iand, 70), (70, .iload_n 3, 71), (71, .sipush 255, 74), (74, .iand, 75), (75, .invokevirtual 21, 78), (78, .ifCond .eq 7, 81), (81, .iconst 1, 82), (82, .goto 4, 85), (85, .iconst 0, 86), (86, .ireturn, 87), (87, .iload_n 1, 88), (88, .iconst 5, 89), (89, .if_icmp .ne 28, 92), (92, .aload_n 0, 93), (93, .iload_n 2, 94), (94, .iload_n 3, 95), (95, .bipush 8, 97)],
    [(97, .ishr, 98), (98, .iconst 3, 99), (99, .iand, 100), (100, .iload_n 3, 101), (101, .sipush 255, 104), (104, .iand, 105), (105, .invokevirtual 25, 108), (108, .ifCond .eq 7, 111), (111, .iconst 1, 112), (112, .goto 4, 115), (115, .iconst 0, 116), (116, .ireturn, 117), (117, .iload_n 1, 118), (118, .bipush 6, 120), (120, .if_icmp .ne 16, 123), (123, .aload_n 0, 124), (124, .invokevirtual 28, 127), (127, .ifCond .eq 7, 130)],
    [(130, .iconst 1, 131), (131, .goto 4, 134), (134, .iconst 0, 135), (135, .ireturn, 136), (136, .aload_n 0, 137), (137, .iload_n 2, 138), (138, .invokevirtual 32, 141), (141, .ireturn, 142)]]),
  (prog_1_method_11_code, [
    [(0, .aload_n 0, 1), (1, .iload_n 2, 2), (2, .iconst 1, 3), (3, .bipush 64, 5), (5, .invokevirtual 82, 8), (8, .istore_n 3, 9), (9, .aload_n 0, 10), (10, .iload_n 1, 11), (11, .invokevirtual 113, 14), (14, .ifCond .ne 5, 17), (17, .iconst (-1), 18), (18, .ireturn, 19), (19, .aload_n 0, 20), (20, .getfield 16, 23), (23, .iload_n 1, 24), (24, .iaload, 25), (25, .ifCond .eq 13, 28), (28, .aload_n 0, 29), (29, .getfield 16, 32)],
    [(32, .iload_n 1, 33), (33, .iaload, 34), (34, .iconst 1, 35), (35, .if_icmp .ne 5, 38), (38, .iconst 0, 39), (39, .ireturn, 40), (40, .iconst 0, 41), (41, .istore 4, 43), (43, .iload 4, 45), (45, .iload_n 3, 46), (46, .if_icmp .ge 19, 49), (49, .aload_n 0, 50), (50, .iload_n 1, 51), (51, .invokevirtual 125, 54), (54, .ifCond .eq 5, 57), (57, .iconst 2, 58), (58, .ireturn, 59), (59, .iinc 4 1, 62), (62, .goto (-19), 65)],
    [(65, .iconst 1, 66), (66, .ireturn, 67)]]),
  (prog_1_method_3_code, [
    [(0, .iload_n 1, 1), (1, .ifCond .lt 15, 4), (4, .iload_n 1, 5), (5, .aload_n 0, 6), (6, .getfield 86, 9), (9, .if_icmp .ge 7, 12), (12, .iconst 1, 13), (13, .goto 4, 16), (16, .iconst 0, 17), (17, .ireturn, 18)]]),
  (prog_1_method_16_code, [
    [(0, .aload_n 0, 1), (1, .iload_n 1, 2), (2, .invokevirtual 113, 5), (5, .ifCond .eq 12, 8), (8, .aload_n 0, 9), (9, .getfield 16, 12), (12, .iload_n 1, 13), (13, .iaload, 14), (14, .goto 4, 17), (17, .iconst (-1), 18), (18, .ireturn, 19)]]),
  (method_3_code, [
    [(0, .iconst 0, 1), (1, .istore_n 2, 2), (2, .iload_n 2, 3), (3, .iconst 5, 4), (4, .if_icmp .ge 50, 7), (7, .aload_n 0, 8), (8, .iload_n 2, 9), (9, .invokevirtual 36, 12), (12, .aload_n 1, 13), (13, .iload_n 2, 14), (14, .invokevirtual 36, 17), (17, .if_icmp .ne 29, 20), (20, .aload_n 0, 21), (21, .iload_n 2, 22), (22, .invokevirtual 39, 25), (25, .aload_n 1, 26), (26, .iload_n 2, 27), (27, .invokevirtual 39, 30), (30, .if_icmp .ne 16, 33)],
    [(33, .aload_n 0, 34), (34, .iload_n 2, 35), (35, .invokevirtual 42, 38), (38, .aload_n 1, 39), (39, .iload_n 2, 40), (40, .invokevirtual 42, 43), (43, .if_icmp .eq 5, 46), (46, .iconst 0, 47), (47, .ireturn, 48), (48, .iinc 2 1, 51), (51, .goto (-49), 54), (54, .aload_n 0, 55), (55, .invokevirtual 45, 58), (58, .aload_n 1, 59), (59, .invokevirtual 45, 62), (62, .if_icmp .ne 14, 65)],
    [(65, .aload_n 0, 66), (66, .invokevirtual 49, 69), (69, .aload_n 1, 70), (70, .invokevirtual 49, 73), (73, .if_icmp .eq 5, 76), (76, .iconst 0, 77), (77, .ireturn, 78), (78, .iconst 0, 79), (79, .istore_n 2, 80), (80, .iload_n 2, 81), (81, .bipush 64, 83), (83, .if_icmp .ge 52, 86), (86, .aload_n 0, 87), (87, .iload_n 2, 88), (88, .invokevirtual 52, 91), (91, .aload_n 1, 92), (92, .iload_n 2, 93), (93, .invokevirtual 52, 96)],
    [(96, .if_icmp .ne 16, 99), (99, .aload_n 0, 100), (100, .iload_n 2, 101), (101, .invokevirtual 55, 104), (104, .aload_n 1, 105), (105, .iload_n 2, 106), (106, .invokevirtual 55, 109), (109, .if_icmp .eq 5, 112), (112, .iconst 0, 113), (113, .ireturn, 114), (114, .aload_n 0, 115), (115, .iload_n 2, 116), (116, .invokevirtual 58, 119), (119, .aload_n 1, 120), (120, .iload_n 2, 121), (121, .invokevirtual 58, 124), (124, .if_icmp .eq 5, 127), (127, .iconst 0, 128)],
    [(128, .ireturn, 129), (129, .iinc 2 1, 132), (132, .goto (-52), 135), (135, .aload_n 0, 136), (136, .invokevirtual 61, 139), (139, .aload_n 1, 140), (140, .invokevirtual 61, 143), (143, .if_icmp .ne 7, 146), (146, .iconst 1, 147), (147, .goto 4, 150), (150, .iconst 0, 151), (151, .ireturn, 152)]]),
  (prog_1_method_17_code, [
    [(0, .aload_n 0, 1), (1, .iload_n 1, 2), (2, .invokevirtual 113, 5), (5, .ifCond .eq 12, 8), (8, .aload_n 0, 9), (9, .getfield 25, 12), (12, .iload_n 1, 13), (13, .iaload, 14), (14, .goto 4, 17), (17, .iconst (-1), 18), (18, .ireturn, 19)]]),
  (prog_1_method_18_code, [
    [(0, .aload_n 0, 1), (1, .iload_n 1, 2), (2, .invokevirtual 113, 5), (5, .ifCond .eq 12, 8), (8, .aload_n 0, 9), (9, .getfield 28, 12), (12, .iload_n 1, 13), (13, .iaload, 14), (14, .goto 4, 17), (17, .iconst 0, 18), (18, .ireturn, 19)]]),
  (prog_1_method_19_code, [
    [(0, .iconst 0, 1), (1, .istore_n 1, 2), (2, .iload_n 1, 3), (3, .iconst 4, 4), (4, .if_icmp .ge 41, 7), (7, .iload_n 1, 8), (8, .aload_n 0, 9), (9, .getfield 86, 12), (12, .if_icmp .ge 27, 15), (15, .aload_n 0, 16), (16, .getfield 16, 19), (19, .iload_n 1, 20), (20, .iaload, 21), (21, .bipush 11, 23), (23, .if_icmp .lt 16, 26), (26, .aload_n 0, 27), (27, .getfield 16, 30), (30, .iload_n 1, 31), (31, .iaload, 32)],
    [(32, .bipush 26, 34), (34, .if_icmp .gt 5, 37), (37, .iconst (-1), 38), (38, .ireturn, 39), (39, .iinc 1 1, 42), (42, .goto (-40), 45), (45, .aload_n 0, 46), (46, .getfield 100, 49), (49, .aload_n 0, 50), (50, .getfield 97, 53), (53, .isub, 54), (54, .ireturn, 55)]]),
  (prog_1_method_24_code, [
    [(0, .aload_n 0, 1), (1, .getfield 103, 4), (4, .ireturn, 5)]]),
  (prog_1_method_25_code, [
    [(0, .iload_n 1, 1), (1, .ifCond .lt 34, 4), (4, .iload_n 1, 5), (5, .aload_n 0, 6), (6, .getfield 103, 9), (9, .if_icmp .ge 26, 12), (12, .iload_n 1, 13), (13, .bipush 64, 15), (15, .if_icmp .ge 20, 18), (18, .aload_n 0, 19), (19, .getfield 34, 22), (22, .iload_n 1, 23), (23, .iaload, 24), (24, .bipush 16, 26), (26, .imul, 27), (27, .aload_n 0, 28), (28, .getfield 37, 31), (31, .iload_n 1, 32)],
    [(32, .iaload, 33), (33, .iadd, 34), (34, .ireturn, 35), (35, .iconst 0, 36), (36, .ireturn, 37)]]),
  (prog_1_method_26_code, [
    [(0, .iload_n 1, 1), (1, .ifCond .lt 24, 4), (4, .iload_n 1, 5), (5, .aload_n 0, 6), (6, .getfield 103, 9), (9, .if_icmp .ge 16, 12), (12, .iload_n 1, 13), (13, .bipush 64, 15), (15, .if_icmp .ge 10, 18), (18, .aload_n 0, 19), (19, .getfield 40, 22), (22, .iload_n 1, 23), (23, .iaload, 24), (24, .ireturn, 25), (25, .iconst 0, 26), (26, .ireturn, 27)]]),
  (prog_1_method_20_code, [
    [(0, .aload_n 0, 1), (1, .invokevirtual 142, 4), (4, .istore_n 2, 5), (5, .iload_n 2, 6), (6, .ifCond .lt 29, 9), (9, .iload_n 1, 10), (10, .ifCond .lt 25, 13), (13, .iload_n 1, 14), (14, .iload_n 2, 15), (15, .if_icmp .ge 20, 18), (18, .aload_n 0, 19), (19, .getfield 13, 22), (22, .aload_n 0, 23), (23, .getfield 97, 26), (26, .iload_n 1, 27), (27, .iadd, 28), (28, .aload_n 0, 29), (29, .getfield 93, 32)],
    [(32, .iand, 33), (33, .iaload, 34), (34, .ireturn, 35), (35, .iconst 0, 36), (36, .ireturn, 37)]]),
  (prog_1_method_27_code, [
    [(0, .aload_n 0, 1), (1, .invokevirtual 145, 4), (4, .istore_n 1, 5), (5, .iload_n 1, 6), (6, .bipush 6, 8), (8, .if_icmp .le 5, 11), (11, .iconst (-1), 12), (12, .ireturn, 13), (13, .aload_n 0, 14), (14, .invokevirtual 148, 17), (17, .aload_n 0, 18), (18, .invokevirtual 151, 21), (21, .aload_n 0, 22), (22, .invokevirtual 154, 25), (25, .ireturn, 26)]]),
  (prog_1_method_28_code, [
    [(0, .iconst 0, 1), (1, .istore_n 1, 2), (2, .iconst 0, 3), (3, .istore_n 2, 4), (4, .iload_n 2, 5), (5, .bipush 64, 7), (7, .if_icmp .ge 40, 10), (10, .iload_n 2, 11), (11, .aload_n 0, 12), (12, .getfield 103, 15), (15, .if_icmp .ge 32, 18), (18, .aload_n 0, 19), (19, .getfield 34, 22), (22, .iload_n 2, 23), (23, .iaload, 24), (24, .iconst 1, 25), (25, .if_icmp .eq 13, 28), (28, .aload_n 0, 29), (29, .getfield 34, 32)],
    [(32, .iload_n 2, 33), (33, .iaload, 34), (34, .iconst 2, 35), (35, .if_icmp .ne 6, 38), (38, .iinc 1 1, 41), (41, .iinc 2 1, 44), (44, .goto (-40), 47), (47, .iload_n 1, 48), (48, .ireturn, 49)]]),
  (prog_1_method_29_code, [
    [(0, .aload_n 0, 1), (1, .iconst 0, 2), (2, .putfield 157, 5), (5, .iconst 0, 6), (6, .istore_n 1, 7), (7, .iload_n 1, 8), (8, .iconst 4, 9), (9, .if_icmp .ge 16, 12), (12, .aload_n 0, 13), (13, .getfield 67, 16), (16, .iload_n 1, 17), (17, .iconst (-1), 18), (18, .iastore, 19), (19, .iinc 1 1, 22), (22, .goto (-15), 25), (25, .iconst 0, 26), (26, .istore_n 1, 27), (27, .iload_n 1, 28), (28, .bipush 64, 30), (30, .if_icmp .ge 71, 33)],
    [(33, .iload_n 1, 34), (34, .aload_n 0, 35), (35, .getfield 103, 38), (38, .if_icmp .ge 63, 41), (41, .aload_n 0, 42), (42, .getfield 37, 45), (45, .iload_n 1, 46), (46, .iaload, 47), (47, .istore_n 2, 48), (48, .iload_n 2, 49), (49, .ifCond .lt 46, 52), (52, .iload_n 2, 53), (53, .iconst 3, 54), (54, .if_icmp .le 6, 57), (57, .goto 38, 60), (60, .aload_n 0, 61), (61, .getfield 34, 64)],
    [(64, .iload_n 1, 65), (65, .iaload, 66), (66, .iconst 1, 67), (67, .if_icmp .eq 13, 70), (70, .aload_n 0, 71), (71, .getfield 34, 74), (74, .iload_n 1, 75), (75, .iaload, 76), (76, .iconst 2, 77), (77, .if_icmp .ne 12, 80), (80, .aload_n 0, 81), (81, .iload_n 1, 82), (82, .iload_n 2, 83), (83, .invokevirtual 160, 86), (86, .goto 9, 89), (89, .aload_n 0, 90), (90, .iload_n 1, 91), (91, .iload_n 2, 92), (92, .invokevirtual 164, 95), (95, .iinc 1 1, 98)],
    [(98, .goto (-71), 101), (101, .return_, 102)]]),
  (prog_1_method_32_code, [
    [(0, .aload_n 0, 1), (1, .iconst 0, 2), (2, .putfield 167, 5), (5, .iconst 0, 6), (6, .istore_n 1, 7), (7, .iload_n 1, 8), (8, .bipush 6, 10), (10, .if_icmp .ge 45, 13), (13, .iload_n 1, 14), (14, .aload_n 0, 15), (15, .getfield 157, 18), (18, .if_icmp .ge 37, 21), (21, .aload_n 0, 22), (22, .getfield 64, 25), (25, .iload_n 1, 26), (26, .iconst 0, 27), (27, .iastore, 28), (28, .aload_n 0, 29), (29, .getfield 55, 32)],
    [(32, .iload_n 1, 33), (33, .iaload, 34), (34, .ifCond .lt 15, 37), (37, .aload_n 0, 38), (38, .dup, 39), (39, .getfield 167, 42), (42, .iconst 1, 43), (43, .iload_n 1, 44), (44, .ishl, 45), (45, .ior, 46), (46, .putfield 167, 49), (49, .iinc 1 1, 52), (52, .goto (-45), 55), (55, .iconst 0, 56), (56, .istore_n 1, 57), (57, .iload_n 1, 58), (58, .bipush 6, 60), (60, .if_icmp .ge 80, 63), (63, .iload_n 1, 64)],
    [(64, .aload_n 0, 65), (65, .getfield 157, 68), (68, .if_icmp .ge 72, 71), (71, .iconst 0, 72), (72, .istore_n 2, 73), (73, .iload_n 2, 74), (74, .bipush 6, 76), (76, .if_icmp .ge 58, 79), (79, .iload_n 2, 80), (80, .aload_n 0, 81), (81, .getfield 157, 84), (84, .if_icmp .ge 50, 87), (87, .iload_n 2, 88), (88, .iload_n 1, 89), (89, .if_icmp .eq 39, 92), (92, .aload_n 0, 93), (93, .getfield 55, 96)],
    [(96, .iload_n 2, 97), (97, .iaload, 98), (98, .ifCond .lt 30, 101), (101, .aload_n 0, 102), (102, .getfield 55, 105), (105, .iload_n 2, 106), (106, .iaload, 107), (107, .aload_n 0, 108), (108, .getfield 52, 111), (111, .iload_n 1, 112), (112, .iaload, 113), (113, .if_icmp .ge 15, 116), (116, .aload_n 0, 117), (117, .getfield 64, 120), (120, .iload_n 1, 121), (121, .dup2, 122), (122, .iaload, 123), (123, .iconst 1, 124), (124, .iload_n 2, 125), (125, .ishl, 126), (126, .ior, 127), (127, .iastore, 128)],
    [(128, .iinc 2 1, 131), (131, .goto (-58), 134), (134, .iinc 1 1, 137), (137, .goto (-80), 140), (140, .return_, 141)]]),
  (prog_1_method_33_code, [
    [(0, .aload_n 0, 1), (1, .getfield 167, 4), (4, .ifCond .ne 5, 7), (7, .iconst 1, 8), (8, .ireturn, 9), (9, .aload_n 0, 10), (10, .getfield 73, 13), (13, .iconst 0, 14), (14, .aload_n 0, 15), (15, .getfield 106, 18), (18, .iastore, 19), (19, .iconst 0, 20), (20, .istore_n 1, 21), (21, .iload_n 1, 22), (22, .bipush 8, 24), (24, .if_icmp .ge 29, 27), (27, .iload_n 1, 28), (28, .aload_n 0, 29), (29, .getfield 106, 32)],
    [(32, .if_icmp .ge 21, 35), (35, .aload_n 0, 36), (36, .getfield 70, 39), (39, .iload_n 1, 40), (40, .aload_n 0, 41), (41, .getfield 43, 44), (44, .iload_n 1, 45), (45, .iaload, 46), (46, .iastore, 47), (47, .iinc 1 1, 50), (50, .goto (-29), 53), (53, .iconst 0, 54), (54, .istore_n 1, 55), (55, .iconst 0, 56), (56, .istore_n 2, 57), (57, .aload_n 0, 58), (58, .getfield 76, 61), (61, .iconst 0, 62), (62, .iconst 0, 63), (63, .iastore, 64)],
    [(64, .iconst 0, 65), (65, .istore_n 3, 66), (66, .iload_n 3, 67), (67, .ldc 170, 69), (69, .if_icmp .ge 152, 72), (72, .aload_n 0, 73), (73, .getfield 76, 76), (76, .iload_n 1, 77), (77, .iaload, 78), (78, .istore 4, 80), (80, .iload 4, 82), (82, .aload_n 0, 83), (83, .getfield 157, 86), (86, .if_icmp .ge 10, 89), (89, .iload 4, 91), (91, .bipush 6, 93), (93, .if_icmp .lt 28, 96)],
    [(96, .iload_n 1, 97), (97, .ifCond .ne 5, 100), (100, .iconst 0, 101), (101, .ireturn, 102), (102, .iinc 1 (-1), 105), (105, .iload_n 2, 106), (106, .iconst 1, 107), (107, .aload_n 0, 108), (108, .getfield 79, 111), (111, .iload_n 1, 112), (112, .iaload, 113), (113, .ishl, 114), (114, .iconst (-1), 115), (115, .ixor, 116), (116, .iand, 117), (117, .istore_n 2, 118), (118, .goto 97, 121), (121, .aload_n 0, 122), (122, .getfield 76, 125), (125, .iload_n 1, 126), (126, .iload 4, 128)],
    [(128, .iconst 1, 129), (129, .iadd, 130), (130, .iastore, 131), (131, .iload_n 2, 132), (132, .iconst 1, 133), (133, .iload 4, 135), (135, .ishl, 136), (136, .iand, 137), (137, .ifCond .ne 78, 140), (140, .aload_n 0, 141), (141, .getfield 64, 144), (144, .iload 4, 146), (146, .iaload, 147), (147, .iload_n 2, 148), (148, .iand, 149), (149, .aload_n 0, 150), (150, .getfield 64, 153), (153, .iload 4, 155), (155, .iaload, 156), (156, .if_icmp .eq 6, 159), (159, .goto 56, 162)],
    [(162, .aload_n 0, 163), (163, .iload 4, 165), (165, .iload_n 1, 166), (166, .invokevirtual 171, 169), (169, .ifCond .ne 6, 172), (172, .goto 43, 175), (175, .aload_n 0, 176), (176, .getfield 79, 179), (179, .iload_n 1, 180), (180, .iload 4, 182), (182, .iastore, 183), (183, .iload_n 2, 184), (184, .iconst 1, 185), (185, .iload 4, 187), (187, .ishl, 188), (188, .ior, 189), (189, .istore_n 2, 190), (190, .iinc 1 1, 193)],
    [(193, .aload_n 0, 194), (194, .getfield 76, 197), (197, .iload_n 1, 198), (198, .iconst 0, 199), (199, .iastore, 200), (200, .iload_n 2, 201), (201, .aload_n 0, 202), (202, .getfield 167, 205), (205, .iand, 206), (206, .aload_n 0, 207), (207, .getfield 167, 210), (210, .if_icmp .ne 5, 213), (213, .iconst 1, 214), (214, .ireturn, 215), (215, .iinc 3 1, 218), (218, .goto (-152), 221), (221, .iconst 0, 222), (222, .ireturn, 223)]]),
  (prog_1_method_9_code, [
    [(0, .aload_n 0, 1), (1, .iload_n 1, 2), (2, .invokevirtual 113, 5), (5, .ifCond .eq 19, 8), (8, .aload_n 0, 9), (9, .getfield 16, 12), (12, .iload_n 1, 13), (13, .iaload, 14), (14, .ifCond .ne 10, 17), (17, .aload_n 0, 18), (18, .invokevirtual 117, 21), (21, .ifCond .ne 5, 24), (24, .iconst 0, 25), (25, .ireturn, 26), (26, .aload_n 0, 27), (27, .iconst 2, 28), (28, .iload_n 1, 29), (29, .iconst 0, 30), (30, .invokevirtual 121, 33)],
    [(33, .aload_n 0, 34), (34, .getfield 22, 37), (37, .iload_n 1, 38), (38, .iconst 0, 39), (39, .iastore, 40), (40, .aload_n 0, 41), (41, .getfield 16, 44), (44, .iload_n 1, 45), (45, .bipush 21, 47), (47, .iastore, 48), (48, .iconst 1, 49), (49, .ireturn, 50)]]),
  (prog_1_method_5_code, [
    [(0, .aload_n 0, 1), (1, .invokevirtual 109, 4), (4, .istore_n 1, 5), (5, .aload_n 0, 6), (6, .getfield 103, 9), (9, .iload_n 1, 10), (10, .iadd, 11), (11, .iconst 2, 12), (12, .iadd, 13), (13, .bipush 64, 15), (15, .if_icmp .gt 7, 18), (18, .iconst 1, 19), (19, .goto 4, 22), (22, .iconst 0, 23), (23, .ireturn, 24)]]),
  (prog_1_method_4_code, [
    [(0, .iconst 0, 1), (1, .istore_n 1, 2), (2, .iconst 0, 3), (3, .istore_n 2, 4), (4, .iload_n 2, 5), (5, .iconst 4, 6), (6, .if_icmp .ge 29, 9), (9, .iload_n 2, 10), (10, .aload_n 0, 11), (11, .getfield 86, 14), (14, .if_icmp .ge 15, 17), (17, .aload_n 0, 18), (18, .getfield 16, 21), (21, .iload_n 2, 22), (22, .iaload, 23), (23, .ifCond .eq 6, 26), (26, .iinc 1 1, 29), (29, .iinc 2 1, 32)],
    [(32, .goto (-28), 35), (35, .iload_n 1, 36), (36, .ireturn, 37)]]),
  (prog_1_method_6_code, [
    [(0, .aload_n 0, 1), (1, .getfield 103, 4), (4, .ifCond .lt 52, 7), (7, .aload_n 0, 8), (8, .getfield 103, 11), (11, .bipush 64, 13), (13, .if_icmp .ge 43, 16), (16, .aload_n 0, 17), (17, .getfield 34, 20), (20, .aload_n 0, 21), (21, .getfield 103, 24), (24, .iload_n 1, 25), (25, .iastore, 26), (26, .aload_n 0, 27), (27, .getfield 37, 30), (30, .aload_n 0, 31), (31, .getfield 103, 34)],
    [(34, .iload_n 2, 35), (35, .iastore, 36), (36, .aload_n 0, 37), (37, .getfield 40, 40), (40, .aload_n 0, 41), (41, .getfield 103, 44), (44, .iload_n 3, 45), (45, .iastore, 46), (46, .aload_n 0, 47), (47, .dup, 48), (48, .getfield 103, 51), (51, .iconst 1, 52), (52, .iadd, 53), (53, .putfield 103, 56), (56, .return_, 57)]]),
  (prog_1_method_30_code, [
    [(0, .aload_n 0, 1), (1, .getfield 157, 4), (4, .ifCond .lt 12, 7), (7, .aload_n 0, 8), (8, .getfield 157, 11), (11, .bipush 6, 13), (13, .if_icmp .lt 4, 16), (16, .return_, 17), (17, .aload_n 0, 18), (18, .getfield 157, 21), (21, .istore_n 3, 22), (22, .aload_n 0, 23), (23, .getfield 46, 26), (26, .iload_n 3, 27), (27, .aload_n 0, 28), (28, .getfield 34, 31), (31, .iload_n 1, 32)],
    [(32, .iaload, 33), (33, .iconst 1, 34), (34, .if_icmp .ne 7, 37), (37, .iconst 1, 38), (38, .goto 4, 41), (41, .iconst 2, 42), (42, .iastore, 43), (43, .aload_n 0, 44), (44, .getfield 49, 47), (47, .iload_n 3, 48), (48, .aload_n 0, 49), (49, .getfield 40, 52), (52, .iload_n 1, 53), (53, .iaload, 54), (54, .iastore, 55), (55, .aload_n 0, 56), (56, .getfield 52, 59), (59, .iload_n 3, 60), (60, .iload_n 1, 61), (61, .iastore, 62), (62, .aload_n 0, 63), (63, .getfield 55, 66)],
    [(66, .iload_n 3, 67), (67, .iconst (-1), 68), (68, .iastore, 69), (69, .aload_n 0, 70), (70, .getfield 58, 73), (73, .iload_n 3, 74), (74, .iconst 0, 75), (75, .iastore, 76), (76, .aload_n 0, 77), (77, .getfield 61, 80), (80, .iload_n 3, 81), (81, .iconst 0, 82), (82, .iastore, 83), (83, .aload_n 0, 84), (84, .getfield 67, 87), (87, .iload_n 2, 88), (88, .iload_n 3, 89), (89, .iastore, 90), (90, .aload_n 0, 91), (91, .dup, 92), (92, .getfield 157, 95), (95, .iconst 1, 96)],
    [(96, .iadd, 97), (97, .putfield 157, 100), (100, .return_, 101)]]),
  (prog_1_method_8_code, [
    [(0, .aload_n 0, 1), (1, .iload_n 1, 2), (2, .invokevirtual 113, 5), (5, .ifCond .eq 19, 8), (8, .aload_n 0, 9), (9, .getfield 16, 12), (12, .iload_n 1, 13), (13, .iaload, 14), (14, .ifCond .ne 10, 17), (17, .aload_n 0, 18), (18, .invokevirtual 117, 21), (21, .ifCond .ne 5, 24), (24, .iconst 0, 25), (25, .ireturn, 26), (26, .aload_n 0, 27), (27, .iconst 1, 28), (28, .iload_n 1, 29), (29, .iload_n 2, 30), (30, .invokevirtual 121, 33)],
    [(33, .aload_n 0, 34), (34, .getfield 22, 37), (37, .iload_n 1, 38), (38, .iload_n 2, 39), (39, .iastore, 40), (40, .aload_n 0, 41), (41, .getfield 16, 44), (44, .iload_n 1, 45), (45, .bipush 11, 47), (47, .iastore, 48), (48, .iconst 1, 49), (49, .ireturn, 50)]]),
  (prog_1_method_12_code, [
    [(0, .aload_n 0, 1), (1, .getfield 16, 4), (4, .iload_n 1, 5), (5, .iaload, 6), (6, .istore_n 2, 7), (7, .iload_n 2, 8), (8, .bipush 11, 10), (10, .if_icmp .lt 16, 13), (13, .iload_n 2, 14), (14, .bipush 16, 16), (16, .if_icmp .gt 10, 19), (19, .aload_n 0, 20), (20, .iload_n 1, 21), (21, .iload_n 2, 22), (22, .invokevirtual 128, 25), (25, .ireturn, 26), (26, .iload_n 2, 27), (27, .bipush 21, 29), (29, .if_icmp .lt 16, 32)],
    [(32, .iload_n 2, 33), (33, .bipush 26, 35), (35, .if_icmp .gt 10, 38), (38, .aload_n 0, 39), (39, .iload_n 1, 40), (40, .iload_n 2, 41), (41, .invokevirtual 132, 44), (44, .ireturn, 45), (45, .iconst 0, 46), (46, .ireturn, 47)]]),
  (prog_1_method_13_code, [
    [(0, .aload_n 0, 1), (1, .getfield 19, 4), (4, .iload_n 1, 5), (5, .iaload, 6), (6, .istore_n 3, 7), (7, .iload_n 3, 8), (8, .aload_n 0, 9), (9, .getfield 93, 12), (12, .iand, 13), (13, .istore 4, 15), (15, .iload_n 2, 16), (16, .tableswitch 211 11 16 #[40, 60, 101, 137, 169, 192], 56)],
    [(56, .aload_n 0, 57), (57, .getfield 19, 60), (60, .iload_n 1, 61), (61, .aload_n 0, 62), (62, .getfield 100, 65)],
    [(65, .iastore, 66), (66, .aload_n 0, 67), (67, .getfield 16, 70), (70, .iload_n 1, 71), (71, .bipush 12, 73), (73, .iastore, 74), (74, .iconst 0, 75), (75, .ireturn, 76), (76, .aload_n 0, 77), (77, .getfield 7, 80), (80, .iload 4, 82), (82, .iaload, 83), (83, .iload_n 3, 84), (84, .isub, 85), (85, .istore 5, 87), (87, .aload_n 0, 88), (88, .getfield 16, 91), (91, .iload_n 1, 92), (92, .iload 5, 94), (94, .ifCond .ne 8, 97)],
    [(97, .bipush 13, 99), (99, .goto 15, 102), (102, .iload 5, 104), (104, .ifCond .ge 8, 107), (107, .bipush 14, 109), (109, .goto 5, 112), (112, .bipush 11, 114), (114, .iastore, 115), (115, .iconst 0, 116), (116, .ireturn, 117), (117, .aload_n 0, 118), (118, .getfield 100, 121), (121, .iload_n 3, 122), (122, .if_icmp .ne 21, 125), (125, .aload_n 0, 126), (126, .iload_n 3, 127), (127, .iconst 1, 128)],
    [(128, .iadd, 129), (129, .putfield 100, 132), (132, .aload_n 0, 133), (133, .getfield 16, 136), (136, .iload_n 1, 137), (137, .bipush 15, 139), (139, .iastore, 140), (140, .goto 11, 143), (143, .aload_n 0, 144), (144, .getfield 16, 147), (147, .iload_n 1, 148), (148, .bipush 11, 150), (150, .iastore, 151), (151, .iconst 0, 152), (152, .ireturn, 153), (153, .iload_n 3, 154), (154, .aload_n 0, 155), (155, .getfield 97, 158), (158, .isub, 159), (159, .aload_n 0, 160)],
    [(160, .getfield 90, 163), (163, .if_icmp .ne 12, 166), (166, .aload_n 0, 167), (167, .iload_n 1, 168), (168, .iconst 2, 169), (169, .iconst 0, 170), (170, .invokevirtual 135, 173), (173, .iconst 1, 174), (174, .ireturn, 175), (175, .aload_n 0, 176), (176, .getfield 16, 179), (179, .iload_n 1, 180), (180, .bipush 11, 182), (182, .iastore, 183), (183, .iconst 0, 184), (184, .ireturn, 185), (185, .aload_n 0, 186), (186, .getfield 13, 189), (189, .iload 4, 191), (191, .aload_n 0, 192)],
    [(192, .getfield 22, 195), (195, .iload_n 1, 196), (196, .iaload, 197), (197, .iastore, 198), (198, .aload_n 0, 199), (199, .getfield 16, 202), (202, .iload_n 1, 203), (203, .bipush 16, 205), (205, .iastore, 206), (206, .iconst 0, 207), (207, .ireturn, 208), (208, .aload_n 0, 209), (209, .getfield 7, 212), (212, .iload 4, 214), (214, .iload_n 3, 215), (215, .iconst 1, 216), (216, .iadd, 217), (217, .iastore, 218), (218, .aload_n 0, 219), (219, .iload_n 1, 220), (220, .iconst 1, 221), (221, .iconst 0, 222), (222, .invokevirtual 135, 225)],
    [(225, .iconst 1, 226), (226, .ireturn, 227), (227, .iconst 0, 228), (228, .ireturn, 229)]]),
  (prog_1_method_14_code, [
    [(0, .aload_n 0, 1), (1, .getfield 19, 4), (4, .iload_n 1, 5), (5, .iaload, 6), (6, .istore_n 3, 7), (7, .iload_n 3, 8), (8, .aload_n 0, 9), (9, .getfield 93, 12), (12, .iand, 13), (13, .istore 4, 15), (15, .iload_n 2, 16), (16, .tableswitch 216 21 26 #[40, 60, 103, 139, 166, 189], 56)],
    [(56, .aload_n 0, 57), (57, .getfield 19, 60), (60, .iload_n 1, 61), (61, .aload_n 0, 62), (62, .getfield 97, 65)],
    [(65, .iastore, 66), (66, .aload_n 0, 67), (67, .getfield 16, 70), (70, .iload_n 1, 71), (71, .bipush 22, 73), (73, .iastore, 74), (74, .iconst 0, 75), (75, .ireturn, 76), (76, .aload_n 0, 77), (77, .getfield 7, 80), (80, .iload 4, 82), (82, .iaload, 83), (83, .iload_n 3, 84), (84, .iconst 1, 85), (85, .iadd, 86), (86, .isub, 87), (87, .istore 5, 89), (89, .aload_n 0, 90), (90, .getfield 16, 93), (93, .iload_n 1, 94), (94, .iload 5, 96)],
    [(96, .ifCond .ne 8, 99), (99, .bipush 23, 101), (101, .goto 15, 104), (104, .iload 5, 106), (106, .ifCond .ge 8, 109), (109, .bipush 24, 111), (111, .goto 5, 114), (114, .bipush 21, 116), (116, .iastore, 117), (117, .iconst 0, 118), (118, .ireturn, 119), (119, .aload_n 0, 120), (120, .getfield 97, 123), (123, .iload_n 3, 124), (124, .if_icmp .ne 21, 127), (127, .aload_n 0, 128)],
    [(128, .iload_n 3, 129), (129, .iconst 1, 130), (130, .iadd, 131), (131, .putfield 97, 134), (134, .aload_n 0, 135), (135, .getfield 16, 138), (138, .iload_n 1, 139), (139, .bipush 25, 141), (141, .iastore, 142), (142, .goto 11, 145), (145, .aload_n 0, 146), (146, .getfield 16, 149), (149, .iload_n 1, 150), (150, .bipush 21, 152), (152, .iastore, 153), (153, .iconst 0, 154), (154, .ireturn, 155), (155, .aload_n 0, 156), (156, .getfield 100, 159), (159, .iload_n 3, 160)],
    [(160, .if_icmp .ne 12, 163), (163, .aload_n 0, 164), (164, .iload_n 1, 165), (165, .iconst 3, 166), (166, .iconst 0, 167), (167, .invokevirtual 135, 170), (170, .iconst 1, 171), (171, .ireturn, 172), (172, .aload_n 0, 173), (173, .getfield 16, 176), (176, .iload_n 1, 177), (177, .bipush 21, 179), (179, .iastore, 180), (180, .iconst 0, 181), (181, .ireturn, 182), (182, .aload_n 0, 183), (183, .getfield 22, 186), (186, .iload_n 1, 187), (187, .aload_n 0, 188), (188, .getfield 13, 191), (191, .iload 4, 193)],
    [(193, .iaload, 194), (194, .iastore, 195), (195, .aload_n 0, 196), (196, .getfield 16, 199), (199, .iload_n 1, 200), (200, .bipush 26, 202), (202, .iastore, 203), (203, .iconst 0, 204), (204, .ireturn, 205), (205, .aload_n 0, 206), (206, .getfield 7, 209), (209, .iload 4, 211), (211, .iload_n 3, 212), (212, .aload_n 0, 213), (213, .getfield 90, 216), (216, .iadd, 217), (217, .iastore, 218), (218, .aload_n 0, 219), (219, .iload_n 1, 220), (220, .iconst 1, 221), (221, .aload_n 0, 222), (222, .getfield 22, 225)],
    [(225, .iload_n 1, 226), (226, .iaload, 227), (227, .invokevirtual 135, 230), (230, .iconst 1, 231), (231, .ireturn, 232), (232, .iconst 0, 233), (233, .ireturn, 234)]]),
  (prog_1_method_10_code, [
    [(0, .aload_n 0, 1), (1, .iload_n 1, 2), (2, .invokevirtual 113, 5), (5, .ifCond .ne 5, 8), (8, .iconst (-1), 9), (9, .ireturn, 10), (10, .aload_n 0, 11), (11, .getfield 16, 14), (14, .iload_n 1, 15), (15, .iaload, 16), (16, .ifCond .eq 13, 19), (19, .aload_n 0, 20), (20, .getfield 16, 23), (23, .iload_n 1, 24), (24, .iaload, 25), (25, .iconst 1, 26), (26, .if_icmp .ne 5, 29), (29, .iconst 0, 30), (30, .ireturn, 31), (31, .aload_n 0, 32)],
    [(32, .iload_n 1, 33), (33, .invokevirtual 125, 36), (36, .ifCond .eq 5, 39), (39, .iconst 2, 40), (40, .ireturn, 41), (41, .iconst 1, 42), (42, .ireturn, 43)]]),
  (prog_1_method_15_code, [
    [(0, .aload_n 0, 1), (1, .getfield 25, 4), (4, .iload_n 1, 5), (5, .iload_n 2, 6), (6, .iastore, 7), (7, .aload_n 0, 8), (8, .getfield 28, 11), (11, .iload_n 1, 12), (12, .iload_n 3, 13), (13, .iastore, 14), (14, .aload_n 0, 15), (15, .iload_n 2, 16), (16, .invokevirtual 138, 19), (19, .istore 4, 21), (21, .aload_n 0, 22), (22, .iload 4, 24), (24, .iload_n 1, 25), (25, .iload_n 3, 26), (26, .invokevirtual 121, 29), (29, .aload_n 0, 30), (30, .getfield 16, 33)],
    [(33, .iload_n 1, 34), (34, .iconst 0, 35), (35, .iastore, 36), (36, .return_, 37)]]),
  (prog_1_method_7_code, [
    [(0, .iload_n 1, 1), (1, .iconst 2, 2), (2, .if_icmp .ne 5, 5), (5, .iconst 4, 6), (6, .ireturn, 7), (7, .iload_n 1, 8), (8, .iconst 3, 9), (9, .if_icmp .ne 5, 12), (12, .iconst 5, 13), (13, .ireturn, 14), (14, .iconst 3, 15), (15, .ireturn, 16)]]),
  (prog_1_method_31_code, [
    [(0, .aload_n 0, 1), (1, .getfield 67, 4), (4, .iload_n 2, 5), (5, .iaload, 6), (6, .istore_n 3, 7), (7, .iload_n 3, 8), (8, .ifCond .lt 9, 11), (11, .iload_n 3, 12), (12, .bipush 6, 14), (14, .if_icmp .lt 4, 17), (17, .return_, 18), (18, .aload_n 0, 19), (19, .getfield 34, 22), (22, .iload_n 1, 23), (23, .iaload, 24), (24, .istore 4, 26), (26, .aload_n 0, 27), (27, .getfield 55, 30), (30, .iload_n 3, 31), (31, .iload_n 1, 32)],
    [(32, .iastore, 33), (33, .aload_n 0, 34), (34, .getfield 58, 37), (37, .iload_n 3, 38), (38, .iload 4, 40), (40, .iconst 4, 41), (41, .if_icmp .ne 7, 44), (44, .iconst 2, 45), (45, .goto 14, 48), (48, .iload 4, 50), (50, .iconst 5, 51), (51, .if_icmp .ne 7, 54), (54, .iconst 3, 55), (55, .goto 4, 58), (58, .iconst 1, 59), (59, .iastore, 60), (60, .aload_n 0, 61), (61, .getfield 61, 64)],
    [(64, .iload_n 3, 65), (65, .aload_n 0, 66), (66, .getfield 40, 69), (69, .iload_n 1, 70), (70, .iaload, 71), (71, .iastore, 72), (72, .aload_n 0, 73), (73, .getfield 67, 76), (76, .iload_n 2, 77), (77, .iconst (-1), 78), (78, .iastore, 79), (79, .return_, 80)]]),
  (prog_1_method_34_code, [
    [(0, .iload_n 2, 1), (1, .ifCond .lt 18, 4), (4, .iload_n 2, 5), (5, .iconst 5, 6), (6, .if_icmp .gt 13, 9), (9, .iload_n 1, 10), (10, .ifCond .lt 9, 13), (13, .iload_n 1, 14), (14, .bipush 6, 16), (16, .if_icmp .lt 5, 19), (19, .iconst 0, 20), (20, .ireturn, 21), (21, .aload_n 0, 22), (22, .getfield 46, 25), (25, .iload_n 1, 26), (26, .iaload, 27), (27, .iconst 1, 28), (28, .if_icmp .ne 10, 31), (31, .aload_n 0, 32)],
    [(32, .iload_n 1, 33), (33, .iload_n 2, 34), (34, .invokevirtual 174, 37), (37, .ireturn, 38), (38, .aload_n 0, 39), (39, .iload_n 1, 40), (40, .iload_n 2, 41), (41, .invokevirtual 177, 44), (44, .ireturn, 45)]]),
  (prog_1_method_36_code, [
    [(0, .aload_n 0, 1), (1, .getfield 73, 4), (4, .iload_n 2, 5), (5, .iaload, 6), (6, .istore_n 3, 7), (7, .aload_n 0, 8), (8, .getfield 55, 11), (11, .iload_n 1, 12), (12, .iaload, 13), (13, .ifCond .lt 7, 16), (16, .iconst 1, 17), (17, .goto 4, 20), (20, .iconst 0, 21), (21, .istore 4, 23), (23, .iload_n 3, 24), (24, .ifCond .le 50, 27), (27, .aload_n 0, 28), (28, .getfield 70, 31), (31, .iload_n 2, 32)],
    [(32, .bipush 8, 34), (34, .imul, 35), (35, .iaload, 36), (36, .istore 5, 38), (38, .iload 4, 40), (40, .ifCond .eq 26, 43), (43, .aload_n 0, 44), (44, .getfield 58, 47), (47, .iload_n 1, 48), (48, .iaload, 49), (49, .iconst 1, 50), (50, .if_icmp .ne 14, 53), (53, .aload_n 0, 54), (54, .getfield 61, 57), (57, .iload_n 1, 58), (58, .iaload, 59), (59, .iload 5, 61), (61, .if_icmp .eq 5, 64)],
    [(64, .iconst 0, 65), (65, .ireturn, 66), (66, .aload_n 0, 67), (67, .iload_n 2, 68), (68, .iconst 1, 69), (69, .invokevirtual 180, 72), (72, .iconst 1, 73), (73, .ireturn, 74), (74, .iload 4, 76), (76, .ifCond .eq 15, 79), (79, .aload_n 0, 80), (80, .getfield 58, 83), (83, .iload_n 1, 84), (84, .iaload, 85), (85, .iconst 3, 86), (86, .if_icmp .eq 5, 89), (89, .iconst 0, 90), (90, .ireturn, 91), (91, .aload_n 0, 92), (92, .iload_n 2, 93), (93, .iconst 0, 94), (94, .invokevirtual 180, 97)],
    [(97, .iconst 1, 98), (98, .ireturn, 99)]]),
  (prog_1_method_37_code, [
    [(0, .iload_n 1, 1), (1, .bipush 8, 3), (3, .imul, 4), (4, .istore_n 3, 5), (5, .iload_n 3, 6), (6, .bipush 8, 8), (8, .iadd, 9), (9, .istore 4, 11), (11, .aload_n 0, 12), (12, .getfield 73, 15), (15, .iload_n 1, 16), (16, .iaload, 17), (17, .istore 5, 19), (19, .iconst 0, 20), (20, .istore 6, 22), (22, .iload_n 2, 23), (23, .istore 7, 25), (25, .iload 7, 27), (27, .bipush 8, 29), (29, .if_icmp .ge 41, 32)],
    [(32, .iload 7, 34), (34, .iload 5, 36), (36, .if_icmp .lt 6, 39), (39, .goto 31, 42), (42, .aload_n 0, 43), (43, .getfield 70, 46), (46, .iload 4, 48), (48, .iload 6, 50), (50, .iadd, 51), (51, .aload_n 0, 52), (52, .getfield 70, 55), (55, .iload_n 3, 56), (56, .iload 7, 58), (58, .iadd, 59), (59, .iaload, 60), (60, .iastore, 61), (61, .iinc 6 1, 64)],
    [(64, .iinc 7 1, 67), (67, .goto (-42), 70), (70, .aload_n 0, 71), (71, .getfield 73, 74), (74, .iload_n 1, 75), (75, .iconst 1, 76), (76, .iadd, 77), (77, .iload 6, 79), (79, .iastore, 80), (80, .return_, 81)]]),
  (prog_1_method_35_code, [
    [(0, .aload_n 0, 1), (1, .getfield 73, 4), (4, .iload_n 2, 5), (5, .iaload, 6), (6, .istore_n 3, 7), (7, .iload_n 3, 8), (8, .aload_n 0, 9), (9, .getfield 90, 12), (12, .if_icmp .ge 7, 15), (15, .iconst 1, 16), (16, .goto 4, 19), (19, .iconst 2, 20), (20, .istore 4, 22), (22, .aload_n 0, 23), (23, .getfield 55, 26), (26, .iload_n 1, 27), (27, .iaload, 28), (28, .ifCond .lt 16, 31), (31, .aload_n 0, 32)],
    [(32, .getfield 58, 35), (35, .iload_n 1, 36), (36, .iaload, 37), (37, .iload 4, 39), (39, .if_icmp .eq 5, 42), (42, .iconst 0, 43), (43, .ireturn, 44), (44, .aload_n 0, 45), (45, .iload_n 2, 46), (46, .iconst 0, 47), (47, .invokevirtual 180, 50), (50, .iload 4, 52), (52, .iconst 1, 53), (53, .if_icmp .ne 57, 56), (56, .aload_n 0, 57), (57, .getfield 73, 60), (60, .iload_n 2, 61), (61, .iconst 1, 62), (62, .iadd, 63), (63, .iaload, 64)],
    [(64, .istore 5, 66), (66, .iload 5, 68), (68, .ifCond .lt 42, 71), (71, .iload 5, 73), (73, .bipush 8, 75), (75, .if_icmp .ge 35, 78), (78, .aload_n 0, 79), (79, .getfield 70, 82), (82, .iload_n 2, 83), (83, .iconst 1, 84), (84, .iadd, 85), (85, .bipush 8, 87), (87, .imul, 88), (88, .iload 5, 90), (90, .iadd, 91), (91, .aload_n 0, 92), (92, .getfield 49, 95), (95, .iload_n 1, 96)],
    [(96, .iaload, 97), (97, .iastore, 98), (98, .aload_n 0, 99), (99, .getfield 73, 102), (102, .iload_n 2, 103), (103, .iconst 1, 104), (104, .iadd, 105), (105, .iload 5, 107), (107, .iconst 1, 108), (108, .iadd, 109), (109, .iastore, 110), (110, .iconst 1, 111), (111, .ireturn, 112)]]),
  (prog_1_method_23_code, [
    [(0, .iconst 0, 1), (1, .istore_n 1, 2), (2, .iload_n 1, 3), (3, .iconst 4, 4), (4, .if_icmp .ge 28, 7), (7, .iload_n 1, 8), (8, .aload_n 0, 9), (9, .getfield 86, 12), (12, .if_icmp .ge 14, 15), (15, .aload_n 0, 16), (16, .getfield 16, 19), (19, .iload_n 1, 20), (20, .iaload, 21), (21, .ifCond .eq 5, 24), (24, .iconst 0, 25), (25, .ireturn, 26), (26, .iinc 1 1, 29), (29, .goto (-27), 32)],
    [(32, .aload_n 0, 33), (33, .iconst 0, 34), (34, .putfield 103, 37), (37, .aload_n 0, 38), (38, .getfield 100, 41), (41, .aload_n 0, 42), (42, .getfield 97, 45), (45, .isub, 46), (46, .istore_n 1, 47), (47, .aload_n 0, 48), (48, .iconst 0, 49), (49, .putfield 106, 52), (52, .iconst 0, 53), (53, .istore_n 2, 54), (54, .iload_n 2, 55), (55, .bipush 8, 57), (57, .if_icmp .ge 49, 60), (60, .iload_n 2, 61), (61, .iload_n 1, 62), (62, .if_icmp .lt 6, 65)],
    [(65, .goto 41, 68), (68, .aload_n 0, 69), (69, .getfield 43, 72), (72, .iload_n 2, 73), (73, .aload_n 0, 74), (74, .getfield 13, 77), (77, .aload_n 0, 78), (78, .getfield 97, 81), (81, .iload_n 2, 82), (82, .iadd, 83), (83, .aload_n 0, 84), (84, .getfield 93, 87), (87, .iand, 88), (88, .iaload, 89), (89, .iastore, 90), (90, .aload_n 0, 91), (91, .dup, 92), (92, .getfield 106, 95), (95, .iconst 1, 96)],
    [(96, .iadd, 97), (97, .putfield 106, 100), (100, .iinc 2 1, 103), (103, .goto (-49), 106), (106, .iconst 1, 107), (107, .ireturn, 108)]]),
  (prog_1_method_22_code, [
    [(0, .aload_n 0, 1), (1, .iload_n 1, 2), (2, .invokevirtual 113, 5), (5, .ifCond .eq 13, 8), (8, .aload_n 0, 9), (9, .getfield 16, 12), (12, .iload_n 1, 13), (13, .iaload, 14), (14, .iconst 1, 15), (15, .if_icmp .eq 5, 18), (18, .iconst 0, 19), (19, .ireturn, 20), (20, .aload_n 0, 21), (21, .getfield 31, 24), (24, .iload_n 1, 25), (25, .iaload, 26), (26, .istore 4, 28), (28, .iload_n 2, 29), (29, .iconst 1, 30), (30, .if_icmp .eq 25, 33)],
    [(33, .iload 4, 35), (35, .iconst 1, 36), (36, .if_icmp .ne 8, 39), (39, .iload_n 2, 40), (40, .iconst 2, 41), (41, .if_icmp .eq 14, 44), (44, .iload 4, 46), (46, .iconst 2, 47), (47, .if_icmp .ne 12, 50), (50, .iload_n 2, 51), (51, .iconst 3, 52), (52, .if_icmp .ne 7, 55), (55, .iconst 1, 56), (56, .goto 4, 59), (59, .iconst 0, 60), (60, .istore 5, 62), (62, .iload 5, 64)],
    [(64, .ifCond .ne 5, 67), (67, .iconst 0, 68), (68, .ireturn, 69), (69, .iload 4, 71), (71, .iconst 2, 72), (72, .if_icmp .ne 12, 75), (75, .iload_n 2, 76), (76, .iconst 1, 77), (77, .if_icmp .ne 7, 80), (80, .iload_n 3, 81), (81, .goto 4, 84), (84, .iconst 0, 85), (85, .istore 6, 87), (87, .aload_n 0, 88), (88, .iload_n 2, 89), (89, .invokevirtual 138, 92), (92, .istore 7, 94), (94, .aload_n 0, 95), (95, .iload 7, 97)],
    [(97, .iload_n 1, 98), (98, .iload 6, 100), (100, .invokevirtual 121, 103), (103, .aload_n 0, 104), (104, .getfield 16, 107), (107, .iload_n 1, 108), (108, .iconst 0, 109), (109, .iastore, 110), (110, .iconst 1, 111), (111, .ireturn, 112)]]),
  (method_4_code, [
    [(0, .aload_n 0, 1), (1, .iconst 0, 2), (2, .invokevirtual 36, 5), (5, .ifCond .ne 19, 8), (8, .aload_n 0, 9), (9, .iconst 1, 10), (10, .invokevirtual 36, 13), (13, .ifCond .ne 11, 16), (16, .aload_n 0, 17), (17, .iconst 2, 18), (18, .invokevirtual 36, 21), (21, .ifCond .eq 7, 24), (24, .iconst 1, 25), (25, .goto 4, 28), (28, .iconst 0, 29), (29, .ireturn, 30)]]),
  (prog_1_method_21_code, [
    [(0, .aload_n 0, 1), (1, .iload_n 1, 2), (2, .invokevirtual 113, 5), (5, .ifCond .eq 13, 8), (8, .iload_n 2, 9), (9, .iconst 1, 10), (10, .if_icmp .eq 10, 13), (13, .iload_n 2, 14), (14, .iconst 2, 15), (15, .if_icmp .eq 5, 18), (18, .iconst 0, 19), (19, .ireturn, 20), (20, .aload_n 0, 21), (21, .getfield 16, 24), (24, .iload_n 1, 25), (25, .iaload, 26), (26, .ifCond .ne 10, 29), (29, .aload_n 0, 30), (30, .invokevirtual 117, 33)],
    [(33, .ifCond .ne 5, 36), (36, .iconst 0, 37), (37, .ireturn, 38), (38, .iload_n 2, 39), (39, .iconst 1, 40), (40, .if_icmp .ne 13, 43), (43, .aload_n 0, 44), (44, .iconst 1, 45), (45, .iload_n 1, 46), (46, .iload_n 3, 47), (47, .invokevirtual 121, 50), (50, .goto 10, 53), (53, .aload_n 0, 54), (54, .iconst 2, 55), (55, .iload_n 1, 56), (56, .iconst 0, 57), (57, .invokevirtual 121, 60), (60, .aload_n 0, 61), (61, .getfield 31, 64)],
    [(64, .iload_n 1, 65), (65, .iload_n 2, 66), (66, .iastore, 67), (67, .aload_n 0, 68), (68, .getfield 16, 71), (71, .iload_n 1, 72), (72, .iconst 1, 73), (73, .iastore, 74), (74, .iconst 1, 75), (75, .ireturn, 76)]])]
def own_mis : List MI := [(0, 12, 1, some .boolean, false, 9, 208), (1, 8, 4, none, true, 1, 16), (1, 4, 4, some .int, false, 0, 0), (0, 4, 4, some .int, false, 5, 78), (1, 5, 3, some .int, false, 4, 62), (1, 2, 2, some .boolean, false, 0, 0), (1, 2, 2, some .int, false, 1, 13), (0, 3, 2, some .boolean, false, 5, 80), (1, 2, 2, some .int, false, 1, 13), (1, 2, 2, some .int, false, 1, 13), (1, 2, 1, some .int, false, 0, 0), (1, 1, 1, some .int, false, 0, 0), (1, 2, 2, some .int, false, 0, 0), (1, 2, 2, some .int, false, 0, 0), (1, 3, 2, some .int, false, 1, 13), (1, 2, 1, some .int, false, 4, 66), (1, 3, 1, some .int, false, 0, 0), (1, 3, 1, none, false, 1, 16), (1, 3, 1, none, false, 0, 0), (1, 5, 1, some .int, false, 3, 50), (1, 2, 2, some .boolean, false, 2, 27), (1, 2, 1, some .boolean, false, 1, 14), (1, 3, 1, some .int, false, 0, 0), (1, 4, 4, none, false, 0, 0), (1, 4, 3, none, false, 0, 0), (1, 3, 3, some .boolean, false, 2, 27), (1, 3, 2, some .boolean, false, 3, 48), (1, 6, 3, some .boolean, false, 2, 31), (1, 6, 3, some .boolean, false, 2, 31), (1, 2, 2, some .int, false, 4, 62), (1, 5, 4, none, false, 1, 15), (1, 2, 2, some .int, false, 0, 0), (1, 5, 3, none, false, 0, 0), (1, 3, 3, some .boolean, false, 2, 36), (1, 6, 3, some .boolean, false, 1, 19), (1, 8, 3, none, false, 0, 0), (1, 6, 3, some .boolean, false, 1, 19), (1, 3, 1, some .boolean, false, 0, 0), (1, 8, 4, some .boolean, false, 1, 15), (0, 1, 1, some .boolean, false, 2, 26), (1, 4, 4, some .boolean, false, 2, 27)]
def own_links : List (Nat × Nat × Nat × Nat) := [(0, 64, 1, 1), (1, 1, 4, 0), (1, 82, 3, 2), (0, 67, 0, 3), (0, 17, 2, 4), (1, 113, 3, 5), (0, 36, 2, 6), (0, 77, 0, 7), (0, 39, 2, 8), (0, 42, 2, 9), (0, 45, 2, 10), (0, 49, 2, 11), (0, 52, 2, 12), (0, 55, 2, 13), (0, 58, 2, 14), (1, 142, 2, 10), (0, 61, 2, 15), (1, 145, 3, 16), (1, 148, 3, 17), (1, 151, 3, 18), (1, 154, 3, 19), (0, 13, 2, 20), (1, 117, 3, 21), (1, 109, 3, 22), (1, 121, 3, 23), (1, 160, 3, 24), (0, 7, 2, 25), (1, 125, 3, 26), (1, 128, 3, 27), (1, 132, 3, 28), (0, 32, 2, 29), (1, 135, 3, 30), (1, 138, 3, 31), (1, 164, 3, 32), (1, 171, 3, 33), (1, 177, 3, 34), (1, 180, 3, 35), (1, 174, 3, 36), (0, 28, 2, 37), (0, 25, 2, 38), (0, 73, 0, 39), (0, 21, 2, 40), (0, 8, 5, 0)]
def own_flds : List (Nat × Nat × Nat) := [(1, 7, 0), (1, 13, 1), (1, 16, 2), (1, 19, 3), (1, 22, 4), (1, 25, 5), (1, 28, 6), (1, 31, 7), (1, 34, 8), (1, 37, 9), (1, 40, 10), (1, 43, 11), (1, 46, 12), (1, 49, 13), (1, 52, 14), (1, 55, 15), (1, 58, 16), (1, 61, 17), (1, 64, 18), (1, 67, 19), (1, 70, 20), (1, 73, 21), (1, 76, 22), (1, 79, 23), (1, 86, 24), (1, 90, 25), (1, 93, 26), (1, 97, 27), (1, 100, 28), (1, 103, 29), (1, 106, 30), (1, 157, 31), (1, 167, 32)]
def own_kons : List (Nat × Nat × Value) := [(1, 96, .int (2147483584)), (1, 170, .int (200000))]
def own_fields : List (String × String × Nat × Bool) := [("seq", "[I", 3, false), ("val", "[I", 3, false), ("st", "[I", 3, false), ("locP", "[I", 3, false), ("locV", "[I", 3, false), ("lastSt", "[I", 3, false), ("lastVal", "[I", 3, false), ("logKind", "[I", 3, false), ("evKind", "[I", 3, false), ("evThread", "[I", 3, false), ("evVal", "[I", 3, false), ("snap", "[I", 3, false), ("opKind", "[I", 3, false), ("opArg", "[I", 3, false), ("opInv", "[I", 3, false), ("opRes", "[I", 3, false), ("opStatus", "[I", 3, false), ("opRVal", "[I", 3, false), ("predMask", "[I", 3, false), ("openOp", "[I", 3, false), ("qBuf", "[I", 3, false), ("qLen", "[I", 3, false), ("nextCand", "[I", 3, false), ("chosen", "[I", 3, false), ("nThreads", "I", 0, false), ("cap", "I", 0, false), ("mask", "I", 0, false), ("head", "I", 0, false), ("tail", "I", 0, false), ("histLen", "I", 0, false), ("snapLen", "I", 0, false), ("opCount", "I", 0, false), ("completeMask", "I", 0, false)]
def own_P : Prog := (codeAt own_cs, fun k => own_mis.getD k (0, 0, 0, none, false, 0, 0), lookT own_links, lookT own_flds, lookT own_kons, own_fields, 33, 1, 113, 1664)
def own_nms : List MethodName := [⟨"SeqRingQueueL7", "law", "([I)Z"⟩, ⟨"SeqRingQueue", "<init>", "(III)V"⟩, ⟨"SeqRingQueue", "clamp", "(III)I"⟩, ⟨"SeqRingQueueL7", "drive", "(LSeqRingQueue;III)I"⟩, ⟨"SeqRingQueue", "run", "(II)I"⟩, ⟨"SeqRingQueue", "valid", "(I)Z"⟩, ⟨"SeqRingQueue", "state", "(I)I"⟩, ⟨"SeqRingQueueL7", "same", "(LSeqRingQueue;LSeqRingQueue;)Z"⟩, ⟨"SeqRingQueue", "lastStatus", "(I)I"⟩, ⟨"SeqRingQueue", "lastValue", "(I)I"⟩, ⟨"SeqRingQueue", "contentCount", "()I"⟩, ⟨"SeqRingQueue", "historyLength", "()I"⟩, ⟨"SeqRingQueue", "historyEvent", "(I)I"⟩, ⟨"SeqRingQueue", "historyValue", "(I)I"⟩, ⟨"SeqRingQueue", "contentAt", "(I)I"⟩, ⟨"SeqRingQueue", "check", "()I"⟩, ⟨"SeqRingQueue", "countInvocations", "()I"⟩, ⟨"SeqRingQueue", "parseOps", "()V"⟩, ⟨"SeqRingQueue", "buildPreds", "()V"⟩, ⟨"SeqRingQueue", "search", "()I"⟩, ⟨"SeqRingQueue", "startDequeue", "(I)Z"⟩, ⟨"SeqRingQueue", "hasRoom", "()Z"⟩, ⟨"SeqRingQueue", "pending", "()I"⟩, ⟨"SeqRingQueue", "append", "(III)V"⟩, ⟨"SeqRingQueue", "addOp", "(II)V"⟩, ⟨"SeqRingQueue", "startEnqueue", "(II)Z"⟩, ⟨"SeqRingQueue", "doStep", "(I)Z"⟩, ⟨"SeqRingQueue", "enqStep", "(II)Z"⟩, ⟨"SeqRingQueue", "deqStep", "(II)Z"⟩, ⟨"SeqRingQueue", "step", "(I)I"⟩, ⟨"SeqRingQueue", "finish", "(III)V"⟩, ⟨"SeqRingQueue", "resKind", "(I)I"⟩, ⟨"SeqRingQueue", "closeOp", "(II)V"⟩, ⟨"SeqRingQueue", "apply", "(II)Z"⟩, ⟨"SeqRingQueue", "applyDeq", "(II)Z"⟩, ⟨"SeqRingQueue", "copyQueue", "(II)V"⟩, ⟨"SeqRingQueue", "applyEnq", "(II)Z"⟩, ⟨"SeqRingQueue", "clearHistory", "()Z"⟩, ⟨"SeqRingQueue", "logResponse", "(III)Z"⟩, ⟨"SeqRingQueueL7", "busy", "(LSeqRingQueue;)Z"⟩, ⟨"SeqRingQueue", "logInvoke", "(III)Z"⟩]
def own_nm (k : Nat) : MethodName := own_nms.getD k ⟨"", "", ""⟩
def own_cn (c : Nat) : String := match c with | 0 => "SeqRingQueueL7" | _ => "SeqRingQueue"
theorem own_pn0 : plainName "SeqRingQueueL7" = true := by first | (simp [plainName, overriddenIn]; done) | decide +kernel
theorem own_pn1 : plainName "SeqRingQueue" = true := by first | (simp [plainName, overriddenIn]; done) | decide +kernel
theorem own_ne0 : "SeqRingQueueL7" ≠ "java/lang/invoke/MethodHandle" ∧ "SeqRingQueueL7" ≠ "java/lang/invoke/VarHandle" := by decide
theorem own_ne1 : "SeqRingQueue" ≠ "java/lang/invoke/MethodHandle" ∧ "SeqRingQueue" ≠ "java/lang/invoke/VarHandle" := by decide
theorem own_pd0 : parseMethodDescriptor "(III)V" = some ⟨[.int, .int, .int], none⟩ := by decide +kernel
theorem own_pd1 : parseMethodDescriptor "(III)I" = some ⟨[.int, .int, .int], some .int⟩ := by decide +kernel
theorem own_pd2 : parseMethodDescriptor "(LSeqRingQueue;III)I" = some ⟨[(.object "SeqRingQueue"), .int, .int, .int], some .int⟩ := by decide +kernel
theorem own_pd3 : parseMethodDescriptor "(II)I" = some ⟨[.int, .int], some .int⟩ := by decide +kernel
theorem own_pd4 : parseMethodDescriptor "(I)Z" = some ⟨[.int], some .boolean⟩ := by decide +kernel
theorem own_pd5 : parseMethodDescriptor "(I)I" = some ⟨[.int], some .int⟩ := by decide +kernel
theorem own_pd6 : parseMethodDescriptor "(LSeqRingQueue;LSeqRingQueue;)Z" = some ⟨[(.object "SeqRingQueue"), (.object "SeqRingQueue")], some .boolean⟩ := by decide +kernel
theorem own_pd7 : parseMethodDescriptor "()I" = some ⟨[], some .int⟩ := by decide +kernel
theorem own_pd8 : parseMethodDescriptor "()V" = some ⟨[], none⟩ := by decide +kernel
theorem own_pd9 : parseMethodDescriptor "()Z" = some ⟨[], some .boolean⟩ := by decide +kernel
theorem own_pd10 : parseMethodDescriptor "(II)V" = some ⟨[.int, .int], none⟩ := by decide +kernel
theorem own_pd11 : parseMethodDescriptor "(II)Z" = some ⟨[.int, .int], some .boolean⟩ := by decide +kernel
theorem own_pd12 : parseMethodDescriptor "(III)Z" = some ⟨[.int, .int, .int], some .boolean⟩ := by decide +kernel
theorem own_pd13 : parseMethodDescriptor "(LSeqRingQueue;)Z" = some ⟨[(.object "SeqRingQueue")], some .boolean⟩ := by decide +kernel
def own_kcm : ByteArray × List (List (Nat × Instr × Nat)) := own_cs.headD (⟨#[]⟩, [])
def own_kcn : CodeL := own_cs.drop 1
theorem own_kca {α : Type} {f : α → Bool} {l : List α} (n : Nat) (h1 : (l.take n).all f = true) (h2 : (l.drop n).all f = true) : l.all f = true := by
  rw [← List.take_append_drop n l, List.all_append, h1, h2]; rfl
set_option maxRecDepth 100000 in
theorem own_kc0_0 : ((own_kcm.2.take 8).all fun c => c.all (okI own_kcm.1)) = true := by decide +kernel
set_option maxRecDepth 100000 in
theorem own_kc0_1 : ((own_kcm.2.drop 8).all fun c => c.all (okI own_kcm.1)) = true := by decide +kernel
set_option maxRecDepth 100000 in
theorem own_kcz : okCs own_kcn = true := by decide +kernel
theorem own_kc0 : (own_kcm.2.all fun c => c.all (okI own_kcm.1)) = true := (own_kca 8 own_kc0_0 own_kc0_1)
theorem own_kch {α : Type} (d : α) : ∀ l : List α, ¬ l.length = 0 → l = l.headD d :: l.drop 1
  | [], h => absurd rfl h
  | a :: r, _ => rfl
theorem own_okcs : okCs own_cs = true := by
  have e : own_cs = own_kcm :: own_kcn := own_kch (⟨#[]⟩, []) own_cs (Nat.succ_ne_zero _)
  have h := own_kcz
  have g := own_kc0
  unfold okCs at h ⊢
  rw [e]
  generalize own_kcm = a at g ⊢
  generalize own_kcn = b at h ⊢
  rw [List.all_cons, g, Bool.true_and]
  exact h
def own_ty (t : ArrayType) : Bool := decide (t = .int)
theorem own_tyok : tyCs own_ty own_cs = true := by decide +kernel
theorem own_nodup : (own_fields.map (·.1)).Nodup := by decide +kernel
set_option maxRecDepth 100000 in
set_option maxHeartbeats 4000000 in
theorem own_good {Z : State} {a0 : Array Value} (hw : ∀ d ∈ tables_1, d.before a0 Z = true) : Good own_P own_nm (bcOf own_cs) own_cn "SeqRingQueue" Z a0 := by
  refine good_of (ty := own_ty) rfl own_okcs ?_ ?_ own_nodup ?_ (hw _ (List.mem_of_getElem? (i := 1) rfl)) (hw _ (List.mem_of_getElem? (i := 2) rfl)) own_tyok ?_ ?_
  · exact ⟨⟨_, _, _, _, rfl, (hw _ (List.mem_of_getElem? (i := 10) rfl))⟩,
      ⟨_, _, _, _, rfl, (hw _ (List.mem_of_getElem? (i := 12) rfl))⟩,
      ⟨_, _, _, _, rfl, (hw _ (List.mem_of_getElem? (i := 14) rfl))⟩,
      ⟨_, _, _, _, rfl, (hw _ (List.mem_of_getElem? (i := 16) rfl))⟩,
      ⟨_, _, _, _, rfl, (hw _ (List.mem_of_getElem? (i := 18) rfl))⟩,
      ⟨_, _, _, _, rfl, (hw _ (List.mem_of_getElem? (i := 20) rfl))⟩,
      ⟨_, _, _, _, rfl, (hw _ (List.mem_of_getElem? (i := 22) rfl))⟩,
      ⟨_, _, _, _, rfl, (hw _ (List.mem_of_getElem? (i := 24) rfl))⟩,
      ⟨_, _, _, _, rfl, (hw _ (List.mem_of_getElem? (i := 26) rfl))⟩,
      ⟨_, _, _, _, rfl, (hw _ (List.mem_of_getElem? (i := 28) rfl))⟩,
      ⟨_, _, _, _, rfl, (hw _ (List.mem_of_getElem? (i := 30) rfl))⟩,
      ⟨_, _, _, _, rfl, (hw _ (List.mem_of_getElem? (i := 32) rfl))⟩,
      ⟨_, _, _, _, rfl, (hw _ (List.mem_of_getElem? (i := 34) rfl))⟩,
      ⟨_, _, _, _, rfl, (hw _ (List.mem_of_getElem? (i := 36) rfl))⟩,
      ⟨_, _, _, _, rfl, (hw _ (List.mem_of_getElem? (i := 38) rfl))⟩,
      ⟨_, _, _, _, rfl, (hw _ (List.mem_of_getElem? (i := 40) rfl))⟩,
      ⟨_, _, _, _, rfl, (hw _ (List.mem_of_getElem? (i := 42) rfl))⟩,
      ⟨_, _, _, _, rfl, (hw _ (List.mem_of_getElem? (i := 44) rfl))⟩,
      ⟨_, _, _, _, rfl, (hw _ (List.mem_of_getElem? (i := 46) rfl))⟩,
      ⟨_, _, _, _, rfl, (hw _ (List.mem_of_getElem? (i := 48) rfl))⟩,
      ⟨_, _, _, _, rfl, (hw _ (List.mem_of_getElem? (i := 50) rfl))⟩,
      ⟨_, _, _, _, rfl, (hw _ (List.mem_of_getElem? (i := 52) rfl))⟩,
      ⟨_, _, _, _, rfl, (hw _ (List.mem_of_getElem? (i := 54) rfl))⟩,
      ⟨_, _, _, _, rfl, (hw _ (List.mem_of_getElem? (i := 56) rfl))⟩,
      ⟨_, _, _, _, rfl, (hw _ (List.mem_of_getElem? (i := 62) rfl))⟩,
      ⟨_, _, _, _, rfl, (hw _ (List.mem_of_getElem? (i := 64) rfl))⟩,
      ⟨_, _, _, _, rfl, (hw _ (List.mem_of_getElem? (i := 66) rfl))⟩,
      ⟨_, _, _, _, rfl, (hw _ (List.mem_of_getElem? (i := 69) rfl))⟩,
      ⟨_, _, _, _, rfl, (hw _ (List.mem_of_getElem? (i := 71) rfl))⟩,
      ⟨_, _, _, _, rfl, (hw _ (List.mem_of_getElem? (i := 73) rfl))⟩,
      ⟨_, _, _, _, rfl, (hw _ (List.mem_of_getElem? (i := 75) rfl))⟩,
      ⟨_, _, _, _, rfl, (hw _ (List.mem_of_getElem? (i := 147) rfl))⟩,
      ⟨_, _, _, _, rfl, (hw _ (List.mem_of_getElem? (i := 153) rfl))⟩,
      trivial⟩
  · exact ⟨⟨(hw _ (List.mem_of_getElem? (i := 11) rfl)), .array .int, by decide, rfl, rfl⟩,
      ⟨(hw _ (List.mem_of_getElem? (i := 13) rfl)), .array .int, by decide, rfl, rfl⟩,
      ⟨(hw _ (List.mem_of_getElem? (i := 15) rfl)), .array .int, by decide, rfl, rfl⟩,
      ⟨(hw _ (List.mem_of_getElem? (i := 17) rfl)), .array .int, by decide, rfl, rfl⟩,
      ⟨(hw _ (List.mem_of_getElem? (i := 19) rfl)), .array .int, by decide, rfl, rfl⟩,
      ⟨(hw _ (List.mem_of_getElem? (i := 21) rfl)), .array .int, by decide, rfl, rfl⟩,
      ⟨(hw _ (List.mem_of_getElem? (i := 23) rfl)), .array .int, by decide, rfl, rfl⟩,
      ⟨(hw _ (List.mem_of_getElem? (i := 25) rfl)), .array .int, by decide, rfl, rfl⟩,
      ⟨(hw _ (List.mem_of_getElem? (i := 27) rfl)), .array .int, by decide, rfl, rfl⟩,
      ⟨(hw _ (List.mem_of_getElem? (i := 29) rfl)), .array .int, by decide, rfl, rfl⟩,
      ⟨(hw _ (List.mem_of_getElem? (i := 31) rfl)), .array .int, by decide, rfl, rfl⟩,
      ⟨(hw _ (List.mem_of_getElem? (i := 33) rfl)), .array .int, by decide, rfl, rfl⟩,
      ⟨(hw _ (List.mem_of_getElem? (i := 35) rfl)), .array .int, by decide, rfl, rfl⟩,
      ⟨(hw _ (List.mem_of_getElem? (i := 37) rfl)), .array .int, by decide, rfl, rfl⟩,
      ⟨(hw _ (List.mem_of_getElem? (i := 39) rfl)), .array .int, by decide, rfl, rfl⟩,
      ⟨(hw _ (List.mem_of_getElem? (i := 41) rfl)), .array .int, by decide, rfl, rfl⟩,
      ⟨(hw _ (List.mem_of_getElem? (i := 43) rfl)), .array .int, by decide, rfl, rfl⟩,
      ⟨(hw _ (List.mem_of_getElem? (i := 45) rfl)), .array .int, by decide, rfl, rfl⟩,
      ⟨(hw _ (List.mem_of_getElem? (i := 47) rfl)), .array .int, by decide, rfl, rfl⟩,
      ⟨(hw _ (List.mem_of_getElem? (i := 49) rfl)), .array .int, by decide, rfl, rfl⟩,
      ⟨(hw _ (List.mem_of_getElem? (i := 51) rfl)), .array .int, by decide, rfl, rfl⟩,
      ⟨(hw _ (List.mem_of_getElem? (i := 53) rfl)), .array .int, by decide, rfl, rfl⟩,
      ⟨(hw _ (List.mem_of_getElem? (i := 55) rfl)), .array .int, by decide, rfl, rfl⟩,
      ⟨(hw _ (List.mem_of_getElem? (i := 57) rfl)), .array .int, by decide, rfl, rfl⟩,
      ⟨(hw _ (List.mem_of_getElem? (i := 63) rfl)), .int, by decide, rfl, rfl⟩,
      ⟨(hw _ (List.mem_of_getElem? (i := 65) rfl)), .int, by decide, rfl, rfl⟩,
      ⟨(hw _ (List.mem_of_getElem? (i := 67) rfl)), .int, by decide, rfl, rfl⟩,
      ⟨(hw _ (List.mem_of_getElem? (i := 70) rfl)), .int, by decide, rfl, rfl⟩,
      ⟨(hw _ (List.mem_of_getElem? (i := 72) rfl)), .int, by decide, rfl, rfl⟩,
      ⟨(hw _ (List.mem_of_getElem? (i := 74) rfl)), .int, by decide, rfl, rfl⟩,
      ⟨(hw _ (List.mem_of_getElem? (i := 76) rfl)), .int, by decide, rfl, rfl⟩,
      ⟨(hw _ (List.mem_of_getElem? (i := 148) rfl)), .int, by decide, rfl, rfl⟩,
      ⟨(hw _ (List.mem_of_getElem? (i := 154) rfl)), .int, by decide, rfl, rfl⟩,
      trivial⟩
  · exact ⟨(hw _ (List.mem_of_getElem? (i := 68) rfl)),
      (hw _ (List.mem_of_getElem? (i := 214) rfl)),
      trivial⟩
  · intro t ht
    simp only [own_ty, Bool.or_eq_true, decide_eq_true_eq] at ht
    subst ht
    exact (hw _ (List.mem_of_getElem? (i := 9) rfl))
  · exact ⟨⟨(hw _ (List.mem_of_getElem? (i := 3) rfl)), (hw _ (List.mem_of_getElem? (i := 5) rfl)), (hw _ (List.mem_of_getElem? (i := 2) rfl)), ⟨_, _, own_pd0, rfl⟩, own_pn1, own_ne1, rfl, (fun _ => ⟨rfl, rfl⟩), ⟨rfl, (hw _ (List.mem_of_getElem? (i := 4) rfl)), rfl⟩⟩,
      ⟨(hw _ (List.mem_of_getElem? (i := 6) rfl)), (hw _ (List.mem_of_getElem? (i := 7) rfl)), (hw _ (List.mem_of_getElem? (i := 8) rfl))⟩,
      ⟨(hw _ (List.mem_of_getElem? (i := 58) rfl)), (hw _ (List.mem_of_getElem? (i := 61) rfl)), (hw _ (List.mem_of_getElem? (i := 2) rfl)), ⟨_, _, own_pd1, rfl⟩, own_pn1, own_ne1, rfl, (fun h => nomatch h), ⟨rfl, (hw _ (List.mem_of_getElem? (i := 59) rfl)), (hw _ (List.mem_of_getElem? (i := 60) rfl))⟩⟩,
      ⟨(hw _ (List.mem_of_getElem? (i := 77) rfl)), (hw _ (List.mem_of_getElem? (i := 80) rfl)), (hw _ (List.mem_of_getElem? (i := 79) rfl)), ⟨_, _, own_pd2, rfl⟩, own_pn0, own_ne0, rfl, (fun h => nomatch h), (hw _ (List.mem_of_getElem? (i := 78) rfl))⟩,
      ⟨(hw _ (List.mem_of_getElem? (i := 81) rfl)), (hw _ (List.mem_of_getElem? (i := 85) rfl)), (hw _ (List.mem_of_getElem? (i := 2) rfl)), ⟨_, _, own_pd3, rfl⟩, own_pn1, own_ne1, rfl, (fun h => nomatch h), ⟨(hw _ (List.mem_of_getElem? (i := 82) rfl)), (hw _ (List.mem_of_getElem? (i := 83) rfl)), (hw _ (List.mem_of_getElem? (i := 84) rfl))⟩⟩,
      ⟨(hw _ (List.mem_of_getElem? (i := 86) rfl)), (hw _ (List.mem_of_getElem? (i := 89) rfl)), (hw _ (List.mem_of_getElem? (i := 2) rfl)), ⟨_, _, own_pd4, rfl⟩, own_pn1, own_ne1, rfl, (fun h => nomatch h), ⟨rfl, (hw _ (List.mem_of_getElem? (i := 87) rfl)), (hw _ (List.mem_of_getElem? (i := 88) rfl))⟩⟩,
      ⟨(hw _ (List.mem_of_getElem? (i := 90) rfl)), (hw _ (List.mem_of_getElem? (i := 94) rfl)), (hw _ (List.mem_of_getElem? (i := 2) rfl)), ⟨_, _, own_pd5, rfl⟩, own_pn1, own_ne1, rfl, (fun h => nomatch h), ⟨(hw _ (List.mem_of_getElem? (i := 91) rfl)), (hw _ (List.mem_of_getElem? (i := 92) rfl)), (hw _ (List.mem_of_getElem? (i := 93) rfl))⟩⟩,
      ⟨(hw _ (List.mem_of_getElem? (i := 95) rfl)), (hw _ (List.mem_of_getElem? (i := 97) rfl)), (hw _ (List.mem_of_getElem? (i := 79) rfl)), ⟨_, _, own_pd6, rfl⟩, own_pn0, own_ne0, rfl, (fun h => nomatch h), (hw _ (List.mem_of_getElem? (i := 96) rfl))⟩,
      ⟨(hw _ (List.mem_of_getElem? (i := 98) rfl)), (hw _ (List.mem_of_getElem? (i := 102) rfl)), (hw _ (List.mem_of_getElem? (i := 2) rfl)), ⟨_, _, own_pd5, rfl⟩, own_pn1, own_ne1, rfl, (fun h => nomatch h), ⟨(hw _ (List.mem_of_getElem? (i := 99) rfl)), (hw _ (List.mem_of_getElem? (i := 100) rfl)), (hw _ (List.mem_of_getElem? (i := 101) rfl))⟩⟩,
      ⟨(hw _ (List.mem_of_getElem? (i := 103) rfl)), (hw _ (List.mem_of_getElem? (i := 107) rfl)), (hw _ (List.mem_of_getElem? (i := 2) rfl)), ⟨_, _, own_pd5, rfl⟩, own_pn1, own_ne1, rfl, (fun h => nomatch h), ⟨(hw _ (List.mem_of_getElem? (i := 104) rfl)), (hw _ (List.mem_of_getElem? (i := 105) rfl)), (hw _ (List.mem_of_getElem? (i := 106) rfl))⟩⟩,
      ⟨(hw _ (List.mem_of_getElem? (i := 108) rfl)), (hw _ (List.mem_of_getElem? (i := 112) rfl)), (hw _ (List.mem_of_getElem? (i := 2) rfl)), ⟨_, _, own_pd7, rfl⟩, own_pn1, own_ne1, rfl, (fun h => nomatch h), ⟨(hw _ (List.mem_of_getElem? (i := 109) rfl)), (hw _ (List.mem_of_getElem? (i := 110) rfl)), (hw _ (List.mem_of_getElem? (i := 111) rfl))⟩⟩,
      ⟨(hw _ (List.mem_of_getElem? (i := 113) rfl)), (hw _ (List.mem_of_getElem? (i := 117) rfl)), (hw _ (List.mem_of_getElem? (i := 2) rfl)), ⟨_, _, own_pd7, rfl⟩, own_pn1, own_ne1, rfl, (fun h => nomatch h), ⟨(hw _ (List.mem_of_getElem? (i := 114) rfl)), (hw _ (List.mem_of_getElem? (i := 115) rfl)), (hw _ (List.mem_of_getElem? (i := 116) rfl))⟩⟩,
      ⟨(hw _ (List.mem_of_getElem? (i := 118) rfl)), (hw _ (List.mem_of_getElem? (i := 122) rfl)), (hw _ (List.mem_of_getElem? (i := 2) rfl)), ⟨_, _, own_pd5, rfl⟩, own_pn1, own_ne1, rfl, (fun h => nomatch h), ⟨(hw _ (List.mem_of_getElem? (i := 119) rfl)), (hw _ (List.mem_of_getElem? (i := 120) rfl)), (hw _ (List.mem_of_getElem? (i := 121) rfl))⟩⟩,
      ⟨(hw _ (List.mem_of_getElem? (i := 123) rfl)), (hw _ (List.mem_of_getElem? (i := 127) rfl)), (hw _ (List.mem_of_getElem? (i := 2) rfl)), ⟨_, _, own_pd5, rfl⟩, own_pn1, own_ne1, rfl, (fun h => nomatch h), ⟨(hw _ (List.mem_of_getElem? (i := 124) rfl)), (hw _ (List.mem_of_getElem? (i := 125) rfl)), (hw _ (List.mem_of_getElem? (i := 126) rfl))⟩⟩,
      ⟨(hw _ (List.mem_of_getElem? (i := 128) rfl)), (hw _ (List.mem_of_getElem? (i := 132) rfl)), (hw _ (List.mem_of_getElem? (i := 2) rfl)), ⟨_, _, own_pd5, rfl⟩, own_pn1, own_ne1, rfl, (fun h => nomatch h), ⟨(hw _ (List.mem_of_getElem? (i := 129) rfl)), (hw _ (List.mem_of_getElem? (i := 130) rfl)), (hw _ (List.mem_of_getElem? (i := 131) rfl))⟩⟩,
      ⟨(hw _ (List.mem_of_getElem? (i := 133) rfl)), (hw _ (List.mem_of_getElem? (i := 112) rfl)), (hw _ (List.mem_of_getElem? (i := 2) rfl)), ⟨_, _, own_pd7, rfl⟩, own_pn1, own_ne1, rfl, (fun h => nomatch h), ⟨(hw _ (List.mem_of_getElem? (i := 109) rfl)), (hw _ (List.mem_of_getElem? (i := 110) rfl)), (hw _ (List.mem_of_getElem? (i := 111) rfl))⟩⟩,
      ⟨(hw _ (List.mem_of_getElem? (i := 134) rfl)), (hw _ (List.mem_of_getElem? (i := 138) rfl)), (hw _ (List.mem_of_getElem? (i := 2) rfl)), ⟨_, _, own_pd7, rfl⟩, own_pn1, own_ne1, rfl, (fun h => nomatch h), ⟨(hw _ (List.mem_of_getElem? (i := 135) rfl)), (hw _ (List.mem_of_getElem? (i := 136) rfl)), (hw _ (List.mem_of_getElem? (i := 137) rfl))⟩⟩,
      ⟨(hw _ (List.mem_of_getElem? (i := 139) rfl)), (hw _ (List.mem_of_getElem? (i := 142) rfl)), (hw _ (List.mem_of_getElem? (i := 2) rfl)), ⟨_, _, own_pd7, rfl⟩, own_pn1, own_ne1, rfl, (fun h => nomatch h), ⟨rfl, (hw _ (List.mem_of_getElem? (i := 140) rfl)), (hw _ (List.mem_of_getElem? (i := 141) rfl))⟩⟩,
      ⟨(hw _ (List.mem_of_getElem? (i := 143) rfl)), (hw _ (List.mem_of_getElem? (i := 146) rfl)), (hw _ (List.mem_of_getElem? (i := 2) rfl)), ⟨_, _, own_pd8, rfl⟩, own_pn1, own_ne1, rfl, (fun h => nomatch h), ⟨rfl, (hw _ (List.mem_of_getElem? (i := 144) rfl)), (hw _ (List.mem_of_getElem? (i := 145) rfl))⟩⟩,
      ⟨(hw _ (List.mem_of_getElem? (i := 149) rfl)), (hw _ (List.mem_of_getElem? (i := 152) rfl)), (hw _ (List.mem_of_getElem? (i := 2) rfl)), ⟨_, _, own_pd8, rfl⟩, own_pn1, own_ne1, rfl, (fun h => nomatch h), ⟨rfl, (hw _ (List.mem_of_getElem? (i := 150) rfl)), (hw _ (List.mem_of_getElem? (i := 151) rfl))⟩⟩,
      ⟨(hw _ (List.mem_of_getElem? (i := 155) rfl)), (hw _ (List.mem_of_getElem? (i := 158) rfl)), (hw _ (List.mem_of_getElem? (i := 2) rfl)), ⟨_, _, own_pd7, rfl⟩, own_pn1, own_ne1, rfl, (fun h => nomatch h), ⟨rfl, (hw _ (List.mem_of_getElem? (i := 156) rfl)), (hw _ (List.mem_of_getElem? (i := 157) rfl))⟩⟩,
      ⟨(hw _ (List.mem_of_getElem? (i := 159) rfl)), (hw _ (List.mem_of_getElem? (i := 163) rfl)), (hw _ (List.mem_of_getElem? (i := 2) rfl)), ⟨_, _, own_pd4, rfl⟩, own_pn1, own_ne1, rfl, (fun h => nomatch h), ⟨(hw _ (List.mem_of_getElem? (i := 160) rfl)), (hw _ (List.mem_of_getElem? (i := 161) rfl)), (hw _ (List.mem_of_getElem? (i := 162) rfl))⟩⟩,
      ⟨(hw _ (List.mem_of_getElem? (i := 164) rfl)), (hw _ (List.mem_of_getElem? (i := 167) rfl)), (hw _ (List.mem_of_getElem? (i := 2) rfl)), ⟨_, _, own_pd9, rfl⟩, own_pn1, own_ne1, rfl, (fun h => nomatch h), ⟨rfl, (hw _ (List.mem_of_getElem? (i := 165) rfl)), (hw _ (List.mem_of_getElem? (i := 166) rfl))⟩⟩,
      ⟨(hw _ (List.mem_of_getElem? (i := 168) rfl)), (hw _ (List.mem_of_getElem? (i := 171) rfl)), (hw _ (List.mem_of_getElem? (i := 2) rfl)), ⟨_, _, own_pd7, rfl⟩, own_pn1, own_ne1, rfl, (fun h => nomatch h), ⟨rfl, (hw _ (List.mem_of_getElem? (i := 169) rfl)), (hw _ (List.mem_of_getElem? (i := 170) rfl))⟩⟩,
      ⟨(hw _ (List.mem_of_getElem? (i := 172) rfl)), (hw _ (List.mem_of_getElem? (i := 175) rfl)), (hw _ (List.mem_of_getElem? (i := 2) rfl)), ⟨_, _, own_pd0, rfl⟩, own_pn1, own_ne1, rfl, (fun h => nomatch h), ⟨rfl, (hw _ (List.mem_of_getElem? (i := 173) rfl)), (hw _ (List.mem_of_getElem? (i := 174) rfl))⟩⟩,
      ⟨(hw _ (List.mem_of_getElem? (i := 176) rfl)), (hw _ (List.mem_of_getElem? (i := 179) rfl)), (hw _ (List.mem_of_getElem? (i := 2) rfl)), ⟨_, _, own_pd10, rfl⟩, own_pn1, own_ne1, rfl, (fun h => nomatch h), ⟨rfl, (hw _ (List.mem_of_getElem? (i := 177) rfl)), (hw _ (List.mem_of_getElem? (i := 178) rfl))⟩⟩,
      ⟨(hw _ (List.mem_of_getElem? (i := 180) rfl)), (hw _ (List.mem_of_getElem? (i := 184) rfl)), (hw _ (List.mem_of_getElem? (i := 2) rfl)), ⟨_, _, own_pd11, rfl⟩, own_pn1, own_ne1, rfl, (fun h => nomatch h), ⟨(hw _ (List.mem_of_getElem? (i := 181) rfl)), (hw _ (List.mem_of_getElem? (i := 182) rfl)), (hw _ (List.mem_of_getElem? (i := 183) rfl))⟩⟩,
      ⟨(hw _ (List.mem_of_getElem? (i := 185) rfl)), (hw _ (List.mem_of_getElem? (i := 188) rfl)), (hw _ (List.mem_of_getElem? (i := 2) rfl)), ⟨_, _, own_pd4, rfl⟩, own_pn1, own_ne1, rfl, (fun h => nomatch h), ⟨rfl, (hw _ (List.mem_of_getElem? (i := 186) rfl)), (hw _ (List.mem_of_getElem? (i := 187) rfl))⟩⟩,
      ⟨(hw _ (List.mem_of_getElem? (i := 189) rfl)), (hw _ (List.mem_of_getElem? (i := 192) rfl)), (hw _ (List.mem_of_getElem? (i := 2) rfl)), ⟨_, _, own_pd11, rfl⟩, own_pn1, own_ne1, rfl, (fun h => nomatch h), ⟨rfl, (hw _ (List.mem_of_getElem? (i := 190) rfl)), (hw _ (List.mem_of_getElem? (i := 191) rfl))⟩⟩,
      ⟨(hw _ (List.mem_of_getElem? (i := 193) rfl)), (hw _ (List.mem_of_getElem? (i := 196) rfl)), (hw _ (List.mem_of_getElem? (i := 2) rfl)), ⟨_, _, own_pd11, rfl⟩, own_pn1, own_ne1, rfl, (fun h => nomatch h), ⟨rfl, (hw _ (List.mem_of_getElem? (i := 194) rfl)), (hw _ (List.mem_of_getElem? (i := 195) rfl))⟩⟩,
      ⟨(hw _ (List.mem_of_getElem? (i := 197) rfl)), (hw _ (List.mem_of_getElem? (i := 201) rfl)), (hw _ (List.mem_of_getElem? (i := 2) rfl)), ⟨_, _, own_pd5, rfl⟩, own_pn1, own_ne1, rfl, (fun h => nomatch h), ⟨(hw _ (List.mem_of_getElem? (i := 198) rfl)), (hw _ (List.mem_of_getElem? (i := 199) rfl)), (hw _ (List.mem_of_getElem? (i := 200) rfl))⟩⟩,
      ⟨(hw _ (List.mem_of_getElem? (i := 202) rfl)), (hw _ (List.mem_of_getElem? (i := 205) rfl)), (hw _ (List.mem_of_getElem? (i := 2) rfl)), ⟨_, _, own_pd0, rfl⟩, own_pn1, own_ne1, rfl, (fun h => nomatch h), ⟨rfl, (hw _ (List.mem_of_getElem? (i := 203) rfl)), (hw _ (List.mem_of_getElem? (i := 204) rfl))⟩⟩,
      ⟨(hw _ (List.mem_of_getElem? (i := 206) rfl)), (hw _ (List.mem_of_getElem? (i := 209) rfl)), (hw _ (List.mem_of_getElem? (i := 2) rfl)), ⟨_, _, own_pd5, rfl⟩, own_pn1, own_ne1, rfl, (fun h => nomatch h), ⟨rfl, (hw _ (List.mem_of_getElem? (i := 207) rfl)), (hw _ (List.mem_of_getElem? (i := 208) rfl))⟩⟩,
      ⟨(hw _ (List.mem_of_getElem? (i := 210) rfl)), (hw _ (List.mem_of_getElem? (i := 213) rfl)), (hw _ (List.mem_of_getElem? (i := 2) rfl)), ⟨_, _, own_pd10, rfl⟩, own_pn1, own_ne1, rfl, (fun h => nomatch h), ⟨rfl, (hw _ (List.mem_of_getElem? (i := 211) rfl)), (hw _ (List.mem_of_getElem? (i := 212) rfl))⟩⟩,
      ⟨(hw _ (List.mem_of_getElem? (i := 215) rfl)), (hw _ (List.mem_of_getElem? (i := 218) rfl)), (hw _ (List.mem_of_getElem? (i := 2) rfl)), ⟨_, _, own_pd11, rfl⟩, own_pn1, own_ne1, rfl, (fun h => nomatch h), ⟨rfl, (hw _ (List.mem_of_getElem? (i := 216) rfl)), (hw _ (List.mem_of_getElem? (i := 217) rfl))⟩⟩,
      ⟨(hw _ (List.mem_of_getElem? (i := 219) rfl)), (hw _ (List.mem_of_getElem? (i := 222) rfl)), (hw _ (List.mem_of_getElem? (i := 2) rfl)), ⟨_, _, own_pd11, rfl⟩, own_pn1, own_ne1, rfl, (fun h => nomatch h), ⟨rfl, (hw _ (List.mem_of_getElem? (i := 220) rfl)), (hw _ (List.mem_of_getElem? (i := 221) rfl))⟩⟩,
      ⟨(hw _ (List.mem_of_getElem? (i := 223) rfl)), (hw _ (List.mem_of_getElem? (i := 226) rfl)), (hw _ (List.mem_of_getElem? (i := 2) rfl)), ⟨_, _, own_pd10, rfl⟩, own_pn1, own_ne1, rfl, (fun h => nomatch h), ⟨rfl, (hw _ (List.mem_of_getElem? (i := 224) rfl)), (hw _ (List.mem_of_getElem? (i := 225) rfl))⟩⟩,
      ⟨(hw _ (List.mem_of_getElem? (i := 227) rfl)), (hw _ (List.mem_of_getElem? (i := 230) rfl)), (hw _ (List.mem_of_getElem? (i := 2) rfl)), ⟨_, _, own_pd11, rfl⟩, own_pn1, own_ne1, rfl, (fun h => nomatch h), ⟨rfl, (hw _ (List.mem_of_getElem? (i := 228) rfl)), (hw _ (List.mem_of_getElem? (i := 229) rfl))⟩⟩,
      ⟨(hw _ (List.mem_of_getElem? (i := 231) rfl)), (hw _ (List.mem_of_getElem? (i := 235) rfl)), (hw _ (List.mem_of_getElem? (i := 2) rfl)), ⟨_, _, own_pd9, rfl⟩, own_pn1, own_ne1, rfl, (fun h => nomatch h), ⟨(hw _ (List.mem_of_getElem? (i := 232) rfl)), (hw _ (List.mem_of_getElem? (i := 233) rfl)), (hw _ (List.mem_of_getElem? (i := 234) rfl))⟩⟩,
      ⟨(hw _ (List.mem_of_getElem? (i := 236) rfl)), (hw _ (List.mem_of_getElem? (i := 240) rfl)), (hw _ (List.mem_of_getElem? (i := 2) rfl)), ⟨_, _, own_pd12, rfl⟩, own_pn1, own_ne1, rfl, (fun h => nomatch h), ⟨(hw _ (List.mem_of_getElem? (i := 237) rfl)), (hw _ (List.mem_of_getElem? (i := 238) rfl)), (hw _ (List.mem_of_getElem? (i := 239) rfl))⟩⟩,
      ⟨(hw _ (List.mem_of_getElem? (i := 241) rfl)), (hw _ (List.mem_of_getElem? (i := 243) rfl)), (hw _ (List.mem_of_getElem? (i := 79) rfl)), ⟨_, _, own_pd13, rfl⟩, own_pn0, own_ne0, rfl, (fun h => nomatch h), (hw _ (List.mem_of_getElem? (i := 242) rfl))⟩,
      ⟨(hw _ (List.mem_of_getElem? (i := 244) rfl)), (hw _ (List.mem_of_getElem? (i := 248) rfl)), (hw _ (List.mem_of_getElem? (i := 2) rfl)), ⟨_, _, own_pd12, rfl⟩, own_pn1, own_ne1, rfl, (fun h => nomatch h), ⟨(hw _ (List.mem_of_getElem? (i := 245) rfl)), (hw _ (List.mem_of_getElem? (i := 246) rfl)), (hw _ (List.mem_of_getElem? (i := 247) rfl))⟩⟩,
      (hw _ (List.mem_of_getElem? (i := 0) rfl)),
      trivial⟩
/-! # the object's state -/
def Q : Type := List Int32 × List Int32 × List Int32 × List Int32 × List Int32 × List Int32 × List Int32 × List Int32 × List Int32 × List Int32 × List Int32 × List Int32 × List Int32 × List Int32 × List Int32 × List Int32 × List Int32 × List Int32 × List Int32 × List Int32 × List Int32 × List Int32 × List Int32 × List Int32 × Int32 × Int32 × Int32 × Int32 × Int32 × Int32 × Int32 × Int32 × Int32
def Q.f0 (s : Q) : List Int32 := s.1
def Q.f1 (s : Q) : List Int32 := s.2.1
def Q.f2 (s : Q) : List Int32 := s.2.2.1
def Q.f3 (s : Q) : List Int32 := s.2.2.2.1
def Q.f4 (s : Q) : List Int32 := s.2.2.2.2.1
def Q.f5 (s : Q) : List Int32 := s.2.2.2.2.2.1
def Q.f6 (s : Q) : List Int32 := s.2.2.2.2.2.2.1
def Q.f7 (s : Q) : List Int32 := s.2.2.2.2.2.2.2.1
def Q.f8 (s : Q) : List Int32 := s.2.2.2.2.2.2.2.2.1
def Q.f9 (s : Q) : List Int32 := s.2.2.2.2.2.2.2.2.2.1
def Q.f10 (s : Q) : List Int32 := s.2.2.2.2.2.2.2.2.2.2.1
def Q.f11 (s : Q) : List Int32 := s.2.2.2.2.2.2.2.2.2.2.2.1
def Q.f12 (s : Q) : List Int32 := s.2.2.2.2.2.2.2.2.2.2.2.2.1
def Q.f13 (s : Q) : List Int32 := s.2.2.2.2.2.2.2.2.2.2.2.2.2.1
def Q.f14 (s : Q) : List Int32 := s.2.2.2.2.2.2.2.2.2.2.2.2.2.2.1
def Q.f15 (s : Q) : List Int32 := s.2.2.2.2.2.2.2.2.2.2.2.2.2.2.2.1
def Q.f16 (s : Q) : List Int32 := s.2.2.2.2.2.2.2.2.2.2.2.2.2.2.2.2.1
def Q.f17 (s : Q) : List Int32 := s.2.2.2.2.2.2.2.2.2.2.2.2.2.2.2.2.2.1
def Q.f18 (s : Q) : List Int32 := s.2.2.2.2.2.2.2.2.2.2.2.2.2.2.2.2.2.2.1
def Q.f19 (s : Q) : List Int32 := s.2.2.2.2.2.2.2.2.2.2.2.2.2.2.2.2.2.2.2.1
def Q.f20 (s : Q) : List Int32 := s.2.2.2.2.2.2.2.2.2.2.2.2.2.2.2.2.2.2.2.2.1
def Q.f21 (s : Q) : List Int32 := s.2.2.2.2.2.2.2.2.2.2.2.2.2.2.2.2.2.2.2.2.2.1
def Q.f22 (s : Q) : List Int32 := s.2.2.2.2.2.2.2.2.2.2.2.2.2.2.2.2.2.2.2.2.2.2.1
def Q.f23 (s : Q) : List Int32 := s.2.2.2.2.2.2.2.2.2.2.2.2.2.2.2.2.2.2.2.2.2.2.2.1
def Q.f24 (s : Q) : Int32 := s.2.2.2.2.2.2.2.2.2.2.2.2.2.2.2.2.2.2.2.2.2.2.2.2.1
def Q.f25 (s : Q) : Int32 := s.2.2.2.2.2.2.2.2.2.2.2.2.2.2.2.2.2.2.2.2.2.2.2.2.2.1
def Q.f26 (s : Q) : Int32 := s.2.2.2.2.2.2.2.2.2.2.2.2.2.2.2.2.2.2.2.2.2.2.2.2.2.2.1
def Q.f27 (s : Q) : Int32 := s.2.2.2.2.2.2.2.2.2.2.2.2.2.2.2.2.2.2.2.2.2.2.2.2.2.2.2.1
def Q.f28 (s : Q) : Int32 := s.2.2.2.2.2.2.2.2.2.2.2.2.2.2.2.2.2.2.2.2.2.2.2.2.2.2.2.2.1
def Q.f29 (s : Q) : Int32 := s.2.2.2.2.2.2.2.2.2.2.2.2.2.2.2.2.2.2.2.2.2.2.2.2.2.2.2.2.2.1
def Q.f30 (s : Q) : Int32 := s.2.2.2.2.2.2.2.2.2.2.2.2.2.2.2.2.2.2.2.2.2.2.2.2.2.2.2.2.2.2.1
def Q.f31 (s : Q) : Int32 := s.2.2.2.2.2.2.2.2.2.2.2.2.2.2.2.2.2.2.2.2.2.2.2.2.2.2.2.2.2.2.2.1
def Q.f32 (s : Q) : Int32 := s.2.2.2.2.2.2.2.2.2.2.2.2.2.2.2.2.2.2.2.2.2.2.2.2.2.2.2.2.2.2.2.2
def Q0 : Q := (List.replicate 8 0, List.replicate 8 0, List.replicate 4 0, List.replicate 4 0, List.replicate 4 0, List.replicate 4 0, List.replicate 4 0, List.replicate 4 0, List.replicate 64 0, List.replicate 64 0, List.replicate 64 0, List.replicate 8 0, List.replicate 6 0, List.replicate 6 0, List.replicate 6 0, List.replicate 6 0, List.replicate 6 0, List.replicate 6 0, List.replicate 6 0, List.replicate 4 0, List.replicate 56 0, List.replicate 7 0, List.replicate 7 0, List.replicate 7 0, (0:Int32), (0:Int32), (0:Int32), (0:Int32), (0:Int32), (0:Int32), (0:Int32), (0:Int32), (0:Int32))
def Q.mk (q0 q1 q2 q3 q4 q5 q6 q7 q8 q9 q10 q11 q12 q13 q14 q15 q16 q17 q18 q19 q20 q21 q22 q23 : List Int32) (q24 q25 : Int32) (q26 q27 : Int32) (q28 q29 : Int32) (q30 q31 q32 : Int32) : Q := (q0, q1, q2, q3, q4, q5, q6, q7, q8, q9, q10, q11, q12, q13, q14, q15, q16, q17, q18, q19, q20, q21, q22, q23, q24, q25, q26, q27, q28, q29, q30, q31, q32)
def Q.s0 (s : Q) (x : List Int32) : Q := Q.mk x s.f1 s.f2 s.f3 s.f4 s.f5 s.f6 s.f7 s.f8 s.f9 s.f10 s.f11 s.f12 s.f13 s.f14 s.f15 s.f16 s.f17 s.f18 s.f19 s.f20 s.f21 s.f22 s.f23 s.f24 s.f25 s.f26 s.f27 s.f28 s.f29 s.f30 s.f31 s.f32
def Q.s1 (s : Q) (x : List Int32) : Q := Q.mk s.f0 x s.f2 s.f3 s.f4 s.f5 s.f6 s.f7 s.f8 s.f9 s.f10 s.f11 s.f12 s.f13 s.f14 s.f15 s.f16 s.f17 s.f18 s.f19 s.f20 s.f21 s.f22 s.f23 s.f24 s.f25 s.f26 s.f27 s.f28 s.f29 s.f30 s.f31 s.f32
def Q.s2 (s : Q) (x : List Int32) : Q := Q.mk s.f0 s.f1 x s.f3 s.f4 s.f5 s.f6 s.f7 s.f8 s.f9 s.f10 s.f11 s.f12 s.f13 s.f14 s.f15 s.f16 s.f17 s.f18 s.f19 s.f20 s.f21 s.f22 s.f23 s.f24 s.f25 s.f26 s.f27 s.f28 s.f29 s.f30 s.f31 s.f32
def Q.s3 (s : Q) (x : List Int32) : Q := Q.mk s.f0 s.f1 s.f2 x s.f4 s.f5 s.f6 s.f7 s.f8 s.f9 s.f10 s.f11 s.f12 s.f13 s.f14 s.f15 s.f16 s.f17 s.f18 s.f19 s.f20 s.f21 s.f22 s.f23 s.f24 s.f25 s.f26 s.f27 s.f28 s.f29 s.f30 s.f31 s.f32
def Q.s4 (s : Q) (x : List Int32) : Q := Q.mk s.f0 s.f1 s.f2 s.f3 x s.f5 s.f6 s.f7 s.f8 s.f9 s.f10 s.f11 s.f12 s.f13 s.f14 s.f15 s.f16 s.f17 s.f18 s.f19 s.f20 s.f21 s.f22 s.f23 s.f24 s.f25 s.f26 s.f27 s.f28 s.f29 s.f30 s.f31 s.f32
def Q.s5 (s : Q) (x : List Int32) : Q := Q.mk s.f0 s.f1 s.f2 s.f3 s.f4 x s.f6 s.f7 s.f8 s.f9 s.f10 s.f11 s.f12 s.f13 s.f14 s.f15 s.f16 s.f17 s.f18 s.f19 s.f20 s.f21 s.f22 s.f23 s.f24 s.f25 s.f26 s.f27 s.f28 s.f29 s.f30 s.f31 s.f32
def Q.s6 (s : Q) (x : List Int32) : Q := Q.mk s.f0 s.f1 s.f2 s.f3 s.f4 s.f5 x s.f7 s.f8 s.f9 s.f10 s.f11 s.f12 s.f13 s.f14 s.f15 s.f16 s.f17 s.f18 s.f19 s.f20 s.f21 s.f22 s.f23 s.f24 s.f25 s.f26 s.f27 s.f28 s.f29 s.f30 s.f31 s.f32
def Q.s7 (s : Q) (x : List Int32) : Q := Q.mk s.f0 s.f1 s.f2 s.f3 s.f4 s.f5 s.f6 x s.f8 s.f9 s.f10 s.f11 s.f12 s.f13 s.f14 s.f15 s.f16 s.f17 s.f18 s.f19 s.f20 s.f21 s.f22 s.f23 s.f24 s.f25 s.f26 s.f27 s.f28 s.f29 s.f30 s.f31 s.f32
def Q.s8 (s : Q) (x : List Int32) : Q := Q.mk s.f0 s.f1 s.f2 s.f3 s.f4 s.f5 s.f6 s.f7 x s.f9 s.f10 s.f11 s.f12 s.f13 s.f14 s.f15 s.f16 s.f17 s.f18 s.f19 s.f20 s.f21 s.f22 s.f23 s.f24 s.f25 s.f26 s.f27 s.f28 s.f29 s.f30 s.f31 s.f32
def Q.s9 (s : Q) (x : List Int32) : Q := Q.mk s.f0 s.f1 s.f2 s.f3 s.f4 s.f5 s.f6 s.f7 s.f8 x s.f10 s.f11 s.f12 s.f13 s.f14 s.f15 s.f16 s.f17 s.f18 s.f19 s.f20 s.f21 s.f22 s.f23 s.f24 s.f25 s.f26 s.f27 s.f28 s.f29 s.f30 s.f31 s.f32
def Q.s10 (s : Q) (x : List Int32) : Q := Q.mk s.f0 s.f1 s.f2 s.f3 s.f4 s.f5 s.f6 s.f7 s.f8 s.f9 x s.f11 s.f12 s.f13 s.f14 s.f15 s.f16 s.f17 s.f18 s.f19 s.f20 s.f21 s.f22 s.f23 s.f24 s.f25 s.f26 s.f27 s.f28 s.f29 s.f30 s.f31 s.f32
def Q.s11 (s : Q) (x : List Int32) : Q := Q.mk s.f0 s.f1 s.f2 s.f3 s.f4 s.f5 s.f6 s.f7 s.f8 s.f9 s.f10 x s.f12 s.f13 s.f14 s.f15 s.f16 s.f17 s.f18 s.f19 s.f20 s.f21 s.f22 s.f23 s.f24 s.f25 s.f26 s.f27 s.f28 s.f29 s.f30 s.f31 s.f32
def Q.s12 (s : Q) (x : List Int32) : Q := Q.mk s.f0 s.f1 s.f2 s.f3 s.f4 s.f5 s.f6 s.f7 s.f8 s.f9 s.f10 s.f11 x s.f13 s.f14 s.f15 s.f16 s.f17 s.f18 s.f19 s.f20 s.f21 s.f22 s.f23 s.f24 s.f25 s.f26 s.f27 s.f28 s.f29 s.f30 s.f31 s.f32
def Q.s13 (s : Q) (x : List Int32) : Q := Q.mk s.f0 s.f1 s.f2 s.f3 s.f4 s.f5 s.f6 s.f7 s.f8 s.f9 s.f10 s.f11 s.f12 x s.f14 s.f15 s.f16 s.f17 s.f18 s.f19 s.f20 s.f21 s.f22 s.f23 s.f24 s.f25 s.f26 s.f27 s.f28 s.f29 s.f30 s.f31 s.f32
def Q.s14 (s : Q) (x : List Int32) : Q := Q.mk s.f0 s.f1 s.f2 s.f3 s.f4 s.f5 s.f6 s.f7 s.f8 s.f9 s.f10 s.f11 s.f12 s.f13 x s.f15 s.f16 s.f17 s.f18 s.f19 s.f20 s.f21 s.f22 s.f23 s.f24 s.f25 s.f26 s.f27 s.f28 s.f29 s.f30 s.f31 s.f32
def Q.s15 (s : Q) (x : List Int32) : Q := Q.mk s.f0 s.f1 s.f2 s.f3 s.f4 s.f5 s.f6 s.f7 s.f8 s.f9 s.f10 s.f11 s.f12 s.f13 s.f14 x s.f16 s.f17 s.f18 s.f19 s.f20 s.f21 s.f22 s.f23 s.f24 s.f25 s.f26 s.f27 s.f28 s.f29 s.f30 s.f31 s.f32
def Q.s16 (s : Q) (x : List Int32) : Q := Q.mk s.f0 s.f1 s.f2 s.f3 s.f4 s.f5 s.f6 s.f7 s.f8 s.f9 s.f10 s.f11 s.f12 s.f13 s.f14 s.f15 x s.f17 s.f18 s.f19 s.f20 s.f21 s.f22 s.f23 s.f24 s.f25 s.f26 s.f27 s.f28 s.f29 s.f30 s.f31 s.f32
def Q.s17 (s : Q) (x : List Int32) : Q := Q.mk s.f0 s.f1 s.f2 s.f3 s.f4 s.f5 s.f6 s.f7 s.f8 s.f9 s.f10 s.f11 s.f12 s.f13 s.f14 s.f15 s.f16 x s.f18 s.f19 s.f20 s.f21 s.f22 s.f23 s.f24 s.f25 s.f26 s.f27 s.f28 s.f29 s.f30 s.f31 s.f32
def Q.s18 (s : Q) (x : List Int32) : Q := Q.mk s.f0 s.f1 s.f2 s.f3 s.f4 s.f5 s.f6 s.f7 s.f8 s.f9 s.f10 s.f11 s.f12 s.f13 s.f14 s.f15 s.f16 s.f17 x s.f19 s.f20 s.f21 s.f22 s.f23 s.f24 s.f25 s.f26 s.f27 s.f28 s.f29 s.f30 s.f31 s.f32
def Q.s19 (s : Q) (x : List Int32) : Q := Q.mk s.f0 s.f1 s.f2 s.f3 s.f4 s.f5 s.f6 s.f7 s.f8 s.f9 s.f10 s.f11 s.f12 s.f13 s.f14 s.f15 s.f16 s.f17 s.f18 x s.f20 s.f21 s.f22 s.f23 s.f24 s.f25 s.f26 s.f27 s.f28 s.f29 s.f30 s.f31 s.f32
def Q.s20 (s : Q) (x : List Int32) : Q := Q.mk s.f0 s.f1 s.f2 s.f3 s.f4 s.f5 s.f6 s.f7 s.f8 s.f9 s.f10 s.f11 s.f12 s.f13 s.f14 s.f15 s.f16 s.f17 s.f18 s.f19 x s.f21 s.f22 s.f23 s.f24 s.f25 s.f26 s.f27 s.f28 s.f29 s.f30 s.f31 s.f32
def Q.s21 (s : Q) (x : List Int32) : Q := Q.mk s.f0 s.f1 s.f2 s.f3 s.f4 s.f5 s.f6 s.f7 s.f8 s.f9 s.f10 s.f11 s.f12 s.f13 s.f14 s.f15 s.f16 s.f17 s.f18 s.f19 s.f20 x s.f22 s.f23 s.f24 s.f25 s.f26 s.f27 s.f28 s.f29 s.f30 s.f31 s.f32
def Q.s22 (s : Q) (x : List Int32) : Q := Q.mk s.f0 s.f1 s.f2 s.f3 s.f4 s.f5 s.f6 s.f7 s.f8 s.f9 s.f10 s.f11 s.f12 s.f13 s.f14 s.f15 s.f16 s.f17 s.f18 s.f19 s.f20 s.f21 x s.f23 s.f24 s.f25 s.f26 s.f27 s.f28 s.f29 s.f30 s.f31 s.f32
def Q.s23 (s : Q) (x : List Int32) : Q := Q.mk s.f0 s.f1 s.f2 s.f3 s.f4 s.f5 s.f6 s.f7 s.f8 s.f9 s.f10 s.f11 s.f12 s.f13 s.f14 s.f15 s.f16 s.f17 s.f18 s.f19 s.f20 s.f21 s.f22 x s.f24 s.f25 s.f26 s.f27 s.f28 s.f29 s.f30 s.f31 s.f32
def Q.s24 (s : Q) (x : Int32) : Q := Q.mk s.f0 s.f1 s.f2 s.f3 s.f4 s.f5 s.f6 s.f7 s.f8 s.f9 s.f10 s.f11 s.f12 s.f13 s.f14 s.f15 s.f16 s.f17 s.f18 s.f19 s.f20 s.f21 s.f22 s.f23 x s.f25 s.f26 s.f27 s.f28 s.f29 s.f30 s.f31 s.f32
def Q.s25 (s : Q) (x : Int32) : Q := Q.mk s.f0 s.f1 s.f2 s.f3 s.f4 s.f5 s.f6 s.f7 s.f8 s.f9 s.f10 s.f11 s.f12 s.f13 s.f14 s.f15 s.f16 s.f17 s.f18 s.f19 s.f20 s.f21 s.f22 s.f23 s.f24 x s.f26 s.f27 s.f28 s.f29 s.f30 s.f31 s.f32
def Q.s26 (s : Q) (x : Int32) : Q := Q.mk s.f0 s.f1 s.f2 s.f3 s.f4 s.f5 s.f6 s.f7 s.f8 s.f9 s.f10 s.f11 s.f12 s.f13 s.f14 s.f15 s.f16 s.f17 s.f18 s.f19 s.f20 s.f21 s.f22 s.f23 s.f24 s.f25 x s.f27 s.f28 s.f29 s.f30 s.f31 s.f32
def Q.s27 (s : Q) (x : Int32) : Q := Q.mk s.f0 s.f1 s.f2 s.f3 s.f4 s.f5 s.f6 s.f7 s.f8 s.f9 s.f10 s.f11 s.f12 s.f13 s.f14 s.f15 s.f16 s.f17 s.f18 s.f19 s.f20 s.f21 s.f22 s.f23 s.f24 s.f25 s.f26 x s.f28 s.f29 s.f30 s.f31 s.f32
def Q.s28 (s : Q) (x : Int32) : Q := Q.mk s.f0 s.f1 s.f2 s.f3 s.f4 s.f5 s.f6 s.f7 s.f8 s.f9 s.f10 s.f11 s.f12 s.f13 s.f14 s.f15 s.f16 s.f17 s.f18 s.f19 s.f20 s.f21 s.f22 s.f23 s.f24 s.f25 s.f26 s.f27 x s.f29 s.f30 s.f31 s.f32
def Q.s29 (s : Q) (x : Int32) : Q := Q.mk s.f0 s.f1 s.f2 s.f3 s.f4 s.f5 s.f6 s.f7 s.f8 s.f9 s.f10 s.f11 s.f12 s.f13 s.f14 s.f15 s.f16 s.f17 s.f18 s.f19 s.f20 s.f21 s.f22 s.f23 s.f24 s.f25 s.f26 s.f27 s.f28 x s.f30 s.f31 s.f32
def Q.s30 (s : Q) (x : Int32) : Q := Q.mk s.f0 s.f1 s.f2 s.f3 s.f4 s.f5 s.f6 s.f7 s.f8 s.f9 s.f10 s.f11 s.f12 s.f13 s.f14 s.f15 s.f16 s.f17 s.f18 s.f19 s.f20 s.f21 s.f22 s.f23 s.f24 s.f25 s.f26 s.f27 s.f28 s.f29 x s.f31 s.f32
def Q.s31 (s : Q) (x : Int32) : Q := Q.mk s.f0 s.f1 s.f2 s.f3 s.f4 s.f5 s.f6 s.f7 s.f8 s.f9 s.f10 s.f11 s.f12 s.f13 s.f14 s.f15 s.f16 s.f17 s.f18 s.f19 s.f20 s.f21 s.f22 s.f23 s.f24 s.f25 s.f26 s.f27 s.f28 s.f29 s.f30 x s.f32
def Q.s32 (s : Q) (x : Int32) : Q := Q.mk s.f0 s.f1 s.f2 s.f3 s.f4 s.f5 s.f6 s.f7 s.f8 s.f9 s.f10 s.f11 s.f12 s.f13 s.f14 s.f15 s.f16 s.f17 s.f18 s.f19 s.f20 s.f21 s.f22 s.f23 s.f24 s.f25 s.f26 s.f27 s.f28 s.f29 s.f30 s.f31 x
section own_vs
variable {q0 q1 q2 q3 q4 q5 q6 q7 q8 q9 q10 q11 q12 q13 q14 q15 q16 q17 q18 q19 q20 q21 q22 q23 scr r0 r1 r2 r3 r4 r5 r6 r7 r8 r9 r10 r11 r12 r13 r14 r15 r16 r17 r18 r19 r20 r21 r22 r23 : List Int32} {q24 q25 q26 q27 q28 q29 q30 q31 q32 r24 r25 r26 r27 r28 r29 r30 r31 r32 : Int32} {R : AHeap}
theorem own_f_seq : (Q.mk q0 q1 q2 q3 q4 q5 q6 q7 q8 q9 q10 q11 q12 q13 q14 q15 q16 q17 q18 q19 q20 q21 q22 q23 q24 q25 q26 q27 q28 q29 q30 q31 q32).f0 = q0 := by have _h := trivial; exact rfl
theorem own_f_val : (Q.mk q0 q1 q2 q3 q4 q5 q6 q7 q8 q9 q10 q11 q12 q13 q14 q15 q16 q17 q18 q19 q20 q21 q22 q23 q24 q25 q26 q27 q28 q29 q30 q31 q32).f1 = q1 := by have _h := trivial; exact rfl
theorem own_f_st : (Q.mk q0 q1 q2 q3 q4 q5 q6 q7 q8 q9 q10 q11 q12 q13 q14 q15 q16 q17 q18 q19 q20 q21 q22 q23 q24 q25 q26 q27 q28 q29 q30 q31 q32).f2 = q2 := by have _h := trivial; exact rfl
theorem own_f_locP : (Q.mk q0 q1 q2 q3 q4 q5 q6 q7 q8 q9 q10 q11 q12 q13 q14 q15 q16 q17 q18 q19 q20 q21 q22 q23 q24 q25 q26 q27 q28 q29 q30 q31 q32).f3 = q3 := by have _h := trivial; exact rfl
theorem own_f_locV : (Q.mk q0 q1 q2 q3 q4 q5 q6 q7 q8 q9 q10 q11 q12 q13 q14 q15 q16 q17 q18 q19 q20 q21 q22 q23 q24 q25 q26 q27 q28 q29 q30 q31 q32).f4 = q4 := by have _h := trivial; exact rfl
theorem own_f_lastSt : (Q.mk q0 q1 q2 q3 q4 q5 q6 q7 q8 q9 q10 q11 q12 q13 q14 q15 q16 q17 q18 q19 q20 q21 q22 q23 q24 q25 q26 q27 q28 q29 q30 q31 q32).f5 = q5 := by have _h := trivial; exact rfl
theorem own_f_lastVal : (Q.mk q0 q1 q2 q3 q4 q5 q6 q7 q8 q9 q10 q11 q12 q13 q14 q15 q16 q17 q18 q19 q20 q21 q22 q23 q24 q25 q26 q27 q28 q29 q30 q31 q32).f6 = q6 := by have _h := trivial; exact rfl
theorem own_f_logKind : (Q.mk q0 q1 q2 q3 q4 q5 q6 q7 q8 q9 q10 q11 q12 q13 q14 q15 q16 q17 q18 q19 q20 q21 q22 q23 q24 q25 q26 q27 q28 q29 q30 q31 q32).f7 = q7 := by have _h := trivial; exact rfl
theorem own_f_evKind : (Q.mk q0 q1 q2 q3 q4 q5 q6 q7 q8 q9 q10 q11 q12 q13 q14 q15 q16 q17 q18 q19 q20 q21 q22 q23 q24 q25 q26 q27 q28 q29 q30 q31 q32).f8 = q8 := by have _h := trivial; exact rfl
theorem own_f_evThread : (Q.mk q0 q1 q2 q3 q4 q5 q6 q7 q8 q9 q10 q11 q12 q13 q14 q15 q16 q17 q18 q19 q20 q21 q22 q23 q24 q25 q26 q27 q28 q29 q30 q31 q32).f9 = q9 := by have _h := trivial; exact rfl
theorem own_f_evVal : (Q.mk q0 q1 q2 q3 q4 q5 q6 q7 q8 q9 q10 q11 q12 q13 q14 q15 q16 q17 q18 q19 q20 q21 q22 q23 q24 q25 q26 q27 q28 q29 q30 q31 q32).f10 = q10 := by have _h := trivial; exact rfl
theorem own_f_snap : (Q.mk q0 q1 q2 q3 q4 q5 q6 q7 q8 q9 q10 q11 q12 q13 q14 q15 q16 q17 q18 q19 q20 q21 q22 q23 q24 q25 q26 q27 q28 q29 q30 q31 q32).f11 = q11 := by have _h := trivial; exact rfl
theorem own_f_opKind : (Q.mk q0 q1 q2 q3 q4 q5 q6 q7 q8 q9 q10 q11 q12 q13 q14 q15 q16 q17 q18 q19 q20 q21 q22 q23 q24 q25 q26 q27 q28 q29 q30 q31 q32).f12 = q12 := by have _h := trivial; exact rfl
theorem own_f_opArg : (Q.mk q0 q1 q2 q3 q4 q5 q6 q7 q8 q9 q10 q11 q12 q13 q14 q15 q16 q17 q18 q19 q20 q21 q22 q23 q24 q25 q26 q27 q28 q29 q30 q31 q32).f13 = q13 := by have _h := trivial; exact rfl
theorem own_f_opInv : (Q.mk q0 q1 q2 q3 q4 q5 q6 q7 q8 q9 q10 q11 q12 q13 q14 q15 q16 q17 q18 q19 q20 q21 q22 q23 q24 q25 q26 q27 q28 q29 q30 q31 q32).f14 = q14 := by have _h := trivial; exact rfl
theorem own_f_opRes : (Q.mk q0 q1 q2 q3 q4 q5 q6 q7 q8 q9 q10 q11 q12 q13 q14 q15 q16 q17 q18 q19 q20 q21 q22 q23 q24 q25 q26 q27 q28 q29 q30 q31 q32).f15 = q15 := by have _h := trivial; exact rfl
theorem own_f_opStatus : (Q.mk q0 q1 q2 q3 q4 q5 q6 q7 q8 q9 q10 q11 q12 q13 q14 q15 q16 q17 q18 q19 q20 q21 q22 q23 q24 q25 q26 q27 q28 q29 q30 q31 q32).f16 = q16 := by have _h := trivial; exact rfl
theorem own_f_opRVal : (Q.mk q0 q1 q2 q3 q4 q5 q6 q7 q8 q9 q10 q11 q12 q13 q14 q15 q16 q17 q18 q19 q20 q21 q22 q23 q24 q25 q26 q27 q28 q29 q30 q31 q32).f17 = q17 := by have _h := trivial; exact rfl
theorem own_f_predMask : (Q.mk q0 q1 q2 q3 q4 q5 q6 q7 q8 q9 q10 q11 q12 q13 q14 q15 q16 q17 q18 q19 q20 q21 q22 q23 q24 q25 q26 q27 q28 q29 q30 q31 q32).f18 = q18 := by have _h := trivial; exact rfl
theorem own_f_openOp : (Q.mk q0 q1 q2 q3 q4 q5 q6 q7 q8 q9 q10 q11 q12 q13 q14 q15 q16 q17 q18 q19 q20 q21 q22 q23 q24 q25 q26 q27 q28 q29 q30 q31 q32).f19 = q19 := by have _h := trivial; exact rfl
theorem own_f_qBuf : (Q.mk q0 q1 q2 q3 q4 q5 q6 q7 q8 q9 q10 q11 q12 q13 q14 q15 q16 q17 q18 q19 q20 q21 q22 q23 q24 q25 q26 q27 q28 q29 q30 q31 q32).f20 = q20 := by have _h := trivial; exact rfl
theorem own_f_qLen : (Q.mk q0 q1 q2 q3 q4 q5 q6 q7 q8 q9 q10 q11 q12 q13 q14 q15 q16 q17 q18 q19 q20 q21 q22 q23 q24 q25 q26 q27 q28 q29 q30 q31 q32).f21 = q21 := by have _h := trivial; exact rfl
theorem own_f_nextCand : (Q.mk q0 q1 q2 q3 q4 q5 q6 q7 q8 q9 q10 q11 q12 q13 q14 q15 q16 q17 q18 q19 q20 q21 q22 q23 q24 q25 q26 q27 q28 q29 q30 q31 q32).f22 = q22 := by have _h := trivial; exact rfl
theorem own_f_chosen : (Q.mk q0 q1 q2 q3 q4 q5 q6 q7 q8 q9 q10 q11 q12 q13 q14 q15 q16 q17 q18 q19 q20 q21 q22 q23 q24 q25 q26 q27 q28 q29 q30 q31 q32).f23 = q23 := by have _h := trivial; exact rfl
theorem own_f_nThreads : (Q.mk q0 q1 q2 q3 q4 q5 q6 q7 q8 q9 q10 q11 q12 q13 q14 q15 q16 q17 q18 q19 q20 q21 q22 q23 q24 q25 q26 q27 q28 q29 q30 q31 q32).f24 = q24 := by have _h := trivial; exact rfl
theorem own_f_cap : (Q.mk q0 q1 q2 q3 q4 q5 q6 q7 q8 q9 q10 q11 q12 q13 q14 q15 q16 q17 q18 q19 q20 q21 q22 q23 q24 q25 q26 q27 q28 q29 q30 q31 q32).f25 = q25 := by have _h := trivial; exact rfl
theorem own_f_mask : (Q.mk q0 q1 q2 q3 q4 q5 q6 q7 q8 q9 q10 q11 q12 q13 q14 q15 q16 q17 q18 q19 q20 q21 q22 q23 q24 q25 q26 q27 q28 q29 q30 q31 q32).f26 = q26 := by have _h := trivial; exact rfl
theorem own_f_head : (Q.mk q0 q1 q2 q3 q4 q5 q6 q7 q8 q9 q10 q11 q12 q13 q14 q15 q16 q17 q18 q19 q20 q21 q22 q23 q24 q25 q26 q27 q28 q29 q30 q31 q32).f27 = q27 := by have _h := trivial; exact rfl
theorem own_f_tail : (Q.mk q0 q1 q2 q3 q4 q5 q6 q7 q8 q9 q10 q11 q12 q13 q14 q15 q16 q17 q18 q19 q20 q21 q22 q23 q24 q25 q26 q27 q28 q29 q30 q31 q32).f28 = q28 := by have _h := trivial; exact rfl
theorem own_f_histLen : (Q.mk q0 q1 q2 q3 q4 q5 q6 q7 q8 q9 q10 q11 q12 q13 q14 q15 q16 q17 q18 q19 q20 q21 q22 q23 q24 q25 q26 q27 q28 q29 q30 q31 q32).f29 = q29 := by have _h := trivial; exact rfl
theorem own_f_snapLen : (Q.mk q0 q1 q2 q3 q4 q5 q6 q7 q8 q9 q10 q11 q12 q13 q14 q15 q16 q17 q18 q19 q20 q21 q22 q23 q24 q25 q26 q27 q28 q29 q30 q31 q32).f30 = q30 := by have _h := trivial; exact rfl
theorem own_f_opCount : (Q.mk q0 q1 q2 q3 q4 q5 q6 q7 q8 q9 q10 q11 q12 q13 q14 q15 q16 q17 q18 q19 q20 q21 q22 q23 q24 q25 q26 q27 q28 q29 q30 q31 q32).f31 = q31 := by have _h := trivial; exact rfl
theorem own_f_completeMask : (Q.mk q0 q1 q2 q3 q4 q5 q6 q7 q8 q9 q10 q11 q12 q13 q14 q15 q16 q17 q18 q19 q20 q21 q22 q23 q24 q25 q26 q27 q28 q29 q30 q31 q32).f32 = q32 := by have _h := trivial; exact rfl
theorem own_e_seq (s : Q) (x : List Int32) : s.s0 x = Q.mk x s.f1 s.f2 s.f3 s.f4 s.f5 s.f6 s.f7 s.f8 s.f9 s.f10 s.f11 s.f12 s.f13 s.f14 s.f15 s.f16 s.f17 s.f18 s.f19 s.f20 s.f21 s.f22 s.f23 s.f24 s.f25 s.f26 s.f27 s.f28 s.f29 s.f30 s.f31 s.f32 := by have _h := trivial; exact rfl
theorem own_e_val (s : Q) (x : List Int32) : s.s1 x = Q.mk s.f0 x s.f2 s.f3 s.f4 s.f5 s.f6 s.f7 s.f8 s.f9 s.f10 s.f11 s.f12 s.f13 s.f14 s.f15 s.f16 s.f17 s.f18 s.f19 s.f20 s.f21 s.f22 s.f23 s.f24 s.f25 s.f26 s.f27 s.f28 s.f29 s.f30 s.f31 s.f32 := by have _h := trivial; exact rfl
theorem own_e_st (s : Q) (x : List Int32) : s.s2 x = Q.mk s.f0 s.f1 x s.f3 s.f4 s.f5 s.f6 s.f7 s.f8 s.f9 s.f10 s.f11 s.f12 s.f13 s.f14 s.f15 s.f16 s.f17 s.f18 s.f19 s.f20 s.f21 s.f22 s.f23 s.f24 s.f25 s.f26 s.f27 s.f28 s.f29 s.f30 s.f31 s.f32 := by have _h := trivial; exact rfl
theorem own_e_locP (s : Q) (x : List Int32) : s.s3 x = Q.mk s.f0 s.f1 s.f2 x s.f4 s.f5 s.f6 s.f7 s.f8 s.f9 s.f10 s.f11 s.f12 s.f13 s.f14 s.f15 s.f16 s.f17 s.f18 s.f19 s.f20 s.f21 s.f22 s.f23 s.f24 s.f25 s.f26 s.f27 s.f28 s.f29 s.f30 s.f31 s.f32 := by have _h := trivial; exact rfl
theorem own_e_locV (s : Q) (x : List Int32) : s.s4 x = Q.mk s.f0 s.f1 s.f2 s.f3 x s.f5 s.f6 s.f7 s.f8 s.f9 s.f10 s.f11 s.f12 s.f13 s.f14 s.f15 s.f16 s.f17 s.f18 s.f19 s.f20 s.f21 s.f22 s.f23 s.f24 s.f25 s.f26 s.f27 s.f28 s.f29 s.f30 s.f31 s.f32 := by have _h := trivial; exact rfl
theorem own_e_lastSt (s : Q) (x : List Int32) : s.s5 x = Q.mk s.f0 s.f1 s.f2 s.f3 s.f4 x s.f6 s.f7 s.f8 s.f9 s.f10 s.f11 s.f12 s.f13 s.f14 s.f15 s.f16 s.f17 s.f18 s.f19 s.f20 s.f21 s.f22 s.f23 s.f24 s.f25 s.f26 s.f27 s.f28 s.f29 s.f30 s.f31 s.f32 := by have _h := trivial; exact rfl
theorem own_e_lastVal (s : Q) (x : List Int32) : s.s6 x = Q.mk s.f0 s.f1 s.f2 s.f3 s.f4 s.f5 x s.f7 s.f8 s.f9 s.f10 s.f11 s.f12 s.f13 s.f14 s.f15 s.f16 s.f17 s.f18 s.f19 s.f20 s.f21 s.f22 s.f23 s.f24 s.f25 s.f26 s.f27 s.f28 s.f29 s.f30 s.f31 s.f32 := by have _h := trivial; exact rfl
theorem own_e_logKind (s : Q) (x : List Int32) : s.s7 x = Q.mk s.f0 s.f1 s.f2 s.f3 s.f4 s.f5 s.f6 x s.f8 s.f9 s.f10 s.f11 s.f12 s.f13 s.f14 s.f15 s.f16 s.f17 s.f18 s.f19 s.f20 s.f21 s.f22 s.f23 s.f24 s.f25 s.f26 s.f27 s.f28 s.f29 s.f30 s.f31 s.f32 := by have _h := trivial; exact rfl
theorem own_e_evKind (s : Q) (x : List Int32) : s.s8 x = Q.mk s.f0 s.f1 s.f2 s.f3 s.f4 s.f5 s.f6 s.f7 x s.f9 s.f10 s.f11 s.f12 s.f13 s.f14 s.f15 s.f16 s.f17 s.f18 s.f19 s.f20 s.f21 s.f22 s.f23 s.f24 s.f25 s.f26 s.f27 s.f28 s.f29 s.f30 s.f31 s.f32 := by have _h := trivial; exact rfl
theorem own_e_evThread (s : Q) (x : List Int32) : s.s9 x = Q.mk s.f0 s.f1 s.f2 s.f3 s.f4 s.f5 s.f6 s.f7 s.f8 x s.f10 s.f11 s.f12 s.f13 s.f14 s.f15 s.f16 s.f17 s.f18 s.f19 s.f20 s.f21 s.f22 s.f23 s.f24 s.f25 s.f26 s.f27 s.f28 s.f29 s.f30 s.f31 s.f32 := by have _h := trivial; exact rfl
theorem own_e_evVal (s : Q) (x : List Int32) : s.s10 x = Q.mk s.f0 s.f1 s.f2 s.f3 s.f4 s.f5 s.f6 s.f7 s.f8 s.f9 x s.f11 s.f12 s.f13 s.f14 s.f15 s.f16 s.f17 s.f18 s.f19 s.f20 s.f21 s.f22 s.f23 s.f24 s.f25 s.f26 s.f27 s.f28 s.f29 s.f30 s.f31 s.f32 := by have _h := trivial; exact rfl
theorem own_e_snap (s : Q) (x : List Int32) : s.s11 x = Q.mk s.f0 s.f1 s.f2 s.f3 s.f4 s.f5 s.f6 s.f7 s.f8 s.f9 s.f10 x s.f12 s.f13 s.f14 s.f15 s.f16 s.f17 s.f18 s.f19 s.f20 s.f21 s.f22 s.f23 s.f24 s.f25 s.f26 s.f27 s.f28 s.f29 s.f30 s.f31 s.f32 := by have _h := trivial; exact rfl
theorem own_e_opKind (s : Q) (x : List Int32) : s.s12 x = Q.mk s.f0 s.f1 s.f2 s.f3 s.f4 s.f5 s.f6 s.f7 s.f8 s.f9 s.f10 s.f11 x s.f13 s.f14 s.f15 s.f16 s.f17 s.f18 s.f19 s.f20 s.f21 s.f22 s.f23 s.f24 s.f25 s.f26 s.f27 s.f28 s.f29 s.f30 s.f31 s.f32 := by have _h := trivial; exact rfl
theorem own_e_opArg (s : Q) (x : List Int32) : s.s13 x = Q.mk s.f0 s.f1 s.f2 s.f3 s.f4 s.f5 s.f6 s.f7 s.f8 s.f9 s.f10 s.f11 s.f12 x s.f14 s.f15 s.f16 s.f17 s.f18 s.f19 s.f20 s.f21 s.f22 s.f23 s.f24 s.f25 s.f26 s.f27 s.f28 s.f29 s.f30 s.f31 s.f32 := by have _h := trivial; exact rfl
theorem own_e_opInv (s : Q) (x : List Int32) : s.s14 x = Q.mk s.f0 s.f1 s.f2 s.f3 s.f4 s.f5 s.f6 s.f7 s.f8 s.f9 s.f10 s.f11 s.f12 s.f13 x s.f15 s.f16 s.f17 s.f18 s.f19 s.f20 s.f21 s.f22 s.f23 s.f24 s.f25 s.f26 s.f27 s.f28 s.f29 s.f30 s.f31 s.f32 := by have _h := trivial; exact rfl
theorem own_e_opRes (s : Q) (x : List Int32) : s.s15 x = Q.mk s.f0 s.f1 s.f2 s.f3 s.f4 s.f5 s.f6 s.f7 s.f8 s.f9 s.f10 s.f11 s.f12 s.f13 s.f14 x s.f16 s.f17 s.f18 s.f19 s.f20 s.f21 s.f22 s.f23 s.f24 s.f25 s.f26 s.f27 s.f28 s.f29 s.f30 s.f31 s.f32 := by have _h := trivial; exact rfl
theorem own_e_opStatus (s : Q) (x : List Int32) : s.s16 x = Q.mk s.f0 s.f1 s.f2 s.f3 s.f4 s.f5 s.f6 s.f7 s.f8 s.f9 s.f10 s.f11 s.f12 s.f13 s.f14 s.f15 x s.f17 s.f18 s.f19 s.f20 s.f21 s.f22 s.f23 s.f24 s.f25 s.f26 s.f27 s.f28 s.f29 s.f30 s.f31 s.f32 := by have _h := trivial; exact rfl
theorem own_e_opRVal (s : Q) (x : List Int32) : s.s17 x = Q.mk s.f0 s.f1 s.f2 s.f3 s.f4 s.f5 s.f6 s.f7 s.f8 s.f9 s.f10 s.f11 s.f12 s.f13 s.f14 s.f15 s.f16 x s.f18 s.f19 s.f20 s.f21 s.f22 s.f23 s.f24 s.f25 s.f26 s.f27 s.f28 s.f29 s.f30 s.f31 s.f32 := by have _h := trivial; exact rfl
theorem own_e_predMask (s : Q) (x : List Int32) : s.s18 x = Q.mk s.f0 s.f1 s.f2 s.f3 s.f4 s.f5 s.f6 s.f7 s.f8 s.f9 s.f10 s.f11 s.f12 s.f13 s.f14 s.f15 s.f16 s.f17 x s.f19 s.f20 s.f21 s.f22 s.f23 s.f24 s.f25 s.f26 s.f27 s.f28 s.f29 s.f30 s.f31 s.f32 := by have _h := trivial; exact rfl
theorem own_e_openOp (s : Q) (x : List Int32) : s.s19 x = Q.mk s.f0 s.f1 s.f2 s.f3 s.f4 s.f5 s.f6 s.f7 s.f8 s.f9 s.f10 s.f11 s.f12 s.f13 s.f14 s.f15 s.f16 s.f17 s.f18 x s.f20 s.f21 s.f22 s.f23 s.f24 s.f25 s.f26 s.f27 s.f28 s.f29 s.f30 s.f31 s.f32 := by have _h := trivial; exact rfl
theorem own_e_qBuf (s : Q) (x : List Int32) : s.s20 x = Q.mk s.f0 s.f1 s.f2 s.f3 s.f4 s.f5 s.f6 s.f7 s.f8 s.f9 s.f10 s.f11 s.f12 s.f13 s.f14 s.f15 s.f16 s.f17 s.f18 s.f19 x s.f21 s.f22 s.f23 s.f24 s.f25 s.f26 s.f27 s.f28 s.f29 s.f30 s.f31 s.f32 := by have _h := trivial; exact rfl
theorem own_e_qLen (s : Q) (x : List Int32) : s.s21 x = Q.mk s.f0 s.f1 s.f2 s.f3 s.f4 s.f5 s.f6 s.f7 s.f8 s.f9 s.f10 s.f11 s.f12 s.f13 s.f14 s.f15 s.f16 s.f17 s.f18 s.f19 s.f20 x s.f22 s.f23 s.f24 s.f25 s.f26 s.f27 s.f28 s.f29 s.f30 s.f31 s.f32 := by have _h := trivial; exact rfl
theorem own_e_nextCand (s : Q) (x : List Int32) : s.s22 x = Q.mk s.f0 s.f1 s.f2 s.f3 s.f4 s.f5 s.f6 s.f7 s.f8 s.f9 s.f10 s.f11 s.f12 s.f13 s.f14 s.f15 s.f16 s.f17 s.f18 s.f19 s.f20 s.f21 x s.f23 s.f24 s.f25 s.f26 s.f27 s.f28 s.f29 s.f30 s.f31 s.f32 := by have _h := trivial; exact rfl
theorem own_e_chosen (s : Q) (x : List Int32) : s.s23 x = Q.mk s.f0 s.f1 s.f2 s.f3 s.f4 s.f5 s.f6 s.f7 s.f8 s.f9 s.f10 s.f11 s.f12 s.f13 s.f14 s.f15 s.f16 s.f17 s.f18 s.f19 s.f20 s.f21 s.f22 x s.f24 s.f25 s.f26 s.f27 s.f28 s.f29 s.f30 s.f31 s.f32 := by have _h := trivial; exact rfl
theorem own_e_nThreads (s : Q) (x : Int32) : s.s24 x = Q.mk s.f0 s.f1 s.f2 s.f3 s.f4 s.f5 s.f6 s.f7 s.f8 s.f9 s.f10 s.f11 s.f12 s.f13 s.f14 s.f15 s.f16 s.f17 s.f18 s.f19 s.f20 s.f21 s.f22 s.f23 x s.f25 s.f26 s.f27 s.f28 s.f29 s.f30 s.f31 s.f32 := by have _h := trivial; exact rfl
theorem own_e_cap (s : Q) (x : Int32) : s.s25 x = Q.mk s.f0 s.f1 s.f2 s.f3 s.f4 s.f5 s.f6 s.f7 s.f8 s.f9 s.f10 s.f11 s.f12 s.f13 s.f14 s.f15 s.f16 s.f17 s.f18 s.f19 s.f20 s.f21 s.f22 s.f23 s.f24 x s.f26 s.f27 s.f28 s.f29 s.f30 s.f31 s.f32 := by have _h := trivial; exact rfl
theorem own_e_mask (s : Q) (x : Int32) : s.s26 x = Q.mk s.f0 s.f1 s.f2 s.f3 s.f4 s.f5 s.f6 s.f7 s.f8 s.f9 s.f10 s.f11 s.f12 s.f13 s.f14 s.f15 s.f16 s.f17 s.f18 s.f19 s.f20 s.f21 s.f22 s.f23 s.f24 s.f25 x s.f27 s.f28 s.f29 s.f30 s.f31 s.f32 := by have _h := trivial; exact rfl
theorem own_e_head (s : Q) (x : Int32) : s.s27 x = Q.mk s.f0 s.f1 s.f2 s.f3 s.f4 s.f5 s.f6 s.f7 s.f8 s.f9 s.f10 s.f11 s.f12 s.f13 s.f14 s.f15 s.f16 s.f17 s.f18 s.f19 s.f20 s.f21 s.f22 s.f23 s.f24 s.f25 s.f26 x s.f28 s.f29 s.f30 s.f31 s.f32 := by have _h := trivial; exact rfl
theorem own_e_tail (s : Q) (x : Int32) : s.s28 x = Q.mk s.f0 s.f1 s.f2 s.f3 s.f4 s.f5 s.f6 s.f7 s.f8 s.f9 s.f10 s.f11 s.f12 s.f13 s.f14 s.f15 s.f16 s.f17 s.f18 s.f19 s.f20 s.f21 s.f22 s.f23 s.f24 s.f25 s.f26 s.f27 x s.f29 s.f30 s.f31 s.f32 := by have _h := trivial; exact rfl
theorem own_e_histLen (s : Q) (x : Int32) : s.s29 x = Q.mk s.f0 s.f1 s.f2 s.f3 s.f4 s.f5 s.f6 s.f7 s.f8 s.f9 s.f10 s.f11 s.f12 s.f13 s.f14 s.f15 s.f16 s.f17 s.f18 s.f19 s.f20 s.f21 s.f22 s.f23 s.f24 s.f25 s.f26 s.f27 s.f28 x s.f30 s.f31 s.f32 := by have _h := trivial; exact rfl
theorem own_e_snapLen (s : Q) (x : Int32) : s.s30 x = Q.mk s.f0 s.f1 s.f2 s.f3 s.f4 s.f5 s.f6 s.f7 s.f8 s.f9 s.f10 s.f11 s.f12 s.f13 s.f14 s.f15 s.f16 s.f17 s.f18 s.f19 s.f20 s.f21 s.f22 s.f23 s.f24 s.f25 s.f26 s.f27 s.f28 s.f29 x s.f31 s.f32 := by have _h := trivial; exact rfl
theorem own_e_opCount (s : Q) (x : Int32) : s.s31 x = Q.mk s.f0 s.f1 s.f2 s.f3 s.f4 s.f5 s.f6 s.f7 s.f8 s.f9 s.f10 s.f11 s.f12 s.f13 s.f14 s.f15 s.f16 s.f17 s.f18 s.f19 s.f20 s.f21 s.f22 s.f23 s.f24 s.f25 s.f26 s.f27 s.f28 s.f29 s.f30 x s.f32 := by have _h := trivial; exact rfl
theorem own_e_completeMask (s : Q) (x : Int32) : s.s32 x = Q.mk s.f0 s.f1 s.f2 s.f3 s.f4 s.f5 s.f6 s.f7 s.f8 s.f9 s.f10 s.f11 s.f12 s.f13 s.f14 s.f15 s.f16 s.f17 s.f18 s.f19 s.f20 s.f21 s.f22 s.f23 s.f24 s.f25 s.f26 s.f27 s.f28 s.f29 s.f30 s.f31 x := by have _h := trivial; exact rfl
theorem own_z_seq : Q0.f0 = List.replicate 8 0 := by have _h := trivial; exact rfl
theorem own_z_val : Q0.f1 = List.replicate 8 0 := by have _h := trivial; exact rfl
theorem own_z_st : Q0.f2 = List.replicate 4 0 := by have _h := trivial; exact rfl
theorem own_z_locP : Q0.f3 = List.replicate 4 0 := by have _h := trivial; exact rfl
theorem own_z_locV : Q0.f4 = List.replicate 4 0 := by have _h := trivial; exact rfl
theorem own_z_lastSt : Q0.f5 = List.replicate 4 0 := by have _h := trivial; exact rfl
theorem own_z_lastVal : Q0.f6 = List.replicate 4 0 := by have _h := trivial; exact rfl
theorem own_z_logKind : Q0.f7 = List.replicate 4 0 := by have _h := trivial; exact rfl
theorem own_z_evKind : Q0.f8 = List.replicate 64 0 := by have _h := trivial; exact rfl
theorem own_z_evThread : Q0.f9 = List.replicate 64 0 := by have _h := trivial; exact rfl
theorem own_z_evVal : Q0.f10 = List.replicate 64 0 := by have _h := trivial; exact rfl
theorem own_z_snap : Q0.f11 = List.replicate 8 0 := by have _h := trivial; exact rfl
theorem own_z_opKind : Q0.f12 = List.replicate 6 0 := by have _h := trivial; exact rfl
theorem own_z_opArg : Q0.f13 = List.replicate 6 0 := by have _h := trivial; exact rfl
theorem own_z_opInv : Q0.f14 = List.replicate 6 0 := by have _h := trivial; exact rfl
theorem own_z_opRes : Q0.f15 = List.replicate 6 0 := by have _h := trivial; exact rfl
theorem own_z_opStatus : Q0.f16 = List.replicate 6 0 := by have _h := trivial; exact rfl
theorem own_z_opRVal : Q0.f17 = List.replicate 6 0 := by have _h := trivial; exact rfl
theorem own_z_predMask : Q0.f18 = List.replicate 6 0 := by have _h := trivial; exact rfl
theorem own_z_openOp : Q0.f19 = List.replicate 4 0 := by have _h := trivial; exact rfl
theorem own_z_qBuf : Q0.f20 = List.replicate 56 0 := by have _h := trivial; exact rfl
theorem own_z_qLen : Q0.f21 = List.replicate 7 0 := by have _h := trivial; exact rfl
theorem own_z_nextCand : Q0.f22 = List.replicate 7 0 := by have _h := trivial; exact rfl
theorem own_z_chosen : Q0.f23 = List.replicate 7 0 := by have _h := trivial; exact rfl
theorem own_z_nThreads : Q0.f24 = (0:Int32) := by have _h := trivial; exact rfl
theorem own_z_cap : Q0.f25 = (0:Int32) := by have _h := trivial; exact rfl
theorem own_z_mask : Q0.f26 = (0:Int32) := by have _h := trivial; exact rfl
theorem own_z_head : Q0.f27 = (0:Int32) := by have _h := trivial; exact rfl
theorem own_z_tail : Q0.f28 = (0:Int32) := by have _h := trivial; exact rfl
theorem own_z_histLen : Q0.f29 = (0:Int32) := by have _h := trivial; exact rfl
theorem own_z_snapLen : Q0.f30 = (0:Int32) := by have _h := trivial; exact rfl
theorem own_z_opCount : Q0.f31 = (0:Int32) := by have _h := trivial; exact rfl
theorem own_z_completeMask : Q0.f32 = (0:Int32) := by have _h := trivial; exact rfl
def own_Qa := And.intro @own_f_seq (And.intro @own_e_seq (And.intro @own_z_seq (And.intro @own_f_val (And.intro @own_e_val (And.intro @own_z_val (And.intro @own_f_st (And.intro @own_e_st (And.intro @own_z_st (And.intro @own_f_locP (And.intro @own_e_locP (And.intro @own_z_locP (And.intro @own_f_locV (And.intro @own_e_locV (And.intro @own_z_locV (And.intro @own_f_lastSt (And.intro @own_e_lastSt (And.intro @own_z_lastSt (And.intro @own_f_lastVal (And.intro @own_e_lastVal (And.intro @own_z_lastVal (And.intro @own_f_logKind (And.intro @own_e_logKind (And.intro @own_z_logKind (And.intro @own_f_evKind (And.intro @own_e_evKind (And.intro @own_z_evKind (And.intro @own_f_evThread (And.intro @own_e_evThread (And.intro @own_z_evThread (And.intro @own_f_evVal (And.intro @own_e_evVal (And.intro @own_z_evVal (And.intro @own_f_snap (And.intro @own_e_snap (And.intro @own_z_snap (And.intro @own_f_opKind (And.intro @own_e_opKind (And.intro @own_z_opKind (And.intro @own_f_opArg (And.intro @own_e_opArg (And.intro @own_z_opArg (And.intro @own_f_opInv (And.intro @own_e_opInv (And.intro @own_z_opInv (And.intro @own_f_opRes (And.intro @own_e_opRes (And.intro @own_z_opRes (And.intro @own_f_opStatus (And.intro @own_e_opStatus (And.intro @own_z_opStatus (And.intro @own_f_opRVal (And.intro @own_e_opRVal (And.intro @own_z_opRVal (And.intro @own_f_predMask (And.intro @own_e_predMask (And.intro @own_z_predMask (And.intro @own_f_openOp (And.intro @own_e_openOp (And.intro @own_z_openOp (And.intro @own_f_qBuf (And.intro @own_e_qBuf (And.intro @own_z_qBuf (And.intro @own_f_qLen (And.intro @own_e_qLen (And.intro @own_z_qLen (And.intro @own_f_nextCand (And.intro @own_e_nextCand (And.intro @own_z_nextCand (And.intro @own_f_chosen (And.intro @own_e_chosen (And.intro @own_z_chosen (And.intro @own_f_nThreads (And.intro @own_e_nThreads (And.intro @own_z_nThreads (And.intro @own_f_cap (And.intro @own_e_cap (And.intro @own_z_cap (And.intro @own_f_mask (And.intro @own_e_mask (And.intro @own_z_mask (And.intro @own_f_head (And.intro @own_e_head (And.intro @own_z_head (And.intro @own_f_tail (And.intro @own_e_tail (And.intro @own_z_tail (And.intro @own_f_histLen (And.intro @own_e_histLen (And.intro @own_z_histLen (And.intro @own_f_snapLen (And.intro @own_e_snapLen (And.intro @own_z_snapLen (And.intro @own_f_opCount (And.intro @own_e_opCount (And.intro @own_z_opCount (And.intro @own_f_completeMask (And.intro @own_e_completeMask (@own_z_completeMask))))))))))))))))))))))))))))))))))))))))))))))))))))))))))))))))))))))))))))))))))))))))))))))))))
abbrev W0 (scr : List Int32) (R : AHeap) : AHeap := .inr (.inl (0, scr)) :: R
def own_cells1 (q0 q1 q2 q3 q4 q5 q6 q7 q8 q9 q10 q11 q12 q13 q14 q15 q16 q17 q18 q19 q20 q21 q22 q23 : List Int32) (q24 q25 : Int32) (q26 q27 : Int32) (q28 q29 : Int32) (q30 q31 q32 : Int32) (R : AHeap) : AHeap := .inl [.ref 2, .ref 3, .ref 4, .ref 5, .ref 6, .ref 7, .ref 8, .ref 9, .ref 10, .ref 11, .ref 12, .ref 13, .ref 14, .ref 15, .ref 16, .ref 17, .ref 18, .ref 19, .ref 20, .ref 21, .ref 22, .ref 23, .ref 24, .ref 25, .int q24, .int q25, .int q26, .int q27, .int q28, .int q29, .int q30, .int q31, .int q32] ::
  .inr (.inl (1, q0)) ::
  .inr (.inl (1, q1)) ::
  .inr (.inl (1, q2)) ::
  .inr (.inl (1, q3)) ::
  .inr (.inl (1, q4)) ::
  .inr (.inl (1, q5)) ::
  .inr (.inl (1, q6)) ::
  .inr (.inl (1, q7)) ::
  .inr (.inl (1, q8)) ::
  .inr (.inl (1, q9)) ::
  .inr (.inl (1, q10)) ::
  .inr (.inl (1, q11)) ::
  .inr (.inl (1, q12)) ::
  .inr (.inl (1, q13)) ::
  .inr (.inl (1, q14)) ::
  .inr (.inl (1, q15)) ::
  .inr (.inl (1, q16)) ::
  .inr (.inl (1, q17)) ::
  .inr (.inl (1, q18)) ::
  .inr (.inl (1, q19)) ::
  .inr (.inl (1, q20)) ::
  .inr (.inl (1, q21)) ::
  .inr (.inl (1, q22)) ::
  .inr (.inl (1, q23)) ::
  R
def own_cells2 (q0 q1 q2 q3 q4 q5 q6 q7 q8 q9 q10 q11 q12 q13 q14 q15 q16 q17 q18 q19 q20 q21 q22 q23 : List Int32) (q24 q25 : Int32) (q26 q27 : Int32) (q28 q29 : Int32) (q30 q31 q32 : Int32) (R : AHeap) : AHeap := .inl [.ref 27, .ref 28, .ref 29, .ref 30, .ref 31, .ref 32, .ref 33, .ref 34, .ref 35, .ref 36, .ref 37, .ref 38, .ref 39, .ref 40, .ref 41, .ref 42, .ref 43, .ref 44, .ref 45, .ref 46, .ref 47, .ref 48, .ref 49, .ref 50, .int q24, .int q25, .int q26, .int q27, .int q28, .int q29, .int q30, .int q31, .int q32] ::
  .inr (.inl (1, q0)) ::
  .inr (.inl (1, q1)) ::
  .inr (.inl (1, q2)) ::
  .inr (.inl (1, q3)) ::
  .inr (.inl (1, q4)) ::
  .inr (.inl (1, q5)) ::
  .inr (.inl (1, q6)) ::
  .inr (.inl (1, q7)) ::
  .inr (.inl (1, q8)) ::
  .inr (.inl (1, q9)) ::
  .inr (.inl (1, q10)) ::
  .inr (.inl (1, q11)) ::
  .inr (.inl (1, q12)) ::
  .inr (.inl (1, q13)) ::
  .inr (.inl (1, q14)) ::
  .inr (.inl (1, q15)) ::
  .inr (.inl (1, q16)) ::
  .inr (.inl (1, q17)) ::
  .inr (.inl (1, q18)) ::
  .inr (.inl (1, q19)) ::
  .inr (.inl (1, q20)) ::
  .inr (.inl (1, q21)) ::
  .inr (.inl (1, q22)) ::
  .inr (.inl (1, q23)) ::
  R
def C1 (scr q0 q1 q2 q3 q4 q5 q6 q7 q8 q9 q10 q11 q12 q13 q14 q15 q16 q17 q18 q19 q20 q21 q22 q23 : List Int32) (q24 q25 : Int32) (q26 q27 : Int32) (q28 q29 : Int32) (q30 q31 q32 : Int32) (R : AHeap) : AHeap := .inr (.inl (0, scr)) :: own_cells1 q0 q1 q2 q3 q4 q5 q6 q7 q8 q9 q10 q11 q12 q13 q14 q15 q16 q17 q18 q19 q20 q21 q22 q23 q24 q25 q26 q27 q28 q29 q30 q31 q32 R
abbrev W1 (scr : List Int32) (s : Q) (R : AHeap) : AHeap := C1 scr s.f0 s.f1 s.f2 s.f3 s.f4 s.f5 s.f6 s.f7 s.f8 s.f9 s.f10 s.f11 s.f12 s.f13 s.f14 s.f15 s.f16 s.f17 s.f18 s.f19 s.f20 s.f21 s.f22 s.f23 s.f24 s.f25 s.f26 s.f27 s.f28 s.f29 s.f30 s.f31 s.f32 R
def C2 (scr q0 q1 q2 q3 q4 q5 q6 q7 q8 q9 q10 q11 q12 q13 q14 q15 q16 q17 q18 q19 q20 q21 q22 q23 : List Int32) (q24 q25 : Int32) (q26 q27 : Int32) (q28 q29 : Int32) (q30 q31 q32 : Int32) (r0 r1 r2 r3 r4 r5 r6 r7 r8 r9 r10 r11 r12 r13 r14 r15 r16 r17 r18 r19 r20 r21 r22 r23 : List Int32) (r24 r25 : Int32) (r26 r27 : Int32) (r28 r29 : Int32) (r30 r31 r32 : Int32) (R : AHeap) : AHeap := C1 scr q0 q1 q2 q3 q4 q5 q6 q7 q8 q9 q10 q11 q12 q13 q14 q15 q16 q17 q18 q19 q20 q21 q22 q23 q24 q25 q26 q27 q28 q29 q30 q31 q32 (own_cells2 r0 r1 r2 r3 r4 r5 r6 r7 r8 r9 r10 r11 r12 r13 r14 r15 r16 r17 r18 r19 r20 r21 r22 r23 r24 r25 r26 r27 r28 r29 r30 r31 r32 R)
abbrev W2 (scr : List Int32) (s u : Q) (R : AHeap) : AHeap := C2 scr s.f0 s.f1 s.f2 s.f3 s.f4 s.f5 s.f6 s.f7 s.f8 s.f9 s.f10 s.f11 s.f12 s.f13 s.f14 s.f15 s.f16 s.f17 s.f18 s.f19 s.f20 s.f21 s.f22 s.f23 s.f24 s.f25 s.f26 s.f27 s.f28 s.f29 s.f30 s.f31 s.f32 u.f0 u.f1 u.f2 u.f3 u.f4 u.f5 u.f6 u.f7 u.f8 u.f9 u.f10 u.f11 u.f12 u.f13 u.f14 u.f15 u.f16 u.f17 u.f18 u.f19 u.f20 u.f21 u.f22 u.f23 u.f24 u.f25 u.f26 u.f27 u.f28 u.f29 u.f30 u.f31 u.f32 R
theorem own_g1_seq : getC (C1 scr q0 q1 q2 q3 q4 q5 q6 q7 q8 q9 q10 q11 q12 q13 q14 q15 q16 q17 q18 q19 q20 q21 q22 q23 q24 q25 q26 q27 q28 q29 q30 q31 q32 R) 1 0 = some (.ref 2) := rfl
theorem own_a1_seq : (C1 scr q0 q1 q2 q3 q4 q5 q6 q7 q8 q9 q10 q11 q12 q13 q14 q15 q16 q17 q18 q19 q20 q21 q22 q23 q24 q25 q26 q27 q28 q29 q30 q31 q32 R)[2]? = some (.inr (.inl (1, q0))) := rfl
theorem own_s1_seq {x : List Int32} : (C1 scr q0 q1 q2 q3 q4 q5 q6 q7 q8 q9 q10 q11 q12 q13 q14 q15 q16 q17 q18 q19 q20 q21 q22 q23 q24 q25 q26 q27 q28 q29 q30 q31 q32 R).set 2 (.inr (.inl (1, x))) = (C1 scr x q1 q2 q3 q4 q5 q6 q7 q8 q9 q10 q11 q12 q13 q14 q15 q16 q17 q18 q19 q20 q21 q22 q23 q24 q25 q26 q27 q28 q29 q30 q31 q32 R) := rfl
theorem own_g1_val : getC (C1 scr q0 q1 q2 q3 q4 q5 q6 q7 q8 q9 q10 q11 q12 q13 q14 q15 q16 q17 q18 q19 q20 q21 q22 q23 q24 q25 q26 q27 q28 q29 q30 q31 q32 R) 1 1 = some (.ref 3) := rfl
theorem own_a1_val : (C1 scr q0 q1 q2 q3 q4 q5 q6 q7 q8 q9 q10 q11 q12 q13 q14 q15 q16 q17 q18 q19 q20 q21 q22 q23 q24 q25 q26 q27 q28 q29 q30 q31 q32 R)[3]? = some (.inr (.inl (1, q1))) := rfl
theorem own_s1_val {x : List Int32} : (C1 scr q0 q1 q2 q3 q4 q5 q6 q7 q8 q9 q10 q11 q12 q13 q14 q15 q16 q17 q18 q19 q20 q21 q22 q23 q24 q25 q26 q27 q28 q29 q30 q31 q32 R).set 3 (.inr (.inl (1, x))) = (C1 scr q0 x q2 q3 q4 q5 q6 q7 q8 q9 q10 q11 q12 q13 q14 q15 q16 q17 q18 q19 q20 q21 q22 q23 q24 q25 q26 q27 q28 q29 q30 q31 q32 R) := rfl
theorem own_g1_st : getC (C1 scr q0 q1 q2 q3 q4 q5 q6 q7 q8 q9 q10 q11 q12 q13 q14 q15 q16 q17 q18 q19 q20 q21 q22 q23 q24 q25 q26 q27 q28 q29 q30 q31 q32 R) 1 2 = some (.ref 4) := rfl
theorem own_a1_st : (C1 scr q0 q1 q2 q3 q4 q5 q6 q7 q8 q9 q10 q11 q12 q13 q14 q15 q16 q17 q18 q19 q20 q21 q22 q23 q24 q25 q26 q27 q28 q29 q30 q31 q32 R)[4]? = some (.inr (.inl (1, q2))) := rfl
theorem own_s1_st {x : List Int32} : (C1 scr q0 q1 q2 q3 q4 q5 q6 q7 q8 q9 q10 q11 q12 q13 q14 q15 q16 q17 q18 q19 q20 q21 q22 q23 q24 q25 q26 q27 q28 q29 q30 q31 q32 R).set 4 (.inr (.inl (1, x))) = (C1 scr q0 q1 x q3 q4 q5 q6 q7 q8 q9 q10 q11 q12 q13 q14 q15 q16 q17 q18 q19 q20 q21 q22 q23 q24 q25 q26 q27 q28 q29 q30 q31 q32 R) := rfl
theorem own_g1_locP : getC (C1 scr q0 q1 q2 q3 q4 q5 q6 q7 q8 q9 q10 q11 q12 q13 q14 q15 q16 q17 q18 q19 q20 q21 q22 q23 q24 q25 q26 q27 q28 q29 q30 q31 q32 R) 1 3 = some (.ref 5) := rfl
theorem own_a1_locP : (C1 scr q0 q1 q2 q3 q4 q5 q6 q7 q8 q9 q10 q11 q12 q13 q14 q15 q16 q17 q18 q19 q20 q21 q22 q23 q24 q25 q26 q27 q28 q29 q30 q31 q32 R)[5]? = some (.inr (.inl (1, q3))) := rfl
theorem own_s1_locP {x : List Int32} : (C1 scr q0 q1 q2 q3 q4 q5 q6 q7 q8 q9 q10 q11 q12 q13 q14 q15 q16 q17 q18 q19 q20 q21 q22 q23 q24 q25 q26 q27 q28 q29 q30 q31 q32 R).set 5 (.inr (.inl (1, x))) = (C1 scr q0 q1 q2 x q4 q5 q6 q7 q8 q9 q10 q11 q12 q13 q14 q15 q16 q17 q18 q19 q20 q21 q22 q23 q24 q25 q26 q27 q28 q29 q30 q31 q32 R) := rfl
theorem own_g1_locV : getC (C1 scr q0 q1 q2 q3 q4 q5 q6 q7 q8 q9 q10 q11 q12 q13 q14 q15 q16 q17 q18 q19 q20 q21 q22 q23 q24 q25 q26 q27 q28 q29 q30 q31 q32 R) 1 4 = some (.ref 6) := rfl
theorem own_a1_locV : (C1 scr q0 q1 q2 q3 q4 q5 q6 q7 q8 q9 q10 q11 q12 q13 q14 q15 q16 q17 q18 q19 q20 q21 q22 q23 q24 q25 q26 q27 q28 q29 q30 q31 q32 R)[6]? = some (.inr (.inl (1, q4))) := rfl
theorem own_s1_locV {x : List Int32} : (C1 scr q0 q1 q2 q3 q4 q5 q6 q7 q8 q9 q10 q11 q12 q13 q14 q15 q16 q17 q18 q19 q20 q21 q22 q23 q24 q25 q26 q27 q28 q29 q30 q31 q32 R).set 6 (.inr (.inl (1, x))) = (C1 scr q0 q1 q2 q3 x q5 q6 q7 q8 q9 q10 q11 q12 q13 q14 q15 q16 q17 q18 q19 q20 q21 q22 q23 q24 q25 q26 q27 q28 q29 q30 q31 q32 R) := rfl
theorem own_g1_lastSt : getC (C1 scr q0 q1 q2 q3 q4 q5 q6 q7 q8 q9 q10 q11 q12 q13 q14 q15 q16 q17 q18 q19 q20 q21 q22 q23 q24 q25 q26 q27 q28 q29 q30 q31 q32 R) 1 5 = some (.ref 7) := rfl
theorem own_a1_lastSt : (C1 scr q0 q1 q2 q3 q4 q5 q6 q7 q8 q9 q10 q11 q12 q13 q14 q15 q16 q17 q18 q19 q20 q21 q22 q23 q24 q25 q26 q27 q28 q29 q30 q31 q32 R)[7]? = some (.inr (.inl (1, q5))) := rfl
theorem own_s1_lastSt {x : List Int32} : (C1 scr q0 q1 q2 q3 q4 q5 q6 q7 q8 q9 q10 q11 q12 q13 q14 q15 q16 q17 q18 q19 q20 q21 q22 q23 q24 q25 q26 q27 q28 q29 q30 q31 q32 R).set 7 (.inr (.inl (1, x))) = (C1 scr q0 q1 q2 q3 q4 x q6 q7 q8 q9 q10 q11 q12 q13 q14 q15 q16 q17 q18 q19 q20 q21 q22 q23 q24 q25 q26 q27 q28 q29 q30 q31 q32 R) := rfl
theorem own_g1_lastVal : getC (C1 scr q0 q1 q2 q3 q4 q5 q6 q7 q8 q9 q10 q11 q12 q13 q14 q15 q16 q17 q18 q19 q20 q21 q22 q23 q24 q25 q26 q27 q28 q29 q30 q31 q32 R) 1 6 = some (.ref 8) := rfl
theorem own_a1_lastVal : (C1 scr q0 q1 q2 q3 q4 q5 q6 q7 q8 q9 q10 q11 q12 q13 q14 q15 q16 q17 q18 q19 q20 q21 q22 q23 q24 q25 q26 q27 q28 q29 q30 q31 q32 R)[8]? = some (.inr (.inl (1, q6))) := rfl
theorem own_s1_lastVal {x : List Int32} : (C1 scr q0 q1 q2 q3 q4 q5 q6 q7 q8 q9 q10 q11 q12 q13 q14 q15 q16 q17 q18 q19 q20 q21 q22 q23 q24 q25 q26 q27 q28 q29 q30 q31 q32 R).set 8 (.inr (.inl (1, x))) = (C1 scr q0 q1 q2 q3 q4 q5 x q7 q8 q9 q10 q11 q12 q13 q14 q15 q16 q17 q18 q19 q20 q21 q22 q23 q24 q25 q26 q27 q28 q29 q30 q31 q32 R) := rfl
theorem own_g1_logKind : getC (C1 scr q0 q1 q2 q3 q4 q5 q6 q7 q8 q9 q10 q11 q12 q13 q14 q15 q16 q17 q18 q19 q20 q21 q22 q23 q24 q25 q26 q27 q28 q29 q30 q31 q32 R) 1 7 = some (.ref 9) := rfl
theorem own_a1_logKind : (C1 scr q0 q1 q2 q3 q4 q5 q6 q7 q8 q9 q10 q11 q12 q13 q14 q15 q16 q17 q18 q19 q20 q21 q22 q23 q24 q25 q26 q27 q28 q29 q30 q31 q32 R)[9]? = some (.inr (.inl (1, q7))) := rfl
theorem own_s1_logKind {x : List Int32} : (C1 scr q0 q1 q2 q3 q4 q5 q6 q7 q8 q9 q10 q11 q12 q13 q14 q15 q16 q17 q18 q19 q20 q21 q22 q23 q24 q25 q26 q27 q28 q29 q30 q31 q32 R).set 9 (.inr (.inl (1, x))) = (C1 scr q0 q1 q2 q3 q4 q5 q6 x q8 q9 q10 q11 q12 q13 q14 q15 q16 q17 q18 q19 q20 q21 q22 q23 q24 q25 q26 q27 q28 q29 q30 q31 q32 R) := rfl
theorem own_g1_evKind : getC (C1 scr q0 q1 q2 q3 q4 q5 q6 q7 q8 q9 q10 q11 q12 q13 q14 q15 q16 q17 q18 q19 q20 q21 q22 q23 q24 q25 q26 q27 q28 q29 q30 q31 q32 R) 1 8 = some (.ref 10) := rfl
theorem own_a1_evKind : (C1 scr q0 q1 q2 q3 q4 q5 q6 q7 q8 q9 q10 q11 q12 q13 q14 q15 q16 q17 q18 q19 q20 q21 q22 q23 q24 q25 q26 q27 q28 q29 q30 q31 q32 R)[10]? = some (.inr (.inl (1, q8))) := rfl
theorem own_s1_evKind {x : List Int32} : (C1 scr q0 q1 q2 q3 q4 q5 q6 q7 q8 q9 q10 q11 q12 q13 q14 q15 q16 q17 q18 q19 q20 q21 q22 q23 q24 q25 q26 q27 q28 q29 q30 q31 q32 R).set 10 (.inr (.inl (1, x))) = (C1 scr q0 q1 q2 q3 q4 q5 q6 q7 x q9 q10 q11 q12 q13 q14 q15 q16 q17 q18 q19 q20 q21 q22 q23 q24 q25 q26 q27 q28 q29 q30 q31 q32 R) := rfl
theorem own_g1_evThread : getC (C1 scr q0 q1 q2 q3 q4 q5 q6 q7 q8 q9 q10 q11 q12 q13 q14 q15 q16 q17 q18 q19 q20 q21 q22 q23 q24 q25 q26 q27 q28 q29 q30 q31 q32 R) 1 9 = some (.ref 11) := rfl
theorem own_a1_evThread : (C1 scr q0 q1 q2 q3 q4 q5 q6 q7 q8 q9 q10 q11 q12 q13 q14 q15 q16 q17 q18 q19 q20 q21 q22 q23 q24 q25 q26 q27 q28 q29 q30 q31 q32 R)[11]? = some (.inr (.inl (1, q9))) := rfl
theorem own_s1_evThread {x : List Int32} : (C1 scr q0 q1 q2 q3 q4 q5 q6 q7 q8 q9 q10 q11 q12 q13 q14 q15 q16 q17 q18 q19 q20 q21 q22 q23 q24 q25 q26 q27 q28 q29 q30 q31 q32 R).set 11 (.inr (.inl (1, x))) = (C1 scr q0 q1 q2 q3 q4 q5 q6 q7 q8 x q10 q11 q12 q13 q14 q15 q16 q17 q18 q19 q20 q21 q22 q23 q24 q25 q26 q27 q28 q29 q30 q31 q32 R) := rfl
theorem own_g1_evVal : getC (C1 scr q0 q1 q2 q3 q4 q5 q6 q7 q8 q9 q10 q11 q12 q13 q14 q15 q16 q17 q18 q19 q20 q21 q22 q23 q24 q25 q26 q27 q28 q29 q30 q31 q32 R) 1 10 = some (.ref 12) := rfl
theorem own_a1_evVal : (C1 scr q0 q1 q2 q3 q4 q5 q6 q7 q8 q9 q10 q11 q12 q13 q14 q15 q16 q17 q18 q19 q20 q21 q22 q23 q24 q25 q26 q27 q28 q29 q30 q31 q32 R)[12]? = some (.inr (.inl (1, q10))) := rfl
theorem own_s1_evVal {x : List Int32} : (C1 scr q0 q1 q2 q3 q4 q5 q6 q7 q8 q9 q10 q11 q12 q13 q14 q15 q16 q17 q18 q19 q20 q21 q22 q23 q24 q25 q26 q27 q28 q29 q30 q31 q32 R).set 12 (.inr (.inl (1, x))) = (C1 scr q0 q1 q2 q3 q4 q5 q6 q7 q8 q9 x q11 q12 q13 q14 q15 q16 q17 q18 q19 q20 q21 q22 q23 q24 q25 q26 q27 q28 q29 q30 q31 q32 R) := rfl
theorem own_g1_snap : getC (C1 scr q0 q1 q2 q3 q4 q5 q6 q7 q8 q9 q10 q11 q12 q13 q14 q15 q16 q17 q18 q19 q20 q21 q22 q23 q24 q25 q26 q27 q28 q29 q30 q31 q32 R) 1 11 = some (.ref 13) := rfl
theorem own_a1_snap : (C1 scr q0 q1 q2 q3 q4 q5 q6 q7 q8 q9 q10 q11 q12 q13 q14 q15 q16 q17 q18 q19 q20 q21 q22 q23 q24 q25 q26 q27 q28 q29 q30 q31 q32 R)[13]? = some (.inr (.inl (1, q11))) := rfl
theorem own_s1_snap {x : List Int32} : (C1 scr q0 q1 q2 q3 q4 q5 q6 q7 q8 q9 q10 q11 q12 q13 q14 q15 q16 q17 q18 q19 q20 q21 q22 q23 q24 q25 q26 q27 q28 q29 q30 q31 q32 R).set 13 (.inr (.inl (1, x))) = (C1 scr q0 q1 q2 q3 q4 q5 q6 q7 q8 q9 q10 x q12 q13 q14 q15 q16 q17 q18 q19 q20 q21 q22 q23 q24 q25 q26 q27 q28 q29 q30 q31 q32 R) := rfl
theorem own_g1_opKind : getC (C1 scr q0 q1 q2 q3 q4 q5 q6 q7 q8 q9 q10 q11 q12 q13 q14 q15 q16 q17 q18 q19 q20 q21 q22 q23 q24 q25 q26 q27 q28 q29 q30 q31 q32 R) 1 12 = some (.ref 14) := rfl
theorem own_a1_opKind : (C1 scr q0 q1 q2 q3 q4 q5 q6 q7 q8 q9 q10 q11 q12 q13 q14 q15 q16 q17 q18 q19 q20 q21 q22 q23 q24 q25 q26 q27 q28 q29 q30 q31 q32 R)[14]? = some (.inr (.inl (1, q12))) := rfl
theorem own_s1_opKind {x : List Int32} : (C1 scr q0 q1 q2 q3 q4 q5 q6 q7 q8 q9 q10 q11 q12 q13 q14 q15 q16 q17 q18 q19 q20 q21 q22 q23 q24 q25 q26 q27 q28 q29 q30 q31 q32 R).set 14 (.inr (.inl (1, x))) = (C1 scr q0 q1 q2 q3 q4 q5 q6 q7 q8 q9 q10 q11 x q13 q14 q15 q16 q17 q18 q19 q20 q21 q22 q23 q24 q25 q26 q27 q28 q29 q30 q31 q32 R) := rfl
theorem own_g1_opArg : getC (C1 scr q0 q1 q2 q3 q4 q5 q6 q7 q8 q9 q10 q11 q12 q13 q14 q15 q16 q17 q18 q19 q20 q21 q22 q23 q24 q25 q26 q27 q28 q29 q30 q31 q32 R) 1 13 = some (.ref 15) := rfl
theorem own_a1_opArg : (C1 scr q0 q1 q2 q3 q4 q5 q6 q7 q8 q9 q10 q11 q12 q13 q14 q15 q16 q17 q18 q19 q20 q21 q22 q23 q24 q25 q26 q27 q28 q29 q30 q31 q32 R)[15]? = some (.inr (.inl (1, q13))) := rfl
theorem own_s1_opArg {x : List Int32} : (C1 scr q0 q1 q2 q3 q4 q5 q6 q7 q8 q9 q10 q11 q12 q13 q14 q15 q16 q17 q18 q19 q20 q21 q22 q23 q24 q25 q26 q27 q28 q29 q30 q31 q32 R).set 15 (.inr (.inl (1, x))) = (C1 scr q0 q1 q2 q3 q4 q5 q6 q7 q8 q9 q10 q11 q12 x q14 q15 q16 q17 q18 q19 q20 q21 q22 q23 q24 q25 q26 q27 q28 q29 q30 q31 q32 R) := rfl
theorem own_g1_opInv : getC (C1 scr q0 q1 q2 q3 q4 q5 q6 q7 q8 q9 q10 q11 q12 q13 q14 q15 q16 q17 q18 q19 q20 q21 q22 q23 q24 q25 q26 q27 q28 q29 q30 q31 q32 R) 1 14 = some (.ref 16) := rfl
theorem own_a1_opInv : (C1 scr q0 q1 q2 q3 q4 q5 q6 q7 q8 q9 q10 q11 q12 q13 q14 q15 q16 q17 q18 q19 q20 q21 q22 q23 q24 q25 q26 q27 q28 q29 q30 q31 q32 R)[16]? = some (.inr (.inl (1, q14))) := rfl
theorem own_s1_opInv {x : List Int32} : (C1 scr q0 q1 q2 q3 q4 q5 q6 q7 q8 q9 q10 q11 q12 q13 q14 q15 q16 q17 q18 q19 q20 q21 q22 q23 q24 q25 q26 q27 q28 q29 q30 q31 q32 R).set 16 (.inr (.inl (1, x))) = (C1 scr q0 q1 q2 q3 q4 q5 q6 q7 q8 q9 q10 q11 q12 q13 x q15 q16 q17 q18 q19 q20 q21 q22 q23 q24 q25 q26 q27 q28 q29 q30 q31 q32 R) := rfl
theorem own_g1_opRes : getC (C1 scr q0 q1 q2 q3 q4 q5 q6 q7 q8 q9 q10 q11 q12 q13 q14 q15 q16 q17 q18 q19 q20 q21 q22 q23 q24 q25 q26 q27 q28 q29 q30 q31 q32 R) 1 15 = some (.ref 17) := rfl
theorem own_a1_opRes : (C1 scr q0 q1 q2 q3 q4 q5 q6 q7 q8 q9 q10 q11 q12 q13 q14 q15 q16 q17 q18 q19 q20 q21 q22 q23 q24 q25 q26 q27 q28 q29 q30 q31 q32 R)[17]? = some (.inr (.inl (1, q15))) := rfl
theorem own_s1_opRes {x : List Int32} : (C1 scr q0 q1 q2 q3 q4 q5 q6 q7 q8 q9 q10 q11 q12 q13 q14 q15 q16 q17 q18 q19 q20 q21 q22 q23 q24 q25 q26 q27 q28 q29 q30 q31 q32 R).set 17 (.inr (.inl (1, x))) = (C1 scr q0 q1 q2 q3 q4 q5 q6 q7 q8 q9 q10 q11 q12 q13 q14 x q16 q17 q18 q19 q20 q21 q22 q23 q24 q25 q26 q27 q28 q29 q30 q31 q32 R) := rfl
theorem own_g1_opStatus : getC (C1 scr q0 q1 q2 q3 q4 q5 q6 q7 q8 q9 q10 q11 q12 q13 q14 q15 q16 q17 q18 q19 q20 q21 q22 q23 q24 q25 q26 q27 q28 q29 q30 q31 q32 R) 1 16 = some (.ref 18) := rfl
theorem own_a1_opStatus : (C1 scr q0 q1 q2 q3 q4 q5 q6 q7 q8 q9 q10 q11 q12 q13 q14 q15 q16 q17 q18 q19 q20 q21 q22 q23 q24 q25 q26 q27 q28 q29 q30 q31 q32 R)[18]? = some (.inr (.inl (1, q16))) := rfl
theorem own_s1_opStatus {x : List Int32} : (C1 scr q0 q1 q2 q3 q4 q5 q6 q7 q8 q9 q10 q11 q12 q13 q14 q15 q16 q17 q18 q19 q20 q21 q22 q23 q24 q25 q26 q27 q28 q29 q30 q31 q32 R).set 18 (.inr (.inl (1, x))) = (C1 scr q0 q1 q2 q3 q4 q5 q6 q7 q8 q9 q10 q11 q12 q13 q14 q15 x q17 q18 q19 q20 q21 q22 q23 q24 q25 q26 q27 q28 q29 q30 q31 q32 R) := rfl
theorem own_g1_opRVal : getC (C1 scr q0 q1 q2 q3 q4 q5 q6 q7 q8 q9 q10 q11 q12 q13 q14 q15 q16 q17 q18 q19 q20 q21 q22 q23 q24 q25 q26 q27 q28 q29 q30 q31 q32 R) 1 17 = some (.ref 19) := rfl
theorem own_a1_opRVal : (C1 scr q0 q1 q2 q3 q4 q5 q6 q7 q8 q9 q10 q11 q12 q13 q14 q15 q16 q17 q18 q19 q20 q21 q22 q23 q24 q25 q26 q27 q28 q29 q30 q31 q32 R)[19]? = some (.inr (.inl (1, q17))) := rfl
theorem own_s1_opRVal {x : List Int32} : (C1 scr q0 q1 q2 q3 q4 q5 q6 q7 q8 q9 q10 q11 q12 q13 q14 q15 q16 q17 q18 q19 q20 q21 q22 q23 q24 q25 q26 q27 q28 q29 q30 q31 q32 R).set 19 (.inr (.inl (1, x))) = (C1 scr q0 q1 q2 q3 q4 q5 q6 q7 q8 q9 q10 q11 q12 q13 q14 q15 q16 x q18 q19 q20 q21 q22 q23 q24 q25 q26 q27 q28 q29 q30 q31 q32 R) := rfl
theorem own_g1_predMask : getC (C1 scr q0 q1 q2 q3 q4 q5 q6 q7 q8 q9 q10 q11 q12 q13 q14 q15 q16 q17 q18 q19 q20 q21 q22 q23 q24 q25 q26 q27 q28 q29 q30 q31 q32 R) 1 18 = some (.ref 20) := rfl
theorem own_a1_predMask : (C1 scr q0 q1 q2 q3 q4 q5 q6 q7 q8 q9 q10 q11 q12 q13 q14 q15 q16 q17 q18 q19 q20 q21 q22 q23 q24 q25 q26 q27 q28 q29 q30 q31 q32 R)[20]? = some (.inr (.inl (1, q18))) := rfl
theorem own_s1_predMask {x : List Int32} : (C1 scr q0 q1 q2 q3 q4 q5 q6 q7 q8 q9 q10 q11 q12 q13 q14 q15 q16 q17 q18 q19 q20 q21 q22 q23 q24 q25 q26 q27 q28 q29 q30 q31 q32 R).set 20 (.inr (.inl (1, x))) = (C1 scr q0 q1 q2 q3 q4 q5 q6 q7 q8 q9 q10 q11 q12 q13 q14 q15 q16 q17 x q19 q20 q21 q22 q23 q24 q25 q26 q27 q28 q29 q30 q31 q32 R) := rfl
theorem own_g1_openOp : getC (C1 scr q0 q1 q2 q3 q4 q5 q6 q7 q8 q9 q10 q11 q12 q13 q14 q15 q16 q17 q18 q19 q20 q21 q22 q23 q24 q25 q26 q27 q28 q29 q30 q31 q32 R) 1 19 = some (.ref 21) := rfl
theorem own_a1_openOp : (C1 scr q0 q1 q2 q3 q4 q5 q6 q7 q8 q9 q10 q11 q12 q13 q14 q15 q16 q17 q18 q19 q20 q21 q22 q23 q24 q25 q26 q27 q28 q29 q30 q31 q32 R)[21]? = some (.inr (.inl (1, q19))) := rfl
theorem own_s1_openOp {x : List Int32} : (C1 scr q0 q1 q2 q3 q4 q5 q6 q7 q8 q9 q10 q11 q12 q13 q14 q15 q16 q17 q18 q19 q20 q21 q22 q23 q24 q25 q26 q27 q28 q29 q30 q31 q32 R).set 21 (.inr (.inl (1, x))) = (C1 scr q0 q1 q2 q3 q4 q5 q6 q7 q8 q9 q10 q11 q12 q13 q14 q15 q16 q17 q18 x q20 q21 q22 q23 q24 q25 q26 q27 q28 q29 q30 q31 q32 R) := rfl
theorem own_g1_qBuf : getC (C1 scr q0 q1 q2 q3 q4 q5 q6 q7 q8 q9 q10 q11 q12 q13 q14 q15 q16 q17 q18 q19 q20 q21 q22 q23 q24 q25 q26 q27 q28 q29 q30 q31 q32 R) 1 20 = some (.ref 22) := rfl
theorem own_a1_qBuf : (C1 scr q0 q1 q2 q3 q4 q5 q6 q7 q8 q9 q10 q11 q12 q13 q14 q15 q16 q17 q18 q19 q20 q21 q22 q23 q24 q25 q26 q27 q28 q29 q30 q31 q32 R)[22]? = some (.inr (.inl (1, q20))) := rfl
theorem own_s1_qBuf {x : List Int32} : (C1 scr q0 q1 q2 q3 q4 q5 q6 q7 q8 q9 q10 q11 q12 q13 q14 q15 q16 q17 q18 q19 q20 q21 q22 q23 q24 q25 q26 q27 q28 q29 q30 q31 q32 R).set 22 (.inr (.inl (1, x))) = (C1 scr q0 q1 q2 q3 q4 q5 q6 q7 q8 q9 q10 q11 q12 q13 q14 q15 q16 q17 q18 q19 x q21 q22 q23 q24 q25 q26 q27 q28 q29 q30 q31 q32 R) := rfl
theorem own_g1_qLen : getC (C1 scr q0 q1 q2 q3 q4 q5 q6 q7 q8 q9 q10 q11 q12 q13 q14 q15 q16 q17 q18 q19 q20 q21 q22 q23 q24 q25 q26 q27 q28 q29 q30 q31 q32 R) 1 21 = some (.ref 23) := rfl
theorem own_a1_qLen : (C1 scr q0 q1 q2 q3 q4 q5 q6 q7 q8 q9 q10 q11 q12 q13 q14 q15 q16 q17 q18 q19 q20 q21 q22 q23 q24 q25 q26 q27 q28 q29 q30 q31 q32 R)[23]? = some (.inr (.inl (1, q21))) := rfl
theorem own_s1_qLen {x : List Int32} : (C1 scr q0 q1 q2 q3 q4 q5 q6 q7 q8 q9 q10 q11 q12 q13 q14 q15 q16 q17 q18 q19 q20 q21 q22 q23 q24 q25 q26 q27 q28 q29 q30 q31 q32 R).set 23 (.inr (.inl (1, x))) = (C1 scr q0 q1 q2 q3 q4 q5 q6 q7 q8 q9 q10 q11 q12 q13 q14 q15 q16 q17 q18 q19 q20 x q22 q23 q24 q25 q26 q27 q28 q29 q30 q31 q32 R) := rfl
theorem own_g1_nextCand : getC (C1 scr q0 q1 q2 q3 q4 q5 q6 q7 q8 q9 q10 q11 q12 q13 q14 q15 q16 q17 q18 q19 q20 q21 q22 q23 q24 q25 q26 q27 q28 q29 q30 q31 q32 R) 1 22 = some (.ref 24) := rfl
theorem own_a1_nextCand : (C1 scr q0 q1 q2 q3 q4 q5 q6 q7 q8 q9 q10 q11 q12 q13 q14 q15 q16 q17 q18 q19 q20 q21 q22 q23 q24 q25 q26 q27 q28 q29 q30 q31 q32 R)[24]? = some (.inr (.inl (1, q22))) := rfl
theorem own_s1_nextCand {x : List Int32} : (C1 scr q0 q1 q2 q3 q4 q5 q6 q7 q8 q9 q10 q11 q12 q13 q14 q15 q16 q17 q18 q19 q20 q21 q22 q23 q24 q25 q26 q27 q28 q29 q30 q31 q32 R).set 24 (.inr (.inl (1, x))) = (C1 scr q0 q1 q2 q3 q4 q5 q6 q7 q8 q9 q10 q11 q12 q13 q14 q15 q16 q17 q18 q19 q20 q21 x q23 q24 q25 q26 q27 q28 q29 q30 q31 q32 R) := rfl
theorem own_g1_chosen : getC (C1 scr q0 q1 q2 q3 q4 q5 q6 q7 q8 q9 q10 q11 q12 q13 q14 q15 q16 q17 q18 q19 q20 q21 q22 q23 q24 q25 q26 q27 q28 q29 q30 q31 q32 R) 1 23 = some (.ref 25) := rfl
theorem own_a1_chosen : (C1 scr q0 q1 q2 q3 q4 q5 q6 q7 q8 q9 q10 q11 q12 q13 q14 q15 q16 q17 q18 q19 q20 q21 q22 q23 q24 q25 q26 q27 q28 q29 q30 q31 q32 R)[25]? = some (.inr (.inl (1, q23))) := rfl
theorem own_s1_chosen {x : List Int32} : (C1 scr q0 q1 q2 q3 q4 q5 q6 q7 q8 q9 q10 q11 q12 q13 q14 q15 q16 q17 q18 q19 q20 q21 q22 q23 q24 q25 q26 q27 q28 q29 q30 q31 q32 R).set 25 (.inr (.inl (1, x))) = (C1 scr q0 q1 q2 q3 q4 q5 q6 q7 q8 q9 q10 q11 q12 q13 q14 q15 q16 q17 q18 q19 q20 q21 q22 x q24 q25 q26 q27 q28 q29 q30 q31 q32 R) := rfl
theorem own_g1_nThreads : getC (C1 scr q0 q1 q2 q3 q4 q5 q6 q7 q8 q9 q10 q11 q12 q13 q14 q15 q16 q17 q18 q19 q20 q21 q22 q23 q24 q25 q26 q27 q28 q29 q30 q31 q32 R) 1 24 = some (.int q24) := rfl
theorem own_p1_nThreads {k : Nat} {x : Int32} : putC own_P k (C1 scr q0 q1 q2 q3 q4 q5 q6 q7 q8 q9 q10 q11 q12 q13 q14 q15 q16 q17 q18 q19 q20 q21 q22 q23 q24 q25 q26 q27 q28 q29 q30 q31 q32 R) 1 24 (.int x) = some (C1 scr q0 q1 q2 q3 q4 q5 q6 q7 q8 q9 q10 q11 q12 q13 q14 q15 q16 q17 q18 q19 q20 q21 q22 q23 x q25 q26 q27 q28 q29 q30 q31 q32 R) := rfl
theorem own_g1_cap : getC (C1 scr q0 q1 q2 q3 q4 q5 q6 q7 q8 q9 q10 q11 q12 q13 q14 q15 q16 q17 q18 q19 q20 q21 q22 q23 q24 q25 q26 q27 q28 q29 q30 q31 q32 R) 1 25 = some (.int q25) := rfl
theorem own_p1_cap {k : Nat} {x : Int32} : putC own_P k (C1 scr q0 q1 q2 q3 q4 q5 q6 q7 q8 q9 q10 q11 q12 q13 q14 q15 q16 q17 q18 q19 q20 q21 q22 q23 q24 q25 q26 q27 q28 q29 q30 q31 q32 R) 1 25 (.int x) = some (C1 scr q0 q1 q2 q3 q4 q5 q6 q7 q8 q9 q10 q11 q12 q13 q14 q15 q16 q17 q18 q19 q20 q21 q22 q23 q24 x q26 q27 q28 q29 q30 q31 q32 R) := rfl
theorem own_g1_mask : getC (C1 scr q0 q1 q2 q3 q4 q5 q6 q7 q8 q9 q10 q11 q12 q13 q14 q15 q16 q17 q18 q19 q20 q21 q22 q23 q24 q25 q26 q27 q28 q29 q30 q31 q32 R) 1 26 = some (.int q26) := rfl
theorem own_p1_mask {k : Nat} {x : Int32} : putC own_P k (C1 scr q0 q1 q2 q3 q4 q5 q6 q7 q8 q9 q10 q11 q12 q13 q14 q15 q16 q17 q18 q19 q20 q21 q22 q23 q24 q25 q26 q27 q28 q29 q30 q31 q32 R) 1 26 (.int x) = some (C1 scr q0 q1 q2 q3 q4 q5 q6 q7 q8 q9 q10 q11 q12 q13 q14 q15 q16 q17 q18 q19 q20 q21 q22 q23 q24 q25 x q27 q28 q29 q30 q31 q32 R) := rfl
theorem own_g1_head : getC (C1 scr q0 q1 q2 q3 q4 q5 q6 q7 q8 q9 q10 q11 q12 q13 q14 q15 q16 q17 q18 q19 q20 q21 q22 q23 q24 q25 q26 q27 q28 q29 q30 q31 q32 R) 1 27 = some (.int q27) := rfl
theorem own_p1_head {k : Nat} {x : Int32} : putC own_P k (C1 scr q0 q1 q2 q3 q4 q5 q6 q7 q8 q9 q10 q11 q12 q13 q14 q15 q16 q17 q18 q19 q20 q21 q22 q23 q24 q25 q26 q27 q28 q29 q30 q31 q32 R) 1 27 (.int x) = some (C1 scr q0 q1 q2 q3 q4 q5 q6 q7 q8 q9 q10 q11 q12 q13 q14 q15 q16 q17 q18 q19 q20 q21 q22 q23 q24 q25 q26 x q28 q29 q30 q31 q32 R) := rfl
theorem own_g1_tail : getC (C1 scr q0 q1 q2 q3 q4 q5 q6 q7 q8 q9 q10 q11 q12 q13 q14 q15 q16 q17 q18 q19 q20 q21 q22 q23 q24 q25 q26 q27 q28 q29 q30 q31 q32 R) 1 28 = some (.int q28) := rfl
theorem own_p1_tail {k : Nat} {x : Int32} : putC own_P k (C1 scr q0 q1 q2 q3 q4 q5 q6 q7 q8 q9 q10 q11 q12 q13 q14 q15 q16 q17 q18 q19 q20 q21 q22 q23 q24 q25 q26 q27 q28 q29 q30 q31 q32 R) 1 28 (.int x) = some (C1 scr q0 q1 q2 q3 q4 q5 q6 q7 q8 q9 q10 q11 q12 q13 q14 q15 q16 q17 q18 q19 q20 q21 q22 q23 q24 q25 q26 q27 x q29 q30 q31 q32 R) := rfl
theorem own_g1_histLen : getC (C1 scr q0 q1 q2 q3 q4 q5 q6 q7 q8 q9 q10 q11 q12 q13 q14 q15 q16 q17 q18 q19 q20 q21 q22 q23 q24 q25 q26 q27 q28 q29 q30 q31 q32 R) 1 29 = some (.int q29) := rfl
theorem own_p1_histLen {k : Nat} {x : Int32} : putC own_P k (C1 scr q0 q1 q2 q3 q4 q5 q6 q7 q8 q9 q10 q11 q12 q13 q14 q15 q16 q17 q18 q19 q20 q21 q22 q23 q24 q25 q26 q27 q28 q29 q30 q31 q32 R) 1 29 (.int x) = some (C1 scr q0 q1 q2 q3 q4 q5 q6 q7 q8 q9 q10 q11 q12 q13 q14 q15 q16 q17 q18 q19 q20 q21 q22 q23 q24 q25 q26 q27 q28 x q30 q31 q32 R) := rfl
theorem own_g1_snapLen : getC (C1 scr q0 q1 q2 q3 q4 q5 q6 q7 q8 q9 q10 q11 q12 q13 q14 q15 q16 q17 q18 q19 q20 q21 q22 q23 q24 q25 q26 q27 q28 q29 q30 q31 q32 R) 1 30 = some (.int q30) := rfl
theorem own_p1_snapLen {k : Nat} {x : Int32} : putC own_P k (C1 scr q0 q1 q2 q3 q4 q5 q6 q7 q8 q9 q10 q11 q12 q13 q14 q15 q16 q17 q18 q19 q20 q21 q22 q23 q24 q25 q26 q27 q28 q29 q30 q31 q32 R) 1 30 (.int x) = some (C1 scr q0 q1 q2 q3 q4 q5 q6 q7 q8 q9 q10 q11 q12 q13 q14 q15 q16 q17 q18 q19 q20 q21 q22 q23 q24 q25 q26 q27 q28 q29 x q31 q32 R) := rfl
theorem own_g1_opCount : getC (C1 scr q0 q1 q2 q3 q4 q5 q6 q7 q8 q9 q10 q11 q12 q13 q14 q15 q16 q17 q18 q19 q20 q21 q22 q23 q24 q25 q26 q27 q28 q29 q30 q31 q32 R) 1 31 = some (.int q31) := rfl
theorem own_p1_opCount {k : Nat} {x : Int32} : putC own_P k (C1 scr q0 q1 q2 q3 q4 q5 q6 q7 q8 q9 q10 q11 q12 q13 q14 q15 q16 q17 q18 q19 q20 q21 q22 q23 q24 q25 q26 q27 q28 q29 q30 q31 q32 R) 1 31 (.int x) = some (C1 scr q0 q1 q2 q3 q4 q5 q6 q7 q8 q9 q10 q11 q12 q13 q14 q15 q16 q17 q18 q19 q20 q21 q22 q23 q24 q25 q26 q27 q28 q29 q30 x q32 R) := rfl
theorem own_g1_completeMask : getC (C1 scr q0 q1 q2 q3 q4 q5 q6 q7 q8 q9 q10 q11 q12 q13 q14 q15 q16 q17 q18 q19 q20 q21 q22 q23 q24 q25 q26 q27 q28 q29 q30 q31 q32 R) 1 32 = some (.int q32) := rfl
theorem own_p1_completeMask {k : Nat} {x : Int32} : putC own_P k (C1 scr q0 q1 q2 q3 q4 q5 q6 q7 q8 q9 q10 q11 q12 q13 q14 q15 q16 q17 q18 q19 q20 q21 q22 q23 q24 q25 q26 q27 q28 q29 q30 q31 q32 R) 1 32 (.int x) = some (C1 scr q0 q1 q2 q3 q4 q5 q6 q7 q8 q9 q10 q11 q12 q13 q14 q15 q16 q17 q18 q19 q20 q21 q22 q23 q24 q25 q26 q27 q28 q29 q30 q31 x R) := rfl
theorem own_g2_seq : getC (C2 scr q0 q1 q2 q3 q4 q5 q6 q7 q8 q9 q10 q11 q12 q13 q14 q15 q16 q17 q18 q19 q20 q21 q22 q23 q24 q25 q26 q27 q28 q29 q30 q31 q32 r0 r1 r2 r3 r4 r5 r6 r7 r8 r9 r10 r11 r12 r13 r14 r15 r16 r17 r18 r19 r20 r21 r22 r23 r24 r25 r26 r27 r28 r29 r30 r31 r32 R) 26 0 = some (.ref 27) := rfl
theorem own_a2_seq : (C2 scr q0 q1 q2 q3 q4 q5 q6 q7 q8 q9 q10 q11 q12 q13 q14 q15 q16 q17 q18 q19 q20 q21 q22 q23 q24 q25 q26 q27 q28 q29 q30 q31 q32 r0 r1 r2 r3 r4 r5 r6 r7 r8 r9 r10 r11 r12 r13 r14 r15 r16 r17 r18 r19 r20 r21 r22 r23 r24 r25 r26 r27 r28 r29 r30 r31 r32 R)[27]? = some (.inr (.inl (1, r0))) := rfl
theorem own_s2_seq {x : List Int32} : (C2 scr q0 q1 q2 q3 q4 q5 q6 q7 q8 q9 q10 q11 q12 q13 q14 q15 q16 q17 q18 q19 q20 q21 q22 q23 q24 q25 q26 q27 q28 q29 q30 q31 q32 r0 r1 r2 r3 r4 r5 r6 r7 r8 r9 r10 r11 r12 r13 r14 r15 r16 r17 r18 r19 r20 r21 r22 r23 r24 r25 r26 r27 r28 r29 r30 r31 r32 R).set 27 (.inr (.inl (1, x))) = (C2 scr q0 q1 q2 q3 q4 q5 q6 q7 q8 q9 q10 q11 q12 q13 q14 q15 q16 q17 q18 q19 q20 q21 q22 q23 q24 q25 q26 q27 q28 q29 q30 q31 q32 x r1 r2 r3 r4 r5 r6 r7 r8 r9 r10 r11 r12 r13 r14 r15 r16 r17 r18 r19 r20 r21 r22 r23 r24 r25 r26 r27 r28 r29 r30 r31 r32 R) := rfl
theorem own_g2_val : getC (C2 scr q0 q1 q2 q3 q4 q5 q6 q7 q8 q9 q10 q11 q12 q13 q14 q15 q16 q17 q18 q19 q20 q21 q22 q23 q24 q25 q26 q27 q28 q29 q30 q31 q32 r0 r1 r2 r3 r4 r5 r6 r7 r8 r9 r10 r11 r12 r13 r14 r15 r16 r17 r18 r19 r20 r21 r22 r23 r24 r25 r26 r27 r28 r29 r30 r31 r32 R) 26 1 = some (.ref 28) := rfl
theorem own_a2_val : (C2 scr q0 q1 q2 q3 q4 q5 q6 q7 q8 q9 q10 q11 q12 q13 q14 q15 q16 q17 q18 q19 q20 q21 q22 q23 q24 q25 q26 q27 q28 q29 q30 q31 q32 r0 r1 r2 r3 r4 r5 r6 r7 r8 r9 r10 r11 r12 r13 r14 r15 r16 r17 r18 r19 r20 r21 r22 r23 r24 r25 r26 r27 r28 r29 r30 r31 r32 R)[28]? = some (.inr (.inl (1, r1))) := rfl
theorem own_s2_val {x : List Int32} : (C2 scr q0 q1 q2 q3 q4 q5 q6 q7 q8 q9 q10 q11 q12 q13 q14 q15 q16 q17 q18 q19 q20 q21 q22 q23 q24 q25 q26 q27 q28 q29 q30 q31 q32 r0 r1 r2 r3 r4 r5 r6 r7 r8 r9 r10 r11 r12 r13 r14 r15 r16 r17 r18 r19 r20 r21 r22 r23 r24 r25 r26 r27 r28 r29 r30 r31 r32 R).set 28 (.inr (.inl (1, x))) = (C2 scr q0 q1 q2 q3 q4 q5 q6 q7 q8 q9 q10 q11 q12 q13 q14 q15 q16 q17 q18 q19 q20 q21 q22 q23 q24 q25 q26 q27 q28 q29 q30 q31 q32 r0 x r2 r3 r4 r5 r6 r7 r8 r9 r10 r11 r12 r13 r14 r15 r16 r17 r18 r19 r20 r21 r22 r23 r24 r25 r26 r27 r28 r29 r30 r31 r32 R) := rfl
theorem own_g2_st : getC (C2 scr q0 q1 q2 q3 q4 q5 q6 q7 q8 q9 q10 q11 q12 q13 q14 q15 q16 q17 q18 q19 q20 q21 q22 q23 q24 q25 q26 q27 q28 q29 q30 q31 q32 r0 r1 r2 r3 r4 r5 r6 r7 r8 r9 r10 r11 r12 r13 r14 r15 r16 r17 r18 r19 r20 r21 r22 r23 r24 r25 r26 r27 r28 r29 r30 r31 r32 R) 26 2 = some (.ref 29) := rfl
theorem own_a2_st : (C2 scr q0 q1 q2 q3 q4 q5 q6 q7 q8 q9 q10 q11 q12 q13 q14 q15 q16 q17 q18 q19 q20 q21 q22 q23 q24 q25 q26 q27 q28 q29 q30 q31 q32 r0 r1 r2 r3 r4 r5 r6 r7 r8 r9 r10 r11 r12 r13 r14 r15 r16 r17 r18 r19 r20 r21 r22 r23 r24 r25 r26 r27 r28 r29 r30 r31 r32 R)[29]? = some (.inr (.inl (1, r2))) := rfl
theorem own_s2_st {x : List Int32} : (C2 scr q0 q1 q2 q3 q4 q5 q6 q7 q8 q9 q10 q11 q12 q13 q14 q15 q16 q17 q18 q19 q20 q21 q22 q23 q24 q25 q26 q27 q28 q29 q30 q31 q32 r0 r1 r2 r3 r4 r5 r6 r7 r8 r9 r10 r11 r12 r13 r14 r15 r16 r17 r18 r19 r20 r21 r22 r23 r24 r25 r26 r27 r28 r29 r30 r31 r32 R).set 29 (.inr (.inl (1, x))) = (C2 scr q0 q1 q2 q3 q4 q5 q6 q7 q8 q9 q10 q11 q12 q13 q14 q15 q16 q17 q18 q19 q20 q21 q22 q23 q24 q25 q26 q27 q28 q29 q30 q31 q32 r0 r1 x r3 r4 r5 r6 r7 r8 r9 r10 r11 r12 r13 r14 r15 r16 r17 r18 r19 r20 r21 r22 r23 r24 r25 r26 r27 r28 r29 r30 r31 r32 R) := rfl
theorem own_g2_locP : getC (C2 scr q0 q1 q2 q3 q4 q5 q6 q7 q8 q9 q10 q11 q12 q13 q14 q15 q16 q17 q18 q19 q20 q21 q22 q23 q24 q25 q26 q27 q28 q29 q30 q31 q32 r0 r1 r2 r3 r4 r5 r6 r7 r8 r9 r10 r11 r12 r13 r14 r15 r16 r17 r18 r19 r20 r21 r22 r23 r24 r25 r26 r27 r28 r29 r30 r31 r32 R) 26 3 = some (.ref 30) := rfl
theorem own_a2_locP : (C2 scr q0 q1 q2 q3 q4 q5 q6 q7 q8 q9 q10 q11 q12 q13 q14 q15 q16 q17 q18 q19 q20 q21 q22 q23 q24 q25 q26 q27 q28 q29 q30 q31 q32 r0 r1 r2 r3 r4 r5 r6 r7 r8 r9 r10 r11 r12 r13 r14 r15 r16 r17 r18 r19 r20 r21 r22 r23 r24 r25 r26 r27 r28 r29 r30 r31 r32 R)[30]? = some (.inr (.inl (1, r3))) := rfl
theorem own_s2_locP {x : List Int32} : (C2 scr q0 q1 q2 q3 q4 q5 q6 q7 q8 q9 q10 q11 q12 q13 q14 q15 q16 q17 q18 q19 q20 q21 q22 q23 q24 q25 q26 q27 q28 q29 q30 q31 q32 r0 r1 r2 r3 r4 r5 r6 r7 r8 r9 r10 r11 r12 r13 r14 r15 r16 r17 r18 r19 r20 r21 r22 r23 r24 r25 r26 r27 r28 r29 r30 r31 r32 R).set 30 (.inr (.inl (1, x))) = (C2 scr q0 q1 q2 q3 q4 q5 q6 q7 q8 q9 q10 q11 q12 q13 q14 q15 q16 q17 q18 q19 q20 q21 q22 q23 q24 q25 q26 q27 q28 q29 q30 q31 q32 r0 r1 r2 x r4 r5 r6 r7 r8 r9 r10 r11 r12 r13 r14 r15 r16 r17 r18 r19 r20 r21 r22 r23 r24 r25 r26 r27 r28 r29 r30 r31 r32 R) := rfl
theorem own_g2_locV : getC (C2 scr q0 q1 q2 q3 q4 q5 q6 q7 q8 q9 q10 q11 q12 q13 q14 q15 q16 q17 q18 q19 q20 q21 q22 q23 q24 q25 q26 q27 q28 q29 q30 q31 q32 r0 r1 r2 r3 r4 r5 r6 r7 r8 r9 r10 r11 r12 r13 r14 r15 r16 r17 r18 r19 r20 r21 r22 r23 r24 r25 r26 r27 r28 r29 r30 r31 r32 R) 26 4 = some (.ref 31) := rfl
theorem own_a2_locV : (C2 scr q0 q1 q2 q3 q4 q5 q6 q7 q8 q9 q10 q11 q12 q13 q14 q15 q16 q17 q18 q19 q20 q21 q22 q23 q24 q25 q26 q27 q28 q29 q30 q31 q32 r0 r1 r2 r3 r4 r5 r6 r7 r8 r9 r10 r11 r12 r13 r14 r15 r16 r17 r18 r19 r20 r21 r22 r23 r24 r25 r26 r27 r28 r29 r30 r31 r32 R)[31]? = some (.inr (.inl (1, r4))) := rfl
theorem own_s2_locV {x : List Int32} : (C2 scr q0 q1 q2 q3 q4 q5 q6 q7 q8 q9 q10 q11 q12 q13 q14 q15 q16 q17 q18 q19 q20 q21 q22 q23 q24 q25 q26 q27 q28 q29 q30 q31 q32 r0 r1 r2 r3 r4 r5 r6 r7 r8 r9 r10 r11 r12 r13 r14 r15 r16 r17 r18 r19 r20 r21 r22 r23 r24 r25 r26 r27 r28 r29 r30 r31 r32 R).set 31 (.inr (.inl (1, x))) = (C2 scr q0 q1 q2 q3 q4 q5 q6 q7 q8 q9 q10 q11 q12 q13 q14 q15 q16 q17 q18 q19 q20 q21 q22 q23 q24 q25 q26 q27 q28 q29 q30 q31 q32 r0 r1 r2 r3 x r5 r6 r7 r8 r9 r10 r11 r12 r13 r14 r15 r16 r17 r18 r19 r20 r21 r22 r23 r24 r25 r26 r27 r28 r29 r30 r31 r32 R) := rfl
theorem own_g2_lastSt : getC (C2 scr q0 q1 q2 q3 q4 q5 q6 q7 q8 q9 q10 q11 q12 q13 q14 q15 q16 q17 q18 q19 q20 q21 q22 q23 q24 q25 q26 q27 q28 q29 q30 q31 q32 r0 r1 r2 r3 r4 r5 r6 r7 r8 r9 r10 r11 r12 r13 r14 r15 r16 r17 r18 r19 r20 r21 r22 r23 r24 r25 r26 r27 r28 r29 r30 r31 r32 R) 26 5 = some (.ref 32) := rfl
theorem own_a2_lastSt : (C2 scr q0 q1 q2 q3 q4 q5 q6 q7 q8 q9 q10 q11 q12 q13 q14 q15 q16 q17 q18 q19 q20 q21 q22 q23 q24 q25 q26 q27 q28 q29 q30 q31 q32 r0 r1 r2 r3 r4 r5 r6 r7 r8 r9 r10 r11 r12 r13 r14 r15 r16 r17 r18 r19 r20 r21 r22 r23 r24 r25 r26 r27 r28 r29 r30 r31 r32 R)[32]? = some (.inr (.inl (1, r5))) := rfl
theorem own_s2_lastSt {x : List Int32} : (C2 scr q0 q1 q2 q3 q4 q5 q6 q7 q8 q9 q10 q11 q12 q13 q14 q15 q16 q17 q18 q19 q20 q21 q22 q23 q24 q25 q26 q27 q28 q29 q30 q31 q32 r0 r1 r2 r3 r4 r5 r6 r7 r8 r9 r10 r11 r12 r13 r14 r15 r16 r17 r18 r19 r20 r21 r22 r23 r24 r25 r26 r27 r28 r29 r30 r31 r32 R).set 32 (.inr (.inl (1, x))) = (C2 scr q0 q1 q2 q3 q4 q5 q6 q7 q8 q9 q10 q11 q12 q13 q14 q15 q16 q17 q18 q19 q20 q21 q22 q23 q24 q25 q26 q27 q28 q29 q30 q31 q32 r0 r1 r2 r3 r4 x r6 r7 r8 r9 r10 r11 r12 r13 r14 r15 r16 r17 r18 r19 r20 r21 r22 r23 r24 r25 r26 r27 r28 r29 r30 r31 r32 R) := rfl
theorem own_g2_lastVal : getC (C2 scr q0 q1 q2 q3 q4 q5 q6 q7 q8 q9 q10 q11 q12 q13 q14 q15 q16 q17 q18 q19 q20 q21 q22 q23 q24 q25 q26 q27 q28 q29 q30 q31 q32 r0 r1 r2 r3 r4 r5 r6 r7 r8 r9 r10 r11 r12 r13 r14 r15 r16 r17 r18 r19 r20 r21 r22 r23 r24 r25 r26 r27 r28 r29 r30 r31 r32 R) 26 6 = some (.ref 33) := rfl
theorem own_a2_lastVal : (C2 scr q0 q1 q2 q3 q4 q5 q6 q7 q8 q9 q10 q11 q12 q13 q14 q15 q16 q17 q18 q19 q20 q21 q22 q23 q24 q25 q26 q27 q28 q29 q30 q31 q32 r0 r1 r2 r3 r4 r5 r6 r7 r8 r9 r10 r11 r12 r13 r14 r15 r16 r17 r18 r19 r20 r21 r22 r23 r24 r25 r26 r27 r28 r29 r30 r31 r32 R)[33]? = some (.inr (.inl (1, r6))) := rfl
theorem own_s2_lastVal {x : List Int32} : (C2 scr q0 q1 q2 q3 q4 q5 q6 q7 q8 q9 q10 q11 q12 q13 q14 q15 q16 q17 q18 q19 q20 q21 q22 q23 q24 q25 q26 q27 q28 q29 q30 q31 q32 r0 r1 r2 r3 r4 r5 r6 r7 r8 r9 r10 r11 r12 r13 r14 r15 r16 r17 r18 r19 r20 r21 r22 r23 r24 r25 r26 r27 r28 r29 r30 r31 r32 R).set 33 (.inr (.inl (1, x))) = (C2 scr q0 q1 q2 q3 q4 q5 q6 q7 q8 q9 q10 q11 q12 q13 q14 q15 q16 q17 q18 q19 q20 q21 q22 q23 q24 q25 q26 q27 q28 q29 q30 q31 q32 r0 r1 r2 r3 r4 r5 x r7 r8 r9 r10 r11 r12 r13 r14 r15 r16 r17 r18 r19 r20 r21 r22 r23 r24 r25 r26 r27 r28 r29 r30 r31 r32 R) := rfl
theorem own_g2_logKind : getC (C2 scr q0 q1 q2 q3 q4 q5 q6 q7 q8 q9 q10 q11 q12 q13 q14 q15 q16 q17 q18 q19 q20 q21 q22 q23 q24 q25 q26 q27 q28 q29 q30 q31 q32 r0 r1 r2 r3 r4 r5 r6 r7 r8 r9 r10 r11 r12 r13 r14 r15 r16 r17 r18 r19 r20 r21 r22 r23 r24 r25 r26 r27 r28 r29 r30 r31 r32 R) 26 7 = some (.ref 34) := rfl
theorem own_a2_logKind : (C2 scr q0 q1 q2 q3 q4 q5 q6 q7 q8 q9 q10 q11 q12 q13 q14 q15 q16 q17 q18 q19 q20 q21 q22 q23 q24 q25 q26 q27 q28 q29 q30 q31 q32 r0 r1 r2 r3 r4 r5 r6 r7 r8 r9 r10 r11 r12 r13 r14 r15 r16 r17 r18 r19 r20 r21 r22 r23 r24 r25 r26 r27 r28 r29 r30 r31 r32 R)[34]? = some (.inr (.inl (1, r7))) := rfl
theorem own_s2_logKind {x : List Int32} : (C2 scr q0 q1 q2 q3 q4 q5 q6 q7 q8 q9 q10 q11 q12 q13 q14 q15 q16 q17 q18 q19 q20 q21 q22 q23 q24 q25 q26 q27 q28 q29 q30 q31 q32 r0 r1 r2 r3 r4 r5 r6 r7 r8 r9 r10 r11 r12 r13 r14 r15 r16 r17 r18 r19 r20 r21 r22 r23 r24 r25 r26 r27 r28 r29 r30 r31 r32 R).set 34 (.inr (.inl (1, x))) = (C2 scr q0 q1 q2 q3 q4 q5 q6 q7 q8 q9 q10 q11 q12 q13 q14 q15 q16 q17 q18 q19 q20 q21 q22 q23 q24 q25 q26 q27 q28 q29 q30 q31 q32 r0 r1 r2 r3 r4 r5 r6 x r8 r9 r10 r11 r12 r13 r14 r15 r16 r17 r18 r19 r20 r21 r22 r23 r24 r25 r26 r27 r28 r29 r30 r31 r32 R) := rfl
theorem own_g2_evKind : getC (C2 scr q0 q1 q2 q3 q4 q5 q6 q7 q8 q9 q10 q11 q12 q13 q14 q15 q16 q17 q18 q19 q20 q21 q22 q23 q24 q25 q26 q27 q28 q29 q30 q31 q32 r0 r1 r2 r3 r4 r5 r6 r7 r8 r9 r10 r11 r12 r13 r14 r15 r16 r17 r18 r19 r20 r21 r22 r23 r24 r25 r26 r27 r28 r29 r30 r31 r32 R) 26 8 = some (.ref 35) := rfl
theorem own_a2_evKind : (C2 scr q0 q1 q2 q3 q4 q5 q6 q7 q8 q9 q10 q11 q12 q13 q14 q15 q16 q17 q18 q19 q20 q21 q22 q23 q24 q25 q26 q27 q28 q29 q30 q31 q32 r0 r1 r2 r3 r4 r5 r6 r7 r8 r9 r10 r11 r12 r13 r14 r15 r16 r17 r18 r19 r20 r21 r22 r23 r24 r25 r26 r27 r28 r29 r30 r31 r32 R)[35]? = some (.inr (.inl (1, r8))) := rfl
theorem own_s2_evKind {x : List Int32} : (C2 scr q0 q1 q2 q3 q4 q5 q6 q7 q8 q9 q10 q11 q12 q13 q14 q15 q16 q17 q18 q19 q20 q21 q22 q23 q24 q25 q26 q27 q28 q29 q30 q31 q32 r0 r1 r2 r3 r4 r5 r6 r7 r8 r9 r10 r11 r12 r13 r14 r15 r16 r17 r18 r19 r20 r21 r22 r23 r24 r25 r26 r27 r28 r29 r30 r31 r32 R).set 35 (.inr (.inl (1, x))) = (C2 scr q0 q1 q2 q3 q4 q5 q6 q7 q8 q9 q10 q11 q12 q13 q14 q15 q16 q17 q18 q19 q20 q21 q22 q23 q24 q25 q26 q27 q28 q29 q30 q31 q32 r0 r1 r2 r3 r4 r5 r6 r7 x r9 r10 r11 r12 r13 r14 r15 r16 r17 r18 r19 r20 r21 r22 r23 r24 r25 r26 r27 r28 r29 r30 r31 r32 R) := rfl
theorem own_g2_evThread : getC (C2 scr q0 q1 q2 q3 q4 q5 q6 q7 q8 q9 q10 q11 q12 q13 q14 q15 q16 q17 q18 q19 q20 q21 q22 q23 q24 q25 q26 q27 q28 q29 q30 q31 q32 r0 r1 r2 r3 r4 r5 r6 r7 r8 r9 r10 r11 r12 r13 r14 r15 r16 r17 r18 r19 r20 r21 r22 r23 r24 r25 r26 r27 r28 r29 r30 r31 r32 R) 26 9 = some (.ref 36) := rfl
theorem own_a2_evThread : (C2 scr q0 q1 q2 q3 q4 q5 q6 q7 q8 q9 q10 q11 q12 q13 q14 q15 q16 q17 q18 q19 q20 q21 q22 q23 q24 q25 q26 q27 q28 q29 q30 q31 q32 r0 r1 r2 r3 r4 r5 r6 r7 r8 r9 r10 r11 r12 r13 r14 r15 r16 r17 r18 r19 r20 r21 r22 r23 r24 r25 r26 r27 r28 r29 r30 r31 r32 R)[36]? = some (.inr (.inl (1, r9))) := rfl
theorem own_s2_evThread {x : List Int32} : (C2 scr q0 q1 q2 q3 q4 q5 q6 q7 q8 q9 q10 q11 q12 q13 q14 q15 q16 q17 q18 q19 q20 q21 q22 q23 q24 q25 q26 q27 q28 q29 q30 q31 q32 r0 r1 r2 r3 r4 r5 r6 r7 r8 r9 r10 r11 r12 r13 r14 r15 r16 r17 r18 r19 r20 r21 r22 r23 r24 r25 r26 r27 r28 r29 r30 r31 r32 R).set 36 (.inr (.inl (1, x))) = (C2 scr q0 q1 q2 q3 q4 q5 q6 q7 q8 q9 q10 q11 q12 q13 q14 q15 q16 q17 q18 q19 q20 q21 q22 q23 q24 q25 q26 q27 q28 q29 q30 q31 q32 r0 r1 r2 r3 r4 r5 r6 r7 r8 x r10 r11 r12 r13 r14 r15 r16 r17 r18 r19 r20 r21 r22 r23 r24 r25 r26 r27 r28 r29 r30 r31 r32 R) := rfl
theorem own_g2_evVal : getC (C2 scr q0 q1 q2 q3 q4 q5 q6 q7 q8 q9 q10 q11 q12 q13 q14 q15 q16 q17 q18 q19 q20 q21 q22 q23 q24 q25 q26 q27 q28 q29 q30 q31 q32 r0 r1 r2 r3 r4 r5 r6 r7 r8 r9 r10 r11 r12 r13 r14 r15 r16 r17 r18 r19 r20 r21 r22 r23 r24 r25 r26 r27 r28 r29 r30 r31 r32 R) 26 10 = some (.ref 37) := rfl
theorem own_a2_evVal : (C2 scr q0 q1 q2 q3 q4 q5 q6 q7 q8 q9 q10 q11 q12 q13 q14 q15 q16 q17 q18 q19 q20 q21 q22 q23 q24 q25 q26 q27 q28 q29 q30 q31 q32 r0 r1 r2 r3 r4 r5 r6 r7 r8 r9 r10 r11 r12 r13 r14 r15 r16 r17 r18 r19 r20 r21 r22 r23 r24 r25 r26 r27 r28 r29 r30 r31 r32 R)[37]? = some (.inr (.inl (1, r10))) := rfl
theorem own_s2_evVal {x : List Int32} : (C2 scr q0 q1 q2 q3 q4 q5 q6 q7 q8 q9 q10 q11 q12 q13 q14 q15 q16 q17 q18 q19 q20 q21 q22 q23 q24 q25 q26 q27 q28 q29 q30 q31 q32 r0 r1 r2 r3 r4 r5 r6 r7 r8 r9 r10 r11 r12 r13 r14 r15 r16 r17 r18 r19 r20 r21 r22 r23 r24 r25 r26 r27 r28 r29 r30 r31 r32 R).set 37 (.inr (.inl (1, x))) = (C2 scr q0 q1 q2 q3 q4 q5 q6 q7 q8 q9 q10 q11 q12 q13 q14 q15 q16 q17 q18 q19 q20 q21 q22 q23 q24 q25 q26 q27 q28 q29 q30 q31 q32 r0 r1 r2 r3 r4 r5 r6 r7 r8 r9 x r11 r12 r13 r14 r15 r16 r17 r18 r19 r20 r21 r22 r23 r24 r25 r26 r27 r28 r29 r30 r31 r32 R) := rfl
theorem own_g2_snap : getC (C2 scr q0 q1 q2 q3 q4 q5 q6 q7 q8 q9 q10 q11 q12 q13 q14 q15 q16 q17 q18 q19 q20 q21 q22 q23 q24 q25 q26 q27 q28 q29 q30 q31 q32 r0 r1 r2 r3 r4 r5 r6 r7 r8 r9 r10 r11 r12 r13 r14 r15 r16 r17 r18 r19 r20 r21 r22 r23 r24 r25 r26 r27 r28 r29 r30 r31 r32 R) 26 11 = some (.ref 38) := rfl
theorem own_a2_snap : (C2 scr q0 q1 q2 q3 q4 q5 q6 q7 q8 q9 q10 q11 q12 q13 q14 q15 q16 q17 q18 q19 q20 q21 q22 q23 q24 q25 q26 q27 q28 q29 q30 q31 q32 r0 r1 r2 r3 r4 r5 r6 r7 r8 r9 r10 r11 r12 r13 r14 r15 r16 r17 r18 r19 r20 r21 r22 r23 r24 r25 r26 r27 r28 r29 r30 r31 r32 R)[38]? = some (.inr (.inl (1, r11))) := rfl
theorem own_s2_snap {x : List Int32} : (C2 scr q0 q1 q2 q3 q4 q5 q6 q7 q8 q9 q10 q11 q12 q13 q14 q15 q16 q17 q18 q19 q20 q21 q22 q23 q24 q25 q26 q27 q28 q29 q30 q31 q32 r0 r1 r2 r3 r4 r5 r6 r7 r8 r9 r10 r11 r12 r13 r14 r15 r16 r17 r18 r19 r20 r21 r22 r23 r24 r25 r26 r27 r28 r29 r30 r31 r32 R).set 38 (.inr (.inl (1, x))) = (C2 scr q0 q1 q2 q3 q4 q5 q6 q7 q8 q9 q10 q11 q12 q13 q14 q15 q16 q17 q18 q19 q20 q21 q22 q23 q24 q25 q26 q27 q28 q29 q30 q31 q32 r0 r1 r2 r3 r4 r5 r6 r7 r8 r9 r10 x r12 r13 r14 r15 r16 r17 r18 r19 r20 r21 r22 r23 r24 r25 r26 r27 r28 r29 r30 r31 r32 R) := rfl
theorem own_g2_opKind : getC (C2 scr q0 q1 q2 q3 q4 q5 q6 q7 q8 q9 q10 q11 q12 q13 q14 q15 q16 q17 q18 q19 q20 q21 q22 q23 q24 q25 q26 q27 q28 q29 q30 q31 q32 r0 r1 r2 r3 r4 r5 r6 r7 r8 r9 r10 r11 r12 r13 r14 r15 r16 r17 r18 r19 r20 r21 r22 r23 r24 r25 r26 r27 r28 r29 r30 r31 r32 R) 26 12 = some (.ref 39) := rfl
theorem own_a2_opKind : (C2 scr q0 q1 q2 q3 q4 q5 q6 q7 q8 q9 q10 q11 q12 q13 q14 q15 q16 q17 q18 q19 q20 q21 q22 q23 q24 q25 q26 q27 q28 q29 q30 q31 q32 r0 r1 r2 r3 r4 r5 r6 r7 r8 r9 r10 r11 r12 r13 r14 r15 r16 r17 r18 r19 r20 r21 r22 r23 r24 r25 r26 r27 r28 r29 r30 r31 r32 R)[39]? = some (.inr (.inl (1, r12))) := rfl
theorem own_s2_opKind {x : List Int32} : (C2 scr q0 q1 q2 q3 q4 q5 q6 q7 q8 q9 q10 q11 q12 q13 q14 q15 q16 q17 q18 q19 q20 q21 q22 q23 q24 q25 q26 q27 q28 q29 q30 q31 q32 r0 r1 r2 r3 r4 r5 r6 r7 r8 r9 r10 r11 r12 r13 r14 r15 r16 r17 r18 r19 r20 r21 r22 r23 r24 r25 r26 r27 r28 r29 r30 r31 r32 R).set 39 (.inr (.inl (1, x))) = (C2 scr q0 q1 q2 q3 q4 q5 q6 q7 q8 q9 q10 q11 q12 q13 q14 q15 q16 q17 q18 q19 q20 q21 q22 q23 q24 q25 q26 q27 q28 q29 q30 q31 q32 r0 r1 r2 r3 r4 r5 r6 r7 r8 r9 r10 r11 x r13 r14 r15 r16 r17 r18 r19 r20 r21 r22 r23 r24 r25 r26 r27 r28 r29 r30 r31 r32 R) := rfl
theorem own_g2_opArg : getC (C2 scr q0 q1 q2 q3 q4 q5 q6 q7 q8 q9 q10 q11 q12 q13 q14 q15 q16 q17 q18 q19 q20 q21 q22 q23 q24 q25 q26 q27 q28 q29 q30 q31 q32 r0 r1 r2 r3 r4 r5 r6 r7 r8 r9 r10 r11 r12 r13 r14 r15 r16 r17 r18 r19 r20 r21 r22 r23 r24 r25 r26 r27 r28 r29 r30 r31 r32 R) 26 13 = some (.ref 40) := rfl
theorem own_a2_opArg : (C2 scr q0 q1 q2 q3 q4 q5 q6 q7 q8 q9 q10 q11 q12 q13 q14 q15 q16 q17 q18 q19 q20 q21 q22 q23 q24 q25 q26 q27 q28 q29 q30 q31 q32 r0 r1 r2 r3 r4 r5 r6 r7 r8 r9 r10 r11 r12 r13 r14 r15 r16 r17 r18 r19 r20 r21 r22 r23 r24 r25 r26 r27 r28 r29 r30 r31 r32 R)[40]? = some (.inr (.inl (1, r13))) := rfl
theorem own_s2_opArg {x : List Int32} : (C2 scr q0 q1 q2 q3 q4 q5 q6 q7 q8 q9 q10 q11 q12 q13 q14 q15 q16 q17 q18 q19 q20 q21 q22 q23 q24 q25 q26 q27 q28 q29 q30 q31 q32 r0 r1 r2 r3 r4 r5 r6 r7 r8 r9 r10 r11 r12 r13 r14 r15 r16 r17 r18 r19 r20 r21 r22 r23 r24 r25 r26 r27 r28 r29 r30 r31 r32 R).set 40 (.inr (.inl (1, x))) = (C2 scr q0 q1 q2 q3 q4 q5 q6 q7 q8 q9 q10 q11 q12 q13 q14 q15 q16 q17 q18 q19 q20 q21 q22 q23 q24 q25 q26 q27 q28 q29 q30 q31 q32 r0 r1 r2 r3 r4 r5 r6 r7 r8 r9 r10 r11 r12 x r14 r15 r16 r17 r18 r19 r20 r21 r22 r23 r24 r25 r26 r27 r28 r29 r30 r31 r32 R) := rfl
theorem own_g2_opInv : getC (C2 scr q0 q1 q2 q3 q4 q5 q6 q7 q8 q9 q10 q11 q12 q13 q14 q15 q16 q17 q18 q19 q20 q21 q22 q23 q24 q25 q26 q27 q28 q29 q30 q31 q32 r0 r1 r2 r3 r4 r5 r6 r7 r8 r9 r10 r11 r12 r13 r14 r15 r16 r17 r18 r19 r20 r21 r22 r23 r24 r25 r26 r27 r28 r29 r30 r31 r32 R) 26 14 = some (.ref 41) := rfl
theorem own_a2_opInv : (C2 scr q0 q1 q2 q3 q4 q5 q6 q7 q8 q9 q10 q11 q12 q13 q14 q15 q16 q17 q18 q19 q20 q21 q22 q23 q24 q25 q26 q27 q28 q29 q30 q31 q32 r0 r1 r2 r3 r4 r5 r6 r7 r8 r9 r10 r11 r12 r13 r14 r15 r16 r17 r18 r19 r20 r21 r22 r23 r24 r25 r26 r27 r28 r29 r30 r31 r32 R)[41]? = some (.inr (.inl (1, r14))) := rfl
theorem own_s2_opInv {x : List Int32} : (C2 scr q0 q1 q2 q3 q4 q5 q6 q7 q8 q9 q10 q11 q12 q13 q14 q15 q16 q17 q18 q19 q20 q21 q22 q23 q24 q25 q26 q27 q28 q29 q30 q31 q32 r0 r1 r2 r3 r4 r5 r6 r7 r8 r9 r10 r11 r12 r13 r14 r15 r16 r17 r18 r19 r20 r21 r22 r23 r24 r25 r26 r27 r28 r29 r30 r31 r32 R).set 41 (.inr (.inl (1, x))) = (C2 scr q0 q1 q2 q3 q4 q5 q6 q7 q8 q9 q10 q11 q12 q13 q14 q15 q16 q17 q18 q19 q20 q21 q22 q23 q24 q25 q26 q27 q28 q29 q30 q31 q32 r0 r1 r2 r3 r4 r5 r6 r7 r8 r9 r10 r11 r12 r13 x r15 r16 r17 r18 r19 r20 r21 r22 r23 r24 r25 r26 r27 r28 r29 r30 r31 r32 R) := rfl
theorem own_g2_opRes : getC (C2 scr q0 q1 q2 q3 q4 q5 q6 q7 q8 q9 q10 q11 q12 q13 q14 q15 q16 q17 q18 q19 q20 q21 q22 q23 q24 q25 q26 q27 q28 q29 q30 q31 q32 r0 r1 r2 r3 r4 r5 r6 r7 r8 r9 r10 r11 r12 r13 r14 r15 r16 r17 r18 r19 r20 r21 r22 r23 r24 r25 r26 r27 r28 r29 r30 r31 r32 R) 26 15 = some (.ref 42) := rfl
theorem own_a2_opRes : (C2 scr q0 q1 q2 q3 q4 q5 q6 q7 q8 q9 q10 q11 q12 q13 q14 q15 q16 q17 q18 q19 q20 q21 q22 q23 q24 q25 q26 q27 q28 q29 q30 q31 q32 r0 r1 r2 r3 r4 r5 r6 r7 r8 r9 r10 r11 r12 r13 r14 r15 r16 r17 r18 r19 r20 r21 r22 r23 r24 r25 r26 r27 r28 r29 r30 r31 r32 R)[42]? = some (.inr (.inl (1, r15))) := rfl
theorem own_s2_opRes {x : List Int32} : (C2 scr q0 q1 q2 q3 q4 q5 q6 q7 q8 q9 q10 q11 q12 q13 q14 q15 q16 q17 q18 q19 q20 q21 q22 q23 q24 q25 q26 q27 q28 q29 q30 q31 q32 r0 r1 r2 r3 r4 r5 r6 r7 r8 r9 r10 r11 r12 r13 r14 r15 r16 r17 r18 r19 r20 r21 r22 r23 r24 r25 r26 r27 r28 r29 r30 r31 r32 R).set 42 (.inr (.inl (1, x))) = (C2 scr q0 q1 q2 q3 q4 q5 q6 q7 q8 q9 q10 q11 q12 q13 q14 q15 q16 q17 q18 q19 q20 q21 q22 q23 q24 q25 q26 q27 q28 q29 q30 q31 q32 r0 r1 r2 r3 r4 r5 r6 r7 r8 r9 r10 r11 r12 r13 r14 x r16 r17 r18 r19 r20 r21 r22 r23 r24 r25 r26 r27 r28 r29 r30 r31 r32 R) := rfl
theorem own_g2_opStatus : getC (C2 scr q0 q1 q2 q3 q4 q5 q6 q7 q8 q9 q10 q11 q12 q13 q14 q15 q16 q17 q18 q19 q20 q21 q22 q23 q24 q25 q26 q27 q28 q29 q30 q31 q32 r0 r1 r2 r3 r4 r5 r6 r7 r8 r9 r10 r11 r12 r13 r14 r15 r16 r17 r18 r19 r20 r21 r22 r23 r24 r25 r26 r27 r28 r29 r30 r31 r32 R) 26 16 = some (.ref 43) := rfl
theorem own_a2_opStatus : (C2 scr q0 q1 q2 q3 q4 q5 q6 q7 q8 q9 q10 q11 q12 q13 q14 q15 q16 q17 q18 q19 q20 q21 q22 q23 q24 q25 q26 q27 q28 q29 q30 q31 q32 r0 r1 r2 r3 r4 r5 r6 r7 r8 r9 r10 r11 r12 r13 r14 r15 r16 r17 r18 r19 r20 r21 r22 r23 r24 r25 r26 r27 r28 r29 r30 r31 r32 R)[43]? = some (.inr (.inl (1, r16))) := rfl
theorem own_s2_opStatus {x : List Int32} : (C2 scr q0 q1 q2 q3 q4 q5 q6 q7 q8 q9 q10 q11 q12 q13 q14 q15 q16 q17 q18 q19 q20 q21 q22 q23 q24 q25 q26 q27 q28 q29 q30 q31 q32 r0 r1 r2 r3 r4 r5 r6 r7 r8 r9 r10 r11 r12 r13 r14 r15 r16 r17 r18 r19 r20 r21 r22 r23 r24 r25 r26 r27 r28 r29 r30 r31 r32 R).set 43 (.inr (.inl (1, x))) = (C2 scr q0 q1 q2 q3 q4 q5 q6 q7 q8 q9 q10 q11 q12 q13 q14 q15 q16 q17 q18 q19 q20 q21 q22 q23 q24 q25 q26 q27 q28 q29 q30 q31 q32 r0 r1 r2 r3 r4 r5 r6 r7 r8 r9 r10 r11 r12 r13 r14 r15 x r17 r18 r19 r20 r21 r22 r23 r24 r25 r26 r27 r28 r29 r30 r31 r32 R) := rfl
theorem own_g2_opRVal : getC (C2 scr q0 q1 q2 q3 q4 q5 q6 q7 q8 q9 q10 q11 q12 q13 q14 q15 q16 q17 q18 q19 q20 q21 q22 q23 q24 q25 q26 q27 q28 q29 q30 q31 q32 r0 r1 r2 r3 r4 r5 r6 r7 r8 r9 r10 r11 r12 r13 r14 r15 r16 r17 r18 r19 r20 r21 r22 r23 r24 r25 r26 r27 r28 r29 r30 r31 r32 R) 26 17 = some (.ref 44) := rfl
theorem own_a2_opRVal : (C2 scr q0 q1 q2 q3 q4 q5 q6 q7 q8 q9 q10 q11 q12 q13 q14 q15 q16 q17 q18 q19 q20 q21 q22 q23 q24 q25 q26 q27 q28 q29 q30 q31 q32 r0 r1 r2 r3 r4 r5 r6 r7 r8 r9 r10 r11 r12 r13 r14 r15 r16 r17 r18 r19 r20 r21 r22 r23 r24 r25 r26 r27 r28 r29 r30 r31 r32 R)[44]? = some (.inr (.inl (1, r17))) := rfl
theorem own_s2_opRVal {x : List Int32} : (C2 scr q0 q1 q2 q3 q4 q5 q6 q7 q8 q9 q10 q11 q12 q13 q14 q15 q16 q17 q18 q19 q20 q21 q22 q23 q24 q25 q26 q27 q28 q29 q30 q31 q32 r0 r1 r2 r3 r4 r5 r6 r7 r8 r9 r10 r11 r12 r13 r14 r15 r16 r17 r18 r19 r20 r21 r22 r23 r24 r25 r26 r27 r28 r29 r30 r31 r32 R).set 44 (.inr (.inl (1, x))) = (C2 scr q0 q1 q2 q3 q4 q5 q6 q7 q8 q9 q10 q11 q12 q13 q14 q15 q16 q17 q18 q19 q20 q21 q22 q23 q24 q25 q26 q27 q28 q29 q30 q31 q32 r0 r1 r2 r3 r4 r5 r6 r7 r8 r9 r10 r11 r12 r13 r14 r15 r16 x r18 r19 r20 r21 r22 r23 r24 r25 r26 r27 r28 r29 r30 r31 r32 R) := rfl
theorem own_g2_predMask : getC (C2 scr q0 q1 q2 q3 q4 q5 q6 q7 q8 q9 q10 q11 q12 q13 q14 q15 q16 q17 q18 q19 q20 q21 q22 q23 q24 q25 q26 q27 q28 q29 q30 q31 q32 r0 r1 r2 r3 r4 r5 r6 r7 r8 r9 r10 r11 r12 r13 r14 r15 r16 r17 r18 r19 r20 r21 r22 r23 r24 r25 r26 r27 r28 r29 r30 r31 r32 R) 26 18 = some (.ref 45) := rfl
theorem own_a2_predMask : (C2 scr q0 q1 q2 q3 q4 q5 q6 q7 q8 q9 q10 q11 q12 q13 q14 q15 q16 q17 q18 q19 q20 q21 q22 q23 q24 q25 q26 q27 q28 q29 q30 q31 q32 r0 r1 r2 r3 r4 r5 r6 r7 r8 r9 r10 r11 r12 r13 r14 r15 r16 r17 r18 r19 r20 r21 r22 r23 r24 r25 r26 r27 r28 r29 r30 r31 r32 R)[45]? = some (.inr (.inl (1, r18))) := rfl
theorem own_s2_predMask {x : List Int32} : (C2 scr q0 q1 q2 q3 q4 q5 q6 q7 q8 q9 q10 q11 q12 q13 q14 q15 q16 q17 q18 q19 q20 q21 q22 q23 q24 q25 q26 q27 q28 q29 q30 q31 q32 r0 r1 r2 r3 r4 r5 r6 r7 r8 r9 r10 r11 r12 r13 r14 r15 r16 r17 r18 r19 r20 r21 r22 r23 r24 r25 r26 r27 r28 r29 r30 r31 r32 R).set 45 (.inr (.inl (1, x))) = (C2 scr q0 q1 q2 q3 q4 q5 q6 q7 q8 q9 q10 q11 q12 q13 q14 q15 q16 q17 q18 q19 q20 q21 q22 q23 q24 q25 q26 q27 q28 q29 q30 q31 q32 r0 r1 r2 r3 r4 r5 r6 r7 r8 r9 r10 r11 r12 r13 r14 r15 r16 r17 x r19 r20 r21 r22 r23 r24 r25 r26 r27 r28 r29 r30 r31 r32 R) := rfl
theorem own_g2_openOp : getC (C2 scr q0 q1 q2 q3 q4 q5 q6 q7 q8 q9 q10 q11 q12 q13 q14 q15 q16 q17 q18 q19 q20 q21 q22 q23 q24 q25 q26 q27 q28 q29 q30 q31 q32 r0 r1 r2 r3 r4 r5 r6 r7 r8 r9 r10 r11 r12 r13 r14 r15 r16 r17 r18 r19 r20 r21 r22 r23 r24 r25 r26 r27 r28 r29 r30 r31 r32 R) 26 19 = some (.ref 46) := rfl
theorem own_a2_openOp : (C2 scr q0 q1 q2 q3 q4 q5 q6 q7 q8 q9 q10 q11 q12 q13 q14 q15 q16 q17 q18 q19 q20 q21 q22 q23 q24 q25 q26 q27 q28 q29 q30 q31 q32 r0 r1 r2 r3 r4 r5 r6 r7 r8 r9 r10 r11 r12 r13 r14 r15 r16 r17 r18 r19 r20 r21 r22 r23 r24 r25 r26 r27 r28 r29 r30 r31 r32 R)[46]? = some (.inr (.inl (1, r19))) := rfl
theorem own_s2_openOp {x : List Int32} : (C2 scr q0 q1 q2 q3 q4 q5 q6 q7 q8 q9 q10 q11 q12 q13 q14 q15 q16 q17 q18 q19 q20 q21 q22 q23 q24 q25 q26 q27 q28 q29 q30 q31 q32 r0 r1 r2 r3 r4 r5 r6 r7 r8 r9 r10 r11 r12 r13 r14 r15 r16 r17 r18 r19 r20 r21 r22 r23 r24 r25 r26 r27 r28 r29 r30 r31 r32 R).set 46 (.inr (.inl (1, x))) = (C2 scr q0 q1 q2 q3 q4 q5 q6 q7 q8 q9 q10 q11 q12 q13 q14 q15 q16 q17 q18 q19 q20 q21 q22 q23 q24 q25 q26 q27 q28 q29 q30 q31 q32 r0 r1 r2 r3 r4 r5 r6 r7 r8 r9 r10 r11 r12 r13 r14 r15 r16 r17 r18 x r20 r21 r22 r23 r24 r25 r26 r27 r28 r29 r30 r31 r32 R) := rfl
theorem own_g2_qBuf : getC (C2 scr q0 q1 q2 q3 q4 q5 q6 q7 q8 q9 q10 q11 q12 q13 q14 q15 q16 q17 q18 q19 q20 q21 q22 q23 q24 q25 q26 q27 q28 q29 q30 q31 q32 r0 r1 r2 r3 r4 r5 r6 r7 r8 r9 r10 r11 r12 r13 r14 r15 r16 r17 r18 r19 r20 r21 r22 r23 r24 r25 r26 r27 r28 r29 r30 r31 r32 R) 26 20 = some (.ref 47) := rfl
theorem own_a2_qBuf : (C2 scr q0 q1 q2 q3 q4 q5 q6 q7 q8 q9 q10 q11 q12 q13 q14 q15 q16 q17 q18 q19 q20 q21 q22 q23 q24 q25 q26 q27 q28 q29 q30 q31 q32 r0 r1 r2 r3 r4 r5 r6 r7 r8 r9 r10 r11 r12 r13 r14 r15 r16 r17 r18 r19 r20 r21 r22 r23 r24 r25 r26 r27 r28 r29 r30 r31 r32 R)[47]? = some (.inr (.inl (1, r20))) := rfl
theorem own_s2_qBuf {x : List Int32} : (C2 scr q0 q1 q2 q3 q4 q5 q6 q7 q8 q9 q10 q11 q12 q13 q14 q15 q16 q17 q18 q19 q20 q21 q22 q23 q24 q25 q26 q27 q28 q29 q30 q31 q32 r0 r1 r2 r3 r4 r5 r6 r7 r8 r9 r10 r11 r12 r13 r14 r15 r16 r17 r18 r19 r20 r21 r22 r23 r24 r25 r26 r27 r28 r29 r30 r31 r32 R).set 47 (.inr (.inl (1, x))) = (C2 scr q0 q1 q2 q3 q4 q5 q6 q7 q8 q9 q10 q11 q12 q13 q14 q15 q16 q17 q18 q19 q20 q21 q22 q23 q24 q25 q26 q27 q28 q29 q30 q31 q32 r0 r1 r2 r3 r4 r5 r6 r7 r8 r9 r10 r11 r12 r13 r14 r15 r16 r17 r18 r19 x r21 r22 r23 r24 r25 r26 r27 r28 r29 r30 r31 r32 R) := rfl
theorem own_g2_qLen : getC (C2 scr q0 q1 q2 q3 q4 q5 q6 q7 q8 q9 q10 q11 q12 q13 q14 q15 q16 q17 q18 q19 q20 q21 q22 q23 q24 q25 q26 q27 q28 q29 q30 q31 q32 r0 r1 r2 r3 r4 r5 r6 r7 r8 r9 r10 r11 r12 r13 r14 r15 r16 r17 r18 r19 r20 r21 r22 r23 r24 r25 r26 r27 r28 r29 r30 r31 r32 R) 26 21 = some (.ref 48) := rfl
theorem own_a2_qLen : (C2 scr q0 q1 q2 q3 q4 q5 q6 q7 q8 q9 q10 q11 q12 q13 q14 q15 q16 q17 q18 q19 q20 q21 q22 q23 q24 q25 q26 q27 q28 q29 q30 q31 q32 r0 r1 r2 r3 r4 r5 r6 r7 r8 r9 r10 r11 r12 r13 r14 r15 r16 r17 r18 r19 r20 r21 r22 r23 r24 r25 r26 r27 r28 r29 r30 r31 r32 R)[48]? = some (.inr (.inl (1, r21))) := rfl
theorem own_s2_qLen {x : List Int32} : (C2 scr q0 q1 q2 q3 q4 q5 q6 q7 q8 q9 q10 q11 q12 q13 q14 q15 q16 q17 q18 q19 q20 q21 q22 q23 q24 q25 q26 q27 q28 q29 q30 q31 q32 r0 r1 r2 r3 r4 r5 r6 r7 r8 r9 r10 r11 r12 r13 r14 r15 r16 r17 r18 r19 r20 r21 r22 r23 r24 r25 r26 r27 r28 r29 r30 r31 r32 R).set 48 (.inr (.inl (1, x))) = (C2 scr q0 q1 q2 q3 q4 q5 q6 q7 q8 q9 q10 q11 q12 q13 q14 q15 q16 q17 q18 q19 q20 q21 q22 q23 q24 q25 q26 q27 q28 q29 q30 q31 q32 r0 r1 r2 r3 r4 r5 r6 r7 r8 r9 r10 r11 r12 r13 r14 r15 r16 r17 r18 r19 r20 x r22 r23 r24 r25 r26 r27 r28 r29 r30 r31 r32 R) := rfl
theorem own_g2_nextCand : getC (C2 scr q0 q1 q2 q3 q4 q5 q6 q7 q8 q9 q10 q11 q12 q13 q14 q15 q16 q17 q18 q19 q20 q21 q22 q23 q24 q25 q26 q27 q28 q29 q30 q31 q32 r0 r1 r2 r3 r4 r5 r6 r7 r8 r9 r10 r11 r12 r13 r14 r15 r16 r17 r18 r19 r20 r21 r22 r23 r24 r25 r26 r27 r28 r29 r30 r31 r32 R) 26 22 = some (.ref 49) := rfl
theorem own_a2_nextCand : (C2 scr q0 q1 q2 q3 q4 q5 q6 q7 q8 q9 q10 q11 q12 q13 q14 q15 q16 q17 q18 q19 q20 q21 q22 q23 q24 q25 q26 q27 q28 q29 q30 q31 q32 r0 r1 r2 r3 r4 r5 r6 r7 r8 r9 r10 r11 r12 r13 r14 r15 r16 r17 r18 r19 r20 r21 r22 r23 r24 r25 r26 r27 r28 r29 r30 r31 r32 R)[49]? = some (.inr (.inl (1, r22))) := rfl
theorem own_s2_nextCand {x : List Int32} : (C2 scr q0 q1 q2 q3 q4 q5 q6 q7 q8 q9 q10 q11 q12 q13 q14 q15 q16 q17 q18 q19 q20 q21 q22 q23 q24 q25 q26 q27 q28 q29 q30 q31 q32 r0 r1 r2 r3 r4 r5 r6 r7 r8 r9 r10 r11 r12 r13 r14 r15 r16 r17 r18 r19 r20 r21 r22 r23 r24 r25 r26 r27 r28 r29 r30 r31 r32 R).set 49 (.inr (.inl (1, x))) = (C2 scr q0 q1 q2 q3 q4 q5 q6 q7 q8 q9 q10 q11 q12 q13 q14 q15 q16 q17 q18 q19 q20 q21 q22 q23 q24 q25 q26 q27 q28 q29 q30 q31 q32 r0 r1 r2 r3 r4 r5 r6 r7 r8 r9 r10 r11 r12 r13 r14 r15 r16 r17 r18 r19 r20 r21 x r23 r24 r25 r26 r27 r28 r29 r30 r31 r32 R) := rfl
theorem own_g2_chosen : getC (C2 scr q0 q1 q2 q3 q4 q5 q6 q7 q8 q9 q10 q11 q12 q13 q14 q15 q16 q17 q18 q19 q20 q21 q22 q23 q24 q25 q26 q27 q28 q29 q30 q31 q32 r0 r1 r2 r3 r4 r5 r6 r7 r8 r9 r10 r11 r12 r13 r14 r15 r16 r17 r18 r19 r20 r21 r22 r23 r24 r25 r26 r27 r28 r29 r30 r31 r32 R) 26 23 = some (.ref 50) := rfl
theorem own_a2_chosen : (C2 scr q0 q1 q2 q3 q4 q5 q6 q7 q8 q9 q10 q11 q12 q13 q14 q15 q16 q17 q18 q19 q20 q21 q22 q23 q24 q25 q26 q27 q28 q29 q30 q31 q32 r0 r1 r2 r3 r4 r5 r6 r7 r8 r9 r10 r11 r12 r13 r14 r15 r16 r17 r18 r19 r20 r21 r22 r23 r24 r25 r26 r27 r28 r29 r30 r31 r32 R)[50]? = some (.inr (.inl (1, r23))) := rfl
theorem own_s2_chosen {x : List Int32} : (C2 scr q0 q1 q2 q3 q4 q5 q6 q7 q8 q9 q10 q11 q12 q13 q14 q15 q16 q17 q18 q19 q20 q21 q22 q23 q24 q25 q26 q27 q28 q29 q30 q31 q32 r0 r1 r2 r3 r4 r5 r6 r7 r8 r9 r10 r11 r12 r13 r14 r15 r16 r17 r18 r19 r20 r21 r22 r23 r24 r25 r26 r27 r28 r29 r30 r31 r32 R).set 50 (.inr (.inl (1, x))) = (C2 scr q0 q1 q2 q3 q4 q5 q6 q7 q8 q9 q10 q11 q12 q13 q14 q15 q16 q17 q18 q19 q20 q21 q22 q23 q24 q25 q26 q27 q28 q29 q30 q31 q32 r0 r1 r2 r3 r4 r5 r6 r7 r8 r9 r10 r11 r12 r13 r14 r15 r16 r17 r18 r19 r20 r21 r22 x r24 r25 r26 r27 r28 r29 r30 r31 r32 R) := rfl
theorem own_g2_nThreads : getC (C2 scr q0 q1 q2 q3 q4 q5 q6 q7 q8 q9 q10 q11 q12 q13 q14 q15 q16 q17 q18 q19 q20 q21 q22 q23 q24 q25 q26 q27 q28 q29 q30 q31 q32 r0 r1 r2 r3 r4 r5 r6 r7 r8 r9 r10 r11 r12 r13 r14 r15 r16 r17 r18 r19 r20 r21 r22 r23 r24 r25 r26 r27 r28 r29 r30 r31 r32 R) 26 24 = some (.int r24) := rfl
theorem own_p2_nThreads {k : Nat} {x : Int32} : putC own_P k (C2 scr q0 q1 q2 q3 q4 q5 q6 q7 q8 q9 q10 q11 q12 q13 q14 q15 q16 q17 q18 q19 q20 q21 q22 q23 q24 q25 q26 q27 q28 q29 q30 q31 q32 r0 r1 r2 r3 r4 r5 r6 r7 r8 r9 r10 r11 r12 r13 r14 r15 r16 r17 r18 r19 r20 r21 r22 r23 r24 r25 r26 r27 r28 r29 r30 r31 r32 R) 26 24 (.int x) = some (C2 scr q0 q1 q2 q3 q4 q5 q6 q7 q8 q9 q10 q11 q12 q13 q14 q15 q16 q17 q18 q19 q20 q21 q22 q23 q24 q25 q26 q27 q28 q29 q30 q31 q32 r0 r1 r2 r3 r4 r5 r6 r7 r8 r9 r10 r11 r12 r13 r14 r15 r16 r17 r18 r19 r20 r21 r22 r23 x r25 r26 r27 r28 r29 r30 r31 r32 R) := rfl
theorem own_g2_cap : getC (C2 scr q0 q1 q2 q3 q4 q5 q6 q7 q8 q9 q10 q11 q12 q13 q14 q15 q16 q17 q18 q19 q20 q21 q22 q23 q24 q25 q26 q27 q28 q29 q30 q31 q32 r0 r1 r2 r3 r4 r5 r6 r7 r8 r9 r10 r11 r12 r13 r14 r15 r16 r17 r18 r19 r20 r21 r22 r23 r24 r25 r26 r27 r28 r29 r30 r31 r32 R) 26 25 = some (.int r25) := rfl
theorem own_p2_cap {k : Nat} {x : Int32} : putC own_P k (C2 scr q0 q1 q2 q3 q4 q5 q6 q7 q8 q9 q10 q11 q12 q13 q14 q15 q16 q17 q18 q19 q20 q21 q22 q23 q24 q25 q26 q27 q28 q29 q30 q31 q32 r0 r1 r2 r3 r4 r5 r6 r7 r8 r9 r10 r11 r12 r13 r14 r15 r16 r17 r18 r19 r20 r21 r22 r23 r24 r25 r26 r27 r28 r29 r30 r31 r32 R) 26 25 (.int x) = some (C2 scr q0 q1 q2 q3 q4 q5 q6 q7 q8 q9 q10 q11 q12 q13 q14 q15 q16 q17 q18 q19 q20 q21 q22 q23 q24 q25 q26 q27 q28 q29 q30 q31 q32 r0 r1 r2 r3 r4 r5 r6 r7 r8 r9 r10 r11 r12 r13 r14 r15 r16 r17 r18 r19 r20 r21 r22 r23 r24 x r26 r27 r28 r29 r30 r31 r32 R) := rfl
theorem own_g2_mask : getC (C2 scr q0 q1 q2 q3 q4 q5 q6 q7 q8 q9 q10 q11 q12 q13 q14 q15 q16 q17 q18 q19 q20 q21 q22 q23 q24 q25 q26 q27 q28 q29 q30 q31 q32 r0 r1 r2 r3 r4 r5 r6 r7 r8 r9 r10 r11 r12 r13 r14 r15 r16 r17 r18 r19 r20 r21 r22 r23 r24 r25 r26 r27 r28 r29 r30 r31 r32 R) 26 26 = some (.int r26) := rfl
theorem own_p2_mask {k : Nat} {x : Int32} : putC own_P k (C2 scr q0 q1 q2 q3 q4 q5 q6 q7 q8 q9 q10 q11 q12 q13 q14 q15 q16 q17 q18 q19 q20 q21 q22 q23 q24 q25 q26 q27 q28 q29 q30 q31 q32 r0 r1 r2 r3 r4 r5 r6 r7 r8 r9 r10 r11 r12 r13 r14 r15 r16 r17 r18 r19 r20 r21 r22 r23 r24 r25 r26 r27 r28 r29 r30 r31 r32 R) 26 26 (.int x) = some (C2 scr q0 q1 q2 q3 q4 q5 q6 q7 q8 q9 q10 q11 q12 q13 q14 q15 q16 q17 q18 q19 q20 q21 q22 q23 q24 q25 q26 q27 q28 q29 q30 q31 q32 r0 r1 r2 r3 r4 r5 r6 r7 r8 r9 r10 r11 r12 r13 r14 r15 r16 r17 r18 r19 r20 r21 r22 r23 r24 r25 x r27 r28 r29 r30 r31 r32 R) := rfl
theorem own_g2_head : getC (C2 scr q0 q1 q2 q3 q4 q5 q6 q7 q8 q9 q10 q11 q12 q13 q14 q15 q16 q17 q18 q19 q20 q21 q22 q23 q24 q25 q26 q27 q28 q29 q30 q31 q32 r0 r1 r2 r3 r4 r5 r6 r7 r8 r9 r10 r11 r12 r13 r14 r15 r16 r17 r18 r19 r20 r21 r22 r23 r24 r25 r26 r27 r28 r29 r30 r31 r32 R) 26 27 = some (.int r27) := rfl
theorem own_p2_head {k : Nat} {x : Int32} : putC own_P k (C2 scr q0 q1 q2 q3 q4 q5 q6 q7 q8 q9 q10 q11 q12 q13 q14 q15 q16 q17 q18 q19 q20 q21 q22 q23 q24 q25 q26 q27 q28 q29 q30 q31 q32 r0 r1 r2 r3 r4 r5 r6 r7 r8 r9 r10 r11 r12 r13 r14 r15 r16 r17 r18 r19 r20 r21 r22 r23 r24 r25 r26 r27 r28 r29 r30 r31 r32 R) 26 27 (.int x) = some (C2 scr q0 q1 q2 q3 q4 q5 q6 q7 q8 q9 q10 q11 q12 q13 q14 q15 q16 q17 q18 q19 q20 q21 q22 q23 q24 q25 q26 q27 q28 q29 q30 q31 q32 r0 r1 r2 r3 r4 r5 r6 r7 r8 r9 r10 r11 r12 r13 r14 r15 r16 r17 r18 r19 r20 r21 r22 r23 r24 r25 r26 x r28 r29 r30 r31 r32 R) := rfl
theorem own_g2_tail : getC (C2 scr q0 q1 q2 q3 q4 q5 q6 q7 q8 q9 q10 q11 q12 q13 q14 q15 q16 q17 q18 q19 q20 q21 q22 q23 q24 q25 q26 q27 q28 q29 q30 q31 q32 r0 r1 r2 r3 r4 r5 r6 r7 r8 r9 r10 r11 r12 r13 r14 r15 r16 r17 r18 r19 r20 r21 r22 r23 r24 r25 r26 r27 r28 r29 r30 r31 r32 R) 26 28 = some (.int r28) := rfl
theorem own_p2_tail {k : Nat} {x : Int32} : putC own_P k (C2 scr q0 q1 q2 q3 q4 q5 q6 q7 q8 q9 q10 q11 q12 q13 q14 q15 q16 q17 q18 q19 q20 q21 q22 q23 q24 q25 q26 q27 q28 q29 q30 q31 q32 r0 r1 r2 r3 r4 r5 r6 r7 r8 r9 r10 r11 r12 r13 r14 r15 r16 r17 r18 r19 r20 r21 r22 r23 r24 r25 r26 r27 r28 r29 r30 r31 r32 R) 26 28 (.int x) = some (C2 scr q0 q1 q2 q3 q4 q5 q6 q7 q8 q9 q10 q11 q12 q13 q14 q15 q16 q17 q18 q19 q20 q21 q22 q23 q24 q25 q26 q27 q28 q29 q30 q31 q32 r0 r1 r2 r3 r4 r5 r6 r7 r8 r9 r10 r11 r12 r13 r14 r15 r16 r17 r18 r19 r20 r21 r22 r23 r24 r25 r26 r27 x r29 r30 r31 r32 R) := rfl
theorem own_g2_histLen : getC (C2 scr q0 q1 q2 q3 q4 q5 q6 q7 q8 q9 q10 q11 q12 q13 q14 q15 q16 q17 q18 q19 q20 q21 q22 q23 q24 q25 q26 q27 q28 q29 q30 q31 q32 r0 r1 r2 r3 r4 r5 r6 r7 r8 r9 r10 r11 r12 r13 r14 r15 r16 r17 r18 r19 r20 r21 r22 r23 r24 r25 r26 r27 r28 r29 r30 r31 r32 R) 26 29 = some (.int r29) := rfl
theorem own_p2_histLen {k : Nat} {x : Int32} : putC own_P k (C2 scr q0 q1 q2 q3 q4 q5 q6 q7 q8 q9 q10 q11 q12 q13 q14 q15 q16 q17 q18 q19 q20 q21 q22 q23 q24 q25 q26 q27 q28 q29 q30 q31 q32 r0 r1 r2 r3 r4 r5 r6 r7 r8 r9 r10 r11 r12 r13 r14 r15 r16 r17 r18 r19 r20 r21 r22 r23 r24 r25 r26 r27 r28 r29 r30 r31 r32 R) 26 29 (.int x) = some (C2 scr q0 q1 q2 q3 q4 q5 q6 q7 q8 q9 q10 q11 q12 q13 q14 q15 q16 q17 q18 q19 q20 q21 q22 q23 q24 q25 q26 q27 q28 q29 q30 q31 q32 r0 r1 r2 r3 r4 r5 r6 r7 r8 r9 r10 r11 r12 r13 r14 r15 r16 r17 r18 r19 r20 r21 r22 r23 r24 r25 r26 r27 r28 x r30 r31 r32 R) := rfl
theorem own_g2_snapLen : getC (C2 scr q0 q1 q2 q3 q4 q5 q6 q7 q8 q9 q10 q11 q12 q13 q14 q15 q16 q17 q18 q19 q20 q21 q22 q23 q24 q25 q26 q27 q28 q29 q30 q31 q32 r0 r1 r2 r3 r4 r5 r6 r7 r8 r9 r10 r11 r12 r13 r14 r15 r16 r17 r18 r19 r20 r21 r22 r23 r24 r25 r26 r27 r28 r29 r30 r31 r32 R) 26 30 = some (.int r30) := rfl
theorem own_p2_snapLen {k : Nat} {x : Int32} : putC own_P k (C2 scr q0 q1 q2 q3 q4 q5 q6 q7 q8 q9 q10 q11 q12 q13 q14 q15 q16 q17 q18 q19 q20 q21 q22 q23 q24 q25 q26 q27 q28 q29 q30 q31 q32 r0 r1 r2 r3 r4 r5 r6 r7 r8 r9 r10 r11 r12 r13 r14 r15 r16 r17 r18 r19 r20 r21 r22 r23 r24 r25 r26 r27 r28 r29 r30 r31 r32 R) 26 30 (.int x) = some (C2 scr q0 q1 q2 q3 q4 q5 q6 q7 q8 q9 q10 q11 q12 q13 q14 q15 q16 q17 q18 q19 q20 q21 q22 q23 q24 q25 q26 q27 q28 q29 q30 q31 q32 r0 r1 r2 r3 r4 r5 r6 r7 r8 r9 r10 r11 r12 r13 r14 r15 r16 r17 r18 r19 r20 r21 r22 r23 r24 r25 r26 r27 r28 r29 x r31 r32 R) := rfl
theorem own_g2_opCount : getC (C2 scr q0 q1 q2 q3 q4 q5 q6 q7 q8 q9 q10 q11 q12 q13 q14 q15 q16 q17 q18 q19 q20 q21 q22 q23 q24 q25 q26 q27 q28 q29 q30 q31 q32 r0 r1 r2 r3 r4 r5 r6 r7 r8 r9 r10 r11 r12 r13 r14 r15 r16 r17 r18 r19 r20 r21 r22 r23 r24 r25 r26 r27 r28 r29 r30 r31 r32 R) 26 31 = some (.int r31) := rfl
theorem own_p2_opCount {k : Nat} {x : Int32} : putC own_P k (C2 scr q0 q1 q2 q3 q4 q5 q6 q7 q8 q9 q10 q11 q12 q13 q14 q15 q16 q17 q18 q19 q20 q21 q22 q23 q24 q25 q26 q27 q28 q29 q30 q31 q32 r0 r1 r2 r3 r4 r5 r6 r7 r8 r9 r10 r11 r12 r13 r14 r15 r16 r17 r18 r19 r20 r21 r22 r23 r24 r25 r26 r27 r28 r29 r30 r31 r32 R) 26 31 (.int x) = some (C2 scr q0 q1 q2 q3 q4 q5 q6 q7 q8 q9 q10 q11 q12 q13 q14 q15 q16 q17 q18 q19 q20 q21 q22 q23 q24 q25 q26 q27 q28 q29 q30 q31 q32 r0 r1 r2 r3 r4 r5 r6 r7 r8 r9 r10 r11 r12 r13 r14 r15 r16 r17 r18 r19 r20 r21 r22 r23 r24 r25 r26 r27 r28 r29 r30 x r32 R) := rfl
theorem own_g2_completeMask : getC (C2 scr q0 q1 q2 q3 q4 q5 q6 q7 q8 q9 q10 q11 q12 q13 q14 q15 q16 q17 q18 q19 q20 q21 q22 q23 q24 q25 q26 q27 q28 q29 q30 q31 q32 r0 r1 r2 r3 r4 r5 r6 r7 r8 r9 r10 r11 r12 r13 r14 r15 r16 r17 r18 r19 r20 r21 r22 r23 r24 r25 r26 r27 r28 r29 r30 r31 r32 R) 26 32 = some (.int r32) := rfl
theorem own_p2_completeMask {k : Nat} {x : Int32} : putC own_P k (C2 scr q0 q1 q2 q3 q4 q5 q6 q7 q8 q9 q10 q11 q12 q13 q14 q15 q16 q17 q18 q19 q20 q21 q22 q23 q24 q25 q26 q27 q28 q29 q30 q31 q32 r0 r1 r2 r3 r4 r5 r6 r7 r8 r9 r10 r11 r12 r13 r14 r15 r16 r17 r18 r19 r20 r21 r22 r23 r24 r25 r26 r27 r28 r29 r30 r31 r32 R) 26 32 (.int x) = some (C2 scr q0 q1 q2 q3 q4 q5 q6 q7 q8 q9 q10 q11 q12 q13 q14 q15 q16 q17 q18 q19 q20 q21 q22 q23 q24 q25 q26 q27 q28 q29 q30 q31 q32 r0 r1 r2 r3 r4 r5 r6 r7 r8 r9 r10 r11 r12 r13 r14 r15 r16 r17 r18 r19 r20 r21 r22 r23 r24 r25 r26 r27 r28 r29 r30 r31 x R) := rfl
end own_vs
def Q.len (s : Q) : List Nat := [s.f0.length, s.f1.length, s.f2.length, s.f3.length, s.f4.length, s.f5.length, s.f6.length, s.f7.length, s.f8.length, s.f9.length, s.f10.length, s.f11.length, s.f12.length, s.f13.length, s.f14.length, s.f15.length, s.f16.length, s.f17.length, s.f18.length, s.f19.length, s.f20.length, s.f21.length, s.f22.length, s.f23.length]
theorem own_lenmk {q0 q1 q2 q3 q4 q5 q6 q7 q8 q9 q10 q11 q12 q13 q14 q15 q16 q17 q18 q19 q20 q21 q22 q23 : List Int32} {q24 q25 q26 q27 q28 q29 q30 q31 q32 : Int32} : (Q.mk q0 q1 q2 q3 q4 q5 q6 q7 q8 q9 q10 q11 q12 q13 q14 q15 q16 q17 q18 q19 q20 q21 q22 q23 q24 q25 q26 q27 q28 q29 q30 q31 q32).len = [q0.length, q1.length, q2.length, q3.length, q4.length, q5.length, q6.length, q7.length, q8.length, q9.length, q10.length, q11.length, q12.length, q13.length, q14.length, q15.length, q16.length, q17.length, q18.length, q19.length, q20.length, q21.length, q22.length, q23.length] := by have _h := trivial; exact rfl
theorem own_objN : own_P.objN = 33 := rfl
theorem own_mk1 {scr q0 q1 q2 q3 q4 q5 q6 q7 q8 q9 q10 q11 q12 q13 q14 q15 q16 q17 q18 q19 q20 q21 q22 q23 : List Int32} {q24 q25 q26 q27 q28 q29 q30 q31 q32 : Int32} {R : AHeap} : W1 scr (Q.mk q0 q1 q2 q3 q4 q5 q6 q7 q8 q9 q10 q11 q12 q13 q14 q15 q16 q17 q18 q19 q20 q21 q22 q23 q24 q25 q26 q27 q28 q29 q30 q31 q32) R = C1 scr q0 q1 q2 q3 q4 q5 q6 q7 q8 q9 q10 q11 q12 q13 q14 q15 q16 q17 q18 q19 q20 q21 q22 q23 q24 q25 q26 q27 q28 q29 q30 q31 q32 R := rfl
theorem own_lo0 {scr : List Int32} {s : Q} {r0 r1 r2 r3 r4 r5 r6 r7 r8 r9 r10 r11 r12 r13 r14 r15 r16 r17 r18 r19 r20 r21 r22 r23 : List Int32} {r24 r25 r26 r27 r28 r29 r30 r31 r32 : Int32} {R : AHeap} : W1 scr s (own_cells2 r0 r1 r2 r3 r4 r5 r6 r7 r8 r9 r10 r11 r12 r13 r14 r15 r16 r17 r18 r19 r20 r21 r22 r23 r24 r25 r26 r27 r28 r29 r30 r31 r32 R) = C2 scr s.f0 s.f1 s.f2 s.f3 s.f4 s.f5 s.f6 s.f7 s.f8 s.f9 s.f10 s.f11 s.f12 s.f13 s.f14 s.f15 s.f16 s.f17 s.f18 s.f19 s.f20 s.f21 s.f22 s.f23 s.f24 s.f25 s.f26 s.f27 s.f28 s.f29 s.f30 s.f31 s.f32 r0 r1 r2 r3 r4 r5 r6 r7 r8 r9 r10 r11 r12 r13 r14 r15 r16 r17 r18 r19 r20 r21 r22 r23 r24 r25 r26 r27 r28 r29 r30 r31 r32 R := rfl
theorem own_lo1 {scr q0 q1 q2 q3 q4 q5 q6 q7 q8 q9 q10 q11 q12 q13 q14 q15 q16 q17 q18 q19 q20 q21 q22 q23 : List Int32} {q24 q25 q26 q27 q28 q29 q30 q31 q32 : Int32} {r0 r1 r2 r3 r4 r5 r6 r7 r8 r9 r10 r11 r12 r13 r14 r15 r16 r17 r18 r19 r20 r21 r22 r23 : List Int32} {r24 r25 r26 r27 r28 r29 r30 r31 r32 : Int32} {R : AHeap} : W1 scr (Q.mk q0 q1 q2 q3 q4 q5 q6 q7 q8 q9 q10 q11 q12 q13 q14 q15 q16 q17 q18 q19 q20 q21 q22 q23 q24 q25 q26 q27 q28 q29 q30 q31 q32) (own_cells2 r0 r1 r2 r3 r4 r5 r6 r7 r8 r9 r10 r11 r12 r13 r14 r15 r16 r17 r18 r19 r20 r21 r22 r23 r24 r25 r26 r27 r28 r29 r30 r31 r32 R) = C2 scr q0 q1 q2 q3 q4 q5 q6 q7 q8 q9 q10 q11 q12 q13 q14 q15 q16 q17 q18 q19 q20 q21 q22 q23 q24 q25 q26 q27 q28 q29 q30 q31 q32 r0 r1 r2 r3 r4 r5 r6 r7 r8 r9 r10 r11 r12 r13 r14 r15 r16 r17 r18 r19 r20 r21 r22 r23 r24 r25 r26 r27 r28 r29 r30 r31 r32 R := rfl
theorem own_hszQ {scr : List Int32} {s : Q} (h : Q.len s = Q.len Q0) : hsz own_P (W1 scr s []) = 396 := by
  simp only [Q.len, own_z_seq, own_z_val, own_z_st, own_z_locP, own_z_locV, own_z_lastSt, own_z_lastVal, own_z_logKind, own_z_evKind, own_z_evThread, own_z_evVal, own_z_snap, own_z_opKind, own_z_opArg, own_z_opInv, own_z_opRes, own_z_opStatus, own_z_opRVal, own_z_predMask, own_z_openOp, own_z_qBuf, own_z_qLen, own_z_nextCand, own_z_chosen, List.length_replicate, List.cons.injEq, and_true] at h
  obtain ⟨h0, h1, h2, h3, h4, h5, h6, h7, h8, h9, h10, h11, h12, h13, h14, h15, h16, h17, h18, h19, h20, h21, h22, h23⟩ := h
  simp only [C1, own_cells1, hsz, csz, own_objN, h0, h1, h2, h3, h4, h5, h6, h7, h8, h9, h10, h11, h12, h13, h14, h15, h16, h17, h18, h19, h20, h21, h22, h23]
theorem own_mk2_10 {scr q0 q1 q2 q3 q4 q5 q6 q7 q8 q9 q10 q11 q12 q13 q14 q15 q16 q17 q18 q19 q20 q21 q22 q23 : List Int32} {q24 q25 q26 q27 q28 q29 q30 q31 q32 : Int32} {u : Q} {R : AHeap} : W2 scr (Q.mk q0 q1 q2 q3 q4 q5 q6 q7 q8 q9 q10 q11 q12 q13 q14 q15 q16 q17 q18 q19 q20 q21 q22 q23 q24 q25 q26 q27 q28 q29 q30 q31 q32) u R = C2 scr q0 q1 q2 q3 q4 q5 q6 q7 q8 q9 q10 q11 q12 q13 q14 q15 q16 q17 q18 q19 q20 q21 q22 q23 q24 q25 q26 q27 q28 q29 q30 q31 q32 u.f0 u.f1 u.f2 u.f3 u.f4 u.f5 u.f6 u.f7 u.f8 u.f9 u.f10 u.f11 u.f12 u.f13 u.f14 u.f15 u.f16 u.f17 u.f18 u.f19 u.f20 u.f21 u.f22 u.f23 u.f24 u.f25 u.f26 u.f27 u.f28 u.f29 u.f30 u.f31 u.f32 R := rfl
theorem own_mk2_01 {scr q0 q1 q2 q3 q4 q5 q6 q7 q8 q9 q10 q11 q12 q13 q14 q15 q16 q17 q18 q19 q20 q21 q22 q23 : List Int32} {q24 q25 q26 q27 q28 q29 q30 q31 q32 : Int32} {s : Q} {R : AHeap} : W2 scr s (Q.mk q0 q1 q2 q3 q4 q5 q6 q7 q8 q9 q10 q11 q12 q13 q14 q15 q16 q17 q18 q19 q20 q21 q22 q23 q24 q25 q26 q27 q28 q29 q30 q31 q32) R = C2 scr s.f0 s.f1 s.f2 s.f3 s.f4 s.f5 s.f6 s.f7 s.f8 s.f9 s.f10 s.f11 s.f12 s.f13 s.f14 s.f15 s.f16 s.f17 s.f18 s.f19 s.f20 s.f21 s.f22 s.f23 s.f24 s.f25 s.f26 s.f27 s.f28 s.f29 s.f30 s.f31 s.f32 q0 q1 q2 q3 q4 q5 q6 q7 q8 q9 q10 q11 q12 q13 q14 q15 q16 q17 q18 q19 q20 q21 q22 q23 q24 q25 q26 q27 q28 q29 q30 q31 q32 R := rfl
theorem own_mk2_11 {scr q0 q1 q2 q3 q4 q5 q6 q7 q8 q9 q10 q11 q12 q13 q14 q15 q16 q17 q18 q19 q20 q21 q22 q23 : List Int32} {q24 q25 q26 q27 q28 q29 q30 q31 q32 : Int32} {r0 r1 r2 r3 r4 r5 r6 r7 r8 r9 r10 r11 r12 r13 r14 r15 r16 r17 r18 r19 r20 r21 r22 r23 : List Int32} {r24 r25 r26 r27 r28 r29 r30 r31 r32 : Int32} {R : AHeap} : W2 scr (Q.mk q0 q1 q2 q3 q4 q5 q6 q7 q8 q9 q10 q11 q12 q13 q14 q15 q16 q17 q18 q19 q20 q21 q22 q23 q24 q25 q26 q27 q28 q29 q30 q31 q32) (Q.mk r0 r1 r2 r3 r4 r5 r6 r7 r8 r9 r10 r11 r12 r13 r14 r15 r16 r17 r18 r19 r20 r21 r22 r23 r24 r25 r26 r27 r28 r29 r30 r31 r32) R = C2 scr q0 q1 q2 q3 q4 q5 q6 q7 q8 q9 q10 q11 q12 q13 q14 q15 q16 q17 q18 q19 q20 q21 q22 q23 q24 q25 q26 q27 q28 q29 q30 q31 q32 r0 r1 r2 r3 r4 r5 r6 r7 r8 r9 r10 r11 r12 r13 r14 r15 r16 r17 r18 r19 r20 r21 r22 r23 r24 r25 r26 r27 r28 r29 r30 r31 r32 R := rfl
theorem own_hszT {scr : List Int32} {s : Q} {T : AHeap} : hsz own_P (W1 scr s T) = hsz own_P (W1 scr s []) + hsz own_P T := by
  have e : W1 scr s T = W1 scr s [] ++ T := rfl
  rw [e, hsz_append]
def j_clamp (v1 v2 v3 : Int32) : Int32 := (if v1 < v2 then (v2) else (if v3 < v1 then (v3) else (v1)))
set_option maxRecDepth 100000 in
theorem ev_j_clamp (H : AHeap) (a : Nat) (v1 v2 v3 : Int32) {res : Int32} {out : Option Value × AHeap} (h : j_clamp v1 v2 v3 = res) (hk : out = (some (.int res), H)) : Eval own_P 2 0 [some (.ref a), some (.int v1), some (.int v2), some (.int v3)] [] H out := by
 rw [j_clamp] at h
 refine Eval.iload_n rfl rfl ?_
 refine Eval.iload_n rfl rfl ?_
 by_cases hc1 : v1 < v2
 ·rw [if_pos hc1] at h
  refine Eval.icmpF rfl (tlt hc1).2.1 ?_
  refine Eval.iload_n rfl rfl ?_
  subst h
  subst hk
  exact Eval.ret rfl rfl
 ·rw [if_neg hc1] at h
  refine Eval.icmpT (t := 7) rfl rfl (flt hc1).2.1 ?_
  refine Eval.iload_n rfl rfl ?_
  refine Eval.iload_n rfl rfl ?_
  by_cases hc2 : v3 < v1
  ·rw [if_pos hc2] at h
   refine Eval.icmpF rfl (tlt hc2).2.2.2 ?_
   refine Eval.iload_n rfl rfl ?_
   subst h
   subst hk
   exact Eval.ret rfl rfl
  ·rw [if_neg hc2] at h
   refine Eval.icmpT (t := 14) rfl rfl (flt hc2).2.2.2 ?_
   refine Eval.iload_n rfl rfl ?_
   subst h
   subst hk
   exact Eval.ret rfl rfl
abbrev j_init_l259_K (scr : List Int32) (res : (Q) ⊕ (Q)) (out : Option Value × AHeap) : Prop := Sum.elim (fun res => Eval own_P 1 275 [some (.ref 1), none, none, none, none, none, none, none] [] (W1 scr res []) out) (fun res => Eval own_P 1 304 [some (.ref 1), none, none, none, none, none, none, none] [] (W1 scr res []) out) res

abbrev j_init_l259_N (s : Q) (res : (Q) ⊕ (Q)) : Prop := Sum.elim (fun res => Q.len res = Q.len s) (fun res => Q.len res = Q.len s) res
def j_init_l259 : Nat → Q → Int32 → Int32 → Option ((Q) ⊕ (Q))
  | 0, _, _, _ => none
  | n + 1, s, v6, v7 => (if v7 < (8:Int32) then (if v7 < s.f25 then (if inb s.f0.length ((v6 + v7) &&& s.f26) = true then (j_init_l259 n (Q.mk (wr s.f0 ((v6 + v7) &&& s.f26) (v6 + v7)) s.f1 s.f2 s.f3 s.f4 s.f5 s.f6 s.f7 s.f8 s.f9 s.f10 s.f11 s.f12 s.f13 s.f14 s.f15 s.f16 s.f17 s.f18 s.f19 s.f20 s.f21 s.f22 s.f23 s.f24 s.f25 s.f26 s.f27 s.f28 s.f29 s.f30 s.f31 s.f32) v6 (v7 + (1:Int32))) else none) else some (.inl (s))) else some (.inr (s)))
theorem ln_j_init_l259 : ∀ {n : Nat} {s : Q} {v6 v7 : Int32} {res : (Q) ⊕ (Q)}, j_init_l259 n s v6 v7 = some res → j_init_l259_N s res := by
  intro n
  induction n with
  | zero => intro _ _ _ res h; cases h
  | succ n hrec0 =>
    have hrec : ∀ (s : Q) (v6 v7 : Int32) {res : (Q) ⊕ (Q)}, j_init_l259 n s v6 v7 = some res → j_init_l259_N s res := by intros; apply hrec0; assumption
    intro s v6 v7 res h
    rw [j_init_l259] at h
    by_cases hc3 : v7 < (8:Int32)
    · rw [if_pos hc3] at h
      by_cases hc4 : v7 < s.f25
      · rw [if_pos hc4] at h
        obtain ⟨hb5, h⟩ := ite_some h
        have hz := hrec _ _ _ h
        rcases res with res | res
        · exact Eq.trans hz (Eq.trans (show Q.len (Q.mk (wr s.f0 ((v6 + v7) &&& s.f26) (v6 + v7)) s.f1 s.f2 s.f3 s.f4 s.f5 s.f6 s.f7 s.f8 s.f9 s.f10 s.f11 s.f12 s.f13 s.f14 s.f15 s.f16 s.f17 s.f18 s.f19 s.f20 s.f21 s.f22 s.f23 s.f24 s.f25 s.f26 s.f27 s.f28 s.f29 s.f30 s.f31 s.f32) = Q.len s from own_lenmk.trans (by first | (simp only [len_wr, len_wrL] <;> rfl) | rfl)) rfl)
        · exact Eq.trans hz (Eq.trans (show Q.len (Q.mk (wr s.f0 ((v6 + v7) &&& s.f26) (v6 + v7)) s.f1 s.f2 s.f3 s.f4 s.f5 s.f6 s.f7 s.f8 s.f9 s.f10 s.f11 s.f12 s.f13 s.f14 s.f15 s.f16 s.f17 s.f18 s.f19 s.f20 s.f21 s.f22 s.f23 s.f24 s.f25 s.f26 s.f27 s.f28 s.f29 s.f30 s.f31 s.f32) = Q.len s from own_lenmk.trans (by first | (simp only [len_wr, len_wrL] <;> rfl) | rfl)) rfl)
      · rw [if_neg hc4] at h
        have hr0 := Option.some.inj h
        subst hr0
        show Q.len s = _
        exact rfl
    · rw [if_neg hc3] at h
      have hr0 := Option.some.inj h
      subst hr0
      show Q.len s = _
      exact rfl
set_option maxRecDepth 100000 in
theorem ev_j_init_l259 (scr : List Int32) : ∀ (n : Nat) (s : Q) (v6 v7 : Int32) {res : (Q) ⊕ (Q)} {out : Option Value × AHeap}, j_init_l259 n s v6 v7 = some res → j_init_l259_K scr res out → Eval own_P 1 259 [some (.ref 1), none, none, none, none, none, some (.int v6), some (.int v7)] [] (W1 scr s []) out := by
 intro n
 induction n with
 | zero => intro _ _ _ res out h hk; cases h
 | succ n hrec =>
  intro s v6 v7 res out h hk
  rw [j_init_l259] at h
  refine Eval.iload rfl rfl ?_
  refine Eval.bipush (x := 8) rfl rfl ?_
  by_cases hc3 : v7 < (8:Int32)
  ·rw [if_pos hc3] at h
   refine Eval.icmpF rfl (tlt hc3).2.1 ?_
   refine Eval.iload rfl rfl ?_
   refine Eval.aload_n rfl rfl ?_
   refine Eval.getfield rfl rfl own_g1_cap ?_
   by_cases hc4 : v7 < s.f25
   ·rw [if_pos hc4] at h
    refine Eval.icmpT (t := 278) rfl rfl (tlt hc4).1 ?_
    refine Eval.aload_n rfl rfl ?_
    refine Eval.getfield rfl rfl own_g1_seq ?_
    refine Eval.iload rfl rfl ?_
    refine Eval.iload rfl rfl ?_
    refine Eval.iadd rfl ?_
    refine Eval.aload_n rfl rfl ?_
    refine Eval.getfield rfl rfl own_g1_mask ?_
    refine Eval.iand rfl ?_
    refine Eval.iload rfl rfl ?_
    refine Eval.iload rfl rfl ?_
    refine Eval.iadd rfl ?_
    obtain ⟨hb5, h⟩ := ite_some h
    refine Eval.iastore rfl rfl own_a1_seq hb5 own_s1_seq ?_
    refine Eval.iinc (L' := [some (.ref 1), none, none, none, none, none, some (.int v6), some (.int (v7 + (1:Int32)))]) rfl rfl rfl ?_
    refine Eval.goto (t := 259) rfl rfl ?_
    refine Eval.heap own_mk1 ?_
    exact hrec _ _ _ h hk
   ·rw [if_neg hc4] at h
    refine Eval.icmpF rfl (flt hc4).1 ?_
    cases h
    refine Eval.weak (lw_mk 1 _) ?_
    exact hk
  ·rw [if_neg hc3] at h
   refine Eval.icmpT (t := 304) rfl rfl (flt hc3).2.1 ?_
   cases h
   refine Eval.weak (lw_mk 1 _) ?_
   exact hk
def j_init_b304 (s : Q) : Option (Q) := some ((Q.mk s.f0 s.f1 s.f2 s.f3 s.f4 s.f5 s.f6 s.f7 s.f8 s.f9 s.f10 s.f11 s.f12 s.f13 s.f14 s.f15 s.f16 s.f17 s.f18 s.f19 s.f20 s.f21 s.f22 s.f23 s.f24 s.f25 s.f26 s.f27 s.f28 (0:Int32) (0:Int32) s.f31 s.f32))
theorem ln_j_init_b304 {s res : Q} (h : j_init_b304 s = some res) : Q.len res = Q.len s := by
  rw [j_init_b304] at h
  have hr0 := Option.some.inj h
  subst hr0
  show Q.len (Q.mk s.f0 s.f1 s.f2 s.f3 s.f4 s.f5 s.f6 s.f7 s.f8 s.f9 s.f10 s.f11 s.f12 s.f13 s.f14 s.f15 s.f16 s.f17 s.f18 s.f19 s.f20 s.f21 s.f22 s.f23 s.f24 s.f25 s.f26 s.f27 s.f28 (0:Int32) (0:Int32) s.f31 s.f32) = _
  exact (Eq.trans (show Q.len (Q.mk s.f0 s.f1 s.f2 s.f3 s.f4 s.f5 s.f6 s.f7 s.f8 s.f9 s.f10 s.f11 s.f12 s.f13 s.f14 s.f15 s.f16 s.f17 s.f18 s.f19 s.f20 s.f21 s.f22 s.f23 s.f24 s.f25 s.f26 s.f27 s.f28 (0:Int32) (0:Int32) s.f31 s.f32) = Q.len s from own_lenmk.trans (by first | (simp only [len_wr, len_wrL] <;> rfl) | rfl)) rfl)
set_option maxRecDepth 100000 in
theorem ev_j_init_b304 (scr : List Int32) (s : Q) {res : Q} {out : Option Value × AHeap} (h : j_init_b304 s = some res) (hk : out = (none, (W1 scr res []))) : Eval own_P 1 304 [some (.ref 1), none, none, none, none, none, none, none] [] (W1 scr s []) out := by
 rw [j_init_b304] at h
 refine Eval.aload_n rfl rfl ?_
 refine Eval.iconst (x := 0) rfl rfl ?_
 refine Eval.putfield rfl rfl own_p1_histLen ?_
 refine Eval.aload_n rfl rfl ?_
 refine Eval.iconst (x := 0) rfl rfl ?_
 refine Eval.putfield rfl rfl own_p1_snapLen ?_
 cases h
 subst hk
 exact Eval.retH own_mk1 rfl rfl
def j_init_b189 (s : Q) (v1 v2 v3 : Int32) : Option (Q) := ((j_init_l259 3000 (Q.mk s.f0 s.f1 s.f2 s.f3 s.f4 s.f5 s.f6 s.f7 s.f8 s.f9 s.f10 s.f11 s.f12 s.f13 s.f14 s.f15 s.f16 s.f17 s.f18 s.f19 s.f20 s.f21 s.f22 s.f23 (j_clamp v2 (1:Int32) (4:Int32)) (ish (1:Int32) (j_clamp v1 (1:Int32) (3:Int32))) ((ish (1:Int32) (j_clamp v1 (1:Int32) (3:Int32))) - (1:Int32)) ((2147483584:Int32) + (j_clamp v3 (0:Int32) (63:Int32))) ((2147483584:Int32) + (j_clamp v3 (0:Int32) (63:Int32))) s.f29 s.f30 s.f31 s.f32) ((2147483584:Int32) + (j_clamp v3 (0:Int32) (63:Int32))) (0:Int32)).bind fun p6 => Sum.elim (fun p8 => (j_init_b304 p8)) (fun p9 => (j_init_b304 p9)) p6)
theorem ln_j_init_b189 {s : Q} {v1 v2 v3 : Int32} {res : Q} (h : j_init_b189 s v1 v2 v3 = some res) : Q.len res = Q.len s := by
  rw [j_init_b189] at h
  obtain ⟨p6, hq7, h⟩ := bind_some h
  rcases p6 with p8 | p9
  · dsimp only [Sum.elim] at h
    have hl10 : Q.len p8 = _ := Eq.trans (ln_j_init_l259 hq7) (Eq.trans (show Q.len (Q.mk s.f0 s.f1 s.f2 s.f3 s.f4 s.f5 s.f6 s.f7 s.f8 s.f9 s.f10 s.f11 s.f12 s.f13 s.f14 s.f15 s.f16 s.f17 s.f18 s.f19 s.f20 s.f21 s.f22 s.f23 (j_clamp v2 (1:Int32) (4:Int32)) (ish (1:Int32) (j_clamp v1 (1:Int32) (3:Int32))) ((ish (1:Int32) (j_clamp v1 (1:Int32) (3:Int32))) - (1:Int32)) ((2147483584:Int32) + (j_clamp v3 (0:Int32) (63:Int32))) ((2147483584:Int32) + (j_clamp v3 (0:Int32) (63:Int32))) s.f29 s.f30 s.f31 s.f32) = Q.len s from own_lenmk.trans (by first | (simp only [len_wr, len_wrL] <;> rfl) | rfl)) rfl)
    exact Eq.trans (ln_j_init_b304 h) hl10
  · dsimp only [Sum.elim] at h
    have hl11 : Q.len p9 = _ := Eq.trans (ln_j_init_l259 hq7) (Eq.trans (show Q.len (Q.mk s.f0 s.f1 s.f2 s.f3 s.f4 s.f5 s.f6 s.f7 s.f8 s.f9 s.f10 s.f11 s.f12 s.f13 s.f14 s.f15 s.f16 s.f17 s.f18 s.f19 s.f20 s.f21 s.f22 s.f23 (j_clamp v2 (1:Int32) (4:Int32)) (ish (1:Int32) (j_clamp v1 (1:Int32) (3:Int32))) ((ish (1:Int32) (j_clamp v1 (1:Int32) (3:Int32))) - (1:Int32)) ((2147483584:Int32) + (j_clamp v3 (0:Int32) (63:Int32))) ((2147483584:Int32) + (j_clamp v3 (0:Int32) (63:Int32))) s.f29 s.f30 s.f31 s.f32) = Q.len s from own_lenmk.trans (by first | (simp only [len_wr, len_wrL] <;> rfl) | rfl)) rfl)
    exact Eq.trans (ln_j_init_b304 h) hl11
set_option maxRecDepth 100000 in
theorem ev_j_init_b189 (scr : List Int32) (s : Q) (v1 v2 v3 : Int32) {res : Q} {out : Option Value × AHeap} (h : j_init_b189 s v1 v2 v3 = some res) (hk : out = (none, (W1 scr res []))) : Eval own_P 1 189 [some (.ref 1), some (.int v1), some (.int v2), some (.int v3), none, none, none, none] [] (W1 scr s []) out := by
 rw [j_init_b189] at h
 refine Eval.aload_n rfl rfl ?_
 refine Eval.iload_n rfl rfl ?_
 refine Eval.iconst (x := 1) rfl rfl ?_
 refine Eval.iconst (x := 3) rfl rfl ?_
 refine Eval.callI (rest := []) (x := (j_clamp v1 (1:Int32) (3:Int32))) (H1 := (W1 scr s [])) rfl rfl (ev_j_clamp (W1 scr s []) 1 v1 (1:Int32) (3:Int32) rfl rfl) ?_
 refine Eval.istore (L' := [some (.ref 1), some (.int v1), some (.int v2), some (.int v3), some (.int (j_clamp v1 (1:Int32) (3:Int32))), none, none, none]) rfl rfl ?_
 refine Eval.aload_n rfl rfl ?_
 refine Eval.aload_n rfl rfl ?_
 refine Eval.iload_n rfl rfl ?_
 refine Eval.iconst (x := 1) rfl rfl ?_
 refine Eval.iconst (x := 4) rfl rfl ?_
 refine Eval.callI (rest := [.ref 1]) (x := (j_clamp v2 (1:Int32) (4:Int32))) (H1 := (W1 scr s [])) rfl rfl (ev_j_clamp (W1 scr s []) 1 v2 (1:Int32) (4:Int32) rfl rfl) ?_
 refine Eval.putfield rfl rfl own_p1_nThreads ?_
 refine Eval.aload_n rfl rfl ?_
 refine Eval.iload_n rfl rfl ?_
 refine Eval.iconst (x := 0) rfl rfl ?_
 refine Eval.bipush (x := 63) rfl rfl ?_
 refine Eval.callI (rest := []) (x := (j_clamp v3 (0:Int32) (63:Int32))) (H1 := (C1 scr s.f0 s.f1 s.f2 s.f3 s.f4 s.f5 s.f6 s.f7 s.f8 s.f9 s.f10 s.f11 s.f12 s.f13 s.f14 s.f15 s.f16 s.f17 s.f18 s.f19 s.f20 s.f21 s.f22 s.f23 (j_clamp v2 (1:Int32) (4:Int32)) s.f25 s.f26 s.f27 s.f28 s.f29 s.f30 s.f31 s.f32 [])) rfl rfl (ev_j_clamp (C1 scr s.f0 s.f1 s.f2 s.f3 s.f4 s.f5 s.f6 s.f7 s.f8 s.f9 s.f10 s.f11 s.f12 s.f13 s.f14 s.f15 s.f16 s.f17 s.f18 s.f19 s.f20 s.f21 s.f22 s.f23 (j_clamp v2 (1:Int32) (4:Int32)) s.f25 s.f26 s.f27 s.f28 s.f29 s.f30 s.f31 s.f32 []) 1 v3 (0:Int32) (63:Int32) rfl rfl) ?_
 refine Eval.istore (L' := [some (.ref 1), some (.int v1), some (.int v2), some (.int v3), some (.int (j_clamp v1 (1:Int32) (3:Int32))), some (.int (j_clamp v3 (0:Int32) (63:Int32))), none, none]) rfl rfl ?_
 refine Eval.aload_n rfl rfl ?_
 refine Eval.iconst (x := 1) rfl rfl ?_
 refine Eval.iload rfl rfl ?_
 refine Eval.ishl rfl ?_
 refine Eval.putfield rfl rfl own_p1_cap ?_
 refine Eval.aload_n rfl rfl ?_
 refine Eval.aload_n rfl rfl ?_
 refine Eval.getfield rfl rfl own_g1_cap ?_
 refine Eval.iconst (x := 1) rfl rfl ?_
 refine Eval.isub rfl ?_
 refine Eval.putfield rfl rfl own_p1_mask ?_
 refine Eval.ldc (x := 2147483584) rfl rfl ?_
 refine Eval.iload rfl rfl ?_
 refine Eval.iadd rfl ?_
 refine Eval.istore (L' := [some (.ref 1), some (.int v1), some (.int v2), some (.int v3), some (.int (j_clamp v1 (1:Int32) (3:Int32))), some (.int (j_clamp v3 (0:Int32) (63:Int32))), some (.int ((2147483584:Int32) + (j_clamp v3 (0:Int32) (63:Int32)))), none]) rfl rfl ?_
 refine Eval.aload_n rfl rfl ?_
 refine Eval.iload rfl rfl ?_
 refine Eval.putfield rfl rfl own_p1_head ?_
 refine Eval.aload_n rfl rfl ?_
 refine Eval.iload rfl rfl ?_
 refine Eval.putfield rfl rfl own_p1_tail ?_
 refine Eval.iconst (x := 0) rfl rfl ?_
 refine Eval.istore (L' := [some (.ref 1), some (.int v1), some (.int v2), some (.int v3), some (.int (j_clamp v1 (1:Int32) (3:Int32))), some (.int (j_clamp v3 (0:Int32) (63:Int32))), some (.int ((2147483584:Int32) + (j_clamp v3 (0:Int32) (63:Int32)))), some (.int 0)]) rfl rfl ?_
 refine Eval.heap own_mk1 ?_
 refine Eval.weak (lw_mk 193 _) ?_
 obtain ⟨p6, hq7, h⟩ := bind_some h
 rcases p6 with p8 | p9
 ·dsimp only [Sum.elim] at h
  refine ev_j_init_l259 scr _ (Q.mk s.f0 s.f1 s.f2 s.f3 s.f4 s.f5 s.f6 s.f7 s.f8 s.f9 s.f10 s.f11 s.f12 s.f13 s.f14 s.f15 s.f16 s.f17 s.f18 s.f19 s.f20 s.f21 s.f22 s.f23 (j_clamp v2 (1:Int32) (4:Int32)) (ish (1:Int32) (j_clamp v1 (1:Int32) (3:Int32))) ((ish (1:Int32) (j_clamp v1 (1:Int32) (3:Int32))) - (1:Int32)) ((2147483584:Int32) + (j_clamp v3 (0:Int32) (63:Int32))) ((2147483584:Int32) + (j_clamp v3 (0:Int32) (63:Int32))) s.f29 s.f30 s.f31 s.f32) ((2147483584:Int32) + (j_clamp v3 (0:Int32) (63:Int32))) (0:Int32) hq7 ?_
  show Eval own_P 1 275 [some (.ref 1), none, none, none, none, none, none, none] [] (W1 scr p8 []) out
  refine Eval.goto (t := 304) rfl rfl ?_
  exact ev_j_init_b304 scr p8 h hk
 ·dsimp only [Sum.elim] at h
  refine ev_j_init_l259 scr _ (Q.mk s.f0 s.f1 s.f2 s.f3 s.f4 s.f5 s.f6 s.f7 s.f8 s.f9 s.f10 s.f11 s.f12 s.f13 s.f14 s.f15 s.f16 s.f17 s.f18 s.f19 s.f20 s.f21 s.f22 s.f23 (j_clamp v2 (1:Int32) (4:Int32)) (ish (1:Int32) (j_clamp v1 (1:Int32) (3:Int32))) ((ish (1:Int32) (j_clamp v1 (1:Int32) (3:Int32))) - (1:Int32)) ((2147483584:Int32) + (j_clamp v3 (0:Int32) (63:Int32))) ((2147483584:Int32) + (j_clamp v3 (0:Int32) (63:Int32))) s.f29 s.f30 s.f31 s.f32) ((2147483584:Int32) + (j_clamp v3 (0:Int32) (63:Int32))) (0:Int32) hq7 ?_
  show Eval own_P 1 304 [some (.ref 1), none, none, none, none, none, none, none] [] (W1 scr p9 []) out
  exact ev_j_init_b304 scr p9 h hk
def j_init (v1 v2 v3 : Int32) : Option (Q) := (j_init_b189 Q0 v1 v2 v3)
theorem ln_j_init {v1 v2 v3 : Int32} {res : Q} (h : j_init v1 v2 v3 = some res) : Q.len res = Q.len Q0 := by
  rw [j_init] at h
  exact Eq.trans (ln_j_init_b189 h) rfl
set_option maxRecDepth 100000 in
theorem ev_j_init (scr : List Int32) (v1 v2 v3 : Int32) {res : Q} {out : Option Value × AHeap} (h : j_init v1 v2 v3 = some res) (hk : out = (none, (W1 scr res []))) : Eval own_P 1 0 [some (.ref 1), some (.int v1), some (.int v2), some (.int v3), none, none, none, none] [] (W0 scr [.inl (oo 0 0 24 9)]) out := by
 rw [j_init] at h
 refine Eval.aload_n rfl rfl ?_
 refine Eval.objInit rfl rfl ?_
 refine Eval.aload_n rfl rfl ?_
 refine Eval.bipush (x := 8) rfl rfl ?_
 refine Eval.newarray (z := 33) (N := 8) (a := 2) (H1 := (W0 scr [.inl (oo 0 0 24 9), oA 1 8])) rfl rfl rfl rfl rfl (by decide) (by decide) (by unfold W0; simp only [hsz, csz, own_objN, List.length_replicate]) (by decide) rfl ?_
 refine Eval.putfield (H1 := (W0 scr [.inl (oo 2 1 23 9), oA 1 8])) rfl rfl rfl ?_
 refine Eval.aload_n rfl rfl ?_
 refine Eval.bipush (x := 8) rfl rfl ?_
 refine Eval.newarray (z := 41) (N := 8) (a := 3) (H1 := (W0 scr [.inl (oo 2 1 23 9), oA 1 8, oA 1 8])) rfl rfl rfl rfl rfl (by decide) (by decide) (by unfold W0; simp only [hsz, csz, own_objN, List.length_replicate]) (by decide) rfl ?_
 refine Eval.putfield (H1 := (W0 scr [.inl (oo 2 2 22 9), oA 1 8, oA 1 8])) rfl rfl rfl ?_
 refine Eval.aload_n rfl rfl ?_
 refine Eval.iconst (x := 4) rfl rfl ?_
 refine Eval.newarray (z := 49) (N := 4) (a := 4) (H1 := (W0 scr [.inl (oo 2 2 22 9), oA 1 8, oA 1 8, oA 1 4])) rfl rfl rfl rfl rfl (by decide) (by decide) (by unfold W0; simp only [hsz, csz, own_objN, List.length_replicate]) (by decide) rfl ?_
 refine Eval.putfield (H1 := (W0 scr [.inl (oo 2 3 21 9), oA 1 8, oA 1 8, oA 1 4])) rfl rfl rfl ?_
 refine Eval.aload_n rfl rfl ?_
 refine Eval.iconst (x := 4) rfl rfl ?_
 refine Eval.newarray (z := 53) (N := 4) (a := 5) (H1 := (W0 scr [.inl (oo 2 3 21 9), oA 1 8, oA 1 8, oA 1 4, oA 1 4])) rfl rfl rfl rfl rfl (by decide) (by decide) (by unfold W0; simp only [hsz, csz, own_objN, List.length_replicate]) (by decide) rfl ?_
 refine Eval.putfield (H1 := (W0 scr [.inl (oo 2 4 20 9), oA 1 8, oA 1 8, oA 1 4, oA 1 4])) rfl rfl rfl ?_
 refine Eval.aload_n rfl rfl ?_
 refine Eval.iconst (x := 4) rfl rfl ?_
 refine Eval.newarray (z := 57) (N := 4) (a := 6) (H1 := (W0 scr [.inl (oo 2 4 20 9), oA 1 8, oA 1 8, oA 1 4, oA 1 4, oA 1 4])) rfl rfl rfl rfl rfl (by decide) (by decide) (by unfold W0; simp only [hsz, csz, own_objN, List.length_replicate]) (by decide) rfl ?_
 refine Eval.putfield (H1 := (W0 scr [.inl (oo 2 5 19 9), oA 1 8, oA 1 8, oA 1 4, oA 1 4, oA 1 4])) rfl rfl rfl ?_
 refine Eval.aload_n rfl rfl ?_
 refine Eval.iconst (x := 4) rfl rfl ?_
 refine Eval.newarray (z := 61) (N := 4) (a := 7) (H1 := (W0 scr [.inl (oo 2 5 19 9), oA 1 8, oA 1 8, oA 1 4, oA 1 4, oA 1 4, oA 1 4])) rfl rfl rfl rfl rfl (by decide) (by decide) (by unfold W0; simp only [hsz, csz, own_objN, List.length_replicate]) (by decide) rfl ?_
 refine Eval.putfield (H1 := (W0 scr [.inl (oo 2 6 18 9), oA 1 8, oA 1 8, oA 1 4, oA 1 4, oA 1 4, oA 1 4])) rfl rfl rfl ?_
 refine Eval.aload_n rfl rfl ?_
 refine Eval.iconst (x := 4) rfl rfl ?_
 refine Eval.newarray (z := 65) (N := 4) (a := 8) (H1 := (W0 scr [.inl (oo 2 6 18 9), oA 1 8, oA 1 8, oA 1 4, oA 1 4, oA 1 4, oA 1 4, oA 1 4])) rfl rfl rfl rfl rfl (by decide) (by decide) (by unfold W0; simp only [hsz, csz, own_objN, List.length_replicate]) (by decide) rfl ?_
 refine Eval.putfield (H1 := (W0 scr [.inl (oo 2 7 17 9), oA 1 8, oA 1 8, oA 1 4, oA 1 4, oA 1 4, oA 1 4, oA 1 4])) rfl rfl rfl ?_
 refine Eval.aload_n rfl rfl ?_
 refine Eval.iconst (x := 4) rfl rfl ?_
 refine Eval.newarray (z := 69) (N := 4) (a := 9) (H1 := (W0 scr [.inl (oo 2 7 17 9), oA 1 8, oA 1 8, oA 1 4, oA 1 4, oA 1 4, oA 1 4, oA 1 4, oA 1 4])) rfl rfl rfl rfl rfl (by decide) (by decide) (by unfold W0; simp only [hsz, csz, own_objN, List.length_replicate]) (by decide) rfl ?_
 refine Eval.putfield (H1 := (W0 scr [.inl (oo 2 8 16 9), oA 1 8, oA 1 8, oA 1 4, oA 1 4, oA 1 4, oA 1 4, oA 1 4, oA 1 4])) rfl rfl rfl ?_
 refine Eval.aload_n rfl rfl ?_
 refine Eval.bipush (x := 64) rfl rfl ?_
 refine Eval.newarray (z := 73) (N := 64) (a := 10) (H1 := (W0 scr [.inl (oo 2 8 16 9), oA 1 8, oA 1 8, oA 1 4, oA 1 4, oA 1 4, oA 1 4, oA 1 4, oA 1 4, oA 1 64])) rfl rfl rfl rfl rfl (by decide) (by decide) (by unfold W0; simp only [hsz, csz, own_objN, List.length_replicate]) (by decide) rfl ?_
 refine Eval.putfield (H1 := (W0 scr [.inl (oo 2 9 15 9), oA 1 8, oA 1 8, oA 1 4, oA 1 4, oA 1 4, oA 1 4, oA 1 4, oA 1 4, oA 1 64])) rfl rfl rfl ?_
 refine Eval.aload_n rfl rfl ?_
 refine Eval.bipush (x := 64) rfl rfl ?_
 refine Eval.newarray (z := 137) (N := 64) (a := 11) (H1 := (W0 scr [.inl (oo 2 9 15 9), oA 1 8, oA 1 8, oA 1 4, oA 1 4, oA 1 4, oA 1 4, oA 1 4, oA 1 4, oA 1 64, oA 1 64])) rfl rfl rfl rfl rfl (by decide) (by decide) (by unfold W0; simp only [hsz, csz, own_objN, List.length_replicate]) (by decide) rfl ?_
 refine Eval.putfield (H1 := (W0 scr [.inl (oo 2 10 14 9), oA 1 8, oA 1 8, oA 1 4, oA 1 4, oA 1 4, oA 1 4, oA 1 4, oA 1 4, oA 1 64, oA 1 64])) rfl rfl rfl ?_
 refine Eval.aload_n rfl rfl ?_
 refine Eval.bipush (x := 64) rfl rfl ?_
 refine Eval.newarray (z := 201) (N := 64) (a := 12) (H1 := (W0 scr [.inl (oo 2 10 14 9), oA 1 8, oA 1 8, oA 1 4, oA 1 4, oA 1 4, oA 1 4, oA 1 4, oA 1 4, oA 1 64, oA 1 64, oA 1 64])) rfl rfl rfl rfl rfl (by decide) (by decide) (by unfold W0; simp only [hsz, csz, own_objN, List.length_replicate]) (by decide) rfl ?_
 refine Eval.putfield (H1 := (W0 scr [.inl (oo 2 11 13 9), oA 1 8, oA 1 8, oA 1 4, oA 1 4, oA 1 4, oA 1 4, oA 1 4, oA 1 4, oA 1 64, oA 1 64, oA 1 64])) rfl rfl rfl ?_
 refine Eval.aload_n rfl rfl ?_
 refine Eval.bipush (x := 8) rfl rfl ?_
 refine Eval.newarray (z := 265) (N := 8) (a := 13) (H1 := (W0 scr [.inl (oo 2 11 13 9), oA 1 8, oA 1 8, oA 1 4, oA 1 4, oA 1 4, oA 1 4, oA 1 4, oA 1 4, oA 1 64, oA 1 64, oA 1 64, oA 1 8])) rfl rfl rfl rfl rfl (by decide) (by decide) (by unfold W0; simp only [hsz, csz, own_objN, List.length_replicate]) (by decide) rfl ?_
 refine Eval.putfield (H1 := (W0 scr [.inl (oo 2 12 12 9), oA 1 8, oA 1 8, oA 1 4, oA 1 4, oA 1 4, oA 1 4, oA 1 4, oA 1 4, oA 1 64, oA 1 64, oA 1 64, oA 1 8])) rfl rfl rfl ?_
 refine Eval.aload_n rfl rfl ?_
 refine Eval.bipush (x := 6) rfl rfl ?_
 refine Eval.newarray (z := 273) (N := 6) (a := 14) (H1 := (W0 scr [.inl (oo 2 12 12 9), oA 1 8, oA 1 8, oA 1 4, oA 1 4, oA 1 4, oA 1 4, oA 1 4, oA 1 4, oA 1 64, oA 1 64, oA 1 64, oA 1 8, oA 1 6])) rfl rfl rfl rfl rfl (by decide) (by decide) (by unfold W0; simp only [hsz, csz, own_objN, List.length_replicate]) (by decide) rfl ?_
 refine Eval.putfield (H1 := (W0 scr [.inl (oo 2 13 11 9), oA 1 8, oA 1 8, oA 1 4, oA 1 4, oA 1 4, oA 1 4, oA 1 4, oA 1 4, oA 1 64, oA 1 64, oA 1 64, oA 1 8, oA 1 6])) rfl rfl rfl ?_
 refine Eval.aload_n rfl rfl ?_
 refine Eval.bipush (x := 6) rfl rfl ?_
 refine Eval.newarray (z := 279) (N := 6) (a := 15) (H1 := (W0 scr [.inl (oo 2 13 11 9), oA 1 8, oA 1 8, oA 1 4, oA 1 4, oA 1 4, oA 1 4, oA 1 4, oA 1 4, oA 1 64, oA 1 64, oA 1 64, oA 1 8, oA 1 6, oA 1 6])) rfl rfl rfl rfl rfl (by decide) (by decide) (by unfold W0; simp only [hsz, csz, own_objN, List.length_replicate]) (by decide) rfl ?_
 refine Eval.putfield (H1 := (W0 scr [.inl (oo 2 14 10 9), oA 1 8, oA 1 8, oA 1 4, oA 1 4, oA 1 4, oA 1 4, oA 1 4, oA 1 4, oA 1 64, oA 1 64, oA 1 64, oA 1 8, oA 1 6, oA 1 6])) rfl rfl rfl ?_
 refine Eval.aload_n rfl rfl ?_
 refine Eval.bipush (x := 6) rfl rfl ?_
 refine Eval.newarray (z := 285) (N := 6) (a := 16) (H1 := (W0 scr [.inl (oo 2 14 10 9), oA 1 8, oA 1 8, oA 1 4, oA 1 4, oA 1 4, oA 1 4, oA 1 4, oA 1 4, oA 1 64, oA 1 64, oA 1 64, oA 1 8, oA 1 6, oA 1 6, oA 1 6])) rfl rfl rfl rfl rfl (by decide) (by decide) (by unfold W0; simp only [hsz, csz, own_objN, List.length_replicate]) (by decide) rfl ?_
 refine Eval.putfield (H1 := (W0 scr [.inl (oo 2 15 9 9), oA 1 8, oA 1 8, oA 1 4, oA 1 4, oA 1 4, oA 1 4, oA 1 4, oA 1 4, oA 1 64, oA 1 64, oA 1 64, oA 1 8, oA 1 6, oA 1 6, oA 1 6])) rfl rfl rfl ?_
 refine Eval.aload_n rfl rfl ?_
 refine Eval.bipush (x := 6) rfl rfl ?_
 refine Eval.newarray (z := 291) (N := 6) (a := 17) (H1 := (W0 scr [.inl (oo 2 15 9 9), oA 1 8, oA 1 8, oA 1 4, oA 1 4, oA 1 4, oA 1 4, oA 1 4, oA 1 4, oA 1 64, oA 1 64, oA 1 64, oA 1 8, oA 1 6, oA 1 6, oA 1 6, oA 1 6])) rfl rfl rfl rfl rfl (by decide) (by decide) (by unfold W0; simp only [hsz, csz, own_objN, List.length_replicate]) (by decide) rfl ?_
 refine Eval.putfield (H1 := (W0 scr [.inl (oo 2 16 8 9), oA 1 8, oA 1 8, oA 1 4, oA 1 4, oA 1 4, oA 1 4, oA 1 4, oA 1 4, oA 1 64, oA 1 64, oA 1 64, oA 1 8, oA 1 6, oA 1 6, oA 1 6, oA 1 6])) rfl rfl rfl ?_
 refine Eval.aload_n rfl rfl ?_
 refine Eval.bipush (x := 6) rfl rfl ?_
 refine Eval.newarray (z := 297) (N := 6) (a := 18) (H1 := (W0 scr [.inl (oo 2 16 8 9), oA 1 8, oA 1 8, oA 1 4, oA 1 4, oA 1 4, oA 1 4, oA 1 4, oA 1 4, oA 1 64, oA 1 64, oA 1 64, oA 1 8, oA 1 6, oA 1 6, oA 1 6, oA 1 6, oA 1 6])) rfl rfl rfl rfl rfl (by decide) (by decide) (by unfold W0; simp only [hsz, csz, own_objN, List.length_replicate]) (by decide) rfl ?_
 refine Eval.putfield (H1 := (W0 scr [.inl (oo 2 17 7 9), oA 1 8, oA 1 8, oA 1 4, oA 1 4, oA 1 4, oA 1 4, oA 1 4, oA 1 4, oA 1 64, oA 1 64, oA 1 64, oA 1 8, oA 1 6, oA 1 6, oA 1 6, oA 1 6, oA 1 6])) rfl rfl rfl ?_
 refine Eval.aload_n rfl rfl ?_
 refine Eval.bipush (x := 6) rfl rfl ?_
 refine Eval.newarray (z := 303) (N := 6) (a := 19) (H1 := (W0 scr [.inl (oo 2 17 7 9), oA 1 8, oA 1 8, oA 1 4, oA 1 4, oA 1 4, oA 1 4, oA 1 4, oA 1 4, oA 1 64, oA 1 64, oA 1 64, oA 1 8, oA 1 6, oA 1 6, oA 1 6, oA 1 6, oA 1 6, oA 1 6])) rfl rfl rfl rfl rfl (by decide) (by decide) (by unfold W0; simp only [hsz, csz, own_objN, List.length_replicate]) (by decide) rfl ?_
 refine Eval.putfield (H1 := (W0 scr [.inl (oo 2 18 6 9), oA 1 8, oA 1 8, oA 1 4, oA 1 4, oA 1 4, oA 1 4, oA 1 4, oA 1 4, oA 1 64, oA 1 64, oA 1 64, oA 1 8, oA 1 6, oA 1 6, oA 1 6, oA 1 6, oA 1 6, oA 1 6])) rfl rfl rfl ?_
 refine Eval.aload_n rfl rfl ?_
 refine Eval.bipush (x := 6) rfl rfl ?_
 refine Eval.newarray (z := 309) (N := 6) (a := 20) (H1 := (W0 scr [.inl (oo 2 18 6 9), oA 1 8, oA 1 8, oA 1 4, oA 1 4, oA 1 4, oA 1 4, oA 1 4, oA 1 4, oA 1 64, oA 1 64, oA 1 64, oA 1 8, oA 1 6, oA 1 6, oA 1 6, oA 1 6, oA 1 6, oA 1 6, oA 1 6])) rfl rfl rfl rfl rfl (by decide) (by decide) (by unfold W0; simp only [hsz, csz, own_objN, List.length_replicate]) (by decide) rfl ?_
 refine Eval.putfield (H1 := (W0 scr [.inl (oo 2 19 5 9), oA 1 8, oA 1 8, oA 1 4, oA 1 4, oA 1 4, oA 1 4, oA 1 4, oA 1 4, oA 1 64, oA 1 64, oA 1 64, oA 1 8, oA 1 6, oA 1 6, oA 1 6, oA 1 6, oA 1 6, oA 1 6, oA 1 6])) rfl rfl rfl ?_
 refine Eval.aload_n rfl rfl ?_
 refine Eval.iconst (x := 4) rfl rfl ?_
 refine Eval.newarray (z := 315) (N := 4) (a := 21) (H1 := (W0 scr [.inl (oo 2 19 5 9), oA 1 8, oA 1 8, oA 1 4, oA 1 4, oA 1 4, oA 1 4, oA 1 4, oA 1 4, oA 1 64, oA 1 64, oA 1 64, oA 1 8, oA 1 6, oA 1 6, oA 1 6, oA 1 6, oA 1 6, oA 1 6, oA 1 6, oA 1 4])) rfl rfl rfl rfl rfl (by decide) (by decide) (by unfold W0; simp only [hsz, csz, own_objN, List.length_replicate]) (by decide) rfl ?_
 refine Eval.putfield (H1 := (W0 scr [.inl (oo 2 20 4 9), oA 1 8, oA 1 8, oA 1 4, oA 1 4, oA 1 4, oA 1 4, oA 1 4, oA 1 4, oA 1 64, oA 1 64, oA 1 64, oA 1 8, oA 1 6, oA 1 6, oA 1 6, oA 1 6, oA 1 6, oA 1 6, oA 1 6, oA 1 4])) rfl rfl rfl ?_
 refine Eval.aload_n rfl rfl ?_
 refine Eval.bipush (x := 56) rfl rfl ?_
 refine Eval.newarray (z := 319) (N := 56) (a := 22) (H1 := (W0 scr [.inl (oo 2 20 4 9), oA 1 8, oA 1 8, oA 1 4, oA 1 4, oA 1 4, oA 1 4, oA 1 4, oA 1 4, oA 1 64, oA 1 64, oA 1 64, oA 1 8, oA 1 6, oA 1 6, oA 1 6, oA 1 6, oA 1 6, oA 1 6, oA 1 6, oA 1 4, oA 1 56])) rfl rfl rfl rfl rfl (by decide) (by decide) (by unfold W0; simp only [hsz, csz, own_objN, List.length_replicate]) (by decide) rfl ?_
 refine Eval.putfield (H1 := (W0 scr [.inl (oo 2 21 3 9), oA 1 8, oA 1 8, oA 1 4, oA 1 4, oA 1 4, oA 1 4, oA 1 4, oA 1 4, oA 1 64, oA 1 64, oA 1 64, oA 1 8, oA 1 6, oA 1 6, oA 1 6, oA 1 6, oA 1 6, oA 1 6, oA 1 6, oA 1 4, oA 1 56])) rfl rfl rfl ?_
 refine Eval.aload_n rfl rfl ?_
 refine Eval.bipush (x := 7) rfl rfl ?_
 refine Eval.newarray (z := 375) (N := 7) (a := 23) (H1 := (W0 scr [.inl (oo 2 21 3 9), oA 1 8, oA 1 8, oA 1 4, oA 1 4, oA 1 4, oA 1 4, oA 1 4, oA 1 4, oA 1 64, oA 1 64, oA 1 64, oA 1 8, oA 1 6, oA 1 6, oA 1 6, oA 1 6, oA 1 6, oA 1 6, oA 1 6, oA 1 4, oA 1 56, oA 1 7])) rfl rfl rfl rfl rfl (by decide) (by decide) (by unfold W0; simp only [hsz, csz, own_objN, List.length_replicate]) (by decide) rfl ?_
 refine Eval.putfield (H1 := (W0 scr [.inl (oo 2 22 2 9), oA 1 8, oA 1 8, oA 1 4, oA 1 4, oA 1 4, oA 1 4, oA 1 4, oA 1 4, oA 1 64, oA 1 64, oA 1 64, oA 1 8, oA 1 6, oA 1 6, oA 1 6, oA 1 6, oA 1 6, oA 1 6, oA 1 6, oA 1 4, oA 1 56, oA 1 7])) rfl rfl rfl ?_
 refine Eval.aload_n rfl rfl ?_
 refine Eval.bipush (x := 7) rfl rfl ?_
 refine Eval.newarray (z := 382) (N := 7) (a := 24) (H1 := (W0 scr [.inl (oo 2 22 2 9), oA 1 8, oA 1 8, oA 1 4, oA 1 4, oA 1 4, oA 1 4, oA 1 4, oA 1 4, oA 1 64, oA 1 64, oA 1 64, oA 1 8, oA 1 6, oA 1 6, oA 1 6, oA 1 6, oA 1 6, oA 1 6, oA 1 6, oA 1 4, oA 1 56, oA 1 7, oA 1 7])) rfl rfl rfl rfl rfl (by decide) (by decide) (by unfold W0; simp only [hsz, csz, own_objN, List.length_replicate]) (by decide) rfl ?_
 refine Eval.putfield (H1 := (W0 scr [.inl (oo 2 23 1 9), oA 1 8, oA 1 8, oA 1 4, oA 1 4, oA 1 4, oA 1 4, oA 1 4, oA 1 4, oA 1 64, oA 1 64, oA 1 64, oA 1 8, oA 1 6, oA 1 6, oA 1 6, oA 1 6, oA 1 6, oA 1 6, oA 1 6, oA 1 4, oA 1 56, oA 1 7, oA 1 7])) rfl rfl rfl ?_
 refine Eval.aload_n rfl rfl ?_
 refine Eval.bipush (x := 7) rfl rfl ?_
 refine Eval.newarray (z := 389) (N := 7) (a := 25) (H1 := (W0 scr [.inl (oo 2 23 1 9), oA 1 8, oA 1 8, oA 1 4, oA 1 4, oA 1 4, oA 1 4, oA 1 4, oA 1 4, oA 1 64, oA 1 64, oA 1 64, oA 1 8, oA 1 6, oA 1 6, oA 1 6, oA 1 6, oA 1 6, oA 1 6, oA 1 6, oA 1 4, oA 1 56, oA 1 7, oA 1 7, oA 1 7])) rfl rfl rfl rfl rfl (by decide) (by decide) (by unfold W0; simp only [hsz, csz, own_objN, List.length_replicate]) (by decide) rfl ?_
 refine Eval.putfield (H1 := (W0 scr [.inl (oo 2 24 0 9), oA 1 8, oA 1 8, oA 1 4, oA 1 4, oA 1 4, oA 1 4, oA 1 4, oA 1 4, oA 1 64, oA 1 64, oA 1 64, oA 1 8, oA 1 6, oA 1 6, oA 1 6, oA 1 6, oA 1 6, oA 1 6, oA 1 6, oA 1 4, oA 1 56, oA 1 7, oA 1 7, oA 1 7])) rfl rfl rfl ?_
 show Eval own_P 1 189 [some (.ref 1), some (.int v1), some (.int v2), some (.int v3), none, none, none, none] [] (W1 scr Q0 []) out
 exact ev_j_init_b189 scr Q0 v1 v2 v3 h hk
abbrev j_init_l259_K_2 (scr : List Int32) (c1 : Q) (hsz1 : hsz own_P (W1 scr c1 []) = 396) (res : (Q) ⊕ (Q)) (out : Option Value × AHeap) : Prop := Sum.elim (fun res => Eval own_P 1 275 [some (.ref 26), none, none, none, none, none, none, none] [] (W2 scr c1 res []) out) (fun res => Eval own_P 1 304 [some (.ref 26), none, none, none, none, none, none, none] [] (W2 scr c1 res []) out) res

set_option maxRecDepth 100000 in
theorem ev_j_init_l259_2 (scr : List Int32) (c1 : Q) (hsz1 : hsz own_P (W1 scr c1 []) = 396) : ∀ (n : Nat) (s : Q) (v6 v7 : Int32) {res : (Q) ⊕ (Q)} {out : Option Value × AHeap}, j_init_l259 n s v6 v7 = some res → j_init_l259_K_2 scr c1 hsz1 res out → Eval own_P 1 259 [some (.ref 26), none, none, none, none, none, some (.int v6), some (.int v7)] [] (W2 scr c1 s []) out := by
 intro n
 induction n with
 | zero => intro _ _ _ res out h hk; cases h
 | succ n hrec =>
  intro s v6 v7 res out h hk
  rw [j_init_l259] at h
  refine Eval.iload rfl rfl ?_
  refine Eval.bipush (x := 8) rfl rfl ?_
  by_cases hc14 : v7 < (8:Int32)
  ·rw [if_pos hc14] at h
   refine Eval.icmpF rfl (tlt hc14).2.1 ?_
   refine Eval.iload rfl rfl ?_
   refine Eval.aload_n rfl rfl ?_
   refine Eval.getfield rfl rfl own_g2_cap ?_
   by_cases hc15 : v7 < s.f25
   ·rw [if_pos hc15] at h
    refine Eval.icmpT (t := 278) rfl rfl (tlt hc15).1 ?_
    refine Eval.aload_n rfl rfl ?_
    refine Eval.getfield rfl rfl own_g2_seq ?_
    refine Eval.iload rfl rfl ?_
    refine Eval.iload rfl rfl ?_
    refine Eval.iadd rfl ?_
    refine Eval.aload_n rfl rfl ?_
    refine Eval.getfield rfl rfl own_g2_mask ?_
    refine Eval.iand rfl ?_
    refine Eval.iload rfl rfl ?_
    refine Eval.iload rfl rfl ?_
    refine Eval.iadd rfl ?_
    obtain ⟨hb16, h⟩ := ite_some h
    refine Eval.iastore rfl rfl own_a2_seq hb16 own_s2_seq ?_
    refine Eval.iinc (L' := [some (.ref 26), none, none, none, none, none, some (.int v6), some (.int (v7 + (1:Int32)))]) rfl rfl rfl ?_
    refine Eval.goto (t := 259) rfl rfl ?_
    refine Eval.heap own_mk2_01 ?_
    exact hrec _ _ _ h hk
   ·rw [if_neg hc15] at h
    refine Eval.icmpF rfl (flt hc15).1 ?_
    cases h
    refine Eval.weak (lw_mk 1 _) ?_
    exact hk
  ·rw [if_neg hc14] at h
   refine Eval.icmpT (t := 304) rfl rfl (flt hc14).2.1 ?_
   cases h
   refine Eval.weak (lw_mk 1 _) ?_
   exact hk
set_option maxRecDepth 100000 in
theorem ev_j_init_b304_2 (scr : List Int32) (c1 : Q) (hsz1 : hsz own_P (W1 scr c1 []) = 396) (s : Q) {res : Q} {out : Option Value × AHeap} (h : j_init_b304 s = some res) (hk : out = (none, (W2 scr c1 res []))) : Eval own_P 1 304 [some (.ref 26), none, none, none, none, none, none, none] [] (W2 scr c1 s []) out := by
 rw [j_init_b304] at h
 refine Eval.aload_n rfl rfl ?_
 refine Eval.iconst (x := 0) rfl rfl ?_
 refine Eval.putfield rfl rfl own_p2_histLen ?_
 refine Eval.aload_n rfl rfl ?_
 refine Eval.iconst (x := 0) rfl rfl ?_
 refine Eval.putfield rfl rfl own_p2_snapLen ?_
 cases h
 subst hk
 exact Eval.retH own_mk2_01 rfl rfl
set_option maxRecDepth 100000 in
theorem ev_j_init_b189_2 (scr : List Int32) (c1 : Q) (hsz1 : hsz own_P (W1 scr c1 []) = 396) (s : Q) (v1 v2 v3 : Int32) {res : Q} {out : Option Value × AHeap} (h : j_init_b189 s v1 v2 v3 = some res) (hk : out = (none, (W2 scr c1 res []))) : Eval own_P 1 189 [some (.ref 26), some (.int v1), some (.int v2), some (.int v3), none, none, none, none] [] (W2 scr c1 s []) out := by
 rw [j_init_b189] at h
 refine Eval.aload_n rfl rfl ?_
 refine Eval.iload_n rfl rfl ?_
 refine Eval.iconst (x := 1) rfl rfl ?_
 refine Eval.iconst (x := 3) rfl rfl ?_
 refine Eval.callI (rest := []) (x := (j_clamp v1 (1:Int32) (3:Int32))) (H1 := (W2 scr c1 s [])) rfl rfl (ev_j_clamp (W2 scr c1 s []) 26 v1 (1:Int32) (3:Int32) rfl rfl) ?_
 refine Eval.istore (L' := [some (.ref 26), some (.int v1), some (.int v2), some (.int v3), some (.int (j_clamp v1 (1:Int32) (3:Int32))), none, none, none]) rfl rfl ?_
 refine Eval.aload_n rfl rfl ?_
 refine Eval.aload_n rfl rfl ?_
 refine Eval.iload_n rfl rfl ?_
 refine Eval.iconst (x := 1) rfl rfl ?_
 refine Eval.iconst (x := 4) rfl rfl ?_
 refine Eval.callI (rest := [.ref 26]) (x := (j_clamp v2 (1:Int32) (4:Int32))) (H1 := (W2 scr c1 s [])) rfl rfl (ev_j_clamp (W2 scr c1 s []) 26 v2 (1:Int32) (4:Int32) rfl rfl) ?_
 refine Eval.putfield rfl rfl own_p2_nThreads ?_
 refine Eval.aload_n rfl rfl ?_
 refine Eval.iload_n rfl rfl ?_
 refine Eval.iconst (x := 0) rfl rfl ?_
 refine Eval.bipush (x := 63) rfl rfl ?_
 refine Eval.callI (rest := []) (x := (j_clamp v3 (0:Int32) (63:Int32))) (H1 := (C2 scr c1.f0 c1.f1 c1.f2 c1.f3 c1.f4 c1.f5 c1.f6 c1.f7 c1.f8 c1.f9 c1.f10 c1.f11 c1.f12 c1.f13 c1.f14 c1.f15 c1.f16 c1.f17 c1.f18 c1.f19 c1.f20 c1.f21 c1.f22 c1.f23 c1.f24 c1.f25 c1.f26 c1.f27 c1.f28 c1.f29 c1.f30 c1.f31 c1.f32 s.f0 s.f1 s.f2 s.f3 s.f4 s.f5 s.f6 s.f7 s.f8 s.f9 s.f10 s.f11 s.f12 s.f13 s.f14 s.f15 s.f16 s.f17 s.f18 s.f19 s.f20 s.f21 s.f22 s.f23 (j_clamp v2 (1:Int32) (4:Int32)) s.f25 s.f26 s.f27 s.f28 s.f29 s.f30 s.f31 s.f32 [])) rfl rfl (ev_j_clamp (C2 scr c1.f0 c1.f1 c1.f2 c1.f3 c1.f4 c1.f5 c1.f6 c1.f7 c1.f8 c1.f9 c1.f10 c1.f11 c1.f12 c1.f13 c1.f14 c1.f15 c1.f16 c1.f17 c1.f18 c1.f19 c1.f20 c1.f21 c1.f22 c1.f23 c1.f24 c1.f25 c1.f26 c1.f27 c1.f28 c1.f29 c1.f30 c1.f31 c1.f32 s.f0 s.f1 s.f2 s.f3 s.f4 s.f5 s.f6 s.f7 s.f8 s.f9 s.f10 s.f11 s.f12 s.f13 s.f14 s.f15 s.f16 s.f17 s.f18 s.f19 s.f20 s.f21 s.f22 s.f23 (j_clamp v2 (1:Int32) (4:Int32)) s.f25 s.f26 s.f27 s.f28 s.f29 s.f30 s.f31 s.f32 []) 26 v3 (0:Int32) (63:Int32) rfl rfl) ?_
 refine Eval.istore (L' := [some (.ref 26), some (.int v1), some (.int v2), some (.int v3), some (.int (j_clamp v1 (1:Int32) (3:Int32))), some (.int (j_clamp v3 (0:Int32) (63:Int32))), none, none]) rfl rfl ?_
 refine Eval.aload_n rfl rfl ?_
 refine Eval.iconst (x := 1) rfl rfl ?_
 refine Eval.iload rfl rfl ?_
 refine Eval.ishl rfl ?_
 refine Eval.putfield rfl rfl own_p2_cap ?_
 refine Eval.aload_n rfl rfl ?_
 refine Eval.aload_n rfl rfl ?_
 refine Eval.getfield rfl rfl own_g2_cap ?_
 refine Eval.iconst (x := 1) rfl rfl ?_
 refine Eval.isub rfl ?_
 refine Eval.putfield rfl rfl own_p2_mask ?_
 refine Eval.ldc (x := 2147483584) rfl rfl ?_
 refine Eval.iload rfl rfl ?_
 refine Eval.iadd rfl ?_
 refine Eval.istore (L' := [some (.ref 26), some (.int v1), some (.int v2), some (.int v3), some (.int (j_clamp v1 (1:Int32) (3:Int32))), some (.int (j_clamp v3 (0:Int32) (63:Int32))), some (.int ((2147483584:Int32) + (j_clamp v3 (0:Int32) (63:Int32)))), none]) rfl rfl ?_
 refine Eval.aload_n rfl rfl ?_
 refine Eval.iload rfl rfl ?_
 refine Eval.putfield rfl rfl own_p2_head ?_
 refine Eval.aload_n rfl rfl ?_
 refine Eval.iload rfl rfl ?_
 refine Eval.putfield rfl rfl own_p2_tail ?_
 refine Eval.iconst (x := 0) rfl rfl ?_
 refine Eval.istore (L' := [some (.ref 26), some (.int v1), some (.int v2), some (.int v3), some (.int (j_clamp v1 (1:Int32) (3:Int32))), some (.int (j_clamp v3 (0:Int32) (63:Int32))), some (.int ((2147483584:Int32) + (j_clamp v3 (0:Int32) (63:Int32)))), some (.int 0)]) rfl rfl ?_
 refine Eval.heap own_mk2_01 ?_
 refine Eval.weak (lw_mk 193 _) ?_
 obtain ⟨p17, hq18, h⟩ := bind_some h
 rcases p17 with p19 | p20
 ·dsimp only [Sum.elim] at h
  refine ev_j_init_l259_2 scr c1 hsz1 _ (Q.mk s.f0 s.f1 s.f2 s.f3 s.f4 s.f5 s.f6 s.f7 s.f8 s.f9 s.f10 s.f11 s.f12 s.f13 s.f14 s.f15 s.f16 s.f17 s.f18 s.f19 s.f20 s.f21 s.f22 s.f23 (j_clamp v2 (1:Int32) (4:Int32)) (ish (1:Int32) (j_clamp v1 (1:Int32) (3:Int32))) ((ish (1:Int32) (j_clamp v1 (1:Int32) (3:Int32))) - (1:Int32)) ((2147483584:Int32) + (j_clamp v3 (0:Int32) (63:Int32))) ((2147483584:Int32) + (j_clamp v3 (0:Int32) (63:Int32))) s.f29 s.f30 s.f31 s.f32) ((2147483584:Int32) + (j_clamp v3 (0:Int32) (63:Int32))) (0:Int32) hq18 ?_
  show Eval own_P 1 275 [some (.ref 26), none, none, none, none, none, none, none] [] (W2 scr c1 p19 []) out
  refine Eval.goto (t := 304) rfl rfl ?_
  exact ev_j_init_b304_2 scr c1 hsz1 p19 h hk
 ·dsimp only [Sum.elim] at h
  refine ev_j_init_l259_2 scr c1 hsz1 _ (Q.mk s.f0 s.f1 s.f2 s.f3 s.f4 s.f5 s.f6 s.f7 s.f8 s.f9 s.f10 s.f11 s.f12 s.f13 s.f14 s.f15 s.f16 s.f17 s.f18 s.f19 s.f20 s.f21 s.f22 s.f23 (j_clamp v2 (1:Int32) (4:Int32)) (ish (1:Int32) (j_clamp v1 (1:Int32) (3:Int32))) ((ish (1:Int32) (j_clamp v1 (1:Int32) (3:Int32))) - (1:Int32)) ((2147483584:Int32) + (j_clamp v3 (0:Int32) (63:Int32))) ((2147483584:Int32) + (j_clamp v3 (0:Int32) (63:Int32))) s.f29 s.f30 s.f31 s.f32) ((2147483584:Int32) + (j_clamp v3 (0:Int32) (63:Int32))) (0:Int32) hq18 ?_
  show Eval own_P 1 304 [some (.ref 26), none, none, none, none, none, none, none] [] (W2 scr c1 p20 []) out
  exact ev_j_init_b304_2 scr c1 hsz1 p20 h hk
set_option maxRecDepth 100000 in
theorem ev_j_init_2 (scr : List Int32) (c1 : Q) (hsz1 : hsz own_P (W1 scr c1 []) = 396) (v1 v2 v3 : Int32) {res : Q} {out : Option Value × AHeap} (h : j_init v1 v2 v3 = some res) (hk : out = (none, (W2 scr c1 res []))) : Eval own_P 1 0 [some (.ref 26), some (.int v1), some (.int v2), some (.int v3), none, none, none, none] [] (W1 scr c1 [.inl (oo 0 0 24 9)]) out := by
 rw [j_init] at h
 refine Eval.aload_n rfl rfl ?_
 refine Eval.objInit rfl rfl ?_
 refine Eval.aload_n rfl rfl ?_
 refine Eval.bipush (x := 8) rfl rfl ?_
 refine Eval.newarray (z := 429) (N := 8) (a := 27) (H1 := (W1 scr c1 [.inl (oo 0 0 24 9), oA 1 8])) rfl rfl rfl rfl rfl (by decide) (by decide) (by rw [own_hszT, hsz1]; simp only [hsz, csz, own_objN, List.length_replicate]) (by decide) rfl ?_
 refine Eval.putfield (H1 := (W1 scr c1 [.inl (oo 27 1 23 9), oA 1 8])) rfl rfl rfl ?_
 refine Eval.aload_n rfl rfl ?_
 refine Eval.bipush (x := 8) rfl rfl ?_
 refine Eval.newarray (z := 437) (N := 8) (a := 28) (H1 := (W1 scr c1 [.inl (oo 27 1 23 9), oA 1 8, oA 1 8])) rfl rfl rfl rfl rfl (by decide) (by decide) (by rw [own_hszT, hsz1]; simp only [hsz, csz, own_objN, List.length_replicate]) (by decide) rfl ?_
 refine Eval.putfield (H1 := (W1 scr c1 [.inl (oo 27 2 22 9), oA 1 8, oA 1 8])) rfl rfl rfl ?_
 refine Eval.aload_n rfl rfl ?_
 refine Eval.iconst (x := 4) rfl rfl ?_
 refine Eval.newarray (z := 445) (N := 4) (a := 29) (H1 := (W1 scr c1 [.inl (oo 27 2 22 9), oA 1 8, oA 1 8, oA 1 4])) rfl rfl rfl rfl rfl (by decide) (by decide) (by rw [own_hszT, hsz1]; simp only [hsz, csz, own_objN, List.length_replicate]) (by decide) rfl ?_
 refine Eval.putfield (H1 := (W1 scr c1 [.inl (oo 27 3 21 9), oA 1 8, oA 1 8, oA 1 4])) rfl rfl rfl ?_
 refine Eval.aload_n rfl rfl ?_
 refine Eval.iconst (x := 4) rfl rfl ?_
 refine Eval.newarray (z := 449) (N := 4) (a := 30) (H1 := (W1 scr c1 [.inl (oo 27 3 21 9), oA 1 8, oA 1 8, oA 1 4, oA 1 4])) rfl rfl rfl rfl rfl (by decide) (by decide) (by rw [own_hszT, hsz1]; simp only [hsz, csz, own_objN, List.length_replicate]) (by decide) rfl ?_
 refine Eval.putfield (H1 := (W1 scr c1 [.inl (oo 27 4 20 9), oA 1 8, oA 1 8, oA 1 4, oA 1 4])) rfl rfl rfl ?_
 refine Eval.aload_n rfl rfl ?_
 refine Eval.iconst (x := 4) rfl rfl ?_
 refine Eval.newarray (z := 453) (N := 4) (a := 31) (H1 := (W1 scr c1 [.inl (oo 27 4 20 9), oA 1 8, oA 1 8, oA 1 4, oA 1 4, oA 1 4])) rfl rfl rfl rfl rfl (by decide) (by decide) (by rw [own_hszT, hsz1]; simp only [hsz, csz, own_objN, List.length_replicate]) (by decide) rfl ?_
 refine Eval.putfield (H1 := (W1 scr c1 [.inl (oo 27 5 19 9), oA 1 8, oA 1 8, oA 1 4, oA 1 4, oA 1 4])) rfl rfl rfl ?_
 refine Eval.aload_n rfl rfl ?_
 refine Eval.iconst (x := 4) rfl rfl ?_
 refine Eval.newarray (z := 457) (N := 4) (a := 32) (H1 := (W1 scr c1 [.inl (oo 27 5 19 9), oA 1 8, oA 1 8, oA 1 4, oA 1 4, oA 1 4, oA 1 4])) rfl rfl rfl rfl rfl (by decide) (by decide) (by rw [own_hszT, hsz1]; simp only [hsz, csz, own_objN, List.length_replicate]) (by decide) rfl ?_
 refine Eval.putfield (H1 := (W1 scr c1 [.inl (oo 27 6 18 9), oA 1 8, oA 1 8, oA 1 4, oA 1 4, oA 1 4, oA 1 4])) rfl rfl rfl ?_
 refine Eval.aload_n rfl rfl ?_
 refine Eval.iconst (x := 4) rfl rfl ?_
 refine Eval.newarray (z := 461) (N := 4) (a := 33) (H1 := (W1 scr c1 [.inl (oo 27 6 18 9), oA 1 8, oA 1 8, oA 1 4, oA 1 4, oA 1 4, oA 1 4, oA 1 4])) rfl rfl rfl rfl rfl (by decide) (by decide) (by rw [own_hszT, hsz1]; simp only [hsz, csz, own_objN, List.length_replicate]) (by decide) rfl ?_
 refine Eval.putfield (H1 := (W1 scr c1 [.inl (oo 27 7 17 9), oA 1 8, oA 1 8, oA 1 4, oA 1 4, oA 1 4, oA 1 4, oA 1 4])) rfl rfl rfl ?_
 refine Eval.aload_n rfl rfl ?_
 refine Eval.iconst (x := 4) rfl rfl ?_
 refine Eval.newarray (z := 465) (N := 4) (a := 34) (H1 := (W1 scr c1 [.inl (oo 27 7 17 9), oA 1 8, oA 1 8, oA 1 4, oA 1 4, oA 1 4, oA 1 4, oA 1 4, oA 1 4])) rfl rfl rfl rfl rfl (by decide) (by decide) (by rw [own_hszT, hsz1]; simp only [hsz, csz, own_objN, List.length_replicate]) (by decide) rfl ?_
 refine Eval.putfield (H1 := (W1 scr c1 [.inl (oo 27 8 16 9), oA 1 8, oA 1 8, oA 1 4, oA 1 4, oA 1 4, oA 1 4, oA 1 4, oA 1 4])) rfl rfl rfl ?_
 refine Eval.aload_n rfl rfl ?_
 refine Eval.bipush (x := 64) rfl rfl ?_
 refine Eval.newarray (z := 469) (N := 64) (a := 35) (H1 := (W1 scr c1 [.inl (oo 27 8 16 9), oA 1 8, oA 1 8, oA 1 4, oA 1 4, oA 1 4, oA 1 4, oA 1 4, oA 1 4, oA 1 64])) rfl rfl rfl rfl rfl (by decide) (by decide) (by rw [own_hszT, hsz1]; simp only [hsz, csz, own_objN, List.length_replicate]) (by decide) rfl ?_
 refine Eval.putfield (H1 := (W1 scr c1 [.inl (oo 27 9 15 9), oA 1 8, oA 1 8, oA 1 4, oA 1 4, oA 1 4, oA 1 4, oA 1 4, oA 1 4, oA 1 64])) rfl rfl rfl ?_
 refine Eval.aload_n rfl rfl ?_
 refine Eval.bipush (x := 64) rfl rfl ?_
 refine Eval.newarray (z := 533) (N := 64) (a := 36) (H1 := (W1 scr c1 [.inl (oo 27 9 15 9), oA 1 8, oA 1 8, oA 1 4, oA 1 4, oA 1 4, oA 1 4, oA 1 4, oA 1 4, oA 1 64, oA 1 64])) rfl rfl rfl rfl rfl (by decide) (by decide) (by rw [own_hszT, hsz1]; simp only [hsz, csz, own_objN, List.length_replicate]) (by decide) rfl ?_
 refine Eval.putfield (H1 := (W1 scr c1 [.inl (oo 27 10 14 9), oA 1 8, oA 1 8, oA 1 4, oA 1 4, oA 1 4, oA 1 4, oA 1 4, oA 1 4, oA 1 64, oA 1 64])) rfl rfl rfl ?_
 refine Eval.aload_n rfl rfl ?_
 refine Eval.bipush (x := 64) rfl rfl ?_
 refine Eval.newarray (z := 597) (N := 64) (a := 37) (H1 := (W1 scr c1 [.inl (oo 27 10 14 9), oA 1 8, oA 1 8, oA 1 4, oA 1 4, oA 1 4, oA 1 4, oA 1 4, oA 1 4, oA 1 64, oA 1 64, oA 1 64])) rfl rfl rfl rfl rfl (by decide) (by decide) (by rw [own_hszT, hsz1]; simp only [hsz, csz, own_objN, List.length_replicate]) (by decide) rfl ?_
 refine Eval.putfield (H1 := (W1 scr c1 [.inl (oo 27 11 13 9), oA 1 8, oA 1 8, oA 1 4, oA 1 4, oA 1 4, oA 1 4, oA 1 4, oA 1 4, oA 1 64, oA 1 64, oA 1 64])) rfl rfl rfl ?_
 refine Eval.aload_n rfl rfl ?_
 refine Eval.bipush (x := 8) rfl rfl ?_
 refine Eval.newarray (z := 661) (N := 8) (a := 38) (H1 := (W1 scr c1 [.inl (oo 27 11 13 9), oA 1 8, oA 1 8, oA 1 4, oA 1 4, oA 1 4, oA 1 4, oA 1 4, oA 1 4, oA 1 64, oA 1 64, oA 1 64, oA 1 8])) rfl rfl rfl rfl rfl (by decide) (by decide) (by rw [own_hszT, hsz1]; simp only [hsz, csz, own_objN, List.length_replicate]) (by decide) rfl ?_
 refine Eval.putfield (H1 := (W1 scr c1 [.inl (oo 27 12 12 9), oA 1 8, oA 1 8, oA 1 4, oA 1 4, oA 1 4, oA 1 4, oA 1 4, oA 1 4, oA 1 64, oA 1 64, oA 1 64, oA 1 8])) rfl rfl rfl ?_
 refine Eval.aload_n rfl rfl ?_
 refine Eval.bipush (x := 6) rfl rfl ?_
 refine Eval.newarray (z := 669) (N := 6) (a := 39) (H1 := (W1 scr c1 [.inl (oo 27 12 12 9), oA 1 8, oA 1 8, oA 1 4, oA 1 4, oA 1 4, oA 1 4, oA 1 4, oA 1 4, oA 1 64, oA 1 64, oA 1 64, oA 1 8, oA 1 6])) rfl rfl rfl rfl rfl (by decide) (by decide) (by rw [own_hszT, hsz1]; simp only [hsz, csz, own_objN, List.length_replicate]) (by decide) rfl ?_
 refine Eval.putfield (H1 := (W1 scr c1 [.inl (oo 27 13 11 9), oA 1 8, oA 1 8, oA 1 4, oA 1 4, oA 1 4, oA 1 4, oA 1 4, oA 1 4, oA 1 64, oA 1 64, oA 1 64, oA 1 8, oA 1 6])) rfl rfl rfl ?_
 refine Eval.aload_n rfl rfl ?_
 refine Eval.bipush (x := 6) rfl rfl ?_
 refine Eval.newarray (z := 675) (N := 6) (a := 40) (H1 := (W1 scr c1 [.inl (oo 27 13 11 9), oA 1 8, oA 1 8, oA 1 4, oA 1 4, oA 1 4, oA 1 4, oA 1 4, oA 1 4, oA 1 64, oA 1 64, oA 1 64, oA 1 8, oA 1 6, oA 1 6])) rfl rfl rfl rfl rfl (by decide) (by decide) (by rw [own_hszT, hsz1]; simp only [hsz, csz, own_objN, List.length_replicate]) (by decide) rfl ?_
 refine Eval.putfield (H1 := (W1 scr c1 [.inl (oo 27 14 10 9), oA 1 8, oA 1 8, oA 1 4, oA 1 4, oA 1 4, oA 1 4, oA 1 4, oA 1 4, oA 1 64, oA 1 64, oA 1 64, oA 1 8, oA 1 6, oA 1 6])) rfl rfl rfl ?_
 refine Eval.aload_n rfl rfl ?_
 refine Eval.bipush (x := 6) rfl rfl ?_
 refine Eval.newarray (z := 681) (N := 6) (a := 41) (H1 := (W1 scr c1 [.inl (oo 27 14 10 9), oA 1 8, oA 1 8, oA 1 4, oA 1 4, oA 1 4, oA 1 4, oA 1 4, oA 1 4, oA 1 64, oA 1 64, oA 1 64, oA 1 8, oA 1 6, oA 1 6, oA 1 6])) rfl rfl rfl rfl rfl (by decide) (by decide) (by rw [own_hszT, hsz1]; simp only [hsz, csz, own_objN, List.length_replicate]) (by decide) rfl ?_
 refine Eval.putfield (H1 := (W1 scr c1 [.inl (oo 27 15 9 9), oA 1 8, oA 1 8, oA 1 4, oA 1 4, oA 1 4, oA 1 4, oA 1 4, oA 1 4, oA 1 64, oA 1 64, oA 1 64, oA 1 8, oA 1 6, oA 1 6, oA 1 6])) rfl rfl rfl ?_
 refine Eval.aload_n rfl rfl ?_
 refine Eval.bipush (x := 6) rfl rfl ?_
 refine Eval.newarray (z := 687) (N := 6) (a := 42) (H1 := (W1 scr c1 [.inl (oo 27 15 9 9), oA 1 8, oA 1 8, oA 1 4, oA 1 4, oA 1 4, oA 1 4, oA 1 4, oA 1 4, oA 1 64, oA 1 64, oA 1 64, oA 1 8, oA 1 6, oA 1 6, oA 1 6, oA 1 6])) rfl rfl rfl rfl rfl (by decide) (by decide) (by rw [own_hszT, hsz1]; simp only [hsz, csz, own_objN, List.length_replicate]) (by decide) rfl ?_
 refine Eval.putfield (H1 := (W1 scr c1 [.inl (oo 27 16 8 9), oA 1 8, oA 1 8, oA 1 4, oA 1 4, oA 1 4, oA 1 4, oA 1 4, oA 1 4, oA 1 64, oA 1 64, oA 1 64, oA 1 8, oA 1 6, oA 1 6, oA 1 6, oA 1 6])) rfl rfl rfl ?_
 refine Eval.aload_n rfl rfl ?_
 refine Eval.bipush (x := 6) rfl rfl ?_
 refine Eval.newarray (z := 693) (N := 6) (a := 43) (H1 := (W1 scr c1 [.inl (oo 27 16 8 9), oA 1 8, oA 1 8, oA 1 4, oA 1 4, oA 1 4, oA 1 4, oA 1 4, oA 1 4, oA 1 64, oA 1 64, oA 1 64, oA 1 8, oA 1 6, oA 1 6, oA 1 6, oA 1 6, oA 1 6])) rfl rfl rfl rfl rfl (by decide) (by decide) (by rw [own_hszT, hsz1]; simp only [hsz, csz, own_objN, List.length_replicate]) (by decide) rfl ?_
 refine Eval.putfield (H1 := (W1 scr c1 [.inl (oo 27 17 7 9), oA 1 8, oA 1 8, oA 1 4, oA 1 4, oA 1 4, oA 1 4, oA 1 4, oA 1 4, oA 1 64, oA 1 64, oA 1 64, oA 1 8, oA 1 6, oA 1 6, oA 1 6, oA 1 6, oA 1 6])) rfl rfl rfl ?_
 refine Eval.aload_n rfl rfl ?_
 refine Eval.bipush (x := 6) rfl rfl ?_
 refine Eval.newarray (z := 699) (N := 6) (a := 44) (H1 := (W1 scr c1 [.inl (oo 27 17 7 9), oA 1 8, oA 1 8, oA 1 4, oA 1 4, oA 1 4, oA 1 4, oA 1 4, oA 1 4, oA 1 64, oA 1 64, oA 1 64, oA 1 8, oA 1 6, oA 1 6, oA 1 6, oA 1 6, oA 1 6, oA 1 6])) rfl rfl rfl rfl rfl (by decide) (by decide) (by rw [own_hszT, hsz1]; simp only [hsz, csz, own_objN, List.length_replicate]) (by decide) rfl ?_
 refine Eval.putfield (H1 := (W1 scr c1 [.inl (oo 27 18 6 9), oA 1 8, oA 1 8, oA 1 4, oA 1 4, oA 1 4, oA 1 4, oA 1 4, oA 1 4, oA 1 64, oA 1 64, oA 1 64, oA 1 8, oA 1 6, oA 1 6, oA 1 6, oA 1 6, oA 1 6, oA 1 6])) rfl rfl rfl ?_
 refine Eval.aload_n rfl rfl ?_
 refine Eval.bipush (x := 6) rfl rfl ?_
 refine Eval.newarray (z := 705) (N := 6) (a := 45) (H1 := (W1 scr c1 [.inl (oo 27 18 6 9), oA 1 8, oA 1 8, oA 1 4, oA 1 4, oA 1 4, oA 1 4, oA 1 4, oA 1 4, oA 1 64, oA 1 64, oA 1 64, oA 1 8, oA 1 6, oA 1 6, oA 1 6, oA 1 6, oA 1 6, oA 1 6, oA 1 6])) rfl rfl rfl rfl rfl (by decide) (by decide) (by rw [own_hszT, hsz1]; simp only [hsz, csz, own_objN, List.length_replicate]) (by decide) rfl ?_
 refine Eval.putfield (H1 := (W1 scr c1 [.inl (oo 27 19 5 9), oA 1 8, oA 1 8, oA 1 4, oA 1 4, oA 1 4, oA 1 4, oA 1 4, oA 1 4, oA 1 64, oA 1 64, oA 1 64, oA 1 8, oA 1 6, oA 1 6, oA 1 6, oA 1 6, oA 1 6, oA 1 6, oA 1 6])) rfl rfl rfl ?_
 refine Eval.aload_n rfl rfl ?_
 refine Eval.iconst (x := 4) rfl rfl ?_
 refine Eval.newarray (z := 711) (N := 4) (a := 46) (H1 := (W1 scr c1 [.inl (oo 27 19 5 9), oA 1 8, oA 1 8, oA 1 4, oA 1 4, oA 1 4, oA 1 4, oA 1 4, oA 1 4, oA 1 64, oA 1 64, oA 1 64, oA 1 8, oA 1 6, oA 1 6, oA 1 6, oA 1 6, oA 1 6, oA 1 6, oA 1 6, oA 1 4])) rfl rfl rfl rfl rfl (by decide) (by decide) (by rw [own_hszT, hsz1]; simp only [hsz, csz, own_objN, List.length_replicate]) (by decide) rfl ?_
 refine Eval.putfield (H1 := (W1 scr c1 [.inl (oo 27 20 4 9), oA 1 8, oA 1 8, oA 1 4, oA 1 4, oA 1 4, oA 1 4, oA 1 4, oA 1 4, oA 1 64, oA 1 64, oA 1 64, oA 1 8, oA 1 6, oA 1 6, oA 1 6, oA 1 6, oA 1 6, oA 1 6, oA 1 6, oA 1 4])) rfl rfl rfl ?_
 refine Eval.aload_n rfl rfl ?_
 refine Eval.bipush (x := 56) rfl rfl ?_
 refine Eval.newarray (z := 715) (N := 56) (a := 47) (H1 := (W1 scr c1 [.inl (oo 27 20 4 9), oA 1 8, oA 1 8, oA 1 4, oA 1 4, oA 1 4, oA 1 4, oA 1 4, oA 1 4, oA 1 64, oA 1 64, oA 1 64, oA 1 8, oA 1 6, oA 1 6, oA 1 6, oA 1 6, oA 1 6, oA 1 6, oA 1 6, oA 1 4, oA 1 56])) rfl rfl rfl rfl rfl (by decide) (by decide) (by rw [own_hszT, hsz1]; simp only [hsz, csz, own_objN, List.length_replicate]) (by decide) rfl ?_
 refine Eval.putfield (H1 := (W1 scr c1 [.inl (oo 27 21 3 9), oA 1 8, oA 1 8, oA 1 4, oA 1 4, oA 1 4, oA 1 4, oA 1 4, oA 1 4, oA 1 64, oA 1 64, oA 1 64, oA 1 8, oA 1 6, oA 1 6, oA 1 6, oA 1 6, oA 1 6, oA 1 6, oA 1 6, oA 1 4, oA 1 56])) rfl rfl rfl ?_
 refine Eval.aload_n rfl rfl ?_
 refine Eval.bipush (x := 7) rfl rfl ?_
 refine Eval.newarray (z := 771) (N := 7) (a := 48) (H1 := (W1 scr c1 [.inl (oo 27 21 3 9), oA 1 8, oA 1 8, oA 1 4, oA 1 4, oA 1 4, oA 1 4, oA 1 4, oA 1 4, oA 1 64, oA 1 64, oA 1 64, oA 1 8, oA 1 6, oA 1 6, oA 1 6, oA 1 6, oA 1 6, oA 1 6, oA 1 6, oA 1 4, oA 1 56, oA 1 7])) rfl rfl rfl rfl rfl (by decide) (by decide) (by rw [own_hszT, hsz1]; simp only [hsz, csz, own_objN, List.length_replicate]) (by decide) rfl ?_
 refine Eval.putfield (H1 := (W1 scr c1 [.inl (oo 27 22 2 9), oA 1 8, oA 1 8, oA 1 4, oA 1 4, oA 1 4, oA 1 4, oA 1 4, oA 1 4, oA 1 64, oA 1 64, oA 1 64, oA 1 8, oA 1 6, oA 1 6, oA 1 6, oA 1 6, oA 1 6, oA 1 6, oA 1 6, oA 1 4, oA 1 56, oA 1 7])) rfl rfl rfl ?_
 refine Eval.aload_n rfl rfl ?_
 refine Eval.bipush (x := 7) rfl rfl ?_
 refine Eval.newarray (z := 778) (N := 7) (a := 49) (H1 := (W1 scr c1 [.inl (oo 27 22 2 9), oA 1 8, oA 1 8, oA 1 4, oA 1 4, oA 1 4, oA 1 4, oA 1 4, oA 1 4, oA 1 64, oA 1 64, oA 1 64, oA 1 8, oA 1 6, oA 1 6, oA 1 6, oA 1 6, oA 1 6, oA 1 6, oA 1 6, oA 1 4, oA 1 56, oA 1 7, oA 1 7])) rfl rfl rfl rfl rfl (by decide) (by decide) (by rw [own_hszT, hsz1]; simp only [hsz, csz, own_objN, List.length_replicate]) (by decide) rfl ?_
 refine Eval.putfield (H1 := (W1 scr c1 [.inl (oo 27 23 1 9), oA 1 8, oA 1 8, oA 1 4, oA 1 4, oA 1 4, oA 1 4, oA 1 4, oA 1 4, oA 1 64, oA 1 64, oA 1 64, oA 1 8, oA 1 6, oA 1 6, oA 1 6, oA 1 6, oA 1 6, oA 1 6, oA 1 6, oA 1 4, oA 1 56, oA 1 7, oA 1 7])) rfl rfl rfl ?_
 refine Eval.aload_n rfl rfl ?_
 refine Eval.bipush (x := 7) rfl rfl ?_
 refine Eval.newarray (z := 785) (N := 7) (a := 50) (H1 := (W1 scr c1 [.inl (oo 27 23 1 9), oA 1 8, oA 1 8, oA 1 4, oA 1 4, oA 1 4, oA 1 4, oA 1 4, oA 1 4, oA 1 64, oA 1 64, oA 1 64, oA 1 8, oA 1 6, oA 1 6, oA 1 6, oA 1 6, oA 1 6, oA 1 6, oA 1 6, oA 1 4, oA 1 56, oA 1 7, oA 1 7, oA 1 7])) rfl rfl rfl rfl rfl (by decide) (by decide) (by rw [own_hszT, hsz1]; simp only [hsz, csz, own_objN, List.length_replicate]) (by decide) rfl ?_
 refine Eval.putfield (H1 := (W1 scr c1 [.inl (oo 27 24 0 9), oA 1 8, oA 1 8, oA 1 4, oA 1 4, oA 1 4, oA 1 4, oA 1 4, oA 1 4, oA 1 64, oA 1 64, oA 1 64, oA 1 8, oA 1 6, oA 1 6, oA 1 6, oA 1 6, oA 1 6, oA 1 6, oA 1 6, oA 1 4, oA 1 56, oA 1 7, oA 1 7, oA 1 7])) rfl rfl rfl ?_
 show Eval own_P 1 189 [some (.ref 26), some (.int v1), some (.int v2), some (.int v3), none, none, none, none] [] (W2 scr c1 Q0 []) out
 exact ev_j_init_b189_2 scr c1 hsz1 Q0 v1 v2 v3 h hk
abbrev law_l26_K (scr : List Int32) (res : (Q × Q) ⊕ ((Q × Q) ⊕ ((Q × Q) ⊕ ((Q × Q) ⊕ ((Q × Q) ⊕ ((Q × Q) ⊕ ((Q × Q) ⊕ ((Q × Q) ⊕ ((Q × Q) ⊕ (Q × Q)))))))))) (out : Option Value × AHeap) : Prop := Sum.elim (fun res => Eval own_P 0 81 [none, none, none, none, none, none, none, none, none, none, none, none] [] (W2 scr res.1 res.2 []) out) (fun res => Sum.elim (fun res => Eval own_P 0 148 [none, none, none, none, none, none, none, none, none, none, none, none] [] (W2 scr res.1 res.2 []) out) (fun res => Sum.elim (fun res => Eval own_P 0 170 [none, none, none, none, none, none, none, none, none, none, none, none] [] (W2 scr res.1 res.2 []) out) (fun res => Sum.elim (fun res => Eval own_P 0 204 [none, none, none, none, none, none, none, none, none, none, none, none] [] (W2 scr res.1 res.2 []) out) (fun res => Sum.elim (fun res => Eval own_P 0 240 [none, none, none, none, none, none, none, none, none, none, none, none] [] (W2 scr res.1 res.2 []) out) (fun res => Sum.elim (fun res => Eval own_P 0 260 [none, none, none, none, none, none, none, none, none, none, none, none] [] (W2 scr res.1 res.2 []) out) (fun res => Sum.elim (fun res => Eval own_P 0 293 [none, none, none, none, none, none, none, none, none, none, none, none] [] (W2 scr res.1 res.2 []) out) (fun res => Sum.elim (fun res => Eval own_P 0 316 [none, none, none, none, none, none, none, none, none, none, none, none] [] (W2 scr res.1 res.2 []) out) (fun res => Sum.elim (fun res => Eval own_P 0 326 [none, none, none, none, none, none, none, none, none, none, none, none] [] (W2 scr res.1 res.2 []) out) (fun res => Eval own_P 0 334 [none, none, none, none, none, none, none, none, none, none, none, none] [] (W2 scr res.1 res.2 []) out) res) res) res) res) res) res) res) res) res

def j_valid (s : Q) (v1 : Int32) : Int32 := (if v1 < (0:Int32) then ((0:Int32)) else (if v1 < s.f24 then ((1:Int32)) else ((0:Int32))))
set_option maxRecDepth 100000 in
theorem ev_j_valid (R : AHeap) (scr : List Int32) (s : Q) (v1 : Int32) {res : Int32} {out : Option Value × AHeap} (h : j_valid s v1 = res) (hk : out = (some (.int res), (W1 scr s R))) : Eval own_P 5 0 [some (.ref 1), some (.int v1)] [] (W1 scr s R) out := by
 rw [j_valid] at h
 refine Eval.iload_n rfl rfl ?_
 by_cases hc30 : v1 < (0:Int32)
 ·rw [if_pos hc30] at h
  refine Eval.ifT (t := 16) rfl rfl (tlt hc30).1 ?_
  refine Eval.iconst (x := 0) rfl rfl ?_
  subst h
  subst hk
  exact Eval.ret rfl rfl
 ·rw [if_neg hc30] at h
  refine Eval.ifF rfl (flt hc30).1 ?_
  refine Eval.iload_n rfl rfl ?_
  refine Eval.aload_n rfl rfl ?_
  refine Eval.getfield rfl rfl own_g1_nThreads ?_
  by_cases hc31 : v1 < s.f24
  ·rw [if_pos hc31] at h
   refine Eval.icmpF rfl (tlt hc31).2.1 ?_
   refine Eval.iconst (x := 1) rfl rfl ?_
   refine Eval.goto (t := 17) rfl rfl ?_
   subst h
   subst hk
   exact Eval.ret rfl rfl
  ·rw [if_neg hc31] at h
   refine Eval.icmpT (t := 16) rfl rfl (flt hc31).2.1 ?_
   refine Eval.iconst (x := 0) rfl rfl ?_
   subst h
   subst hk
   exact Eval.ret rfl rfl
abbrev j_pending_l4_K (R : AHeap) (scr : List Int32) (s : Q) (res : Int32) (out : Option Value × AHeap) : Prop := Eval own_P 22 35 [none, some (.int res), none] [] (W1 scr s R) out

def j_pending_b29 (go_ : Q → Int32 → Int32 → Option (Int32)) (s : Q) (v1 v2 : Int32) : Option (Int32) := (go_ s v1 (v2 + (1:Int32)))
set_option maxRecDepth 100000 in
theorem ev_j_pending_b29 (R : AHeap) (scr : List Int32) (go_ : Q → Int32 → Int32 → Option (Int32)) (hrec : ∀ (s : Q) (v1 v2 : Int32) {res : Int32} {out : Option Value × AHeap}, go_ s v1 v2 = some res → j_pending_l4_K R scr s res out → Eval own_P 22 4 [some (.ref 1), some (.int v1), some (.int v2)] [] (W1 scr s R) out) (s : Q) (v1 v2 : Int32) {res : Int32} {out : Option Value × AHeap} (h : j_pending_b29 go_ s v1 v2 = some res) (hk : j_pending_l4_K R scr s res out) : Eval own_P 22 29 [some (.ref 1), some (.int v1), some (.int v2)] [] (W1 scr s R) out := by
 rw [j_pending_b29] at h
 refine Eval.iinc (L' := [some (.ref 1), some (.int v1), some (.int (v2 + (1:Int32)))]) rfl rfl rfl ?_
 refine Eval.goto (t := 4) rfl rfl ?_
 exact hrec _ _ _ h hk
def j_pending_l4 : Nat → Q → Int32 → Int32 → Option (Int32)
  | 0, _, _, _ => none
  | n + 1, s, v1, v2 => (if v2 < (4:Int32) then (if v2 < s.f24 then (if inb s.f2.length v2 = true then (j_pending_b29 (j_pending_l4 n) s (if (rd s.f2 v2) = (0:Int32) then v1 else (v1 + (1:Int32))) v2) else none) else (j_pending_b29 (j_pending_l4 n) s v1 v2)) else some (v1))
set_option maxRecDepth 100000 in
theorem ev_j_pending_l4 (R : AHeap) (scr : List Int32) : ∀ (n : Nat) (s : Q) (v1 v2 : Int32) {res : Int32} {out : Option Value × AHeap}, j_pending_l4 n s v1 v2 = some res → j_pending_l4_K R scr s res out → Eval own_P 22 4 [some (.ref 1), some (.int v1), some (.int v2)] [] (W1 scr s R) out := by
 intro n
 induction n with
 | zero => intro _ _ _ res out h hk; cases h
 | succ n hrec =>
  intro s v1 v2 res out h hk
  rw [j_pending_l4] at h
  refine Eval.iload_n rfl rfl ?_
  refine Eval.iconst (x := 4) rfl rfl ?_
  by_cases hc35 : v2 < (4:Int32)
  ·rw [if_pos hc35] at h
   refine Eval.icmpF rfl (tlt hc35).2.1 ?_
   refine Eval.iload_n rfl rfl ?_
   refine Eval.aload_n rfl rfl ?_
   refine Eval.getfield rfl rfl own_g1_nThreads ?_
   by_cases hc37 : v2 < s.f24
   ·rw [if_pos hc37] at h
    refine Eval.icmpF rfl (tlt hc37).2.1 ?_
    refine Eval.aload_n rfl rfl ?_
    refine Eval.getfield rfl rfl own_g1_st ?_
    refine Eval.iload_n rfl rfl ?_
    obtain ⟨hb38, h⟩ := ite_some h
    refine Eval.iaload rfl own_a1_st hb38 ?_
    suffices hJ40 : Eval own_P 22 29 [some (.ref 1), some (.int (if (rd s.f2 v2) = (0:Int32) then v1 else (v1 + (1:Int32)))), some (.int v2)] [] (W1 scr s R) out by
     by_cases hc39 : (rd s.f2 v2) = (0:Int32)
     ·refine Eval.ifT (t := 29) rfl rfl (teq hc39).1 ?_
      exact (Eval.conv hJ40 (by simp only [if_pos hc39] <;> rfl) rfl)
     ·refine Eval.ifF rfl (feq hc39).1 ?_
      refine Eval.iinc (L' := [some (.ref 1), some (.int (v1 + (1:Int32))), some (.int v2)]) rfl rfl rfl ?_
      exact (Eval.conv hJ40 (by simp only [if_neg hc39] <;> rfl) rfl)
    exact ev_j_pending_b29 R scr _ hrec s (if (rd s.f2 v2) = (0:Int32) then v1 else (v1 + (1:Int32))) v2 h hk
   ·rw [if_neg hc37] at h
    refine Eval.icmpT (t := 29) rfl rfl (flt hc37).2.1 ?_
    exact ev_j_pending_b29 R scr _ hrec s v1 v2 h hk
  ·rw [if_neg hc35] at h
   refine Eval.icmpT (t := 35) rfl rfl (flt hc35).2.1 ?_
   cases h
   refine Eval.weak (lw_mk 2 _) ?_
   exact hk
def j_pending (s : Q) : Option (Int32) := ((j_pending_l4 3000 s (0:Int32) (0:Int32)).bind fun p41 => some (p41))
set_option maxRecDepth 100000 in
theorem ev_j_pending (R : AHeap) (scr : List Int32) (s : Q) {res : Int32} {out : Option Value × AHeap} (h : j_pending s = some res) (hk : out = (some (.int res), (W1 scr s R))) : Eval own_P 22 0 [some (.ref 1), none, none] [] (W1 scr s R) out := by
 rw [j_pending] at h
 refine Eval.iconst (x := 0) rfl rfl ?_
 refine Eval.istore_n (L' := [some (.ref 1), some (.int 0), none]) rfl rfl ?_
 refine Eval.iconst (x := 0) rfl rfl ?_
 refine Eval.istore_n (L' := [some (.ref 1), some (.int 0), some (.int 0)]) rfl rfl ?_
 obtain ⟨p41, hq42, h⟩ := bind_some h
 refine ev_j_pending_l4 R scr _ s (0:Int32) (0:Int32) hq42 ?_
 show Eval own_P 22 35 [none, some (.int p41), none] [] (W1 scr s R) out
 refine Eval.iload_n rfl rfl ?_
 cases h
 subst hk
 exact Eval.ret rfl rfl
def j_hasRoom (s : Q) : Option (Int32) := ((j_pending s).bind fun p43 => (if (64:Int32) < ((s.f29 + p43) + (2:Int32)) then some ((0:Int32)) else some ((1:Int32))))
set_option maxRecDepth 100000 in
theorem ev_j_hasRoom (R : AHeap) (scr : List Int32) (s : Q) {res : Int32} {out : Option Value × AHeap} (h : j_hasRoom s = some res) (hk : out = (some (.int res), (W1 scr s R))) : Eval own_P 21 0 [some (.ref 1), none] [] (W1 scr s R) out := by
 rw [j_hasRoom] at h
 refine Eval.aload_n rfl rfl ?_
 obtain ⟨p43, hq44, h⟩ := bind_some h
 refine Eval.callI (rest := []) (x := p43) (H1 := (W1 scr s R)) rfl rfl (ev_j_pending R scr s hq44 rfl) ?_
 refine Eval.istore_n (L' := [some (.ref 1), some (.int p43)]) rfl rfl ?_
 refine Eval.aload_n rfl rfl ?_
 refine Eval.getfield rfl rfl own_g1_histLen ?_
 refine Eval.iload_n rfl rfl ?_
 refine Eval.iadd rfl ?_
 refine Eval.iconst (x := 2) rfl rfl ?_
 refine Eval.iadd rfl ?_
 refine Eval.bipush (x := 64) rfl rfl ?_
 by_cases hc45 : (64:Int32) < ((s.f29 + p43) + (2:Int32))
 ·rw [if_pos hc45] at h
  refine Eval.icmpT (t := 22) rfl rfl (tlt hc45).2.2.1 ?_
  refine Eval.iconst (x := 0) rfl rfl ?_
  cases h
  subst hk
  exact Eval.ret rfl rfl
 ·rw [if_neg hc45] at h
  refine Eval.icmpF rfl (flt hc45).2.2.1 ?_
  refine Eval.iconst (x := 1) rfl rfl ?_
  refine Eval.goto (t := 23) rfl rfl ?_
  cases h
  subst hk
  exact Eval.ret rfl rfl
def j_append (s : Q) (v1 v2 v3 : Int32) : Option (Q) := (if s.f29 < (0:Int32) then some (s) else (if s.f29 < (64:Int32) then (if inb s.f8.length s.f29 = true then (if inb s.f9.length s.f29 = true then (if inb s.f10.length s.f29 = true then some ((Q.mk s.f0 s.f1 s.f2 s.f3 s.f4 s.f5 s.f6 s.f7 (wr s.f8 s.f29 v1) (wr s.f9 s.f29 v2) (wr s.f10 s.f29 v3) s.f11 s.f12 s.f13 s.f14 s.f15 s.f16 s.f17 s.f18 s.f19 s.f20 s.f21 s.f22 s.f23 s.f24 s.f25 s.f26 s.f27 s.f28 (s.f29 + (1:Int32)) s.f30 s.f31 s.f32)) else none) else none) else none) else some (s)))
set_option maxRecDepth 100000 in
theorem ev_j_append (R : AHeap) (scr : List Int32) (s : Q) (v1 v2 v3 : Int32) {res : Q} {out : Option Value × AHeap} (h : j_append s v1 v2 v3 = some res) (hk : out = (none, (W1 scr res R))) : Eval own_P 23 0 [some (.ref 1), some (.int v1), some (.int v2), some (.int v3)] [] (W1 scr s R) out := by
 rw [j_append] at h
 refine Eval.aload_n rfl rfl ?_
 refine Eval.getfield rfl rfl own_g1_histLen ?_
 by_cases hc49 : s.f29 < (0:Int32)
 ·rw [if_pos hc49] at h
  refine Eval.ifT (t := 56) rfl rfl (tlt hc49).1 ?_
  cases h
  subst hk
  exact Eval.ret rfl rfl
 ·rw [if_neg hc49] at h
  refine Eval.ifF rfl (flt hc49).1 ?_
  refine Eval.aload_n rfl rfl ?_
  refine Eval.getfield rfl rfl own_g1_histLen ?_
  refine Eval.bipush (x := 64) rfl rfl ?_
  by_cases hc50 : s.f29 < (64:Int32)
  ·rw [if_pos hc50] at h
   refine Eval.icmpF rfl (tlt hc50).2.1 ?_
   refine Eval.aload_n rfl rfl ?_
   refine Eval.getfield rfl rfl own_g1_evKind ?_
   refine Eval.aload_n rfl rfl ?_
   refine Eval.getfield rfl rfl own_g1_histLen ?_
   refine Eval.iload_n rfl rfl ?_
   obtain ⟨hb51, h⟩ := ite_some h
   refine Eval.iastore rfl rfl own_a1_evKind hb51 own_s1_evKind ?_
   refine Eval.aload_n rfl rfl ?_
   refine Eval.getfield rfl rfl own_g1_evThread ?_
   refine Eval.aload_n rfl rfl ?_
   refine Eval.getfield rfl rfl own_g1_histLen ?_
   refine Eval.iload_n rfl rfl ?_
   obtain ⟨hb52, h⟩ := ite_some h
   refine Eval.iastore rfl rfl own_a1_evThread hb52 own_s1_evThread ?_
   refine Eval.aload_n rfl rfl ?_
   refine Eval.getfield rfl rfl own_g1_evVal ?_
   refine Eval.aload_n rfl rfl ?_
   refine Eval.getfield rfl rfl own_g1_histLen ?_
   refine Eval.iload_n rfl rfl ?_
   obtain ⟨hb53, h⟩ := ite_some h
   refine Eval.iastore rfl rfl own_a1_evVal hb53 own_s1_evVal ?_
   refine Eval.aload_n rfl rfl ?_
   refine Eval.dupR rfl ?_
   refine Eval.getfield rfl rfl own_g1_histLen ?_
   refine Eval.iconst (x := 1) rfl rfl ?_
   refine Eval.iadd rfl ?_
   refine Eval.putfield rfl rfl own_p1_histLen ?_
   cases h
   subst hk
   exact Eval.retH own_mk1 rfl rfl
  ·rw [if_neg hc50] at h
   refine Eval.icmpT (t := 56) rfl rfl (flt hc50).2.1 ?_
   cases h
   subst hk
   exact Eval.ret rfl rfl
def j_startEnqueue (s : Q) (v1 v2 : Int32) : Option (Int32 × Q) := (if (j_valid s v1) = (0:Int32) then some ((0:Int32), s) else (if inb s.f2.length v1 = true then (if (rd s.f2 v1) = (0:Int32) then ((j_hasRoom s).bind fun p46 => (if p46 = (0:Int32) then some ((0:Int32), s) else ((j_append s (1:Int32) v1 v2).bind fun p54 => (if inb p54.f4.length v1 = true then (if inb p54.f2.length v1 = true then some ((1:Int32), (Q.mk p54.f0 p54.f1 (wr p54.f2 v1 (11:Int32)) p54.f3 (wr p54.f4 v1 v2) p54.f5 p54.f6 p54.f7 p54.f8 p54.f9 p54.f10 p54.f11 p54.f12 p54.f13 p54.f14 p54.f15 p54.f16 p54.f17 p54.f18 p54.f19 p54.f20 p54.f21 p54.f22 p54.f23 p54.f24 p54.f25 p54.f26 p54.f27 p54.f28 p54.f29 p54.f30 p54.f31 p54.f32)) else none) else none)))) else some ((0:Int32), s)) else none))
set_option maxRecDepth 100000 in
theorem ev_j_startEnqueue (R : AHeap) (scr : List Int32) (s : Q) (v1 v2 : Int32) {res : Int32 × Q} {out : Option Value × AHeap} (h : j_startEnqueue s v1 v2 = some res) (hk : out = (some (.int res.1), (W1 scr res.2 R))) : Eval own_P 25 0 [some (.ref 1), some (.int v1), some (.int v2)] [] (W1 scr s R) out := by
 rw [j_startEnqueue] at h
 refine Eval.aload_n rfl rfl ?_
 refine Eval.iload_n rfl rfl ?_
 refine Eval.callI (rest := []) (x := (j_valid s v1)) (H1 := (W1 scr s R)) rfl rfl (ev_j_valid R scr s v1 rfl rfl) ?_
 by_cases hc32 : (j_valid s v1) = (0:Int32)
 ·rw [if_pos hc32] at h
  refine Eval.ifT (t := 24) rfl rfl (teq hc32).1 ?_
  refine Eval.iconst (x := 0) rfl rfl ?_
  cases h
  subst hk
  exact Eval.ret rfl rfl
 ·rw [if_neg hc32] at h
  refine Eval.ifF rfl (feq hc32).1 ?_
  refine Eval.aload_n rfl rfl ?_
  refine Eval.getfield rfl rfl own_g1_st ?_
  refine Eval.iload_n rfl rfl ?_
  obtain ⟨hb33, h⟩ := ite_some h
  refine Eval.iaload rfl own_a1_st hb33 ?_
  by_cases hc34 : (rd s.f2 v1) = (0:Int32)
  ·rw [if_pos hc34] at h
   refine Eval.ifF rfl (teq hc34).2 ?_
   refine Eval.aload_n rfl rfl ?_
   obtain ⟨p46, hq47, h⟩ := bind_some h
   refine Eval.callI (rest := []) (x := p46) (H1 := (W1 scr s R)) rfl rfl (ev_j_hasRoom R scr s hq47 rfl) ?_
   by_cases hc48 : p46 = (0:Int32)
   ·rw [if_pos hc48] at h
    refine Eval.ifF rfl (teq hc48).2 ?_
    refine Eval.iconst (x := 0) rfl rfl ?_
    cases h
    subst hk
    exact Eval.ret rfl rfl
   ·rw [if_neg hc48] at h
    refine Eval.ifT (t := 26) rfl rfl (feq hc48).2 ?_
    refine Eval.aload_n rfl rfl ?_
    refine Eval.iconst (x := 1) rfl rfl ?_
    refine Eval.iload_n rfl rfl ?_
    refine Eval.iload_n rfl rfl ?_
    obtain ⟨p54, hq55, h⟩ := bind_some h
    refine Eval.callN (rest := []) (H1 := (W1 scr p54 R)) rfl rfl (ev_j_append R scr s (1:Int32) v1 v2 hq55 rfl) ?_
    refine Eval.aload_n rfl rfl ?_
    refine Eval.getfield rfl rfl own_g1_locV ?_
    refine Eval.iload_n rfl rfl ?_
    refine Eval.iload_n rfl rfl ?_
    obtain ⟨hb57, h⟩ := ite_some h
    refine Eval.iastore rfl rfl own_a1_locV hb57 own_s1_locV ?_
    refine Eval.aload_n rfl rfl ?_
    refine Eval.getfield rfl rfl own_g1_st ?_
    refine Eval.iload_n rfl rfl ?_
    refine Eval.bipush (x := 11) rfl rfl ?_
    obtain ⟨hb58, h⟩ := ite_some h
    refine Eval.iastore rfl rfl own_a1_st hb58 own_s1_st ?_
    refine Eval.iconst (x := 1) rfl rfl ?_
    cases h
    subst hk
    exact Eval.retH own_mk1 rfl rfl
  ·rw [if_neg hc34] at h
   refine Eval.ifT (t := 24) rfl rfl (feq hc34).2 ?_
   refine Eval.iconst (x := 0) rfl rfl ?_
   cases h
   subst hk
   exact Eval.ret rfl rfl
def j_startDequeue (s : Q) (v1 : Int32) : Option (Int32 × Q) := (if (j_valid s v1) = (0:Int32) then some ((0:Int32), s) else (if inb s.f2.length v1 = true then (if (rd s.f2 v1) = (0:Int32) then ((j_hasRoom s).bind fun p67 => (if p67 = (0:Int32) then some ((0:Int32), s) else ((j_append s (2:Int32) v1 (0:Int32)).bind fun p70 => (if inb p70.f4.length v1 = true then (if inb p70.f2.length v1 = true then some ((1:Int32), (Q.mk p70.f0 p70.f1 (wr p70.f2 v1 (21:Int32)) p70.f3 (wr p70.f4 v1 (0:Int32)) p70.f5 p70.f6 p70.f7 p70.f8 p70.f9 p70.f10 p70.f11 p70.f12 p70.f13 p70.f14 p70.f15 p70.f16 p70.f17 p70.f18 p70.f19 p70.f20 p70.f21 p70.f22 p70.f23 p70.f24 p70.f25 p70.f26 p70.f27 p70.f28 p70.f29 p70.f30 p70.f31 p70.f32)) else none) else none)))) else some ((0:Int32), s)) else none))
set_option maxRecDepth 100000 in
theorem ev_j_startDequeue (R : AHeap) (scr : List Int32) (s : Q) (v1 : Int32) {res : Int32 × Q} {out : Option Value × AHeap} (h : j_startDequeue s v1 = some res) (hk : out = (some (.int res.1), (W1 scr res.2 R))) : Eval own_P 20 0 [some (.ref 1), some (.int v1)] [] (W1 scr s R) out := by
 rw [j_startDequeue] at h
 refine Eval.aload_n rfl rfl ?_
 refine Eval.iload_n rfl rfl ?_
 refine Eval.callI (rest := []) (x := (j_valid s v1)) (H1 := (W1 scr s R)) rfl rfl (ev_j_valid R scr s v1 rfl rfl) ?_
 by_cases hc64 : (j_valid s v1) = (0:Int32)
 ·rw [if_pos hc64] at h
  refine Eval.ifT (t := 24) rfl rfl (teq hc64).1 ?_
  refine Eval.iconst (x := 0) rfl rfl ?_
  cases h
  subst hk
  exact Eval.ret rfl rfl
 ·rw [if_neg hc64] at h
  refine Eval.ifF rfl (feq hc64).1 ?_
  refine Eval.aload_n rfl rfl ?_
  refine Eval.getfield rfl rfl own_g1_st ?_
  refine Eval.iload_n rfl rfl ?_
  obtain ⟨hb65, h⟩ := ite_some h
  refine Eval.iaload rfl own_a1_st hb65 ?_
  by_cases hc66 : (rd s.f2 v1) = (0:Int32)
  ·rw [if_pos hc66] at h
   refine Eval.ifF rfl (teq hc66).2 ?_
   refine Eval.aload_n rfl rfl ?_
   obtain ⟨p67, hq68, h⟩ := bind_some h
   refine Eval.callI (rest := []) (x := p67) (H1 := (W1 scr s R)) rfl rfl (ev_j_hasRoom R scr s hq68 rfl) ?_
   by_cases hc69 : p67 = (0:Int32)
   ·rw [if_pos hc69] at h
    refine Eval.ifF rfl (teq hc69).2 ?_
    refine Eval.iconst (x := 0) rfl rfl ?_
    cases h
    subst hk
    exact Eval.ret rfl rfl
   ·rw [if_neg hc69] at h
    refine Eval.ifT (t := 26) rfl rfl (feq hc69).2 ?_
    refine Eval.aload_n rfl rfl ?_
    refine Eval.iconst (x := 2) rfl rfl ?_
    refine Eval.iload_n rfl rfl ?_
    refine Eval.iconst (x := 0) rfl rfl ?_
    obtain ⟨p70, hq71, h⟩ := bind_some h
    refine Eval.callN (rest := []) (H1 := (W1 scr p70 R)) rfl rfl (ev_j_append R scr s (2:Int32) v1 (0:Int32) hq71 rfl) ?_
    refine Eval.aload_n rfl rfl ?_
    refine Eval.getfield rfl rfl own_g1_locV ?_
    refine Eval.iload_n rfl rfl ?_
    refine Eval.iconst (x := 0) rfl rfl ?_
    obtain ⟨hb73, h⟩ := ite_some h
    refine Eval.iastore rfl rfl own_a1_locV hb73 own_s1_locV ?_
    refine Eval.aload_n rfl rfl ?_
    refine Eval.getfield rfl rfl own_g1_st ?_
    refine Eval.iload_n rfl rfl ?_
    refine Eval.bipush (x := 21) rfl rfl ?_
    obtain ⟨hb74, h⟩ := ite_some h
    refine Eval.iastore rfl rfl own_a1_st hb74 own_s1_st ?_
    refine Eval.iconst (x := 1) rfl rfl ?_
    cases h
    subst hk
    exact Eval.retH own_mk1 rfl rfl
  ·rw [if_neg hc66] at h
   refine Eval.ifT (t := 24) rfl rfl (feq hc66).2 ?_
   refine Eval.iconst (x := 0) rfl rfl ?_
   cases h
   subst hk
   exact Eval.ret rfl rfl
abbrev j_run_l43_K (R : AHeap) (scr : List Int32) (res : (Q) ⊕ (Q)) (out : Option Value × AHeap) : Prop := Sum.elim (fun res => Eval own_P 4 57 [none, none, none, none, none] [] (W1 scr res R) out) (fun res => Eval own_P 4 65 [none, none, none, none, none] [] (W1 scr res R) out) res

abbrev j_run_l43_N (s : Q) (res : (Q) ⊕ (Q)) : Prop := Sum.elim (fun res => Q.len res = Q.len s) (fun res => Q.len res = Q.len s) res
def j_deqStep_b116 (s : Q) (w1 w2 : Int32) : Option (Int32 × Q) := (if inb s.f2.length w1 = true then some ((0:Int32), (Q.mk s.f0 s.f1 (wr s.f2 w1 w2) s.f3 s.f4 s.f5 s.f6 s.f7 s.f8 s.f9 s.f10 s.f11 s.f12 s.f13 s.f14 s.f15 s.f16 s.f17 s.f18 s.f19 s.f20 s.f21 s.f22 s.f23 s.f24 s.f25 s.f26 s.f27 s.f28 s.f29 s.f30 s.f31 s.f32)) else none)
set_option maxRecDepth 100000 in
theorem ev_j_deqStep_b116 (R : AHeap) (scr : List Int32) (s : Q) (w1 w2 : Int32) {res : Int32 × Q} {out : Option Value × AHeap} (h : j_deqStep_b116 s w1 w2 = some res) (hk : out = (some (.int res.1), (W1 scr res.2 R))) : Eval own_P 28 116 [none, none, none, none, none, none] [.int w2, .int w1, .ref 4] (W1 scr s R) out := by
 rw [j_deqStep_b116] at h
 obtain ⟨hb99, h⟩ := ite_some h
 refine Eval.iastore rfl rfl own_a1_st hb99 own_s1_st ?_
 refine Eval.iconst (x := 0) rfl rfl ?_
 cases h
 subst hk
 exact Eval.retH own_mk1 rfl rfl
def j_resKind (v1 : Int32) : Int32 := (if v1 = (2:Int32) then ((4:Int32)) else (if v1 = (3:Int32) then ((5:Int32)) else ((3:Int32))))
set_option maxRecDepth 100000 in
theorem ev_j_resKind (H : AHeap) (a : Nat) (v1 : Int32) {res : Int32} {out : Option Value × AHeap} (h : j_resKind v1 = res) (hk : out = (some (.int res), H)) : Eval own_P 31 0 [some (.ref a), some (.int v1)] [] H out := by
 rw [j_resKind] at h
 refine Eval.iload_n rfl rfl ?_
 refine Eval.iconst (x := 2) rfl rfl ?_
 by_cases hc108 : v1 = (2:Int32)
 ·rw [if_pos hc108] at h
  refine Eval.icmpF rfl (teq hc108).2 ?_
  refine Eval.iconst (x := 4) rfl rfl ?_
  subst h
  subst hk
  exact Eval.ret rfl rfl
 ·rw [if_neg hc108] at h
  refine Eval.icmpT (t := 7) rfl rfl (feq hc108).2 ?_
  refine Eval.iload_n rfl rfl ?_
  refine Eval.iconst (x := 3) rfl rfl ?_
  by_cases hc109 : v1 = (3:Int32)
  ·rw [if_pos hc109] at h
   refine Eval.icmpF rfl (teq hc109).2 ?_
   refine Eval.iconst (x := 5) rfl rfl ?_
   subst h
   subst hk
   exact Eval.ret rfl rfl
  ·rw [if_neg hc109] at h
   refine Eval.icmpT (t := 14) rfl rfl (feq hc109).2 ?_
   refine Eval.iconst (x := 3) rfl rfl ?_
   subst h
   subst hk
   exact Eval.ret rfl rfl
def j_finish (s : Q) (v1 v2 v3 : Int32) : Option (Q) := (if inb s.f5.length v1 = true then (if inb s.f6.length v1 = true then ((j_append (Q.mk s.f0 s.f1 s.f2 s.f3 s.f4 (wr s.f5 v1 v2) (wr s.f6 v1 v3) s.f7 s.f8 s.f9 s.f10 s.f11 s.f12 s.f13 s.f14 s.f15 s.f16 s.f17 s.f18 s.f19 s.f20 s.f21 s.f22 s.f23 s.f24 s.f25 s.f26 s.f27 s.f28 s.f29 s.f30 s.f31 s.f32) (j_resKind v2) v1 v3).bind fun p110 => (if inb p110.f2.length v1 = true then some ((Q.mk p110.f0 p110.f1 (wr p110.f2 v1 (0:Int32)) p110.f3 p110.f4 p110.f5 p110.f6 p110.f7 p110.f8 p110.f9 p110.f10 p110.f11 p110.f12 p110.f13 p110.f14 p110.f15 p110.f16 p110.f17 p110.f18 p110.f19 p110.f20 p110.f21 p110.f22 p110.f23 p110.f24 p110.f25 p110.f26 p110.f27 p110.f28 p110.f29 p110.f30 p110.f31 p110.f32)) else none)) else none) else none)
set_option maxRecDepth 100000 in
theorem ev_j_finish (R : AHeap) (scr : List Int32) (s : Q) (v1 v2 v3 : Int32) {res : Q} {out : Option Value × AHeap} (h : j_finish s v1 v2 v3 = some res) (hk : out = (none, (W1 scr res R))) : Eval own_P 30 0 [some (.ref 1), some (.int v1), some (.int v2), some (.int v3), none] [] (W1 scr s R) out := by
 rw [j_finish] at h
 refine Eval.aload_n rfl rfl ?_
 refine Eval.getfield rfl rfl own_g1_lastSt ?_
 refine Eval.iload_n rfl rfl ?_
 refine Eval.iload_n rfl rfl ?_
 obtain ⟨hb106, h⟩ := ite_some h
 refine Eval.iastore rfl rfl own_a1_lastSt hb106 own_s1_lastSt ?_
 refine Eval.aload_n rfl rfl ?_
 refine Eval.getfield rfl rfl own_g1_lastVal ?_
 refine Eval.iload_n rfl rfl ?_
 refine Eval.iload_n rfl rfl ?_
 obtain ⟨hb107, h⟩ := ite_some h
 refine Eval.iastore rfl rfl own_a1_lastVal hb107 own_s1_lastVal ?_
 refine Eval.aload_n rfl rfl ?_
 refine Eval.iload_n rfl rfl ?_
 refine Eval.callI (rest := []) (x := (j_resKind v2)) (H1 := (C1 scr s.f0 s.f1 s.f2 s.f3 s.f4 (wr s.f5 v1 v2) (wr s.f6 v1 v3) s.f7 s.f8 s.f9 s.f10 s.f11 s.f12 s.f13 s.f14 s.f15 s.f16 s.f17 s.f18 s.f19 s.f20 s.f21 s.f22 s.f23 s.f24 s.f25 s.f26 s.f27 s.f28 s.f29 s.f30 s.f31 s.f32 R)) rfl rfl (ev_j_resKind (C1 scr s.f0 s.f1 s.f2 s.f3 s.f4 (wr s.f5 v1 v2) (wr s.f6 v1 v3) s.f7 s.f8 s.f9 s.f10 s.f11 s.f12 s.f13 s.f14 s.f15 s.f16 s.f17 s.f18 s.f19 s.f20 s.f21 s.f22 s.f23 s.f24 s.f25 s.f26 s.f27 s.f28 s.f29 s.f30 s.f31 s.f32 R) 1 v2 rfl rfl) ?_
 refine Eval.istore (L' := [some (.ref 1), some (.int v1), some (.int v2), some (.int v3), some (.int (j_resKind v2))]) rfl rfl ?_
 refine Eval.aload_n rfl rfl ?_
 refine Eval.iload rfl rfl ?_
 refine Eval.iload_n rfl rfl ?_
 refine Eval.iload_n rfl rfl ?_
 obtain ⟨p110, hq111, h⟩ := bind_some h
 refine Eval.callN (rest := []) (H1 := (W1 scr p110 R)) rfl rfl (Eval.heap own_mk1 (ev_j_append R scr (Q.mk s.f0 s.f1 s.f2 s.f3 s.f4 (wr s.f5 v1 v2) (wr s.f6 v1 v3) s.f7 s.f8 s.f9 s.f10 s.f11 s.f12 s.f13 s.f14 s.f15 s.f16 s.f17 s.f18 s.f19 s.f20 s.f21 s.f22 s.f23 s.f24 s.f25 s.f26 s.f27 s.f28 s.f29 s.f30 s.f31 s.f32) (j_resKind v2) v1 v3 hq111 rfl)) ?_
 refine Eval.aload_n rfl rfl ?_
 refine Eval.getfield rfl rfl own_g1_st ?_
 refine Eval.iload_n rfl rfl ?_
 refine Eval.iconst (x := 0) rfl rfl ?_
 obtain ⟨hb113, h⟩ := ite_some h
 refine Eval.iastore rfl rfl own_a1_st hb113 own_s1_st ?_
 cases h
 subst hk
 exact Eval.retH own_mk1 rfl rfl
def j_deqStep (s : Q) (v1 v2 : Int32) : Option (Int32 × Q) := (if inb s.f3.length v1 = true then (if v2 = (21:Int32) then (if inb s.f3.length v1 = true then (if inb s.f2.length v1 = true then some ((0:Int32), (Q.mk s.f0 s.f1 (wr s.f2 v1 (22:Int32)) (wr s.f3 v1 s.f27) s.f4 s.f5 s.f6 s.f7 s.f8 s.f9 s.f10 s.f11 s.f12 s.f13 s.f14 s.f15 s.f16 s.f17 s.f18 s.f19 s.f20 s.f21 s.f22 s.f23 s.f24 s.f25 s.f26 s.f27 s.f28 s.f29 s.f30 s.f31 s.f32)) else none) else none) else (if v2 = (22:Int32) then (if inb s.f0.length ((rd s.f3 v1) &&& s.f26) = true then (j_deqStep_b116 s v1 (if ((rd s.f0 ((rd s.f3 v1) &&& s.f26)) - ((rd s.f3 v1) + (1:Int32))) = (0:Int32) then (23:Int32) else (if ((rd s.f0 ((rd s.f3 v1) &&& s.f26)) - ((rd s.f3 v1) + (1:Int32))) < (0:Int32) then (24:Int32) else (21:Int32)))) else none) else (if v2 = (23:Int32) then (if s.f27 = (rd s.f3 v1) then (if inb s.f2.length v1 = true then some ((0:Int32), (Q.mk s.f0 s.f1 (wr s.f2 v1 (25:Int32)) s.f3 s.f4 s.f5 s.f6 s.f7 s.f8 s.f9 s.f10 s.f11 s.f12 s.f13 s.f14 s.f15 s.f16 s.f17 s.f18 s.f19 s.f20 s.f21 s.f22 s.f23 s.f24 s.f25 s.f26 ((rd s.f3 v1) + (1:Int32)) s.f28 s.f29 s.f30 s.f31 s.f32)) else none) else (if inb s.f2.length v1 = true then some ((0:Int32), (Q.mk s.f0 s.f1 (wr s.f2 v1 (21:Int32)) s.f3 s.f4 s.f5 s.f6 s.f7 s.f8 s.f9 s.f10 s.f11 s.f12 s.f13 s.f14 s.f15 s.f16 s.f17 s.f18 s.f19 s.f20 s.f21 s.f22 s.f23 s.f24 s.f25 s.f26 s.f27 s.f28 s.f29 s.f30 s.f31 s.f32)) else none)) else (if v2 = (24:Int32) then (if s.f28 = (rd s.f3 v1) then ((j_finish s v1 (3:Int32) (0:Int32)).bind fun p114 => some ((1:Int32), p114)) else (if inb s.f2.length v1 = true then some ((0:Int32), (Q.mk s.f0 s.f1 (wr s.f2 v1 (21:Int32)) s.f3 s.f4 s.f5 s.f6 s.f7 s.f8 s.f9 s.f10 s.f11 s.f12 s.f13 s.f14 s.f15 s.f16 s.f17 s.f18 s.f19 s.f20 s.f21 s.f22 s.f23 s.f24 s.f25 s.f26 s.f27 s.f28 s.f29 s.f30 s.f31 s.f32)) else none)) else (if v2 = (25:Int32) then (if inb s.f1.length ((rd s.f3 v1) &&& s.f26) = true then (if inb s.f4.length v1 = true then (if inb s.f2.length v1 = true then some ((0:Int32), (Q.mk s.f0 s.f1 (wr s.f2 v1 (26:Int32)) s.f3 (wr s.f4 v1 (rd s.f1 ((rd s.f3 v1) &&& s.f26))) s.f5 s.f6 s.f7 s.f8 s.f9 s.f10 s.f11 s.f12 s.f13 s.f14 s.f15 s.f16 s.f17 s.f18 s.f19 s.f20 s.f21 s.f22 s.f23 s.f24 s.f25 s.f26 s.f27 s.f28 s.f29 s.f30 s.f31 s.f32)) else none) else none) else none) else (if v2 = (26:Int32) then (if inb s.f0.length ((rd s.f3 v1) &&& s.f26) = true then (if inb s.f4.length v1 = true then ((j_finish (Q.mk (wr s.f0 ((rd s.f3 v1) &&& s.f26) ((rd s.f3 v1) + s.f25)) s.f1 s.f2 s.f3 s.f4 s.f5 s.f6 s.f7 s.f8 s.f9 s.f10 s.f11 s.f12 s.f13 s.f14 s.f15 s.f16 s.f17 s.f18 s.f19 s.f20 s.f21 s.f22 s.f23 s.f24 s.f25 s.f26 s.f27 s.f28 s.f29 s.f30 s.f31 s.f32) v1 (1:Int32) (rd s.f4 v1)).bind fun p125 => some ((1:Int32), p125)) else none) else none) else some ((0:Int32), s))))))) else none)
set_option maxRecDepth 100000 in
theorem ev_j_deqStep (R : AHeap) (scr : List Int32) (s : Q) (v1 v2 : Int32) {res : Int32 × Q} {out : Option Value × AHeap} (h : j_deqStep s v1 v2 = some res) (hk : out = (some (.int res.1), (W1 scr res.2 R))) : Eval own_P 28 0 [some (.ref 1), some (.int v1), some (.int v2), none, none, none] [] (W1 scr s R) out := by
 rw [j_deqStep] at h
 refine Eval.aload_n rfl rfl ?_
 refine Eval.getfield rfl rfl own_g1_locP ?_
 refine Eval.iload_n rfl rfl ?_
 obtain ⟨hb90, h⟩ := ite_some h
 refine Eval.iaload rfl own_a1_locP hb90 ?_
 refine Eval.istore_n (L' := [some (.ref 1), some (.int v1), some (.int v2), some (.int (rd s.f3 v1)), none, none]) rfl rfl ?_
 refine Eval.iload_n rfl rfl ?_
 refine Eval.aload_n rfl rfl ?_
 refine Eval.getfield rfl rfl own_g1_mask ?_
 refine Eval.iand rfl ?_
 refine Eval.istore (L' := [some (.ref 1), some (.int v1), some (.int v2), some (.int (rd s.f3 v1)), some (.int ((rd s.f3 v1) &&& s.f26)), none]) rfl rfl ?_
 refine Eval.iload_n rfl rfl ?_
 by_cases hc91 : v2 = (21:Int32)
 ·rw [if_pos hc91] at h
  refine Eval.tswIn (t := 56) rfl (by rw [hc91]; rfl) (by rw [hc91]; rfl) rfl ?_
  refine Eval.aload_n rfl rfl ?_
  refine Eval.getfield rfl rfl own_g1_locP ?_
  refine Eval.iload_n rfl rfl ?_
  refine Eval.aload_n rfl rfl ?_
  refine Eval.getfield rfl rfl own_g1_head ?_
  obtain ⟨hb92, h⟩ := ite_some h
  refine Eval.iastore rfl rfl own_a1_locP hb92 own_s1_locP ?_
  refine Eval.aload_n rfl rfl ?_
  refine Eval.getfield rfl rfl own_g1_st ?_
  refine Eval.iload_n rfl rfl ?_
  refine Eval.bipush (x := 22) rfl rfl ?_
  obtain ⟨hb93, h⟩ := ite_some h
  refine Eval.iastore rfl rfl own_a1_st hb93 own_s1_st ?_
  refine Eval.iconst (x := 0) rfl rfl ?_
  cases h
  subst hk
  exact Eval.retH own_mk1 rfl rfl
 rw [if_neg hc91] at h
 by_cases hc94 : v2 = (22:Int32)
 ·rw [if_pos hc94] at h
  refine Eval.tswIn (t := 76) rfl (by rw [hc94]; rfl) (by rw [hc94]; rfl) rfl ?_
  refine Eval.aload_n rfl rfl ?_
  refine Eval.getfield rfl rfl own_g1_seq ?_
  refine Eval.iload rfl rfl ?_
  obtain ⟨hb95, h⟩ := ite_some h
  refine Eval.iaload rfl own_a1_seq hb95 ?_
  refine Eval.iload_n rfl rfl ?_
  refine Eval.iconst (x := 1) rfl rfl ?_
  refine Eval.iadd rfl ?_
  refine Eval.isub rfl ?_
  refine Eval.istore (L' := [some (.ref 1), some (.int v1), some (.int v2), some (.int (rd s.f3 v1)), some (.int ((rd s.f3 v1) &&& s.f26)), some (.int ((rd s.f0 ((rd s.f3 v1) &&& s.f26)) - ((rd s.f3 v1) + (1:Int32))))]) rfl rfl ?_
  refine Eval.aload_n rfl rfl ?_
  refine Eval.getfield rfl rfl own_g1_st ?_
  refine Eval.iload_n rfl rfl ?_
  refine Eval.iload rfl rfl ?_
  suffices hJ98 : Eval own_P 28 116 [none, none, none, none, none, none] [.int (if ((rd s.f0 ((rd s.f3 v1) &&& s.f26)) - ((rd s.f3 v1) + (1:Int32))) = (0:Int32) then (23:Int32) else (if ((rd s.f0 ((rd s.f3 v1) &&& s.f26)) - ((rd s.f3 v1) + (1:Int32))) < (0:Int32) then (24:Int32) else (21:Int32))), .int v1, .ref 4] (W1 scr s R) out by
   by_cases hc96 : ((rd s.f0 ((rd s.f3 v1) &&& s.f26)) - ((rd s.f3 v1) + (1:Int32))) = (0:Int32)
   ·refine Eval.ifF rfl (teq hc96).2 ?_
    refine Eval.bipush (x := 23) rfl rfl ?_
    refine Eval.goto (t := 116) rfl rfl ?_
    refine Eval.weak (lw_mk 0 _) ?_
    exact (Eval.conv hJ98 rfl (by simp only [if_pos hc96]))
   ·refine Eval.ifT (t := 104) rfl rfl (feq hc96).2 ?_
    refine Eval.iload rfl rfl ?_
    by_cases hc97 : ((rd s.f0 ((rd s.f3 v1) &&& s.f26)) - ((rd s.f3 v1) + (1:Int32))) < (0:Int32)
    ·refine Eval.ifF rfl (tlt hc97).2.1 ?_
     refine Eval.bipush (x := 24) rfl rfl ?_
     refine Eval.goto (t := 116) rfl rfl ?_
     refine Eval.weak (lw_mk 0 _) ?_
     exact (Eval.conv hJ98 rfl (by simp only [if_neg hc96, if_pos hc97]))
    ·refine Eval.ifT (t := 114) rfl rfl (flt hc97).2.1 ?_
     refine Eval.bipush (x := 21) rfl rfl ?_
     refine Eval.weak (lw_mk 0 _) ?_
     exact (Eval.conv hJ98 rfl (by simp only [if_neg hc96, if_neg hc97]))
  exact ev_j_deqStep_b116 R scr s v1 (if ((rd s.f0 ((rd s.f3 v1) &&& s.f26)) - ((rd s.f3 v1) + (1:Int32))) = (0:Int32) then (23:Int32) else (if ((rd s.f0 ((rd s.f3 v1) &&& s.f26)) - ((rd s.f3 v1) + (1:Int32))) < (0:Int32) then (24:Int32) else (21:Int32))) h hk
 rw [if_neg hc94] at h
 by_cases hc100 : v2 = (23:Int32)
 ·rw [if_pos hc100] at h
  refine Eval.tswIn (t := 119) rfl (by rw [hc100]; rfl) (by rw [hc100]; rfl) rfl ?_
  refine Eval.aload_n rfl rfl ?_
  refine Eval.getfield rfl rfl own_g1_head ?_
  refine Eval.iload_n rfl rfl ?_
  by_cases hc101 : s.f27 = (rd s.f3 v1)
  ·rw [if_pos hc101] at h
   refine Eval.icmpF rfl (teq hc101).2 ?_
   refine Eval.aload_n rfl rfl ?_
   refine Eval.iload_n rfl rfl ?_
   refine Eval.iconst (x := 1) rfl rfl ?_
   refine Eval.iadd rfl ?_
   refine Eval.putfield rfl rfl own_p1_head ?_
   refine Eval.aload_n rfl rfl ?_
   refine Eval.getfield rfl rfl own_g1_st ?_
   refine Eval.iload_n rfl rfl ?_
   refine Eval.bipush (x := 25) rfl rfl ?_
   obtain ⟨hb102, h⟩ := ite_some h
   refine Eval.iastore rfl rfl own_a1_st hb102 own_s1_st ?_
   refine Eval.goto (t := 153) rfl rfl ?_
   refine Eval.iconst (x := 0) rfl rfl ?_
   cases h
   subst hk
   exact Eval.retH own_mk1 rfl rfl
  ·rw [if_neg hc101] at h
   refine Eval.icmpT (t := 145) rfl rfl (feq hc101).2 ?_
   refine Eval.aload_n rfl rfl ?_
   refine Eval.getfield rfl rfl own_g1_st ?_
   refine Eval.iload_n rfl rfl ?_
   refine Eval.bipush (x := 21) rfl rfl ?_
   obtain ⟨hb103, h⟩ := ite_some h
   refine Eval.iastore rfl rfl own_a1_st hb103 own_s1_st ?_
   refine Eval.iconst (x := 0) rfl rfl ?_
   cases h
   subst hk
   exact Eval.retH own_mk1 rfl rfl
 rw [if_neg hc100] at h
 by_cases hc104 : v2 = (24:Int32)
 ·rw [if_pos hc104] at h
  refine Eval.tswIn (t := 155) rfl (by rw [hc104]; rfl) (by rw [hc104]; rfl) rfl ?_
  refine Eval.aload_n rfl rfl ?_
  refine Eval.getfield rfl rfl own_g1_tail ?_
  refine Eval.iload_n rfl rfl ?_
  by_cases hc105 : s.f28 = (rd s.f3 v1)
  ·rw [if_pos hc105] at h
   refine Eval.icmpF rfl (teq hc105).2 ?_
   refine Eval.aload_n rfl rfl ?_
   refine Eval.iload_n rfl rfl ?_
   refine Eval.iconst (x := 3) rfl rfl ?_
   refine Eval.iconst (x := 0) rfl rfl ?_
   obtain ⟨p114, hq115, h⟩ := bind_some h
   refine Eval.callN (rest := []) (H1 := (W1 scr p114 R)) rfl rfl (ev_j_finish R scr s v1 (3:Int32) (0:Int32) hq115 rfl) ?_
   refine Eval.iconst (x := 1) rfl rfl ?_
   cases h
   subst hk
   exact Eval.ret rfl rfl
  ·rw [if_neg hc105] at h
   refine Eval.icmpT (t := 172) rfl rfl (feq hc105).2 ?_
   refine Eval.aload_n rfl rfl ?_
   refine Eval.getfield rfl rfl own_g1_st ?_
   refine Eval.iload_n rfl rfl ?_
   refine Eval.bipush (x := 21) rfl rfl ?_
   obtain ⟨hb117, h⟩ := ite_some h
   refine Eval.iastore rfl rfl own_a1_st hb117 own_s1_st ?_
   refine Eval.iconst (x := 0) rfl rfl ?_
   cases h
   subst hk
   exact Eval.retH own_mk1 rfl rfl
 rw [if_neg hc104] at h
 by_cases hc118 : v2 = (25:Int32)
 ·rw [if_pos hc118] at h
  refine Eval.tswIn (t := 182) rfl (by rw [hc118]; rfl) (by rw [hc118]; rfl) rfl ?_
  refine Eval.aload_n rfl rfl ?_
  refine Eval.getfield rfl rfl own_g1_locV ?_
  refine Eval.iload_n rfl rfl ?_
  refine Eval.aload_n rfl rfl ?_
  refine Eval.getfield rfl rfl own_g1_val ?_
  refine Eval.iload rfl rfl ?_
  obtain ⟨hb119, h⟩ := ite_some h
  refine Eval.iaload rfl own_a1_val hb119 ?_
  obtain ⟨hb120, h⟩ := ite_some h
  refine Eval.iastore rfl rfl own_a1_locV hb120 own_s1_locV ?_
  refine Eval.aload_n rfl rfl ?_
  refine Eval.getfield rfl rfl own_g1_st ?_
  refine Eval.iload_n rfl rfl ?_
  refine Eval.bipush (x := 26) rfl rfl ?_
  obtain ⟨hb121, h⟩ := ite_some h
  refine Eval.iastore rfl rfl own_a1_st hb121 own_s1_st ?_
  refine Eval.iconst (x := 0) rfl rfl ?_
  cases h
  subst hk
  exact Eval.retH own_mk1 rfl rfl
 rw [if_neg hc118] at h
 by_cases hc122 : v2 = (26:Int32)
 ·rw [if_pos hc122] at h
  refine Eval.tswIn (t := 205) rfl (by rw [hc122]; rfl) (by rw [hc122]; rfl) rfl ?_
  refine Eval.aload_n rfl rfl ?_
  refine Eval.getfield rfl rfl own_g1_seq ?_
  refine Eval.iload rfl rfl ?_
  refine Eval.iload_n rfl rfl ?_
  refine Eval.aload_n rfl rfl ?_
  refine Eval.getfield rfl rfl own_g1_cap ?_
  refine Eval.iadd rfl ?_
  obtain ⟨hb123, h⟩ := ite_some h
  refine Eval.iastore rfl rfl own_a1_seq hb123 own_s1_seq ?_
  refine Eval.aload_n rfl rfl ?_
  refine Eval.iload_n rfl rfl ?_
  refine Eval.iconst (x := 1) rfl rfl ?_
  refine Eval.aload_n rfl rfl ?_
  refine Eval.getfield rfl rfl own_g1_locV ?_
  refine Eval.iload_n rfl rfl ?_
  obtain ⟨hb124, h⟩ := ite_some h
  refine Eval.iaload rfl own_a1_locV hb124 ?_
  obtain ⟨p125, hq126, h⟩ := bind_some h
  refine Eval.callN (rest := []) (H1 := (W1 scr p125 R)) rfl rfl (Eval.heap own_mk1 (ev_j_finish R scr (Q.mk (wr s.f0 ((rd s.f3 v1) &&& s.f26) ((rd s.f3 v1) + s.f25)) s.f1 s.f2 s.f3 s.f4 s.f5 s.f6 s.f7 s.f8 s.f9 s.f10 s.f11 s.f12 s.f13 s.f14 s.f15 s.f16 s.f17 s.f18 s.f19 s.f20 s.f21 s.f22 s.f23 s.f24 s.f25 s.f26 s.f27 s.f28 s.f29 s.f30 s.f31 s.f32) v1 (1:Int32) (rd s.f4 v1) hq126 rfl)) ?_
  refine Eval.iconst (x := 1) rfl rfl ?_
  cases h
  subst hk
  exact Eval.ret rfl rfl
 rw [if_neg hc122] at h
 refine Eval.tswOut (t := 232) rfl (by have e0 : Int32.toInt v2 ≠ 21 := fun q => hc91 (Int32.toInt_inj.mp q); have e1 : Int32.toInt v2 ≠ 22 := fun q => hc94 (Int32.toInt_inj.mp q); have e2 : Int32.toInt v2 ≠ 23 := fun q => hc100 (Int32.toInt_inj.mp q); have e3 : Int32.toInt v2 ≠ 24 := fun q => hc104 (Int32.toInt_inj.mp q); have e4 : Int32.toInt v2 ≠ 25 := fun q => hc118 (Int32.toInt_inj.mp q); have e5 : Int32.toInt v2 ≠ 26 := fun q => hc122 (Int32.toInt_inj.mp q); simp only [Bool.or_eq_true, decide_eq_true_eq]; omega) rfl ?_
 refine Eval.iconst (x := 0) rfl rfl ?_
 cases h
 subst hk
 exact Eval.ret rfl rfl
def j_doStep_b26 (s : Q) (v1 v2 : Int32) : Option (Int32 × Q) := (if v2 < (21:Int32) then some ((0:Int32), s) else (if (26:Int32) < v2 then some ((0:Int32), s) else ((j_deqStep s v1 v2).bind fun p128 => some ((p128.1 &&& 1), p128.2))))
set_option maxRecDepth 100000 in
theorem ev_j_doStep_b26 (R : AHeap) (scr : List Int32) (s : Q) (v1 v2 : Int32) {res : Int32 × Q} {out : Option Value × AHeap} (h : j_doStep_b26 s v1 v2 = some res) (hk : out = (some (.int res.1), (W1 scr res.2 R))) : Eval own_P 26 26 [some (.ref 1), some (.int v1), some (.int v2)] [] (W1 scr s R) out := by
 rw [j_doStep_b26] at h
 refine Eval.iload_n rfl rfl ?_
 refine Eval.bipush (x := 21) rfl rfl ?_
 by_cases hc88 : v2 < (21:Int32)
 ·rw [if_pos hc88] at h
  refine Eval.icmpT (t := 45) rfl rfl (tlt hc88).1 ?_
  refine Eval.iconst (x := 0) rfl rfl ?_
  cases h
  subst hk
  exact Eval.ret rfl rfl
 ·rw [if_neg hc88] at h
  refine Eval.icmpF rfl (flt hc88).1 ?_
  refine Eval.iload_n rfl rfl ?_
  refine Eval.bipush (x := 26) rfl rfl ?_
  by_cases hc89 : (26:Int32) < v2
  ·rw [if_pos hc89] at h
   refine Eval.icmpT (t := 45) rfl rfl (tlt hc89).2.2.1 ?_
   refine Eval.iconst (x := 0) rfl rfl ?_
   cases h
   subst hk
   exact Eval.ret rfl rfl
  ·rw [if_neg hc89] at h
   refine Eval.icmpF rfl (flt hc89).2.2.1 ?_
   refine Eval.aload_n rfl rfl ?_
   refine Eval.iload_n rfl rfl ?_
   refine Eval.iload_n rfl rfl ?_
   obtain ⟨p128, hq129, h⟩ := bind_some h
   refine Eval.callI (rest := []) (x := p128.1) (H1 := (W1 scr p128.2 R)) rfl rfl (ev_j_deqStep R scr s v1 v2 hq129 rfl) ?_
   cases h
   subst hk
   exact Eval.ret rfl rfl
def j_enqStep_b114 (s : Q) (w1 w2 : Int32) : Option (Int32 × Q) := (if inb s.f2.length w1 = true then some ((0:Int32), (Q.mk s.f0 s.f1 (wr s.f2 w1 w2) s.f3 s.f4 s.f5 s.f6 s.f7 s.f8 s.f9 s.f10 s.f11 s.f12 s.f13 s.f14 s.f15 s.f16 s.f17 s.f18 s.f19 s.f20 s.f21 s.f22 s.f23 s.f24 s.f25 s.f26 s.f27 s.f28 s.f29 s.f30 s.f31 s.f32)) else none)
set_option maxRecDepth 100000 in
theorem ev_j_enqStep_b114 (R : AHeap) (scr : List Int32) (s : Q) (w1 w2 : Int32) {res : Int32 × Q} {out : Option Value × AHeap} (h : j_enqStep_b114 s w1 w2 = some res) (hk : out = (some (.int res.1), (W1 scr res.2 R))) : Eval own_P 27 114 [none, none, none, none, none, none] [.int w2, .int w1, .ref 4] (W1 scr s R) out := by
 rw [j_enqStep_b114] at h
 obtain ⟨hb141, h⟩ := ite_some h
 refine Eval.iastore rfl rfl own_a1_st hb141 own_s1_st ?_
 refine Eval.iconst (x := 0) rfl rfl ?_
 cases h
 subst hk
 exact Eval.retH own_mk1 rfl rfl
def j_enqStep (s : Q) (v1 v2 : Int32) : Option (Int32 × Q) := (if inb s.f3.length v1 = true then (if v2 = (11:Int32) then (if inb s.f3.length v1 = true then (if inb s.f2.length v1 = true then some ((0:Int32), (Q.mk s.f0 s.f1 (wr s.f2 v1 (12:Int32)) (wr s.f3 v1 s.f28) s.f4 s.f5 s.f6 s.f7 s.f8 s.f9 s.f10 s.f11 s.f12 s.f13 s.f14 s.f15 s.f16 s.f17 s.f18 s.f19 s.f20 s.f21 s.f22 s.f23 s.f24 s.f25 s.f26 s.f27 s.f28 s.f29 s.f30 s.f31 s.f32)) else none) else none) else (if v2 = (12:Int32) then (if inb s.f0.length ((rd s.f3 v1) &&& s.f26) = true then (j_enqStep_b114 s v1 (if ((rd s.f0 ((rd s.f3 v1) &&& s.f26)) - (rd s.f3 v1)) = (0:Int32) then (13:Int32) else (if ((rd s.f0 ((rd s.f3 v1) &&& s.f26)) - (rd s.f3 v1)) < (0:Int32) then (14:Int32) else (11:Int32)))) else none) else (if v2 = (13:Int32) then (if s.f28 = (rd s.f3 v1) then (if inb s.f2.length v1 = true then some ((0:Int32), (Q.mk s.f0 s.f1 (wr s.f2 v1 (15:Int32)) s.f3 s.f4 s.f5 s.f6 s.f7 s.f8 s.f9 s.f10 s.f11 s.f12 s.f13 s.f14 s.f15 s.f16 s.f17 s.f18 s.f19 s.f20 s.f21 s.f22 s.f23 s.f24 s.f25 s.f26 s.f27 ((rd s.f3 v1) + (1:Int32)) s.f29 s.f30 s.f31 s.f32)) else none) else (if inb s.f2.length v1 = true then some ((0:Int32), (Q.mk s.f0 s.f1 (wr s.f2 v1 (11:Int32)) s.f3 s.f4 s.f5 s.f6 s.f7 s.f8 s.f9 s.f10 s.f11 s.f12 s.f13 s.f14 s.f15 s.f16 s.f17 s.f18 s.f19 s.f20 s.f21 s.f22 s.f23 s.f24 s.f25 s.f26 s.f27 s.f28 s.f29 s.f30 s.f31 s.f32)) else none)) else (if v2 = (14:Int32) then (if ((rd s.f3 v1) - s.f27) = s.f25 then ((j_finish s v1 (2:Int32) (0:Int32)).bind fun p148 => some ((1:Int32), p148)) else (if inb s.f2.length v1 = true then some ((0:Int32), (Q.mk s.f0 s.f1 (wr s.f2 v1 (11:Int32)) s.f3 s.f4 s.f5 s.f6 s.f7 s.f8 s.f9 s.f10 s.f11 s.f12 s.f13 s.f14 s.f15 s.f16 s.f17 s.f18 s.f19 s.f20 s.f21 s.f22 s.f23 s.f24 s.f25 s.f26 s.f27 s.f28 s.f29 s.f30 s.f31 s.f32)) else none)) else (if v2 = (15:Int32) then (if inb s.f4.length v1 = true then (if inb s.f1.length ((rd s.f3 v1) &&& s.f26) = true then (if inb s.f2.length v1 = true then some ((0:Int32), (Q.mk s.f0 (wr s.f1 ((rd s.f3 v1) &&& s.f26) (rd s.f4 v1)) (wr s.f2 v1 (16:Int32)) s.f3 s.f4 s.f5 s.f6 s.f7 s.f8 s.f9 s.f10 s.f11 s.f12 s.f13 s.f14 s.f15 s.f16 s.f17 s.f18 s.f19 s.f20 s.f21 s.f22 s.f23 s.f24 s.f25 s.f26 s.f27 s.f28 s.f29 s.f30 s.f31 s.f32)) else none) else none) else none) else (if v2 = (16:Int32) then (if inb s.f0.length ((rd s.f3 v1) &&& s.f26) = true then ((j_finish (Q.mk (wr s.f0 ((rd s.f3 v1) &&& s.f26) ((rd s.f3 v1) + (1:Int32))) s.f1 s.f2 s.f3 s.f4 s.f5 s.f6 s.f7 s.f8 s.f9 s.f10 s.f11 s.f12 s.f13 s.f14 s.f15 s.f16 s.f17 s.f18 s.f19 s.f20 s.f21 s.f22 s.f23 s.f24 s.f25 s.f26 s.f27 s.f28 s.f29 s.f30 s.f31 s.f32) v1 (1:Int32) (0:Int32)).bind fun p158 => some ((1:Int32), p158)) else none) else some ((0:Int32), s))))))) else none)
set_option maxRecDepth 100000 in
theorem ev_j_enqStep (R : AHeap) (scr : List Int32) (s : Q) (v1 v2 : Int32) {res : Int32 × Q} {out : Option Value × AHeap} (h : j_enqStep s v1 v2 = some res) (hk : out = (some (.int res.1), (W1 scr res.2 R))) : Eval own_P 27 0 [some (.ref 1), some (.int v1), some (.int v2), none, none, none] [] (W1 scr s R) out := by
 rw [j_enqStep] at h
 refine Eval.aload_n rfl rfl ?_
 refine Eval.getfield rfl rfl own_g1_locP ?_
 refine Eval.iload_n rfl rfl ?_
 obtain ⟨hb132, h⟩ := ite_some h
 refine Eval.iaload rfl own_a1_locP hb132 ?_
 refine Eval.istore_n (L' := [some (.ref 1), some (.int v1), some (.int v2), some (.int (rd s.f3 v1)), none, none]) rfl rfl ?_
 refine Eval.iload_n rfl rfl ?_
 refine Eval.aload_n rfl rfl ?_
 refine Eval.getfield rfl rfl own_g1_mask ?_
 refine Eval.iand rfl ?_
 refine Eval.istore (L' := [some (.ref 1), some (.int v1), some (.int v2), some (.int (rd s.f3 v1)), some (.int ((rd s.f3 v1) &&& s.f26)), none]) rfl rfl ?_
 refine Eval.iload_n rfl rfl ?_
 by_cases hc133 : v2 = (11:Int32)
 ·rw [if_pos hc133] at h
  refine Eval.tswIn (t := 56) rfl (by rw [hc133]; rfl) (by rw [hc133]; rfl) rfl ?_
  refine Eval.aload_n rfl rfl ?_
  refine Eval.getfield rfl rfl own_g1_locP ?_
  refine Eval.iload_n rfl rfl ?_
  refine Eval.aload_n rfl rfl ?_
  refine Eval.getfield rfl rfl own_g1_tail ?_
  obtain ⟨hb134, h⟩ := ite_some h
  refine Eval.iastore rfl rfl own_a1_locP hb134 own_s1_locP ?_
  refine Eval.aload_n rfl rfl ?_
  refine Eval.getfield rfl rfl own_g1_st ?_
  refine Eval.iload_n rfl rfl ?_
  refine Eval.bipush (x := 12) rfl rfl ?_
  obtain ⟨hb135, h⟩ := ite_some h
  refine Eval.iastore rfl rfl own_a1_st hb135 own_s1_st ?_
  refine Eval.iconst (x := 0) rfl rfl ?_
  cases h
  subst hk
  exact Eval.retH own_mk1 rfl rfl
 rw [if_neg hc133] at h
 by_cases hc136 : v2 = (12:Int32)
 ·rw [if_pos hc136] at h
  refine Eval.tswIn (t := 76) rfl (by rw [hc136]; rfl) (by rw [hc136]; rfl) rfl ?_
  refine Eval.aload_n rfl rfl ?_
  refine Eval.getfield rfl rfl own_g1_seq ?_
  refine Eval.iload rfl rfl ?_
  obtain ⟨hb137, h⟩ := ite_some h
  refine Eval.iaload rfl own_a1_seq hb137 ?_
  refine Eval.iload_n rfl rfl ?_
  refine Eval.isub rfl ?_
  refine Eval.istore (L' := [some (.ref 1), some (.int v1), some (.int v2), some (.int (rd s.f3 v1)), some (.int ((rd s.f3 v1) &&& s.f26)), some (.int ((rd s.f0 ((rd s.f3 v1) &&& s.f26)) - (rd s.f3 v1)))]) rfl rfl ?_
  refine Eval.aload_n rfl rfl ?_
  refine Eval.getfield rfl rfl own_g1_st ?_
  refine Eval.iload_n rfl rfl ?_
  refine Eval.iload rfl rfl ?_
  suffices hJ140 : Eval own_P 27 114 [none, none, none, none, none, none] [.int (if ((rd s.f0 ((rd s.f3 v1) &&& s.f26)) - (rd s.f3 v1)) = (0:Int32) then (13:Int32) else (if ((rd s.f0 ((rd s.f3 v1) &&& s.f26)) - (rd s.f3 v1)) < (0:Int32) then (14:Int32) else (11:Int32))), .int v1, .ref 4] (W1 scr s R) out by
   by_cases hc138 : ((rd s.f0 ((rd s.f3 v1) &&& s.f26)) - (rd s.f3 v1)) = (0:Int32)
   ·refine Eval.ifF rfl (teq hc138).2 ?_
    refine Eval.bipush (x := 13) rfl rfl ?_
    refine Eval.goto (t := 114) rfl rfl ?_
    refine Eval.weak (lw_mk 0 _) ?_
    exact (Eval.conv hJ140 rfl (by simp only [if_pos hc138]))
   ·refine Eval.ifT (t := 102) rfl rfl (feq hc138).2 ?_
    refine Eval.iload rfl rfl ?_
    by_cases hc139 : ((rd s.f0 ((rd s.f3 v1) &&& s.f26)) - (rd s.f3 v1)) < (0:Int32)
    ·refine Eval.ifF rfl (tlt hc139).2.1 ?_
     refine Eval.bipush (x := 14) rfl rfl ?_
     refine Eval.goto (t := 114) rfl rfl ?_
     refine Eval.weak (lw_mk 0 _) ?_
     exact (Eval.conv hJ140 rfl (by simp only [if_neg hc138, if_pos hc139]))
    ·refine Eval.ifT (t := 112) rfl rfl (flt hc139).2.1 ?_
     refine Eval.bipush (x := 11) rfl rfl ?_
     refine Eval.weak (lw_mk 0 _) ?_
     exact (Eval.conv hJ140 rfl (by simp only [if_neg hc138, if_neg hc139]))
  exact ev_j_enqStep_b114 R scr s v1 (if ((rd s.f0 ((rd s.f3 v1) &&& s.f26)) - (rd s.f3 v1)) = (0:Int32) then (13:Int32) else (if ((rd s.f0 ((rd s.f3 v1) &&& s.f26)) - (rd s.f3 v1)) < (0:Int32) then (14:Int32) else (11:Int32))) h hk
 rw [if_neg hc136] at h
 by_cases hc142 : v2 = (13:Int32)
 ·rw [if_pos hc142] at h
  refine Eval.tswIn (t := 117) rfl (by rw [hc142]; rfl) (by rw [hc142]; rfl) rfl ?_
  refine Eval.aload_n rfl rfl ?_
  refine Eval.getfield rfl rfl own_g1_tail ?_
  refine Eval.iload_n rfl rfl ?_
  by_cases hc143 : s.f28 = (rd s.f3 v1)
  ·rw [if_pos hc143] at h
   refine Eval.icmpF rfl (teq hc143).2 ?_
   refine Eval.aload_n rfl rfl ?_
   refine Eval.iload_n rfl rfl ?_
   refine Eval.iconst (x := 1) rfl rfl ?_
   refine Eval.iadd rfl ?_
   refine Eval.putfield rfl rfl own_p1_tail ?_
   refine Eval.aload_n rfl rfl ?_
   refine Eval.getfield rfl rfl own_g1_st ?_
   refine Eval.iload_n rfl rfl ?_
   refine Eval.bipush (x := 15) rfl rfl ?_
   obtain ⟨hb144, h⟩ := ite_some h
   refine Eval.iastore rfl rfl own_a1_st hb144 own_s1_st ?_
   refine Eval.goto (t := 151) rfl rfl ?_
   refine Eval.iconst (x := 0) rfl rfl ?_
   cases h
   subst hk
   exact Eval.retH own_mk1 rfl rfl
  ·rw [if_neg hc143] at h
   refine Eval.icmpT (t := 143) rfl rfl (feq hc143).2 ?_
   refine Eval.aload_n rfl rfl ?_
   refine Eval.getfield rfl rfl own_g1_st ?_
   refine Eval.iload_n rfl rfl ?_
   refine Eval.bipush (x := 11) rfl rfl ?_
   obtain ⟨hb145, h⟩ := ite_some h
   refine Eval.iastore rfl rfl own_a1_st hb145 own_s1_st ?_
   refine Eval.iconst (x := 0) rfl rfl ?_
   cases h
   subst hk
   exact Eval.retH own_mk1 rfl rfl
 rw [if_neg hc142] at h
 by_cases hc146 : v2 = (14:Int32)
 ·rw [if_pos hc146] at h
  refine Eval.tswIn (t := 153) rfl (by rw [hc146]; rfl) (by rw [hc146]; rfl) rfl ?_
  refine Eval.iload_n rfl rfl ?_
  refine Eval.aload_n rfl rfl ?_
  refine Eval.getfield rfl rfl own_g1_head ?_
  refine Eval.isub rfl ?_
  refine Eval.aload_n rfl rfl ?_
  refine Eval.getfield rfl rfl own_g1_cap ?_
  by_cases hc147 : ((rd s.f3 v1) - s.f27) = s.f25
  ·rw [if_pos hc147] at h
   refine Eval.icmpF rfl (teq hc147).2 ?_
   refine Eval.aload_n rfl rfl ?_
   refine Eval.iload_n rfl rfl ?_
   refine Eval.iconst (x := 2) rfl rfl ?_
   refine Eval.iconst (x := 0) rfl rfl ?_
   obtain ⟨p148, hq149, h⟩ := bind_some h
   refine Eval.callN (rest := []) (H1 := (W1 scr p148 R)) rfl rfl (ev_j_finish R scr s v1 (2:Int32) (0:Int32) hq149 rfl) ?_
   refine Eval.iconst (x := 1) rfl rfl ?_
   cases h
   subst hk
   exact Eval.ret rfl rfl
  ·rw [if_neg hc147] at h
   refine Eval.icmpT (t := 175) rfl rfl (feq hc147).2 ?_
   refine Eval.aload_n rfl rfl ?_
   refine Eval.getfield rfl rfl own_g1_st ?_
   refine Eval.iload_n rfl rfl ?_
   refine Eval.bipush (x := 11) rfl rfl ?_
   obtain ⟨hb151, h⟩ := ite_some h
   refine Eval.iastore rfl rfl own_a1_st hb151 own_s1_st ?_
   refine Eval.iconst (x := 0) rfl rfl ?_
   cases h
   subst hk
   exact Eval.retH own_mk1 rfl rfl
 rw [if_neg hc146] at h
 by_cases hc152 : v2 = (15:Int32)
 ·rw [if_pos hc152] at h
  refine Eval.tswIn (t := 185) rfl (by rw [hc152]; rfl) (by rw [hc152]; rfl) rfl ?_
  refine Eval.aload_n rfl rfl ?_
  refine Eval.getfield rfl rfl own_g1_val ?_
  refine Eval.iload rfl rfl ?_
  refine Eval.aload_n rfl rfl ?_
  refine Eval.getfield rfl rfl own_g1_locV ?_
  refine Eval.iload_n rfl rfl ?_
  obtain ⟨hb153, h⟩ := ite_some h
  refine Eval.iaload rfl own_a1_locV hb153 ?_
  obtain ⟨hb154, h⟩ := ite_some h
  refine Eval.iastore rfl rfl own_a1_val hb154 own_s1_val ?_
  refine Eval.aload_n rfl rfl ?_
  refine Eval.getfield rfl rfl own_g1_st ?_
  refine Eval.iload_n rfl rfl ?_
  refine Eval.bipush (x := 16) rfl rfl ?_
  obtain ⟨hb155, h⟩ := ite_some h
  refine Eval.iastore rfl rfl own_a1_st hb155 own_s1_st ?_
  refine Eval.iconst (x := 0) rfl rfl ?_
  cases h
  subst hk
  exact Eval.retH own_mk1 rfl rfl
 rw [if_neg hc152] at h
 by_cases hc156 : v2 = (16:Int32)
 ·rw [if_pos hc156] at h
  refine Eval.tswIn (t := 208) rfl (by rw [hc156]; rfl) (by rw [hc156]; rfl) rfl ?_
  refine Eval.aload_n rfl rfl ?_
  refine Eval.getfield rfl rfl own_g1_seq ?_
  refine Eval.iload rfl rfl ?_
  refine Eval.iload_n rfl rfl ?_
  refine Eval.iconst (x := 1) rfl rfl ?_
  refine Eval.iadd rfl ?_
  obtain ⟨hb157, h⟩ := ite_some h
  refine Eval.iastore rfl rfl own_a1_seq hb157 own_s1_seq ?_
  refine Eval.aload_n rfl rfl ?_
  refine Eval.iload_n rfl rfl ?_
  refine Eval.iconst (x := 1) rfl rfl ?_
  refine Eval.iconst (x := 0) rfl rfl ?_
  obtain ⟨p158, hq159, h⟩ := bind_some h
  refine Eval.callN (rest := []) (H1 := (W1 scr p158 R)) rfl rfl (Eval.heap own_mk1 (ev_j_finish R scr (Q.mk (wr s.f0 ((rd s.f3 v1) &&& s.f26) ((rd s.f3 v1) + (1:Int32))) s.f1 s.f2 s.f3 s.f4 s.f5 s.f6 s.f7 s.f8 s.f9 s.f10 s.f11 s.f12 s.f13 s.f14 s.f15 s.f16 s.f17 s.f18 s.f19 s.f20 s.f21 s.f22 s.f23 s.f24 s.f25 s.f26 s.f27 s.f28 s.f29 s.f30 s.f31 s.f32) v1 (1:Int32) (0:Int32) hq159 rfl)) ?_
  refine Eval.iconst (x := 1) rfl rfl ?_
  cases h
  subst hk
  exact Eval.ret rfl rfl
 rw [if_neg hc156] at h
 refine Eval.tswOut (t := 227) rfl (by have e0 : Int32.toInt v2 ≠ 11 := fun q => hc133 (Int32.toInt_inj.mp q); have e1 : Int32.toInt v2 ≠ 12 := fun q => hc136 (Int32.toInt_inj.mp q); have e2 : Int32.toInt v2 ≠ 13 := fun q => hc142 (Int32.toInt_inj.mp q); have e3 : Int32.toInt v2 ≠ 14 := fun q => hc146 (Int32.toInt_inj.mp q); have e4 : Int32.toInt v2 ≠ 15 := fun q => hc152 (Int32.toInt_inj.mp q); have e5 : Int32.toInt v2 ≠ 16 := fun q => hc156 (Int32.toInt_inj.mp q); simp only [Bool.or_eq_true, decide_eq_true_eq]; omega) rfl ?_
 refine Eval.iconst (x := 0) rfl rfl ?_
 cases h
 subst hk
 exact Eval.ret rfl rfl
def j_doStep (s : Q) (v1 : Int32) : Option (Int32 × Q) := (if inb s.f2.length v1 = true then (if (rd s.f2 v1) < (11:Int32) then (j_doStep_b26 s v1 (rd s.f2 v1)) else (if (16:Int32) < (rd s.f2 v1) then (j_doStep_b26 s v1 (rd s.f2 v1)) else ((j_enqStep s v1 (rd s.f2 v1)).bind fun p161 => some ((p161.1 &&& 1), p161.2)))) else none)
set_option maxRecDepth 100000 in
theorem ev_j_doStep (R : AHeap) (scr : List Int32) (s : Q) (v1 : Int32) {res : Int32 × Q} {out : Option Value × AHeap} (h : j_doStep s v1 = some res) (hk : out = (some (.int res.1), (W1 scr res.2 R))) : Eval own_P 26 0 [some (.ref 1), some (.int v1), none] [] (W1 scr s R) out := by
 rw [j_doStep] at h
 refine Eval.aload_n rfl rfl ?_
 refine Eval.getfield rfl rfl own_g1_st ?_
 refine Eval.iload_n rfl rfl ?_
 obtain ⟨hb86, h⟩ := ite_some h
 refine Eval.iaload rfl own_a1_st hb86 ?_
 refine Eval.istore_n (L' := [some (.ref 1), some (.int v1), some (.int (rd s.f2 v1))]) rfl rfl ?_
 refine Eval.iload_n rfl rfl ?_
 refine Eval.bipush (x := 11) rfl rfl ?_
 by_cases hc87 : (rd s.f2 v1) < (11:Int32)
 ·rw [if_pos hc87] at h
  refine Eval.icmpT (t := 26) rfl rfl (tlt hc87).1 ?_
  exact ev_j_doStep_b26 R scr s v1 (rd s.f2 v1) h hk
 ·rw [if_neg hc87] at h
  refine Eval.icmpF rfl (flt hc87).1 ?_
  refine Eval.iload_n rfl rfl ?_
  refine Eval.bipush (x := 16) rfl rfl ?_
  by_cases hc131 : (16:Int32) < (rd s.f2 v1)
  ·rw [if_pos hc131] at h
   refine Eval.icmpT (t := 26) rfl rfl (tlt hc131).2.2.1 ?_
   exact ev_j_doStep_b26 R scr s v1 (rd s.f2 v1) h hk
  ·rw [if_neg hc131] at h
   refine Eval.icmpF rfl (flt hc131).2.2.1 ?_
   refine Eval.aload_n rfl rfl ?_
   refine Eval.iload_n rfl rfl ?_
   refine Eval.iload_n rfl rfl ?_
   obtain ⟨p161, hq162, h⟩ := bind_some h
   refine Eval.callI (rest := []) (x := p161.1) (H1 := (W1 scr p161.2 R)) rfl rfl (ev_j_enqStep R scr s v1 (rd s.f2 v1) hq162 rfl) ?_
   cases h
   subst hk
   exact Eval.ret rfl rfl
def j_run_l43 : Nat → Q → Int32 → Int32 → Int32 → Option ((Q) ⊕ (Q))
  | 0, _, _, _, _ => none
  | n + 1, s, v1, v3, v4 => (if v4 < v3 then ((j_doStep s v1).bind fun p164 => (if p164.1 = (0:Int32) then (j_run_l43 n p164.2 v1 v3 (v4 + (1:Int32))) else some (.inl (p164.2)))) else some (.inr (s)))
set_option maxRecDepth 100000 in
theorem ev_j_run_l43 (R : AHeap) (scr : List Int32) : ∀ (n : Nat) (s : Q) (v1 v3 v4 : Int32) {res : (Q) ⊕ (Q)} {out : Option Value × AHeap}, j_run_l43 n s v1 v3 v4 = some res → j_run_l43_K R scr res out → Eval own_P 4 43 [some (.ref 1), some (.int v1), none, some (.int v3), some (.int v4)] [] (W1 scr s R) out := by
 intro n
 induction n with
 | zero => intro _ _ _ _ res out h hk; cases h
 | succ n hrec =>
  intro s v1 v3 v4 res out h hk
  rw [j_run_l43] at h
  refine Eval.iload rfl rfl ?_
  refine Eval.iload_n rfl rfl ?_
  by_cases hc85 : v4 < v3
  ·rw [if_pos hc85] at h
   refine Eval.icmpF rfl (tlt hc85).2.1 ?_
   refine Eval.aload_n rfl rfl ?_
   refine Eval.iload_n rfl rfl ?_
   obtain ⟨p164, hq165, h⟩ := bind_some h
   refine Eval.callI (rest := []) (x := p164.1) (H1 := (W1 scr p164.2 R)) rfl rfl (ev_j_doStep R scr s v1 hq165 rfl) ?_
   by_cases hc167 : p164.1 = (0:Int32)
   ·rw [if_pos hc167] at h
    refine Eval.ifT (t := 59) rfl rfl (teq hc167).1 ?_
    refine Eval.iinc (L' := [some (.ref 1), some (.int v1), none, some (.int v3), some (.int (v4 + (1:Int32)))]) rfl rfl rfl ?_
    refine Eval.goto (t := 43) rfl rfl ?_
    exact hrec _ _ _ _ h hk
   ·rw [if_neg hc167] at h
    refine Eval.ifF rfl (feq hc167).1 ?_
    cases h
    refine Eval.weak (lw_mk 0 _) ?_
    exact hk
  ·rw [if_neg hc85] at h
   refine Eval.icmpT (t := 65) rfl rfl (flt hc85).2.1 ?_
   cases h
   refine Eval.weak (lw_mk 0 _) ?_
   exact hk
def j_run (s : Q) (v1 v2 : Int32) : Option (Int32 × Q) := (if (j_valid s v1) = (0:Int32) then some ((-1:Int32), s) else (if inb s.f2.length v1 = true then (if (rd s.f2 v1) = (0:Int32) then some ((0:Int32), s) else (if inb s.f2.length v1 = true then (if (rd s.f2 v1) = (1:Int32) then some ((0:Int32), s) else ((j_run_l43 3000 s v1 (j_clamp v2 (1:Int32) (64:Int32)) (0:Int32)).bind fun p168 => Sum.elim (fun p170 => some ((2:Int32), p170)) (fun p171 => some ((1:Int32), p171)) p168)) else none)) else none))
set_option maxRecDepth 100000 in
theorem ev_j_run (R : AHeap) (scr : List Int32) (s : Q) (v1 v2 : Int32) {res : Int32 × Q} {out : Option Value × AHeap} (h : j_run s v1 v2 = some res) (hk : out = (some (.int res.1), (W1 scr res.2 R))) : Eval own_P 4 0 [some (.ref 1), some (.int v1), some (.int v2), none, none] [] (W1 scr s R) out := by
 rw [j_run] at h
 refine Eval.aload_n rfl rfl ?_
 refine Eval.iload_n rfl rfl ?_
 refine Eval.iconst (x := 1) rfl rfl ?_
 refine Eval.bipush (x := 64) rfl rfl ?_
 refine Eval.callI (rest := []) (x := (j_clamp v2 (1:Int32) (64:Int32))) (H1 := (W1 scr s R)) rfl rfl (ev_j_clamp (W1 scr s R) 1 v2 (1:Int32) (64:Int32) rfl rfl) ?_
 refine Eval.istore_n (L' := [some (.ref 1), some (.int v1), some (.int v2), some (.int (j_clamp v2 (1:Int32) (64:Int32))), none]) rfl rfl ?_
 refine Eval.aload_n rfl rfl ?_
 refine Eval.iload_n rfl rfl ?_
 refine Eval.callI (rest := []) (x := (j_valid s v1)) (H1 := (W1 scr s R)) rfl rfl (ev_j_valid R scr s v1 rfl rfl) ?_
 by_cases hc80 : (j_valid s v1) = (0:Int32)
 ·rw [if_pos hc80] at h
  refine Eval.ifF rfl (teq hc80).2 ?_
  refine Eval.iconst (x := -1) rfl rfl ?_
  cases h
  subst hk
  exact Eval.ret rfl rfl
 ·rw [if_neg hc80] at h
  refine Eval.ifT (t := 19) rfl rfl (feq hc80).2 ?_
  refine Eval.aload_n rfl rfl ?_
  refine Eval.getfield rfl rfl own_g1_st ?_
  refine Eval.iload_n rfl rfl ?_
  obtain ⟨hb81, h⟩ := ite_some h
  refine Eval.iaload rfl own_a1_st hb81 ?_
  by_cases hc82 : (rd s.f2 v1) = (0:Int32)
  ·rw [if_pos hc82] at h
   refine Eval.ifT (t := 38) rfl rfl (teq hc82).1 ?_
   refine Eval.iconst (x := 0) rfl rfl ?_
   cases h
   subst hk
   exact Eval.ret rfl rfl
  ·rw [if_neg hc82] at h
   refine Eval.ifF rfl (feq hc82).1 ?_
   refine Eval.aload_n rfl rfl ?_
   refine Eval.getfield rfl rfl own_g1_st ?_
   refine Eval.iload_n rfl rfl ?_
   obtain ⟨hb83, h⟩ := ite_some h
   refine Eval.iaload rfl own_a1_st hb83 ?_
   refine Eval.iconst (x := 1) rfl rfl ?_
   by_cases hc84 : (rd s.f2 v1) = (1:Int32)
   ·rw [if_pos hc84] at h
    refine Eval.icmpF rfl (teq hc84).2 ?_
    refine Eval.iconst (x := 0) rfl rfl ?_
    cases h
    subst hk
    exact Eval.ret rfl rfl
   ·rw [if_neg hc84] at h
    refine Eval.icmpT (t := 40) rfl rfl (feq hc84).2 ?_
    refine Eval.iconst (x := 0) rfl rfl ?_
    refine Eval.istore (L' := [some (.ref 1), some (.int v1), some (.int v2), some (.int (j_clamp v2 (1:Int32) (64:Int32))), some (.int 0)]) rfl rfl ?_
    refine Eval.weak (lw_mk 27 _) ?_
    obtain ⟨p168, hq169, h⟩ := bind_some h
    rcases p168 with p170 | p171
    ·dsimp only [Sum.elim] at h
     refine ev_j_run_l43 R scr _ s v1 (j_clamp v2 (1:Int32) (64:Int32)) (0:Int32) hq169 ?_
     show Eval own_P 4 57 [none, none, none, none, none] [] (W1 scr p170 R) out
     refine Eval.iconst (x := 2) rfl rfl ?_
     cases h
     subst hk
     exact Eval.ret rfl rfl
    ·dsimp only [Sum.elim] at h
     refine ev_j_run_l43 R scr _ s v1 (j_clamp v2 (1:Int32) (64:Int32)) (0:Int32) hq169 ?_
     show Eval own_P 4 65 [none, none, none, none, none] [] (W1 scr p171 R) out
     refine Eval.iconst (x := 1) rfl rfl ?_
     cases h
     subst hk
     exact Eval.ret rfl rfl
def j_logInvoke_b60 (s : Q) (v1 v2 : Int32) : Option (Int32 × Q) := (if inb s.f7.length v1 = true then (if inb s.f2.length v1 = true then some ((1:Int32), (Q.mk s.f0 s.f1 (wr s.f2 v1 (1:Int32)) s.f3 s.f4 s.f5 s.f6 (wr s.f7 v1 v2) s.f8 s.f9 s.f10 s.f11 s.f12 s.f13 s.f14 s.f15 s.f16 s.f17 s.f18 s.f19 s.f20 s.f21 s.f22 s.f23 s.f24 s.f25 s.f26 s.f27 s.f28 s.f29 s.f30 s.f31 s.f32)) else none) else none)
set_option maxRecDepth 100000 in
theorem ev_j_logInvoke_b60 (R : AHeap) (scr : List Int32) (s : Q) (v1 v2 : Int32) {res : Int32 × Q} {out : Option Value × AHeap} (h : j_logInvoke_b60 s v1 v2 = some res) (hk : out = (some (.int res.1), (W1 scr res.2 R))) : Eval own_P 40 60 [some (.ref 1), some (.int v1), some (.int v2), none] [] (W1 scr s R) out := by
 rw [j_logInvoke_b60] at h
 refine Eval.aload_n rfl rfl ?_
 refine Eval.getfield rfl rfl own_g1_logKind ?_
 refine Eval.iload_n rfl rfl ?_
 refine Eval.iload_n rfl rfl ?_
 obtain ⟨hb190, h⟩ := ite_some h
 refine Eval.iastore rfl rfl own_a1_logKind hb190 own_s1_logKind ?_
 refine Eval.aload_n rfl rfl ?_
 refine Eval.getfield rfl rfl own_g1_st ?_
 refine Eval.iload_n rfl rfl ?_
 refine Eval.iconst (x := 1) rfl rfl ?_
 obtain ⟨hb191, h⟩ := ite_some h
 refine Eval.iastore rfl rfl own_a1_st hb191 own_s1_st ?_
 refine Eval.iconst (x := 1) rfl rfl ?_
 cases h
 subst hk
 exact Eval.retH own_mk1 rfl rfl
def j_logInvoke_b20 (s : Q) (v1 v2 v3 : Int32) : Option (Int32 × Q) := (if inb s.f2.length v1 = true then (if (rd s.f2 v1) = (0:Int32) then ((j_hasRoom s).bind fun p182 => (if p182 = (0:Int32) then some ((0:Int32), s) else (if v2 = (1:Int32) then ((j_append s (1:Int32) v1 v3).bind fun p187 => (j_logInvoke_b60 p187 v1 v2)) else ((j_append s (2:Int32) v1 (0:Int32)).bind fun p192 => (j_logInvoke_b60 p192 v1 v2))))) else some ((0:Int32), s)) else none)
set_option maxRecDepth 100000 in
theorem ev_j_logInvoke_b20 (R : AHeap) (scr : List Int32) (s : Q) (v1 v2 v3 : Int32) {res : Int32 × Q} {out : Option Value × AHeap} (h : j_logInvoke_b20 s v1 v2 v3 = some res) (hk : out = (some (.int res.1), (W1 scr res.2 R))) : Eval own_P 40 20 [some (.ref 1), some (.int v1), some (.int v2), some (.int v3)] [] (W1 scr s R) out := by
 rw [j_logInvoke_b20] at h
 refine Eval.aload_n rfl rfl ?_
 refine Eval.getfield rfl rfl own_g1_st ?_
 refine Eval.iload_n rfl rfl ?_
 obtain ⟨hb180, h⟩ := ite_some h
 refine Eval.iaload rfl own_a1_st hb180 ?_
 by_cases hc181 : (rd s.f2 v1) = (0:Int32)
 ·rw [if_pos hc181] at h
  refine Eval.ifF rfl (teq hc181).2 ?_
  refine Eval.aload_n rfl rfl ?_
  obtain ⟨p182, hq183, h⟩ := bind_some h
  refine Eval.callI (rest := []) (x := p182) (H1 := (W1 scr s R)) rfl rfl (ev_j_hasRoom R scr s hq183 rfl) ?_
  by_cases hc184 : p182 = (0:Int32)
  ·rw [if_pos hc184] at h
   refine Eval.ifF rfl (teq hc184).2 ?_
   refine Eval.iconst (x := 0) rfl rfl ?_
   cases h
   subst hk
   exact Eval.ret rfl rfl
  ·rw [if_neg hc184] at h
   refine Eval.ifT (t := 38) rfl rfl (feq hc184).2 ?_
   refine Eval.iload_n rfl rfl ?_
   refine Eval.iconst (x := 1) rfl rfl ?_
   by_cases hc186 : v2 = (1:Int32)
   ·rw [if_pos hc186] at h
    refine Eval.icmpF rfl (teq hc186).2 ?_
    refine Eval.aload_n rfl rfl ?_
    refine Eval.iconst (x := 1) rfl rfl ?_
    refine Eval.iload_n rfl rfl ?_
    refine Eval.iload_n rfl rfl ?_
    obtain ⟨p187, hq188, h⟩ := bind_some h
    refine Eval.callN (rest := []) (H1 := (W1 scr p187 R)) rfl rfl (ev_j_append R scr s (1:Int32) v1 v3 hq188 rfl) ?_
    refine Eval.goto (t := 60) rfl rfl ?_
    refine Eval.weak (lw_mk 7 _) ?_
    exact ev_j_logInvoke_b60 R scr p187 v1 v2 h hk
   ·rw [if_neg hc186] at h
    refine Eval.icmpT (t := 53) rfl rfl (feq hc186).2 ?_
    refine Eval.aload_n rfl rfl ?_
    refine Eval.iconst (x := 2) rfl rfl ?_
    refine Eval.iload_n rfl rfl ?_
    refine Eval.iconst (x := 0) rfl rfl ?_
    obtain ⟨p192, hq193, h⟩ := bind_some h
    refine Eval.callN (rest := []) (H1 := (W1 scr p192 R)) rfl rfl (ev_j_append R scr s (2:Int32) v1 (0:Int32) hq193 rfl) ?_
    refine Eval.weak (lw_mk 7 _) ?_
    exact ev_j_logInvoke_b60 R scr p192 v1 v2 h hk
 ·rw [if_neg hc181] at h
  refine Eval.ifT (t := 36) rfl rfl (feq hc181).2 ?_
  refine Eval.iconst (x := 0) rfl rfl ?_
  cases h
  subst hk
  exact Eval.ret rfl rfl
def j_logInvoke (s : Q) (v1 v2 v3 : Int32) : Option (Int32 × Q) := (if (j_valid s v1) = (0:Int32) then some ((0:Int32), s) else (if v2 = (1:Int32) then (j_logInvoke_b20 s v1 v2 v3) else (if v2 = (2:Int32) then (j_logInvoke_b20 s v1 v2 v3) else some ((0:Int32), s))))
set_option maxRecDepth 100000 in
theorem ev_j_logInvoke (R : AHeap) (scr : List Int32) (s : Q) (v1 v2 v3 : Int32) {res : Int32 × Q} {out : Option Value × AHeap} (h : j_logInvoke s v1 v2 v3 = some res) (hk : out = (some (.int res.1), (W1 scr res.2 R))) : Eval own_P 40 0 [some (.ref 1), some (.int v1), some (.int v2), some (.int v3)] [] (W1 scr s R) out := by
 rw [j_logInvoke] at h
 refine Eval.aload_n rfl rfl ?_
 refine Eval.iload_n rfl rfl ?_
 refine Eval.callI (rest := []) (x := (j_valid s v1)) (H1 := (W1 scr s R)) rfl rfl (ev_j_valid R scr s v1 rfl rfl) ?_
 by_cases hc178 : (j_valid s v1) = (0:Int32)
 ·rw [if_pos hc178] at h
  refine Eval.ifT (t := 18) rfl rfl (teq hc178).1 ?_
  refine Eval.iconst (x := 0) rfl rfl ?_
  cases h
  subst hk
  exact Eval.ret rfl rfl
 ·rw [if_neg hc178] at h
  refine Eval.ifF rfl (feq hc178).1 ?_
  refine Eval.iload_n rfl rfl ?_
  refine Eval.iconst (x := 1) rfl rfl ?_
  by_cases hc179 : v2 = (1:Int32)
  ·rw [if_pos hc179] at h
   refine Eval.icmpT (t := 20) rfl rfl (teq hc179).1 ?_
   exact ev_j_logInvoke_b20 R scr s v1 v2 v3 h hk
  ·rw [if_neg hc179] at h
   refine Eval.icmpF rfl (feq hc179).1 ?_
   refine Eval.iload_n rfl rfl ?_
   refine Eval.iconst (x := 2) rfl rfl ?_
   by_cases hc195 : v2 = (2:Int32)
   ·rw [if_pos hc195] at h
    refine Eval.icmpT (t := 20) rfl rfl (teq hc195).1 ?_
    exact ev_j_logInvoke_b20 R scr s v1 v2 v3 h hk
   ·rw [if_neg hc195] at h
    refine Eval.icmpF rfl (feq hc195).1 ?_
    refine Eval.iconst (x := 0) rfl rfl ?_
    cases h
    subst hk
    exact Eval.ret rfl rfl
def j_logResponse_b85 (s : Q) (v1 v2 w0 : Int32) : Option (Int32 × Q) := ((j_append s (j_resKind v2) v1 w0).bind fun p217 => (if inb p217.f2.length v1 = true then some ((1:Int32), (Q.mk p217.f0 p217.f1 (wr p217.f2 v1 (0:Int32)) p217.f3 p217.f4 p217.f5 p217.f6 p217.f7 p217.f8 p217.f9 p217.f10 p217.f11 p217.f12 p217.f13 p217.f14 p217.f15 p217.f16 p217.f17 p217.f18 p217.f19 p217.f20 p217.f21 p217.f22 p217.f23 p217.f24 p217.f25 p217.f26 p217.f27 p217.f28 p217.f29 p217.f30 p217.f31 p217.f32)) else none))
set_option maxRecDepth 100000 in
theorem ev_j_logResponse_b85 (R : AHeap) (scr : List Int32) (s : Q) (v1 v2 w0 : Int32) {res : Int32 × Q} {out : Option Value × AHeap} (h : j_logResponse_b85 s v1 v2 w0 = some res) (hk : out = (some (.int res.1), (W1 scr res.2 R))) : Eval own_P 38 85 [some (.ref 1), some (.int v1), some (.int v2), none, none, none, none, none] [.int w0] (W1 scr s R) out := by
 rw [j_logResponse_b85] at h
 refine Eval.istore (L' := [some (.ref 1), some (.int v1), some (.int v2), none, none, none, some (.int w0), none]) rfl rfl ?_
 refine Eval.aload_n rfl rfl ?_
 refine Eval.iload_n rfl rfl ?_
 refine Eval.callI (rest := []) (x := (j_resKind v2)) (H1 := (W1 scr s R)) rfl rfl (ev_j_resKind (W1 scr s R) 1 v2 rfl rfl) ?_
 refine Eval.istore (L' := [some (.ref 1), some (.int v1), some (.int v2), none, none, none, some (.int w0), some (.int (j_resKind v2))]) rfl rfl ?_
 refine Eval.aload_n rfl rfl ?_
 refine Eval.iload rfl rfl ?_
 refine Eval.iload_n rfl rfl ?_
 refine Eval.iload rfl rfl ?_
 obtain ⟨p217, hq218, h⟩ := bind_some h
 refine Eval.callN (rest := []) (H1 := (W1 scr p217 R)) rfl rfl (ev_j_append R scr s (j_resKind v2) v1 w0 hq218 rfl) ?_
 refine Eval.aload_n rfl rfl ?_
 refine Eval.getfield rfl rfl own_g1_st ?_
 refine Eval.iload_n rfl rfl ?_
 refine Eval.iconst (x := 0) rfl rfl ?_
 obtain ⟨hb220, h⟩ := ite_some h
 refine Eval.iastore rfl rfl own_a1_st hb220 own_s1_st ?_
 refine Eval.iconst (x := 1) rfl rfl ?_
 cases h
 subst hk
 exact Eval.retH own_mk1 rfl rfl
def j_logResponse_b60 (s : Q) (v1 v2 : Int32) (v3 v4 w0 : Int32) : Option (Int32 × Q) := (if w0 = (0:Int32) then some ((0:Int32), s) else (j_logResponse_b85 s v1 v2 (if v4 = (2:Int32) then (if v2 = (1:Int32) then v3 else (0:Int32)) else (0:Int32))))
set_option maxRecDepth 100000 in
theorem ev_j_logResponse_b60 (R : AHeap) (scr : List Int32) (s : Q) (v1 v2 : Int32) (v3 v4 w0 : Int32) {res : Int32 × Q} {out : Option Value × AHeap} (h : j_logResponse_b60 s v1 v2 v3 v4 w0 = some res) (hk : out = (some (.int res.1), (W1 scr res.2 R))) : Eval own_P 38 60 [some (.ref 1), some (.int v1), some (.int v2), some (.int v3), some (.int v4), none, none, none] [.int w0] (W1 scr s R) out := by
 rw [j_logResponse_b60] at h
 refine Eval.istore (L' := [some (.ref 1), some (.int v1), some (.int v2), some (.int v3), some (.int v4), some (.int w0), none, none]) rfl rfl ?_
 refine Eval.iload rfl rfl ?_
 by_cases hc213 : w0 = (0:Int32)
 ·rw [if_pos hc213] at h
  refine Eval.ifF rfl (teq hc213).2 ?_
  refine Eval.iconst (x := 0) rfl rfl ?_
  cases h
  subst hk
  exact Eval.ret rfl rfl
 ·rw [if_neg hc213] at h
  refine Eval.ifT (t := 69) rfl rfl (feq hc213).2 ?_
  refine Eval.iload rfl rfl ?_
  refine Eval.iconst (x := 2) rfl rfl ?_
  suffices hJ216 : Eval own_P 38 85 [some (.ref 1), some (.int v1), some (.int v2), none, none, none, none, none] [.int (if v4 = (2:Int32) then (if v2 = (1:Int32) then v3 else (0:Int32)) else (0:Int32))] (W1 scr s R) out by
   by_cases hc214 : v4 = (2:Int32)
   ·refine Eval.icmpF rfl (teq hc214).2 ?_
    refine Eval.iload_n rfl rfl ?_
    refine Eval.iconst (x := 1) rfl rfl ?_
    by_cases hc215 : v2 = (1:Int32)
    ·refine Eval.icmpF rfl (teq hc215).2 ?_
     refine Eval.iload_n rfl rfl ?_
     refine Eval.goto (t := 85) rfl rfl ?_
     refine Eval.weak (lw_mk 7 _) ?_
     exact (Eval.conv hJ216 rfl (by simp only [if_pos hc214, if_pos hc215]))
    ·refine Eval.icmpT (t := 84) rfl rfl (feq hc215).2 ?_
     refine Eval.iconst (x := 0) rfl rfl ?_
     refine Eval.weak (lw_mk 7 _) ?_
     exact (Eval.conv hJ216 rfl (by simp only [if_pos hc214, if_neg hc215]))
   ·refine Eval.icmpT (t := 84) rfl rfl (feq hc214).2 ?_
    refine Eval.iconst (x := 0) rfl rfl ?_
    refine Eval.weak (lw_mk 7 _) ?_
    exact (Eval.conv hJ216 rfl (by simp only [if_neg hc214]))
  exact ev_j_logResponse_b85 R scr s v1 v2 (if v4 = (2:Int32) then (if v2 = (1:Int32) then v3 else (0:Int32)) else (0:Int32)) h hk
def j_logResponse (s : Q) (v1 v2 v3 : Int32) : Option (Int32 × Q) := (if (j_valid s v1) = (0:Int32) then some ((0:Int32), s) else (if inb s.f2.length v1 = true then (if (rd s.f2 v1) = (1:Int32) then (if inb s.f7.length v1 = true then (j_logResponse_b60 s v1 v2 v3 (rd s.f7 v1) (if v2 = (1:Int32) then (1:Int32) else (if (rd s.f7 v1) = (1:Int32) then (if v2 = (2:Int32) then (1:Int32) else (if (rd s.f7 v1) = (2:Int32) then (if v2 = (3:Int32) then (1:Int32) else (0:Int32)) else (0:Int32))) else (if (rd s.f7 v1) = (2:Int32) then (if v2 = (3:Int32) then (1:Int32) else (0:Int32)) else (0:Int32))))) else none) else some ((0:Int32), s)) else none))
set_option maxRecDepth 100000 in
theorem ev_j_logResponse (R : AHeap) (scr : List Int32) (s : Q) (v1 v2 v3 : Int32) {res : Int32 × Q} {out : Option Value × AHeap} (h : j_logResponse s v1 v2 v3 = some res) (hk : out = (some (.int res.1), (W1 scr res.2 R))) : Eval own_P 38 0 [some (.ref 1), some (.int v1), some (.int v2), some (.int v3), none, none, none, none] [] (W1 scr s R) out := by
 rw [j_logResponse] at h
 refine Eval.aload_n rfl rfl ?_
 refine Eval.iload_n rfl rfl ?_
 refine Eval.callI (rest := []) (x := (j_valid s v1)) (H1 := (W1 scr s R)) rfl rfl (ev_j_valid R scr s v1 rfl rfl) ?_
 by_cases hc201 : (j_valid s v1) = (0:Int32)
 ·rw [if_pos hc201] at h
  refine Eval.ifT (t := 18) rfl rfl (teq hc201).1 ?_
  refine Eval.iconst (x := 0) rfl rfl ?_
  cases h
  subst hk
  exact Eval.ret rfl rfl
 ·rw [if_neg hc201] at h
  refine Eval.ifF rfl (feq hc201).1 ?_
  refine Eval.aload_n rfl rfl ?_
  refine Eval.getfield rfl rfl own_g1_st ?_
  refine Eval.iload_n rfl rfl ?_
  obtain ⟨hb202, h⟩ := ite_some h
  refine Eval.iaload rfl own_a1_st hb202 ?_
  refine Eval.iconst (x := 1) rfl rfl ?_
  by_cases hc203 : (rd s.f2 v1) = (1:Int32)
  ·rw [if_pos hc203] at h
   refine Eval.icmpT (t := 20) rfl rfl (teq hc203).1 ?_
   refine Eval.aload_n rfl rfl ?_
   refine Eval.getfield rfl rfl own_g1_logKind ?_
   refine Eval.iload_n rfl rfl ?_
   obtain ⟨hb204, h⟩ := ite_some h
   refine Eval.iaload rfl own_a1_logKind hb204 ?_
   refine Eval.istore (L' := [some (.ref 1), some (.int v1), some (.int v2), some (.int v3), some (.int (rd s.f7 v1)), none, none, none]) rfl rfl ?_
   refine Eval.iload_n rfl rfl ?_
   refine Eval.iconst (x := 1) rfl rfl ?_
   suffices hJ212 : Eval own_P 38 60 [some (.ref 1), some (.int v1), some (.int v2), some (.int v3), some (.int (rd s.f7 v1)), none, none, none] [.int (if v2 = (1:Int32) then (1:Int32) else (if (rd s.f7 v1) = (1:Int32) then (if v2 = (2:Int32) then (1:Int32) else (if (rd s.f7 v1) = (2:Int32) then (if v2 = (3:Int32) then (1:Int32) else (0:Int32)) else (0:Int32))) else (if (rd s.f7 v1) = (2:Int32) then (if v2 = (3:Int32) then (1:Int32) else (0:Int32)) else (0:Int32))))] (W1 scr s R) out by
    by_cases hc205 : v2 = (1:Int32)
    ·refine Eval.icmpT (t := 55) rfl rfl (teq hc205).1 ?_
     refine Eval.iconst (x := 1) rfl rfl ?_
     refine Eval.goto (t := 60) rfl rfl ?_
     exact (Eval.conv hJ212 rfl (by simp only [if_pos hc205]))
    ·refine Eval.icmpF rfl (feq hc205).1 ?_
     refine Eval.iload rfl rfl ?_
     refine Eval.iconst (x := 1) rfl rfl ?_
     by_cases hc206 : (rd s.f7 v1) = (1:Int32)
     ·refine Eval.icmpF rfl (teq hc206).2 ?_
      refine Eval.iload_n rfl rfl ?_
      refine Eval.iconst (x := 2) rfl rfl ?_
      by_cases hc207 : v2 = (2:Int32)
      ·refine Eval.icmpT (t := 55) rfl rfl (teq hc207).1 ?_
       refine Eval.iconst (x := 1) rfl rfl ?_
       refine Eval.goto (t := 60) rfl rfl ?_
       exact (Eval.conv hJ212 rfl (by simp only [if_neg hc205, if_pos hc206, if_pos hc207]))
      ·refine Eval.icmpF rfl (feq hc207).1 ?_
       refine Eval.iload rfl rfl ?_
       refine Eval.iconst (x := 2) rfl rfl ?_
       by_cases hc208 : (rd s.f7 v1) = (2:Int32)
       ·refine Eval.icmpF rfl (teq hc208).2 ?_
        refine Eval.iload_n rfl rfl ?_
        refine Eval.iconst (x := 3) rfl rfl ?_
        by_cases hc209 : v2 = (3:Int32)
        ·refine Eval.icmpF rfl (teq hc209).2 ?_
         refine Eval.iconst (x := 1) rfl rfl ?_
         refine Eval.goto (t := 60) rfl rfl ?_
         exact (Eval.conv hJ212 rfl (by simp only [if_neg hc205, if_pos hc206, if_neg hc207, if_pos hc208, if_pos hc209]))
        ·refine Eval.icmpT (t := 59) rfl rfl (feq hc209).2 ?_
         refine Eval.iconst (x := 0) rfl rfl ?_
         exact (Eval.conv hJ212 rfl (by simp only [if_neg hc205, if_pos hc206, if_neg hc207, if_pos hc208, if_neg hc209]))
       ·refine Eval.icmpT (t := 59) rfl rfl (feq hc208).2 ?_
        refine Eval.iconst (x := 0) rfl rfl ?_
        exact (Eval.conv hJ212 rfl (by simp only [if_neg hc205, if_pos hc206, if_neg hc207, if_neg hc208]))
     ·refine Eval.icmpT (t := 44) rfl rfl (feq hc206).2 ?_
      refine Eval.iload rfl rfl ?_
      refine Eval.iconst (x := 2) rfl rfl ?_
      by_cases hc210 : (rd s.f7 v1) = (2:Int32)
      ·refine Eval.icmpF rfl (teq hc210).2 ?_
       refine Eval.iload_n rfl rfl ?_
       refine Eval.iconst (x := 3) rfl rfl ?_
       by_cases hc211 : v2 = (3:Int32)
       ·refine Eval.icmpF rfl (teq hc211).2 ?_
        refine Eval.iconst (x := 1) rfl rfl ?_
        refine Eval.goto (t := 60) rfl rfl ?_
        exact (Eval.conv hJ212 rfl (by simp only [if_neg hc205, if_neg hc206, if_pos hc210, if_pos hc211]))
       ·refine Eval.icmpT (t := 59) rfl rfl (feq hc211).2 ?_
        refine Eval.iconst (x := 0) rfl rfl ?_
        exact (Eval.conv hJ212 rfl (by simp only [if_neg hc205, if_neg hc206, if_pos hc210, if_neg hc211]))
      ·refine Eval.icmpT (t := 59) rfl rfl (feq hc210).2 ?_
       refine Eval.iconst (x := 0) rfl rfl ?_
       exact (Eval.conv hJ212 rfl (by simp only [if_neg hc205, if_neg hc206, if_neg hc210]))
   exact ev_j_logResponse_b60 R scr s v1 v2 v3 (rd s.f7 v1) (if v2 = (1:Int32) then (1:Int32) else (if (rd s.f7 v1) = (1:Int32) then (if v2 = (2:Int32) then (1:Int32) else (if (rd s.f7 v1) = (2:Int32) then (if v2 = (3:Int32) then (1:Int32) else (0:Int32)) else (0:Int32))) else (if (rd s.f7 v1) = (2:Int32) then (if v2 = (3:Int32) then (1:Int32) else (0:Int32)) else (0:Int32)))) h hk
  ·rw [if_neg hc203] at h
   refine Eval.icmpF rfl (feq hc203).1 ?_
   refine Eval.iconst (x := 0) rfl rfl ?_
   cases h
   subst hk
   exact Eval.ret rfl rfl
abbrev j_clearHistory_l2_K (R : AHeap) (scr : List Int32) (s : Q) (res : (Unit) ⊕ (Unit)) (out : Option Value × AHeap) : Prop := Sum.elim (fun res => Eval own_P 37 24 [none, none, none] [] (W1 scr s R) out) (fun res => Eval own_P 37 32 [some (.ref 1), none, none] [] (W1 scr s R) out) res

def j_clearHistory_b26 (go_ : Q → Int32 → Option ((Unit) ⊕ (Unit))) (s : Q) (v1 : Int32) : Option ((Unit) ⊕ (Unit)) := (go_ s (v1 + (1:Int32)))
set_option maxRecDepth 100000 in
theorem ev_j_clearHistory_b26 (R : AHeap) (scr : List Int32) (go_ : Q → Int32 → Option ((Unit) ⊕ (Unit))) (hrec : ∀ (s : Q) (v1 : Int32) {res : (Unit) ⊕ (Unit)} {out : Option Value × AHeap}, go_ s v1 = some res → j_clearHistory_l2_K R scr s res out → Eval own_P 37 2 [some (.ref 1), some (.int v1), none] [] (W1 scr s R) out) (s : Q) (v1 : Int32) {res : (Unit) ⊕ (Unit)} {out : Option Value × AHeap} (h : j_clearHistory_b26 go_ s v1 = some res) (hk : j_clearHistory_l2_K R scr s res out) : Eval own_P 37 26 [some (.ref 1), some (.int v1), none] [] (W1 scr s R) out := by
 rw [j_clearHistory_b26] at h
 refine Eval.iinc (L' := [some (.ref 1), some (.int (v1 + (1:Int32))), none]) rfl rfl rfl ?_
 refine Eval.goto (t := 2) rfl rfl ?_
 exact hrec _ _ h hk
def j_clearHistory_l2 : Nat → Q → Int32 → Option ((Unit) ⊕ (Unit))
  | 0, _, _ => none
  | n + 1, s, v1 => (if v1 < (4:Int32) then (if v1 < s.f24 then (if inb s.f2.length v1 = true then (if (rd s.f2 v1) = (0:Int32) then (j_clearHistory_b26 (j_clearHistory_l2 n) s v1) else some (.inl ())) else none) else (j_clearHistory_b26 (j_clearHistory_l2 n) s v1)) else some (.inr ()))
set_option maxRecDepth 100000 in
theorem ev_j_clearHistory_l2 (R : AHeap) (scr : List Int32) : ∀ (n : Nat) (s : Q) (v1 : Int32) {res : (Unit) ⊕ (Unit)} {out : Option Value × AHeap}, j_clearHistory_l2 n s v1 = some res → j_clearHistory_l2_K R scr s res out → Eval own_P 37 2 [some (.ref 1), some (.int v1), none] [] (W1 scr s R) out := by
 intro n
 induction n with
 | zero => intro _ _ res out h hk; cases h
 | succ n hrec =>
  intro s v1 res out h hk
  rw [j_clearHistory_l2] at h
  refine Eval.iload_n rfl rfl ?_
  refine Eval.iconst (x := 4) rfl rfl ?_
  by_cases hc226 : v1 < (4:Int32)
  ·rw [if_pos hc226] at h
   refine Eval.icmpF rfl (tlt hc226).2.1 ?_
   refine Eval.iload_n rfl rfl ?_
   refine Eval.aload_n rfl rfl ?_
   refine Eval.getfield rfl rfl own_g1_nThreads ?_
   by_cases hc227 : v1 < s.f24
   ·rw [if_pos hc227] at h
    refine Eval.icmpF rfl (tlt hc227).2.1 ?_
    refine Eval.aload_n rfl rfl ?_
    refine Eval.getfield rfl rfl own_g1_st ?_
    refine Eval.iload_n rfl rfl ?_
    obtain ⟨hb228, h⟩ := ite_some h
    refine Eval.iaload rfl own_a1_st hb228 ?_
    by_cases hc229 : (rd s.f2 v1) = (0:Int32)
    ·rw [if_pos hc229] at h
     refine Eval.ifT (t := 26) rfl rfl (teq hc229).1 ?_
     exact ev_j_clearHistory_b26 R scr _ hrec s v1 h hk
    ·rw [if_neg hc229] at h
     refine Eval.ifF rfl (feq hc229).1 ?_
     cases h
     refine Eval.weak (lw_mk 0 _) ?_
     exact hk
   ·rw [if_neg hc227] at h
    refine Eval.icmpT (t := 26) rfl rfl (flt hc227).2.1 ?_
    exact ev_j_clearHistory_b26 R scr _ hrec s v1 h hk
  ·rw [if_neg hc226] at h
   refine Eval.icmpT (t := 32) rfl rfl (flt hc226).2.1 ?_
   cases h
   refine Eval.weak (lw_mk 1 _) ?_
   exact hk
abbrev j_clearHistory_l54_K (R : AHeap) (scr : List Int32) (res : (Q) ⊕ (Q)) (out : Option Value × AHeap) : Prop := Sum.elim (fun res => Eval own_P 37 65 [none, none, none] [] (W1 scr res R) out) (fun res => Eval own_P 37 106 [none, none, none] [] (W1 scr res R) out) res

abbrev j_clearHistory_l54_N (s : Q) (res : (Q) ⊕ (Q)) : Prop := Sum.elim (fun res => Q.len res = Q.len s) (fun res => Q.len res = Q.len s) res
def j_clearHistory_l54 : Nat → Q → Int32 → Int32 → Option ((Q) ⊕ (Q))
  | 0, _, _, _ => none
  | n + 1, s, v1, v2 => (if v2 < (8:Int32) then (if v2 < v1 then (if inb s.f1.length ((s.f27 + v2) &&& s.f26) = true then (if inb s.f11.length v2 = true then (j_clearHistory_l54 n (Q.mk s.f0 s.f1 s.f2 s.f3 s.f4 s.f5 s.f6 s.f7 s.f8 s.f9 s.f10 (wr s.f11 v2 (rd s.f1 ((s.f27 + v2) &&& s.f26))) s.f12 s.f13 s.f14 s.f15 s.f16 s.f17 s.f18 s.f19 s.f20 s.f21 s.f22 s.f23 s.f24 s.f25 s.f26 s.f27 s.f28 s.f29 (s.f30 + (1:Int32)) s.f31 s.f32) v1 (v2 + (1:Int32))) else none) else none) else some (.inl (s))) else some (.inr (s)))
set_option maxRecDepth 100000 in
theorem ev_j_clearHistory_l54 (R : AHeap) (scr : List Int32) : ∀ (n : Nat) (s : Q) (v1 v2 : Int32) {res : (Q) ⊕ (Q)} {out : Option Value × AHeap}, j_clearHistory_l54 n s v1 v2 = some res → j_clearHistory_l54_K R scr res out → Eval own_P 37 54 [some (.ref 1), some (.int v1), some (.int v2)] [] (W1 scr s R) out := by
 intro n
 induction n with
 | zero => intro _ _ _ res out h hk; cases h
 | succ n hrec =>
  intro s v1 v2 res out h hk
  rw [j_clearHistory_l54] at h
  refine Eval.iload_n rfl rfl ?_
  refine Eval.bipush (x := 8) rfl rfl ?_
  by_cases hc234 : v2 < (8:Int32)
  ·rw [if_pos hc234] at h
   refine Eval.icmpF rfl (tlt hc234).2.1 ?_
   refine Eval.iload_n rfl rfl ?_
   refine Eval.iload_n rfl rfl ?_
   by_cases hc235 : v2 < v1
   ·rw [if_pos hc235] at h
    refine Eval.icmpT (t := 68) rfl rfl (tlt hc235).1 ?_
    refine Eval.aload_n rfl rfl ?_
    refine Eval.getfield rfl rfl own_g1_snap ?_
    refine Eval.iload_n rfl rfl ?_
    refine Eval.aload_n rfl rfl ?_
    refine Eval.getfield rfl rfl own_g1_val ?_
    refine Eval.aload_n rfl rfl ?_
    refine Eval.getfield rfl rfl own_g1_head ?_
    refine Eval.iload_n rfl rfl ?_
    refine Eval.iadd rfl ?_
    refine Eval.aload_n rfl rfl ?_
    refine Eval.getfield rfl rfl own_g1_mask ?_
    refine Eval.iand rfl ?_
    obtain ⟨hb236, h⟩ := ite_some h
    refine Eval.iaload rfl own_a1_val hb236 ?_
    obtain ⟨hb237, h⟩ := ite_some h
    refine Eval.iastore rfl rfl own_a1_snap hb237 own_s1_snap ?_
    refine Eval.aload_n rfl rfl ?_
    refine Eval.dupR rfl ?_
    refine Eval.getfield rfl rfl own_g1_snapLen ?_
    refine Eval.iconst (x := 1) rfl rfl ?_
    refine Eval.iadd rfl ?_
    refine Eval.putfield rfl rfl own_p1_snapLen ?_
    refine Eval.iinc (L' := [some (.ref 1), some (.int v1), some (.int (v2 + (1:Int32)))]) rfl rfl rfl ?_
    refine Eval.goto (t := 54) rfl rfl ?_
    refine Eval.heap own_mk1 ?_
    exact hrec _ _ _ h hk
   ·rw [if_neg hc235] at h
    refine Eval.icmpF rfl (flt hc235).1 ?_
    cases h
    refine Eval.weak (lw_mk 0 _) ?_
    exact hk
  ·rw [if_neg hc234] at h
   refine Eval.icmpT (t := 106) rfl rfl (flt hc234).2.1 ?_
   cases h
   refine Eval.weak (lw_mk 0 _) ?_
   exact hk
def j_clearHistory (s : Q) : Option (Int32 × Q) := ((j_clearHistory_l2 3000 s (0:Int32)).bind fun p230 => Sum.elim (fun p232 => some ((0:Int32), s)) (fun p233 => ((j_clearHistory_l54 3000 (Q.mk s.f0 s.f1 s.f2 s.f3 s.f4 s.f5 s.f6 s.f7 s.f8 s.f9 s.f10 s.f11 s.f12 s.f13 s.f14 s.f15 s.f16 s.f17 s.f18 s.f19 s.f20 s.f21 s.f22 s.f23 s.f24 s.f25 s.f26 s.f27 s.f28 (0:Int32) (0:Int32) s.f31 s.f32) (s.f28 - s.f27) (0:Int32)).bind fun p238 => Sum.elim (fun p240 => some ((1:Int32), p240)) (fun p241 => some ((1:Int32), p241)) p238)) p230)
set_option maxRecDepth 100000 in
theorem ev_j_clearHistory (R : AHeap) (scr : List Int32) (s : Q) {res : Int32 × Q} {out : Option Value × AHeap} (h : j_clearHistory s = some res) (hk : out = (some (.int res.1), (W1 scr res.2 R))) : Eval own_P 37 0 [some (.ref 1), none, none] [] (W1 scr s R) out := by
 rw [j_clearHistory] at h
 refine Eval.iconst (x := 0) rfl rfl ?_
 refine Eval.istore_n (L' := [some (.ref 1), some (.int 0), none]) rfl rfl ?_
 obtain ⟨p230, hq231, h⟩ := bind_some h
 rcases p230 with p232 | p233
 ·dsimp only [Sum.elim] at h
  refine ev_j_clearHistory_l2 R scr _ s (0:Int32) hq231 ?_
  show Eval own_P 37 24 [none, none, none] [] (W1 scr s R) out
  refine Eval.iconst (x := 0) rfl rfl ?_
  cases h
  subst hk
  exact Eval.ret rfl rfl
 ·dsimp only [Sum.elim] at h
  refine ev_j_clearHistory_l2 R scr _ s (0:Int32) hq231 ?_
  show Eval own_P 37 32 [some (.ref 1), none, none] [] (W1 scr s R) out
  refine Eval.aload_n rfl rfl ?_
  refine Eval.iconst (x := 0) rfl rfl ?_
  refine Eval.putfield rfl rfl own_p1_histLen ?_
  refine Eval.aload_n rfl rfl ?_
  refine Eval.getfield rfl rfl own_g1_tail ?_
  refine Eval.aload_n rfl rfl ?_
  refine Eval.getfield rfl rfl own_g1_head ?_
  refine Eval.isub rfl ?_
  refine Eval.istore_n (L' := [some (.ref 1), some (.int (s.f28 - s.f27)), none]) rfl rfl ?_
  refine Eval.aload_n rfl rfl ?_
  refine Eval.iconst (x := 0) rfl rfl ?_
  refine Eval.putfield rfl rfl own_p1_snapLen ?_
  refine Eval.iconst (x := 0) rfl rfl ?_
  refine Eval.istore_n (L' := [some (.ref 1), some (.int (s.f28 - s.f27)), some (.int 0)]) rfl rfl ?_
  refine Eval.heap own_mk1 ?_
  obtain ⟨p238, hq239, h⟩ := bind_some h
  rcases p238 with p240 | p241
  ·dsimp only [Sum.elim] at h
   refine ev_j_clearHistory_l54 R scr _ (Q.mk s.f0 s.f1 s.f2 s.f3 s.f4 s.f5 s.f6 s.f7 s.f8 s.f9 s.f10 s.f11 s.f12 s.f13 s.f14 s.f15 s.f16 s.f17 s.f18 s.f19 s.f20 s.f21 s.f22 s.f23 s.f24 s.f25 s.f26 s.f27 s.f28 (0:Int32) (0:Int32) s.f31 s.f32) (s.f28 - s.f27) (0:Int32) hq239 ?_
   show Eval own_P 37 65 [none, none, none] [] (W1 scr p240 R) out
   refine Eval.goto (t := 106) rfl rfl ?_
   refine Eval.iconst (x := 1) rfl rfl ?_
   cases h
   subst hk
   exact Eval.ret rfl rfl
  ·dsimp only [Sum.elim] at h
   refine ev_j_clearHistory_l54 R scr _ (Q.mk s.f0 s.f1 s.f2 s.f3 s.f4 s.f5 s.f6 s.f7 s.f8 s.f9 s.f10 s.f11 s.f12 s.f13 s.f14 s.f15 s.f16 s.f17 s.f18 s.f19 s.f20 s.f21 s.f22 s.f23 s.f24 s.f25 s.f26 s.f27 s.f28 (0:Int32) (0:Int32) s.f31 s.f32) (s.f28 - s.f27) (0:Int32) hq239 ?_
   show Eval own_P 37 106 [none, none, none] [] (W1 scr p241 R) out
   refine Eval.iconst (x := 1) rfl rfl ?_
   cases h
   subst hk
   exact Eval.ret rfl rfl
def j_step (s : Q) (v1 : Int32) : Option (Int32 × Q) := (if (j_valid s v1) = (0:Int32) then some ((-1:Int32), s) else (if inb s.f2.length v1 = true then (if (rd s.f2 v1) = (0:Int32) then some ((0:Int32), s) else (if inb s.f2.length v1 = true then (if (rd s.f2 v1) = (1:Int32) then some ((0:Int32), s) else ((j_doStep s v1).bind fun p253 => (if p253.1 = (0:Int32) then some ((1:Int32), p253.2) else some ((2:Int32), p253.2)))) else none)) else none))
set_option maxRecDepth 100000 in
theorem ev_j_step (R : AHeap) (scr : List Int32) (s : Q) (v1 : Int32) {res : Int32 × Q} {out : Option Value × AHeap} (h : j_step s v1 = some res) (hk : out = (some (.int res.1), (W1 scr res.2 R))) : Eval own_P 29 0 [some (.ref 1), some (.int v1)] [] (W1 scr s R) out := by
 rw [j_step] at h
 refine Eval.aload_n rfl rfl ?_
 refine Eval.iload_n rfl rfl ?_
 refine Eval.callI (rest := []) (x := (j_valid s v1)) (H1 := (W1 scr s R)) rfl rfl (ev_j_valid R scr s v1 rfl rfl) ?_
 by_cases hc248 : (j_valid s v1) = (0:Int32)
 ·rw [if_pos hc248] at h
  refine Eval.ifF rfl (teq hc248).2 ?_
  refine Eval.iconst (x := -1) rfl rfl ?_
  cases h
  subst hk
  exact Eval.ret rfl rfl
 ·rw [if_neg hc248] at h
  refine Eval.ifT (t := 10) rfl rfl (feq hc248).2 ?_
  refine Eval.aload_n rfl rfl ?_
  refine Eval.getfield rfl rfl own_g1_st ?_
  refine Eval.iload_n rfl rfl ?_
  obtain ⟨hb249, h⟩ := ite_some h
  refine Eval.iaload rfl own_a1_st hb249 ?_
  by_cases hc250 : (rd s.f2 v1) = (0:Int32)
  ·rw [if_pos hc250] at h
   refine Eval.ifT (t := 29) rfl rfl (teq hc250).1 ?_
   refine Eval.iconst (x := 0) rfl rfl ?_
   cases h
   subst hk
   exact Eval.ret rfl rfl
  ·rw [if_neg hc250] at h
   refine Eval.ifF rfl (feq hc250).1 ?_
   refine Eval.aload_n rfl rfl ?_
   refine Eval.getfield rfl rfl own_g1_st ?_
   refine Eval.iload_n rfl rfl ?_
   obtain ⟨hb251, h⟩ := ite_some h
   refine Eval.iaload rfl own_a1_st hb251 ?_
   refine Eval.iconst (x := 1) rfl rfl ?_
   by_cases hc252 : (rd s.f2 v1) = (1:Int32)
   ·rw [if_pos hc252] at h
    refine Eval.icmpF rfl (teq hc252).2 ?_
    refine Eval.iconst (x := 0) rfl rfl ?_
    cases h
    subst hk
    exact Eval.ret rfl rfl
   ·rw [if_neg hc252] at h
    refine Eval.icmpT (t := 31) rfl rfl (feq hc252).2 ?_
    refine Eval.aload_n rfl rfl ?_
    refine Eval.iload_n rfl rfl ?_
    obtain ⟨p253, hq254, h⟩ := bind_some h
    refine Eval.callI (rest := []) (x := p253.1) (H1 := (W1 scr p253.2 R)) rfl rfl (ev_j_doStep R scr s v1 hq254 rfl) ?_
    by_cases hc256 : p253.1 = (0:Int32)
    ·rw [if_pos hc256] at h
     refine Eval.ifT (t := 41) rfl rfl (teq hc256).1 ?_
     refine Eval.iconst (x := 1) rfl rfl ?_
     cases h
     subst hk
     exact Eval.ret rfl rfl
    ·rw [if_neg hc256] at h
     refine Eval.ifF rfl (feq hc256).1 ?_
     refine Eval.iconst (x := 2) rfl rfl ?_
     cases h
     subst hk
     exact Eval.ret rfl rfl
def h_drive (s : Q) (v1 v2 v3 : Int32) : Option (Int32 × Q) := (if v1 = (0:Int32) then ((j_startEnqueue s v2 (v3 &&& (255:Int32))).bind fun p59 => (if p59.1 = (0:Int32) then some ((0:Int32), p59.2) else some ((1:Int32), p59.2))) else (if v1 = (1:Int32) then ((j_startDequeue s v2).bind fun p75 => (if p75.1 = (0:Int32) then some ((0:Int32), p75.2) else some ((1:Int32), p75.2))) else (if v1 = (3:Int32) then ((j_run s v2 (v3 &&& (15:Int32))).bind fun p174 => some (p174.1, p174.2)) else (if v1 = (4:Int32) then ((j_logInvoke s v2 ((isr v3 (8:Int32)) &&& (3:Int32)) (v3 &&& (255:Int32))).bind fun p196 => (if p196.1 = (0:Int32) then some ((0:Int32), p196.2) else some ((1:Int32), p196.2))) else (if v1 = (5:Int32) then ((j_logResponse s v2 ((isr v3 (8:Int32)) &&& (3:Int32)) (v3 &&& (255:Int32))).bind fun p221 => (if p221.1 = (0:Int32) then some ((0:Int32), p221.2) else some ((1:Int32), p221.2))) else (if v1 = (6:Int32) then ((j_clearHistory s).bind fun p244 => (if p244.1 = (0:Int32) then some ((0:Int32), p244.2) else some ((1:Int32), p244.2))) else ((j_step s v2).bind fun p257 => some (p257.1, p257.2))))))))
set_option maxRecDepth 100000 in
theorem ev_h_drive (R : AHeap) (scr : List Int32) (s : Q) (v1 v2 v3 : Int32) {res : Int32 × Q} {out : Option Value × AHeap} (h : h_drive s v1 v2 v3 = some res) (hk : out = (some (.int res.1), (W1 scr res.2 R))) : Eval own_P 3 0 [some (.ref 1), some (.int v1), some (.int v2), some (.int v3)] [] (W1 scr s R) out := by
 rw [h_drive] at h
 refine Eval.iload_n rfl rfl ?_
 by_cases hc29 : v1 = (0:Int32)
 ·rw [if_pos hc29] at h
  refine Eval.ifF rfl (teq hc29).2 ?_
  refine Eval.aload_n rfl rfl ?_
  refine Eval.iload_n rfl rfl ?_
  refine Eval.iload_n rfl rfl ?_
  refine Eval.sipush (x := 255) rfl rfl ?_
  refine Eval.iand rfl ?_
  obtain ⟨p59, hq60, h⟩ := bind_some h
  refine Eval.callI (rest := []) (x := p59.1) (H1 := (W1 scr p59.2 R)) rfl rfl (ev_j_startEnqueue R scr s v2 (v3 &&& (255:Int32)) hq60 rfl) ?_
  by_cases hc62 : p59.1 = (0:Int32)
  ·rw [if_pos hc62] at h
   refine Eval.ifT (t := 21) rfl rfl (teq hc62).1 ?_
   refine Eval.iconst (x := 0) rfl rfl ?_
   cases h
   subst hk
   exact Eval.ret rfl rfl
  ·rw [if_neg hc62] at h
   refine Eval.ifF rfl (feq hc62).1 ?_
   refine Eval.iconst (x := 1) rfl rfl ?_
   refine Eval.goto (t := 22) rfl rfl ?_
   cases h
   subst hk
   exact Eval.ret rfl rfl
 ·rw [if_neg hc29] at h
  refine Eval.ifT (t := 23) rfl rfl (feq hc29).2 ?_
  refine Eval.iload_n rfl rfl ?_
  refine Eval.iconst (x := 1) rfl rfl ?_
  by_cases hc63 : v1 = (1:Int32)
  ·rw [if_pos hc63] at h
   refine Eval.icmpF rfl (teq hc63).2 ?_
   refine Eval.aload_n rfl rfl ?_
   refine Eval.iload_n rfl rfl ?_
   obtain ⟨p75, hq76, h⟩ := bind_some h
   refine Eval.callI (rest := []) (x := p75.1) (H1 := (W1 scr p75.2 R)) rfl rfl (ev_j_startDequeue R scr s v2 hq76 rfl) ?_
   by_cases hc78 : p75.1 = (0:Int32)
   ·rw [if_pos hc78] at h
    refine Eval.ifT (t := 40) rfl rfl (teq hc78).1 ?_
    refine Eval.iconst (x := 0) rfl rfl ?_
    cases h
    subst hk
    exact Eval.ret rfl rfl
   ·rw [if_neg hc78] at h
    refine Eval.ifF rfl (feq hc78).1 ?_
    refine Eval.iconst (x := 1) rfl rfl ?_
    refine Eval.goto (t := 41) rfl rfl ?_
    cases h
    subst hk
    exact Eval.ret rfl rfl
  ·rw [if_neg hc63] at h
   refine Eval.icmpT (t := 42) rfl rfl (feq hc63).2 ?_
   refine Eval.iload_n rfl rfl ?_
   refine Eval.iconst (x := 3) rfl rfl ?_
   by_cases hc79 : v1 = (3:Int32)
   ·rw [if_pos hc79] at h
    refine Eval.icmpF rfl (teq hc79).2 ?_
    refine Eval.aload_n rfl rfl ?_
    refine Eval.iload_n rfl rfl ?_
    refine Eval.iload_n rfl rfl ?_
    refine Eval.bipush (x := 15) rfl rfl ?_
    refine Eval.iand rfl ?_
    obtain ⟨p174, hq175, h⟩ := bind_some h
    refine Eval.callI (rest := []) (x := p174.1) (H1 := (W1 scr p174.2 R)) rfl rfl (ev_j_run R scr s v2 (v3 &&& (15:Int32)) hq175 rfl) ?_
    cases h
    subst hk
    exact Eval.ret rfl rfl
   ·rw [if_neg hc79] at h
    refine Eval.icmpT (t := 57) rfl rfl (feq hc79).2 ?_
    refine Eval.iload_n rfl rfl ?_
    refine Eval.iconst (x := 4) rfl rfl ?_
    by_cases hc177 : v1 = (4:Int32)
    ·rw [if_pos hc177] at h
     refine Eval.icmpF rfl (teq hc177).2 ?_
     refine Eval.aload_n rfl rfl ?_
     refine Eval.iload_n rfl rfl ?_
     refine Eval.iload_n rfl rfl ?_
     refine Eval.bipush (x := 8) rfl rfl ?_
     refine Eval.ishr rfl ?_
     refine Eval.iconst (x := 3) rfl rfl ?_
     refine Eval.iand rfl ?_
     refine Eval.iload_n rfl rfl ?_
     refine Eval.sipush (x := 255) rfl rfl ?_
     refine Eval.iand rfl ?_
     obtain ⟨p196, hq197, h⟩ := bind_some h
     refine Eval.callI (rest := []) (x := p196.1) (H1 := (W1 scr p196.2 R)) rfl rfl (ev_j_logInvoke R scr s v2 ((isr v3 (8:Int32)) &&& (3:Int32)) (v3 &&& (255:Int32)) hq197 rfl) ?_
     by_cases hc199 : p196.1 = (0:Int32)
     ·rw [if_pos hc199] at h
      refine Eval.ifT (t := 85) rfl rfl (teq hc199).1 ?_
      refine Eval.iconst (x := 0) rfl rfl ?_
      cases h
      subst hk
      exact Eval.ret rfl rfl
     ·rw [if_neg hc199] at h
      refine Eval.ifF rfl (feq hc199).1 ?_
      refine Eval.iconst (x := 1) rfl rfl ?_
      refine Eval.goto (t := 86) rfl rfl ?_
      cases h
      subst hk
      exact Eval.ret rfl rfl
    ·rw [if_neg hc177] at h
     refine Eval.icmpT (t := 87) rfl rfl (feq hc177).2 ?_
     refine Eval.iload_n rfl rfl ?_
     refine Eval.iconst (x := 5) rfl rfl ?_
     by_cases hc200 : v1 = (5:Int32)
     ·rw [if_pos hc200] at h
      refine Eval.icmpF rfl (teq hc200).2 ?_
      refine Eval.aload_n rfl rfl ?_
      refine Eval.iload_n rfl rfl ?_
      refine Eval.iload_n rfl rfl ?_
      refine Eval.bipush (x := 8) rfl rfl ?_
      refine Eval.ishr rfl ?_
      refine Eval.iconst (x := 3) rfl rfl ?_
      refine Eval.iand rfl ?_
      refine Eval.iload_n rfl rfl ?_
      refine Eval.sipush (x := 255) rfl rfl ?_
      refine Eval.iand rfl ?_
      obtain ⟨p221, hq222, h⟩ := bind_some h
      refine Eval.callI (rest := []) (x := p221.1) (H1 := (W1 scr p221.2 R)) rfl rfl (ev_j_logResponse R scr s v2 ((isr v3 (8:Int32)) &&& (3:Int32)) (v3 &&& (255:Int32)) hq222 rfl) ?_
      by_cases hc224 : p221.1 = (0:Int32)
      ·rw [if_pos hc224] at h
       refine Eval.ifT (t := 115) rfl rfl (teq hc224).1 ?_
       refine Eval.iconst (x := 0) rfl rfl ?_
       cases h
       subst hk
       exact Eval.ret rfl rfl
      ·rw [if_neg hc224] at h
       refine Eval.ifF rfl (feq hc224).1 ?_
       refine Eval.iconst (x := 1) rfl rfl ?_
       refine Eval.goto (t := 116) rfl rfl ?_
       cases h
       subst hk
       exact Eval.ret rfl rfl
     ·rw [if_neg hc200] at h
      refine Eval.icmpT (t := 117) rfl rfl (feq hc200).2 ?_
      refine Eval.iload_n rfl rfl ?_
      refine Eval.bipush (x := 6) rfl rfl ?_
      by_cases hc225 : v1 = (6:Int32)
      ·rw [if_pos hc225] at h
       refine Eval.icmpF rfl (teq hc225).2 ?_
       refine Eval.aload_n rfl rfl ?_
       obtain ⟨p244, hq245, h⟩ := bind_some h
       refine Eval.callI (rest := []) (x := p244.1) (H1 := (W1 scr p244.2 R)) rfl rfl (ev_j_clearHistory R scr s hq245 rfl) ?_
       by_cases hc247 : p244.1 = (0:Int32)
       ·rw [if_pos hc247] at h
        refine Eval.ifT (t := 134) rfl rfl (teq hc247).1 ?_
        refine Eval.iconst (x := 0) rfl rfl ?_
        cases h
        subst hk
        exact Eval.ret rfl rfl
       ·rw [if_neg hc247] at h
        refine Eval.ifF rfl (feq hc247).1 ?_
        refine Eval.iconst (x := 1) rfl rfl ?_
        refine Eval.goto (t := 135) rfl rfl ?_
        cases h
        subst hk
        exact Eval.ret rfl rfl
      ·rw [if_neg hc225] at h
       refine Eval.icmpT (t := 136) rfl rfl (feq hc225).2 ?_
       refine Eval.aload_n rfl rfl ?_
       refine Eval.iload_n rfl rfl ?_
       obtain ⟨p257, hq258, h⟩ := bind_some h
       refine Eval.callI (rest := []) (x := p257.1) (H1 := (W1 scr p257.2 R)) rfl rfl (ev_j_step R scr s v2 hq258 rfl) ?_
       cases h
       subst hk
       exact Eval.ret rfl rfl
set_option maxRecDepth 100000 in
theorem ev_j_valid_2 (R : AHeap) (scr : List Int32) (c1 s : Q) (v1 : Int32) {res : Int32} {out : Option Value × AHeap} (h : j_valid s v1 = res) (hk : out = (some (.int res), (W2 scr c1 s R))) : Eval own_P 5 0 [some (.ref 26), some (.int v1)] [] (W2 scr c1 s R) out := by
 rw [j_valid] at h
 refine Eval.iload_n rfl rfl ?_
 by_cases hc263 : v1 < (0:Int32)
 ·rw [if_pos hc263] at h
  refine Eval.ifT (t := 16) rfl rfl (tlt hc263).1 ?_
  refine Eval.iconst (x := 0) rfl rfl ?_
  subst h
  subst hk
  exact Eval.ret rfl rfl
 ·rw [if_neg hc263] at h
  refine Eval.ifF rfl (flt hc263).1 ?_
  refine Eval.iload_n rfl rfl ?_
  refine Eval.aload_n rfl rfl ?_
  refine Eval.getfield rfl rfl own_g2_nThreads ?_
  by_cases hc264 : v1 < s.f24
  ·rw [if_pos hc264] at h
   refine Eval.icmpF rfl (tlt hc264).2.1 ?_
   refine Eval.iconst (x := 1) rfl rfl ?_
   refine Eval.goto (t := 17) rfl rfl ?_
   subst h
   subst hk
   exact Eval.ret rfl rfl
  ·rw [if_neg hc264] at h
   refine Eval.icmpT (t := 16) rfl rfl (flt hc264).2.1 ?_
   refine Eval.iconst (x := 0) rfl rfl ?_
   subst h
   subst hk
   exact Eval.ret rfl rfl
abbrev j_pending_l4_K_2 (R : AHeap) (scr : List Int32) (c1 s : Q) (res : Int32) (out : Option Value × AHeap) : Prop := Eval own_P 22 35 [none, some (.int res), none] [] (W2 scr c1 s R) out

set_option maxRecDepth 100000 in
theorem ev_j_pending_b29_2 (R : AHeap) (scr : List Int32) (c1 : Q) (go_ : Q → Int32 → Int32 → Option (Int32)) (hrec : ∀ (s : Q) (v1 v2 : Int32) {res : Int32} {out : Option Value × AHeap}, go_ s v1 v2 = some res → j_pending_l4_K_2 R scr c1 s res out → Eval own_P 22 4 [some (.ref 26), some (.int v1), some (.int v2)] [] (W2 scr c1 s R) out) (s : Q) (v1 v2 : Int32) {res : Int32} {out : Option Value × AHeap} (h : j_pending_b29 go_ s v1 v2 = some res) (hk : j_pending_l4_K_2 R scr c1 s res out) : Eval own_P 22 29 [some (.ref 26), some (.int v1), some (.int v2)] [] (W2 scr c1 s R) out := by
 rw [j_pending_b29] at h
 refine Eval.iinc (L' := [some (.ref 26), some (.int v1), some (.int (v2 + (1:Int32)))]) rfl rfl rfl ?_
 refine Eval.goto (t := 4) rfl rfl ?_
 exact hrec _ _ _ h hk
set_option maxRecDepth 100000 in
theorem ev_j_pending_l4_2 (R : AHeap) (scr : List Int32) (c1 : Q) : ∀ (n : Nat) (s : Q) (v1 v2 : Int32) {res : Int32} {out : Option Value × AHeap}, j_pending_l4 n s v1 v2 = some res → j_pending_l4_K_2 R scr c1 s res out → Eval own_P 22 4 [some (.ref 26), some (.int v1), some (.int v2)] [] (W2 scr c1 s R) out := by
 intro n
 induction n with
 | zero => intro _ _ _ res out h hk; cases h
 | succ n hrec =>
  intro s v1 v2 res out h hk
  rw [j_pending_l4] at h
  refine Eval.iload_n rfl rfl ?_
  refine Eval.iconst (x := 4) rfl rfl ?_
  by_cases hc268 : v2 < (4:Int32)
  ·rw [if_pos hc268] at h
   refine Eval.icmpF rfl (tlt hc268).2.1 ?_
   refine Eval.iload_n rfl rfl ?_
   refine Eval.aload_n rfl rfl ?_
   refine Eval.getfield rfl rfl own_g2_nThreads ?_
   by_cases hc270 : v2 < s.f24
   ·rw [if_pos hc270] at h
    refine Eval.icmpF rfl (tlt hc270).2.1 ?_
    refine Eval.aload_n rfl rfl ?_
    refine Eval.getfield rfl rfl own_g2_st ?_
    refine Eval.iload_n rfl rfl ?_
    obtain ⟨hb271, h⟩ := ite_some h
    refine Eval.iaload rfl own_a2_st hb271 ?_
    suffices hJ273 : Eval own_P 22 29 [some (.ref 26), some (.int (if (rd s.f2 v2) = (0:Int32) then v1 else (v1 + (1:Int32)))), some (.int v2)] [] (W2 scr c1 s R) out by
     by_cases hc272 : (rd s.f2 v2) = (0:Int32)
     ·refine Eval.ifT (t := 29) rfl rfl (teq hc272).1 ?_
      exact (Eval.conv hJ273 (by simp only [if_pos hc272] <;> rfl) rfl)
     ·refine Eval.ifF rfl (feq hc272).1 ?_
      refine Eval.iinc (L' := [some (.ref 26), some (.int (v1 + (1:Int32))), some (.int v2)]) rfl rfl rfl ?_
      exact (Eval.conv hJ273 (by simp only [if_neg hc272] <;> rfl) rfl)
    exact ev_j_pending_b29_2 R scr c1 _ hrec s (if (rd s.f2 v2) = (0:Int32) then v1 else (v1 + (1:Int32))) v2 h hk
   ·rw [if_neg hc270] at h
    refine Eval.icmpT (t := 29) rfl rfl (flt hc270).2.1 ?_
    exact ev_j_pending_b29_2 R scr c1 _ hrec s v1 v2 h hk
  ·rw [if_neg hc268] at h
   refine Eval.icmpT (t := 35) rfl rfl (flt hc268).2.1 ?_
   cases h
   refine Eval.weak (lw_mk 2 _) ?_
   exact hk
set_option maxRecDepth 100000 in
theorem ev_j_pending_2 (R : AHeap) (scr : List Int32) (c1 s : Q) {res : Int32} {out : Option Value × AHeap} (h : j_pending s = some res) (hk : out = (some (.int res), (W2 scr c1 s R))) : Eval own_P 22 0 [some (.ref 26), none, none] [] (W2 scr c1 s R) out := by
 rw [j_pending] at h
 refine Eval.iconst (x := 0) rfl rfl ?_
 refine Eval.istore_n (L' := [some (.ref 26), some (.int 0), none]) rfl rfl ?_
 refine Eval.iconst (x := 0) rfl rfl ?_
 refine Eval.istore_n (L' := [some (.ref 26), some (.int 0), some (.int 0)]) rfl rfl ?_
 obtain ⟨p274, hq275, h⟩ := bind_some h
 refine ev_j_pending_l4_2 R scr c1 _ s (0:Int32) (0:Int32) hq275 ?_
 show Eval own_P 22 35 [none, some (.int p274), none] [] (W2 scr c1 s R) out
 refine Eval.iload_n rfl rfl ?_
 cases h
 subst hk
 exact Eval.ret rfl rfl
set_option maxRecDepth 100000 in
theorem ev_j_hasRoom_2 (R : AHeap) (scr : List Int32) (c1 s : Q) {res : Int32} {out : Option Value × AHeap} (h : j_hasRoom s = some res) (hk : out = (some (.int res), (W2 scr c1 s R))) : Eval own_P 21 0 [some (.ref 26), none] [] (W2 scr c1 s R) out := by
 rw [j_hasRoom] at h
 refine Eval.aload_n rfl rfl ?_
 obtain ⟨p276, hq277, h⟩ := bind_some h
 refine Eval.callI (rest := []) (x := p276) (H1 := (W2 scr c1 s R)) rfl rfl (ev_j_pending_2 R scr c1 s hq277 rfl) ?_
 refine Eval.istore_n (L' := [some (.ref 26), some (.int p276)]) rfl rfl ?_
 refine Eval.aload_n rfl rfl ?_
 refine Eval.getfield rfl rfl own_g2_histLen ?_
 refine Eval.iload_n rfl rfl ?_
 refine Eval.iadd rfl ?_
 refine Eval.iconst (x := 2) rfl rfl ?_
 refine Eval.iadd rfl ?_
 refine Eval.bipush (x := 64) rfl rfl ?_
 by_cases hc278 : (64:Int32) < ((s.f29 + p276) + (2:Int32))
 ·rw [if_pos hc278] at h
  refine Eval.icmpT (t := 22) rfl rfl (tlt hc278).2.2.1 ?_
  refine Eval.iconst (x := 0) rfl rfl ?_
  cases h
  subst hk
  exact Eval.ret rfl rfl
 ·rw [if_neg hc278] at h
  refine Eval.icmpF rfl (flt hc278).2.2.1 ?_
  refine Eval.iconst (x := 1) rfl rfl ?_
  refine Eval.goto (t := 23) rfl rfl ?_
  cases h
  subst hk
  exact Eval.ret rfl rfl
set_option maxRecDepth 100000 in
theorem ev_j_append_2 (R : AHeap) (scr : List Int32) (c1 s : Q) (v1 v2 v3 : Int32) {res : Q} {out : Option Value × AHeap} (h : j_append s v1 v2 v3 = some res) (hk : out = (none, (W2 scr c1 res R))) : Eval own_P 23 0 [some (.ref 26), some (.int v1), some (.int v2), some (.int v3)] [] (W2 scr c1 s R) out := by
 rw [j_append] at h
 refine Eval.aload_n rfl rfl ?_
 refine Eval.getfield rfl rfl own_g2_histLen ?_
 by_cases hc282 : s.f29 < (0:Int32)
 ·rw [if_pos hc282] at h
  refine Eval.ifT (t := 56) rfl rfl (tlt hc282).1 ?_
  cases h
  subst hk
  exact Eval.ret rfl rfl
 ·rw [if_neg hc282] at h
  refine Eval.ifF rfl (flt hc282).1 ?_
  refine Eval.aload_n rfl rfl ?_
  refine Eval.getfield rfl rfl own_g2_histLen ?_
  refine Eval.bipush (x := 64) rfl rfl ?_
  by_cases hc283 : s.f29 < (64:Int32)
  ·rw [if_pos hc283] at h
   refine Eval.icmpF rfl (tlt hc283).2.1 ?_
   refine Eval.aload_n rfl rfl ?_
   refine Eval.getfield rfl rfl own_g2_evKind ?_
   refine Eval.aload_n rfl rfl ?_
   refine Eval.getfield rfl rfl own_g2_histLen ?_
   refine Eval.iload_n rfl rfl ?_
   obtain ⟨hb284, h⟩ := ite_some h
   refine Eval.iastore rfl rfl own_a2_evKind hb284 own_s2_evKind ?_
   refine Eval.aload_n rfl rfl ?_
   refine Eval.getfield rfl rfl own_g2_evThread ?_
   refine Eval.aload_n rfl rfl ?_
   refine Eval.getfield rfl rfl own_g2_histLen ?_
   refine Eval.iload_n rfl rfl ?_
   obtain ⟨hb285, h⟩ := ite_some h
   refine Eval.iastore rfl rfl own_a2_evThread hb285 own_s2_evThread ?_
   refine Eval.aload_n rfl rfl ?_
   refine Eval.getfield rfl rfl own_g2_evVal ?_
   refine Eval.aload_n rfl rfl ?_
   refine Eval.getfield rfl rfl own_g2_histLen ?_
   refine Eval.iload_n rfl rfl ?_
   obtain ⟨hb286, h⟩ := ite_some h
   refine Eval.iastore rfl rfl own_a2_evVal hb286 own_s2_evVal ?_
   refine Eval.aload_n rfl rfl ?_
   refine Eval.dupR rfl ?_
   refine Eval.getfield rfl rfl own_g2_histLen ?_
   refine Eval.iconst (x := 1) rfl rfl ?_
   refine Eval.iadd rfl ?_
   refine Eval.putfield rfl rfl own_p2_histLen ?_
   cases h
   subst hk
   exact Eval.retH own_mk2_01 rfl rfl
  ·rw [if_neg hc283] at h
   refine Eval.icmpT (t := 56) rfl rfl (flt hc283).2.1 ?_
   cases h
   subst hk
   exact Eval.ret rfl rfl
set_option maxRecDepth 100000 in
theorem ev_j_startEnqueue_2 (R : AHeap) (scr : List Int32) (c1 s : Q) (v1 v2 : Int32) {res : Int32 × Q} {out : Option Value × AHeap} (h : j_startEnqueue s v1 v2 = some res) (hk : out = (some (.int res.1), (W2 scr c1 res.2 R))) : Eval own_P 25 0 [some (.ref 26), some (.int v1), some (.int v2)] [] (W2 scr c1 s R) out := by
 rw [j_startEnqueue] at h
 refine Eval.aload_n rfl rfl ?_
 refine Eval.iload_n rfl rfl ?_
 refine Eval.callI (rest := []) (x := (j_valid s v1)) (H1 := (W2 scr c1 s R)) rfl rfl (ev_j_valid_2 R scr c1 s v1 rfl rfl) ?_
 by_cases hc265 : (j_valid s v1) = (0:Int32)
 ·rw [if_pos hc265] at h
  refine Eval.ifT (t := 24) rfl rfl (teq hc265).1 ?_
  refine Eval.iconst (x := 0) rfl rfl ?_
  cases h
  subst hk
  exact Eval.ret rfl rfl
 ·rw [if_neg hc265] at h
  refine Eval.ifF rfl (feq hc265).1 ?_
  refine Eval.aload_n rfl rfl ?_
  refine Eval.getfield rfl rfl own_g2_st ?_
  refine Eval.iload_n rfl rfl ?_
  obtain ⟨hb266, h⟩ := ite_some h
  refine Eval.iaload rfl own_a2_st hb266 ?_
  by_cases hc267 : (rd s.f2 v1) = (0:Int32)
  ·rw [if_pos hc267] at h
   refine Eval.ifF rfl (teq hc267).2 ?_
   refine Eval.aload_n rfl rfl ?_
   obtain ⟨p279, hq280, h⟩ := bind_some h
   refine Eval.callI (rest := []) (x := p279) (H1 := (W2 scr c1 s R)) rfl rfl (ev_j_hasRoom_2 R scr c1 s hq280 rfl) ?_
   by_cases hc281 : p279 = (0:Int32)
   ·rw [if_pos hc281] at h
    refine Eval.ifF rfl (teq hc281).2 ?_
    refine Eval.iconst (x := 0) rfl rfl ?_
    cases h
    subst hk
    exact Eval.ret rfl rfl
   ·rw [if_neg hc281] at h
    refine Eval.ifT (t := 26) rfl rfl (feq hc281).2 ?_
    refine Eval.aload_n rfl rfl ?_
    refine Eval.iconst (x := 1) rfl rfl ?_
    refine Eval.iload_n rfl rfl ?_
    refine Eval.iload_n rfl rfl ?_
    obtain ⟨p287, hq288, h⟩ := bind_some h
    refine Eval.callN (rest := []) (H1 := (W2 scr c1 p287 R)) rfl rfl (ev_j_append_2 R scr c1 s (1:Int32) v1 v2 hq288 rfl) ?_
    refine Eval.aload_n rfl rfl ?_
    refine Eval.getfield rfl rfl own_g2_locV ?_
    refine Eval.iload_n rfl rfl ?_
    refine Eval.iload_n rfl rfl ?_
    obtain ⟨hb290, h⟩ := ite_some h
    refine Eval.iastore rfl rfl own_a2_locV hb290 own_s2_locV ?_
    refine Eval.aload_n rfl rfl ?_
    refine Eval.getfield rfl rfl own_g2_st ?_
    refine Eval.iload_n rfl rfl ?_
    refine Eval.bipush (x := 11) rfl rfl ?_
    obtain ⟨hb291, h⟩ := ite_some h
    refine Eval.iastore rfl rfl own_a2_st hb291 own_s2_st ?_
    refine Eval.iconst (x := 1) rfl rfl ?_
    cases h
    subst hk
    exact Eval.retH own_mk2_01 rfl rfl
  ·rw [if_neg hc267] at h
   refine Eval.ifT (t := 24) rfl rfl (feq hc267).2 ?_
   refine Eval.iconst (x := 0) rfl rfl ?_
   cases h
   subst hk
   exact Eval.ret rfl rfl
set_option maxRecDepth 100000 in
theorem ev_j_startDequeue_2 (R : AHeap) (scr : List Int32) (c1 s : Q) (v1 : Int32) {res : Int32 × Q} {out : Option Value × AHeap} (h : j_startDequeue s v1 = some res) (hk : out = (some (.int res.1), (W2 scr c1 res.2 R))) : Eval own_P 20 0 [some (.ref 26), some (.int v1)] [] (W2 scr c1 s R) out := by
 rw [j_startDequeue] at h
 refine Eval.aload_n rfl rfl ?_
 refine Eval.iload_n rfl rfl ?_
 refine Eval.callI (rest := []) (x := (j_valid s v1)) (H1 := (W2 scr c1 s R)) rfl rfl (ev_j_valid_2 R scr c1 s v1 rfl rfl) ?_
 by_cases hc297 : (j_valid s v1) = (0:Int32)
 ·rw [if_pos hc297] at h
  refine Eval.ifT (t := 24) rfl rfl (teq hc297).1 ?_
  refine Eval.iconst (x := 0) rfl rfl ?_
  cases h
  subst hk
  exact Eval.ret rfl rfl
 ·rw [if_neg hc297] at h
  refine Eval.ifF rfl (feq hc297).1 ?_
  refine Eval.aload_n rfl rfl ?_
  refine Eval.getfield rfl rfl own_g2_st ?_
  refine Eval.iload_n rfl rfl ?_
  obtain ⟨hb298, h⟩ := ite_some h
  refine Eval.iaload rfl own_a2_st hb298 ?_
  by_cases hc299 : (rd s.f2 v1) = (0:Int32)
  ·rw [if_pos hc299] at h
   refine Eval.ifF rfl (teq hc299).2 ?_
   refine Eval.aload_n rfl rfl ?_
   obtain ⟨p300, hq301, h⟩ := bind_some h
   refine Eval.callI (rest := []) (x := p300) (H1 := (W2 scr c1 s R)) rfl rfl (ev_j_hasRoom_2 R scr c1 s hq301 rfl) ?_
   by_cases hc302 : p300 = (0:Int32)
   ·rw [if_pos hc302] at h
    refine Eval.ifF rfl (teq hc302).2 ?_
    refine Eval.iconst (x := 0) rfl rfl ?_
    cases h
    subst hk
    exact Eval.ret rfl rfl
   ·rw [if_neg hc302] at h
    refine Eval.ifT (t := 26) rfl rfl (feq hc302).2 ?_
    refine Eval.aload_n rfl rfl ?_
    refine Eval.iconst (x := 2) rfl rfl ?_
    refine Eval.iload_n rfl rfl ?_
    refine Eval.iconst (x := 0) rfl rfl ?_
    obtain ⟨p303, hq304, h⟩ := bind_some h
    refine Eval.callN (rest := []) (H1 := (W2 scr c1 p303 R)) rfl rfl (ev_j_append_2 R scr c1 s (2:Int32) v1 (0:Int32) hq304 rfl) ?_
    refine Eval.aload_n rfl rfl ?_
    refine Eval.getfield rfl rfl own_g2_locV ?_
    refine Eval.iload_n rfl rfl ?_
    refine Eval.iconst (x := 0) rfl rfl ?_
    obtain ⟨hb306, h⟩ := ite_some h
    refine Eval.iastore rfl rfl own_a2_locV hb306 own_s2_locV ?_
    refine Eval.aload_n rfl rfl ?_
    refine Eval.getfield rfl rfl own_g2_st ?_
    refine Eval.iload_n rfl rfl ?_
    refine Eval.bipush (x := 21) rfl rfl ?_
    obtain ⟨hb307, h⟩ := ite_some h
    refine Eval.iastore rfl rfl own_a2_st hb307 own_s2_st ?_
    refine Eval.iconst (x := 1) rfl rfl ?_
    cases h
    subst hk
    exact Eval.retH own_mk2_01 rfl rfl
  ·rw [if_neg hc299] at h
   refine Eval.ifT (t := 24) rfl rfl (feq hc299).2 ?_
   refine Eval.iconst (x := 0) rfl rfl ?_
   cases h
   subst hk
   exact Eval.ret rfl rfl
abbrev j_run_l43_K_2 (R : AHeap) (scr : List Int32) (c1 : Q) (res : (Q) ⊕ (Q)) (out : Option Value × AHeap) : Prop := Sum.elim (fun res => Eval own_P 4 57 [none, none, none, none, none] [] (W2 scr c1 res R) out) (fun res => Eval own_P 4 65 [none, none, none, none, none] [] (W2 scr c1 res R) out) res

set_option maxRecDepth 100000 in
theorem ev_j_deqStep_b116_2 (R : AHeap) (scr : List Int32) (c1 s : Q) (w1 w2 : Int32) {res : Int32 × Q} {out : Option Value × AHeap} (h : j_deqStep_b116 s w1 w2 = some res) (hk : out = (some (.int res.1), (W2 scr c1 res.2 R))) : Eval own_P 28 116 [none, none, none, none, none, none] [.int w2, .int w1, .ref 29] (W2 scr c1 s R) out := by
 rw [j_deqStep_b116] at h
 obtain ⟨hb332, h⟩ := ite_some h
 refine Eval.iastore rfl rfl own_a2_st hb332 own_s2_st ?_
 refine Eval.iconst (x := 0) rfl rfl ?_
 cases h
 subst hk
 exact Eval.retH own_mk2_01 rfl rfl
set_option maxRecDepth 100000 in
theorem ev_j_finish_2 (R : AHeap) (scr : List Int32) (c1 s : Q) (v1 v2 v3 : Int32) {res : Q} {out : Option Value × AHeap} (h : j_finish s v1 v2 v3 = some res) (hk : out = (none, (W2 scr c1 res R))) : Eval own_P 30 0 [some (.ref 26), some (.int v1), some (.int v2), some (.int v3), none] [] (W2 scr c1 s R) out := by
 rw [j_finish] at h
 refine Eval.aload_n rfl rfl ?_
 refine Eval.getfield rfl rfl own_g2_lastSt ?_
 refine Eval.iload_n rfl rfl ?_
 refine Eval.iload_n rfl rfl ?_
 obtain ⟨hb339, h⟩ := ite_some h
 refine Eval.iastore rfl rfl own_a2_lastSt hb339 own_s2_lastSt ?_
 refine Eval.aload_n rfl rfl ?_
 refine Eval.getfield rfl rfl own_g2_lastVal ?_
 refine Eval.iload_n rfl rfl ?_
 refine Eval.iload_n rfl rfl ?_
 obtain ⟨hb340, h⟩ := ite_some h
 refine Eval.iastore rfl rfl own_a2_lastVal hb340 own_s2_lastVal ?_
 refine Eval.aload_n rfl rfl ?_
 refine Eval.iload_n rfl rfl ?_
 refine Eval.callI (rest := []) (x := (j_resKind v2)) (H1 := (C2 scr c1.f0 c1.f1 c1.f2 c1.f3 c1.f4 c1.f5 c1.f6 c1.f7 c1.f8 c1.f9 c1.f10 c1.f11 c1.f12 c1.f13 c1.f14 c1.f15 c1.f16 c1.f17 c1.f18 c1.f19 c1.f20 c1.f21 c1.f22 c1.f23 c1.f24 c1.f25 c1.f26 c1.f27 c1.f28 c1.f29 c1.f30 c1.f31 c1.f32 s.f0 s.f1 s.f2 s.f3 s.f4 (wr s.f5 v1 v2) (wr s.f6 v1 v3) s.f7 s.f8 s.f9 s.f10 s.f11 s.f12 s.f13 s.f14 s.f15 s.f16 s.f17 s.f18 s.f19 s.f20 s.f21 s.f22 s.f23 s.f24 s.f25 s.f26 s.f27 s.f28 s.f29 s.f30 s.f31 s.f32 R)) rfl rfl (ev_j_resKind (C2 scr c1.f0 c1.f1 c1.f2 c1.f3 c1.f4 c1.f5 c1.f6 c1.f7 c1.f8 c1.f9 c1.f10 c1.f11 c1.f12 c1.f13 c1.f14 c1.f15 c1.f16 c1.f17 c1.f18 c1.f19 c1.f20 c1.f21 c1.f22 c1.f23 c1.f24 c1.f25 c1.f26 c1.f27 c1.f28 c1.f29 c1.f30 c1.f31 c1.f32 s.f0 s.f1 s.f2 s.f3 s.f4 (wr s.f5 v1 v2) (wr s.f6 v1 v3) s.f7 s.f8 s.f9 s.f10 s.f11 s.f12 s.f13 s.f14 s.f15 s.f16 s.f17 s.f18 s.f19 s.f20 s.f21 s.f22 s.f23 s.f24 s.f25 s.f26 s.f27 s.f28 s.f29 s.f30 s.f31 s.f32 R) 26 v2 rfl rfl) ?_
 refine Eval.istore (L' := [some (.ref 26), some (.int v1), some (.int v2), some (.int v3), some (.int (j_resKind v2))]) rfl rfl ?_
 refine Eval.aload_n rfl rfl ?_
 refine Eval.iload rfl rfl ?_
 refine Eval.iload_n rfl rfl ?_
 refine Eval.iload_n rfl rfl ?_
 obtain ⟨p341, hq342, h⟩ := bind_some h
 refine Eval.callN (rest := []) (H1 := (W2 scr c1 p341 R)) rfl rfl (Eval.heap own_mk2_01 (ev_j_append_2 R scr c1 (Q.mk s.f0 s.f1 s.f2 s.f3 s.f4 (wr s.f5 v1 v2) (wr s.f6 v1 v3) s.f7 s.f8 s.f9 s.f10 s.f11 s.f12 s.f13 s.f14 s.f15 s.f16 s.f17 s.f18 s.f19 s.f20 s.f21 s.f22 s.f23 s.f24 s.f25 s.f26 s.f27 s.f28 s.f29 s.f30 s.f31 s.f32) (j_resKind v2) v1 v3 hq342 rfl)) ?_
 refine Eval.aload_n rfl rfl ?_
 refine Eval.getfield rfl rfl own_g2_st ?_
 refine Eval.iload_n rfl rfl ?_
 refine Eval.iconst (x := 0) rfl rfl ?_
 obtain ⟨hb344, h⟩ := ite_some h
 refine Eval.iastore rfl rfl own_a2_st hb344 own_s2_st ?_
 cases h
 subst hk
 exact Eval.retH own_mk2_01 rfl rfl
set_option maxRecDepth 100000 in
theorem ev_j_deqStep_2 (R : AHeap) (scr : List Int32) (c1 s : Q) (v1 v2 : Int32) {res : Int32 × Q} {out : Option Value × AHeap} (h : j_deqStep s v1 v2 = some res) (hk : out = (some (.int res.1), (W2 scr c1 res.2 R))) : Eval own_P 28 0 [some (.ref 26), some (.int v1), some (.int v2), none, none, none] [] (W2 scr c1 s R) out := by
 rw [j_deqStep] at h
 refine Eval.aload_n rfl rfl ?_
 refine Eval.getfield rfl rfl own_g2_locP ?_
 refine Eval.iload_n rfl rfl ?_
 obtain ⟨hb323, h⟩ := ite_some h
 refine Eval.iaload rfl own_a2_locP hb323 ?_
 refine Eval.istore_n (L' := [some (.ref 26), some (.int v1), some (.int v2), some (.int (rd s.f3 v1)), none, none]) rfl rfl ?_
 refine Eval.iload_n rfl rfl ?_
 refine Eval.aload_n rfl rfl ?_
 refine Eval.getfield rfl rfl own_g2_mask ?_
 refine Eval.iand rfl ?_
 refine Eval.istore (L' := [some (.ref 26), some (.int v1), some (.int v2), some (.int (rd s.f3 v1)), some (.int ((rd s.f3 v1) &&& s.f26)), none]) rfl rfl ?_
 refine Eval.iload_n rfl rfl ?_
 by_cases hc324 : v2 = (21:Int32)
 ·rw [if_pos hc324] at h
  refine Eval.tswIn (t := 56) rfl (by rw [hc324]; rfl) (by rw [hc324]; rfl) rfl ?_
  refine Eval.aload_n rfl rfl ?_
  refine Eval.getfield rfl rfl own_g2_locP ?_
  refine Eval.iload_n rfl rfl ?_
  refine Eval.aload_n rfl rfl ?_
  refine Eval.getfield rfl rfl own_g2_head ?_
  obtain ⟨hb325, h⟩ := ite_some h
  refine Eval.iastore rfl rfl own_a2_locP hb325 own_s2_locP ?_
  refine Eval.aload_n rfl rfl ?_
  refine Eval.getfield rfl rfl own_g2_st ?_
  refine Eval.iload_n rfl rfl ?_
  refine Eval.bipush (x := 22) rfl rfl ?_
  obtain ⟨hb326, h⟩ := ite_some h
  refine Eval.iastore rfl rfl own_a2_st hb326 own_s2_st ?_
  refine Eval.iconst (x := 0) rfl rfl ?_
  cases h
  subst hk
  exact Eval.retH own_mk2_01 rfl rfl
 rw [if_neg hc324] at h
 by_cases hc327 : v2 = (22:Int32)
 ·rw [if_pos hc327] at h
  refine Eval.tswIn (t := 76) rfl (by rw [hc327]; rfl) (by rw [hc327]; rfl) rfl ?_
  refine Eval.aload_n rfl rfl ?_
  refine Eval.getfield rfl rfl own_g2_seq ?_
  refine Eval.iload rfl rfl ?_
  obtain ⟨hb328, h⟩ := ite_some h
  refine Eval.iaload rfl own_a2_seq hb328 ?_
  refine Eval.iload_n rfl rfl ?_
  refine Eval.iconst (x := 1) rfl rfl ?_
  refine Eval.iadd rfl ?_
  refine Eval.isub rfl ?_
  refine Eval.istore (L' := [some (.ref 26), some (.int v1), some (.int v2), some (.int (rd s.f3 v1)), some (.int ((rd s.f3 v1) &&& s.f26)), some (.int ((rd s.f0 ((rd s.f3 v1) &&& s.f26)) - ((rd s.f3 v1) + (1:Int32))))]) rfl rfl ?_
  refine Eval.aload_n rfl rfl ?_
  refine Eval.getfield rfl rfl own_g2_st ?_
  refine Eval.iload_n rfl rfl ?_
  refine Eval.iload rfl rfl ?_
  suffices hJ331 : Eval own_P 28 116 [none, none, none, none, none, none] [.int (if ((rd s.f0 ((rd s.f3 v1) &&& s.f26)) - ((rd s.f3 v1) + (1:Int32))) = (0:Int32) then (23:Int32) else (if ((rd s.f0 ((rd s.f3 v1) &&& s.f26)) - ((rd s.f3 v1) + (1:Int32))) < (0:Int32) then (24:Int32) else (21:Int32))), .int v1, .ref 29] (W2 scr c1 s R) out by
   by_cases hc329 : ((rd s.f0 ((rd s.f3 v1) &&& s.f26)) - ((rd s.f3 v1) + (1:Int32))) = (0:Int32)
   ·refine Eval.ifF rfl (teq hc329).2 ?_
    refine Eval.bipush (x := 23) rfl rfl ?_
    refine Eval.goto (t := 116) rfl rfl ?_
    refine Eval.weak (lw_mk 0 _) ?_
    exact (Eval.conv hJ331 rfl (by simp only [if_pos hc329]))
   ·refine Eval.ifT (t := 104) rfl rfl (feq hc329).2 ?_
    refine Eval.iload rfl rfl ?_
    by_cases hc330 : ((rd s.f0 ((rd s.f3 v1) &&& s.f26)) - ((rd s.f3 v1) + (1:Int32))) < (0:Int32)
    ·refine Eval.ifF rfl (tlt hc330).2.1 ?_
     refine Eval.bipush (x := 24) rfl rfl ?_
     refine Eval.goto (t := 116) rfl rfl ?_
     refine Eval.weak (lw_mk 0 _) ?_
     exact (Eval.conv hJ331 rfl (by simp only [if_neg hc329, if_pos hc330]))
    ·refine Eval.ifT (t := 114) rfl rfl (flt hc330).2.1 ?_
     refine Eval.bipush (x := 21) rfl rfl ?_
     refine Eval.weak (lw_mk 0 _) ?_
     exact (Eval.conv hJ331 rfl (by simp only [if_neg hc329, if_neg hc330]))
  exact ev_j_deqStep_b116_2 R scr c1 s v1 (if ((rd s.f0 ((rd s.f3 v1) &&& s.f26)) - ((rd s.f3 v1) + (1:Int32))) = (0:Int32) then (23:Int32) else (if ((rd s.f0 ((rd s.f3 v1) &&& s.f26)) - ((rd s.f3 v1) + (1:Int32))) < (0:Int32) then (24:Int32) else (21:Int32))) h hk
 rw [if_neg hc327] at h
 by_cases hc333 : v2 = (23:Int32)
 ·rw [if_pos hc333] at h
  refine Eval.tswIn (t := 119) rfl (by rw [hc333]; rfl) (by rw [hc333]; rfl) rfl ?_
  refine Eval.aload_n rfl rfl ?_
  refine Eval.getfield rfl rfl own_g2_head ?_
  refine Eval.iload_n rfl rfl ?_
  by_cases hc334 : s.f27 = (rd s.f3 v1)
  ·rw [if_pos hc334] at h
   refine Eval.icmpF rfl (teq hc334).2 ?_
   refine Eval.aload_n rfl rfl ?_
   refine Eval.iload_n rfl rfl ?_
   refine Eval.iconst (x := 1) rfl rfl ?_
   refine Eval.iadd rfl ?_
   refine Eval.putfield rfl rfl own_p2_head ?_
   refine Eval.aload_n rfl rfl ?_
   refine Eval.getfield rfl rfl own_g2_st ?_
   refine Eval.iload_n rfl rfl ?_
   refine Eval.bipush (x := 25) rfl rfl ?_
   obtain ⟨hb335, h⟩ := ite_some h
   refine Eval.iastore rfl rfl own_a2_st hb335 own_s2_st ?_
   refine Eval.goto (t := 153) rfl rfl ?_
   refine Eval.iconst (x := 0) rfl rfl ?_
   cases h
   subst hk
   exact Eval.retH own_mk2_01 rfl rfl
  ·rw [if_neg hc334] at h
   refine Eval.icmpT (t := 145) rfl rfl (feq hc334).2 ?_
   refine Eval.aload_n rfl rfl ?_
   refine Eval.getfield rfl rfl own_g2_st ?_
   refine Eval.iload_n rfl rfl ?_
   refine Eval.bipush (x := 21) rfl rfl ?_
   obtain ⟨hb336, h⟩ := ite_some h
   refine Eval.iastore rfl rfl own_a2_st hb336 own_s2_st ?_
   refine Eval.iconst (x := 0) rfl rfl ?_
   cases h
   subst hk
   exact Eval.retH own_mk2_01 rfl rfl
 rw [if_neg hc333] at h
 by_cases hc337 : v2 = (24:Int32)
 ·rw [if_pos hc337] at h
  refine Eval.tswIn (t := 155) rfl (by rw [hc337]; rfl) (by rw [hc337]; rfl) rfl ?_
  refine Eval.aload_n rfl rfl ?_
  refine Eval.getfield rfl rfl own_g2_tail ?_
  refine Eval.iload_n rfl rfl ?_
  by_cases hc338 : s.f28 = (rd s.f3 v1)
  ·rw [if_pos hc338] at h
   refine Eval.icmpF rfl (teq hc338).2 ?_
   refine Eval.aload_n rfl rfl ?_
   refine Eval.iload_n rfl rfl ?_
   refine Eval.iconst (x := 3) rfl rfl ?_
   refine Eval.iconst (x := 0) rfl rfl ?_
   obtain ⟨p345, hq346, h⟩ := bind_some h
   refine Eval.callN (rest := []) (H1 := (W2 scr c1 p345 R)) rfl rfl (ev_j_finish_2 R scr c1 s v1 (3:Int32) (0:Int32) hq346 rfl) ?_
   refine Eval.iconst (x := 1) rfl rfl ?_
   cases h
   subst hk
   exact Eval.ret rfl rfl
  ·rw [if_neg hc338] at h
   refine Eval.icmpT (t := 172) rfl rfl (feq hc338).2 ?_
   refine Eval.aload_n rfl rfl ?_
   refine Eval.getfield rfl rfl own_g2_st ?_
   refine Eval.iload_n rfl rfl ?_
   refine Eval.bipush (x := 21) rfl rfl ?_
   obtain ⟨hb348, h⟩ := ite_some h
   refine Eval.iastore rfl rfl own_a2_st hb348 own_s2_st ?_
   refine Eval.iconst (x := 0) rfl rfl ?_
   cases h
   subst hk
   exact Eval.retH own_mk2_01 rfl rfl
 rw [if_neg hc337] at h
 by_cases hc349 : v2 = (25:Int32)
 ·rw [if_pos hc349] at h
  refine Eval.tswIn (t := 182) rfl (by rw [hc349]; rfl) (by rw [hc349]; rfl) rfl ?_
  refine Eval.aload_n rfl rfl ?_
  refine Eval.getfield rfl rfl own_g2_locV ?_
  refine Eval.iload_n rfl rfl ?_
  refine Eval.aload_n rfl rfl ?_
  refine Eval.getfield rfl rfl own_g2_val ?_
  refine Eval.iload rfl rfl ?_
  obtain ⟨hb350, h⟩ := ite_some h
  refine Eval.iaload rfl own_a2_val hb350 ?_
  obtain ⟨hb351, h⟩ := ite_some h
  refine Eval.iastore rfl rfl own_a2_locV hb351 own_s2_locV ?_
  refine Eval.aload_n rfl rfl ?_
  refine Eval.getfield rfl rfl own_g2_st ?_
  refine Eval.iload_n rfl rfl ?_
  refine Eval.bipush (x := 26) rfl rfl ?_
  obtain ⟨hb352, h⟩ := ite_some h
  refine Eval.iastore rfl rfl own_a2_st hb352 own_s2_st ?_
  refine Eval.iconst (x := 0) rfl rfl ?_
  cases h
  subst hk
  exact Eval.retH own_mk2_01 rfl rfl
 rw [if_neg hc349] at h
 by_cases hc353 : v2 = (26:Int32)
 ·rw [if_pos hc353] at h
  refine Eval.tswIn (t := 205) rfl (by rw [hc353]; rfl) (by rw [hc353]; rfl) rfl ?_
  refine Eval.aload_n rfl rfl ?_
  refine Eval.getfield rfl rfl own_g2_seq ?_
  refine Eval.iload rfl rfl ?_
  refine Eval.iload_n rfl rfl ?_
  refine Eval.aload_n rfl rfl ?_
  refine Eval.getfield rfl rfl own_g2_cap ?_
  refine Eval.iadd rfl ?_
  obtain ⟨hb354, h⟩ := ite_some h
  refine Eval.iastore rfl rfl own_a2_seq hb354 own_s2_seq ?_
  refine Eval.aload_n rfl rfl ?_
  refine Eval.iload_n rfl rfl ?_
  refine Eval.iconst (x := 1) rfl rfl ?_
  refine Eval.aload_n rfl rfl ?_
  refine Eval.getfield rfl rfl own_g2_locV ?_
  refine Eval.iload_n rfl rfl ?_
  obtain ⟨hb355, h⟩ := ite_some h
  refine Eval.iaload rfl own_a2_locV hb355 ?_
  obtain ⟨p356, hq357, h⟩ := bind_some h
  refine Eval.callN (rest := []) (H1 := (W2 scr c1 p356 R)) rfl rfl (Eval.heap own_mk2_01 (ev_j_finish_2 R scr c1 (Q.mk (wr s.f0 ((rd s.f3 v1) &&& s.f26) ((rd s.f3 v1) + s.f25)) s.f1 s.f2 s.f3 s.f4 s.f5 s.f6 s.f7 s.f8 s.f9 s.f10 s.f11 s.f12 s.f13 s.f14 s.f15 s.f16 s.f17 s.f18 s.f19 s.f20 s.f21 s.f22 s.f23 s.f24 s.f25 s.f26 s.f27 s.f28 s.f29 s.f30 s.f31 s.f32) v1 (1:Int32) (rd s.f4 v1) hq357 rfl)) ?_
  refine Eval.iconst (x := 1) rfl rfl ?_
  cases h
  subst hk
  exact Eval.ret rfl rfl
 rw [if_neg hc353] at h
 refine Eval.tswOut (t := 232) rfl (by have e0 : Int32.toInt v2 ≠ 21 := fun q => hc324 (Int32.toInt_inj.mp q); have e1 : Int32.toInt v2 ≠ 22 := fun q => hc327 (Int32.toInt_inj.mp q); have e2 : Int32.toInt v2 ≠ 23 := fun q => hc333 (Int32.toInt_inj.mp q); have e3 : Int32.toInt v2 ≠ 24 := fun q => hc337 (Int32.toInt_inj.mp q); have e4 : Int32.toInt v2 ≠ 25 := fun q => hc349 (Int32.toInt_inj.mp q); have e5 : Int32.toInt v2 ≠ 26 := fun q => hc353 (Int32.toInt_inj.mp q); simp only [Bool.or_eq_true, decide_eq_true_eq]; omega) rfl ?_
 refine Eval.iconst (x := 0) rfl rfl ?_
 cases h
 subst hk
 exact Eval.ret rfl rfl
set_option maxRecDepth 100000 in
theorem ev_j_doStep_b26_2 (R : AHeap) (scr : List Int32) (c1 s : Q) (v1 v2 : Int32) {res : Int32 × Q} {out : Option Value × AHeap} (h : j_doStep_b26 s v1 v2 = some res) (hk : out = (some (.int res.1), (W2 scr c1 res.2 R))) : Eval own_P 26 26 [some (.ref 26), some (.int v1), some (.int v2)] [] (W2 scr c1 s R) out := by
 rw [j_doStep_b26] at h
 refine Eval.iload_n rfl rfl ?_
 refine Eval.bipush (x := 21) rfl rfl ?_
 by_cases hc321 : v2 < (21:Int32)
 ·rw [if_pos hc321] at h
  refine Eval.icmpT (t := 45) rfl rfl (tlt hc321).1 ?_
  refine Eval.iconst (x := 0) rfl rfl ?_
  cases h
  subst hk
  exact Eval.ret rfl rfl
 ·rw [if_neg hc321] at h
  refine Eval.icmpF rfl (flt hc321).1 ?_
  refine Eval.iload_n rfl rfl ?_
  refine Eval.bipush (x := 26) rfl rfl ?_
  by_cases hc322 : (26:Int32) < v2
  ·rw [if_pos hc322] at h
   refine Eval.icmpT (t := 45) rfl rfl (tlt hc322).2.2.1 ?_
   refine Eval.iconst (x := 0) rfl rfl ?_
   cases h
   subst hk
   exact Eval.ret rfl rfl
  ·rw [if_neg hc322] at h
   refine Eval.icmpF rfl (flt hc322).2.2.1 ?_
   refine Eval.aload_n rfl rfl ?_
   refine Eval.iload_n rfl rfl ?_
   refine Eval.iload_n rfl rfl ?_
   obtain ⟨p359, hq360, h⟩ := bind_some h
   refine Eval.callI (rest := []) (x := p359.1) (H1 := (W2 scr c1 p359.2 R)) rfl rfl (ev_j_deqStep_2 R scr c1 s v1 v2 hq360 rfl) ?_
   cases h
   subst hk
   exact Eval.ret rfl rfl
set_option maxRecDepth 100000 in
theorem ev_j_enqStep_b114_2 (R : AHeap) (scr : List Int32) (c1 s : Q) (w1 w2 : Int32) {res : Int32 × Q} {out : Option Value × AHeap} (h : j_enqStep_b114 s w1 w2 = some res) (hk : out = (some (.int res.1), (W2 scr c1 res.2 R))) : Eval own_P 27 114 [none, none, none, none, none, none] [.int w2, .int w1, .ref 29] (W2 scr c1 s R) out := by
 rw [j_enqStep_b114] at h
 obtain ⟨hb372, h⟩ := ite_some h
 refine Eval.iastore rfl rfl own_a2_st hb372 own_s2_st ?_
 refine Eval.iconst (x := 0) rfl rfl ?_
 cases h
 subst hk
 exact Eval.retH own_mk2_01 rfl rfl
set_option maxRecDepth 100000 in
theorem ev_j_enqStep_2 (R : AHeap) (scr : List Int32) (c1 s : Q) (v1 v2 : Int32) {res : Int32 × Q} {out : Option Value × AHeap} (h : j_enqStep s v1 v2 = some res) (hk : out = (some (.int res.1), (W2 scr c1 res.2 R))) : Eval own_P 27 0 [some (.ref 26), some (.int v1), some (.int v2), none, none, none] [] (W2 scr c1 s R) out := by
 rw [j_enqStep] at h
 refine Eval.aload_n rfl rfl ?_
 refine Eval.getfield rfl rfl own_g2_locP ?_
 refine Eval.iload_n rfl rfl ?_
 obtain ⟨hb363, h⟩ := ite_some h
 refine Eval.iaload rfl own_a2_locP hb363 ?_
 refine Eval.istore_n (L' := [some (.ref 26), some (.int v1), some (.int v2), some (.int (rd s.f3 v1)), none, none]) rfl rfl ?_
 refine Eval.iload_n rfl rfl ?_
 refine Eval.aload_n rfl rfl ?_
 refine Eval.getfield rfl rfl own_g2_mask ?_
 refine Eval.iand rfl ?_
 refine Eval.istore (L' := [some (.ref 26), some (.int v1), some (.int v2), some (.int (rd s.f3 v1)), some (.int ((rd s.f3 v1) &&& s.f26)), none]) rfl rfl ?_
 refine Eval.iload_n rfl rfl ?_
 by_cases hc364 : v2 = (11:Int32)
 ·rw [if_pos hc364] at h
  refine Eval.tswIn (t := 56) rfl (by rw [hc364]; rfl) (by rw [hc364]; rfl) rfl ?_
  refine Eval.aload_n rfl rfl ?_
  refine Eval.getfield rfl rfl own_g2_locP ?_
  refine Eval.iload_n rfl rfl ?_
  refine Eval.aload_n rfl rfl ?_
  refine Eval.getfield rfl rfl own_g2_tail ?_
  obtain ⟨hb365, h⟩ := ite_some h
  refine Eval.iastore rfl rfl own_a2_locP hb365 own_s2_locP ?_
  refine Eval.aload_n rfl rfl ?_
  refine Eval.getfield rfl rfl own_g2_st ?_
  refine Eval.iload_n rfl rfl ?_
  refine Eval.bipush (x := 12) rfl rfl ?_
  obtain ⟨hb366, h⟩ := ite_some h
  refine Eval.iastore rfl rfl own_a2_st hb366 own_s2_st ?_
  refine Eval.iconst (x := 0) rfl rfl ?_
  cases h
  subst hk
  exact Eval.retH own_mk2_01 rfl rfl
 rw [if_neg hc364] at h
 by_cases hc367 : v2 = (12:Int32)
 ·rw [if_pos hc367] at h
  refine Eval.tswIn (t := 76) rfl (by rw [hc367]; rfl) (by rw [hc367]; rfl) rfl ?_
  refine Eval.aload_n rfl rfl ?_
  refine Eval.getfield rfl rfl own_g2_seq ?_
  refine Eval.iload rfl rfl ?_
  obtain ⟨hb368, h⟩ := ite_some h
  refine Eval.iaload rfl own_a2_seq hb368 ?_
  refine Eval.iload_n rfl rfl ?_
  refine Eval.isub rfl ?_
  refine Eval.istore (L' := [some (.ref 26), some (.int v1), some (.int v2), some (.int (rd s.f3 v1)), some (.int ((rd s.f3 v1) &&& s.f26)), some (.int ((rd s.f0 ((rd s.f3 v1) &&& s.f26)) - (rd s.f3 v1)))]) rfl rfl ?_
  refine Eval.aload_n rfl rfl ?_
  refine Eval.getfield rfl rfl own_g2_st ?_
  refine Eval.iload_n rfl rfl ?_
  refine Eval.iload rfl rfl ?_
  suffices hJ371 : Eval own_P 27 114 [none, none, none, none, none, none] [.int (if ((rd s.f0 ((rd s.f3 v1) &&& s.f26)) - (rd s.f3 v1)) = (0:Int32) then (13:Int32) else (if ((rd s.f0 ((rd s.f3 v1) &&& s.f26)) - (rd s.f3 v1)) < (0:Int32) then (14:Int32) else (11:Int32))), .int v1, .ref 29] (W2 scr c1 s R) out by
   by_cases hc369 : ((rd s.f0 ((rd s.f3 v1) &&& s.f26)) - (rd s.f3 v1)) = (0:Int32)
   ·refine Eval.ifF rfl (teq hc369).2 ?_
    refine Eval.bipush (x := 13) rfl rfl ?_
    refine Eval.goto (t := 114) rfl rfl ?_
    refine Eval.weak (lw_mk 0 _) ?_
    exact (Eval.conv hJ371 rfl (by simp only [if_pos hc369]))
   ·refine Eval.ifT (t := 102) rfl rfl (feq hc369).2 ?_
    refine Eval.iload rfl rfl ?_
    by_cases hc370 : ((rd s.f0 ((rd s.f3 v1) &&& s.f26)) - (rd s.f3 v1)) < (0:Int32)
    ·refine Eval.ifF rfl (tlt hc370).2.1 ?_
     refine Eval.bipush (x := 14) rfl rfl ?_
     refine Eval.goto (t := 114) rfl rfl ?_
     refine Eval.weak (lw_mk 0 _) ?_
     exact (Eval.conv hJ371 rfl (by simp only [if_neg hc369, if_pos hc370]))
    ·refine Eval.ifT (t := 112) rfl rfl (flt hc370).2.1 ?_
     refine Eval.bipush (x := 11) rfl rfl ?_
     refine Eval.weak (lw_mk 0 _) ?_
     exact (Eval.conv hJ371 rfl (by simp only [if_neg hc369, if_neg hc370]))
  exact ev_j_enqStep_b114_2 R scr c1 s v1 (if ((rd s.f0 ((rd s.f3 v1) &&& s.f26)) - (rd s.f3 v1)) = (0:Int32) then (13:Int32) else (if ((rd s.f0 ((rd s.f3 v1) &&& s.f26)) - (rd s.f3 v1)) < (0:Int32) then (14:Int32) else (11:Int32))) h hk
 rw [if_neg hc367] at h
 by_cases hc373 : v2 = (13:Int32)
 ·rw [if_pos hc373] at h
  refine Eval.tswIn (t := 117) rfl (by rw [hc373]; rfl) (by rw [hc373]; rfl) rfl ?_
  refine Eval.aload_n rfl rfl ?_
  refine Eval.getfield rfl rfl own_g2_tail ?_
  refine Eval.iload_n rfl rfl ?_
  by_cases hc374 : s.f28 = (rd s.f3 v1)
  ·rw [if_pos hc374] at h
   refine Eval.icmpF rfl (teq hc374).2 ?_
   refine Eval.aload_n rfl rfl ?_
   refine Eval.iload_n rfl rfl ?_
   refine Eval.iconst (x := 1) rfl rfl ?_
   refine Eval.iadd rfl ?_
   refine Eval.putfield rfl rfl own_p2_tail ?_
   refine Eval.aload_n rfl rfl ?_
   refine Eval.getfield rfl rfl own_g2_st ?_
   refine Eval.iload_n rfl rfl ?_
   refine Eval.bipush (x := 15) rfl rfl ?_
   obtain ⟨hb375, h⟩ := ite_some h
   refine Eval.iastore rfl rfl own_a2_st hb375 own_s2_st ?_
   refine Eval.goto (t := 151) rfl rfl ?_
   refine Eval.iconst (x := 0) rfl rfl ?_
   cases h
   subst hk
   exact Eval.retH own_mk2_01 rfl rfl
  ·rw [if_neg hc374] at h
   refine Eval.icmpT (t := 143) rfl rfl (feq hc374).2 ?_
   refine Eval.aload_n rfl rfl ?_
   refine Eval.getfield rfl rfl own_g2_st ?_
   refine Eval.iload_n rfl rfl ?_
   refine Eval.bipush (x := 11) rfl rfl ?_
   obtain ⟨hb376, h⟩ := ite_some h
   refine Eval.iastore rfl rfl own_a2_st hb376 own_s2_st ?_
   refine Eval.iconst (x := 0) rfl rfl ?_
   cases h
   subst hk
   exact Eval.retH own_mk2_01 rfl rfl
 rw [if_neg hc373] at h
 by_cases hc377 : v2 = (14:Int32)
 ·rw [if_pos hc377] at h
  refine Eval.tswIn (t := 153) rfl (by rw [hc377]; rfl) (by rw [hc377]; rfl) rfl ?_
  refine Eval.iload_n rfl rfl ?_
  refine Eval.aload_n rfl rfl ?_
  refine Eval.getfield rfl rfl own_g2_head ?_
  refine Eval.isub rfl ?_
  refine Eval.aload_n rfl rfl ?_
  refine Eval.getfield rfl rfl own_g2_cap ?_
  by_cases hc378 : ((rd s.f3 v1) - s.f27) = s.f25
  ·rw [if_pos hc378] at h
   refine Eval.icmpF rfl (teq hc378).2 ?_
   refine Eval.aload_n rfl rfl ?_
   refine Eval.iload_n rfl rfl ?_
   refine Eval.iconst (x := 2) rfl rfl ?_
   refine Eval.iconst (x := 0) rfl rfl ?_
   obtain ⟨p379, hq380, h⟩ := bind_some h
   refine Eval.callN (rest := []) (H1 := (W2 scr c1 p379 R)) rfl rfl (ev_j_finish_2 R scr c1 s v1 (2:Int32) (0:Int32) hq380 rfl) ?_
   refine Eval.iconst (x := 1) rfl rfl ?_
   cases h
   subst hk
   exact Eval.ret rfl rfl
  ·rw [if_neg hc378] at h
   refine Eval.icmpT (t := 175) rfl rfl (feq hc378).2 ?_
   refine Eval.aload_n rfl rfl ?_
   refine Eval.getfield rfl rfl own_g2_st ?_
   refine Eval.iload_n rfl rfl ?_
   refine Eval.bipush (x := 11) rfl rfl ?_
   obtain ⟨hb382, h⟩ := ite_some h
   refine Eval.iastore rfl rfl own_a2_st hb382 own_s2_st ?_
   refine Eval.iconst (x := 0) rfl rfl ?_
   cases h
   subst hk
   exact Eval.retH own_mk2_01 rfl rfl
 rw [if_neg hc377] at h
 by_cases hc383 : v2 = (15:Int32)
 ·rw [if_pos hc383] at h
  refine Eval.tswIn (t := 185) rfl (by rw [hc383]; rfl) (by rw [hc383]; rfl) rfl ?_
  refine Eval.aload_n rfl rfl ?_
  refine Eval.getfield rfl rfl own_g2_val ?_
  refine Eval.iload rfl rfl ?_
  refine Eval.aload_n rfl rfl ?_
  refine Eval.getfield rfl rfl own_g2_locV ?_
  refine Eval.iload_n rfl rfl ?_
  obtain ⟨hb384, h⟩ := ite_some h
  refine Eval.iaload rfl own_a2_locV hb384 ?_
  obtain ⟨hb385, h⟩ := ite_some h
  refine Eval.iastore rfl rfl own_a2_val hb385 own_s2_val ?_
  refine Eval.aload_n rfl rfl ?_
  refine Eval.getfield rfl rfl own_g2_st ?_
  refine Eval.iload_n rfl rfl ?_
  refine Eval.bipush (x := 16) rfl rfl ?_
  obtain ⟨hb386, h⟩ := ite_some h
  refine Eval.iastore rfl rfl own_a2_st hb386 own_s2_st ?_
  refine Eval.iconst (x := 0) rfl rfl ?_
  cases h
  subst hk
  exact Eval.retH own_mk2_01 rfl rfl
 rw [if_neg hc383] at h
 by_cases hc387 : v2 = (16:Int32)
 ·rw [if_pos hc387] at h
  refine Eval.tswIn (t := 208) rfl (by rw [hc387]; rfl) (by rw [hc387]; rfl) rfl ?_
  refine Eval.aload_n rfl rfl ?_
  refine Eval.getfield rfl rfl own_g2_seq ?_
  refine Eval.iload rfl rfl ?_
  refine Eval.iload_n rfl rfl ?_
  refine Eval.iconst (x := 1) rfl rfl ?_
  refine Eval.iadd rfl ?_
  obtain ⟨hb388, h⟩ := ite_some h
  refine Eval.iastore rfl rfl own_a2_seq hb388 own_s2_seq ?_
  refine Eval.aload_n rfl rfl ?_
  refine Eval.iload_n rfl rfl ?_
  refine Eval.iconst (x := 1) rfl rfl ?_
  refine Eval.iconst (x := 0) rfl rfl ?_
  obtain ⟨p389, hq390, h⟩ := bind_some h
  refine Eval.callN (rest := []) (H1 := (W2 scr c1 p389 R)) rfl rfl (Eval.heap own_mk2_01 (ev_j_finish_2 R scr c1 (Q.mk (wr s.f0 ((rd s.f3 v1) &&& s.f26) ((rd s.f3 v1) + (1:Int32))) s.f1 s.f2 s.f3 s.f4 s.f5 s.f6 s.f7 s.f8 s.f9 s.f10 s.f11 s.f12 s.f13 s.f14 s.f15 s.f16 s.f17 s.f18 s.f19 s.f20 s.f21 s.f22 s.f23 s.f24 s.f25 s.f26 s.f27 s.f28 s.f29 s.f30 s.f31 s.f32) v1 (1:Int32) (0:Int32) hq390 rfl)) ?_
  refine Eval.iconst (x := 1) rfl rfl ?_
  cases h
  subst hk
  exact Eval.ret rfl rfl
 rw [if_neg hc387] at h
 refine Eval.tswOut (t := 227) rfl (by have e0 : Int32.toInt v2 ≠ 11 := fun q => hc364 (Int32.toInt_inj.mp q); have e1 : Int32.toInt v2 ≠ 12 := fun q => hc367 (Int32.toInt_inj.mp q); have e2 : Int32.toInt v2 ≠ 13 := fun q => hc373 (Int32.toInt_inj.mp q); have e3 : Int32.toInt v2 ≠ 14 := fun q => hc377 (Int32.toInt_inj.mp q); have e4 : Int32.toInt v2 ≠ 15 := fun q => hc383 (Int32.toInt_inj.mp q); have e5 : Int32.toInt v2 ≠ 16 := fun q => hc387 (Int32.toInt_inj.mp q); simp only [Bool.or_eq_true, decide_eq_true_eq]; omega) rfl ?_
 refine Eval.iconst (x := 0) rfl rfl ?_
 cases h
 subst hk
 exact Eval.ret rfl rfl
set_option maxRecDepth 100000 in
theorem ev_j_doStep_2 (R : AHeap) (scr : List Int32) (c1 s : Q) (v1 : Int32) {res : Int32 × Q} {out : Option Value × AHeap} (h : j_doStep s v1 = some res) (hk : out = (some (.int res.1), (W2 scr c1 res.2 R))) : Eval own_P 26 0 [some (.ref 26), some (.int v1), none] [] (W2 scr c1 s R) out := by
 rw [j_doStep] at h
 refine Eval.aload_n rfl rfl ?_
 refine Eval.getfield rfl rfl own_g2_st ?_
 refine Eval.iload_n rfl rfl ?_
 obtain ⟨hb319, h⟩ := ite_some h
 refine Eval.iaload rfl own_a2_st hb319 ?_
 refine Eval.istore_n (L' := [some (.ref 26), some (.int v1), some (.int (rd s.f2 v1))]) rfl rfl ?_
 refine Eval.iload_n rfl rfl ?_
 refine Eval.bipush (x := 11) rfl rfl ?_
 by_cases hc320 : (rd s.f2 v1) < (11:Int32)
 ·rw [if_pos hc320] at h
  refine Eval.icmpT (t := 26) rfl rfl (tlt hc320).1 ?_
  exact ev_j_doStep_b26_2 R scr c1 s v1 (rd s.f2 v1) h hk
 ·rw [if_neg hc320] at h
  refine Eval.icmpF rfl (flt hc320).1 ?_
  refine Eval.iload_n rfl rfl ?_
  refine Eval.bipush (x := 16) rfl rfl ?_
  by_cases hc362 : (16:Int32) < (rd s.f2 v1)
  ·rw [if_pos hc362] at h
   refine Eval.icmpT (t := 26) rfl rfl (tlt hc362).2.2.1 ?_
   exact ev_j_doStep_b26_2 R scr c1 s v1 (rd s.f2 v1) h hk
  ·rw [if_neg hc362] at h
   refine Eval.icmpF rfl (flt hc362).2.2.1 ?_
   refine Eval.aload_n rfl rfl ?_
   refine Eval.iload_n rfl rfl ?_
   refine Eval.iload_n rfl rfl ?_
   obtain ⟨p392, hq393, h⟩ := bind_some h
   refine Eval.callI (rest := []) (x := p392.1) (H1 := (W2 scr c1 p392.2 R)) rfl rfl (ev_j_enqStep_2 R scr c1 s v1 (rd s.f2 v1) hq393 rfl) ?_
   cases h
   subst hk
   exact Eval.ret rfl rfl
set_option maxRecDepth 100000 in
theorem ev_j_run_l43_2 (R : AHeap) (scr : List Int32) (c1 : Q) : ∀ (n : Nat) (s : Q) (v1 v3 v4 : Int32) {res : (Q) ⊕ (Q)} {out : Option Value × AHeap}, j_run_l43 n s v1 v3 v4 = some res → j_run_l43_K_2 R scr c1 res out → Eval own_P 4 43 [some (.ref 26), some (.int v1), none, some (.int v3), some (.int v4)] [] (W2 scr c1 s R) out := by
 intro n
 induction n with
 | zero => intro _ _ _ _ res out h hk; cases h
 | succ n hrec =>
  intro s v1 v3 v4 res out h hk
  rw [j_run_l43] at h
  refine Eval.iload rfl rfl ?_
  refine Eval.iload_n rfl rfl ?_
  by_cases hc318 : v4 < v3
  ·rw [if_pos hc318] at h
   refine Eval.icmpF rfl (tlt hc318).2.1 ?_
   refine Eval.aload_n rfl rfl ?_
   refine Eval.iload_n rfl rfl ?_
   obtain ⟨p395, hq396, h⟩ := bind_some h
   refine Eval.callI (rest := []) (x := p395.1) (H1 := (W2 scr c1 p395.2 R)) rfl rfl (ev_j_doStep_2 R scr c1 s v1 hq396 rfl) ?_
   by_cases hc398 : p395.1 = (0:Int32)
   ·rw [if_pos hc398] at h
    refine Eval.ifT (t := 59) rfl rfl (teq hc398).1 ?_
    refine Eval.iinc (L' := [some (.ref 26), some (.int v1), none, some (.int v3), some (.int (v4 + (1:Int32)))]) rfl rfl rfl ?_
    refine Eval.goto (t := 43) rfl rfl ?_
    exact hrec _ _ _ _ h hk
   ·rw [if_neg hc398] at h
    refine Eval.ifF rfl (feq hc398).1 ?_
    cases h
    refine Eval.weak (lw_mk 0 _) ?_
    exact hk
  ·rw [if_neg hc318] at h
   refine Eval.icmpT (t := 65) rfl rfl (flt hc318).2.1 ?_
   cases h
   refine Eval.weak (lw_mk 0 _) ?_
   exact hk
set_option maxRecDepth 100000 in
theorem ev_j_run_2 (R : AHeap) (scr : List Int32) (c1 s : Q) (v1 v2 : Int32) {res : Int32 × Q} {out : Option Value × AHeap} (h : j_run s v1 v2 = some res) (hk : out = (some (.int res.1), (W2 scr c1 res.2 R))) : Eval own_P 4 0 [some (.ref 26), some (.int v1), some (.int v2), none, none] [] (W2 scr c1 s R) out := by
 rw [j_run] at h
 refine Eval.aload_n rfl rfl ?_
 refine Eval.iload_n rfl rfl ?_
 refine Eval.iconst (x := 1) rfl rfl ?_
 refine Eval.bipush (x := 64) rfl rfl ?_
 refine Eval.callI (rest := []) (x := (j_clamp v2 (1:Int32) (64:Int32))) (H1 := (W2 scr c1 s R)) rfl rfl (ev_j_clamp (W2 scr c1 s R) 26 v2 (1:Int32) (64:Int32) rfl rfl) ?_
 refine Eval.istore_n (L' := [some (.ref 26), some (.int v1), some (.int v2), some (.int (j_clamp v2 (1:Int32) (64:Int32))), none]) rfl rfl ?_
 refine Eval.aload_n rfl rfl ?_
 refine Eval.iload_n rfl rfl ?_
 refine Eval.callI (rest := []) (x := (j_valid s v1)) (H1 := (W2 scr c1 s R)) rfl rfl (ev_j_valid_2 R scr c1 s v1 rfl rfl) ?_
 by_cases hc313 : (j_valid s v1) = (0:Int32)
 ·rw [if_pos hc313] at h
  refine Eval.ifF rfl (teq hc313).2 ?_
  refine Eval.iconst (x := -1) rfl rfl ?_
  cases h
  subst hk
  exact Eval.ret rfl rfl
 ·rw [if_neg hc313] at h
  refine Eval.ifT (t := 19) rfl rfl (feq hc313).2 ?_
  refine Eval.aload_n rfl rfl ?_
  refine Eval.getfield rfl rfl own_g2_st ?_
  refine Eval.iload_n rfl rfl ?_
  obtain ⟨hb314, h⟩ := ite_some h
  refine Eval.iaload rfl own_a2_st hb314 ?_
  by_cases hc315 : (rd s.f2 v1) = (0:Int32)
  ·rw [if_pos hc315] at h
   refine Eval.ifT (t := 38) rfl rfl (teq hc315).1 ?_
   refine Eval.iconst (x := 0) rfl rfl ?_
   cases h
   subst hk
   exact Eval.ret rfl rfl
  ·rw [if_neg hc315] at h
   refine Eval.ifF rfl (feq hc315).1 ?_
   refine Eval.aload_n rfl rfl ?_
   refine Eval.getfield rfl rfl own_g2_st ?_
   refine Eval.iload_n rfl rfl ?_
   obtain ⟨hb316, h⟩ := ite_some h
   refine Eval.iaload rfl own_a2_st hb316 ?_
   refine Eval.iconst (x := 1) rfl rfl ?_
   by_cases hc317 : (rd s.f2 v1) = (1:Int32)
   ·rw [if_pos hc317] at h
    refine Eval.icmpF rfl (teq hc317).2 ?_
    refine Eval.iconst (x := 0) rfl rfl ?_
    cases h
    subst hk
    exact Eval.ret rfl rfl
   ·rw [if_neg hc317] at h
    refine Eval.icmpT (t := 40) rfl rfl (feq hc317).2 ?_
    refine Eval.iconst (x := 0) rfl rfl ?_
    refine Eval.istore (L' := [some (.ref 26), some (.int v1), some (.int v2), some (.int (j_clamp v2 (1:Int32) (64:Int32))), some (.int 0)]) rfl rfl ?_
    refine Eval.weak (lw_mk 27 _) ?_
    obtain ⟨p399, hq400, h⟩ := bind_some h
    rcases p399 with p401 | p402
    ·dsimp only [Sum.elim] at h
     refine ev_j_run_l43_2 R scr c1 _ s v1 (j_clamp v2 (1:Int32) (64:Int32)) (0:Int32) hq400 ?_
     show Eval own_P 4 57 [none, none, none, none, none] [] (W2 scr c1 p401 R) out
     refine Eval.iconst (x := 2) rfl rfl ?_
     cases h
     subst hk
     exact Eval.ret rfl rfl
    ·dsimp only [Sum.elim] at h
     refine ev_j_run_l43_2 R scr c1 _ s v1 (j_clamp v2 (1:Int32) (64:Int32)) (0:Int32) hq400 ?_
     show Eval own_P 4 65 [none, none, none, none, none] [] (W2 scr c1 p402 R) out
     refine Eval.iconst (x := 1) rfl rfl ?_
     cases h
     subst hk
     exact Eval.ret rfl rfl
set_option maxRecDepth 100000 in
theorem ev_j_logInvoke_b60_2 (R : AHeap) (scr : List Int32) (c1 s : Q) (v1 v2 : Int32) {res : Int32 × Q} {out : Option Value × AHeap} (h : j_logInvoke_b60 s v1 v2 = some res) (hk : out = (some (.int res.1), (W2 scr c1 res.2 R))) : Eval own_P 40 60 [some (.ref 26), some (.int v1), some (.int v2), none] [] (W2 scr c1 s R) out := by
 rw [j_logInvoke_b60] at h
 refine Eval.aload_n rfl rfl ?_
 refine Eval.getfield rfl rfl own_g2_logKind ?_
 refine Eval.iload_n rfl rfl ?_
 refine Eval.iload_n rfl rfl ?_
 obtain ⟨hb421, h⟩ := ite_some h
 refine Eval.iastore rfl rfl own_a2_logKind hb421 own_s2_logKind ?_
 refine Eval.aload_n rfl rfl ?_
 refine Eval.getfield rfl rfl own_g2_st ?_
 refine Eval.iload_n rfl rfl ?_
 refine Eval.iconst (x := 1) rfl rfl ?_
 obtain ⟨hb422, h⟩ := ite_some h
 refine Eval.iastore rfl rfl own_a2_st hb422 own_s2_st ?_
 refine Eval.iconst (x := 1) rfl rfl ?_
 cases h
 subst hk
 exact Eval.retH own_mk2_01 rfl rfl
set_option maxRecDepth 100000 in
theorem ev_j_logInvoke_b20_2 (R : AHeap) (scr : List Int32) (c1 s : Q) (v1 v2 v3 : Int32) {res : Int32 × Q} {out : Option Value × AHeap} (h : j_logInvoke_b20 s v1 v2 v3 = some res) (hk : out = (some (.int res.1), (W2 scr c1 res.2 R))) : Eval own_P 40 20 [some (.ref 26), some (.int v1), some (.int v2), some (.int v3)] [] (W2 scr c1 s R) out := by
 rw [j_logInvoke_b20] at h
 refine Eval.aload_n rfl rfl ?_
 refine Eval.getfield rfl rfl own_g2_st ?_
 refine Eval.iload_n rfl rfl ?_
 obtain ⟨hb411, h⟩ := ite_some h
 refine Eval.iaload rfl own_a2_st hb411 ?_
 by_cases hc412 : (rd s.f2 v1) = (0:Int32)
 ·rw [if_pos hc412] at h
  refine Eval.ifF rfl (teq hc412).2 ?_
  refine Eval.aload_n rfl rfl ?_
  obtain ⟨p413, hq414, h⟩ := bind_some h
  refine Eval.callI (rest := []) (x := p413) (H1 := (W2 scr c1 s R)) rfl rfl (ev_j_hasRoom_2 R scr c1 s hq414 rfl) ?_
  by_cases hc415 : p413 = (0:Int32)
  ·rw [if_pos hc415] at h
   refine Eval.ifF rfl (teq hc415).2 ?_
   refine Eval.iconst (x := 0) rfl rfl ?_
   cases h
   subst hk
   exact Eval.ret rfl rfl
  ·rw [if_neg hc415] at h
   refine Eval.ifT (t := 38) rfl rfl (feq hc415).2 ?_
   refine Eval.iload_n rfl rfl ?_
   refine Eval.iconst (x := 1) rfl rfl ?_
   by_cases hc417 : v2 = (1:Int32)
   ·rw [if_pos hc417] at h
    refine Eval.icmpF rfl (teq hc417).2 ?_
    refine Eval.aload_n rfl rfl ?_
    refine Eval.iconst (x := 1) rfl rfl ?_
    refine Eval.iload_n rfl rfl ?_
    refine Eval.iload_n rfl rfl ?_
    obtain ⟨p418, hq419, h⟩ := bind_some h
    refine Eval.callN (rest := []) (H1 := (W2 scr c1 p418 R)) rfl rfl (ev_j_append_2 R scr c1 s (1:Int32) v1 v3 hq419 rfl) ?_
    refine Eval.goto (t := 60) rfl rfl ?_
    refine Eval.weak (lw_mk 7 _) ?_
    exact ev_j_logInvoke_b60_2 R scr c1 p418 v1 v2 h hk
   ·rw [if_neg hc417] at h
    refine Eval.icmpT (t := 53) rfl rfl (feq hc417).2 ?_
    refine Eval.aload_n rfl rfl ?_
    refine Eval.iconst (x := 2) rfl rfl ?_
    refine Eval.iload_n rfl rfl ?_
    refine Eval.iconst (x := 0) rfl rfl ?_
    obtain ⟨p423, hq424, h⟩ := bind_some h
    refine Eval.callN (rest := []) (H1 := (W2 scr c1 p423 R)) rfl rfl (ev_j_append_2 R scr c1 s (2:Int32) v1 (0:Int32) hq424 rfl) ?_
    refine Eval.weak (lw_mk 7 _) ?_
    exact ev_j_logInvoke_b60_2 R scr c1 p423 v1 v2 h hk
 ·rw [if_neg hc412] at h
  refine Eval.ifT (t := 36) rfl rfl (feq hc412).2 ?_
  refine Eval.iconst (x := 0) rfl rfl ?_
  cases h
  subst hk
  exact Eval.ret rfl rfl
set_option maxRecDepth 100000 in
theorem ev_j_logInvoke_2 (R : AHeap) (scr : List Int32) (c1 s : Q) (v1 v2 v3 : Int32) {res : Int32 × Q} {out : Option Value × AHeap} (h : j_logInvoke s v1 v2 v3 = some res) (hk : out = (some (.int res.1), (W2 scr c1 res.2 R))) : Eval own_P 40 0 [some (.ref 26), some (.int v1), some (.int v2), some (.int v3)] [] (W2 scr c1 s R) out := by
 rw [j_logInvoke] at h
 refine Eval.aload_n rfl rfl ?_
 refine Eval.iload_n rfl rfl ?_
 refine Eval.callI (rest := []) (x := (j_valid s v1)) (H1 := (W2 scr c1 s R)) rfl rfl (ev_j_valid_2 R scr c1 s v1 rfl rfl) ?_
 by_cases hc409 : (j_valid s v1) = (0:Int32)
 ·rw [if_pos hc409] at h
  refine Eval.ifT (t := 18) rfl rfl (teq hc409).1 ?_
  refine Eval.iconst (x := 0) rfl rfl ?_
  cases h
  subst hk
  exact Eval.ret rfl rfl
 ·rw [if_neg hc409] at h
  refine Eval.ifF rfl (feq hc409).1 ?_
  refine Eval.iload_n rfl rfl ?_
  refine Eval.iconst (x := 1) rfl rfl ?_
  by_cases hc410 : v2 = (1:Int32)
  ·rw [if_pos hc410] at h
   refine Eval.icmpT (t := 20) rfl rfl (teq hc410).1 ?_
   exact ev_j_logInvoke_b20_2 R scr c1 s v1 v2 v3 h hk
  ·rw [if_neg hc410] at h
   refine Eval.icmpF rfl (feq hc410).1 ?_
   refine Eval.iload_n rfl rfl ?_
   refine Eval.iconst (x := 2) rfl rfl ?_
   by_cases hc426 : v2 = (2:Int32)
   ·rw [if_pos hc426] at h
    refine Eval.icmpT (t := 20) rfl rfl (teq hc426).1 ?_
    exact ev_j_logInvoke_b20_2 R scr c1 s v1 v2 v3 h hk
   ·rw [if_neg hc426] at h
    refine Eval.icmpF rfl (feq hc426).1 ?_
    refine Eval.iconst (x := 0) rfl rfl ?_
    cases h
    subst hk
    exact Eval.ret rfl rfl
set_option maxRecDepth 100000 in
theorem ev_j_logResponse_b85_2 (R : AHeap) (scr : List Int32) (c1 s : Q) (v1 v2 w0 : Int32) {res : Int32 × Q} {out : Option Value × AHeap} (h : j_logResponse_b85 s v1 v2 w0 = some res) (hk : out = (some (.int res.1), (W2 scr c1 res.2 R))) : Eval own_P 38 85 [some (.ref 26), some (.int v1), some (.int v2), none, none, none, none, none] [.int w0] (W2 scr c1 s R) out := by
 rw [j_logResponse_b85] at h
 refine Eval.istore (L' := [some (.ref 26), some (.int v1), some (.int v2), none, none, none, some (.int w0), none]) rfl rfl ?_
 refine Eval.aload_n rfl rfl ?_
 refine Eval.iload_n rfl rfl ?_
 refine Eval.callI (rest := []) (x := (j_resKind v2)) (H1 := (W2 scr c1 s R)) rfl rfl (ev_j_resKind (W2 scr c1 s R) 26 v2 rfl rfl) ?_
 refine Eval.istore (L' := [some (.ref 26), some (.int v1), some (.int v2), none, none, none, some (.int w0), some (.int (j_resKind v2))]) rfl rfl ?_
 refine Eval.aload_n rfl rfl ?_
 refine Eval.iload rfl rfl ?_
 refine Eval.iload_n rfl rfl ?_
 refine Eval.iload rfl rfl ?_
 obtain ⟨p448, hq449, h⟩ := bind_some h
 refine Eval.callN (rest := []) (H1 := (W2 scr c1 p448 R)) rfl rfl (ev_j_append_2 R scr c1 s (j_resKind v2) v1 w0 hq449 rfl) ?_
 refine Eval.aload_n rfl rfl ?_
 refine Eval.getfield rfl rfl own_g2_st ?_
 refine Eval.iload_n rfl rfl ?_
 refine Eval.iconst (x := 0) rfl rfl ?_
 obtain ⟨hb451, h⟩ := ite_some h
 refine Eval.iastore rfl rfl own_a2_st hb451 own_s2_st ?_
 refine Eval.iconst (x := 1) rfl rfl ?_
 cases h
 subst hk
 exact Eval.retH own_mk2_01 rfl rfl
set_option maxRecDepth 100000 in
theorem ev_j_logResponse_b60_2 (R : AHeap) (scr : List Int32) (c1 s : Q) (v1 v2 : Int32) (v3 v4 w0 : Int32) {res : Int32 × Q} {out : Option Value × AHeap} (h : j_logResponse_b60 s v1 v2 v3 v4 w0 = some res) (hk : out = (some (.int res.1), (W2 scr c1 res.2 R))) : Eval own_P 38 60 [some (.ref 26), some (.int v1), some (.int v2), some (.int v3), some (.int v4), none, none, none] [.int w0] (W2 scr c1 s R) out := by
 rw [j_logResponse_b60] at h
 refine Eval.istore (L' := [some (.ref 26), some (.int v1), some (.int v2), some (.int v3), some (.int v4), some (.int w0), none, none]) rfl rfl ?_
 refine Eval.iload rfl rfl ?_
 by_cases hc444 : w0 = (0:Int32)
 ·rw [if_pos hc444] at h
  refine Eval.ifF rfl (teq hc444).2 ?_
  refine Eval.iconst (x := 0) rfl rfl ?_
  cases h
  subst hk
  exact Eval.ret rfl rfl
 ·rw [if_neg hc444] at h
  refine Eval.ifT (t := 69) rfl rfl (feq hc444).2 ?_
  refine Eval.iload rfl rfl ?_
  refine Eval.iconst (x := 2) rfl rfl ?_
  suffices hJ447 : Eval own_P 38 85 [some (.ref 26), some (.int v1), some (.int v2), none, none, none, none, none] [.int (if v4 = (2:Int32) then (if v2 = (1:Int32) then v3 else (0:Int32)) else (0:Int32))] (W2 scr c1 s R) out by
   by_cases hc445 : v4 = (2:Int32)
   ·refine Eval.icmpF rfl (teq hc445).2 ?_
    refine Eval.iload_n rfl rfl ?_
    refine Eval.iconst (x := 1) rfl rfl ?_
    by_cases hc446 : v2 = (1:Int32)
    ·refine Eval.icmpF rfl (teq hc446).2 ?_
     refine Eval.iload_n rfl rfl ?_
     refine Eval.goto (t := 85) rfl rfl ?_
     refine Eval.weak (lw_mk 7 _) ?_
     exact (Eval.conv hJ447 rfl (by simp only [if_pos hc445, if_pos hc446]))
    ·refine Eval.icmpT (t := 84) rfl rfl (feq hc446).2 ?_
     refine Eval.iconst (x := 0) rfl rfl ?_
     refine Eval.weak (lw_mk 7 _) ?_
     exact (Eval.conv hJ447 rfl (by simp only [if_pos hc445, if_neg hc446]))
   ·refine Eval.icmpT (t := 84) rfl rfl (feq hc445).2 ?_
    refine Eval.iconst (x := 0) rfl rfl ?_
    refine Eval.weak (lw_mk 7 _) ?_
    exact (Eval.conv hJ447 rfl (by simp only [if_neg hc445]))
  exact ev_j_logResponse_b85_2 R scr c1 s v1 v2 (if v4 = (2:Int32) then (if v2 = (1:Int32) then v3 else (0:Int32)) else (0:Int32)) h hk
set_option maxRecDepth 100000 in
theorem ev_j_logResponse_2 (R : AHeap) (scr : List Int32) (c1 s : Q) (v1 v2 v3 : Int32) {res : Int32 × Q} {out : Option Value × AHeap} (h : j_logResponse s v1 v2 v3 = some res) (hk : out = (some (.int res.1), (W2 scr c1 res.2 R))) : Eval own_P 38 0 [some (.ref 26), some (.int v1), some (.int v2), some (.int v3), none, none, none, none] [] (W2 scr c1 s R) out := by
 rw [j_logResponse] at h
 refine Eval.aload_n rfl rfl ?_
 refine Eval.iload_n rfl rfl ?_
 refine Eval.callI (rest := []) (x := (j_valid s v1)) (H1 := (W2 scr c1 s R)) rfl rfl (ev_j_valid_2 R scr c1 s v1 rfl rfl) ?_
 by_cases hc432 : (j_valid s v1) = (0:Int32)
 ·rw [if_pos hc432] at h
  refine Eval.ifT (t := 18) rfl rfl (teq hc432).1 ?_
  refine Eval.iconst (x := 0) rfl rfl ?_
  cases h
  subst hk
  exact Eval.ret rfl rfl
 ·rw [if_neg hc432] at h
  refine Eval.ifF rfl (feq hc432).1 ?_
  refine Eval.aload_n rfl rfl ?_
  refine Eval.getfield rfl rfl own_g2_st ?_
  refine Eval.iload_n rfl rfl ?_
  obtain ⟨hb433, h⟩ := ite_some h
  refine Eval.iaload rfl own_a2_st hb433 ?_
  refine Eval.iconst (x := 1) rfl rfl ?_
  by_cases hc434 : (rd s.f2 v1) = (1:Int32)
  ·rw [if_pos hc434] at h
   refine Eval.icmpT (t := 20) rfl rfl (teq hc434).1 ?_
   refine Eval.aload_n rfl rfl ?_
   refine Eval.getfield rfl rfl own_g2_logKind ?_
   refine Eval.iload_n rfl rfl ?_
   obtain ⟨hb435, h⟩ := ite_some h
   refine Eval.iaload rfl own_a2_logKind hb435 ?_
   refine Eval.istore (L' := [some (.ref 26), some (.int v1), some (.int v2), some (.int v3), some (.int (rd s.f7 v1)), none, none, none]) rfl rfl ?_
   refine Eval.iload_n rfl rfl ?_
   refine Eval.iconst (x := 1) rfl rfl ?_
   suffices hJ443 : Eval own_P 38 60 [some (.ref 26), some (.int v1), some (.int v2), some (.int v3), some (.int (rd s.f7 v1)), none, none, none] [.int (if v2 = (1:Int32) then (1:Int32) else (if (rd s.f7 v1) = (1:Int32) then (if v2 = (2:Int32) then (1:Int32) else (if (rd s.f7 v1) = (2:Int32) then (if v2 = (3:Int32) then (1:Int32) else (0:Int32)) else (0:Int32))) else (if (rd s.f7 v1) = (2:Int32) then (if v2 = (3:Int32) then (1:Int32) else (0:Int32)) else (0:Int32))))] (W2 scr c1 s R) out by
    by_cases hc436 : v2 = (1:Int32)
    ·refine Eval.icmpT (t := 55) rfl rfl (teq hc436).1 ?_
     refine Eval.iconst (x := 1) rfl rfl ?_
     refine Eval.goto (t := 60) rfl rfl ?_
     exact (Eval.conv hJ443 rfl (by simp only [if_pos hc436]))
    ·refine Eval.icmpF rfl (feq hc436).1 ?_
     refine Eval.iload rfl rfl ?_
     refine Eval.iconst (x := 1) rfl rfl ?_
     by_cases hc437 : (rd s.f7 v1) = (1:Int32)
     ·refine Eval.icmpF rfl (teq hc437).2 ?_
      refine Eval.iload_n rfl rfl ?_
      refine Eval.iconst (x := 2) rfl rfl ?_
      by_cases hc438 : v2 = (2:Int32)
      ·refine Eval.icmpT (t := 55) rfl rfl (teq hc438).1 ?_
       refine Eval.iconst (x := 1) rfl rfl ?_
       refine Eval.goto (t := 60) rfl rfl ?_
       exact (Eval.conv hJ443 rfl (by simp only [if_neg hc436, if_pos hc437, if_pos hc438]))
      ·refine Eval.icmpF rfl (feq hc438).1 ?_
       refine Eval.iload rfl rfl ?_
       refine Eval.iconst (x := 2) rfl rfl ?_
       by_cases hc439 : (rd s.f7 v1) = (2:Int32)
       ·refine Eval.icmpF rfl (teq hc439).2 ?_
        refine Eval.iload_n rfl rfl ?_
        refine Eval.iconst (x := 3) rfl rfl ?_
        by_cases hc440 : v2 = (3:Int32)
        ·refine Eval.icmpF rfl (teq hc440).2 ?_
         refine Eval.iconst (x := 1) rfl rfl ?_
         refine Eval.goto (t := 60) rfl rfl ?_
         exact (Eval.conv hJ443 rfl (by simp only [if_neg hc436, if_pos hc437, if_neg hc438, if_pos hc439, if_pos hc440]))
        ·refine Eval.icmpT (t := 59) rfl rfl (feq hc440).2 ?_
         refine Eval.iconst (x := 0) rfl rfl ?_
         exact (Eval.conv hJ443 rfl (by simp only [if_neg hc436, if_pos hc437, if_neg hc438, if_pos hc439, if_neg hc440]))
       ·refine Eval.icmpT (t := 59) rfl rfl (feq hc439).2 ?_
        refine Eval.iconst (x := 0) rfl rfl ?_
        exact (Eval.conv hJ443 rfl (by simp only [if_neg hc436, if_pos hc437, if_neg hc438, if_neg hc439]))
     ·refine Eval.icmpT (t := 44) rfl rfl (feq hc437).2 ?_
      refine Eval.iload rfl rfl ?_
      refine Eval.iconst (x := 2) rfl rfl ?_
      by_cases hc441 : (rd s.f7 v1) = (2:Int32)
      ·refine Eval.icmpF rfl (teq hc441).2 ?_
       refine Eval.iload_n rfl rfl ?_
       refine Eval.iconst (x := 3) rfl rfl ?_
       by_cases hc442 : v2 = (3:Int32)
       ·refine Eval.icmpF rfl (teq hc442).2 ?_
        refine Eval.iconst (x := 1) rfl rfl ?_
        refine Eval.goto (t := 60) rfl rfl ?_
        exact (Eval.conv hJ443 rfl (by simp only [if_neg hc436, if_neg hc437, if_pos hc441, if_pos hc442]))
       ·refine Eval.icmpT (t := 59) rfl rfl (feq hc442).2 ?_
        refine Eval.iconst (x := 0) rfl rfl ?_
        exact (Eval.conv hJ443 rfl (by simp only [if_neg hc436, if_neg hc437, if_pos hc441, if_neg hc442]))
      ·refine Eval.icmpT (t := 59) rfl rfl (feq hc441).2 ?_
       refine Eval.iconst (x := 0) rfl rfl ?_
       exact (Eval.conv hJ443 rfl (by simp only [if_neg hc436, if_neg hc437, if_neg hc441]))
   exact ev_j_logResponse_b60_2 R scr c1 s v1 v2 v3 (rd s.f7 v1) (if v2 = (1:Int32) then (1:Int32) else (if (rd s.f7 v1) = (1:Int32) then (if v2 = (2:Int32) then (1:Int32) else (if (rd s.f7 v1) = (2:Int32) then (if v2 = (3:Int32) then (1:Int32) else (0:Int32)) else (0:Int32))) else (if (rd s.f7 v1) = (2:Int32) then (if v2 = (3:Int32) then (1:Int32) else (0:Int32)) else (0:Int32)))) h hk
  ·rw [if_neg hc434] at h
   refine Eval.icmpF rfl (feq hc434).1 ?_
   refine Eval.iconst (x := 0) rfl rfl ?_
   cases h
   subst hk
   exact Eval.ret rfl rfl
abbrev j_clearHistory_l2_K_2 (R : AHeap) (scr : List Int32) (c1 s : Q) (res : (Unit) ⊕ (Unit)) (out : Option Value × AHeap) : Prop := Sum.elim (fun res => Eval own_P 37 24 [none, none, none] [] (W2 scr c1 s R) out) (fun res => Eval own_P 37 32 [some (.ref 26), none, none] [] (W2 scr c1 s R) out) res

set_option maxRecDepth 100000 in
theorem ev_j_clearHistory_b26_2 (R : AHeap) (scr : List Int32) (c1 : Q) (go_ : Q → Int32 → Option ((Unit) ⊕ (Unit))) (hrec : ∀ (s : Q) (v1 : Int32) {res : (Unit) ⊕ (Unit)} {out : Option Value × AHeap}, go_ s v1 = some res → j_clearHistory_l2_K_2 R scr c1 s res out → Eval own_P 37 2 [some (.ref 26), some (.int v1), none] [] (W2 scr c1 s R) out) (s : Q) (v1 : Int32) {res : (Unit) ⊕ (Unit)} {out : Option Value × AHeap} (h : j_clearHistory_b26 go_ s v1 = some res) (hk : j_clearHistory_l2_K_2 R scr c1 s res out) : Eval own_P 37 26 [some (.ref 26), some (.int v1), none] [] (W2 scr c1 s R) out := by
 rw [j_clearHistory_b26] at h
 refine Eval.iinc (L' := [some (.ref 26), some (.int (v1 + (1:Int32))), none]) rfl rfl rfl ?_
 refine Eval.goto (t := 2) rfl rfl ?_
 exact hrec _ _ h hk
set_option maxRecDepth 100000 in
theorem ev_j_clearHistory_l2_2 (R : AHeap) (scr : List Int32) (c1 : Q) : ∀ (n : Nat) (s : Q) (v1 : Int32) {res : (Unit) ⊕ (Unit)} {out : Option Value × AHeap}, j_clearHistory_l2 n s v1 = some res → j_clearHistory_l2_K_2 R scr c1 s res out → Eval own_P 37 2 [some (.ref 26), some (.int v1), none] [] (W2 scr c1 s R) out := by
 intro n
 induction n with
 | zero => intro _ _ res out h hk; cases h
 | succ n hrec =>
  intro s v1 res out h hk
  rw [j_clearHistory_l2] at h
  refine Eval.iload_n rfl rfl ?_
  refine Eval.iconst (x := 4) rfl rfl ?_
  by_cases hc457 : v1 < (4:Int32)
  ·rw [if_pos hc457] at h
   refine Eval.icmpF rfl (tlt hc457).2.1 ?_
   refine Eval.iload_n rfl rfl ?_
   refine Eval.aload_n rfl rfl ?_
   refine Eval.getfield rfl rfl own_g2_nThreads ?_
   by_cases hc458 : v1 < s.f24
   ·rw [if_pos hc458] at h
    refine Eval.icmpF rfl (tlt hc458).2.1 ?_
    refine Eval.aload_n rfl rfl ?_
    refine Eval.getfield rfl rfl own_g2_st ?_
    refine Eval.iload_n rfl rfl ?_
    obtain ⟨hb459, h⟩ := ite_some h
    refine Eval.iaload rfl own_a2_st hb459 ?_
    by_cases hc460 : (rd s.f2 v1) = (0:Int32)
    ·rw [if_pos hc460] at h
     refine Eval.ifT (t := 26) rfl rfl (teq hc460).1 ?_
     exact ev_j_clearHistory_b26_2 R scr c1 _ hrec s v1 h hk
    ·rw [if_neg hc460] at h
     refine Eval.ifF rfl (feq hc460).1 ?_
     cases h
     refine Eval.weak (lw_mk 0 _) ?_
     exact hk
   ·rw [if_neg hc458] at h
    refine Eval.icmpT (t := 26) rfl rfl (flt hc458).2.1 ?_
    exact ev_j_clearHistory_b26_2 R scr c1 _ hrec s v1 h hk
  ·rw [if_neg hc457] at h
   refine Eval.icmpT (t := 32) rfl rfl (flt hc457).2.1 ?_
   cases h
   refine Eval.weak (lw_mk 1 _) ?_
   exact hk
abbrev j_clearHistory_l54_K_2 (R : AHeap) (scr : List Int32) (c1 : Q) (res : (Q) ⊕ (Q)) (out : Option Value × AHeap) : Prop := Sum.elim (fun res => Eval own_P 37 65 [none, none, none] [] (W2 scr c1 res R) out) (fun res => Eval own_P 37 106 [none, none, none] [] (W2 scr c1 res R) out) res

set_option maxRecDepth 100000 in
theorem ev_j_clearHistory_l54_2 (R : AHeap) (scr : List Int32) (c1 : Q) : ∀ (n : Nat) (s : Q) (v1 v2 : Int32) {res : (Q) ⊕ (Q)} {out : Option Value × AHeap}, j_clearHistory_l54 n s v1 v2 = some res → j_clearHistory_l54_K_2 R scr c1 res out → Eval own_P 37 54 [some (.ref 26), some (.int v1), some (.int v2)] [] (W2 scr c1 s R) out := by
 intro n
 induction n with
 | zero => intro _ _ _ res out h hk; cases h
 | succ n hrec =>
  intro s v1 v2 res out h hk
  rw [j_clearHistory_l54] at h
  refine Eval.iload_n rfl rfl ?_
  refine Eval.bipush (x := 8) rfl rfl ?_
  by_cases hc465 : v2 < (8:Int32)
  ·rw [if_pos hc465] at h
   refine Eval.icmpF rfl (tlt hc465).2.1 ?_
   refine Eval.iload_n rfl rfl ?_
   refine Eval.iload_n rfl rfl ?_
   by_cases hc466 : v2 < v1
   ·rw [if_pos hc466] at h
    refine Eval.icmpT (t := 68) rfl rfl (tlt hc466).1 ?_
    refine Eval.aload_n rfl rfl ?_
    refine Eval.getfield rfl rfl own_g2_snap ?_
    refine Eval.iload_n rfl rfl ?_
    refine Eval.aload_n rfl rfl ?_
    refine Eval.getfield rfl rfl own_g2_val ?_
    refine Eval.aload_n rfl rfl ?_
    refine Eval.getfield rfl rfl own_g2_head ?_
    refine Eval.iload_n rfl rfl ?_
    refine Eval.iadd rfl ?_
    refine Eval.aload_n rfl rfl ?_
    refine Eval.getfield rfl rfl own_g2_mask ?_
    refine Eval.iand rfl ?_
    obtain ⟨hb467, h⟩ := ite_some h
    refine Eval.iaload rfl own_a2_val hb467 ?_
    obtain ⟨hb468, h⟩ := ite_some h
    refine Eval.iastore rfl rfl own_a2_snap hb468 own_s2_snap ?_
    refine Eval.aload_n rfl rfl ?_
    refine Eval.dupR rfl ?_
    refine Eval.getfield rfl rfl own_g2_snapLen ?_
    refine Eval.iconst (x := 1) rfl rfl ?_
    refine Eval.iadd rfl ?_
    refine Eval.putfield rfl rfl own_p2_snapLen ?_
    refine Eval.iinc (L' := [some (.ref 26), some (.int v1), some (.int (v2 + (1:Int32)))]) rfl rfl rfl ?_
    refine Eval.goto (t := 54) rfl rfl ?_
    refine Eval.heap own_mk2_01 ?_
    exact hrec _ _ _ h hk
   ·rw [if_neg hc466] at h
    refine Eval.icmpF rfl (flt hc466).1 ?_
    cases h
    refine Eval.weak (lw_mk 0 _) ?_
    exact hk
  ·rw [if_neg hc465] at h
   refine Eval.icmpT (t := 106) rfl rfl (flt hc465).2.1 ?_
   cases h
   refine Eval.weak (lw_mk 0 _) ?_
   exact hk
set_option maxRecDepth 100000 in
theorem ev_j_clearHistory_2 (R : AHeap) (scr : List Int32) (c1 s : Q) {res : Int32 × Q} {out : Option Value × AHeap} (h : j_clearHistory s = some res) (hk : out = (some (.int res.1), (W2 scr c1 res.2 R))) : Eval own_P 37 0 [some (.ref 26), none, none] [] (W2 scr c1 s R) out := by
 rw [j_clearHistory] at h
 refine Eval.iconst (x := 0) rfl rfl ?_
 refine Eval.istore_n (L' := [some (.ref 26), some (.int 0), none]) rfl rfl ?_
 obtain ⟨p461, hq462, h⟩ := bind_some h
 rcases p461 with p463 | p464
 ·dsimp only [Sum.elim] at h
  refine ev_j_clearHistory_l2_2 R scr c1 _ s (0:Int32) hq462 ?_
  show Eval own_P 37 24 [none, none, none] [] (W2 scr c1 s R) out
  refine Eval.iconst (x := 0) rfl rfl ?_
  cases h
  subst hk
  exact Eval.ret rfl rfl
 ·dsimp only [Sum.elim] at h
  refine ev_j_clearHistory_l2_2 R scr c1 _ s (0:Int32) hq462 ?_
  show Eval own_P 37 32 [some (.ref 26), none, none] [] (W2 scr c1 s R) out
  refine Eval.aload_n rfl rfl ?_
  refine Eval.iconst (x := 0) rfl rfl ?_
  refine Eval.putfield rfl rfl own_p2_histLen ?_
  refine Eval.aload_n rfl rfl ?_
  refine Eval.getfield rfl rfl own_g2_tail ?_
  refine Eval.aload_n rfl rfl ?_
  refine Eval.getfield rfl rfl own_g2_head ?_
  refine Eval.isub rfl ?_
  refine Eval.istore_n (L' := [some (.ref 26), some (.int (s.f28 - s.f27)), none]) rfl rfl ?_
  refine Eval.aload_n rfl rfl ?_
  refine Eval.iconst (x := 0) rfl rfl ?_
  refine Eval.putfield rfl rfl own_p2_snapLen ?_
  refine Eval.iconst (x := 0) rfl rfl ?_
  refine Eval.istore_n (L' := [some (.ref 26), some (.int (s.f28 - s.f27)), some (.int 0)]) rfl rfl ?_
  refine Eval.heap own_mk2_01 ?_
  obtain ⟨p469, hq470, h⟩ := bind_some h
  rcases p469 with p471 | p472
  ·dsimp only [Sum.elim] at h
   refine ev_j_clearHistory_l54_2 R scr c1 _ (Q.mk s.f0 s.f1 s.f2 s.f3 s.f4 s.f5 s.f6 s.f7 s.f8 s.f9 s.f10 s.f11 s.f12 s.f13 s.f14 s.f15 s.f16 s.f17 s.f18 s.f19 s.f20 s.f21 s.f22 s.f23 s.f24 s.f25 s.f26 s.f27 s.f28 (0:Int32) (0:Int32) s.f31 s.f32) (s.f28 - s.f27) (0:Int32) hq470 ?_
   show Eval own_P 37 65 [none, none, none] [] (W2 scr c1 p471 R) out
   refine Eval.goto (t := 106) rfl rfl ?_
   refine Eval.iconst (x := 1) rfl rfl ?_
   cases h
   subst hk
   exact Eval.ret rfl rfl
  ·dsimp only [Sum.elim] at h
   refine ev_j_clearHistory_l54_2 R scr c1 _ (Q.mk s.f0 s.f1 s.f2 s.f3 s.f4 s.f5 s.f6 s.f7 s.f8 s.f9 s.f10 s.f11 s.f12 s.f13 s.f14 s.f15 s.f16 s.f17 s.f18 s.f19 s.f20 s.f21 s.f22 s.f23 s.f24 s.f25 s.f26 s.f27 s.f28 (0:Int32) (0:Int32) s.f31 s.f32) (s.f28 - s.f27) (0:Int32) hq470 ?_
   show Eval own_P 37 106 [none, none, none] [] (W2 scr c1 p472 R) out
   refine Eval.iconst (x := 1) rfl rfl ?_
   cases h
   subst hk
   exact Eval.ret rfl rfl
set_option maxRecDepth 100000 in
theorem ev_j_step_2 (R : AHeap) (scr : List Int32) (c1 s : Q) (v1 : Int32) {res : Int32 × Q} {out : Option Value × AHeap} (h : j_step s v1 = some res) (hk : out = (some (.int res.1), (W2 scr c1 res.2 R))) : Eval own_P 29 0 [some (.ref 26), some (.int v1)] [] (W2 scr c1 s R) out := by
 rw [j_step] at h
 refine Eval.aload_n rfl rfl ?_
 refine Eval.iload_n rfl rfl ?_
 refine Eval.callI (rest := []) (x := (j_valid s v1)) (H1 := (W2 scr c1 s R)) rfl rfl (ev_j_valid_2 R scr c1 s v1 rfl rfl) ?_
 by_cases hc479 : (j_valid s v1) = (0:Int32)
 ·rw [if_pos hc479] at h
  refine Eval.ifF rfl (teq hc479).2 ?_
  refine Eval.iconst (x := -1) rfl rfl ?_
  cases h
  subst hk
  exact Eval.ret rfl rfl
 ·rw [if_neg hc479] at h
  refine Eval.ifT (t := 10) rfl rfl (feq hc479).2 ?_
  refine Eval.aload_n rfl rfl ?_
  refine Eval.getfield rfl rfl own_g2_st ?_
  refine Eval.iload_n rfl rfl ?_
  obtain ⟨hb480, h⟩ := ite_some h
  refine Eval.iaload rfl own_a2_st hb480 ?_
  by_cases hc481 : (rd s.f2 v1) = (0:Int32)
  ·rw [if_pos hc481] at h
   refine Eval.ifT (t := 29) rfl rfl (teq hc481).1 ?_
   refine Eval.iconst (x := 0) rfl rfl ?_
   cases h
   subst hk
   exact Eval.ret rfl rfl
  ·rw [if_neg hc481] at h
   refine Eval.ifF rfl (feq hc481).1 ?_
   refine Eval.aload_n rfl rfl ?_
   refine Eval.getfield rfl rfl own_g2_st ?_
   refine Eval.iload_n rfl rfl ?_
   obtain ⟨hb482, h⟩ := ite_some h
   refine Eval.iaload rfl own_a2_st hb482 ?_
   refine Eval.iconst (x := 1) rfl rfl ?_
   by_cases hc483 : (rd s.f2 v1) = (1:Int32)
   ·rw [if_pos hc483] at h
    refine Eval.icmpF rfl (teq hc483).2 ?_
    refine Eval.iconst (x := 0) rfl rfl ?_
    cases h
    subst hk
    exact Eval.ret rfl rfl
   ·rw [if_neg hc483] at h
    refine Eval.icmpT (t := 31) rfl rfl (feq hc483).2 ?_
    refine Eval.aload_n rfl rfl ?_
    refine Eval.iload_n rfl rfl ?_
    obtain ⟨p484, hq485, h⟩ := bind_some h
    refine Eval.callI (rest := []) (x := p484.1) (H1 := (W2 scr c1 p484.2 R)) rfl rfl (ev_j_doStep_2 R scr c1 s v1 hq485 rfl) ?_
    by_cases hc487 : p484.1 = (0:Int32)
    ·rw [if_pos hc487] at h
     refine Eval.ifT (t := 41) rfl rfl (teq hc487).1 ?_
     refine Eval.iconst (x := 1) rfl rfl ?_
     cases h
     subst hk
     exact Eval.ret rfl rfl
    ·rw [if_neg hc487] at h
     refine Eval.ifF rfl (feq hc487).1 ?_
     refine Eval.iconst (x := 2) rfl rfl ?_
     cases h
     subst hk
     exact Eval.ret rfl rfl
set_option maxRecDepth 100000 in
theorem ev_h_drive_2 (R : AHeap) (scr : List Int32) (c1 s : Q) (v1 v2 v3 : Int32) {res : Int32 × Q} {out : Option Value × AHeap} (h : h_drive s v1 v2 v3 = some res) (hk : out = (some (.int res.1), (W2 scr c1 res.2 R))) : Eval own_P 3 0 [some (.ref 26), some (.int v1), some (.int v2), some (.int v3)] [] (W2 scr c1 s R) out := by
 rw [h_drive] at h
 refine Eval.iload_n rfl rfl ?_
 by_cases hc262 : v1 = (0:Int32)
 ·rw [if_pos hc262] at h
  refine Eval.ifF rfl (teq hc262).2 ?_
  refine Eval.aload_n rfl rfl ?_
  refine Eval.iload_n rfl rfl ?_
  refine Eval.iload_n rfl rfl ?_
  refine Eval.sipush (x := 255) rfl rfl ?_
  refine Eval.iand rfl ?_
  obtain ⟨p292, hq293, h⟩ := bind_some h
  refine Eval.callI (rest := []) (x := p292.1) (H1 := (W2 scr c1 p292.2 R)) rfl rfl (ev_j_startEnqueue_2 R scr c1 s v2 (v3 &&& (255:Int32)) hq293 rfl) ?_
  by_cases hc295 : p292.1 = (0:Int32)
  ·rw [if_pos hc295] at h
   refine Eval.ifT (t := 21) rfl rfl (teq hc295).1 ?_
   refine Eval.iconst (x := 0) rfl rfl ?_
   cases h
   subst hk
   exact Eval.ret rfl rfl
  ·rw [if_neg hc295] at h
   refine Eval.ifF rfl (feq hc295).1 ?_
   refine Eval.iconst (x := 1) rfl rfl ?_
   refine Eval.goto (t := 22) rfl rfl ?_
   cases h
   subst hk
   exact Eval.ret rfl rfl
 ·rw [if_neg hc262] at h
  refine Eval.ifT (t := 23) rfl rfl (feq hc262).2 ?_
  refine Eval.iload_n rfl rfl ?_
  refine Eval.iconst (x := 1) rfl rfl ?_
  by_cases hc296 : v1 = (1:Int32)
  ·rw [if_pos hc296] at h
   refine Eval.icmpF rfl (teq hc296).2 ?_
   refine Eval.aload_n rfl rfl ?_
   refine Eval.iload_n rfl rfl ?_
   obtain ⟨p308, hq309, h⟩ := bind_some h
   refine Eval.callI (rest := []) (x := p308.1) (H1 := (W2 scr c1 p308.2 R)) rfl rfl (ev_j_startDequeue_2 R scr c1 s v2 hq309 rfl) ?_
   by_cases hc311 : p308.1 = (0:Int32)
   ·rw [if_pos hc311] at h
    refine Eval.ifT (t := 40) rfl rfl (teq hc311).1 ?_
    refine Eval.iconst (x := 0) rfl rfl ?_
    cases h
    subst hk
    exact Eval.ret rfl rfl
   ·rw [if_neg hc311] at h
    refine Eval.ifF rfl (feq hc311).1 ?_
    refine Eval.iconst (x := 1) rfl rfl ?_
    refine Eval.goto (t := 41) rfl rfl ?_
    cases h
    subst hk
    exact Eval.ret rfl rfl
  ·rw [if_neg hc296] at h
   refine Eval.icmpT (t := 42) rfl rfl (feq hc296).2 ?_
   refine Eval.iload_n rfl rfl ?_
   refine Eval.iconst (x := 3) rfl rfl ?_
   by_cases hc312 : v1 = (3:Int32)
   ·rw [if_pos hc312] at h
    refine Eval.icmpF rfl (teq hc312).2 ?_
    refine Eval.aload_n rfl rfl ?_
    refine Eval.iload_n rfl rfl ?_
    refine Eval.iload_n rfl rfl ?_
    refine Eval.bipush (x := 15) rfl rfl ?_
    refine Eval.iand rfl ?_
    obtain ⟨p405, hq406, h⟩ := bind_some h
    refine Eval.callI (rest := []) (x := p405.1) (H1 := (W2 scr c1 p405.2 R)) rfl rfl (ev_j_run_2 R scr c1 s v2 (v3 &&& (15:Int32)) hq406 rfl) ?_
    cases h
    subst hk
    exact Eval.ret rfl rfl
   ·rw [if_neg hc312] at h
    refine Eval.icmpT (t := 57) rfl rfl (feq hc312).2 ?_
    refine Eval.iload_n rfl rfl ?_
    refine Eval.iconst (x := 4) rfl rfl ?_
    by_cases hc408 : v1 = (4:Int32)
    ·rw [if_pos hc408] at h
     refine Eval.icmpF rfl (teq hc408).2 ?_
     refine Eval.aload_n rfl rfl ?_
     refine Eval.iload_n rfl rfl ?_
     refine Eval.iload_n rfl rfl ?_
     refine Eval.bipush (x := 8) rfl rfl ?_
     refine Eval.ishr rfl ?_
     refine Eval.iconst (x := 3) rfl rfl ?_
     refine Eval.iand rfl ?_
     refine Eval.iload_n rfl rfl ?_
     refine Eval.sipush (x := 255) rfl rfl ?_
     refine Eval.iand rfl ?_
     obtain ⟨p427, hq428, h⟩ := bind_some h
     refine Eval.callI (rest := []) (x := p427.1) (H1 := (W2 scr c1 p427.2 R)) rfl rfl (ev_j_logInvoke_2 R scr c1 s v2 ((isr v3 (8:Int32)) &&& (3:Int32)) (v3 &&& (255:Int32)) hq428 rfl) ?_
     by_cases hc430 : p427.1 = (0:Int32)
     ·rw [if_pos hc430] at h
      refine Eval.ifT (t := 85) rfl rfl (teq hc430).1 ?_
      refine Eval.iconst (x := 0) rfl rfl ?_
      cases h
      subst hk
      exact Eval.ret rfl rfl
     ·rw [if_neg hc430] at h
      refine Eval.ifF rfl (feq hc430).1 ?_
      refine Eval.iconst (x := 1) rfl rfl ?_
      refine Eval.goto (t := 86) rfl rfl ?_
      cases h
      subst hk
      exact Eval.ret rfl rfl
    ·rw [if_neg hc408] at h
     refine Eval.icmpT (t := 87) rfl rfl (feq hc408).2 ?_
     refine Eval.iload_n rfl rfl ?_
     refine Eval.iconst (x := 5) rfl rfl ?_
     by_cases hc431 : v1 = (5:Int32)
     ·rw [if_pos hc431] at h
      refine Eval.icmpF rfl (teq hc431).2 ?_
      refine Eval.aload_n rfl rfl ?_
      refine Eval.iload_n rfl rfl ?_
      refine Eval.iload_n rfl rfl ?_
      refine Eval.bipush (x := 8) rfl rfl ?_
      refine Eval.ishr rfl ?_
      refine Eval.iconst (x := 3) rfl rfl ?_
      refine Eval.iand rfl ?_
      refine Eval.iload_n rfl rfl ?_
      refine Eval.sipush (x := 255) rfl rfl ?_
      refine Eval.iand rfl ?_
      obtain ⟨p452, hq453, h⟩ := bind_some h
      refine Eval.callI (rest := []) (x := p452.1) (H1 := (W2 scr c1 p452.2 R)) rfl rfl (ev_j_logResponse_2 R scr c1 s v2 ((isr v3 (8:Int32)) &&& (3:Int32)) (v3 &&& (255:Int32)) hq453 rfl) ?_
      by_cases hc455 : p452.1 = (0:Int32)
      ·rw [if_pos hc455] at h
       refine Eval.ifT (t := 115) rfl rfl (teq hc455).1 ?_
       refine Eval.iconst (x := 0) rfl rfl ?_
       cases h
       subst hk
       exact Eval.ret rfl rfl
      ·rw [if_neg hc455] at h
       refine Eval.ifF rfl (feq hc455).1 ?_
       refine Eval.iconst (x := 1) rfl rfl ?_
       refine Eval.goto (t := 116) rfl rfl ?_
       cases h
       subst hk
       exact Eval.ret rfl rfl
     ·rw [if_neg hc431] at h
      refine Eval.icmpT (t := 117) rfl rfl (feq hc431).2 ?_
      refine Eval.iload_n rfl rfl ?_
      refine Eval.bipush (x := 6) rfl rfl ?_
      by_cases hc456 : v1 = (6:Int32)
      ·rw [if_pos hc456] at h
       refine Eval.icmpF rfl (teq hc456).2 ?_
       refine Eval.aload_n rfl rfl ?_
       obtain ⟨p475, hq476, h⟩ := bind_some h
       refine Eval.callI (rest := []) (x := p475.1) (H1 := (W2 scr c1 p475.2 R)) rfl rfl (ev_j_clearHistory_2 R scr c1 s hq476 rfl) ?_
       by_cases hc478 : p475.1 = (0:Int32)
       ·rw [if_pos hc478] at h
        refine Eval.ifT (t := 134) rfl rfl (teq hc478).1 ?_
        refine Eval.iconst (x := 0) rfl rfl ?_
        cases h
        subst hk
        exact Eval.ret rfl rfl
       ·rw [if_neg hc478] at h
        refine Eval.ifF rfl (feq hc478).1 ?_
        refine Eval.iconst (x := 1) rfl rfl ?_
        refine Eval.goto (t := 135) rfl rfl ?_
        cases h
        subst hk
        exact Eval.ret rfl rfl
      ·rw [if_neg hc456] at h
       refine Eval.icmpT (t := 136) rfl rfl (feq hc456).2 ?_
       refine Eval.aload_n rfl rfl ?_
       refine Eval.iload_n rfl rfl ?_
       obtain ⟨p488, hq489, h⟩ := bind_some h
       refine Eval.callI (rest := []) (x := p488.1) (H1 := (W2 scr c1 p488.2 R)) rfl rfl (ev_j_step_2 R scr c1 s v2 hq489 rfl) ?_
       cases h
       subst hk
       exact Eval.ret rfl rfl
def j_state (s : Q) (v1 : Int32) : Option (Int32) := (if (j_valid s v1) = (0:Int32) then some ((-1:Int32)) else (if inb s.f2.length v1 = true then some ((rd s.f2 v1)) else none))
set_option maxRecDepth 100000 in
theorem ev_j_state (R : AHeap) (scr : List Int32) (s : Q) (v1 : Int32) {res : Int32} {out : Option Value × AHeap} (h : j_state s v1 = some res) (hk : out = (some (.int res), (W1 scr s R))) : Eval own_P 6 0 [some (.ref 1), some (.int v1)] [] (W1 scr s R) out := by
 rw [j_state] at h
 refine Eval.aload_n rfl rfl ?_
 refine Eval.iload_n rfl rfl ?_
 refine Eval.callI (rest := []) (x := (j_valid s v1)) (H1 := (W1 scr s R)) rfl rfl (ev_j_valid R scr s v1 rfl rfl) ?_
 by_cases hc495 : (j_valid s v1) = (0:Int32)
 ·rw [if_pos hc495] at h
  refine Eval.ifT (t := 17) rfl rfl (teq hc495).1 ?_
  refine Eval.iconst (x := -1) rfl rfl ?_
  cases h
  subst hk
  exact Eval.ret rfl rfl
 ·rw [if_neg hc495] at h
  refine Eval.ifF rfl (feq hc495).1 ?_
  refine Eval.aload_n rfl rfl ?_
  refine Eval.getfield rfl rfl own_g1_st ?_
  refine Eval.iload_n rfl rfl ?_
  obtain ⟨hb496, h⟩ := ite_some h
  refine Eval.iaload rfl own_a1_st hb496 ?_
  refine Eval.goto (t := 18) rfl rfl ?_
  cases h
  subst hk
  exact Eval.ret rfl rfl
def h_busy_b24 (s : Q) : Option (Int32) := some ((1:Int32))
set_option maxRecDepth 100000 in
theorem ev_h_busy_b24 (R : AHeap) (scr : List Int32) (s : Q) {res : Int32} {out : Option Value × AHeap} (h : h_busy_b24 s = some res) (hk : out = (some (.int res), (W1 scr s R))) : Eval own_P 39 24 [none] [] (W1 scr s R) out := by
 rw [h_busy_b24] at h
 refine Eval.iconst (x := 1) rfl rfl ?_
 refine Eval.goto (t := 29) rfl rfl ?_
 cases h
 subst hk
 exact Eval.ret rfl rfl
def h_busy (s : Q) : Option (Int32) := ((j_state s (0:Int32)).bind fun p518 => (if p518 = (0:Int32) then ((j_state s (1:Int32)).bind fun p521 => (if p521 = (0:Int32) then ((j_state s (2:Int32)).bind fun p524 => (if p524 = (0:Int32) then some ((0:Int32)) else (h_busy_b24 s))) else (h_busy_b24 s))) else (h_busy_b24 s)))
set_option maxRecDepth 100000 in
theorem ev_h_busy (R : AHeap) (scr : List Int32) (s : Q) {res : Int32} {out : Option Value × AHeap} (h : h_busy s = some res) (hk : out = (some (.int res), (W1 scr s R))) : Eval own_P 39 0 [some (.ref 1)] [] (W1 scr s R) out := by
 rw [h_busy] at h
 refine Eval.aload_n rfl rfl ?_
 refine Eval.iconst (x := 0) rfl rfl ?_
 obtain ⟨p518, hq519, h⟩ := bind_some h
 refine Eval.callI (rest := []) (x := p518) (H1 := (W1 scr s R)) rfl rfl (ev_j_state R scr s (0:Int32) hq519 rfl) ?_
 by_cases hc520 : p518 = (0:Int32)
 ·rw [if_pos hc520] at h
  refine Eval.ifF rfl (teq hc520).2 ?_
  refine Eval.aload_n rfl rfl ?_
  refine Eval.iconst (x := 1) rfl rfl ?_
  obtain ⟨p521, hq522, h⟩ := bind_some h
  refine Eval.callI (rest := []) (x := p521) (H1 := (W1 scr s R)) rfl rfl (ev_j_state R scr s (1:Int32) hq522 rfl) ?_
  by_cases hc523 : p521 = (0:Int32)
  ·rw [if_pos hc523] at h
   refine Eval.ifF rfl (teq hc523).2 ?_
   refine Eval.aload_n rfl rfl ?_
   refine Eval.iconst (x := 2) rfl rfl ?_
   obtain ⟨p524, hq525, h⟩ := bind_some h
   refine Eval.callI (rest := []) (x := p524) (H1 := (W1 scr s R)) rfl rfl (ev_j_state R scr s (2:Int32) hq525 rfl) ?_
   by_cases hc526 : p524 = (0:Int32)
   ·rw [if_pos hc526] at h
    refine Eval.ifT (t := 28) rfl rfl (teq hc526).1 ?_
    refine Eval.iconst (x := 0) rfl rfl ?_
    cases h
    subst hk
    exact Eval.ret rfl rfl
   ·rw [if_neg hc526] at h
    refine Eval.ifF rfl (feq hc526).1 ?_
    refine Eval.weak (lw_mk 0 _) ?_
    exact ev_h_busy_b24 R scr s h hk
  ·rw [if_neg hc523] at h
   refine Eval.ifT (t := 24) rfl rfl (feq hc523).2 ?_
   refine Eval.weak (lw_mk 0 _) ?_
   exact ev_h_busy_b24 R scr s h hk
 ·rw [if_neg hc520] at h
  refine Eval.ifT (t := 24) rfl rfl (feq hc520).2 ?_
  refine Eval.weak (lw_mk 0 _) ?_
  exact ev_h_busy_b24 R scr s h hk
abbrev h_same_l2_K_1_2 (R : AHeap) (scr : List Int32) (s u : Q) (res : (Unit) ⊕ (Unit)) (out : Option Value × AHeap) : Prop := Sum.elim (fun res => Eval own_P 7 46 [none, none, none] [] (W2 scr s u R) out) (fun res => Eval own_P 7 54 [some (.ref 1), some (.ref 26), none] [] (W2 scr s u R) out) res

set_option maxRecDepth 100000 in
theorem ev_j_state_2 (R : AHeap) (scr : List Int32) (c1 s : Q) (v1 : Int32) {res : Int32} {out : Option Value × AHeap} (h : j_state s v1 = some res) (hk : out = (some (.int res), (W2 scr c1 s R))) : Eval own_P 6 0 [some (.ref 26), some (.int v1)] [] (W2 scr c1 s R) out := by
 rw [j_state] at h
 refine Eval.aload_n rfl rfl ?_
 refine Eval.iload_n rfl rfl ?_
 refine Eval.callI (rest := []) (x := (j_valid s v1)) (H1 := (W2 scr c1 s R)) rfl rfl (ev_j_valid_2 R scr c1 s v1 rfl rfl) ?_
 by_cases hc533 : (j_valid s v1) = (0:Int32)
 ·rw [if_pos hc533] at h
  refine Eval.ifT (t := 17) rfl rfl (teq hc533).1 ?_
  refine Eval.iconst (x := -1) rfl rfl ?_
  cases h
  subst hk
  exact Eval.ret rfl rfl
 ·rw [if_neg hc533] at h
  refine Eval.ifF rfl (feq hc533).1 ?_
  refine Eval.aload_n rfl rfl ?_
  refine Eval.getfield rfl rfl own_g2_st ?_
  refine Eval.iload_n rfl rfl ?_
  obtain ⟨hb534, h⟩ := ite_some h
  refine Eval.iaload rfl own_a2_st hb534 ?_
  refine Eval.goto (t := 18) rfl rfl ?_
  cases h
  subst hk
  exact Eval.ret rfl rfl
def j_lastStatus (s : Q) (v1 : Int32) : Option (Int32) := (if (j_valid s v1) = (0:Int32) then some ((-1:Int32)) else (if inb s.f5.length v1 = true then some ((rd s.f5 v1)) else none))
set_option maxRecDepth 100000 in
theorem ev_j_lastStatus (R : AHeap) (scr : List Int32) (s : Q) (v1 : Int32) {res : Int32} {out : Option Value × AHeap} (h : j_lastStatus s v1 = some res) (hk : out = (some (.int res), (W1 scr s R))) : Eval own_P 8 0 [some (.ref 1), some (.int v1)] [] (W1 scr s R) out := by
 rw [j_lastStatus] at h
 refine Eval.aload_n rfl rfl ?_
 refine Eval.iload_n rfl rfl ?_
 refine Eval.callI (rest := []) (x := (j_valid s v1)) (H1 := (W1 scr s R)) rfl rfl (ev_j_valid R scr s v1 rfl rfl) ?_
 by_cases hc538 : (j_valid s v1) = (0:Int32)
 ·rw [if_pos hc538] at h
  refine Eval.ifT (t := 17) rfl rfl (teq hc538).1 ?_
  refine Eval.iconst (x := -1) rfl rfl ?_
  cases h
  subst hk
  exact Eval.ret rfl rfl
 ·rw [if_neg hc538] at h
  refine Eval.ifF rfl (feq hc538).1 ?_
  refine Eval.aload_n rfl rfl ?_
  refine Eval.getfield rfl rfl own_g1_lastSt ?_
  refine Eval.iload_n rfl rfl ?_
  obtain ⟨hb539, h⟩ := ite_some h
  refine Eval.iaload rfl own_a1_lastSt hb539 ?_
  refine Eval.goto (t := 18) rfl rfl ?_
  cases h
  subst hk
  exact Eval.ret rfl rfl
set_option maxRecDepth 100000 in
theorem ev_j_lastStatus_2 (R : AHeap) (scr : List Int32) (c1 s : Q) (v1 : Int32) {res : Int32} {out : Option Value × AHeap} (h : j_lastStatus s v1 = some res) (hk : out = (some (.int res), (W2 scr c1 s R))) : Eval own_P 8 0 [some (.ref 26), some (.int v1)] [] (W2 scr c1 s R) out := by
 rw [j_lastStatus] at h
 refine Eval.aload_n rfl rfl ?_
 refine Eval.iload_n rfl rfl ?_
 refine Eval.callI (rest := []) (x := (j_valid s v1)) (H1 := (W2 scr c1 s R)) rfl rfl (ev_j_valid_2 R scr c1 s v1 rfl rfl) ?_
 by_cases hc542 : (j_valid s v1) = (0:Int32)
 ·rw [if_pos hc542] at h
  refine Eval.ifT (t := 17) rfl rfl (teq hc542).1 ?_
  refine Eval.iconst (x := -1) rfl rfl ?_
  cases h
  subst hk
  exact Eval.ret rfl rfl
 ·rw [if_neg hc542] at h
  refine Eval.ifF rfl (feq hc542).1 ?_
  refine Eval.aload_n rfl rfl ?_
  refine Eval.getfield rfl rfl own_g2_lastSt ?_
  refine Eval.iload_n rfl rfl ?_
  obtain ⟨hb543, h⟩ := ite_some h
  refine Eval.iaload rfl own_a2_lastSt hb543 ?_
  refine Eval.goto (t := 18) rfl rfl ?_
  cases h
  subst hk
  exact Eval.ret rfl rfl
def j_lastValue (s : Q) (v1 : Int32) : Option (Int32) := (if (j_valid s v1) = (0:Int32) then some ((0:Int32)) else (if inb s.f6.length v1 = true then some ((rd s.f6 v1)) else none))
set_option maxRecDepth 100000 in
theorem ev_j_lastValue (R : AHeap) (scr : List Int32) (s : Q) (v1 : Int32) {res : Int32} {out : Option Value × AHeap} (h : j_lastValue s v1 = some res) (hk : out = (some (.int res), (W1 scr s R))) : Eval own_P 9 0 [some (.ref 1), some (.int v1)] [] (W1 scr s R) out := by
 rw [j_lastValue] at h
 refine Eval.aload_n rfl rfl ?_
 refine Eval.iload_n rfl rfl ?_
 refine Eval.callI (rest := []) (x := (j_valid s v1)) (H1 := (W1 scr s R)) rfl rfl (ev_j_valid R scr s v1 rfl rfl) ?_
 by_cases hc547 : (j_valid s v1) = (0:Int32)
 ·rw [if_pos hc547] at h
  refine Eval.ifT (t := 17) rfl rfl (teq hc547).1 ?_
  refine Eval.iconst (x := 0) rfl rfl ?_
  cases h
  subst hk
  exact Eval.ret rfl rfl
 ·rw [if_neg hc547] at h
  refine Eval.ifF rfl (feq hc547).1 ?_
  refine Eval.aload_n rfl rfl ?_
  refine Eval.getfield rfl rfl own_g1_lastVal ?_
  refine Eval.iload_n rfl rfl ?_
  obtain ⟨hb548, h⟩ := ite_some h
  refine Eval.iaload rfl own_a1_lastVal hb548 ?_
  refine Eval.goto (t := 18) rfl rfl ?_
  cases h
  subst hk
  exact Eval.ret rfl rfl
set_option maxRecDepth 100000 in
theorem ev_j_lastValue_2 (R : AHeap) (scr : List Int32) (c1 s : Q) (v1 : Int32) {res : Int32} {out : Option Value × AHeap} (h : j_lastValue s v1 = some res) (hk : out = (some (.int res), (W2 scr c1 s R))) : Eval own_P 9 0 [some (.ref 26), some (.int v1)] [] (W2 scr c1 s R) out := by
 rw [j_lastValue] at h
 refine Eval.aload_n rfl rfl ?_
 refine Eval.iload_n rfl rfl ?_
 refine Eval.callI (rest := []) (x := (j_valid s v1)) (H1 := (W2 scr c1 s R)) rfl rfl (ev_j_valid_2 R scr c1 s v1 rfl rfl) ?_
 by_cases hc551 : (j_valid s v1) = (0:Int32)
 ·rw [if_pos hc551] at h
  refine Eval.ifT (t := 17) rfl rfl (teq hc551).1 ?_
  refine Eval.iconst (x := 0) rfl rfl ?_
  cases h
  subst hk
  exact Eval.ret rfl rfl
 ·rw [if_neg hc551] at h
  refine Eval.ifF rfl (feq hc551).1 ?_
  refine Eval.aload_n rfl rfl ?_
  refine Eval.getfield rfl rfl own_g2_lastVal ?_
  refine Eval.iload_n rfl rfl ?_
  obtain ⟨hb552, h⟩ := ite_some h
  refine Eval.iaload rfl own_a2_lastVal hb552 ?_
  refine Eval.goto (t := 18) rfl rfl ?_
  cases h
  subst hk
  exact Eval.ret rfl rfl
def h_same_l2 : Nat → Q → Q → Int32 → Option ((Unit) ⊕ (Unit))
  | 0, _, _, _ => none
  | n + 1, s, u, v2 => (if v2 < (5:Int32) then ((j_state s v2).bind fun p531 => ((j_state u v2).bind fun p535 => (if p531 = p535 then ((j_lastStatus s v2).bind fun p540 => ((j_lastStatus u v2).bind fun p544 => (if p540 = p544 then ((j_lastValue s v2).bind fun p549 => ((j_lastValue u v2).bind fun p553 => (if p549 = p553 then (h_same_l2 n s u (v2 + (1:Int32))) else some (.inl ())))) else some (.inl ())))) else some (.inl ())))) else some (.inr ()))
set_option maxRecDepth 100000 in
theorem ev_h_same_l2_1_2 (R : AHeap) (scr : List Int32) : ∀ (n : Nat) (s u : Q) (v2 : Int32) {res : (Unit) ⊕ (Unit)} {out : Option Value × AHeap}, h_same_l2 n s u v2 = some res → h_same_l2_K_1_2 R scr s u res out → Eval own_P 7 2 [some (.ref 1), some (.ref 26), some (.int v2)] [] (W2 scr s u R) out := by
 intro n
 induction n with
 | zero => intro _ _ _ res out h hk; cases h
 | succ n hrec =>
  intro s u v2 res out h hk
  rw [h_same_l2] at h
  refine Eval.iload_n rfl rfl ?_
  refine Eval.iconst (x := 5) rfl rfl ?_
  by_cases hc530 : v2 < (5:Int32)
  ·rw [if_pos hc530] at h
   refine Eval.icmpF rfl (tlt hc530).2.1 ?_
   refine Eval.aload_n rfl rfl ?_
   refine Eval.iload_n rfl rfl ?_
   obtain ⟨p531, hq532, h⟩ := bind_some h
   refine Eval.callI (rest := []) (x := p531) (H1 := (W2 scr s u R)) rfl rfl (Eval.heap own_lo0 (ev_j_state (own_cells2 u.f0 u.f1 u.f2 u.f3 u.f4 u.f5 u.f6 u.f7 u.f8 u.f9 u.f10 u.f11 u.f12 u.f13 u.f14 u.f15 u.f16 u.f17 u.f18 u.f19 u.f20 u.f21 u.f22 u.f23 u.f24 u.f25 u.f26 u.f27 u.f28 u.f29 u.f30 u.f31 u.f32 R) scr s v2 hq532 (congrArg (Prod.mk _) own_lo0.symm))) ?_
   refine Eval.aload_n rfl rfl ?_
   refine Eval.iload_n rfl rfl ?_
   obtain ⟨p535, hq536, h⟩ := bind_some h
   refine Eval.callI (rest := [.int p531]) (x := p535) (H1 := (W2 scr s u R)) rfl rfl (ev_j_state_2 R scr s u v2 hq536 rfl) ?_
   by_cases hc537 : p531 = p535
   ·rw [if_pos hc537] at h
    refine Eval.icmpF rfl (teq hc537).2 ?_
    refine Eval.aload_n rfl rfl ?_
    refine Eval.iload_n rfl rfl ?_
    obtain ⟨p540, hq541, h⟩ := bind_some h
    refine Eval.callI (rest := []) (x := p540) (H1 := (W2 scr s u R)) rfl rfl (Eval.heap own_lo0 (ev_j_lastStatus (own_cells2 u.f0 u.f1 u.f2 u.f3 u.f4 u.f5 u.f6 u.f7 u.f8 u.f9 u.f10 u.f11 u.f12 u.f13 u.f14 u.f15 u.f16 u.f17 u.f18 u.f19 u.f20 u.f21 u.f22 u.f23 u.f24 u.f25 u.f26 u.f27 u.f28 u.f29 u.f30 u.f31 u.f32 R) scr s v2 hq541 (congrArg (Prod.mk _) own_lo0.symm))) ?_
    refine Eval.aload_n rfl rfl ?_
    refine Eval.iload_n rfl rfl ?_
    obtain ⟨p544, hq545, h⟩ := bind_some h
    refine Eval.callI (rest := [.int p540]) (x := p544) (H1 := (W2 scr s u R)) rfl rfl (ev_j_lastStatus_2 R scr s u v2 hq545 rfl) ?_
    by_cases hc546 : p540 = p544
    ·rw [if_pos hc546] at h
     refine Eval.icmpF rfl (teq hc546).2 ?_
     refine Eval.aload_n rfl rfl ?_
     refine Eval.iload_n rfl rfl ?_
     obtain ⟨p549, hq550, h⟩ := bind_some h
     refine Eval.callI (rest := []) (x := p549) (H1 := (W2 scr s u R)) rfl rfl (Eval.heap own_lo0 (ev_j_lastValue (own_cells2 u.f0 u.f1 u.f2 u.f3 u.f4 u.f5 u.f6 u.f7 u.f8 u.f9 u.f10 u.f11 u.f12 u.f13 u.f14 u.f15 u.f16 u.f17 u.f18 u.f19 u.f20 u.f21 u.f22 u.f23 u.f24 u.f25 u.f26 u.f27 u.f28 u.f29 u.f30 u.f31 u.f32 R) scr s v2 hq550 (congrArg (Prod.mk _) own_lo0.symm))) ?_
     refine Eval.aload_n rfl rfl ?_
     refine Eval.iload_n rfl rfl ?_
     obtain ⟨p553, hq554, h⟩ := bind_some h
     refine Eval.callI (rest := [.int p549]) (x := p553) (H1 := (W2 scr s u R)) rfl rfl (ev_j_lastValue_2 R scr s u v2 hq554 rfl) ?_
     by_cases hc555 : p549 = p553
     ·rw [if_pos hc555] at h
      refine Eval.icmpT (t := 48) rfl rfl (teq hc555).1 ?_
      refine Eval.iinc (L' := [some (.ref 1), some (.ref 26), some (.int (v2 + (1:Int32)))]) rfl rfl rfl ?_
      refine Eval.goto (t := 2) rfl rfl ?_
      exact hrec _ _ _ h hk
     ·rw [if_neg hc555] at h
      refine Eval.icmpF rfl (feq hc555).1 ?_
      cases h
      refine Eval.weak (lw_mk 0 _) ?_
      exact hk
    ·rw [if_neg hc546] at h
     refine Eval.icmpT (t := 46) rfl rfl (feq hc546).2 ?_
     cases h
     refine Eval.weak (lw_mk 0 _) ?_
     exact hk
   ·rw [if_neg hc537] at h
    refine Eval.icmpT (t := 46) rfl rfl (feq hc537).2 ?_
    cases h
    refine Eval.weak (lw_mk 0 _) ?_
    exact hk
  ·rw [if_neg hc530] at h
   refine Eval.icmpT (t := 54) rfl rfl (flt hc530).2.1 ?_
   cases h
   refine Eval.weak (lw_mk 3 _) ?_
   exact hk
abbrev j_contentCount_l2_K (R : AHeap) (scr : List Int32) (s : Q) (res : (Unit) ⊕ (Unit)) (out : Option Value × AHeap) : Prop := Sum.elim (fun res => Eval own_P 10 37 [none, none] [] (W1 scr s R) out) (fun res => Eval own_P 10 45 [some (.ref 1), none] [] (W1 scr s R) out) res

def j_contentCount_b39 (go_ : Q → Int32 → Option ((Unit) ⊕ (Unit))) (s : Q) (v1 : Int32) : Option ((Unit) ⊕ (Unit)) := (go_ s (v1 + (1:Int32)))
set_option maxRecDepth 100000 in
theorem ev_j_contentCount_b39 (R : AHeap) (scr : List Int32) (go_ : Q → Int32 → Option ((Unit) ⊕ (Unit))) (hrec : ∀ (s : Q) (v1 : Int32) {res : (Unit) ⊕ (Unit)} {out : Option Value × AHeap}, go_ s v1 = some res → j_contentCount_l2_K R scr s res out → Eval own_P 10 2 [some (.ref 1), some (.int v1)] [] (W1 scr s R) out) (s : Q) (v1 : Int32) {res : (Unit) ⊕ (Unit)} {out : Option Value × AHeap} (h : j_contentCount_b39 go_ s v1 = some res) (hk : j_contentCount_l2_K R scr s res out) : Eval own_P 10 39 [some (.ref 1), some (.int v1)] [] (W1 scr s R) out := by
 rw [j_contentCount_b39] at h
 refine Eval.iinc (L' := [some (.ref 1), some (.int (v1 + (1:Int32)))]) rfl rfl rfl ?_
 refine Eval.goto (t := 2) rfl rfl ?_
 exact hrec _ _ h hk
def j_contentCount_l2 : Nat → Q → Int32 → Option ((Unit) ⊕ (Unit))
  | 0, _, _ => none
  | n + 1, s, v1 => (if v1 < (4:Int32) then (if v1 < s.f24 then (if inb s.f2.length v1 = true then (if (rd s.f2 v1) < (11:Int32) then (j_contentCount_b39 (j_contentCount_l2 n) s v1) else (if inb s.f2.length v1 = true then (if (26:Int32) < (rd s.f2 v1) then (j_contentCount_b39 (j_contentCount_l2 n) s v1) else some (.inl ())) else none)) else none) else (j_contentCount_b39 (j_contentCount_l2 n) s v1)) else some (.inr ()))
set_option maxRecDepth 100000 in
theorem ev_j_contentCount_l2 (R : AHeap) (scr : List Int32) : ∀ (n : Nat) (s : Q) (v1 : Int32) {res : (Unit) ⊕ (Unit)} {out : Option Value × AHeap}, j_contentCount_l2 n s v1 = some res → j_contentCount_l2_K R scr s res out → Eval own_P 10 2 [some (.ref 1), some (.int v1)] [] (W1 scr s R) out := by
 intro n
 induction n with
 | zero => intro _ _ res out h hk; cases h
 | succ n hrec =>
  intro s v1 res out h hk
  rw [j_contentCount_l2] at h
  refine Eval.iload_n rfl rfl ?_
  refine Eval.iconst (x := 4) rfl rfl ?_
  by_cases hc560 : v1 < (4:Int32)
  ·rw [if_pos hc560] at h
   refine Eval.icmpF rfl (tlt hc560).2.1 ?_
   refine Eval.iload_n rfl rfl ?_
   refine Eval.aload_n rfl rfl ?_
   refine Eval.getfield rfl rfl own_g1_nThreads ?_
   by_cases hc561 : v1 < s.f24
   ·rw [if_pos hc561] at h
    refine Eval.icmpF rfl (tlt hc561).2.1 ?_
    refine Eval.aload_n rfl rfl ?_
    refine Eval.getfield rfl rfl own_g1_st ?_
    refine Eval.iload_n rfl rfl ?_
    obtain ⟨hb562, h⟩ := ite_some h
    refine Eval.iaload rfl own_a1_st hb562 ?_
    refine Eval.bipush (x := 11) rfl rfl ?_
    by_cases hc563 : (rd s.f2 v1) < (11:Int32)
    ·rw [if_pos hc563] at h
     refine Eval.icmpT (t := 39) rfl rfl (tlt hc563).1 ?_
     exact ev_j_contentCount_b39 R scr _ hrec s v1 h hk
    ·rw [if_neg hc563] at h
     refine Eval.icmpF rfl (flt hc563).1 ?_
     refine Eval.aload_n rfl rfl ?_
     refine Eval.getfield rfl rfl own_g1_st ?_
     refine Eval.iload_n rfl rfl ?_
     obtain ⟨hb564, h⟩ := ite_some h
     refine Eval.iaload rfl own_a1_st hb564 ?_
     refine Eval.bipush (x := 26) rfl rfl ?_
     by_cases hc565 : (26:Int32) < (rd s.f2 v1)
     ·rw [if_pos hc565] at h
      refine Eval.icmpT (t := 39) rfl rfl (tlt hc565).2.2.1 ?_
      exact ev_j_contentCount_b39 R scr _ hrec s v1 h hk
     ·rw [if_neg hc565] at h
      refine Eval.icmpF rfl (flt hc565).2.2.1 ?_
      cases h
      refine Eval.weak (lw_mk 0 _) ?_
      exact hk
   ·rw [if_neg hc561] at h
    refine Eval.icmpT (t := 39) rfl rfl (flt hc561).2.1 ?_
    exact ev_j_contentCount_b39 R scr _ hrec s v1 h hk
  ·rw [if_neg hc560] at h
   refine Eval.icmpT (t := 45) rfl rfl (flt hc560).2.1 ?_
   cases h
   refine Eval.weak (lw_mk 1 _) ?_
   exact hk
def j_contentCount (s : Q) : Option (Int32) := ((j_contentCount_l2 3000 s (0:Int32)).bind fun p566 => Sum.elim (fun p568 => some ((-1:Int32))) (fun p569 => some ((s.f28 - s.f27))) p566)
set_option maxRecDepth 100000 in
theorem ev_j_contentCount (R : AHeap) (scr : List Int32) (s : Q) {res : Int32} {out : Option Value × AHeap} (h : j_contentCount s = some res) (hk : out = (some (.int res), (W1 scr s R))) : Eval own_P 10 0 [some (.ref 1), none] [] (W1 scr s R) out := by
 rw [j_contentCount] at h
 refine Eval.iconst (x := 0) rfl rfl ?_
 refine Eval.istore_n (L' := [some (.ref 1), some (.int 0)]) rfl rfl ?_
 obtain ⟨p566, hq567, h⟩ := bind_some h
 rcases p566 with p568 | p569
 ·dsimp only [Sum.elim] at h
  refine ev_j_contentCount_l2 R scr _ s (0:Int32) hq567 ?_
  show Eval own_P 10 37 [none, none] [] (W1 scr s R) out
  refine Eval.iconst (x := -1) rfl rfl ?_
  cases h
  subst hk
  exact Eval.ret rfl rfl
 ·dsimp only [Sum.elim] at h
  refine ev_j_contentCount_l2 R scr _ s (0:Int32) hq567 ?_
  show Eval own_P 10 45 [some (.ref 1), none] [] (W1 scr s R) out
  refine Eval.aload_n rfl rfl ?_
  refine Eval.getfield rfl rfl own_g1_tail ?_
  refine Eval.aload_n rfl rfl ?_
  refine Eval.getfield rfl rfl own_g1_head ?_
  refine Eval.isub rfl ?_
  cases h
  subst hk
  exact Eval.ret rfl rfl
abbrev j_contentCount_l2_K_2 (R : AHeap) (scr : List Int32) (c1 s : Q) (res : (Unit) ⊕ (Unit)) (out : Option Value × AHeap) : Prop := Sum.elim (fun res => Eval own_P 10 37 [none, none] [] (W2 scr c1 s R) out) (fun res => Eval own_P 10 45 [some (.ref 26), none] [] (W2 scr c1 s R) out) res

set_option maxRecDepth 100000 in
theorem ev_j_contentCount_b39_2 (R : AHeap) (scr : List Int32) (c1 : Q) (go_ : Q → Int32 → Option ((Unit) ⊕ (Unit))) (hrec : ∀ (s : Q) (v1 : Int32) {res : (Unit) ⊕ (Unit)} {out : Option Value × AHeap}, go_ s v1 = some res → j_contentCount_l2_K_2 R scr c1 s res out → Eval own_P 10 2 [some (.ref 26), some (.int v1)] [] (W2 scr c1 s R) out) (s : Q) (v1 : Int32) {res : (Unit) ⊕ (Unit)} {out : Option Value × AHeap} (h : j_contentCount_b39 go_ s v1 = some res) (hk : j_contentCount_l2_K_2 R scr c1 s res out) : Eval own_P 10 39 [some (.ref 26), some (.int v1)] [] (W2 scr c1 s R) out := by
 rw [j_contentCount_b39] at h
 refine Eval.iinc (L' := [some (.ref 26), some (.int (v1 + (1:Int32)))]) rfl rfl rfl ?_
 refine Eval.goto (t := 2) rfl rfl ?_
 exact hrec _ _ h hk
set_option maxRecDepth 100000 in
theorem ev_j_contentCount_l2_2 (R : AHeap) (scr : List Int32) (c1 : Q) : ∀ (n : Nat) (s : Q) (v1 : Int32) {res : (Unit) ⊕ (Unit)} {out : Option Value × AHeap}, j_contentCount_l2 n s v1 = some res → j_contentCount_l2_K_2 R scr c1 s res out → Eval own_P 10 2 [some (.ref 26), some (.int v1)] [] (W2 scr c1 s R) out := by
 intro n
 induction n with
 | zero => intro _ _ res out h hk; cases h
 | succ n hrec =>
  intro s v1 res out h hk
  rw [j_contentCount_l2] at h
  refine Eval.iload_n rfl rfl ?_
  refine Eval.iconst (x := 4) rfl rfl ?_
  by_cases hc572 : v1 < (4:Int32)
  ·rw [if_pos hc572] at h
   refine Eval.icmpF rfl (tlt hc572).2.1 ?_
   refine Eval.iload_n rfl rfl ?_
   refine Eval.aload_n rfl rfl ?_
   refine Eval.getfield rfl rfl own_g2_nThreads ?_
   by_cases hc573 : v1 < s.f24
   ·rw [if_pos hc573] at h
    refine Eval.icmpF rfl (tlt hc573).2.1 ?_
    refine Eval.aload_n rfl rfl ?_
    refine Eval.getfield rfl rfl own_g2_st ?_
    refine Eval.iload_n rfl rfl ?_
    obtain ⟨hb574, h⟩ := ite_some h
    refine Eval.iaload rfl own_a2_st hb574 ?_
    refine Eval.bipush (x := 11) rfl rfl ?_
    by_cases hc575 : (rd s.f2 v1) < (11:Int32)
    ·rw [if_pos hc575] at h
     refine Eval.icmpT (t := 39) rfl rfl (tlt hc575).1 ?_
     exact ev_j_contentCount_b39_2 R scr c1 _ hrec s v1 h hk
    ·rw [if_neg hc575] at h
     refine Eval.icmpF rfl (flt hc575).1 ?_
     refine Eval.aload_n rfl rfl ?_
     refine Eval.getfield rfl rfl own_g2_st ?_
     refine Eval.iload_n rfl rfl ?_
     obtain ⟨hb576, h⟩ := ite_some h
     refine Eval.iaload rfl own_a2_st hb576 ?_
     refine Eval.bipush (x := 26) rfl rfl ?_
     by_cases hc577 : (26:Int32) < (rd s.f2 v1)
     ·rw [if_pos hc577] at h
      refine Eval.icmpT (t := 39) rfl rfl (tlt hc577).2.2.1 ?_
      exact ev_j_contentCount_b39_2 R scr c1 _ hrec s v1 h hk
     ·rw [if_neg hc577] at h
      refine Eval.icmpF rfl (flt hc577).2.2.1 ?_
      cases h
      refine Eval.weak (lw_mk 0 _) ?_
      exact hk
   ·rw [if_neg hc573] at h
    refine Eval.icmpT (t := 39) rfl rfl (flt hc573).2.1 ?_
    exact ev_j_contentCount_b39_2 R scr c1 _ hrec s v1 h hk
  ·rw [if_neg hc572] at h
   refine Eval.icmpT (t := 45) rfl rfl (flt hc572).2.1 ?_
   cases h
   refine Eval.weak (lw_mk 1 _) ?_
   exact hk
set_option maxRecDepth 100000 in
theorem ev_j_contentCount_2 (R : AHeap) (scr : List Int32) (c1 s : Q) {res : Int32} {out : Option Value × AHeap} (h : j_contentCount s = some res) (hk : out = (some (.int res), (W2 scr c1 s R))) : Eval own_P 10 0 [some (.ref 26), none] [] (W2 scr c1 s R) out := by
 rw [j_contentCount] at h
 refine Eval.iconst (x := 0) rfl rfl ?_
 refine Eval.istore_n (L' := [some (.ref 26), some (.int 0)]) rfl rfl ?_
 obtain ⟨p578, hq579, h⟩ := bind_some h
 rcases p578 with p580 | p581
 ·dsimp only [Sum.elim] at h
  refine ev_j_contentCount_l2_2 R scr c1 _ s (0:Int32) hq579 ?_
  show Eval own_P 10 37 [none, none] [] (W2 scr c1 s R) out
  refine Eval.iconst (x := -1) rfl rfl ?_
  cases h
  subst hk
  exact Eval.ret rfl rfl
 ·dsimp only [Sum.elim] at h
  refine ev_j_contentCount_l2_2 R scr c1 _ s (0:Int32) hq579 ?_
  show Eval own_P 10 45 [some (.ref 26), none] [] (W2 scr c1 s R) out
  refine Eval.aload_n rfl rfl ?_
  refine Eval.getfield rfl rfl own_g2_tail ?_
  refine Eval.aload_n rfl rfl ?_
  refine Eval.getfield rfl rfl own_g2_head ?_
  refine Eval.isub rfl ?_
  cases h
  subst hk
  exact Eval.ret rfl rfl
def j_historyLength (s : Q) : Int32 := (s.f29)
set_option maxRecDepth 100000 in
theorem ev_j_historyLength (R : AHeap) (scr : List Int32) (s : Q) {res : Int32} {out : Option Value × AHeap} (h : j_historyLength s = res) (hk : out = (some (.int res), (W1 scr s R))) : Eval own_P 11 0 [some (.ref 1)] [] (W1 scr s R) out := by
 rw [j_historyLength] at h
 refine Eval.aload_n rfl rfl ?_
 refine Eval.getfield rfl rfl own_g1_histLen ?_
 subst h
 subst hk
 exact Eval.ret rfl rfl
set_option maxRecDepth 100000 in
theorem ev_j_historyLength_2 (R : AHeap) (scr : List Int32) (c1 s : Q) {res : Int32} {out : Option Value × AHeap} (h : j_historyLength s = res) (hk : out = (some (.int res), (W2 scr c1 s R))) : Eval own_P 11 0 [some (.ref 26)] [] (W2 scr c1 s R) out := by
 rw [j_historyLength] at h
 refine Eval.aload_n rfl rfl ?_
 refine Eval.getfield rfl rfl own_g2_histLen ?_
 subst h
 subst hk
 exact Eval.ret rfl rfl
abbrev h_same_l80_K_1_2 (R : AHeap) (scr : List Int32) (s u : Q) (res : (Unit) ⊕ ((Unit) ⊕ (Unit))) (out : Option Value × AHeap) : Prop := Sum.elim (fun res => Eval own_P 7 112 [none, none, none] [] (W2 scr s u R) out) (fun res => Sum.elim (fun res => Eval own_P 7 127 [none, none, none] [] (W2 scr s u R) out) (fun res => Eval own_P 7 135 [some (.ref 1), some (.ref 26), none] [] (W2 scr s u R) out) res) res

def j_historyEvent (s : Q) (v1 : Int32) : Option (Int32) := (if v1 < (0:Int32) then some ((0:Int32)) else (if v1 < s.f29 then (if v1 < (64:Int32) then (if inb s.f8.length v1 = true then (if inb s.f9.length v1 = true then some ((((rd s.f8 v1) * (16:Int32)) + (rd s.f9 v1))) else none) else none) else some ((0:Int32))) else some ((0:Int32))))
set_option maxRecDepth 100000 in
theorem ev_j_historyEvent (R : AHeap) (scr : List Int32) (s : Q) (v1 : Int32) {res : Int32} {out : Option Value × AHeap} (h : j_historyEvent s v1 = some res) (hk : out = (some (.int res), (W1 scr s R))) : Eval own_P 12 0 [some (.ref 1), some (.int v1)] [] (W1 scr s R) out := by
 rw [j_historyEvent] at h
 refine Eval.iload_n rfl rfl ?_
 by_cases hc587 : v1 < (0:Int32)
 ·rw [if_pos hc587] at h
  refine Eval.ifT (t := 35) rfl rfl (tlt hc587).1 ?_
  refine Eval.iconst (x := 0) rfl rfl ?_
  cases h
  subst hk
  exact Eval.ret rfl rfl
 ·rw [if_neg hc587] at h
  refine Eval.ifF rfl (flt hc587).1 ?_
  refine Eval.iload_n rfl rfl ?_
  refine Eval.aload_n rfl rfl ?_
  refine Eval.getfield rfl rfl own_g1_histLen ?_
  by_cases hc588 : v1 < s.f29
  ·rw [if_pos hc588] at h
   refine Eval.icmpF rfl (tlt hc588).2.1 ?_
   refine Eval.iload_n rfl rfl ?_
   refine Eval.bipush (x := 64) rfl rfl ?_
   by_cases hc589 : v1 < (64:Int32)
   ·rw [if_pos hc589] at h
    refine Eval.icmpF rfl (tlt hc589).2.1 ?_
    refine Eval.aload_n rfl rfl ?_
    refine Eval.getfield rfl rfl own_g1_evKind ?_
    refine Eval.iload_n rfl rfl ?_
    obtain ⟨hb590, h⟩ := ite_some h
    refine Eval.iaload rfl own_a1_evKind hb590 ?_
    refine Eval.bipush (x := 16) rfl rfl ?_
    refine Eval.imul rfl ?_
    refine Eval.aload_n rfl rfl ?_
    refine Eval.getfield rfl rfl own_g1_evThread ?_
    refine Eval.iload_n rfl rfl ?_
    obtain ⟨hb591, h⟩ := ite_some h
    refine Eval.iaload rfl own_a1_evThread hb591 ?_
    refine Eval.iadd rfl ?_
    cases h
    subst hk
    exact Eval.ret rfl rfl
   ·rw [if_neg hc589] at h
    refine Eval.icmpT (t := 35) rfl rfl (flt hc589).2.1 ?_
    refine Eval.iconst (x := 0) rfl rfl ?_
    cases h
    subst hk
    exact Eval.ret rfl rfl
  ·rw [if_neg hc588] at h
   refine Eval.icmpT (t := 35) rfl rfl (flt hc588).2.1 ?_
   refine Eval.iconst (x := 0) rfl rfl ?_
   cases h
   subst hk
   exact Eval.ret rfl rfl
set_option maxRecDepth 100000 in
theorem ev_j_historyEvent_2 (R : AHeap) (scr : List Int32) (c1 s : Q) (v1 : Int32) {res : Int32} {out : Option Value × AHeap} (h : j_historyEvent s v1 = some res) (hk : out = (some (.int res), (W2 scr c1 s R))) : Eval own_P 12 0 [some (.ref 26), some (.int v1)] [] (W2 scr c1 s R) out := by
 rw [j_historyEvent] at h
 refine Eval.iload_n rfl rfl ?_
 by_cases hc594 : v1 < (0:Int32)
 ·rw [if_pos hc594] at h
  refine Eval.ifT (t := 35) rfl rfl (tlt hc594).1 ?_
  refine Eval.iconst (x := 0) rfl rfl ?_
  cases h
  subst hk
  exact Eval.ret rfl rfl
 ·rw [if_neg hc594] at h
  refine Eval.ifF rfl (flt hc594).1 ?_
  refine Eval.iload_n rfl rfl ?_
  refine Eval.aload_n rfl rfl ?_
  refine Eval.getfield rfl rfl own_g2_histLen ?_
  by_cases hc595 : v1 < s.f29
  ·rw [if_pos hc595] at h
   refine Eval.icmpF rfl (tlt hc595).2.1 ?_
   refine Eval.iload_n rfl rfl ?_
   refine Eval.bipush (x := 64) rfl rfl ?_
   by_cases hc596 : v1 < (64:Int32)
   ·rw [if_pos hc596] at h
    refine Eval.icmpF rfl (tlt hc596).2.1 ?_
    refine Eval.aload_n rfl rfl ?_
    refine Eval.getfield rfl rfl own_g2_evKind ?_
    refine Eval.iload_n rfl rfl ?_
    obtain ⟨hb597, h⟩ := ite_some h
    refine Eval.iaload rfl own_a2_evKind hb597 ?_
    refine Eval.bipush (x := 16) rfl rfl ?_
    refine Eval.imul rfl ?_
    refine Eval.aload_n rfl rfl ?_
    refine Eval.getfield rfl rfl own_g2_evThread ?_
    refine Eval.iload_n rfl rfl ?_
    obtain ⟨hb598, h⟩ := ite_some h
    refine Eval.iaload rfl own_a2_evThread hb598 ?_
    refine Eval.iadd rfl ?_
    cases h
    subst hk
    exact Eval.ret rfl rfl
   ·rw [if_neg hc596] at h
    refine Eval.icmpT (t := 35) rfl rfl (flt hc596).2.1 ?_
    refine Eval.iconst (x := 0) rfl rfl ?_
    cases h
    subst hk
    exact Eval.ret rfl rfl
  ·rw [if_neg hc595] at h
   refine Eval.icmpT (t := 35) rfl rfl (flt hc595).2.1 ?_
   refine Eval.iconst (x := 0) rfl rfl ?_
   cases h
   subst hk
   exact Eval.ret rfl rfl
def j_historyValue (s : Q) (v1 : Int32) : Option (Int32) := (if v1 < (0:Int32) then some ((0:Int32)) else (if v1 < s.f29 then (if v1 < (64:Int32) then (if inb s.f10.length v1 = true then some ((rd s.f10 v1)) else none) else some ((0:Int32))) else some ((0:Int32))))
set_option maxRecDepth 100000 in
theorem ev_j_historyValue (R : AHeap) (scr : List Int32) (s : Q) (v1 : Int32) {res : Int32} {out : Option Value × AHeap} (h : j_historyValue s v1 = some res) (hk : out = (some (.int res), (W1 scr s R))) : Eval own_P 13 0 [some (.ref 1), some (.int v1)] [] (W1 scr s R) out := by
 rw [j_historyValue] at h
 refine Eval.iload_n rfl rfl ?_
 by_cases hc602 : v1 < (0:Int32)
 ·rw [if_pos hc602] at h
  refine Eval.ifT (t := 25) rfl rfl (tlt hc602).1 ?_
  refine Eval.iconst (x := 0) rfl rfl ?_
  cases h
  subst hk
  exact Eval.ret rfl rfl
 ·rw [if_neg hc602] at h
  refine Eval.ifF rfl (flt hc602).1 ?_
  refine Eval.iload_n rfl rfl ?_
  refine Eval.aload_n rfl rfl ?_
  refine Eval.getfield rfl rfl own_g1_histLen ?_
  by_cases hc603 : v1 < s.f29
  ·rw [if_pos hc603] at h
   refine Eval.icmpF rfl (tlt hc603).2.1 ?_
   refine Eval.iload_n rfl rfl ?_
   refine Eval.bipush (x := 64) rfl rfl ?_
   by_cases hc604 : v1 < (64:Int32)
   ·rw [if_pos hc604] at h
    refine Eval.icmpF rfl (tlt hc604).2.1 ?_
    refine Eval.aload_n rfl rfl ?_
    refine Eval.getfield rfl rfl own_g1_evVal ?_
    refine Eval.iload_n rfl rfl ?_
    obtain ⟨hb605, h⟩ := ite_some h
    refine Eval.iaload rfl own_a1_evVal hb605 ?_
    cases h
    subst hk
    exact Eval.ret rfl rfl
   ·rw [if_neg hc604] at h
    refine Eval.icmpT (t := 25) rfl rfl (flt hc604).2.1 ?_
    refine Eval.iconst (x := 0) rfl rfl ?_
    cases h
    subst hk
    exact Eval.ret rfl rfl
  ·rw [if_neg hc603] at h
   refine Eval.icmpT (t := 25) rfl rfl (flt hc603).2.1 ?_
   refine Eval.iconst (x := 0) rfl rfl ?_
   cases h
   subst hk
   exact Eval.ret rfl rfl
set_option maxRecDepth 100000 in
theorem ev_j_historyValue_2 (R : AHeap) (scr : List Int32) (c1 s : Q) (v1 : Int32) {res : Int32} {out : Option Value × AHeap} (h : j_historyValue s v1 = some res) (hk : out = (some (.int res), (W2 scr c1 s R))) : Eval own_P 13 0 [some (.ref 26), some (.int v1)] [] (W2 scr c1 s R) out := by
 rw [j_historyValue] at h
 refine Eval.iload_n rfl rfl ?_
 by_cases hc608 : v1 < (0:Int32)
 ·rw [if_pos hc608] at h
  refine Eval.ifT (t := 25) rfl rfl (tlt hc608).1 ?_
  refine Eval.iconst (x := 0) rfl rfl ?_
  cases h
  subst hk
  exact Eval.ret rfl rfl
 ·rw [if_neg hc608] at h
  refine Eval.ifF rfl (flt hc608).1 ?_
  refine Eval.iload_n rfl rfl ?_
  refine Eval.aload_n rfl rfl ?_
  refine Eval.getfield rfl rfl own_g2_histLen ?_
  by_cases hc609 : v1 < s.f29
  ·rw [if_pos hc609] at h
   refine Eval.icmpF rfl (tlt hc609).2.1 ?_
   refine Eval.iload_n rfl rfl ?_
   refine Eval.bipush (x := 64) rfl rfl ?_
   by_cases hc610 : v1 < (64:Int32)
   ·rw [if_pos hc610] at h
    refine Eval.icmpF rfl (tlt hc610).2.1 ?_
    refine Eval.aload_n rfl rfl ?_
    refine Eval.getfield rfl rfl own_g2_evVal ?_
    refine Eval.iload_n rfl rfl ?_
    obtain ⟨hb611, h⟩ := ite_some h
    refine Eval.iaload rfl own_a2_evVal hb611 ?_
    cases h
    subst hk
    exact Eval.ret rfl rfl
   ·rw [if_neg hc610] at h
    refine Eval.icmpT (t := 25) rfl rfl (flt hc610).2.1 ?_
    refine Eval.iconst (x := 0) rfl rfl ?_
    cases h
    subst hk
    exact Eval.ret rfl rfl
  ·rw [if_neg hc609] at h
   refine Eval.icmpT (t := 25) rfl rfl (flt hc609).2.1 ?_
   refine Eval.iconst (x := 0) rfl rfl ?_
   cases h
   subst hk
   exact Eval.ret rfl rfl
def j_contentAt (s : Q) (v1 : Int32) : Option (Int32) := ((j_contentCount s).bind fun p615 => (if p615 < (0:Int32) then some ((0:Int32)) else (if v1 < (0:Int32) then some ((0:Int32)) else (if v1 < p615 then (if inb s.f1.length ((s.f27 + v1) &&& s.f26) = true then some ((rd s.f1 ((s.f27 + v1) &&& s.f26))) else none) else some ((0:Int32))))))
set_option maxRecDepth 100000 in
theorem ev_j_contentAt (R : AHeap) (scr : List Int32) (s : Q) (v1 : Int32) {res : Int32} {out : Option Value × AHeap} (h : j_contentAt s v1 = some res) (hk : out = (some (.int res), (W1 scr s R))) : Eval own_P 14 0 [some (.ref 1), some (.int v1), none] [] (W1 scr s R) out := by
 rw [j_contentAt] at h
 refine Eval.aload_n rfl rfl ?_
 obtain ⟨p615, hq616, h⟩ := bind_some h
 refine Eval.callI (rest := []) (x := p615) (H1 := (W1 scr s R)) rfl rfl (ev_j_contentCount R scr s hq616 rfl) ?_
 refine Eval.istore_n (L' := [some (.ref 1), some (.int v1), some (.int p615)]) rfl rfl ?_
 refine Eval.iload_n rfl rfl ?_
 by_cases hc617 : p615 < (0:Int32)
 ·rw [if_pos hc617] at h
  refine Eval.ifT (t := 35) rfl rfl (tlt hc617).1 ?_
  refine Eval.iconst (x := 0) rfl rfl ?_
  cases h
  subst hk
  exact Eval.ret rfl rfl
 ·rw [if_neg hc617] at h
  refine Eval.ifF rfl (flt hc617).1 ?_
  refine Eval.iload_n rfl rfl ?_
  by_cases hc618 : v1 < (0:Int32)
  ·rw [if_pos hc618] at h
   refine Eval.ifT (t := 35) rfl rfl (tlt hc618).1 ?_
   refine Eval.iconst (x := 0) rfl rfl ?_
   cases h
   subst hk
   exact Eval.ret rfl rfl
  ·rw [if_neg hc618] at h
   refine Eval.ifF rfl (flt hc618).1 ?_
   refine Eval.iload_n rfl rfl ?_
   refine Eval.iload_n rfl rfl ?_
   by_cases hc619 : v1 < p615
   ·rw [if_pos hc619] at h
    refine Eval.icmpF rfl (tlt hc619).2.1 ?_
    refine Eval.aload_n rfl rfl ?_
    refine Eval.getfield rfl rfl own_g1_val ?_
    refine Eval.aload_n rfl rfl ?_
    refine Eval.getfield rfl rfl own_g1_head ?_
    refine Eval.iload_n rfl rfl ?_
    refine Eval.iadd rfl ?_
    refine Eval.aload_n rfl rfl ?_
    refine Eval.getfield rfl rfl own_g1_mask ?_
    refine Eval.iand rfl ?_
    obtain ⟨hb620, h⟩ := ite_some h
    refine Eval.iaload rfl own_a1_val hb620 ?_
    cases h
    subst hk
    exact Eval.ret rfl rfl
   ·rw [if_neg hc619] at h
    refine Eval.icmpT (t := 35) rfl rfl (flt hc619).2.1 ?_
    refine Eval.iconst (x := 0) rfl rfl ?_
    cases h
    subst hk
    exact Eval.ret rfl rfl
set_option maxRecDepth 100000 in
theorem ev_j_contentAt_2 (R : AHeap) (scr : List Int32) (c1 s : Q) (v1 : Int32) {res : Int32} {out : Option Value × AHeap} (h : j_contentAt s v1 = some res) (hk : out = (some (.int res), (W2 scr c1 s R))) : Eval own_P 14 0 [some (.ref 26), some (.int v1), none] [] (W2 scr c1 s R) out := by
 rw [j_contentAt] at h
 refine Eval.aload_n rfl rfl ?_
 obtain ⟨p623, hq624, h⟩ := bind_some h
 refine Eval.callI (rest := []) (x := p623) (H1 := (W2 scr c1 s R)) rfl rfl (ev_j_contentCount_2 R scr c1 s hq624 rfl) ?_
 refine Eval.istore_n (L' := [some (.ref 26), some (.int v1), some (.int p623)]) rfl rfl ?_
 refine Eval.iload_n rfl rfl ?_
 by_cases hc625 : p623 < (0:Int32)
 ·rw [if_pos hc625] at h
  refine Eval.ifT (t := 35) rfl rfl (tlt hc625).1 ?_
  refine Eval.iconst (x := 0) rfl rfl ?_
  cases h
  subst hk
  exact Eval.ret rfl rfl
 ·rw [if_neg hc625] at h
  refine Eval.ifF rfl (flt hc625).1 ?_
  refine Eval.iload_n rfl rfl ?_
  by_cases hc626 : v1 < (0:Int32)
  ·rw [if_pos hc626] at h
   refine Eval.ifT (t := 35) rfl rfl (tlt hc626).1 ?_
   refine Eval.iconst (x := 0) rfl rfl ?_
   cases h
   subst hk
   exact Eval.ret rfl rfl
  ·rw [if_neg hc626] at h
   refine Eval.ifF rfl (flt hc626).1 ?_
   refine Eval.iload_n rfl rfl ?_
   refine Eval.iload_n rfl rfl ?_
   by_cases hc627 : v1 < p623
   ·rw [if_pos hc627] at h
    refine Eval.icmpF rfl (tlt hc627).2.1 ?_
    refine Eval.aload_n rfl rfl ?_
    refine Eval.getfield rfl rfl own_g2_val ?_
    refine Eval.aload_n rfl rfl ?_
    refine Eval.getfield rfl rfl own_g2_head ?_
    refine Eval.iload_n rfl rfl ?_
    refine Eval.iadd rfl ?_
    refine Eval.aload_n rfl rfl ?_
    refine Eval.getfield rfl rfl own_g2_mask ?_
    refine Eval.iand rfl ?_
    obtain ⟨hb628, h⟩ := ite_some h
    refine Eval.iaload rfl own_a2_val hb628 ?_
    cases h
    subst hk
    exact Eval.ret rfl rfl
   ·rw [if_neg hc627] at h
    refine Eval.icmpT (t := 35) rfl rfl (flt hc627).2.1 ?_
    refine Eval.iconst (x := 0) rfl rfl ?_
    cases h
    subst hk
    exact Eval.ret rfl rfl
def h_same_l80 : Nat → Q → Q → Int32 → Option ((Unit) ⊕ ((Unit) ⊕ (Unit)))
  | 0, _, _, _ => none
  | n + 1, s, u, v2 => (if v2 < (64:Int32) then ((j_historyEvent s v2).bind fun p592 => ((j_historyEvent u v2).bind fun p599 => (if p592 = p599 then ((j_historyValue s v2).bind fun p606 => ((j_historyValue u v2).bind fun p612 => (if p606 = p612 then ((j_contentAt s v2).bind fun p621 => ((j_contentAt u v2).bind fun p629 => (if p621 = p629 then (h_same_l80 n s u (v2 + (1:Int32))) else some (.inr (.inl ()))))) else some (.inl ())))) else some (.inl ())))) else some (.inr (.inr ())))
set_option maxRecDepth 100000 in
theorem ev_h_same_l80_1_2 (R : AHeap) (scr : List Int32) : ∀ (n : Nat) (s u : Q) (v2 : Int32) {res : (Unit) ⊕ ((Unit) ⊕ (Unit))} {out : Option Value × AHeap}, h_same_l80 n s u v2 = some res → h_same_l80_K_1_2 R scr s u res out → Eval own_P 7 80 [some (.ref 1), some (.ref 26), some (.int v2)] [] (W2 scr s u R) out := by
 intro n
 induction n with
 | zero => intro _ _ _ res out h hk; cases h
 | succ n hrec =>
  intro s u v2 res out h hk
  rw [h_same_l80] at h
  refine Eval.iload_n rfl rfl ?_
  refine Eval.bipush (x := 64) rfl rfl ?_
  by_cases hc586 : v2 < (64:Int32)
  ·rw [if_pos hc586] at h
   refine Eval.icmpF rfl (tlt hc586).2.1 ?_
   refine Eval.aload_n rfl rfl ?_
   refine Eval.iload_n rfl rfl ?_
   obtain ⟨p592, hq593, h⟩ := bind_some h
   refine Eval.callI (rest := []) (x := p592) (H1 := (W2 scr s u R)) rfl rfl (Eval.heap own_lo0 (ev_j_historyEvent (own_cells2 u.f0 u.f1 u.f2 u.f3 u.f4 u.f5 u.f6 u.f7 u.f8 u.f9 u.f10 u.f11 u.f12 u.f13 u.f14 u.f15 u.f16 u.f17 u.f18 u.f19 u.f20 u.f21 u.f22 u.f23 u.f24 u.f25 u.f26 u.f27 u.f28 u.f29 u.f30 u.f31 u.f32 R) scr s v2 hq593 (congrArg (Prod.mk _) own_lo0.symm))) ?_
   refine Eval.aload_n rfl rfl ?_
   refine Eval.iload_n rfl rfl ?_
   obtain ⟨p599, hq600, h⟩ := bind_some h
   refine Eval.callI (rest := [.int p592]) (x := p599) (H1 := (W2 scr s u R)) rfl rfl (ev_j_historyEvent_2 R scr s u v2 hq600 rfl) ?_
   by_cases hc601 : p592 = p599
   ·rw [if_pos hc601] at h
    refine Eval.icmpF rfl (teq hc601).2 ?_
    refine Eval.aload_n rfl rfl ?_
    refine Eval.iload_n rfl rfl ?_
    obtain ⟨p606, hq607, h⟩ := bind_some h
    refine Eval.callI (rest := []) (x := p606) (H1 := (W2 scr s u R)) rfl rfl (Eval.heap own_lo0 (ev_j_historyValue (own_cells2 u.f0 u.f1 u.f2 u.f3 u.f4 u.f5 u.f6 u.f7 u.f8 u.f9 u.f10 u.f11 u.f12 u.f13 u.f14 u.f15 u.f16 u.f17 u.f18 u.f19 u.f20 u.f21 u.f22 u.f23 u.f24 u.f25 u.f26 u.f27 u.f28 u.f29 u.f30 u.f31 u.f32 R) scr s v2 hq607 (congrArg (Prod.mk _) own_lo0.symm))) ?_
    refine Eval.aload_n rfl rfl ?_
    refine Eval.iload_n rfl rfl ?_
    obtain ⟨p612, hq613, h⟩ := bind_some h
    refine Eval.callI (rest := [.int p606]) (x := p612) (H1 := (W2 scr s u R)) rfl rfl (ev_j_historyValue_2 R scr s u v2 hq613 rfl) ?_
    by_cases hc614 : p606 = p612
    ·rw [if_pos hc614] at h
     refine Eval.icmpT (t := 114) rfl rfl (teq hc614).1 ?_
     refine Eval.aload_n rfl rfl ?_
     refine Eval.iload_n rfl rfl ?_
     obtain ⟨p621, hq622, h⟩ := bind_some h
     refine Eval.callI (rest := []) (x := p621) (H1 := (W2 scr s u R)) rfl rfl (Eval.heap own_lo0 (ev_j_contentAt (own_cells2 u.f0 u.f1 u.f2 u.f3 u.f4 u.f5 u.f6 u.f7 u.f8 u.f9 u.f10 u.f11 u.f12 u.f13 u.f14 u.f15 u.f16 u.f17 u.f18 u.f19 u.f20 u.f21 u.f22 u.f23 u.f24 u.f25 u.f26 u.f27 u.f28 u.f29 u.f30 u.f31 u.f32 R) scr s v2 hq622 (congrArg (Prod.mk _) own_lo0.symm))) ?_
     refine Eval.aload_n rfl rfl ?_
     refine Eval.iload_n rfl rfl ?_
     obtain ⟨p629, hq630, h⟩ := bind_some h
     refine Eval.callI (rest := [.int p621]) (x := p629) (H1 := (W2 scr s u R)) rfl rfl (ev_j_contentAt_2 R scr s u v2 hq630 rfl) ?_
     by_cases hc631 : p621 = p629
     ·rw [if_pos hc631] at h
      refine Eval.icmpT (t := 129) rfl rfl (teq hc631).1 ?_
      refine Eval.iinc (L' := [some (.ref 1), some (.ref 26), some (.int (v2 + (1:Int32)))]) rfl rfl rfl ?_
      refine Eval.goto (t := 80) rfl rfl ?_
      exact hrec _ _ _ h hk
     ·rw [if_neg hc631] at h
      refine Eval.icmpF rfl (feq hc631).1 ?_
      cases h
      refine Eval.weak (lw_mk 0 _) ?_
      exact hk
    ·rw [if_neg hc614] at h
     refine Eval.icmpF rfl (feq hc614).1 ?_
     cases h
     refine Eval.weak (lw_mk 0 _) ?_
     exact hk
   ·rw [if_neg hc601] at h
    refine Eval.icmpT (t := 112) rfl rfl (feq hc601).2 ?_
    cases h
    refine Eval.weak (lw_mk 0 _) ?_
    exact hk
  ·rw [if_neg hc586] at h
   refine Eval.icmpT (t := 135) rfl rfl (flt hc586).2.1 ?_
   cases h
   refine Eval.weak (lw_mk 3 _) ?_
   exact hk
abbrev j_countInvocations_l4_K (R : AHeap) (scr : List Int32) (s : Q) (res : Int32) (out : Option Value × AHeap) : Prop := Eval own_P 16 47 [none, some (.int res), none] [] (W1 scr s R) out

def j_countInvocations_b41 (go_ : Q → Int32 → Int32 → Option (Int32)) (s : Q) (v1 v2 : Int32) : Option (Int32) := (go_ s v1 (v2 + (1:Int32)))
set_option maxRecDepth 100000 in
theorem ev_j_countInvocations_b41 (R : AHeap) (scr : List Int32) (go_ : Q → Int32 → Int32 → Option (Int32)) (hrec : ∀ (s : Q) (v1 v2 : Int32) {res : Int32} {out : Option Value × AHeap}, go_ s v1 v2 = some res → j_countInvocations_l4_K R scr s res out → Eval own_P 16 4 [some (.ref 1), some (.int v1), some (.int v2)] [] (W1 scr s R) out) (s : Q) (v1 v2 : Int32) {res : Int32} {out : Option Value × AHeap} (h : j_countInvocations_b41 go_ s v1 v2 = some res) (hk : j_countInvocations_l4_K R scr s res out) : Eval own_P 16 41 [some (.ref 1), some (.int v1), some (.int v2)] [] (W1 scr s R) out := by
 rw [j_countInvocations_b41] at h
 refine Eval.iinc (L' := [some (.ref 1), some (.int v1), some (.int (v2 + (1:Int32)))]) rfl rfl rfl ?_
 refine Eval.goto (t := 4) rfl rfl ?_
 exact hrec _ _ _ h hk
def j_countInvocations_b38 (go_ : Q → Int32 → Int32 → Option (Int32)) (s : Q) (v1 v2 : Int32) : Option (Int32) := (j_countInvocations_b41 (go_) s (v1 + (1:Int32)) v2)
set_option maxRecDepth 100000 in
theorem ev_j_countInvocations_b38 (R : AHeap) (scr : List Int32) (go_ : Q → Int32 → Int32 → Option (Int32)) (hrec : ∀ (s : Q) (v1 v2 : Int32) {res : Int32} {out : Option Value × AHeap}, go_ s v1 v2 = some res → j_countInvocations_l4_K R scr s res out → Eval own_P 16 4 [some (.ref 1), some (.int v1), some (.int v2)] [] (W1 scr s R) out) (s : Q) (v1 v2 : Int32) {res : Int32} {out : Option Value × AHeap} (h : j_countInvocations_b38 go_ s v1 v2 = some res) (hk : j_countInvocations_l4_K R scr s res out) : Eval own_P 16 38 [some (.ref 1), some (.int v1), some (.int v2)] [] (W1 scr s R) out := by
 rw [j_countInvocations_b38] at h
 refine Eval.iinc (L' := [some (.ref 1), some (.int (v1 + (1:Int32))), some (.int v2)]) rfl rfl rfl ?_
 exact ev_j_countInvocations_b41 R scr _ hrec s (v1 + (1:Int32)) v2 h hk
def j_countInvocations_l4 : Nat → Q → Int32 → Int32 → Option (Int32)
  | 0, _, _, _ => none
  | n + 1, s, v1, v2 => (if v2 < (64:Int32) then (if v2 < s.f29 then (if inb s.f8.length v2 = true then (if (rd s.f8 v2) = (1:Int32) then (j_countInvocations_b38 (j_countInvocations_l4 n) s v1 v2) else (if inb s.f8.length v2 = true then (j_countInvocations_b41 (j_countInvocations_l4 n) s (if (rd s.f8 v2) = (2:Int32) then (v1 + (1:Int32)) else v1) v2) else none)) else none) else some (v1)) else some (v1))
set_option maxRecDepth 100000 in
theorem ev_j_countInvocations_l4 (R : AHeap) (scr : List Int32) : ∀ (n : Nat) (s : Q) (v1 v2 : Int32) {res : Int32} {out : Option Value × AHeap}, j_countInvocations_l4 n s v1 v2 = some res → j_countInvocations_l4_K R scr s res out → Eval own_P 16 4 [some (.ref 1), some (.int v1), some (.int v2)] [] (W1 scr s R) out := by
 intro n
 induction n with
 | zero => intro _ _ _ res out h hk; cases h
 | succ n hrec =>
  intro s v1 v2 res out h hk
  rw [j_countInvocations_l4] at h
  refine Eval.iload_n rfl rfl ?_
  refine Eval.bipush (x := 64) rfl rfl ?_
  by_cases hc638 : v2 < (64:Int32)
  ·rw [if_pos hc638] at h
   refine Eval.icmpF rfl (tlt hc638).2.1 ?_
   refine Eval.iload_n rfl rfl ?_
   refine Eval.aload_n rfl rfl ?_
   refine Eval.getfield rfl rfl own_g1_histLen ?_
   by_cases hc639 : v2 < s.f29
   ·rw [if_pos hc639] at h
    refine Eval.icmpF rfl (tlt hc639).2.1 ?_
    refine Eval.aload_n rfl rfl ?_
    refine Eval.getfield rfl rfl own_g1_evKind ?_
    refine Eval.iload_n rfl rfl ?_
    obtain ⟨hb640, h⟩ := ite_some h
    refine Eval.iaload rfl own_a1_evKind hb640 ?_
    refine Eval.iconst (x := 1) rfl rfl ?_
    by_cases hc642 : (rd s.f8 v2) = (1:Int32)
    ·rw [if_pos hc642] at h
     refine Eval.icmpT (t := 38) rfl rfl (teq hc642).1 ?_
     exact ev_j_countInvocations_b38 R scr _ hrec s v1 v2 h hk
    ·rw [if_neg hc642] at h
     refine Eval.icmpF rfl (feq hc642).1 ?_
     refine Eval.aload_n rfl rfl ?_
     refine Eval.getfield rfl rfl own_g1_evKind ?_
     refine Eval.iload_n rfl rfl ?_
     obtain ⟨hb643, h⟩ := ite_some h
     refine Eval.iaload rfl own_a1_evKind hb643 ?_
     refine Eval.iconst (x := 2) rfl rfl ?_
     suffices hJ645 : Eval own_P 16 41 [some (.ref 1), some (.int (if (rd s.f8 v2) = (2:Int32) then (v1 + (1:Int32)) else v1)), some (.int v2)] [] (W1 scr s R) out by
      by_cases hc644 : (rd s.f8 v2) = (2:Int32)
      ·refine Eval.icmpF rfl (teq hc644).2 ?_
       refine Eval.iinc (L' := [some (.ref 1), some (.int (v1 + (1:Int32))), some (.int v2)]) rfl rfl rfl ?_
       exact (Eval.conv hJ645 (by simp only [if_pos hc644] <;> rfl) rfl)
      ·refine Eval.icmpT (t := 41) rfl rfl (feq hc644).2 ?_
       exact (Eval.conv hJ645 (by simp only [if_neg hc644] <;> rfl) rfl)
     exact ev_j_countInvocations_b41 R scr _ hrec s (if (rd s.f8 v2) = (2:Int32) then (v1 + (1:Int32)) else v1) v2 h hk
   ·rw [if_neg hc639] at h
    refine Eval.icmpT (t := 47) rfl rfl (flt hc639).2.1 ?_
    cases h
    refine Eval.weak (lw_mk 2 _) ?_
    exact hk
  ·rw [if_neg hc638] at h
   refine Eval.icmpT (t := 47) rfl rfl (flt hc638).2.1 ?_
   cases h
   refine Eval.weak (lw_mk 2 _) ?_
   exact hk
def j_countInvocations (s : Q) : Option (Int32) := ((j_countInvocations_l4 3000 s (0:Int32) (0:Int32)).bind fun p646 => some (p646))
set_option maxRecDepth 100000 in
theorem ev_j_countInvocations (R : AHeap) (scr : List Int32) (s : Q) {res : Int32} {out : Option Value × AHeap} (h : j_countInvocations s = some res) (hk : out = (some (.int res), (W1 scr s R))) : Eval own_P 16 0 [some (.ref 1), none, none] [] (W1 scr s R) out := by
 rw [j_countInvocations] at h
 refine Eval.iconst (x := 0) rfl rfl ?_
 refine Eval.istore_n (L' := [some (.ref 1), some (.int 0), none]) rfl rfl ?_
 refine Eval.iconst (x := 0) rfl rfl ?_
 refine Eval.istore_n (L' := [some (.ref 1), some (.int 0), some (.int 0)]) rfl rfl ?_
 obtain ⟨p646, hq647, h⟩ := bind_some h
 refine ev_j_countInvocations_l4 R scr _ s (0:Int32) (0:Int32) hq647 ?_
 show Eval own_P 16 47 [none, some (.int p646), none] [] (W1 scr s R) out
 refine Eval.iload_n rfl rfl ?_
 cases h
 subst hk
 exact Eval.ret rfl rfl
abbrev j_parseOps_l7_K (R : AHeap) (scr : List Int32) (res : Q) (out : Option Value × AHeap) : Prop := Eval own_P 17 25 [some (.ref 1), none, none] [] (W1 scr res R) out

abbrev j_parseOps_l7_N (s res : Q) : Prop := Q.len res = Q.len s
def j_parseOps_l7 : Nat → Q → Int32 → Option (Q)
  | 0, _, _ => none
  | n + 1, s, v1 => (if v1 < (4:Int32) then (if inb s.f19.length v1 = true then (j_parseOps_l7 n (Q.mk s.f0 s.f1 s.f2 s.f3 s.f4 s.f5 s.f6 s.f7 s.f8 s.f9 s.f10 s.f11 s.f12 s.f13 s.f14 s.f15 s.f16 s.f17 s.f18 (wr s.f19 v1 (-1:Int32)) s.f20 s.f21 s.f22 s.f23 s.f24 s.f25 s.f26 s.f27 s.f28 s.f29 s.f30 s.f31 s.f32) (v1 + (1:Int32))) else none) else some (s))
set_option maxRecDepth 100000 in
theorem ev_j_parseOps_l7 (R : AHeap) (scr : List Int32) : ∀ (n : Nat) (s : Q) (v1 : Int32) {res : Q} {out : Option Value × AHeap}, j_parseOps_l7 n s v1 = some res → j_parseOps_l7_K R scr res out → Eval own_P 17 7 [some (.ref 1), some (.int v1), none] [] (W1 scr s R) out := by
 intro n
 induction n with
 | zero => intro _ _ res out h hk; cases h
 | succ n hrec =>
  intro s v1 res out h hk
  rw [j_parseOps_l7] at h
  refine Eval.iload_n rfl rfl ?_
  refine Eval.iconst (x := 4) rfl rfl ?_
  by_cases hc651 : v1 < (4:Int32)
  ·rw [if_pos hc651] at h
   refine Eval.icmpF rfl (tlt hc651).2.1 ?_
   refine Eval.aload_n rfl rfl ?_
   refine Eval.getfield rfl rfl own_g1_openOp ?_
   refine Eval.iload_n rfl rfl ?_
   refine Eval.iconst (x := -1) rfl rfl ?_
   obtain ⟨hb652, h⟩ := ite_some h
   refine Eval.iastore rfl rfl own_a1_openOp hb652 own_s1_openOp ?_
   refine Eval.iinc (L' := [some (.ref 1), some (.int (v1 + (1:Int32))), none]) rfl rfl rfl ?_
   refine Eval.goto (t := 7) rfl rfl ?_
   refine Eval.heap own_mk1 ?_
   exact hrec _ _ h hk
  ·rw [if_neg hc651] at h
   refine Eval.icmpT (t := 25) rfl rfl (flt hc651).2.1 ?_
   cases h
   refine Eval.weak (lw_mk 1 _) ?_
   exact hk
abbrev j_parseOps_l27_K (R : AHeap) (scr : List Int32) (res : Q) (out : Option Value × AHeap) : Prop := Eval own_P 17 101 [none, none, none] [] (W1 scr res R) out

abbrev j_parseOps_l27_N (s res : Q) : Prop := Q.len res = Q.len s
def j_parseOps_b95 (go_ : Q → Int32 → Option (Q)) (s : Q) (v1 : Int32) : Option (Q) := (go_ s (v1 + (1:Int32)))
set_option maxRecDepth 100000 in
theorem ev_j_parseOps_b95 (R : AHeap) (scr : List Int32) (go_ : Q → Int32 → Option (Q)) (hrec : ∀ (s : Q) (v1 : Int32) {res : Q} {out : Option Value × AHeap}, go_ s v1 = some res → j_parseOps_l27_K R scr res out → Eval own_P 17 27 [some (.ref 1), some (.int v1), none] [] (W1 scr s R) out) (s : Q) (v1 : Int32) {res : Q} {out : Option Value × AHeap} (h : j_parseOps_b95 go_ s v1 = some res) (hk : j_parseOps_l27_K R scr res out) : Eval own_P 17 95 [some (.ref 1), some (.int v1), none] [] (W1 scr s R) out := by
 rw [j_parseOps_b95] at h
 refine Eval.iinc (L' := [some (.ref 1), some (.int (v1 + (1:Int32))), none]) rfl rfl rfl ?_
 refine Eval.goto (t := 27) rfl rfl ?_
 exact hrec _ _ h hk
def j_addOp_b42 (s : Q) (v1 v2 : Int32) (v3 w1 w2 : Int32) : Option (Q) := (if inb s.f12.length w1 = true then (if inb s.f10.length v1 = true then (if inb s.f13.length v3 = true then (if inb s.f14.length v3 = true then (if inb s.f15.length v3 = true then (if inb s.f16.length v3 = true then (if inb s.f17.length v3 = true then (if inb s.f19.length v2 = true then some ((Q.mk s.f0 s.f1 s.f2 s.f3 s.f4 s.f5 s.f6 s.f7 s.f8 s.f9 s.f10 s.f11 (wr s.f12 w1 w2) (wr s.f13 v3 (rd s.f10 v1)) (wr s.f14 v3 v1) (wr s.f15 v3 (-1:Int32)) (wr s.f16 v3 (0:Int32)) (wr s.f17 v3 (0:Int32)) s.f18 (wr s.f19 v2 v3) s.f20 s.f21 s.f22 s.f23 s.f24 s.f25 s.f26 s.f27 s.f28 s.f29 s.f30 (s.f31 + (1:Int32)) s.f32)) else none) else none) else none) else none) else none) else none) else none) else none)
set_option maxRecDepth 100000 in
theorem ev_j_addOp_b42 (R : AHeap) (scr : List Int32) (s : Q) (v1 v2 : Int32) (v3 w1 w2 : Int32) {res : Q} {out : Option Value × AHeap} (h : j_addOp_b42 s v1 v2 v3 w1 w2 = some res) (hk : out = (none, (W1 scr res R))) : Eval own_P 24 42 [some (.ref 1), some (.int v1), some (.int v2), some (.int v3)] [.int w2, .int w1, .ref 14] (W1 scr s R) out := by
 rw [j_addOp_b42] at h
 obtain ⟨hb672, h⟩ := ite_some h
 refine Eval.iastore rfl rfl own_a1_opKind hb672 own_s1_opKind ?_
 refine Eval.aload_n rfl rfl ?_
 refine Eval.getfield rfl rfl own_g1_opArg ?_
 refine Eval.iload_n rfl rfl ?_
 refine Eval.aload_n rfl rfl ?_
 refine Eval.getfield rfl rfl own_g1_evVal ?_
 refine Eval.iload_n rfl rfl ?_
 obtain ⟨hb673, h⟩ := ite_some h
 refine Eval.iaload rfl own_a1_evVal hb673 ?_
 obtain ⟨hb674, h⟩ := ite_some h
 refine Eval.iastore rfl rfl own_a1_opArg hb674 own_s1_opArg ?_
 refine Eval.aload_n rfl rfl ?_
 refine Eval.getfield rfl rfl own_g1_opInv ?_
 refine Eval.iload_n rfl rfl ?_
 refine Eval.iload_n rfl rfl ?_
 obtain ⟨hb675, h⟩ := ite_some h
 refine Eval.iastore rfl rfl own_a1_opInv hb675 own_s1_opInv ?_
 refine Eval.aload_n rfl rfl ?_
 refine Eval.getfield rfl rfl own_g1_opRes ?_
 refine Eval.iload_n rfl rfl ?_
 refine Eval.iconst (x := -1) rfl rfl ?_
 obtain ⟨hb676, h⟩ := ite_some h
 refine Eval.iastore rfl rfl own_a1_opRes hb676 own_s1_opRes ?_
 refine Eval.aload_n rfl rfl ?_
 refine Eval.getfield rfl rfl own_g1_opStatus ?_
 refine Eval.iload_n rfl rfl ?_
 refine Eval.iconst (x := 0) rfl rfl ?_
 obtain ⟨hb677, h⟩ := ite_some h
 refine Eval.iastore rfl rfl own_a1_opStatus hb677 own_s1_opStatus ?_
 refine Eval.aload_n rfl rfl ?_
 refine Eval.getfield rfl rfl own_g1_opRVal ?_
 refine Eval.iload_n rfl rfl ?_
 refine Eval.iconst (x := 0) rfl rfl ?_
 obtain ⟨hb678, h⟩ := ite_some h
 refine Eval.iastore rfl rfl own_a1_opRVal hb678 own_s1_opRVal ?_
 refine Eval.aload_n rfl rfl ?_
 refine Eval.getfield rfl rfl own_g1_openOp ?_
 refine Eval.iload_n rfl rfl ?_
 refine Eval.iload_n rfl rfl ?_
 obtain ⟨hb679, h⟩ := ite_some h
 refine Eval.iastore rfl rfl own_a1_openOp hb679 own_s1_openOp ?_
 refine Eval.aload_n rfl rfl ?_
 refine Eval.dupR rfl ?_
 refine Eval.getfield rfl rfl own_g1_opCount ?_
 refine Eval.iconst (x := 1) rfl rfl ?_
 refine Eval.iadd rfl ?_
 refine Eval.putfield rfl rfl own_p1_opCount ?_
 cases h
 subst hk
 exact Eval.retH own_mk1 rfl rfl
def j_addOp (s : Q) (v1 v2 : Int32) : Option (Q) := (if s.f31 < (0:Int32) then some (s) else (if s.f31 < (6:Int32) then (if inb s.f8.length v1 = true then (j_addOp_b42 s v1 v2 s.f31 s.f31 (if (rd s.f8 v1) = (1:Int32) then (1:Int32) else (2:Int32))) else none) else some (s)))
set_option maxRecDepth 100000 in
theorem ev_j_addOp (R : AHeap) (scr : List Int32) (s : Q) (v1 v2 : Int32) {res : Q} {out : Option Value × AHeap} (h : j_addOp s v1 v2 = some res) (hk : out = (none, (W1 scr res R))) : Eval own_P 24 0 [some (.ref 1), some (.int v1), some (.int v2), none] [] (W1 scr s R) out := by
 rw [j_addOp] at h
 refine Eval.aload_n rfl rfl ?_
 refine Eval.getfield rfl rfl own_g1_opCount ?_
 by_cases hc667 : s.f31 < (0:Int32)
 ·rw [if_pos hc667] at h
  refine Eval.ifT (t := 16) rfl rfl (tlt hc667).1 ?_
  cases h
  subst hk
  exact Eval.ret rfl rfl
 ·rw [if_neg hc667] at h
  refine Eval.ifF rfl (flt hc667).1 ?_
  refine Eval.aload_n rfl rfl ?_
  refine Eval.getfield rfl rfl own_g1_opCount ?_
  refine Eval.bipush (x := 6) rfl rfl ?_
  by_cases hc668 : s.f31 < (6:Int32)
  ·rw [if_pos hc668] at h
   refine Eval.icmpT (t := 17) rfl rfl (tlt hc668).1 ?_
   refine Eval.aload_n rfl rfl ?_
   refine Eval.getfield rfl rfl own_g1_opCount ?_
   refine Eval.istore_n (L' := [some (.ref 1), some (.int v1), some (.int v2), some (.int s.f31)]) rfl rfl ?_
   refine Eval.aload_n rfl rfl ?_
   refine Eval.getfield rfl rfl own_g1_opKind ?_
   refine Eval.iload_n rfl rfl ?_
   refine Eval.aload_n rfl rfl ?_
   refine Eval.getfield rfl rfl own_g1_evKind ?_
   refine Eval.iload_n rfl rfl ?_
   obtain ⟨hb669, h⟩ := ite_some h
   refine Eval.iaload rfl own_a1_evKind hb669 ?_
   refine Eval.iconst (x := 1) rfl rfl ?_
   suffices hJ671 : Eval own_P 24 42 [some (.ref 1), some (.int v1), some (.int v2), some (.int s.f31)] [.int (if (rd s.f8 v1) = (1:Int32) then (1:Int32) else (2:Int32)), .int s.f31, .ref 14] (W1 scr s R) out by
    by_cases hc670 : (rd s.f8 v1) = (1:Int32)
    ·refine Eval.icmpF rfl (teq hc670).2 ?_
     refine Eval.iconst (x := 1) rfl rfl ?_
     refine Eval.goto (t := 42) rfl rfl ?_
     exact (Eval.conv hJ671 rfl (by simp only [if_pos hc670]))
    ·refine Eval.icmpT (t := 41) rfl rfl (feq hc670).2 ?_
     refine Eval.iconst (x := 2) rfl rfl ?_
     exact (Eval.conv hJ671 rfl (by simp only [if_neg hc670]))
   exact ev_j_addOp_b42 R scr s v1 v2 s.f31 s.f31 (if (rd s.f8 v1) = (1:Int32) then (1:Int32) else (2:Int32)) h hk
  ·rw [if_neg hc668] at h
   refine Eval.icmpF rfl (flt hc668).1 ?_
   cases h
   subst hk
   exact Eval.ret rfl rfl
def j_parseOps_b80 (go_ : Q → Int32 → Option (Q)) (s : Q) (v1 v2 : Int32) : Option (Q) := ((j_addOp s v1 v2).bind fun p680 => (j_parseOps_b95 (go_) p680 v1))
set_option maxRecDepth 100000 in
theorem ev_j_parseOps_b80 (R : AHeap) (scr : List Int32) (go_ : Q → Int32 → Option (Q)) (hrec : ∀ (s : Q) (v1 : Int32) {res : Q} {out : Option Value × AHeap}, go_ s v1 = some res → j_parseOps_l27_K R scr res out → Eval own_P 17 27 [some (.ref 1), some (.int v1), none] [] (W1 scr s R) out) (s : Q) (v1 v2 : Int32) {res : Q} {out : Option Value × AHeap} (h : j_parseOps_b80 go_ s v1 v2 = some res) (hk : j_parseOps_l27_K R scr res out) : Eval own_P 17 80 [some (.ref 1), some (.int v1), some (.int v2)] [] (W1 scr s R) out := by
 rw [j_parseOps_b80] at h
 refine Eval.aload_n rfl rfl ?_
 refine Eval.iload_n rfl rfl ?_
 refine Eval.iload_n rfl rfl ?_
 obtain ⟨p680, hq681, h⟩ := bind_some h
 refine Eval.callN (rest := []) (H1 := (W1 scr p680 R)) rfl rfl (ev_j_addOp R scr s v1 v2 hq681 rfl) ?_
 refine Eval.goto (t := 95) rfl rfl ?_
 refine Eval.weak (lw_mk 3 _) ?_
 exact ev_j_parseOps_b95 R scr _ hrec p680 v1 h hk
def j_closeOp_b59 (s : Q) (v1 v2 : Int32) (v3 w1 w2 : Int32) : Option (Q) := (if inb s.f16.length w1 = true then (if inb s.f10.length v1 = true then (if inb s.f17.length v3 = true then (if inb s.f19.length v2 = true then some ((Q.mk s.f0 s.f1 s.f2 s.f3 s.f4 s.f5 s.f6 s.f7 s.f8 s.f9 s.f10 s.f11 s.f12 s.f13 s.f14 s.f15 (wr s.f16 w1 w2) (wr s.f17 v3 (rd s.f10 v1)) s.f18 (wr s.f19 v2 (-1:Int32)) s.f20 s.f21 s.f22 s.f23 s.f24 s.f25 s.f26 s.f27 s.f28 s.f29 s.f30 s.f31 s.f32)) else none) else none) else none) else none)
set_option maxRecDepth 100000 in
theorem ev_j_closeOp_b59 (R : AHeap) (scr : List Int32) (s : Q) (v1 v2 : Int32) (v3 w1 w2 : Int32) {res : Q} {out : Option Value × AHeap} (h : j_closeOp_b59 s v1 v2 v3 w1 w2 = some res) (hk : out = (none, (W1 scr res R))) : Eval own_P 32 59 [some (.ref 1), some (.int v1), some (.int v2), some (.int v3), none] [.int w2, .int w1, .ref 18] (W1 scr s R) out := by
 rw [j_closeOp_b59] at h
 obtain ⟨hb694, h⟩ := ite_some h
 refine Eval.iastore rfl rfl own_a1_opStatus hb694 own_s1_opStatus ?_
 refine Eval.aload_n rfl rfl ?_
 refine Eval.getfield rfl rfl own_g1_opRVal ?_
 refine Eval.iload_n rfl rfl ?_
 refine Eval.aload_n rfl rfl ?_
 refine Eval.getfield rfl rfl own_g1_evVal ?_
 refine Eval.iload_n rfl rfl ?_
 obtain ⟨hb695, h⟩ := ite_some h
 refine Eval.iaload rfl own_a1_evVal hb695 ?_
 obtain ⟨hb696, h⟩ := ite_some h
 refine Eval.iastore rfl rfl own_a1_opRVal hb696 own_s1_opRVal ?_
 refine Eval.aload_n rfl rfl ?_
 refine Eval.getfield rfl rfl own_g1_openOp ?_
 refine Eval.iload_n rfl rfl ?_
 refine Eval.iconst (x := -1) rfl rfl ?_
 obtain ⟨hb697, h⟩ := ite_some h
 refine Eval.iastore rfl rfl own_a1_openOp hb697 own_s1_openOp ?_
 cases h
 subst hk
 exact Eval.retH own_mk1 rfl rfl
def j_closeOp (s : Q) (v1 v2 : Int32) : Option (Q) := (if inb s.f19.length v2 = true then (if (rd s.f19 v2) < (0:Int32) then some (s) else (if (rd s.f19 v2) < (6:Int32) then (if inb s.f8.length v1 = true then (if inb s.f15.length (rd s.f19 v2) = true then (j_closeOp_b59 (Q.mk s.f0 s.f1 s.f2 s.f3 s.f4 s.f5 s.f6 s.f7 s.f8 s.f9 s.f10 s.f11 s.f12 s.f13 s.f14 (wr s.f15 (rd s.f19 v2) v1) s.f16 s.f17 s.f18 s.f19 s.f20 s.f21 s.f22 s.f23 s.f24 s.f25 s.f26 s.f27 s.f28 s.f29 s.f30 s.f31 s.f32) v1 v2 (rd s.f19 v2) (rd s.f19 v2) (if (rd s.f8 v1) = (4:Int32) then (2:Int32) else (if (rd s.f8 v1) = (5:Int32) then (3:Int32) else (1:Int32)))) else none) else none) else some (s))) else none)
set_option maxRecDepth 100000 in
theorem ev_j_closeOp (R : AHeap) (scr : List Int32) (s : Q) (v1 v2 : Int32) {res : Q} {out : Option Value × AHeap} (h : j_closeOp s v1 v2 = some res) (hk : out = (none, (W1 scr res R))) : Eval own_P 32 0 [some (.ref 1), some (.int v1), some (.int v2), none, none] [] (W1 scr s R) out := by
 rw [j_closeOp] at h
 refine Eval.aload_n rfl rfl ?_
 refine Eval.getfield rfl rfl own_g1_openOp ?_
 refine Eval.iload_n rfl rfl ?_
 obtain ⟨hb686, h⟩ := ite_some h
 refine Eval.iaload rfl own_a1_openOp hb686 ?_
 refine Eval.istore_n (L' := [some (.ref 1), some (.int v1), some (.int v2), some (.int (rd s.f19 v2)), none]) rfl rfl ?_
 refine Eval.iload_n rfl rfl ?_
 by_cases hc687 : (rd s.f19 v2) < (0:Int32)
 ·rw [if_pos hc687] at h
  refine Eval.ifT (t := 17) rfl rfl (tlt hc687).1 ?_
  cases h
  subst hk
  exact Eval.ret rfl rfl
 ·rw [if_neg hc687] at h
  refine Eval.ifF rfl (flt hc687).1 ?_
  refine Eval.iload_n rfl rfl ?_
  refine Eval.bipush (x := 6) rfl rfl ?_
  by_cases hc688 : (rd s.f19 v2) < (6:Int32)
  ·rw [if_pos hc688] at h
   refine Eval.icmpT (t := 18) rfl rfl (tlt hc688).1 ?_
   refine Eval.aload_n rfl rfl ?_
   refine Eval.getfield rfl rfl own_g1_evKind ?_
   refine Eval.iload_n rfl rfl ?_
   obtain ⟨hb689, h⟩ := ite_some h
   refine Eval.iaload rfl own_a1_evKind hb689 ?_
   refine Eval.istore (L' := [some (.ref 1), some (.int v1), some (.int v2), some (.int (rd s.f19 v2)), some (.int (rd s.f8 v1))]) rfl rfl ?_
   refine Eval.aload_n rfl rfl ?_
   refine Eval.getfield rfl rfl own_g1_opRes ?_
   refine Eval.iload_n rfl rfl ?_
   refine Eval.iload_n rfl rfl ?_
   obtain ⟨hb690, h⟩ := ite_some h
   refine Eval.iastore rfl rfl own_a1_opRes hb690 own_s1_opRes ?_
   refine Eval.aload_n rfl rfl ?_
   refine Eval.getfield rfl rfl own_g1_opStatus ?_
   refine Eval.iload_n rfl rfl ?_
   refine Eval.iload rfl rfl ?_
   refine Eval.iconst (x := 4) rfl rfl ?_
   suffices hJ693 : Eval own_P 32 59 [some (.ref 1), some (.int v1), some (.int v2), some (.int (rd s.f19 v2)), none] [.int (if (rd s.f8 v1) = (4:Int32) then (2:Int32) else (if (rd s.f8 v1) = (5:Int32) then (3:Int32) else (1:Int32))), .int (rd s.f19 v2), .ref 18] (C1 scr s.f0 s.f1 s.f2 s.f3 s.f4 s.f5 s.f6 s.f7 s.f8 s.f9 s.f10 s.f11 s.f12 s.f13 s.f14 (wr s.f15 (rd s.f19 v2) v1) s.f16 s.f17 s.f18 s.f19 s.f20 s.f21 s.f22 s.f23 s.f24 s.f25 s.f26 s.f27 s.f28 s.f29 s.f30 s.f31 s.f32 R) out by
    by_cases hc691 : (rd s.f8 v1) = (4:Int32)
    ·refine Eval.icmpF rfl (teq hc691).2 ?_
     refine Eval.iconst (x := 2) rfl rfl ?_
     refine Eval.goto (t := 59) rfl rfl ?_
     refine Eval.weak (lw_mk 15 _) ?_
     exact (Eval.conv hJ693 rfl (by simp only [if_pos hc691]))
    ·refine Eval.icmpT (t := 48) rfl rfl (feq hc691).2 ?_
     refine Eval.iload rfl rfl ?_
     refine Eval.iconst (x := 5) rfl rfl ?_
     by_cases hc692 : (rd s.f8 v1) = (5:Int32)
     ·refine Eval.icmpF rfl (teq hc692).2 ?_
      refine Eval.iconst (x := 3) rfl rfl ?_
      refine Eval.goto (t := 59) rfl rfl ?_
      refine Eval.weak (lw_mk 15 _) ?_
      exact (Eval.conv hJ693 rfl (by simp only [if_neg hc691, if_pos hc692]))
     ·refine Eval.icmpT (t := 58) rfl rfl (feq hc692).2 ?_
      refine Eval.iconst (x := 1) rfl rfl ?_
      refine Eval.weak (lw_mk 15 _) ?_
      exact (Eval.conv hJ693 rfl (by simp only [if_neg hc691, if_neg hc692]))
   refine Eval.heap own_mk1 ?_
   exact ev_j_closeOp_b59 R scr (Q.mk s.f0 s.f1 s.f2 s.f3 s.f4 s.f5 s.f6 s.f7 s.f8 s.f9 s.f10 s.f11 s.f12 s.f13 s.f14 (wr s.f15 (rd s.f19 v2) v1) s.f16 s.f17 s.f18 s.f19 s.f20 s.f21 s.f22 s.f23 s.f24 s.f25 s.f26 s.f27 s.f28 s.f29 s.f30 s.f31 s.f32) v1 v2 (rd s.f19 v2) (rd s.f19 v2) (if (rd s.f8 v1) = (4:Int32) then (2:Int32) else (if (rd s.f8 v1) = (5:Int32) then (3:Int32) else (1:Int32))) h hk
  ·rw [if_neg hc688] at h
   refine Eval.icmpF rfl (flt hc688).1 ?_
   cases h
   subst hk
   exact Eval.ret rfl rfl
def j_parseOps_l27 : Nat → Q → Int32 → Option (Q)
  | 0, _, _ => none
  | n + 1, s, v1 => (if v1 < (64:Int32) then (if v1 < s.f29 then (if inb s.f9.length v1 = true then (if (rd s.f9 v1) < (0:Int32) then (j_parseOps_b95 (j_parseOps_l27 n) s v1) else (if (3:Int32) < (rd s.f9 v1) then (j_parseOps_b95 (j_parseOps_l27 n) s v1) else (if inb s.f8.length v1 = true then (if (rd s.f8 v1) = (1:Int32) then (j_parseOps_b80 (j_parseOps_l27 n) s v1 (rd s.f9 v1)) else (if inb s.f8.length v1 = true then (if (rd s.f8 v1) = (2:Int32) then (j_parseOps_b80 (j_parseOps_l27 n) s v1 (rd s.f9 v1)) else ((j_closeOp s v1 (rd s.f9 v1)).bind fun p698 => (j_parseOps_b95 (j_parseOps_l27 n) p698 v1))) else none)) else none))) else none) else some (s)) else some (s))
set_option maxRecDepth 100000 in
theorem ev_j_parseOps_l27 (R : AHeap) (scr : List Int32) : ∀ (n : Nat) (s : Q) (v1 : Int32) {res : Q} {out : Option Value × AHeap}, j_parseOps_l27 n s v1 = some res → j_parseOps_l27_K R scr res out → Eval own_P 17 27 [some (.ref 1), some (.int v1), none] [] (W1 scr s R) out := by
 intro n
 induction n with
 | zero => intro _ _ res out h hk; cases h
 | succ n hrec =>
  intro s v1 res out h hk
  rw [j_parseOps_l27] at h
  refine Eval.iload_n rfl rfl ?_
  refine Eval.bipush (x := 64) rfl rfl ?_
  by_cases hc656 : v1 < (64:Int32)
  ·rw [if_pos hc656] at h
   refine Eval.icmpF rfl (tlt hc656).2.1 ?_
   refine Eval.iload_n rfl rfl ?_
   refine Eval.aload_n rfl rfl ?_
   refine Eval.getfield rfl rfl own_g1_histLen ?_
   by_cases hc657 : v1 < s.f29
   ·rw [if_pos hc657] at h
    refine Eval.icmpF rfl (tlt hc657).2.1 ?_
    refine Eval.aload_n rfl rfl ?_
    refine Eval.getfield rfl rfl own_g1_evThread ?_
    refine Eval.iload_n rfl rfl ?_
    obtain ⟨hb658, h⟩ := ite_some h
    refine Eval.iaload rfl own_a1_evThread hb658 ?_
    refine Eval.istore_n (L' := [some (.ref 1), some (.int v1), some (.int (rd s.f9 v1))]) rfl rfl ?_
    refine Eval.iload_n rfl rfl ?_
    by_cases hc661 : (rd s.f9 v1) < (0:Int32)
    ·rw [if_pos hc661] at h
     refine Eval.ifT (t := 95) rfl rfl (tlt hc661).1 ?_
     refine Eval.weak (lw_mk 3 _) ?_
     exact ev_j_parseOps_b95 R scr _ hrec s v1 h hk
    ·rw [if_neg hc661] at h
     refine Eval.ifF rfl (flt hc661).1 ?_
     refine Eval.iload_n rfl rfl ?_
     refine Eval.iconst (x := 3) rfl rfl ?_
     by_cases hc663 : (3:Int32) < (rd s.f9 v1)
     ·rw [if_pos hc663] at h
      refine Eval.icmpF rfl (tlt hc663).2.2.2 ?_
      refine Eval.goto (t := 95) rfl rfl ?_
      refine Eval.weak (lw_mk 3 _) ?_
      exact ev_j_parseOps_b95 R scr _ hrec s v1 h hk
     ·rw [if_neg hc663] at h
      refine Eval.icmpT (t := 60) rfl rfl (flt hc663).2.2.2 ?_
      refine Eval.aload_n rfl rfl ?_
      refine Eval.getfield rfl rfl own_g1_evKind ?_
      refine Eval.iload_n rfl rfl ?_
      obtain ⟨hb664, h⟩ := ite_some h
      refine Eval.iaload rfl own_a1_evKind hb664 ?_
      refine Eval.iconst (x := 1) rfl rfl ?_
      by_cases hc666 : (rd s.f8 v1) = (1:Int32)
      ·rw [if_pos hc666] at h
       refine Eval.icmpT (t := 80) rfl rfl (teq hc666).1 ?_
       exact ev_j_parseOps_b80 R scr _ hrec s v1 (rd s.f9 v1) h hk
      ·rw [if_neg hc666] at h
       refine Eval.icmpF rfl (feq hc666).1 ?_
       refine Eval.aload_n rfl rfl ?_
       refine Eval.getfield rfl rfl own_g1_evKind ?_
       refine Eval.iload_n rfl rfl ?_
       obtain ⟨hb683, h⟩ := ite_some h
       refine Eval.iaload rfl own_a1_evKind hb683 ?_
       refine Eval.iconst (x := 2) rfl rfl ?_
       by_cases hc685 : (rd s.f8 v1) = (2:Int32)
       ·rw [if_pos hc685] at h
        refine Eval.icmpF rfl (teq hc685).2 ?_
        exact ev_j_parseOps_b80 R scr _ hrec s v1 (rd s.f9 v1) h hk
       ·rw [if_neg hc685] at h
        refine Eval.icmpT (t := 89) rfl rfl (feq hc685).2 ?_
        refine Eval.aload_n rfl rfl ?_
        refine Eval.iload_n rfl rfl ?_
        refine Eval.iload_n rfl rfl ?_
        obtain ⟨p698, hq699, h⟩ := bind_some h
        refine Eval.callN (rest := []) (H1 := (W1 scr p698 R)) rfl rfl (ev_j_closeOp R scr s v1 (rd s.f9 v1) hq699 rfl) ?_
        refine Eval.weak (lw_mk 3 _) ?_
        exact ev_j_parseOps_b95 R scr _ hrec p698 v1 h hk
   ·rw [if_neg hc657] at h
    refine Eval.icmpT (t := 101) rfl rfl (flt hc657).2.1 ?_
    cases h
    refine Eval.weak (lw_mk 0 _) ?_
    exact hk
  ·rw [if_neg hc656] at h
   refine Eval.icmpT (t := 101) rfl rfl (flt hc656).2.1 ?_
   cases h
   refine Eval.weak (lw_mk 0 _) ?_
   exact hk
def j_parseOps (s : Q) : Option (Q) := ((j_parseOps_l7 3000 (Q.mk s.f0 s.f1 s.f2 s.f3 s.f4 s.f5 s.f6 s.f7 s.f8 s.f9 s.f10 s.f11 s.f12 s.f13 s.f14 s.f15 s.f16 s.f17 s.f18 s.f19 s.f20 s.f21 s.f22 s.f23 s.f24 s.f25 s.f26 s.f27 s.f28 s.f29 s.f30 (0:Int32) s.f32) (0:Int32)).bind fun p653 => ((j_parseOps_l27 3000 p653 (0:Int32)).bind fun p701 => some (p701)))
set_option maxRecDepth 100000 in
theorem ev_j_parseOps (R : AHeap) (scr : List Int32) (s : Q) {res : Q} {out : Option Value × AHeap} (h : j_parseOps s = some res) (hk : out = (none, (W1 scr res R))) : Eval own_P 17 0 [some (.ref 1), none, none] [] (W1 scr s R) out := by
 rw [j_parseOps] at h
 refine Eval.aload_n rfl rfl ?_
 refine Eval.iconst (x := 0) rfl rfl ?_
 refine Eval.putfield rfl rfl own_p1_opCount ?_
 refine Eval.iconst (x := 0) rfl rfl ?_
 refine Eval.istore_n (L' := [some (.ref 1), some (.int 0), none]) rfl rfl ?_
 refine Eval.heap own_mk1 ?_
 obtain ⟨p653, hq654, h⟩ := bind_some h
 refine ev_j_parseOps_l7 R scr _ (Q.mk s.f0 s.f1 s.f2 s.f3 s.f4 s.f5 s.f6 s.f7 s.f8 s.f9 s.f10 s.f11 s.f12 s.f13 s.f14 s.f15 s.f16 s.f17 s.f18 s.f19 s.f20 s.f21 s.f22 s.f23 s.f24 s.f25 s.f26 s.f27 s.f28 s.f29 s.f30 (0:Int32) s.f32) (0:Int32) hq654 ?_
 show Eval own_P 17 25 [some (.ref 1), none, none] [] (W1 scr p653 R) out
 refine Eval.iconst (x := 0) rfl rfl ?_
 refine Eval.istore_n (L' := [some (.ref 1), some (.int 0), none]) rfl rfl ?_
 obtain ⟨p701, hq702, h⟩ := bind_some h
 refine ev_j_parseOps_l27 R scr _ p653 (0:Int32) hq702 ?_
 show Eval own_P 17 101 [none, none, none] [] (W1 scr p701 R) out
 cases h
 subst hk
 exact Eval.ret rfl rfl
abbrev j_buildPreds_l7_K (R : AHeap) (scr : List Int32) (res : Q) (out : Option Value × AHeap) : Prop := Eval own_P 18 55 [some (.ref 1), none, none] [] (W1 scr res R) out

abbrev j_buildPreds_l7_N (s res : Q) : Prop := Q.len res = Q.len s
def j_buildPreds_b49 (go_ : Q → Int32 → Option (Q)) (s : Q) (v1 : Int32) : Option (Q) := (go_ s (v1 + (1:Int32)))
set_option maxRecDepth 100000 in
theorem ev_j_buildPreds_b49 (R : AHeap) (scr : List Int32) (go_ : Q → Int32 → Option (Q)) (hrec : ∀ (s : Q) (v1 : Int32) {res : Q} {out : Option Value × AHeap}, go_ s v1 = some res → j_buildPreds_l7_K R scr res out → Eval own_P 18 7 [some (.ref 1), some (.int v1), none] [] (W1 scr s R) out) (s : Q) (v1 : Int32) {res : Q} {out : Option Value × AHeap} (h : j_buildPreds_b49 go_ s v1 = some res) (hk : j_buildPreds_l7_K R scr res out) : Eval own_P 18 49 [some (.ref 1), some (.int v1), none] [] (W1 scr s R) out := by
 rw [j_buildPreds_b49] at h
 refine Eval.iinc (L' := [some (.ref 1), some (.int (v1 + (1:Int32))), none]) rfl rfl rfl ?_
 refine Eval.goto (t := 7) rfl rfl ?_
 exact hrec _ _ h hk
def j_buildPreds_l7 : Nat → Q → Int32 → Option (Q)
  | 0, _, _ => none
  | n + 1, s, v1 => (if v1 < (6:Int32) then (if v1 < s.f31 then (if inb s.f18.length v1 = true then (if inb s.f15.length v1 = true then (if (rd s.f15 v1) < (0:Int32) then (j_buildPreds_b49 (j_buildPreds_l7 n) (Q.mk s.f0 s.f1 s.f2 s.f3 s.f4 s.f5 s.f6 s.f7 s.f8 s.f9 s.f10 s.f11 s.f12 s.f13 s.f14 s.f15 s.f16 s.f17 (wr s.f18 v1 (0:Int32)) s.f19 s.f20 s.f21 s.f22 s.f23 s.f24 s.f25 s.f26 s.f27 s.f28 s.f29 s.f30 s.f31 s.f32) v1) else (j_buildPreds_b49 (j_buildPreds_l7 n) (Q.mk s.f0 s.f1 s.f2 s.f3 s.f4 s.f5 s.f6 s.f7 s.f8 s.f9 s.f10 s.f11 s.f12 s.f13 s.f14 s.f15 s.f16 s.f17 (wr s.f18 v1 (0:Int32)) s.f19 s.f20 s.f21 s.f22 s.f23 s.f24 s.f25 s.f26 s.f27 s.f28 s.f29 s.f30 s.f31 (s.f32 ||| (ish (1:Int32) v1))) v1)) else none) else none) else some (s)) else some (s))
set_option maxRecDepth 100000 in
theorem ev_j_buildPreds_l7 (R : AHeap) (scr : List Int32) : ∀ (n : Nat) (s : Q) (v1 : Int32) {res : Q} {out : Option Value × AHeap}, j_buildPreds_l7 n s v1 = some res → j_buildPreds_l7_K R scr res out → Eval own_P 18 7 [some (.ref 1), some (.int v1), none] [] (W1 scr s R) out := by
 intro n
 induction n with
 | zero => intro _ _ res out h hk; cases h
 | succ n hrec =>
  intro s v1 res out h hk
  rw [j_buildPreds_l7] at h
  refine Eval.iload_n rfl rfl ?_
  refine Eval.bipush (x := 6) rfl rfl ?_
  by_cases hc707 : v1 < (6:Int32)
  ·rw [if_pos hc707] at h
   refine Eval.icmpF rfl (tlt hc707).2.1 ?_
   refine Eval.iload_n rfl rfl ?_
   refine Eval.aload_n rfl rfl ?_
   refine Eval.getfield rfl rfl own_g1_opCount ?_
   by_cases hc708 : v1 < s.f31
   ·rw [if_pos hc708] at h
    refine Eval.icmpF rfl (tlt hc708).2.1 ?_
    refine Eval.aload_n rfl rfl ?_
    refine Eval.getfield rfl rfl own_g1_predMask ?_
    refine Eval.iload_n rfl rfl ?_
    refine Eval.iconst (x := 0) rfl rfl ?_
    obtain ⟨hb709, h⟩ := ite_some h
    refine Eval.iastore rfl rfl own_a1_predMask hb709 own_s1_predMask ?_
    refine Eval.aload_n rfl rfl ?_
    refine Eval.getfield rfl rfl own_g1_opRes ?_
    refine Eval.iload_n rfl rfl ?_
    obtain ⟨hb710, h⟩ := ite_some h
    refine Eval.iaload rfl own_a1_opRes hb710 ?_
    by_cases hc712 : (rd s.f15 v1) < (0:Int32)
    ·rw [if_pos hc712] at h
     refine Eval.ifT (t := 49) rfl rfl (tlt hc712).1 ?_
     refine Eval.heap own_mk1 ?_
     exact ev_j_buildPreds_b49 R scr _ hrec (Q.mk s.f0 s.f1 s.f2 s.f3 s.f4 s.f5 s.f6 s.f7 s.f8 s.f9 s.f10 s.f11 s.f12 s.f13 s.f14 s.f15 s.f16 s.f17 (wr s.f18 v1 (0:Int32)) s.f19 s.f20 s.f21 s.f22 s.f23 s.f24 s.f25 s.f26 s.f27 s.f28 s.f29 s.f30 s.f31 s.f32) v1 h hk
    ·rw [if_neg hc712] at h
     refine Eval.ifF rfl (flt hc712).1 ?_
     refine Eval.aload_n rfl rfl ?_
     refine Eval.dupR rfl ?_
     refine Eval.getfield rfl rfl own_g1_completeMask ?_
     refine Eval.iconst (x := 1) rfl rfl ?_
     refine Eval.iload_n rfl rfl ?_
     refine Eval.ishl rfl ?_
     refine Eval.ior rfl ?_
     refine Eval.putfield rfl rfl own_p1_completeMask ?_
     refine Eval.heap own_mk1 ?_
     exact ev_j_buildPreds_b49 R scr _ hrec (Q.mk s.f0 s.f1 s.f2 s.f3 s.f4 s.f5 s.f6 s.f7 s.f8 s.f9 s.f10 s.f11 s.f12 s.f13 s.f14 s.f15 s.f16 s.f17 (wr s.f18 v1 (0:Int32)) s.f19 s.f20 s.f21 s.f22 s.f23 s.f24 s.f25 s.f26 s.f27 s.f28 s.f29 s.f30 s.f31 (s.f32 ||| (ish (1:Int32) v1))) v1 h hk
   ·rw [if_neg hc708] at h
    refine Eval.icmpT (t := 55) rfl rfl (flt hc708).2.1 ?_
    cases h
    refine Eval.weak (lw_mk 1 _) ?_
    exact hk
  ·rw [if_neg hc707] at h
   refine Eval.icmpT (t := 55) rfl rfl (flt hc707).2.1 ?_
   cases h
   refine Eval.weak (lw_mk 1 _) ?_
   exact hk
abbrev j_buildPreds_l57_K (R : AHeap) (scr : List Int32) (res : Q) (out : Option Value × AHeap) : Prop := Eval own_P 18 140 [none, none, none] [] (W1 scr res R) out

abbrev j_buildPreds_l57_N (s res : Q) : Prop := Q.len res = Q.len s
abbrev j_buildPreds_l73_K (R : AHeap) (scr : List Int32) (res : Int32 × Q) (out : Option Value × AHeap) : Prop := Eval own_P 18 134 [some (.ref 1), some (.int res.1), none] [] (W1 scr res.2 R) out

abbrev j_buildPreds_l73_N (s : Q) (res : Int32 × Q) : Prop := Q.len res.2 = Q.len s
def j_buildPreds_b128 (go_ : Q → Int32 → Int32 → Option (Int32 × Q)) (s : Q) (v1 v2 : Int32) : Option (Int32 × Q) := (go_ s v1 (v2 + (1:Int32)))
set_option maxRecDepth 100000 in
theorem ev_j_buildPreds_b128 (R : AHeap) (scr : List Int32) (go_ : Q → Int32 → Int32 → Option (Int32 × Q)) (hrec : ∀ (s : Q) (v1 v2 : Int32) {res : Int32 × Q} {out : Option Value × AHeap}, go_ s v1 v2 = some res → j_buildPreds_l73_K R scr res out → Eval own_P 18 73 [some (.ref 1), some (.int v1), some (.int v2)] [] (W1 scr s R) out) (s : Q) (v1 v2 : Int32) {res : Int32 × Q} {out : Option Value × AHeap} (h : j_buildPreds_b128 go_ s v1 v2 = some res) (hk : j_buildPreds_l73_K R scr res out) : Eval own_P 18 128 [some (.ref 1), some (.int v1), some (.int v2)] [] (W1 scr s R) out := by
 rw [j_buildPreds_b128] at h
 refine Eval.iinc (L' := [some (.ref 1), some (.int v1), some (.int (v2 + (1:Int32)))]) rfl rfl rfl ?_
 refine Eval.goto (t := 73) rfl rfl ?_
 exact hrec _ _ _ h hk
def j_buildPreds_l73 : Nat → Q → Int32 → Int32 → Option (Int32 × Q)
  | 0, _, _, _ => none
  | n + 1, s, v1, v2 => (if v2 < (6:Int32) then (if v2 < s.f31 then (if v2 = v1 then (j_buildPreds_b128 (j_buildPreds_l73 n) s v1 v2) else (if inb s.f15.length v2 = true then (if (rd s.f15 v2) < (0:Int32) then (j_buildPreds_b128 (j_buildPreds_l73 n) s v1 v2) else (if inb s.f15.length v2 = true then (if inb s.f14.length v1 = true then (if (rd s.f15 v2) < (rd s.f14 v1) then (if inb s.f18.length v1 = true then (if inb s.f18.length v1 = true then (j_buildPreds_b128 (j_buildPreds_l73 n) (Q.mk s.f0 s.f1 s.f2 s.f3 s.f4 s.f5 s.f6 s.f7 s.f8 s.f9 s.f10 s.f11 s.f12 s.f13 s.f14 s.f15 s.f16 s.f17 (wr s.f18 v1 ((rd s.f18 v1) ||| (ish (1:Int32) v2))) s.f19 s.f20 s.f21 s.f22 s.f23 s.f24 s.f25 s.f26 s.f27 s.f28 s.f29 s.f30 s.f31 s.f32) v1 v2) else none) else none) else (j_buildPreds_b128 (j_buildPreds_l73 n) s v1 v2)) else none) else none)) else none)) else some (v1, s)) else some (v1, s))
set_option maxRecDepth 100000 in
theorem ev_j_buildPreds_l73 (R : AHeap) (scr : List Int32) : ∀ (n : Nat) (s : Q) (v1 v2 : Int32) {res : Int32 × Q} {out : Option Value × AHeap}, j_buildPreds_l73 n s v1 v2 = some res → j_buildPreds_l73_K R scr res out → Eval own_P 18 73 [some (.ref 1), some (.int v1), some (.int v2)] [] (W1 scr s R) out := by
 intro n
 induction n with
 | zero => intro _ _ _ res out h hk; cases h
 | succ n hrec =>
  intro s v1 v2 res out h hk
  rw [j_buildPreds_l73] at h
  refine Eval.iload_n rfl rfl ?_
  refine Eval.bipush (x := 6) rfl rfl ?_
  by_cases hc718 : v2 < (6:Int32)
  ·rw [if_pos hc718] at h
   refine Eval.icmpF rfl (tlt hc718).2.1 ?_
   refine Eval.iload_n rfl rfl ?_
   refine Eval.aload_n rfl rfl ?_
   refine Eval.getfield rfl rfl own_g1_opCount ?_
   by_cases hc719 : v2 < s.f31
   ·rw [if_pos hc719] at h
    refine Eval.icmpF rfl (tlt hc719).2.1 ?_
    refine Eval.iload_n rfl rfl ?_
    refine Eval.iload_n rfl rfl ?_
    by_cases hc721 : v2 = v1
    ·rw [if_pos hc721] at h
     refine Eval.icmpT (t := 128) rfl rfl (teq hc721).1 ?_
     exact ev_j_buildPreds_b128 R scr _ hrec s v1 v2 h hk
    ·rw [if_neg hc721] at h
     refine Eval.icmpF rfl (feq hc721).1 ?_
     refine Eval.aload_n rfl rfl ?_
     refine Eval.getfield rfl rfl own_g1_opRes ?_
     refine Eval.iload_n rfl rfl ?_
     obtain ⟨hb722, h⟩ := ite_some h
     refine Eval.iaload rfl own_a1_opRes hb722 ?_
     by_cases hc724 : (rd s.f15 v2) < (0:Int32)
     ·rw [if_pos hc724] at h
      refine Eval.ifT (t := 128) rfl rfl (tlt hc724).1 ?_
      exact ev_j_buildPreds_b128 R scr _ hrec s v1 v2 h hk
     ·rw [if_neg hc724] at h
      refine Eval.ifF rfl (flt hc724).1 ?_
      refine Eval.aload_n rfl rfl ?_
      refine Eval.getfield rfl rfl own_g1_opRes ?_
      refine Eval.iload_n rfl rfl ?_
      obtain ⟨hb725, h⟩ := ite_some h
      refine Eval.iaload rfl own_a1_opRes hb725 ?_
      refine Eval.aload_n rfl rfl ?_
      refine Eval.getfield rfl rfl own_g1_opInv ?_
      refine Eval.iload_n rfl rfl ?_
      obtain ⟨hb726, h⟩ := ite_some h
      refine Eval.iaload rfl own_a1_opInv hb726 ?_
      by_cases hc728 : (rd s.f15 v2) < (rd s.f14 v1)
      ·rw [if_pos hc728] at h
       refine Eval.icmpF rfl (tlt hc728).2.1 ?_
       refine Eval.aload_n rfl rfl ?_
       refine Eval.getfield rfl rfl own_g1_predMask ?_
       refine Eval.iload_n rfl rfl ?_
       refine Eval.dup2 rfl ?_
       obtain ⟨hb729, h⟩ := ite_some h
       refine Eval.iaload rfl own_a1_predMask hb729 ?_
       refine Eval.iconst (x := 1) rfl rfl ?_
       refine Eval.iload_n rfl rfl ?_
       refine Eval.ishl rfl ?_
       refine Eval.ior rfl ?_
       obtain ⟨hb730, h⟩ := ite_some h
       refine Eval.iastore rfl rfl own_a1_predMask hb730 own_s1_predMask ?_
       refine Eval.heap own_mk1 ?_
       exact ev_j_buildPreds_b128 R scr _ hrec (Q.mk s.f0 s.f1 s.f2 s.f3 s.f4 s.f5 s.f6 s.f7 s.f8 s.f9 s.f10 s.f11 s.f12 s.f13 s.f14 s.f15 s.f16 s.f17 (wr s.f18 v1 ((rd s.f18 v1) ||| (ish (1:Int32) v2))) s.f19 s.f20 s.f21 s.f22 s.f23 s.f24 s.f25 s.f26 s.f27 s.f28 s.f29 s.f30 s.f31 s.f32) v1 v2 h hk
      ·rw [if_neg hc728] at h
       refine Eval.icmpT (t := 128) rfl rfl (flt hc728).2.1 ?_
       exact ev_j_buildPreds_b128 R scr _ hrec s v1 v2 h hk
   ·rw [if_neg hc719] at h
    refine Eval.icmpT (t := 134) rfl rfl (flt hc719).2.1 ?_
    cases h
    refine Eval.weak (lw_mk 3 _) ?_
    exact hk
  ·rw [if_neg hc718] at h
   refine Eval.icmpT (t := 134) rfl rfl (flt hc718).2.1 ?_
   cases h
   refine Eval.weak (lw_mk 3 _) ?_
   exact hk
def j_buildPreds_l57 : Nat → Q → Int32 → Option (Q)
  | 0, _, _ => none
  | n + 1, s, v1 => (if v1 < (6:Int32) then (if v1 < s.f31 then ((j_buildPreds_l73 3000 s v1 (0:Int32)).bind fun p731 => (j_buildPreds_l57 n p731.2 (p731.1 + (1:Int32)))) else some (s)) else some (s))
set_option maxRecDepth 100000 in
theorem ev_j_buildPreds_l57 (R : AHeap) (scr : List Int32) : ∀ (n : Nat) (s : Q) (v1 : Int32) {res : Q} {out : Option Value × AHeap}, j_buildPreds_l57 n s v1 = some res → j_buildPreds_l57_K R scr res out → Eval own_P 18 57 [some (.ref 1), some (.int v1), none] [] (W1 scr s R) out := by
 intro n
 induction n with
 | zero => intro _ _ res out h hk; cases h
 | succ n hrec =>
  intro s v1 res out h hk
  rw [j_buildPreds_l57] at h
  refine Eval.iload_n rfl rfl ?_
  refine Eval.bipush (x := 6) rfl rfl ?_
  by_cases hc716 : v1 < (6:Int32)
  ·rw [if_pos hc716] at h
   refine Eval.icmpF rfl (tlt hc716).2.1 ?_
   refine Eval.iload_n rfl rfl ?_
   refine Eval.aload_n rfl rfl ?_
   refine Eval.getfield rfl rfl own_g1_opCount ?_
   by_cases hc717 : v1 < s.f31
   ·rw [if_pos hc717] at h
    refine Eval.icmpF rfl (tlt hc717).2.1 ?_
    refine Eval.iconst (x := 0) rfl rfl ?_
    refine Eval.istore_n (L' := [some (.ref 1), some (.int v1), some (.int 0)]) rfl rfl ?_
    obtain ⟨p731, hq732, h⟩ := bind_some h
    refine ev_j_buildPreds_l73 R scr _ s v1 (0:Int32) hq732 ?_
    show Eval own_P 18 134 [some (.ref 1), some (.int p731.1), none] [] (W1 scr p731.2 R) out
    refine Eval.iinc (L' := [some (.ref 1), some (.int (p731.1 + (1:Int32))), none]) rfl rfl rfl ?_
    refine Eval.goto (t := 57) rfl rfl ?_
    exact hrec _ _ h hk
   ·rw [if_neg hc717] at h
    refine Eval.icmpT (t := 140) rfl rfl (flt hc717).2.1 ?_
    cases h
    refine Eval.weak (lw_mk 0 _) ?_
    exact hk
  ·rw [if_neg hc716] at h
   refine Eval.icmpT (t := 140) rfl rfl (flt hc716).2.1 ?_
   cases h
   refine Eval.weak (lw_mk 0 _) ?_
   exact hk
def j_buildPreds (s : Q) : Option (Q) := ((j_buildPreds_l7 3000 (Q.mk s.f0 s.f1 s.f2 s.f3 s.f4 s.f5 s.f6 s.f7 s.f8 s.f9 s.f10 s.f11 s.f12 s.f13 s.f14 s.f15 s.f16 s.f17 s.f18 s.f19 s.f20 s.f21 s.f22 s.f23 s.f24 s.f25 s.f26 s.f27 s.f28 s.f29 s.f30 s.f31 (0:Int32)) (0:Int32)).bind fun p713 => ((j_buildPreds_l57 3000 p713 (0:Int32)).bind fun p734 => some (p734)))
set_option maxRecDepth 100000 in
theorem ev_j_buildPreds (R : AHeap) (scr : List Int32) (s : Q) {res : Q} {out : Option Value × AHeap} (h : j_buildPreds s = some res) (hk : out = (none, (W1 scr res R))) : Eval own_P 18 0 [some (.ref 1), none, none] [] (W1 scr s R) out := by
 rw [j_buildPreds] at h
 refine Eval.aload_n rfl rfl ?_
 refine Eval.iconst (x := 0) rfl rfl ?_
 refine Eval.putfield rfl rfl own_p1_completeMask ?_
 refine Eval.iconst (x := 0) rfl rfl ?_
 refine Eval.istore_n (L' := [some (.ref 1), some (.int 0), none]) rfl rfl ?_
 refine Eval.heap own_mk1 ?_
 obtain ⟨p713, hq714, h⟩ := bind_some h
 refine ev_j_buildPreds_l7 R scr _ (Q.mk s.f0 s.f1 s.f2 s.f3 s.f4 s.f5 s.f6 s.f7 s.f8 s.f9 s.f10 s.f11 s.f12 s.f13 s.f14 s.f15 s.f16 s.f17 s.f18 s.f19 s.f20 s.f21 s.f22 s.f23 s.f24 s.f25 s.f26 s.f27 s.f28 s.f29 s.f30 s.f31 (0:Int32)) (0:Int32) hq714 ?_
 show Eval own_P 18 55 [some (.ref 1), none, none] [] (W1 scr p713 R) out
 refine Eval.iconst (x := 0) rfl rfl ?_
 refine Eval.istore_n (L' := [some (.ref 1), some (.int 0), none]) rfl rfl ?_
 obtain ⟨p734, hq735, h⟩ := bind_some h
 refine ev_j_buildPreds_l57 R scr _ p713 (0:Int32) hq735 ?_
 show Eval own_P 18 140 [none, none, none] [] (W1 scr p734 R) out
 cases h
 subst hk
 exact Eval.ret rfl rfl
abbrev j_search_l21_K (R : AHeap) (scr : List Int32) (res : Q) (out : Option Value × AHeap) : Prop := Eval own_P 19 53 [some (.ref 1), none, none, none, none] [] (W1 scr res R) out

abbrev j_search_l21_N (s res : Q) : Prop := Q.len res = Q.len s
def j_search_l21 : Nat → Q → Int32 → Option (Q)
  | 0, _, _ => none
  | n + 1, s, v1 => (if v1 < (8:Int32) then (if v1 < s.f30 then (if inb s.f11.length v1 = true then (if inb s.f20.length v1 = true then (j_search_l21 n (Q.mk s.f0 s.f1 s.f2 s.f3 s.f4 s.f5 s.f6 s.f7 s.f8 s.f9 s.f10 s.f11 s.f12 s.f13 s.f14 s.f15 s.f16 s.f17 s.f18 s.f19 (wr s.f20 v1 (rd s.f11 v1)) s.f21 s.f22 s.f23 s.f24 s.f25 s.f26 s.f27 s.f28 s.f29 s.f30 s.f31 s.f32) (v1 + (1:Int32))) else none) else none) else some (s)) else some (s))
set_option maxRecDepth 100000 in
theorem ev_j_search_l21 (R : AHeap) (scr : List Int32) : ∀ (n : Nat) (s : Q) (v1 : Int32) {res : Q} {out : Option Value × AHeap}, j_search_l21 n s v1 = some res → j_search_l21_K R scr res out → Eval own_P 19 21 [some (.ref 1), some (.int v1), none, none, none] [] (W1 scr s R) out := by
 intro n
 induction n with
 | zero => intro _ _ res out h hk; cases h
 | succ n hrec =>
  intro s v1 res out h hk
  rw [j_search_l21] at h
  refine Eval.iload_n rfl rfl ?_
  refine Eval.bipush (x := 8) rfl rfl ?_
  by_cases hc742 : v1 < (8:Int32)
  ·rw [if_pos hc742] at h
   refine Eval.icmpF rfl (tlt hc742).2.1 ?_
   refine Eval.iload_n rfl rfl ?_
   refine Eval.aload_n rfl rfl ?_
   refine Eval.getfield rfl rfl own_g1_snapLen ?_
   by_cases hc743 : v1 < s.f30
   ·rw [if_pos hc743] at h
    refine Eval.icmpF rfl (tlt hc743).2.1 ?_
    refine Eval.aload_n rfl rfl ?_
    refine Eval.getfield rfl rfl own_g1_qBuf ?_
    refine Eval.iload_n rfl rfl ?_
    refine Eval.aload_n rfl rfl ?_
    refine Eval.getfield rfl rfl own_g1_snap ?_
    refine Eval.iload_n rfl rfl ?_
    obtain ⟨hb744, h⟩ := ite_some h
    refine Eval.iaload rfl own_a1_snap hb744 ?_
    obtain ⟨hb745, h⟩ := ite_some h
    refine Eval.iastore rfl rfl own_a1_qBuf hb745 own_s1_qBuf ?_
    refine Eval.iinc (L' := [some (.ref 1), some (.int (v1 + (1:Int32))), none, none, none]) rfl rfl rfl ?_
    refine Eval.goto (t := 21) rfl rfl ?_
    refine Eval.heap own_mk1 ?_
    exact hrec _ _ h hk
   ·rw [if_neg hc743] at h
    refine Eval.icmpT (t := 53) rfl rfl (flt hc743).2.1 ?_
    cases h
    refine Eval.weak (lw_mk 1 _) ?_
    exact hk
  ·rw [if_neg hc742] at h
   refine Eval.icmpT (t := 53) rfl rfl (flt hc742).2.1 ?_
   cases h
   refine Eval.weak (lw_mk 1 _) ?_
   exact hk
abbrev j_search_l66_K (R : AHeap) (scr : List Int32) (res : (Q) ⊕ ((Q) ⊕ (Q))) (out : Option Value × AHeap) : Prop := Sum.elim (fun res => Eval own_P 19 100 [none, none, none, none, none] [] (W1 scr res R) out) (fun res => Sum.elim (fun res => Eval own_P 19 213 [none, none, none, none, none] [] (W1 scr res R) out) (fun res => Eval own_P 19 221 [none, none, none, none, none] [] (W1 scr res R) out) res) res

abbrev j_search_l66_N (s : Q) (res : (Q) ⊕ ((Q) ⊕ (Q))) : Prop := Sum.elim (fun res => Q.len res = Q.len s) (fun res => Sum.elim (fun res => Q.len res = Q.len s) (fun res => Q.len res = Q.len s) res) res
abbrev j_copyQueue_l25_K (R : AHeap) (scr : List Int32) (res : (Int32 × Int32 × Q) ⊕ (Int32 × Int32 × Q)) (out : Option Value × AHeap) : Prop := Sum.elim (fun res => Eval own_P 35 39 [some (.ref 1), some (.int res.1), none, none, none, none, some (.int res.2.1), none] [] (W1 scr res.2.2 R) out) (fun res => Eval own_P 35 70 [some (.ref 1), some (.int res.1), none, none, none, none, some (.int res.2.1), none] [] (W1 scr res.2.2 R) out) res

abbrev j_copyQueue_l25_N (s : Q) (res : (Int32 × Int32 × Q) ⊕ (Int32 × Int32 × Q)) : Prop := Sum.elim (fun res => Q.len res.2.2 = Q.len s) (fun res => Q.len res.2.2 = Q.len s) res
def j_copyQueue_l25 : Nat → Q → Int32 → Int32 → Int32 → Int32 → Int32 → Int32 → Option ((Int32 × Int32 × Q) ⊕ (Int32 × Int32 × Q))
  | 0, _, _, _, _, _, _, _ => none
  | n + 1, s, v1, v3, v4, v5, v6, v7 => (if v7 < (8:Int32) then (if v7 < v5 then (if inb s.f20.length (v3 + v7) = true then (if inb s.f20.length (v4 + v6) = true then (j_copyQueue_l25 n (Q.mk s.f0 s.f1 s.f2 s.f3 s.f4 s.f5 s.f6 s.f7 s.f8 s.f9 s.f10 s.f11 s.f12 s.f13 s.f14 s.f15 s.f16 s.f17 s.f18 s.f19 (wr s.f20 (v4 + v6) (rd s.f20 (v3 + v7))) s.f21 s.f22 s.f23 s.f24 s.f25 s.f26 s.f27 s.f28 s.f29 s.f30 s.f31 s.f32) v1 v3 v4 v5 (v6 + (1:Int32)) (v7 + (1:Int32))) else none) else none) else some (.inl (v1, v6, s))) else some (.inr (v1, v6, s)))
set_option maxRecDepth 100000 in
theorem ev_j_copyQueue_l25 (R : AHeap) (scr : List Int32) : ∀ (n : Nat) (s : Q) (v1 v3 : Int32) (v4 v5 : Int32) (v6 v7 : Int32) {res : (Int32 × Int32 × Q) ⊕ (Int32 × Int32 × Q)} {out : Option Value × AHeap}, j_copyQueue_l25 n s v1 v3 v4 v5 v6 v7 = some res → j_copyQueue_l25_K R scr res out → Eval own_P 35 25 [some (.ref 1), some (.int v1), none, some (.int v3), some (.int v4), some (.int v5), some (.int v6), some (.int v7)] [] (W1 scr s R) out := by
 intro n
 induction n with
 | zero => intro _ _ _ _ _ _ _ res out h hk; cases h
 | succ n hrec =>
  intro s v1 v3 v4 v5 v6 v7 res out h hk
  rw [j_copyQueue_l25] at h
  refine Eval.iload rfl rfl ?_
  refine Eval.bipush (x := 8) rfl rfl ?_
  by_cases hc771 : v7 < (8:Int32)
  ·rw [if_pos hc771] at h
   refine Eval.icmpF rfl (tlt hc771).2.1 ?_
   refine Eval.iload rfl rfl ?_
   refine Eval.iload rfl rfl ?_
   by_cases hc772 : v7 < v5
   ·rw [if_pos hc772] at h
    refine Eval.icmpT (t := 42) rfl rfl (tlt hc772).1 ?_
    refine Eval.aload_n rfl rfl ?_
    refine Eval.getfield rfl rfl own_g1_qBuf ?_
    refine Eval.iload rfl rfl ?_
    refine Eval.iload rfl rfl ?_
    refine Eval.iadd rfl ?_
    refine Eval.aload_n rfl rfl ?_
    refine Eval.getfield rfl rfl own_g1_qBuf ?_
    refine Eval.iload_n rfl rfl ?_
    refine Eval.iload rfl rfl ?_
    refine Eval.iadd rfl ?_
    obtain ⟨hb773, h⟩ := ite_some h
    refine Eval.iaload rfl own_a1_qBuf hb773 ?_
    obtain ⟨hb774, h⟩ := ite_some h
    refine Eval.iastore rfl rfl own_a1_qBuf hb774 own_s1_qBuf ?_
    refine Eval.iinc (L' := [some (.ref 1), some (.int v1), none, some (.int v3), some (.int v4), some (.int v5), some (.int (v6 + (1:Int32))), some (.int v7)]) rfl rfl rfl ?_
    refine Eval.iinc (L' := [some (.ref 1), some (.int v1), none, some (.int v3), some (.int v4), some (.int v5), some (.int (v6 + (1:Int32))), some (.int (v7 + (1:Int32)))]) rfl rfl rfl ?_
    refine Eval.goto (t := 25) rfl rfl ?_
    refine Eval.heap own_mk1 ?_
    exact hrec _ _ _ _ _ _ _ h hk
   ·rw [if_neg hc772] at h
    refine Eval.icmpF rfl (flt hc772).1 ?_
    cases h
    refine Eval.weak (lw_mk 67 _) ?_
    exact hk
  ·rw [if_neg hc771] at h
   refine Eval.icmpT (t := 70) rfl rfl (flt hc771).2.1 ?_
   cases h
   refine Eval.weak (lw_mk 67 _) ?_
   exact hk
def j_copyQueue_b70 (s : Q) (v1 v6 : Int32) : Option (Q) := (if inb s.f21.length (v1 + (1:Int32)) = true then some ((Q.mk s.f0 s.f1 s.f2 s.f3 s.f4 s.f5 s.f6 s.f7 s.f8 s.f9 s.f10 s.f11 s.f12 s.f13 s.f14 s.f15 s.f16 s.f17 s.f18 s.f19 s.f20 (wr s.f21 (v1 + (1:Int32)) v6) s.f22 s.f23 s.f24 s.f25 s.f26 s.f27 s.f28 s.f29 s.f30 s.f31 s.f32)) else none)
set_option maxRecDepth 100000 in
theorem ev_j_copyQueue_b70 (R : AHeap) (scr : List Int32) (s : Q) (v1 v6 : Int32) {res : Q} {out : Option Value × AHeap} (h : j_copyQueue_b70 s v1 v6 = some res) (hk : out = (none, (W1 scr res R))) : Eval own_P 35 70 [some (.ref 1), some (.int v1), none, none, none, none, some (.int v6), none] [] (W1 scr s R) out := by
 rw [j_copyQueue_b70] at h
 refine Eval.aload_n rfl rfl ?_
 refine Eval.getfield rfl rfl own_g1_qLen ?_
 refine Eval.iload_n rfl rfl ?_
 refine Eval.iconst (x := 1) rfl rfl ?_
 refine Eval.iadd rfl ?_
 refine Eval.iload rfl rfl ?_
 obtain ⟨hb780, h⟩ := ite_some h
 refine Eval.iastore rfl rfl own_a1_qLen hb780 own_s1_qLen ?_
 cases h
 subst hk
 exact Eval.retH own_mk1 rfl rfl
def j_copyQueue (s : Q) (v1 v2 : Int32) : Option (Q) := (if inb s.f21.length v1 = true then ((j_copyQueue_l25 3000 s v1 (v1 * (8:Int32)) ((v1 * (8:Int32)) + (8:Int32)) (rd s.f21 v1) (0:Int32) v2).bind fun p775 => Sum.elim (fun p777 => (j_copyQueue_b70 p777.2.2 p777.1 p777.2.1)) (fun p778 => (j_copyQueue_b70 p778.2.2 p778.1 p778.2.1)) p775) else none)
set_option maxRecDepth 100000 in
theorem ev_j_copyQueue (R : AHeap) (scr : List Int32) (s : Q) (v1 v2 : Int32) {res : Q} {out : Option Value × AHeap} (h : j_copyQueue s v1 v2 = some res) (hk : out = (none, (W1 scr res R))) : Eval own_P 35 0 [some (.ref 1), some (.int v1), some (.int v2), none, none, none, none, none] [] (W1 scr s R) out := by
 rw [j_copyQueue] at h
 refine Eval.iload_n rfl rfl ?_
 refine Eval.bipush (x := 8) rfl rfl ?_
 refine Eval.imul rfl ?_
 refine Eval.istore_n (L' := [some (.ref 1), some (.int v1), some (.int v2), some (.int (v1 * (8:Int32))), none, none, none, none]) rfl rfl ?_
 refine Eval.iload_n rfl rfl ?_
 refine Eval.bipush (x := 8) rfl rfl ?_
 refine Eval.iadd rfl ?_
 refine Eval.istore (L' := [some (.ref 1), some (.int v1), some (.int v2), some (.int (v1 * (8:Int32))), some (.int ((v1 * (8:Int32)) + (8:Int32))), none, none, none]) rfl rfl ?_
 refine Eval.aload_n rfl rfl ?_
 refine Eval.getfield rfl rfl own_g1_qLen ?_
 refine Eval.iload_n rfl rfl ?_
 obtain ⟨hb770, h⟩ := ite_some h
 refine Eval.iaload rfl own_a1_qLen hb770 ?_
 refine Eval.istore (L' := [some (.ref 1), some (.int v1), some (.int v2), some (.int (v1 * (8:Int32))), some (.int ((v1 * (8:Int32)) + (8:Int32))), some (.int (rd s.f21 v1)), none, none]) rfl rfl ?_
 refine Eval.iconst (x := 0) rfl rfl ?_
 refine Eval.istore (L' := [some (.ref 1), some (.int v1), some (.int v2), some (.int (v1 * (8:Int32))), some (.int ((v1 * (8:Int32)) + (8:Int32))), some (.int (rd s.f21 v1)), some (.int 0), none]) rfl rfl ?_
 refine Eval.iload_n rfl rfl ?_
 refine Eval.istore (L' := [some (.ref 1), some (.int v1), some (.int v2), some (.int (v1 * (8:Int32))), some (.int ((v1 * (8:Int32)) + (8:Int32))), some (.int (rd s.f21 v1)), some (.int 0), some (.int v2)]) rfl rfl ?_
 refine Eval.weak (lw_mk 251 _) ?_
 obtain ⟨p775, hq776, h⟩ := bind_some h
 rcases p775 with p777 | p778
 ·dsimp only [Sum.elim] at h
  refine ev_j_copyQueue_l25 R scr _ s v1 (v1 * (8:Int32)) ((v1 * (8:Int32)) + (8:Int32)) (rd s.f21 v1) (0:Int32) v2 hq776 ?_
  show Eval own_P 35 39 [some (.ref 1), some (.int p777.1), none, none, none, none, some (.int p777.2.1), none] [] (W1 scr p777.2.2 R) out
  refine Eval.goto (t := 70) rfl rfl ?_
  exact ev_j_copyQueue_b70 R scr p777.2.2 p777.1 p777.2.1 h hk
 ·dsimp only [Sum.elim] at h
  refine ev_j_copyQueue_l25 R scr _ s v1 (v1 * (8:Int32)) ((v1 * (8:Int32)) + (8:Int32)) (rd s.f21 v1) (0:Int32) v2 hq776 ?_
  show Eval own_P 35 70 [some (.ref 1), some (.int p778.1), none, none, none, none, some (.int p778.2.1), none] [] (W1 scr p778.2.2 R) out
  exact ev_j_copyQueue_b70 R scr p778.2.2 p778.1 p778.2.1 h hk
def j_applyEnq_b44 (s : Q) (v1 v2 v4 : Int32) : Option (Int32 × Q) := ((j_copyQueue s v2 (0:Int32)).bind fun p782 => (if v4 = (1:Int32) then (if inb p782.f21.length (v2 + (1:Int32)) = true then (if (rd p782.f21 (v2 + (1:Int32))) < (0:Int32) then some ((1:Int32), p782) else (if (rd p782.f21 (v2 + (1:Int32))) < (8:Int32) then (if inb p782.f13.length v1 = true then (if inb p782.f20.length (((v2 + (1:Int32)) * (8:Int32)) + (rd p782.f21 (v2 + (1:Int32)))) = true then (if inb p782.f21.length (v2 + (1:Int32)) = true then some ((1:Int32), (Q.mk p782.f0 p782.f1 p782.f2 p782.f3 p782.f4 p782.f5 p782.f6 p782.f7 p782.f8 p782.f9 p782.f10 p782.f11 p782.f12 p782.f13 p782.f14 p782.f15 p782.f16 p782.f17 p782.f18 p782.f19 (wr p782.f20 (((v2 + (1:Int32)) * (8:Int32)) + (rd p782.f21 (v2 + (1:Int32)))) (rd p782.f13 v1)) (wr p782.f21 (v2 + (1:Int32)) ((rd p782.f21 (v2 + (1:Int32))) + (1:Int32))) p782.f22 p782.f23 p782.f24 p782.f25 p782.f26 p782.f27 p782.f28 p782.f29 p782.f30 p782.f31 p782.f32)) else none) else none) else none) else some ((1:Int32), p782))) else none) else some ((1:Int32), p782)))
set_option maxRecDepth 100000 in
theorem ev_j_applyEnq_b44 (R : AHeap) (scr : List Int32) (s : Q) (v1 v2 v4 : Int32) {res : Int32 × Q} {out : Option Value × AHeap} (h : j_applyEnq_b44 s v1 v2 v4 = some res) (hk : out = (some (.int res.1), (W1 scr res.2 R))) : Eval own_P 36 44 [some (.ref 1), some (.int v1), some (.int v2), none, some (.int v4), none] [] (W1 scr s R) out := by
 rw [j_applyEnq_b44] at h
 refine Eval.aload_n rfl rfl ?_
 refine Eval.iload_n rfl rfl ?_
 refine Eval.iconst (x := 0) rfl rfl ?_
 obtain ⟨p782, hq783, h⟩ := bind_some h
 refine Eval.callN (rest := []) (H1 := (W1 scr p782 R)) rfl rfl (ev_j_copyQueue R scr s v2 (0:Int32) hq783 rfl) ?_
 refine Eval.iload rfl rfl ?_
 refine Eval.iconst (x := 1) rfl rfl ?_
 by_cases hc785 : v4 = (1:Int32)
 ·rw [if_pos hc785] at h
  refine Eval.icmpF rfl (teq hc785).2 ?_
  refine Eval.aload_n rfl rfl ?_
  refine Eval.getfield rfl rfl own_g1_qLen ?_
  refine Eval.iload_n rfl rfl ?_
  refine Eval.iconst (x := 1) rfl rfl ?_
  refine Eval.iadd rfl ?_
  obtain ⟨hb786, h⟩ := ite_some h
  refine Eval.iaload rfl own_a1_qLen hb786 ?_
  refine Eval.istore (L' := [some (.ref 1), some (.int v1), some (.int v2), none, some (.int v4), some (.int (rd p782.f21 (v2 + (1:Int32))))]) rfl rfl ?_
  refine Eval.iload rfl rfl ?_
  by_cases hc787 : (rd p782.f21 (v2 + (1:Int32))) < (0:Int32)
  ·rw [if_pos hc787] at h
   refine Eval.ifT (t := 110) rfl rfl (tlt hc787).1 ?_
   refine Eval.iconst (x := 1) rfl rfl ?_
   cases h
   subst hk
   exact Eval.ret rfl rfl
  ·rw [if_neg hc787] at h
   refine Eval.ifF rfl (flt hc787).1 ?_
   refine Eval.iload rfl rfl ?_
   refine Eval.bipush (x := 8) rfl rfl ?_
   by_cases hc788 : (rd p782.f21 (v2 + (1:Int32))) < (8:Int32)
   ·rw [if_pos hc788] at h
    refine Eval.icmpF rfl (tlt hc788).2.1 ?_
    refine Eval.aload_n rfl rfl ?_
    refine Eval.getfield rfl rfl own_g1_qBuf ?_
    refine Eval.iload_n rfl rfl ?_
    refine Eval.iconst (x := 1) rfl rfl ?_
    refine Eval.iadd rfl ?_
    refine Eval.bipush (x := 8) rfl rfl ?_
    refine Eval.imul rfl ?_
    refine Eval.iload rfl rfl ?_
    refine Eval.iadd rfl ?_
    refine Eval.aload_n rfl rfl ?_
    refine Eval.getfield rfl rfl own_g1_opArg ?_
    refine Eval.iload_n rfl rfl ?_
    obtain ⟨hb789, h⟩ := ite_some h
    refine Eval.iaload rfl own_a1_opArg hb789 ?_
    obtain ⟨hb790, h⟩ := ite_some h
    refine Eval.iastore rfl rfl own_a1_qBuf hb790 own_s1_qBuf ?_
    refine Eval.aload_n rfl rfl ?_
    refine Eval.getfield rfl rfl own_g1_qLen ?_
    refine Eval.iload_n rfl rfl ?_
    refine Eval.iconst (x := 1) rfl rfl ?_
    refine Eval.iadd rfl ?_
    refine Eval.iload rfl rfl ?_
    refine Eval.iconst (x := 1) rfl rfl ?_
    refine Eval.iadd rfl ?_
    obtain ⟨hb791, h⟩ := ite_some h
    refine Eval.iastore rfl rfl own_a1_qLen hb791 own_s1_qLen ?_
    refine Eval.iconst (x := 1) rfl rfl ?_
    cases h
    subst hk
    exact Eval.retH own_mk1 rfl rfl
   ·rw [if_neg hc788] at h
    refine Eval.icmpT (t := 110) rfl rfl (flt hc788).2.1 ?_
    refine Eval.iconst (x := 1) rfl rfl ?_
    cases h
    subst hk
    exact Eval.ret rfl rfl
 ·rw [if_neg hc785] at h
  refine Eval.icmpT (t := 110) rfl rfl (feq hc785).2 ?_
  refine Eval.iconst (x := 1) rfl rfl ?_
  cases h
  subst hk
  exact Eval.ret rfl rfl
def j_applyEnq_b20 (s : Q) (v1 v2 w0 : Int32) : Option (Int32 × Q) := (if inb s.f15.length v1 = true then (if (rd s.f15 v1) < (0:Int32) then (j_applyEnq_b44 s v1 v2 w0) else (if inb s.f16.length v1 = true then (if (rd s.f16 v1) = w0 then (j_applyEnq_b44 s v1 v2 w0) else some ((0:Int32), s)) else none)) else none)
set_option maxRecDepth 100000 in
theorem ev_j_applyEnq_b20 (R : AHeap) (scr : List Int32) (s : Q) (v1 v2 w0 : Int32) {res : Int32 × Q} {out : Option Value × AHeap} (h : j_applyEnq_b20 s v1 v2 w0 = some res) (hk : out = (some (.int res.1), (W1 scr res.2 R))) : Eval own_P 36 20 [some (.ref 1), some (.int v1), some (.int v2), none, none, none] [.int w0] (W1 scr s R) out := by
 rw [j_applyEnq_b20] at h
 refine Eval.istore (L' := [some (.ref 1), some (.int v1), some (.int v2), none, some (.int w0), none]) rfl rfl ?_
 refine Eval.aload_n rfl rfl ?_
 refine Eval.getfield rfl rfl own_g1_opRes ?_
 refine Eval.iload_n rfl rfl ?_
 obtain ⟨hb768, h⟩ := ite_some h
 refine Eval.iaload rfl own_a1_opRes hb768 ?_
 by_cases hc769 : (rd s.f15 v1) < (0:Int32)
 ·rw [if_pos hc769] at h
  refine Eval.ifT (t := 44) rfl rfl (tlt hc769).1 ?_
  exact ev_j_applyEnq_b44 R scr s v1 v2 w0 h hk
 ·rw [if_neg hc769] at h
  refine Eval.ifF rfl (flt hc769).1 ?_
  refine Eval.aload_n rfl rfl ?_
  refine Eval.getfield rfl rfl own_g1_opStatus ?_
  refine Eval.iload_n rfl rfl ?_
  obtain ⟨hb792, h⟩ := ite_some h
  refine Eval.iaload rfl own_a1_opStatus hb792 ?_
  refine Eval.iload rfl rfl ?_
  by_cases hc793 : (rd s.f16 v1) = w0
  ·rw [if_pos hc793] at h
   refine Eval.icmpT (t := 44) rfl rfl (teq hc793).1 ?_
   exact ev_j_applyEnq_b44 R scr s v1 v2 w0 h hk
  ·rw [if_neg hc793] at h
   refine Eval.icmpF rfl (feq hc793).1 ?_
   refine Eval.iconst (x := 0) rfl rfl ?_
   cases h
   subst hk
   exact Eval.ret rfl rfl
def j_applyEnq (s : Q) (v1 v2 : Int32) : Option (Int32 × Q) := (if inb s.f21.length v2 = true then (j_applyEnq_b20 s v1 v2 (if (rd s.f21 v2) < s.f25 then (1:Int32) else (2:Int32))) else none)
set_option maxRecDepth 100000 in
theorem ev_j_applyEnq (R : AHeap) (scr : List Int32) (s : Q) (v1 v2 : Int32) {res : Int32 × Q} {out : Option Value × AHeap} (h : j_applyEnq s v1 v2 = some res) (hk : out = (some (.int res.1), (W1 scr res.2 R))) : Eval own_P 36 0 [some (.ref 1), some (.int v1), some (.int v2), none, none, none] [] (W1 scr s R) out := by
 rw [j_applyEnq] at h
 refine Eval.aload_n rfl rfl ?_
 refine Eval.getfield rfl rfl own_g1_qLen ?_
 refine Eval.iload_n rfl rfl ?_
 obtain ⟨hb765, h⟩ := ite_some h
 refine Eval.iaload rfl own_a1_qLen hb765 ?_
 refine Eval.istore_n (L' := [some (.ref 1), some (.int v1), some (.int v2), some (.int (rd s.f21 v2)), none, none]) rfl rfl ?_
 refine Eval.iload_n rfl rfl ?_
 refine Eval.aload_n rfl rfl ?_
 refine Eval.getfield rfl rfl own_g1_cap ?_
 suffices hJ767 : Eval own_P 36 20 [some (.ref 1), some (.int v1), some (.int v2), none, none, none] [.int (if (rd s.f21 v2) < s.f25 then (1:Int32) else (2:Int32))] (W1 scr s R) out by
  by_cases hc766 : (rd s.f21 v2) < s.f25
  ·refine Eval.icmpF rfl (tlt hc766).2.1 ?_
   refine Eval.iconst (x := 1) rfl rfl ?_
   refine Eval.goto (t := 20) rfl rfl ?_
   refine Eval.weak (lw_mk 7 _) ?_
   exact (Eval.conv hJ767 rfl (by simp only [if_pos hc766]))
  ·refine Eval.icmpT (t := 19) rfl rfl (flt hc766).2.1 ?_
   refine Eval.iconst (x := 2) rfl rfl ?_
   refine Eval.weak (lw_mk 7 _) ?_
   exact (Eval.conv hJ767 rfl (by simp only [if_neg hc766]))
 exact ev_j_applyEnq_b20 R scr s v1 v2 (if (rd s.f21 v2) < s.f25 then (1:Int32) else (2:Int32)) h hk
def j_applyDeq_b66 (s : Q) (v2 : Int32) : Option (Int32 × Q) := ((j_copyQueue s v2 (1:Int32)).bind fun p804 => some ((1:Int32), p804))
set_option maxRecDepth 100000 in
theorem ev_j_applyDeq_b66 (R : AHeap) (scr : List Int32) (s : Q) (v2 : Int32) {res : Int32 × Q} {out : Option Value × AHeap} (h : j_applyDeq_b66 s v2 = some res) (hk : out = (some (.int res.1), (W1 scr res.2 R))) : Eval own_P 34 66 [some (.ref 1), none, some (.int v2), none, none, none] [] (W1 scr s R) out := by
 rw [j_applyDeq_b66] at h
 refine Eval.aload_n rfl rfl ?_
 refine Eval.iload_n rfl rfl ?_
 refine Eval.iconst (x := 1) rfl rfl ?_
 obtain ⟨p804, hq805, h⟩ := bind_some h
 refine Eval.callN (rest := []) (H1 := (W1 scr p804 R)) rfl rfl (ev_j_copyQueue R scr s v2 (1:Int32) hq805 rfl) ?_
 refine Eval.iconst (x := 1) rfl rfl ?_
 cases h
 subst hk
 exact Eval.ret rfl rfl
def j_applyDeq_b91 (s : Q) (v2 : Int32) : Option (Int32 × Q) := ((j_copyQueue s v2 (0:Int32)).bind fun p812 => some ((1:Int32), p812))
set_option maxRecDepth 100000 in
theorem ev_j_applyDeq_b91 (R : AHeap) (scr : List Int32) (s : Q) (v2 : Int32) {res : Int32 × Q} {out : Option Value × AHeap} (h : j_applyDeq_b91 s v2 = some res) (hk : out = (some (.int res.1), (W1 scr res.2 R))) : Eval own_P 34 91 [some (.ref 1), none, some (.int v2), none, none, none] [] (W1 scr s R) out := by
 rw [j_applyDeq_b91] at h
 refine Eval.aload_n rfl rfl ?_
 refine Eval.iload_n rfl rfl ?_
 refine Eval.iconst (x := 0) rfl rfl ?_
 obtain ⟨p812, hq813, h⟩ := bind_some h
 refine Eval.callN (rest := []) (H1 := (W1 scr p812 R)) rfl rfl (ev_j_copyQueue R scr s v2 (0:Int32) hq813 rfl) ?_
 refine Eval.iconst (x := 1) rfl rfl ?_
 cases h
 subst hk
 exact Eval.ret rfl rfl
def j_applyDeq_b21 (s : Q) (v1 v2 : Int32) (v3 w0 : Int32) : Option (Int32 × Q) := (if (0:Int32) < v3 then (if inb s.f20.length (v2 * (8:Int32)) = true then (if w0 = (0:Int32) then (j_applyDeq_b66 s v2) else (if inb s.f16.length v1 = true then (if (rd s.f16 v1) = (1:Int32) then (if inb s.f17.length v1 = true then (if (rd s.f17 v1) = (rd s.f20 (v2 * (8:Int32))) then (j_applyDeq_b66 s v2) else some ((0:Int32), s)) else none) else some ((0:Int32), s)) else none)) else none) else (if w0 = (0:Int32) then (j_applyDeq_b91 s v2) else (if inb s.f16.length v1 = true then (if (rd s.f16 v1) = (3:Int32) then (j_applyDeq_b91 s v2) else some ((0:Int32), s)) else none)))
set_option maxRecDepth 100000 in
theorem ev_j_applyDeq_b21 (R : AHeap) (scr : List Int32) (s : Q) (v1 v2 : Int32) (v3 w0 : Int32) {res : Int32 × Q} {out : Option Value × AHeap} (h : j_applyDeq_b21 s v1 v2 v3 w0 = some res) (hk : out = (some (.int res.1), (W1 scr res.2 R))) : Eval own_P 34 21 [some (.ref 1), some (.int v1), some (.int v2), some (.int v3), none, none] [.int w0] (W1 scr s R) out := by
 rw [j_applyDeq_b21] at h
 refine Eval.istore (L' := [some (.ref 1), some (.int v1), some (.int v2), some (.int v3), some (.int w0), none]) rfl rfl ?_
 refine Eval.iload_n rfl rfl ?_
 by_cases hc801 : (0:Int32) < v3
 ·rw [if_pos hc801] at h
  refine Eval.ifF rfl (tlt hc801).2.2.2 ?_
  refine Eval.aload_n rfl rfl ?_
  refine Eval.getfield rfl rfl own_g1_qBuf ?_
  refine Eval.iload_n rfl rfl ?_
  refine Eval.bipush (x := 8) rfl rfl ?_
  refine Eval.imul rfl ?_
  obtain ⟨hb802, h⟩ := ite_some h
  refine Eval.iaload rfl own_a1_qBuf hb802 ?_
  refine Eval.istore (L' := [some (.ref 1), some (.int v1), some (.int v2), some (.int v3), some (.int w0), some (.int (rd s.f20 (v2 * (8:Int32))))]) rfl rfl ?_
  refine Eval.iload rfl rfl ?_
  by_cases hc803 : w0 = (0:Int32)
  ·rw [if_pos hc803] at h
   refine Eval.ifT (t := 66) rfl rfl (teq hc803).1 ?_
   refine Eval.weak (lw_mk 5 _) ?_
   exact ev_j_applyDeq_b66 R scr s v2 h hk
  ·rw [if_neg hc803] at h
   refine Eval.ifF rfl (feq hc803).1 ?_
   refine Eval.aload_n rfl rfl ?_
   refine Eval.getfield rfl rfl own_g1_opStatus ?_
   refine Eval.iload_n rfl rfl ?_
   obtain ⟨hb807, h⟩ := ite_some h
   refine Eval.iaload rfl own_a1_opStatus hb807 ?_
   refine Eval.iconst (x := 1) rfl rfl ?_
   by_cases hc808 : (rd s.f16 v1) = (1:Int32)
   ·rw [if_pos hc808] at h
    refine Eval.icmpF rfl (teq hc808).2 ?_
    refine Eval.aload_n rfl rfl ?_
    refine Eval.getfield rfl rfl own_g1_opRVal ?_
    refine Eval.iload_n rfl rfl ?_
    obtain ⟨hb809, h⟩ := ite_some h
    refine Eval.iaload rfl own_a1_opRVal hb809 ?_
    refine Eval.iload rfl rfl ?_
    by_cases hc810 : (rd s.f17 v1) = (rd s.f20 (v2 * (8:Int32)))
    ·rw [if_pos hc810] at h
     refine Eval.icmpT (t := 66) rfl rfl (teq hc810).1 ?_
     refine Eval.weak (lw_mk 5 _) ?_
     exact ev_j_applyDeq_b66 R scr s v2 h hk
    ·rw [if_neg hc810] at h
     refine Eval.icmpF rfl (feq hc810).1 ?_
     refine Eval.iconst (x := 0) rfl rfl ?_
     cases h
     subst hk
     exact Eval.ret rfl rfl
   ·rw [if_neg hc808] at h
    refine Eval.icmpT (t := 64) rfl rfl (feq hc808).2 ?_
    refine Eval.iconst (x := 0) rfl rfl ?_
    cases h
    subst hk
    exact Eval.ret rfl rfl
 ·rw [if_neg hc801] at h
  refine Eval.ifT (t := 74) rfl rfl (flt hc801).2.2.2 ?_
  refine Eval.iload rfl rfl ?_
  by_cases hc811 : w0 = (0:Int32)
  ·rw [if_pos hc811] at h
   refine Eval.ifT (t := 91) rfl rfl (teq hc811).1 ?_
   refine Eval.weak (lw_mk 5 _) ?_
   exact ev_j_applyDeq_b91 R scr s v2 h hk
  ·rw [if_neg hc811] at h
   refine Eval.ifF rfl (feq hc811).1 ?_
   refine Eval.aload_n rfl rfl ?_
   refine Eval.getfield rfl rfl own_g1_opStatus ?_
   refine Eval.iload_n rfl rfl ?_
   obtain ⟨hb815, h⟩ := ite_some h
   refine Eval.iaload rfl own_a1_opStatus hb815 ?_
   refine Eval.iconst (x := 3) rfl rfl ?_
   by_cases hc816 : (rd s.f16 v1) = (3:Int32)
   ·rw [if_pos hc816] at h
    refine Eval.icmpT (t := 91) rfl rfl (teq hc816).1 ?_
    refine Eval.weak (lw_mk 5 _) ?_
    exact ev_j_applyDeq_b91 R scr s v2 h hk
   ·rw [if_neg hc816] at h
    refine Eval.icmpF rfl (feq hc816).1 ?_
    refine Eval.iconst (x := 0) rfl rfl ?_
    cases h
    subst hk
    exact Eval.ret rfl rfl
def j_applyDeq (s : Q) (v1 v2 : Int32) : Option (Int32 × Q) := (if inb s.f21.length v2 = true then (if inb s.f15.length v1 = true then (j_applyDeq_b21 s v1 v2 (rd s.f21 v2) (if (rd s.f15 v1) < (0:Int32) then (0:Int32) else (1:Int32))) else none) else none)
set_option maxRecDepth 100000 in
theorem ev_j_applyDeq (R : AHeap) (scr : List Int32) (s : Q) (v1 v2 : Int32) {res : Int32 × Q} {out : Option Value × AHeap} (h : j_applyDeq s v1 v2 = some res) (hk : out = (some (.int res.1), (W1 scr res.2 R))) : Eval own_P 34 0 [some (.ref 1), some (.int v1), some (.int v2), none, none, none] [] (W1 scr s R) out := by
 rw [j_applyDeq] at h
 refine Eval.aload_n rfl rfl ?_
 refine Eval.getfield rfl rfl own_g1_qLen ?_
 refine Eval.iload_n rfl rfl ?_
 obtain ⟨hb797, h⟩ := ite_some h
 refine Eval.iaload rfl own_a1_qLen hb797 ?_
 refine Eval.istore_n (L' := [some (.ref 1), some (.int v1), some (.int v2), some (.int (rd s.f21 v2)), none, none]) rfl rfl ?_
 refine Eval.aload_n rfl rfl ?_
 refine Eval.getfield rfl rfl own_g1_opRes ?_
 refine Eval.iload_n rfl rfl ?_
 obtain ⟨hb798, h⟩ := ite_some h
 refine Eval.iaload rfl own_a1_opRes hb798 ?_
 suffices hJ800 : Eval own_P 34 21 [some (.ref 1), some (.int v1), some (.int v2), some (.int (rd s.f21 v2)), none, none] [.int (if (rd s.f15 v1) < (0:Int32) then (0:Int32) else (1:Int32))] (W1 scr s R) out by
  by_cases hc799 : (rd s.f15 v1) < (0:Int32)
  ·refine Eval.ifT (t := 20) rfl rfl (tlt hc799).1 ?_
   refine Eval.iconst (x := 0) rfl rfl ?_
   exact (Eval.conv hJ800 rfl (by simp only [if_pos hc799]))
  ·refine Eval.ifF rfl (flt hc799).1 ?_
   refine Eval.iconst (x := 1) rfl rfl ?_
   refine Eval.goto (t := 21) rfl rfl ?_
   exact (Eval.conv hJ800 rfl (by simp only [if_neg hc799]))
 exact ev_j_applyDeq_b21 R scr s v1 v2 (rd s.f21 v2) (if (rd s.f15 v1) < (0:Int32) then (0:Int32) else (1:Int32)) h hk
def j_apply (s : Q) (v1 v2 : Int32) : Option (Int32 × Q) := (if v2 < (0:Int32) then some ((0:Int32), s) else (if (5:Int32) < v2 then some ((0:Int32), s) else (if v1 < (0:Int32) then some ((0:Int32), s) else (if v1 < (6:Int32) then (if inb s.f12.length v1 = true then (if (rd s.f12 v1) = (1:Int32) then ((j_applyEnq s v1 v2).bind fun p794 => some ((p794.1 &&& 1), p794.2)) else ((j_applyDeq s v1 v2).bind fun p817 => some ((p817.1 &&& 1), p817.2))) else none) else some ((0:Int32), s)))))
set_option maxRecDepth 100000 in
theorem ev_j_apply (R : AHeap) (scr : List Int32) (s : Q) (v1 v2 : Int32) {res : Int32 × Q} {out : Option Value × AHeap} (h : j_apply s v1 v2 = some res) (hk : out = (some (.int res.1), (W1 scr res.2 R))) : Eval own_P 33 0 [some (.ref 1), some (.int v1), some (.int v2)] [] (W1 scr s R) out := by
 rw [j_apply] at h
 refine Eval.iload_n rfl rfl ?_
 by_cases hc759 : v2 < (0:Int32)
 ·rw [if_pos hc759] at h
  refine Eval.ifT (t := 19) rfl rfl (tlt hc759).1 ?_
  refine Eval.iconst (x := 0) rfl rfl ?_
  cases h
  subst hk
  exact Eval.ret rfl rfl
 ·rw [if_neg hc759] at h
  refine Eval.ifF rfl (flt hc759).1 ?_
  refine Eval.iload_n rfl rfl ?_
  refine Eval.iconst (x := 5) rfl rfl ?_
  by_cases hc760 : (5:Int32) < v2
  ·rw [if_pos hc760] at h
   refine Eval.icmpT (t := 19) rfl rfl (tlt hc760).2.2.1 ?_
   refine Eval.iconst (x := 0) rfl rfl ?_
   cases h
   subst hk
   exact Eval.ret rfl rfl
  ·rw [if_neg hc760] at h
   refine Eval.icmpF rfl (flt hc760).2.2.1 ?_
   refine Eval.iload_n rfl rfl ?_
   by_cases hc761 : v1 < (0:Int32)
   ·rw [if_pos hc761] at h
    refine Eval.ifT (t := 19) rfl rfl (tlt hc761).1 ?_
    refine Eval.iconst (x := 0) rfl rfl ?_
    cases h
    subst hk
    exact Eval.ret rfl rfl
   ·rw [if_neg hc761] at h
    refine Eval.ifF rfl (flt hc761).1 ?_
    refine Eval.iload_n rfl rfl ?_
    refine Eval.bipush (x := 6) rfl rfl ?_
    by_cases hc762 : v1 < (6:Int32)
    ·rw [if_pos hc762] at h
     refine Eval.icmpT (t := 21) rfl rfl (tlt hc762).1 ?_
     refine Eval.aload_n rfl rfl ?_
     refine Eval.getfield rfl rfl own_g1_opKind ?_
     refine Eval.iload_n rfl rfl ?_
     obtain ⟨hb763, h⟩ := ite_some h
     refine Eval.iaload rfl own_a1_opKind hb763 ?_
     refine Eval.iconst (x := 1) rfl rfl ?_
     by_cases hc764 : (rd s.f12 v1) = (1:Int32)
     ·rw [if_pos hc764] at h
      refine Eval.icmpF rfl (teq hc764).2 ?_
      refine Eval.aload_n rfl rfl ?_
      refine Eval.iload_n rfl rfl ?_
      refine Eval.iload_n rfl rfl ?_
      obtain ⟨p794, hq795, h⟩ := bind_some h
      refine Eval.callI (rest := []) (x := p794.1) (H1 := (W1 scr p794.2 R)) rfl rfl (ev_j_applyEnq R scr s v1 v2 hq795 rfl) ?_
      cases h
      subst hk
      exact Eval.ret rfl rfl
     ·rw [if_neg hc764] at h
      refine Eval.icmpT (t := 38) rfl rfl (feq hc764).2 ?_
      refine Eval.aload_n rfl rfl ?_
      refine Eval.iload_n rfl rfl ?_
      refine Eval.iload_n rfl rfl ?_
      obtain ⟨p817, hq818, h⟩ := bind_some h
      refine Eval.callI (rest := []) (x := p817.1) (H1 := (W1 scr p817.2 R)) rfl rfl (ev_j_applyDeq R scr s v1 v2 hq818 rfl) ?_
      cases h
      subst hk
      exact Eval.ret rfl rfl
    ·rw [if_neg hc762] at h
     refine Eval.icmpF rfl (flt hc762).1 ?_
     refine Eval.iconst (x := 0) rfl rfl ?_
     cases h
     subst hk
     exact Eval.ret rfl rfl
def j_search_b215 (go_ : Q → Int32 → Int32 → Int32 → Option ((Q) ⊕ ((Q) ⊕ (Q)))) (s : Q) (v1 v2 v3 : Int32) : Option ((Q) ⊕ ((Q) ⊕ (Q))) := (go_ s v1 v2 (v3 + (1:Int32)))
set_option maxRecDepth 100000 in
theorem ev_j_search_b215 (R : AHeap) (scr : List Int32) (go_ : Q → Int32 → Int32 → Int32 → Option ((Q) ⊕ ((Q) ⊕ (Q)))) (hrec : ∀ (s : Q) (v1 v2 v3 : Int32) {res : (Q) ⊕ ((Q) ⊕ (Q))} {out : Option Value × AHeap}, go_ s v1 v2 v3 = some res → j_search_l66_K R scr res out → Eval own_P 19 66 [some (.ref 1), some (.int v1), some (.int v2), some (.int v3), none] [] (W1 scr s R) out) (s : Q) (v1 v2 v3 : Int32) {res : (Q) ⊕ ((Q) ⊕ (Q))} {out : Option Value × AHeap} (h : j_search_b215 go_ s v1 v2 v3 = some res) (hk : j_search_l66_K R scr res out) : Eval own_P 19 215 [some (.ref 1), some (.int v1), some (.int v2), some (.int v3), none] [] (W1 scr s R) out := by
 rw [j_search_b215] at h
 refine Eval.iinc (L' := [some (.ref 1), some (.int v1), some (.int v2), some (.int (v3 + (1:Int32))), none]) rfl rfl rfl ?_
 refine Eval.goto (t := 66) rfl rfl ?_
 exact hrec _ _ _ _ h hk
def j_search_b96 (go_ : Q → Int32 → Int32 → Int32 → Option ((Q) ⊕ ((Q) ⊕ (Q)))) (s : Q) (v1 v2 v3 : Int32) : Option ((Q) ⊕ ((Q) ⊕ (Q))) := (if v1 = (0:Int32) then some (.inl (s)) else (if inb s.f23.length (v1 + (-1:Int32)) = true then (j_search_b215 (go_) s (v1 + (-1:Int32)) (v2 &&& ((ish (1:Int32) (rd s.f23 (v1 + (-1:Int32)))) ^^^ (-1:Int32))) v3) else none))
set_option maxRecDepth 100000 in
theorem ev_j_search_b96 (R : AHeap) (scr : List Int32) (go_ : Q → Int32 → Int32 → Int32 → Option ((Q) ⊕ ((Q) ⊕ (Q)))) (hrec : ∀ (s : Q) (v1 v2 v3 : Int32) {res : (Q) ⊕ ((Q) ⊕ (Q))} {out : Option Value × AHeap}, go_ s v1 v2 v3 = some res → j_search_l66_K R scr res out → Eval own_P 19 66 [some (.ref 1), some (.int v1), some (.int v2), some (.int v3), none] [] (W1 scr s R) out) (s : Q) (v1 v2 v3 : Int32) {res : (Q) ⊕ ((Q) ⊕ (Q))} {out : Option Value × AHeap} (h : j_search_b96 go_ s v1 v2 v3 = some res) (hk : j_search_l66_K R scr res out) : Eval own_P 19 96 [some (.ref 1), some (.int v1), some (.int v2), some (.int v3), none] [] (W1 scr s R) out := by
 rw [j_search_b96] at h
 refine Eval.iload_n rfl rfl ?_
 by_cases hc827 : v1 = (0:Int32)
 ·rw [if_pos hc827] at h
  refine Eval.ifF rfl (teq hc827).2 ?_
  cases h
  refine Eval.weak (lw_mk 0 _) ?_
  exact hk
 ·rw [if_neg hc827] at h
  refine Eval.ifT (t := 102) rfl rfl (feq hc827).2 ?_
  refine Eval.iinc (L' := [some (.ref 1), some (.int (v1 + (-1:Int32))), some (.int v2), some (.int v3), none]) rfl rfl rfl ?_
  refine Eval.iload_n rfl rfl ?_
  refine Eval.iconst (x := 1) rfl rfl ?_
  refine Eval.aload_n rfl rfl ?_
  refine Eval.getfield rfl rfl own_g1_chosen ?_
  refine Eval.iload_n rfl rfl ?_
  obtain ⟨hb828, h⟩ := ite_some h
  refine Eval.iaload rfl own_a1_chosen hb828 ?_
  refine Eval.ishl rfl ?_
  refine Eval.iconst (x := -1) rfl rfl ?_
  refine Eval.ixor rfl ?_
  refine Eval.iand rfl ?_
  refine Eval.istore_n (L' := [some (.ref 1), some (.int (v1 + (-1:Int32))), some (.int (v2 &&& ((ish (1:Int32) (rd s.f23 (v1 + (-1:Int32)))) ^^^ (-1:Int32)))), some (.int v3), none]) rfl rfl ?_
  refine Eval.goto (t := 215) rfl rfl ?_
  exact ev_j_search_b215 R scr _ hrec s (v1 + (-1:Int32)) (v2 &&& ((ish (1:Int32) (rd s.f23 (v1 + (-1:Int32)))) ^^^ (-1:Int32))) v3 h hk
def j_search_l66 : Nat → Q → Int32 → Int32 → Int32 → Option ((Q) ⊕ ((Q) ⊕ (Q)))
  | 0, _, _, _, _ => none
  | n + 1, s, v1, v2, v3 => (if v3 < (200000:Int32) then (if inb s.f22.length v1 = true then (if (rd s.f22 v1) < s.f31 then (if (rd s.f22 v1) < (6:Int32) then (if inb s.f22.length v1 = true then (if (v2 &&& (ish (1:Int32) (rd s.f22 v1))) = (0:Int32) then (if inb s.f18.length (rd s.f22 v1) = true then (if inb s.f18.length (rd s.f22 v1) = true then (if ((rd s.f18 (rd s.f22 v1)) &&& v2) = (rd s.f18 (rd s.f22 v1)) then ((j_apply (Q.mk s.f0 s.f1 s.f2 s.f3 s.f4 s.f5 s.f6 s.f7 s.f8 s.f9 s.f10 s.f11 s.f12 s.f13 s.f14 s.f15 s.f16 s.f17 s.f18 s.f19 s.f20 s.f21 (wr s.f22 v1 ((rd s.f22 v1) + (1:Int32))) s.f23 s.f24 s.f25 s.f26 s.f27 s.f28 s.f29 s.f30 s.f31 s.f32) (rd s.f22 v1) v1).bind fun p820 => (if p820.1 = (0:Int32) then (j_search_b215 (j_search_l66 n) p820.2 v1 v2 v3) else (if inb p820.2.f23.length v1 = true then (if inb p820.2.f22.length (v1 + (1:Int32)) = true then (if ((v2 ||| (ish (1:Int32) (rd s.f22 v1))) &&& p820.2.f32) = p820.2.f32 then some (.inr (.inl ((Q.mk p820.2.f0 p820.2.f1 p820.2.f2 p820.2.f3 p820.2.f4 p820.2.f5 p820.2.f6 p820.2.f7 p820.2.f8 p820.2.f9 p820.2.f10 p820.2.f11 p820.2.f12 p820.2.f13 p820.2.f14 p820.2.f15 p820.2.f16 p820.2.f17 p820.2.f18 p820.2.f19 p820.2.f20 p820.2.f21 (wr p820.2.f22 (v1 + (1:Int32)) (0:Int32)) (wr p820.2.f23 v1 (rd s.f22 v1)) p820.2.f24 p820.2.f25 p820.2.f26 p820.2.f27 p820.2.f28 p820.2.f29 p820.2.f30 p820.2.f31 p820.2.f32)))) else (j_search_b215 (j_search_l66 n) (Q.mk p820.2.f0 p820.2.f1 p820.2.f2 p820.2.f3 p820.2.f4 p820.2.f5 p820.2.f6 p820.2.f7 p820.2.f8 p820.2.f9 p820.2.f10 p820.2.f11 p820.2.f12 p820.2.f13 p820.2.f14 p820.2.f15 p820.2.f16 p820.2.f17 p820.2.f18 p820.2.f19 p820.2.f20 p820.2.f21 (wr p820.2.f22 (v1 + (1:Int32)) (0:Int32)) (wr p820.2.f23 v1 (rd s.f22 v1)) p820.2.f24 p820.2.f25 p820.2.f26 p820.2.f27 p820.2.f28 p820.2.f29 p820.2.f30 p820.2.f31 p820.2.f32) (v1 + (1:Int32)) (v2 ||| (ish (1:Int32) (rd s.f22 v1))) v3)) else none) else none))) else (j_search_b215 (j_search_l66 n) (Q.mk s.f0 s.f1 s.f2 s.f3 s.f4 s.f5 s.f6 s.f7 s.f8 s.f9 s.f10 s.f11 s.f12 s.f13 s.f14 s.f15 s.f16 s.f17 s.f18 s.f19 s.f20 s.f21 (wr s.f22 v1 ((rd s.f22 v1) + (1:Int32))) s.f23 s.f24 s.f25 s.f26 s.f27 s.f28 s.f29 s.f30 s.f31 s.f32) v1 v2 v3)) else none) else none) else (j_search_b215 (j_search_l66 n) (Q.mk s.f0 s.f1 s.f2 s.f3 s.f4 s.f5 s.f6 s.f7 s.f8 s.f9 s.f10 s.f11 s.f12 s.f13 s.f14 s.f15 s.f16 s.f17 s.f18 s.f19 s.f20 s.f21 (wr s.f22 v1 ((rd s.f22 v1) + (1:Int32))) s.f23 s.f24 s.f25 s.f26 s.f27 s.f28 s.f29 s.f30 s.f31 s.f32) v1 v2 v3)) else none) else (j_search_b96 (j_search_l66 n) s v1 v2 v3)) else (j_search_b96 (j_search_l66 n) s v1 v2 v3)) else none) else some (.inr (.inr (s))))
set_option maxRecDepth 100000 in
theorem ev_j_search_l66 (R : AHeap) (scr : List Int32) : ∀ (n : Nat) (s : Q) (v1 v2 v3 : Int32) {res : (Q) ⊕ ((Q) ⊕ (Q))} {out : Option Value × AHeap}, j_search_l66 n s v1 v2 v3 = some res → j_search_l66_K R scr res out → Eval own_P 19 66 [some (.ref 1), some (.int v1), some (.int v2), some (.int v3), none] [] (W1 scr s R) out := by
 intro n
 induction n with
 | zero => intro _ _ _ _ res out h hk; cases h
 | succ n hrec =>
  intro s v1 v2 v3 res out h hk
  rw [j_search_l66] at h
  refine Eval.iload_n rfl rfl ?_
  refine Eval.ldc (x := 200000) rfl rfl ?_
  by_cases hc750 : v3 < (200000:Int32)
  ·rw [if_pos hc750] at h
   refine Eval.icmpF rfl (tlt hc750).2.1 ?_
   refine Eval.aload_n rfl rfl ?_
   refine Eval.getfield rfl rfl own_g1_nextCand ?_
   refine Eval.iload_n rfl rfl ?_
   obtain ⟨hb751, h⟩ := ite_some h
   refine Eval.iaload rfl own_a1_nextCand hb751 ?_
   refine Eval.istore (L' := [some (.ref 1), some (.int v1), some (.int v2), some (.int v3), some (.int (rd s.f22 v1))]) rfl rfl ?_
   refine Eval.iload rfl rfl ?_
   refine Eval.aload_n rfl rfl ?_
   refine Eval.getfield rfl rfl own_g1_opCount ?_
   by_cases hc752 : (rd s.f22 v1) < s.f31
   ·rw [if_pos hc752] at h
    refine Eval.icmpF rfl (tlt hc752).2.1 ?_
    refine Eval.iload rfl rfl ?_
    refine Eval.bipush (x := 6) rfl rfl ?_
    by_cases hc753 : (rd s.f22 v1) < (6:Int32)
    ·rw [if_pos hc753] at h
     refine Eval.icmpT (t := 121) rfl rfl (tlt hc753).1 ?_
     refine Eval.aload_n rfl rfl ?_
     refine Eval.getfield rfl rfl own_g1_nextCand ?_
     refine Eval.iload_n rfl rfl ?_
     refine Eval.iload rfl rfl ?_
     refine Eval.iconst (x := 1) rfl rfl ?_
     refine Eval.iadd rfl ?_
     obtain ⟨hb754, h⟩ := ite_some h
     refine Eval.iastore rfl rfl own_a1_nextCand hb754 own_s1_nextCand ?_
     refine Eval.iload_n rfl rfl ?_
     refine Eval.iconst (x := 1) rfl rfl ?_
     refine Eval.iload rfl rfl ?_
     refine Eval.ishl rfl ?_
     refine Eval.iand rfl ?_
     by_cases hc755 : (v2 &&& (ish (1:Int32) (rd s.f22 v1))) = (0:Int32)
     ·rw [if_pos hc755] at h
      refine Eval.ifF rfl (teq hc755).2 ?_
      refine Eval.aload_n rfl rfl ?_
      refine Eval.getfield rfl rfl own_g1_predMask ?_
      refine Eval.iload rfl rfl ?_
      obtain ⟨hb756, h⟩ := ite_some h
      refine Eval.iaload rfl own_a1_predMask hb756 ?_
      refine Eval.iload_n rfl rfl ?_
      refine Eval.iand rfl ?_
      refine Eval.aload_n rfl rfl ?_
      refine Eval.getfield rfl rfl own_g1_predMask ?_
      refine Eval.iload rfl rfl ?_
      obtain ⟨hb757, h⟩ := ite_some h
      refine Eval.iaload rfl own_a1_predMask hb757 ?_
      by_cases hc758 : ((rd s.f18 (rd s.f22 v1)) &&& v2) = (rd s.f18 (rd s.f22 v1))
      ·rw [if_pos hc758] at h
       refine Eval.icmpT (t := 162) rfl rfl (teq hc758).1 ?_
       refine Eval.aload_n rfl rfl ?_
       refine Eval.iload rfl rfl ?_
       refine Eval.iload_n rfl rfl ?_
       obtain ⟨p820, hq821, h⟩ := bind_some h
       refine Eval.callI (rest := []) (x := p820.1) (H1 := (W1 scr p820.2 R)) rfl rfl (Eval.heap own_mk1 (ev_j_apply R scr (Q.mk s.f0 s.f1 s.f2 s.f3 s.f4 s.f5 s.f6 s.f7 s.f8 s.f9 s.f10 s.f11 s.f12 s.f13 s.f14 s.f15 s.f16 s.f17 s.f18 s.f19 s.f20 s.f21 (wr s.f22 v1 ((rd s.f22 v1) + (1:Int32))) s.f23 s.f24 s.f25 s.f26 s.f27 s.f28 s.f29 s.f30 s.f31 s.f32) (rd s.f22 v1) v1 hq821 rfl)) ?_
       by_cases hc823 : p820.1 = (0:Int32)
       ·rw [if_pos hc823] at h
        refine Eval.ifF rfl (teq hc823).2 ?_
        refine Eval.goto (t := 215) rfl rfl ?_
        refine Eval.weak (lw_mk 15 _) ?_
        exact ev_j_search_b215 R scr _ hrec p820.2 v1 v2 v3 h hk
       ·rw [if_neg hc823] at h
        refine Eval.ifT (t := 175) rfl rfl (feq hc823).2 ?_
        refine Eval.aload_n rfl rfl ?_
        refine Eval.getfield rfl rfl own_g1_chosen ?_
        refine Eval.iload_n rfl rfl ?_
        refine Eval.iload rfl rfl ?_
        obtain ⟨hb824, h⟩ := ite_some h
        refine Eval.iastore rfl rfl own_a1_chosen hb824 own_s1_chosen ?_
        refine Eval.iload_n rfl rfl ?_
        refine Eval.iconst (x := 1) rfl rfl ?_
        refine Eval.iload rfl rfl ?_
        refine Eval.ishl rfl ?_
        refine Eval.ior rfl ?_
        refine Eval.istore_n (L' := [some (.ref 1), some (.int v1), some (.int (v2 ||| (ish (1:Int32) (rd s.f22 v1)))), some (.int v3), some (.int (rd s.f22 v1))]) rfl rfl ?_
        refine Eval.iinc (L' := [some (.ref 1), some (.int (v1 + (1:Int32))), some (.int (v2 ||| (ish (1:Int32) (rd s.f22 v1)))), some (.int v3), some (.int (rd s.f22 v1))]) rfl rfl rfl ?_
        refine Eval.aload_n rfl rfl ?_
        refine Eval.getfield rfl rfl own_g1_nextCand ?_
        refine Eval.iload_n rfl rfl ?_
        refine Eval.iconst (x := 0) rfl rfl ?_
        obtain ⟨hb825, h⟩ := ite_some h
        refine Eval.iastore rfl rfl own_a1_nextCand hb825 own_s1_nextCand ?_
        refine Eval.iload_n rfl rfl ?_
        refine Eval.aload_n rfl rfl ?_
        refine Eval.getfield rfl rfl own_g1_completeMask ?_
        refine Eval.iand rfl ?_
        refine Eval.aload_n rfl rfl ?_
        refine Eval.getfield rfl rfl own_g1_completeMask ?_
        by_cases hc826 : ((v2 ||| (ish (1:Int32) (rd s.f22 v1))) &&& p820.2.f32) = p820.2.f32
        ·rw [if_pos hc826] at h
         refine Eval.icmpF rfl (teq hc826).2 ?_
         cases h
         refine Eval.heap own_mk1 ?_
         refine Eval.weak (lw_mk 0 _) ?_
         exact hk
        ·rw [if_neg hc826] at h
         refine Eval.icmpT (t := 215) rfl rfl (feq hc826).2 ?_
         refine Eval.heap own_mk1 ?_
         refine Eval.weak (lw_mk 15 _) ?_
         exact ev_j_search_b215 R scr _ hrec (Q.mk p820.2.f0 p820.2.f1 p820.2.f2 p820.2.f3 p820.2.f4 p820.2.f5 p820.2.f6 p820.2.f7 p820.2.f8 p820.2.f9 p820.2.f10 p820.2.f11 p820.2.f12 p820.2.f13 p820.2.f14 p820.2.f15 p820.2.f16 p820.2.f17 p820.2.f18 p820.2.f19 p820.2.f20 p820.2.f21 (wr p820.2.f22 (v1 + (1:Int32)) (0:Int32)) (wr p820.2.f23 v1 (rd s.f22 v1)) p820.2.f24 p820.2.f25 p820.2.f26 p820.2.f27 p820.2.f28 p820.2.f29 p820.2.f30 p820.2.f31 p820.2.f32) (v1 + (1:Int32)) (v2 ||| (ish (1:Int32) (rd s.f22 v1))) v3 h hk
      ·rw [if_neg hc758] at h
       refine Eval.icmpF rfl (feq hc758).1 ?_
       refine Eval.goto (t := 215) rfl rfl ?_
       refine Eval.heap own_mk1 ?_
       refine Eval.weak (lw_mk 15 _) ?_
       exact ev_j_search_b215 R scr _ hrec (Q.mk s.f0 s.f1 s.f2 s.f3 s.f4 s.f5 s.f6 s.f7 s.f8 s.f9 s.f10 s.f11 s.f12 s.f13 s.f14 s.f15 s.f16 s.f17 s.f18 s.f19 s.f20 s.f21 (wr s.f22 v1 ((rd s.f22 v1) + (1:Int32))) s.f23 s.f24 s.f25 s.f26 s.f27 s.f28 s.f29 s.f30 s.f31 s.f32) v1 v2 v3 h hk
     ·rw [if_neg hc755] at h
      refine Eval.ifT (t := 215) rfl rfl (feq hc755).2 ?_
      refine Eval.heap own_mk1 ?_
      refine Eval.weak (lw_mk 15 _) ?_
      exact ev_j_search_b215 R scr _ hrec (Q.mk s.f0 s.f1 s.f2 s.f3 s.f4 s.f5 s.f6 s.f7 s.f8 s.f9 s.f10 s.f11 s.f12 s.f13 s.f14 s.f15 s.f16 s.f17 s.f18 s.f19 s.f20 s.f21 (wr s.f22 v1 ((rd s.f22 v1) + (1:Int32))) s.f23 s.f24 s.f25 s.f26 s.f27 s.f28 s.f29 s.f30 s.f31 s.f32) v1 v2 v3 h hk
    ·rw [if_neg hc753] at h
     refine Eval.icmpF rfl (flt hc753).1 ?_
     refine Eval.weak (lw_mk 15 _) ?_
     exact ev_j_search_b96 R scr _ hrec s v1 v2 v3 h hk
   ·rw [if_neg hc752] at h
    refine Eval.icmpT (t := 96) rfl rfl (flt hc752).2.1 ?_
    refine Eval.weak (lw_mk 15 _) ?_
    exact ev_j_search_b96 R scr _ hrec s v1 v2 v3 h hk
  ·rw [if_neg hc750] at h
   refine Eval.icmpT (t := 221) rfl rfl (flt hc750).2.1 ?_
   cases h
   refine Eval.weak (lw_mk 0 _) ?_
   exact hk
def j_search (s : Q) : Option (Int32 × Q) := (if s.f32 = (0:Int32) then some ((1:Int32), s) else (if inb s.f21.length (0:Int32) = true then ((j_search_l21 3000 (Q.mk s.f0 s.f1 s.f2 s.f3 s.f4 s.f5 s.f6 s.f7 s.f8 s.f9 s.f10 s.f11 s.f12 s.f13 s.f14 s.f15 s.f16 s.f17 s.f18 s.f19 s.f20 (wr s.f21 (0:Int32) s.f30) s.f22 s.f23 s.f24 s.f25 s.f26 s.f27 s.f28 s.f29 s.f30 s.f31 s.f32) (0:Int32)).bind fun p746 => (if inb p746.f22.length (0:Int32) = true then ((j_search_l66 200010 (Q.mk p746.f0 p746.f1 p746.f2 p746.f3 p746.f4 p746.f5 p746.f6 p746.f7 p746.f8 p746.f9 p746.f10 p746.f11 p746.f12 p746.f13 p746.f14 p746.f15 p746.f16 p746.f17 p746.f18 p746.f19 p746.f20 p746.f21 (wr p746.f22 (0:Int32) (0:Int32)) p746.f23 p746.f24 p746.f25 p746.f26 p746.f27 p746.f28 p746.f29 p746.f30 p746.f31 p746.f32) (0:Int32) (0:Int32) (0:Int32)).bind fun p829 => Sum.elim (fun p831 => some ((0:Int32), p831)) (fun p832 => Sum.elim (fun p834 => some ((1:Int32), p834)) (fun p835 => some ((0:Int32), p835)) p832) p829) else none)) else none))
set_option maxRecDepth 100000 in
theorem ev_j_search (R : AHeap) (scr : List Int32) (s : Q) {res : Int32 × Q} {out : Option Value × AHeap} (h : j_search s = some res) (hk : out = (some (.int res.1), (W1 scr res.2 R))) : Eval own_P 19 0 [some (.ref 1), none, none, none, none] [] (W1 scr s R) out := by
 rw [j_search] at h
 refine Eval.aload_n rfl rfl ?_
 refine Eval.getfield rfl rfl own_g1_completeMask ?_
 by_cases hc740 : s.f32 = (0:Int32)
 ·rw [if_pos hc740] at h
  refine Eval.ifF rfl (teq hc740).2 ?_
  refine Eval.iconst (x := 1) rfl rfl ?_
  cases h
  subst hk
  exact Eval.ret rfl rfl
 ·rw [if_neg hc740] at h
  refine Eval.ifT (t := 9) rfl rfl (feq hc740).2 ?_
  refine Eval.aload_n rfl rfl ?_
  refine Eval.getfield rfl rfl own_g1_qLen ?_
  refine Eval.iconst (x := 0) rfl rfl ?_
  refine Eval.aload_n rfl rfl ?_
  refine Eval.getfield rfl rfl own_g1_snapLen ?_
  obtain ⟨hb741, h⟩ := ite_some h
  refine Eval.iastore rfl rfl own_a1_qLen hb741 own_s1_qLen ?_
  refine Eval.iconst (x := 0) rfl rfl ?_
  refine Eval.istore_n (L' := [some (.ref 1), some (.int 0), none, none, none]) rfl rfl ?_
  refine Eval.heap own_mk1 ?_
  obtain ⟨p746, hq747, h⟩ := bind_some h
  refine ev_j_search_l21 R scr _ (Q.mk s.f0 s.f1 s.f2 s.f3 s.f4 s.f5 s.f6 s.f7 s.f8 s.f9 s.f10 s.f11 s.f12 s.f13 s.f14 s.f15 s.f16 s.f17 s.f18 s.f19 s.f20 (wr s.f21 (0:Int32) s.f30) s.f22 s.f23 s.f24 s.f25 s.f26 s.f27 s.f28 s.f29 s.f30 s.f31 s.f32) (0:Int32) hq747 ?_
  show Eval own_P 19 53 [some (.ref 1), none, none, none, none] [] (W1 scr p746 R) out
  refine Eval.iconst (x := 0) rfl rfl ?_
  refine Eval.istore_n (L' := [some (.ref 1), some (.int 0), none, none, none]) rfl rfl ?_
  refine Eval.iconst (x := 0) rfl rfl ?_
  refine Eval.istore_n (L' := [some (.ref 1), some (.int 0), some (.int 0), none, none]) rfl rfl ?_
  refine Eval.aload_n rfl rfl ?_
  refine Eval.getfield rfl rfl own_g1_nextCand ?_
  refine Eval.iconst (x := 0) rfl rfl ?_
  refine Eval.iconst (x := 0) rfl rfl ?_
  obtain ⟨hb749, h⟩ := ite_some h
  refine Eval.iastore rfl rfl own_a1_nextCand hb749 own_s1_nextCand ?_
  refine Eval.iconst (x := 0) rfl rfl ?_
  refine Eval.istore_n (L' := [some (.ref 1), some (.int 0), some (.int 0), some (.int 0), none]) rfl rfl ?_
  refine Eval.heap own_mk1 ?_
  obtain ⟨p829, hq830, h⟩ := bind_some h
  rcases p829 with p831 | p832
  ·dsimp only [Sum.elim] at h
   refine ev_j_search_l66 R scr _ (Q.mk p746.f0 p746.f1 p746.f2 p746.f3 p746.f4 p746.f5 p746.f6 p746.f7 p746.f8 p746.f9 p746.f10 p746.f11 p746.f12 p746.f13 p746.f14 p746.f15 p746.f16 p746.f17 p746.f18 p746.f19 p746.f20 p746.f21 (wr p746.f22 (0:Int32) (0:Int32)) p746.f23 p746.f24 p746.f25 p746.f26 p746.f27 p746.f28 p746.f29 p746.f30 p746.f31 p746.f32) (0:Int32) (0:Int32) (0:Int32) hq830 ?_
   show Eval own_P 19 100 [none, none, none, none, none] [] (W1 scr p831 R) out
   refine Eval.iconst (x := 0) rfl rfl ?_
   cases h
   subst hk
   exact Eval.ret rfl rfl
  ·dsimp only [Sum.elim] at h
   rcases p832 with p834 | p835
   ·dsimp only [Sum.elim] at h
    refine ev_j_search_l66 R scr _ (Q.mk p746.f0 p746.f1 p746.f2 p746.f3 p746.f4 p746.f5 p746.f6 p746.f7 p746.f8 p746.f9 p746.f10 p746.f11 p746.f12 p746.f13 p746.f14 p746.f15 p746.f16 p746.f17 p746.f18 p746.f19 p746.f20 p746.f21 (wr p746.f22 (0:Int32) (0:Int32)) p746.f23 p746.f24 p746.f25 p746.f26 p746.f27 p746.f28 p746.f29 p746.f30 p746.f31 p746.f32) (0:Int32) (0:Int32) (0:Int32) hq830 ?_
    show Eval own_P 19 213 [none, none, none, none, none] [] (W1 scr p834 R) out
    refine Eval.iconst (x := 1) rfl rfl ?_
    cases h
    subst hk
    exact Eval.ret rfl rfl
   ·dsimp only [Sum.elim] at h
    refine ev_j_search_l66 R scr _ (Q.mk p746.f0 p746.f1 p746.f2 p746.f3 p746.f4 p746.f5 p746.f6 p746.f7 p746.f8 p746.f9 p746.f10 p746.f11 p746.f12 p746.f13 p746.f14 p746.f15 p746.f16 p746.f17 p746.f18 p746.f19 p746.f20 p746.f21 (wr p746.f22 (0:Int32) (0:Int32)) p746.f23 p746.f24 p746.f25 p746.f26 p746.f27 p746.f28 p746.f29 p746.f30 p746.f31 p746.f32) (0:Int32) (0:Int32) (0:Int32) hq830 ?_
    show Eval own_P 19 221 [none, none, none, none, none] [] (W1 scr p835 R) out
    refine Eval.iconst (x := 0) rfl rfl ?_
    cases h
    subst hk
    exact Eval.ret rfl rfl
def j_check (s : Q) : Option (Int32 × Q) := ((j_countInvocations s).bind fun p648 => (if (6:Int32) < p648 then some ((-1:Int32), s) else ((j_parseOps s).bind fun p704 => ((j_buildPreds p704).bind fun p737 => ((j_search p737).bind fun p838 => some (p838.1, p838.2))))))
set_option maxRecDepth 100000 in
theorem ev_j_check (R : AHeap) (scr : List Int32) (s : Q) {res : Int32 × Q} {out : Option Value × AHeap} (h : j_check s = some res) (hk : out = (some (.int res.1), (W1 scr res.2 R))) : Eval own_P 15 0 [some (.ref 1), none] [] (W1 scr s R) out := by
 rw [j_check] at h
 refine Eval.aload_n rfl rfl ?_
 obtain ⟨p648, hq649, h⟩ := bind_some h
 refine Eval.callI (rest := []) (x := p648) (H1 := (W1 scr s R)) rfl rfl (ev_j_countInvocations R scr s hq649 rfl) ?_
 refine Eval.istore_n (L' := [some (.ref 1), some (.int p648)]) rfl rfl ?_
 refine Eval.iload_n rfl rfl ?_
 refine Eval.bipush (x := 6) rfl rfl ?_
 by_cases hc650 : (6:Int32) < p648
 ·rw [if_pos hc650] at h
  refine Eval.icmpF rfl (tlt hc650).2.2.2 ?_
  refine Eval.iconst (x := -1) rfl rfl ?_
  cases h
  subst hk
  exact Eval.ret rfl rfl
 ·rw [if_neg hc650] at h
  refine Eval.icmpT (t := 13) rfl rfl (flt hc650).2.2.2 ?_
  refine Eval.aload_n rfl rfl ?_
  obtain ⟨p704, hq705, h⟩ := bind_some h
  refine Eval.callN (rest := []) (H1 := (W1 scr p704 R)) rfl rfl (ev_j_parseOps R scr s hq705 rfl) ?_
  refine Eval.aload_n rfl rfl ?_
  obtain ⟨p737, hq738, h⟩ := bind_some h
  refine Eval.callN (rest := []) (H1 := (W1 scr p737 R)) rfl rfl (ev_j_buildPreds R scr p704 hq738 rfl) ?_
  refine Eval.aload_n rfl rfl ?_
  obtain ⟨p838, hq839, h⟩ := bind_some h
  refine Eval.callI (rest := []) (x := p838.1) (H1 := (W1 scr p838.2 R)) rfl rfl (ev_j_search R scr p737 hq839 rfl) ?_
  cases h
  subst hk
  exact Eval.ret rfl rfl
abbrev j_countInvocations_l4_K_2 (R : AHeap) (scr : List Int32) (c1 s : Q) (res : Int32) (out : Option Value × AHeap) : Prop := Eval own_P 16 47 [none, some (.int res), none] [] (W2 scr c1 s R) out

set_option maxRecDepth 100000 in
theorem ev_j_countInvocations_b41_2 (R : AHeap) (scr : List Int32) (c1 : Q) (go_ : Q → Int32 → Int32 → Option (Int32)) (hrec : ∀ (s : Q) (v1 v2 : Int32) {res : Int32} {out : Option Value × AHeap}, go_ s v1 v2 = some res → j_countInvocations_l4_K_2 R scr c1 s res out → Eval own_P 16 4 [some (.ref 26), some (.int v1), some (.int v2)] [] (W2 scr c1 s R) out) (s : Q) (v1 v2 : Int32) {res : Int32} {out : Option Value × AHeap} (h : j_countInvocations_b41 go_ s v1 v2 = some res) (hk : j_countInvocations_l4_K_2 R scr c1 s res out) : Eval own_P 16 41 [some (.ref 26), some (.int v1), some (.int v2)] [] (W2 scr c1 s R) out := by
 rw [j_countInvocations_b41] at h
 refine Eval.iinc (L' := [some (.ref 26), some (.int v1), some (.int (v2 + (1:Int32)))]) rfl rfl rfl ?_
 refine Eval.goto (t := 4) rfl rfl ?_
 exact hrec _ _ _ h hk
set_option maxRecDepth 100000 in
theorem ev_j_countInvocations_b38_2 (R : AHeap) (scr : List Int32) (c1 : Q) (go_ : Q → Int32 → Int32 → Option (Int32)) (hrec : ∀ (s : Q) (v1 v2 : Int32) {res : Int32} {out : Option Value × AHeap}, go_ s v1 v2 = some res → j_countInvocations_l4_K_2 R scr c1 s res out → Eval own_P 16 4 [some (.ref 26), some (.int v1), some (.int v2)] [] (W2 scr c1 s R) out) (s : Q) (v1 v2 : Int32) {res : Int32} {out : Option Value × AHeap} (h : j_countInvocations_b38 go_ s v1 v2 = some res) (hk : j_countInvocations_l4_K_2 R scr c1 s res out) : Eval own_P 16 38 [some (.ref 26), some (.int v1), some (.int v2)] [] (W2 scr c1 s R) out := by
 rw [j_countInvocations_b38] at h
 refine Eval.iinc (L' := [some (.ref 26), some (.int (v1 + (1:Int32))), some (.int v2)]) rfl rfl rfl ?_
 exact ev_j_countInvocations_b41_2 R scr c1 _ hrec s (v1 + (1:Int32)) v2 h hk
set_option maxRecDepth 100000 in
theorem ev_j_countInvocations_l4_2 (R : AHeap) (scr : List Int32) (c1 : Q) : ∀ (n : Nat) (s : Q) (v1 v2 : Int32) {res : Int32} {out : Option Value × AHeap}, j_countInvocations_l4 n s v1 v2 = some res → j_countInvocations_l4_K_2 R scr c1 s res out → Eval own_P 16 4 [some (.ref 26), some (.int v1), some (.int v2)] [] (W2 scr c1 s R) out := by
 intro n
 induction n with
 | zero => intro _ _ _ res out h hk; cases h
 | succ n hrec =>
  intro s v1 v2 res out h hk
  rw [j_countInvocations_l4] at h
  refine Eval.iload_n rfl rfl ?_
  refine Eval.bipush (x := 64) rfl rfl ?_
  by_cases hc843 : v2 < (64:Int32)
  ·rw [if_pos hc843] at h
   refine Eval.icmpF rfl (tlt hc843).2.1 ?_
   refine Eval.iload_n rfl rfl ?_
   refine Eval.aload_n rfl rfl ?_
   refine Eval.getfield rfl rfl own_g2_histLen ?_
   by_cases hc844 : v2 < s.f29
   ·rw [if_pos hc844] at h
    refine Eval.icmpF rfl (tlt hc844).2.1 ?_
    refine Eval.aload_n rfl rfl ?_
    refine Eval.getfield rfl rfl own_g2_evKind ?_
    refine Eval.iload_n rfl rfl ?_
    obtain ⟨hb845, h⟩ := ite_some h
    refine Eval.iaload rfl own_a2_evKind hb845 ?_
    refine Eval.iconst (x := 1) rfl rfl ?_
    by_cases hc847 : (rd s.f8 v2) = (1:Int32)
    ·rw [if_pos hc847] at h
     refine Eval.icmpT (t := 38) rfl rfl (teq hc847).1 ?_
     exact ev_j_countInvocations_b38_2 R scr c1 _ hrec s v1 v2 h hk
    ·rw [if_neg hc847] at h
     refine Eval.icmpF rfl (feq hc847).1 ?_
     refine Eval.aload_n rfl rfl ?_
     refine Eval.getfield rfl rfl own_g2_evKind ?_
     refine Eval.iload_n rfl rfl ?_
     obtain ⟨hb848, h⟩ := ite_some h
     refine Eval.iaload rfl own_a2_evKind hb848 ?_
     refine Eval.iconst (x := 2) rfl rfl ?_
     suffices hJ850 : Eval own_P 16 41 [some (.ref 26), some (.int (if (rd s.f8 v2) = (2:Int32) then (v1 + (1:Int32)) else v1)), some (.int v2)] [] (W2 scr c1 s R) out by
      by_cases hc849 : (rd s.f8 v2) = (2:Int32)
      ·refine Eval.icmpF rfl (teq hc849).2 ?_
       refine Eval.iinc (L' := [some (.ref 26), some (.int (v1 + (1:Int32))), some (.int v2)]) rfl rfl rfl ?_
       exact (Eval.conv hJ850 (by simp only [if_pos hc849] <;> rfl) rfl)
      ·refine Eval.icmpT (t := 41) rfl rfl (feq hc849).2 ?_
       exact (Eval.conv hJ850 (by simp only [if_neg hc849] <;> rfl) rfl)
     exact ev_j_countInvocations_b41_2 R scr c1 _ hrec s (if (rd s.f8 v2) = (2:Int32) then (v1 + (1:Int32)) else v1) v2 h hk
   ·rw [if_neg hc844] at h
    refine Eval.icmpT (t := 47) rfl rfl (flt hc844).2.1 ?_
    cases h
    refine Eval.weak (lw_mk 2 _) ?_
    exact hk
  ·rw [if_neg hc843] at h
   refine Eval.icmpT (t := 47) rfl rfl (flt hc843).2.1 ?_
   cases h
   refine Eval.weak (lw_mk 2 _) ?_
   exact hk
set_option maxRecDepth 100000 in
theorem ev_j_countInvocations_2 (R : AHeap) (scr : List Int32) (c1 s : Q) {res : Int32} {out : Option Value × AHeap} (h : j_countInvocations s = some res) (hk : out = (some (.int res), (W2 scr c1 s R))) : Eval own_P 16 0 [some (.ref 26), none, none] [] (W2 scr c1 s R) out := by
 rw [j_countInvocations] at h
 refine Eval.iconst (x := 0) rfl rfl ?_
 refine Eval.istore_n (L' := [some (.ref 26), some (.int 0), none]) rfl rfl ?_
 refine Eval.iconst (x := 0) rfl rfl ?_
 refine Eval.istore_n (L' := [some (.ref 26), some (.int 0), some (.int 0)]) rfl rfl ?_
 obtain ⟨p851, hq852, h⟩ := bind_some h
 refine ev_j_countInvocations_l4_2 R scr c1 _ s (0:Int32) (0:Int32) hq852 ?_
 show Eval own_P 16 47 [none, some (.int p851), none] [] (W2 scr c1 s R) out
 refine Eval.iload_n rfl rfl ?_
 cases h
 subst hk
 exact Eval.ret rfl rfl
abbrev j_parseOps_l7_K_2 (R : AHeap) (scr : List Int32) (c1 res : Q) (out : Option Value × AHeap) : Prop := Eval own_P 17 25 [some (.ref 26), none, none] [] (W2 scr c1 res R) out

set_option maxRecDepth 100000 in
theorem ev_j_parseOps_l7_2 (R : AHeap) (scr : List Int32) (c1 : Q) : ∀ (n : Nat) (s : Q) (v1 : Int32) {res : Q} {out : Option Value × AHeap}, j_parseOps_l7 n s v1 = some res → j_parseOps_l7_K_2 R scr c1 res out → Eval own_P 17 7 [some (.ref 26), some (.int v1), none] [] (W2 scr c1 s R) out := by
 intro n
 induction n with
 | zero => intro _ _ res out h hk; cases h
 | succ n hrec =>
  intro s v1 res out h hk
  rw [j_parseOps_l7] at h
  refine Eval.iload_n rfl rfl ?_
  refine Eval.iconst (x := 4) rfl rfl ?_
  by_cases hc856 : v1 < (4:Int32)
  ·rw [if_pos hc856] at h
   refine Eval.icmpF rfl (tlt hc856).2.1 ?_
   refine Eval.aload_n rfl rfl ?_
   refine Eval.getfield rfl rfl own_g2_openOp ?_
   refine Eval.iload_n rfl rfl ?_
   refine Eval.iconst (x := -1) rfl rfl ?_
   obtain ⟨hb857, h⟩ := ite_some h
   refine Eval.iastore rfl rfl own_a2_openOp hb857 own_s2_openOp ?_
   refine Eval.iinc (L' := [some (.ref 26), some (.int (v1 + (1:Int32))), none]) rfl rfl rfl ?_
   refine Eval.goto (t := 7) rfl rfl ?_
   refine Eval.heap own_mk2_01 ?_
   exact hrec _ _ h hk
  ·rw [if_neg hc856] at h
   refine Eval.icmpT (t := 25) rfl rfl (flt hc856).2.1 ?_
   cases h
   refine Eval.weak (lw_mk 1 _) ?_
   exact hk
abbrev j_parseOps_l27_K_2 (R : AHeap) (scr : List Int32) (c1 res : Q) (out : Option Value × AHeap) : Prop := Eval own_P 17 101 [none, none, none] [] (W2 scr c1 res R) out

set_option maxRecDepth 100000 in
theorem ev_j_parseOps_b95_2 (R : AHeap) (scr : List Int32) (c1 : Q) (go_ : Q → Int32 → Option (Q)) (hrec : ∀ (s : Q) (v1 : Int32) {res : Q} {out : Option Value × AHeap}, go_ s v1 = some res → j_parseOps_l27_K_2 R scr c1 res out → Eval own_P 17 27 [some (.ref 26), some (.int v1), none] [] (W2 scr c1 s R) out) (s : Q) (v1 : Int32) {res : Q} {out : Option Value × AHeap} (h : j_parseOps_b95 go_ s v1 = some res) (hk : j_parseOps_l27_K_2 R scr c1 res out) : Eval own_P 17 95 [some (.ref 26), some (.int v1), none] [] (W2 scr c1 s R) out := by
 rw [j_parseOps_b95] at h
 refine Eval.iinc (L' := [some (.ref 26), some (.int (v1 + (1:Int32))), none]) rfl rfl rfl ?_
 refine Eval.goto (t := 27) rfl rfl ?_
 exact hrec _ _ h hk
set_option maxRecDepth 100000 in
theorem ev_j_addOp_b42_2 (R : AHeap) (scr : List Int32) (c1 s : Q) (v1 v2 : Int32) (v3 w1 w2 : Int32) {res : Q} {out : Option Value × AHeap} (h : j_addOp_b42 s v1 v2 v3 w1 w2 = some res) (hk : out = (none, (W2 scr c1 res R))) : Eval own_P 24 42 [some (.ref 26), some (.int v1), some (.int v2), some (.int v3)] [.int w2, .int w1, .ref 39] (W2 scr c1 s R) out := by
 rw [j_addOp_b42] at h
 obtain ⟨hb877, h⟩ := ite_some h
 refine Eval.iastore rfl rfl own_a2_opKind hb877 own_s2_opKind ?_
 refine Eval.aload_n rfl rfl ?_
 refine Eval.getfield rfl rfl own_g2_opArg ?_
 refine Eval.iload_n rfl rfl ?_
 refine Eval.aload_n rfl rfl ?_
 refine Eval.getfield rfl rfl own_g2_evVal ?_
 refine Eval.iload_n rfl rfl ?_
 obtain ⟨hb878, h⟩ := ite_some h
 refine Eval.iaload rfl own_a2_evVal hb878 ?_
 obtain ⟨hb879, h⟩ := ite_some h
 refine Eval.iastore rfl rfl own_a2_opArg hb879 own_s2_opArg ?_
 refine Eval.aload_n rfl rfl ?_
 refine Eval.getfield rfl rfl own_g2_opInv ?_
 refine Eval.iload_n rfl rfl ?_
 refine Eval.iload_n rfl rfl ?_
 obtain ⟨hb880, h⟩ := ite_some h
 refine Eval.iastore rfl rfl own_a2_opInv hb880 own_s2_opInv ?_
 refine Eval.aload_n rfl rfl ?_
 refine Eval.getfield rfl rfl own_g2_opRes ?_
 refine Eval.iload_n rfl rfl ?_
 refine Eval.iconst (x := -1) rfl rfl ?_
 obtain ⟨hb881, h⟩ := ite_some h
 refine Eval.iastore rfl rfl own_a2_opRes hb881 own_s2_opRes ?_
 refine Eval.aload_n rfl rfl ?_
 refine Eval.getfield rfl rfl own_g2_opStatus ?_
 refine Eval.iload_n rfl rfl ?_
 refine Eval.iconst (x := 0) rfl rfl ?_
 obtain ⟨hb882, h⟩ := ite_some h
 refine Eval.iastore rfl rfl own_a2_opStatus hb882 own_s2_opStatus ?_
 refine Eval.aload_n rfl rfl ?_
 refine Eval.getfield rfl rfl own_g2_opRVal ?_
 refine Eval.iload_n rfl rfl ?_
 refine Eval.iconst (x := 0) rfl rfl ?_
 obtain ⟨hb883, h⟩ := ite_some h
 refine Eval.iastore rfl rfl own_a2_opRVal hb883 own_s2_opRVal ?_
 refine Eval.aload_n rfl rfl ?_
 refine Eval.getfield rfl rfl own_g2_openOp ?_
 refine Eval.iload_n rfl rfl ?_
 refine Eval.iload_n rfl rfl ?_
 obtain ⟨hb884, h⟩ := ite_some h
 refine Eval.iastore rfl rfl own_a2_openOp hb884 own_s2_openOp ?_
 refine Eval.aload_n rfl rfl ?_
 refine Eval.dupR rfl ?_
 refine Eval.getfield rfl rfl own_g2_opCount ?_
 refine Eval.iconst (x := 1) rfl rfl ?_
 refine Eval.iadd rfl ?_
 refine Eval.putfield rfl rfl own_p2_opCount ?_
 cases h
 subst hk
 exact Eval.retH own_mk2_01 rfl rfl
set_option maxRecDepth 100000 in
theorem ev_j_addOp_2 (R : AHeap) (scr : List Int32) (c1 s : Q) (v1 v2 : Int32) {res : Q} {out : Option Value × AHeap} (h : j_addOp s v1 v2 = some res) (hk : out = (none, (W2 scr c1 res R))) : Eval own_P 24 0 [some (.ref 26), some (.int v1), some (.int v2), none] [] (W2 scr c1 s R) out := by
 rw [j_addOp] at h
 refine Eval.aload_n rfl rfl ?_
 refine Eval.getfield rfl rfl own_g2_opCount ?_
 by_cases hc872 : s.f31 < (0:Int32)
 ·rw [if_pos hc872] at h
  refine Eval.ifT (t := 16) rfl rfl (tlt hc872).1 ?_
  cases h
  subst hk
  exact Eval.ret rfl rfl
 ·rw [if_neg hc872] at h
  refine Eval.ifF rfl (flt hc872).1 ?_
  refine Eval.aload_n rfl rfl ?_
  refine Eval.getfield rfl rfl own_g2_opCount ?_
  refine Eval.bipush (x := 6) rfl rfl ?_
  by_cases hc873 : s.f31 < (6:Int32)
  ·rw [if_pos hc873] at h
   refine Eval.icmpT (t := 17) rfl rfl (tlt hc873).1 ?_
   refine Eval.aload_n rfl rfl ?_
   refine Eval.getfield rfl rfl own_g2_opCount ?_
   refine Eval.istore_n (L' := [some (.ref 26), some (.int v1), some (.int v2), some (.int s.f31)]) rfl rfl ?_
   refine Eval.aload_n rfl rfl ?_
   refine Eval.getfield rfl rfl own_g2_opKind ?_
   refine Eval.iload_n rfl rfl ?_
   refine Eval.aload_n rfl rfl ?_
   refine Eval.getfield rfl rfl own_g2_evKind ?_
   refine Eval.iload_n rfl rfl ?_
   obtain ⟨hb874, h⟩ := ite_some h
   refine Eval.iaload rfl own_a2_evKind hb874 ?_
   refine Eval.iconst (x := 1) rfl rfl ?_
   suffices hJ876 : Eval own_P 24 42 [some (.ref 26), some (.int v1), some (.int v2), some (.int s.f31)] [.int (if (rd s.f8 v1) = (1:Int32) then (1:Int32) else (2:Int32)), .int s.f31, .ref 39] (W2 scr c1 s R) out by
    by_cases hc875 : (rd s.f8 v1) = (1:Int32)
    ·refine Eval.icmpF rfl (teq hc875).2 ?_
     refine Eval.iconst (x := 1) rfl rfl ?_
     refine Eval.goto (t := 42) rfl rfl ?_
     exact (Eval.conv hJ876 rfl (by simp only [if_pos hc875]))
    ·refine Eval.icmpT (t := 41) rfl rfl (feq hc875).2 ?_
     refine Eval.iconst (x := 2) rfl rfl ?_
     exact (Eval.conv hJ876 rfl (by simp only [if_neg hc875]))
   exact ev_j_addOp_b42_2 R scr c1 s v1 v2 s.f31 s.f31 (if (rd s.f8 v1) = (1:Int32) then (1:Int32) else (2:Int32)) h hk
  ·rw [if_neg hc873] at h
   refine Eval.icmpF rfl (flt hc873).1 ?_
   cases h
   subst hk
   exact Eval.ret rfl rfl
set_option maxRecDepth 100000 in
theorem ev_j_parseOps_b80_2 (R : AHeap) (scr : List Int32) (c1 : Q) (go_ : Q → Int32 → Option (Q)) (hrec : ∀ (s : Q) (v1 : Int32) {res : Q} {out : Option Value × AHeap}, go_ s v1 = some res → j_parseOps_l27_K_2 R scr c1 res out → Eval own_P 17 27 [some (.ref 26), some (.int v1), none] [] (W2 scr c1 s R) out) (s : Q) (v1 v2 : Int32) {res : Q} {out : Option Value × AHeap} (h : j_parseOps_b80 go_ s v1 v2 = some res) (hk : j_parseOps_l27_K_2 R scr c1 res out) : Eval own_P 17 80 [some (.ref 26), some (.int v1), some (.int v2)] [] (W2 scr c1 s R) out := by
 rw [j_parseOps_b80] at h
 refine Eval.aload_n rfl rfl ?_
 refine Eval.iload_n rfl rfl ?_
 refine Eval.iload_n rfl rfl ?_
 obtain ⟨p885, hq886, h⟩ := bind_some h
 refine Eval.callN (rest := []) (H1 := (W2 scr c1 p885 R)) rfl rfl (ev_j_addOp_2 R scr c1 s v1 v2 hq886 rfl) ?_
 refine Eval.goto (t := 95) rfl rfl ?_
 refine Eval.weak (lw_mk 3 _) ?_
 exact ev_j_parseOps_b95_2 R scr c1 _ hrec p885 v1 h hk
set_option maxRecDepth 100000 in
theorem ev_j_closeOp_b59_2 (R : AHeap) (scr : List Int32) (c1 s : Q) (v1 v2 : Int32) (v3 w1 w2 : Int32) {res : Q} {out : Option Value × AHeap} (h : j_closeOp_b59 s v1 v2 v3 w1 w2 = some res) (hk : out = (none, (W2 scr c1 res R))) : Eval own_P 32 59 [some (.ref 26), some (.int v1), some (.int v2), some (.int v3), none] [.int w2, .int w1, .ref 43] (W2 scr c1 s R) out := by
 rw [j_closeOp_b59] at h
 obtain ⟨hb899, h⟩ := ite_some h
 refine Eval.iastore rfl rfl own_a2_opStatus hb899 own_s2_opStatus ?_
 refine Eval.aload_n rfl rfl ?_
 refine Eval.getfield rfl rfl own_g2_opRVal ?_
 refine Eval.iload_n rfl rfl ?_
 refine Eval.aload_n rfl rfl ?_
 refine Eval.getfield rfl rfl own_g2_evVal ?_
 refine Eval.iload_n rfl rfl ?_
 obtain ⟨hb900, h⟩ := ite_some h
 refine Eval.iaload rfl own_a2_evVal hb900 ?_
 obtain ⟨hb901, h⟩ := ite_some h
 refine Eval.iastore rfl rfl own_a2_opRVal hb901 own_s2_opRVal ?_
 refine Eval.aload_n rfl rfl ?_
 refine Eval.getfield rfl rfl own_g2_openOp ?_
 refine Eval.iload_n rfl rfl ?_
 refine Eval.iconst (x := -1) rfl rfl ?_
 obtain ⟨hb902, h⟩ := ite_some h
 refine Eval.iastore rfl rfl own_a2_openOp hb902 own_s2_openOp ?_
 cases h
 subst hk
 exact Eval.retH own_mk2_01 rfl rfl
set_option maxRecDepth 100000 in
theorem ev_j_closeOp_2 (R : AHeap) (scr : List Int32) (c1 s : Q) (v1 v2 : Int32) {res : Q} {out : Option Value × AHeap} (h : j_closeOp s v1 v2 = some res) (hk : out = (none, (W2 scr c1 res R))) : Eval own_P 32 0 [some (.ref 26), some (.int v1), some (.int v2), none, none] [] (W2 scr c1 s R) out := by
 rw [j_closeOp] at h
 refine Eval.aload_n rfl rfl ?_
 refine Eval.getfield rfl rfl own_g2_openOp ?_
 refine Eval.iload_n rfl rfl ?_
 obtain ⟨hb891, h⟩ := ite_some h
 refine Eval.iaload rfl own_a2_openOp hb891 ?_
 refine Eval.istore_n (L' := [some (.ref 26), some (.int v1), some (.int v2), some (.int (rd s.f19 v2)), none]) rfl rfl ?_
 refine Eval.iload_n rfl rfl ?_
 by_cases hc892 : (rd s.f19 v2) < (0:Int32)
 ·rw [if_pos hc892] at h
  refine Eval.ifT (t := 17) rfl rfl (tlt hc892).1 ?_
  cases h
  subst hk
  exact Eval.ret rfl rfl
 ·rw [if_neg hc892] at h
  refine Eval.ifF rfl (flt hc892).1 ?_
  refine Eval.iload_n rfl rfl ?_
  refine Eval.bipush (x := 6) rfl rfl ?_
  by_cases hc893 : (rd s.f19 v2) < (6:Int32)
  ·rw [if_pos hc893] at h
   refine Eval.icmpT (t := 18) rfl rfl (tlt hc893).1 ?_
   refine Eval.aload_n rfl rfl ?_
   refine Eval.getfield rfl rfl own_g2_evKind ?_
   refine Eval.iload_n rfl rfl ?_
   obtain ⟨hb894, h⟩ := ite_some h
   refine Eval.iaload rfl own_a2_evKind hb894 ?_
   refine Eval.istore (L' := [some (.ref 26), some (.int v1), some (.int v2), some (.int (rd s.f19 v2)), some (.int (rd s.f8 v1))]) rfl rfl ?_
   refine Eval.aload_n rfl rfl ?_
   refine Eval.getfield rfl rfl own_g2_opRes ?_
   refine Eval.iload_n rfl rfl ?_
   refine Eval.iload_n rfl rfl ?_
   obtain ⟨hb895, h⟩ := ite_some h
   refine Eval.iastore rfl rfl own_a2_opRes hb895 own_s2_opRes ?_
   refine Eval.aload_n rfl rfl ?_
   refine Eval.getfield rfl rfl own_g2_opStatus ?_
   refine Eval.iload_n rfl rfl ?_
   refine Eval.iload rfl rfl ?_
   refine Eval.iconst (x := 4) rfl rfl ?_
   suffices hJ898 : Eval own_P 32 59 [some (.ref 26), some (.int v1), some (.int v2), some (.int (rd s.f19 v2)), none] [.int (if (rd s.f8 v1) = (4:Int32) then (2:Int32) else (if (rd s.f8 v1) = (5:Int32) then (3:Int32) else (1:Int32))), .int (rd s.f19 v2), .ref 43] (C2 scr c1.f0 c1.f1 c1.f2 c1.f3 c1.f4 c1.f5 c1.f6 c1.f7 c1.f8 c1.f9 c1.f10 c1.f11 c1.f12 c1.f13 c1.f14 c1.f15 c1.f16 c1.f17 c1.f18 c1.f19 c1.f20 c1.f21 c1.f22 c1.f23 c1.f24 c1.f25 c1.f26 c1.f27 c1.f28 c1.f29 c1.f30 c1.f31 c1.f32 s.f0 s.f1 s.f2 s.f3 s.f4 s.f5 s.f6 s.f7 s.f8 s.f9 s.f10 s.f11 s.f12 s.f13 s.f14 (wr s.f15 (rd s.f19 v2) v1) s.f16 s.f17 s.f18 s.f19 s.f20 s.f21 s.f22 s.f23 s.f24 s.f25 s.f26 s.f27 s.f28 s.f29 s.f30 s.f31 s.f32 R) out by
    by_cases hc896 : (rd s.f8 v1) = (4:Int32)
    ·refine Eval.icmpF rfl (teq hc896).2 ?_
     refine Eval.iconst (x := 2) rfl rfl ?_
     refine Eval.goto (t := 59) rfl rfl ?_
     refine Eval.weak (lw_mk 15 _) ?_
     exact (Eval.conv hJ898 rfl (by simp only [if_pos hc896]))
    ·refine Eval.icmpT (t := 48) rfl rfl (feq hc896).2 ?_
     refine Eval.iload rfl rfl ?_
     refine Eval.iconst (x := 5) rfl rfl ?_
     by_cases hc897 : (rd s.f8 v1) = (5:Int32)
     ·refine Eval.icmpF rfl (teq hc897).2 ?_
      refine Eval.iconst (x := 3) rfl rfl ?_
      refine Eval.goto (t := 59) rfl rfl ?_
      refine Eval.weak (lw_mk 15 _) ?_
      exact (Eval.conv hJ898 rfl (by simp only [if_neg hc896, if_pos hc897]))
     ·refine Eval.icmpT (t := 58) rfl rfl (feq hc897).2 ?_
      refine Eval.iconst (x := 1) rfl rfl ?_
      refine Eval.weak (lw_mk 15 _) ?_
      exact (Eval.conv hJ898 rfl (by simp only [if_neg hc896, if_neg hc897]))
   refine Eval.heap own_mk2_01 ?_
   exact ev_j_closeOp_b59_2 R scr c1 (Q.mk s.f0 s.f1 s.f2 s.f3 s.f4 s.f5 s.f6 s.f7 s.f8 s.f9 s.f10 s.f11 s.f12 s.f13 s.f14 (wr s.f15 (rd s.f19 v2) v1) s.f16 s.f17 s.f18 s.f19 s.f20 s.f21 s.f22 s.f23 s.f24 s.f25 s.f26 s.f27 s.f28 s.f29 s.f30 s.f31 s.f32) v1 v2 (rd s.f19 v2) (rd s.f19 v2) (if (rd s.f8 v1) = (4:Int32) then (2:Int32) else (if (rd s.f8 v1) = (5:Int32) then (3:Int32) else (1:Int32))) h hk
  ·rw [if_neg hc893] at h
   refine Eval.icmpF rfl (flt hc893).1 ?_
   cases h
   subst hk
   exact Eval.ret rfl rfl
set_option maxRecDepth 100000 in
theorem ev_j_parseOps_l27_2 (R : AHeap) (scr : List Int32) (c1 : Q) : ∀ (n : Nat) (s : Q) (v1 : Int32) {res : Q} {out : Option Value × AHeap}, j_parseOps_l27 n s v1 = some res → j_parseOps_l27_K_2 R scr c1 res out → Eval own_P 17 27 [some (.ref 26), some (.int v1), none] [] (W2 scr c1 s R) out := by
 intro n
 induction n with
 | zero => intro _ _ res out h hk; cases h
 | succ n hrec =>
  intro s v1 res out h hk
  rw [j_parseOps_l27] at h
  refine Eval.iload_n rfl rfl ?_
  refine Eval.bipush (x := 64) rfl rfl ?_
  by_cases hc861 : v1 < (64:Int32)
  ·rw [if_pos hc861] at h
   refine Eval.icmpF rfl (tlt hc861).2.1 ?_
   refine Eval.iload_n rfl rfl ?_
   refine Eval.aload_n rfl rfl ?_
   refine Eval.getfield rfl rfl own_g2_histLen ?_
   by_cases hc862 : v1 < s.f29
   ·rw [if_pos hc862] at h
    refine Eval.icmpF rfl (tlt hc862).2.1 ?_
    refine Eval.aload_n rfl rfl ?_
    refine Eval.getfield rfl rfl own_g2_evThread ?_
    refine Eval.iload_n rfl rfl ?_
    obtain ⟨hb863, h⟩ := ite_some h
    refine Eval.iaload rfl own_a2_evThread hb863 ?_
    refine Eval.istore_n (L' := [some (.ref 26), some (.int v1), some (.int (rd s.f9 v1))]) rfl rfl ?_
    refine Eval.iload_n rfl rfl ?_
    by_cases hc866 : (rd s.f9 v1) < (0:Int32)
    ·rw [if_pos hc866] at h
     refine Eval.ifT (t := 95) rfl rfl (tlt hc866).1 ?_
     refine Eval.weak (lw_mk 3 _) ?_
     exact ev_j_parseOps_b95_2 R scr c1 _ hrec s v1 h hk
    ·rw [if_neg hc866] at h
     refine Eval.ifF rfl (flt hc866).1 ?_
     refine Eval.iload_n rfl rfl ?_
     refine Eval.iconst (x := 3) rfl rfl ?_
     by_cases hc868 : (3:Int32) < (rd s.f9 v1)
     ·rw [if_pos hc868] at h
      refine Eval.icmpF rfl (tlt hc868).2.2.2 ?_
      refine Eval.goto (t := 95) rfl rfl ?_
      refine Eval.weak (lw_mk 3 _) ?_
      exact ev_j_parseOps_b95_2 R scr c1 _ hrec s v1 h hk
     ·rw [if_neg hc868] at h
      refine Eval.icmpT (t := 60) rfl rfl (flt hc868).2.2.2 ?_
      refine Eval.aload_n rfl rfl ?_
      refine Eval.getfield rfl rfl own_g2_evKind ?_
      refine Eval.iload_n rfl rfl ?_
      obtain ⟨hb869, h⟩ := ite_some h
      refine Eval.iaload rfl own_a2_evKind hb869 ?_
      refine Eval.iconst (x := 1) rfl rfl ?_
      by_cases hc871 : (rd s.f8 v1) = (1:Int32)
      ·rw [if_pos hc871] at h
       refine Eval.icmpT (t := 80) rfl rfl (teq hc871).1 ?_
       exact ev_j_parseOps_b80_2 R scr c1 _ hrec s v1 (rd s.f9 v1) h hk
      ·rw [if_neg hc871] at h
       refine Eval.icmpF rfl (feq hc871).1 ?_
       refine Eval.aload_n rfl rfl ?_
       refine Eval.getfield rfl rfl own_g2_evKind ?_
       refine Eval.iload_n rfl rfl ?_
       obtain ⟨hb888, h⟩ := ite_some h
       refine Eval.iaload rfl own_a2_evKind hb888 ?_
       refine Eval.iconst (x := 2) rfl rfl ?_
       by_cases hc890 : (rd s.f8 v1) = (2:Int32)
       ·rw [if_pos hc890] at h
        refine Eval.icmpF rfl (teq hc890).2 ?_
        exact ev_j_parseOps_b80_2 R scr c1 _ hrec s v1 (rd s.f9 v1) h hk
       ·rw [if_neg hc890] at h
        refine Eval.icmpT (t := 89) rfl rfl (feq hc890).2 ?_
        refine Eval.aload_n rfl rfl ?_
        refine Eval.iload_n rfl rfl ?_
        refine Eval.iload_n rfl rfl ?_
        obtain ⟨p903, hq904, h⟩ := bind_some h
        refine Eval.callN (rest := []) (H1 := (W2 scr c1 p903 R)) rfl rfl (ev_j_closeOp_2 R scr c1 s v1 (rd s.f9 v1) hq904 rfl) ?_
        refine Eval.weak (lw_mk 3 _) ?_
        exact ev_j_parseOps_b95_2 R scr c1 _ hrec p903 v1 h hk
   ·rw [if_neg hc862] at h
    refine Eval.icmpT (t := 101) rfl rfl (flt hc862).2.1 ?_
    cases h
    refine Eval.weak (lw_mk 0 _) ?_
    exact hk
  ·rw [if_neg hc861] at h
   refine Eval.icmpT (t := 101) rfl rfl (flt hc861).2.1 ?_
   cases h
   refine Eval.weak (lw_mk 0 _) ?_
   exact hk
set_option maxRecDepth 100000 in
theorem ev_j_parseOps_2 (R : AHeap) (scr : List Int32) (c1 s : Q) {res : Q} {out : Option Value × AHeap} (h : j_parseOps s = some res) (hk : out = (none, (W2 scr c1 res R))) : Eval own_P 17 0 [some (.ref 26), none, none] [] (W2 scr c1 s R) out := by
 rw [j_parseOps] at h
 refine Eval.aload_n rfl rfl ?_
 refine Eval.iconst (x := 0) rfl rfl ?_
 refine Eval.putfield rfl rfl own_p2_opCount ?_
 refine Eval.iconst (x := 0) rfl rfl ?_
 refine Eval.istore_n (L' := [some (.ref 26), some (.int 0), none]) rfl rfl ?_
 refine Eval.heap own_mk2_01 ?_
 obtain ⟨p858, hq859, h⟩ := bind_some h
 refine ev_j_parseOps_l7_2 R scr c1 _ (Q.mk s.f0 s.f1 s.f2 s.f3 s.f4 s.f5 s.f6 s.f7 s.f8 s.f9 s.f10 s.f11 s.f12 s.f13 s.f14 s.f15 s.f16 s.f17 s.f18 s.f19 s.f20 s.f21 s.f22 s.f23 s.f24 s.f25 s.f26 s.f27 s.f28 s.f29 s.f30 (0:Int32) s.f32) (0:Int32) hq859 ?_
 show Eval own_P 17 25 [some (.ref 26), none, none] [] (W2 scr c1 p858 R) out
 refine Eval.iconst (x := 0) rfl rfl ?_
 refine Eval.istore_n (L' := [some (.ref 26), some (.int 0), none]) rfl rfl ?_
 obtain ⟨p906, hq907, h⟩ := bind_some h
 refine ev_j_parseOps_l27_2 R scr c1 _ p858 (0:Int32) hq907 ?_
 show Eval own_P 17 101 [none, none, none] [] (W2 scr c1 p906 R) out
 cases h
 subst hk
 exact Eval.ret rfl rfl
abbrev j_buildPreds_l7_K_2 (R : AHeap) (scr : List Int32) (c1 res : Q) (out : Option Value × AHeap) : Prop := Eval own_P 18 55 [some (.ref 26), none, none] [] (W2 scr c1 res R) out

set_option maxRecDepth 100000 in
theorem ev_j_buildPreds_b49_2 (R : AHeap) (scr : List Int32) (c1 : Q) (go_ : Q → Int32 → Option (Q)) (hrec : ∀ (s : Q) (v1 : Int32) {res : Q} {out : Option Value × AHeap}, go_ s v1 = some res → j_buildPreds_l7_K_2 R scr c1 res out → Eval own_P 18 7 [some (.ref 26), some (.int v1), none] [] (W2 scr c1 s R) out) (s : Q) (v1 : Int32) {res : Q} {out : Option Value × AHeap} (h : j_buildPreds_b49 go_ s v1 = some res) (hk : j_buildPreds_l7_K_2 R scr c1 res out) : Eval own_P 18 49 [some (.ref 26), some (.int v1), none] [] (W2 scr c1 s R) out := by
 rw [j_buildPreds_b49] at h
 refine Eval.iinc (L' := [some (.ref 26), some (.int (v1 + (1:Int32))), none]) rfl rfl rfl ?_
 refine Eval.goto (t := 7) rfl rfl ?_
 exact hrec _ _ h hk
set_option maxRecDepth 100000 in
theorem ev_j_buildPreds_l7_2 (R : AHeap) (scr : List Int32) (c1 : Q) : ∀ (n : Nat) (s : Q) (v1 : Int32) {res : Q} {out : Option Value × AHeap}, j_buildPreds_l7 n s v1 = some res → j_buildPreds_l7_K_2 R scr c1 res out → Eval own_P 18 7 [some (.ref 26), some (.int v1), none] [] (W2 scr c1 s R) out := by
 intro n
 induction n with
 | zero => intro _ _ res out h hk; cases h
 | succ n hrec =>
  intro s v1 res out h hk
  rw [j_buildPreds_l7] at h
  refine Eval.iload_n rfl rfl ?_
  refine Eval.bipush (x := 6) rfl rfl ?_
  by_cases hc912 : v1 < (6:Int32)
  ·rw [if_pos hc912] at h
   refine Eval.icmpF rfl (tlt hc912).2.1 ?_
   refine Eval.iload_n rfl rfl ?_
   refine Eval.aload_n rfl rfl ?_
   refine Eval.getfield rfl rfl own_g2_opCount ?_
   by_cases hc913 : v1 < s.f31
   ·rw [if_pos hc913] at h
    refine Eval.icmpF rfl (tlt hc913).2.1 ?_
    refine Eval.aload_n rfl rfl ?_
    refine Eval.getfield rfl rfl own_g2_predMask ?_
    refine Eval.iload_n rfl rfl ?_
    refine Eval.iconst (x := 0) rfl rfl ?_
    obtain ⟨hb914, h⟩ := ite_some h
    refine Eval.iastore rfl rfl own_a2_predMask hb914 own_s2_predMask ?_
    refine Eval.aload_n rfl rfl ?_
    refine Eval.getfield rfl rfl own_g2_opRes ?_
    refine Eval.iload_n rfl rfl ?_
    obtain ⟨hb915, h⟩ := ite_some h
    refine Eval.iaload rfl own_a2_opRes hb915 ?_
    by_cases hc917 : (rd s.f15 v1) < (0:Int32)
    ·rw [if_pos hc917] at h
     refine Eval.ifT (t := 49) rfl rfl (tlt hc917).1 ?_
     refine Eval.heap own_mk2_01 ?_
     exact ev_j_buildPreds_b49_2 R scr c1 _ hrec (Q.mk s.f0 s.f1 s.f2 s.f3 s.f4 s.f5 s.f6 s.f7 s.f8 s.f9 s.f10 s.f11 s.f12 s.f13 s.f14 s.f15 s.f16 s.f17 (wr s.f18 v1 (0:Int32)) s.f19 s.f20 s.f21 s.f22 s.f23 s.f24 s.f25 s.f26 s.f27 s.f28 s.f29 s.f30 s.f31 s.f32) v1 h hk
    ·rw [if_neg hc917] at h
     refine Eval.ifF rfl (flt hc917).1 ?_
     refine Eval.aload_n rfl rfl ?_
     refine Eval.dupR rfl ?_
     refine Eval.getfield rfl rfl own_g2_completeMask ?_
     refine Eval.iconst (x := 1) rfl rfl ?_
     refine Eval.iload_n rfl rfl ?_
     refine Eval.ishl rfl ?_
     refine Eval.ior rfl ?_
     refine Eval.putfield rfl rfl own_p2_completeMask ?_
     refine Eval.heap own_mk2_01 ?_
     exact ev_j_buildPreds_b49_2 R scr c1 _ hrec (Q.mk s.f0 s.f1 s.f2 s.f3 s.f4 s.f5 s.f6 s.f7 s.f8 s.f9 s.f10 s.f11 s.f12 s.f13 s.f14 s.f15 s.f16 s.f17 (wr s.f18 v1 (0:Int32)) s.f19 s.f20 s.f21 s.f22 s.f23 s.f24 s.f25 s.f26 s.f27 s.f28 s.f29 s.f30 s.f31 (s.f32 ||| (ish (1:Int32) v1))) v1 h hk
   ·rw [if_neg hc913] at h
    refine Eval.icmpT (t := 55) rfl rfl (flt hc913).2.1 ?_
    cases h
    refine Eval.weak (lw_mk 1 _) ?_
    exact hk
  ·rw [if_neg hc912] at h
   refine Eval.icmpT (t := 55) rfl rfl (flt hc912).2.1 ?_
   cases h
   refine Eval.weak (lw_mk 1 _) ?_
   exact hk
abbrev j_buildPreds_l57_K_2 (R : AHeap) (scr : List Int32) (c1 res : Q) (out : Option Value × AHeap) : Prop := Eval own_P 18 140 [none, none, none] [] (W2 scr c1 res R) out

abbrev j_buildPreds_l73_K_2 (R : AHeap) (scr : List Int32) (c1 : Q) (res : Int32 × Q) (out : Option Value × AHeap) : Prop := Eval own_P 18 134 [some (.ref 26), some (.int res.1), none] [] (W2 scr c1 res.2 R) out

set_option maxRecDepth 100000 in
theorem ev_j_buildPreds_b128_2 (R : AHeap) (scr : List Int32) (c1 : Q) (go_ : Q → Int32 → Int32 → Option (Int32 × Q)) (hrec : ∀ (s : Q) (v1 v2 : Int32) {res : Int32 × Q} {out : Option Value × AHeap}, go_ s v1 v2 = some res → j_buildPreds_l73_K_2 R scr c1 res out → Eval own_P 18 73 [some (.ref 26), some (.int v1), some (.int v2)] [] (W2 scr c1 s R) out) (s : Q) (v1 v2 : Int32) {res : Int32 × Q} {out : Option Value × AHeap} (h : j_buildPreds_b128 go_ s v1 v2 = some res) (hk : j_buildPreds_l73_K_2 R scr c1 res out) : Eval own_P 18 128 [some (.ref 26), some (.int v1), some (.int v2)] [] (W2 scr c1 s R) out := by
 rw [j_buildPreds_b128] at h
 refine Eval.iinc (L' := [some (.ref 26), some (.int v1), some (.int (v2 + (1:Int32)))]) rfl rfl rfl ?_
 refine Eval.goto (t := 73) rfl rfl ?_
 exact hrec _ _ _ h hk
set_option maxRecDepth 100000 in
theorem ev_j_buildPreds_l73_2 (R : AHeap) (scr : List Int32) (c1 : Q) : ∀ (n : Nat) (s : Q) (v1 v2 : Int32) {res : Int32 × Q} {out : Option Value × AHeap}, j_buildPreds_l73 n s v1 v2 = some res → j_buildPreds_l73_K_2 R scr c1 res out → Eval own_P 18 73 [some (.ref 26), some (.int v1), some (.int v2)] [] (W2 scr c1 s R) out := by
 intro n
 induction n with
 | zero => intro _ _ _ res out h hk; cases h
 | succ n hrec =>
  intro s v1 v2 res out h hk
  rw [j_buildPreds_l73] at h
  refine Eval.iload_n rfl rfl ?_
  refine Eval.bipush (x := 6) rfl rfl ?_
  by_cases hc923 : v2 < (6:Int32)
  ·rw [if_pos hc923] at h
   refine Eval.icmpF rfl (tlt hc923).2.1 ?_
   refine Eval.iload_n rfl rfl ?_
   refine Eval.aload_n rfl rfl ?_
   refine Eval.getfield rfl rfl own_g2_opCount ?_
   by_cases hc924 : v2 < s.f31
   ·rw [if_pos hc924] at h
    refine Eval.icmpF rfl (tlt hc924).2.1 ?_
    refine Eval.iload_n rfl rfl ?_
    refine Eval.iload_n rfl rfl ?_
    by_cases hc926 : v2 = v1
    ·rw [if_pos hc926] at h
     refine Eval.icmpT (t := 128) rfl rfl (teq hc926).1 ?_
     exact ev_j_buildPreds_b128_2 R scr c1 _ hrec s v1 v2 h hk
    ·rw [if_neg hc926] at h
     refine Eval.icmpF rfl (feq hc926).1 ?_
     refine Eval.aload_n rfl rfl ?_
     refine Eval.getfield rfl rfl own_g2_opRes ?_
     refine Eval.iload_n rfl rfl ?_
     obtain ⟨hb927, h⟩ := ite_some h
     refine Eval.iaload rfl own_a2_opRes hb927 ?_
     by_cases hc929 : (rd s.f15 v2) < (0:Int32)
     ·rw [if_pos hc929] at h
      refine Eval.ifT (t := 128) rfl rfl (tlt hc929).1 ?_
      exact ev_j_buildPreds_b128_2 R scr c1 _ hrec s v1 v2 h hk
     ·rw [if_neg hc929] at h
      refine Eval.ifF rfl (flt hc929).1 ?_
      refine Eval.aload_n rfl rfl ?_
      refine Eval.getfield rfl rfl own_g2_opRes ?_
      refine Eval.iload_n rfl rfl ?_
      obtain ⟨hb930, h⟩ := ite_some h
      refine Eval.iaload rfl own_a2_opRes hb930 ?_
      refine Eval.aload_n rfl rfl ?_
      refine Eval.getfield rfl rfl own_g2_opInv ?_
      refine Eval.iload_n rfl rfl ?_
      obtain ⟨hb931, h⟩ := ite_some h
      refine Eval.iaload rfl own_a2_opInv hb931 ?_
      by_cases hc933 : (rd s.f15 v2) < (rd s.f14 v1)
      ·rw [if_pos hc933] at h
       refine Eval.icmpF rfl (tlt hc933).2.1 ?_
       refine Eval.aload_n rfl rfl ?_
       refine Eval.getfield rfl rfl own_g2_predMask ?_
       refine Eval.iload_n rfl rfl ?_
       refine Eval.dup2 rfl ?_
       obtain ⟨hb934, h⟩ := ite_some h
       refine Eval.iaload rfl own_a2_predMask hb934 ?_
       refine Eval.iconst (x := 1) rfl rfl ?_
       refine Eval.iload_n rfl rfl ?_
       refine Eval.ishl rfl ?_
       refine Eval.ior rfl ?_
       obtain ⟨hb935, h⟩ := ite_some h
       refine Eval.iastore rfl rfl own_a2_predMask hb935 own_s2_predMask ?_
       refine Eval.heap own_mk2_01 ?_
       exact ev_j_buildPreds_b128_2 R scr c1 _ hrec (Q.mk s.f0 s.f1 s.f2 s.f3 s.f4 s.f5 s.f6 s.f7 s.f8 s.f9 s.f10 s.f11 s.f12 s.f13 s.f14 s.f15 s.f16 s.f17 (wr s.f18 v1 ((rd s.f18 v1) ||| (ish (1:Int32) v2))) s.f19 s.f20 s.f21 s.f22 s.f23 s.f24 s.f25 s.f26 s.f27 s.f28 s.f29 s.f30 s.f31 s.f32) v1 v2 h hk
      ·rw [if_neg hc933] at h
       refine Eval.icmpT (t := 128) rfl rfl (flt hc933).2.1 ?_
       exact ev_j_buildPreds_b128_2 R scr c1 _ hrec s v1 v2 h hk
   ·rw [if_neg hc924] at h
    refine Eval.icmpT (t := 134) rfl rfl (flt hc924).2.1 ?_
    cases h
    refine Eval.weak (lw_mk 3 _) ?_
    exact hk
  ·rw [if_neg hc923] at h
   refine Eval.icmpT (t := 134) rfl rfl (flt hc923).2.1 ?_
   cases h
   refine Eval.weak (lw_mk 3 _) ?_
   exact hk
set_option maxRecDepth 100000 in
theorem ev_j_buildPreds_l57_2 (R : AHeap) (scr : List Int32) (c1 : Q) : ∀ (n : Nat) (s : Q) (v1 : Int32) {res : Q} {out : Option Value × AHeap}, j_buildPreds_l57 n s v1 = some res → j_buildPreds_l57_K_2 R scr c1 res out → Eval own_P 18 57 [some (.ref 26), some (.int v1), none] [] (W2 scr c1 s R) out := by
 intro n
 induction n with
 | zero => intro _ _ res out h hk; cases h
 | succ n hrec =>
  intro s v1 res out h hk
  rw [j_buildPreds_l57] at h
  refine Eval.iload_n rfl rfl ?_
  refine Eval.bipush (x := 6) rfl rfl ?_
  by_cases hc921 : v1 < (6:Int32)
  ·rw [if_pos hc921] at h
   refine Eval.icmpF rfl (tlt hc921).2.1 ?_
   refine Eval.iload_n rfl rfl ?_
   refine Eval.aload_n rfl rfl ?_
   refine Eval.getfield rfl rfl own_g2_opCount ?_
   by_cases hc922 : v1 < s.f31
   ·rw [if_pos hc922] at h
    refine Eval.icmpF rfl (tlt hc922).2.1 ?_
    refine Eval.iconst (x := 0) rfl rfl ?_
    refine Eval.istore_n (L' := [some (.ref 26), some (.int v1), some (.int 0)]) rfl rfl ?_
    obtain ⟨p936, hq937, h⟩ := bind_some h
    refine ev_j_buildPreds_l73_2 R scr c1 _ s v1 (0:Int32) hq937 ?_
    show Eval own_P 18 134 [some (.ref 26), some (.int p936.1), none] [] (W2 scr c1 p936.2 R) out
    refine Eval.iinc (L' := [some (.ref 26), some (.int (p936.1 + (1:Int32))), none]) rfl rfl rfl ?_
    refine Eval.goto (t := 57) rfl rfl ?_
    exact hrec _ _ h hk
   ·rw [if_neg hc922] at h
    refine Eval.icmpT (t := 140) rfl rfl (flt hc922).2.1 ?_
    cases h
    refine Eval.weak (lw_mk 0 _) ?_
    exact hk
  ·rw [if_neg hc921] at h
   refine Eval.icmpT (t := 140) rfl rfl (flt hc921).2.1 ?_
   cases h
   refine Eval.weak (lw_mk 0 _) ?_
   exact hk
set_option maxRecDepth 100000 in
theorem ev_j_buildPreds_2 (R : AHeap) (scr : List Int32) (c1 s : Q) {res : Q} {out : Option Value × AHeap} (h : j_buildPreds s = some res) (hk : out = (none, (W2 scr c1 res R))) : Eval own_P 18 0 [some (.ref 26), none, none] [] (W2 scr c1 s R) out := by
 rw [j_buildPreds] at h
 refine Eval.aload_n rfl rfl ?_
 refine Eval.iconst (x := 0) rfl rfl ?_
 refine Eval.putfield rfl rfl own_p2_completeMask ?_
 refine Eval.iconst (x := 0) rfl rfl ?_
 refine Eval.istore_n (L' := [some (.ref 26), some (.int 0), none]) rfl rfl ?_
 refine Eval.heap own_mk2_01 ?_
 obtain ⟨p918, hq919, h⟩ := bind_some h
 refine ev_j_buildPreds_l7_2 R scr c1 _ (Q.mk s.f0 s.f1 s.f2 s.f3 s.f4 s.f5 s.f6 s.f7 s.f8 s.f9 s.f10 s.f11 s.f12 s.f13 s.f14 s.f15 s.f16 s.f17 s.f18 s.f19 s.f20 s.f21 s.f22 s.f23 s.f24 s.f25 s.f26 s.f27 s.f28 s.f29 s.f30 s.f31 (0:Int32)) (0:Int32) hq919 ?_
 show Eval own_P 18 55 [some (.ref 26), none, none] [] (W2 scr c1 p918 R) out
 refine Eval.iconst (x := 0) rfl rfl ?_
 refine Eval.istore_n (L' := [some (.ref 26), some (.int 0), none]) rfl rfl ?_
 obtain ⟨p939, hq940, h⟩ := bind_some h
 refine ev_j_buildPreds_l57_2 R scr c1 _ p918 (0:Int32) hq940 ?_
 show Eval own_P 18 140 [none, none, none] [] (W2 scr c1 p939 R) out
 cases h
 subst hk
 exact Eval.ret rfl rfl
abbrev j_search_l21_K_2 (R : AHeap) (scr : List Int32) (c1 res : Q) (out : Option Value × AHeap) : Prop := Eval own_P 19 53 [some (.ref 26), none, none, none, none] [] (W2 scr c1 res R) out

set_option maxRecDepth 100000 in
theorem ev_j_search_l21_2 (R : AHeap) (scr : List Int32) (c1 : Q) : ∀ (n : Nat) (s : Q) (v1 : Int32) {res : Q} {out : Option Value × AHeap}, j_search_l21 n s v1 = some res → j_search_l21_K_2 R scr c1 res out → Eval own_P 19 21 [some (.ref 26), some (.int v1), none, none, none] [] (W2 scr c1 s R) out := by
 intro n
 induction n with
 | zero => intro _ _ res out h hk; cases h
 | succ n hrec =>
  intro s v1 res out h hk
  rw [j_search_l21] at h
  refine Eval.iload_n rfl rfl ?_
  refine Eval.bipush (x := 8) rfl rfl ?_
  by_cases hc947 : v1 < (8:Int32)
  ·rw [if_pos hc947] at h
   refine Eval.icmpF rfl (tlt hc947).2.1 ?_
   refine Eval.iload_n rfl rfl ?_
   refine Eval.aload_n rfl rfl ?_
   refine Eval.getfield rfl rfl own_g2_snapLen ?_
   by_cases hc948 : v1 < s.f30
   ·rw [if_pos hc948] at h
    refine Eval.icmpF rfl (tlt hc948).2.1 ?_
    refine Eval.aload_n rfl rfl ?_
    refine Eval.getfield rfl rfl own_g2_qBuf ?_
    refine Eval.iload_n rfl rfl ?_
    refine Eval.aload_n rfl rfl ?_
    refine Eval.getfield rfl rfl own_g2_snap ?_
    refine Eval.iload_n rfl rfl ?_
    obtain ⟨hb949, h⟩ := ite_some h
    refine Eval.iaload rfl own_a2_snap hb949 ?_
    obtain ⟨hb950, h⟩ := ite_some h
    refine Eval.iastore rfl rfl own_a2_qBuf hb950 own_s2_qBuf ?_
    refine Eval.iinc (L' := [some (.ref 26), some (.int (v1 + (1:Int32))), none, none, none]) rfl rfl rfl ?_
    refine Eval.goto (t := 21) rfl rfl ?_
    refine Eval.heap own_mk2_01 ?_
    exact hrec _ _ h hk
   ·rw [if_neg hc948] at h
    refine Eval.icmpT (t := 53) rfl rfl (flt hc948).2.1 ?_
    cases h
    refine Eval.weak (lw_mk 1 _) ?_
    exact hk
  ·rw [if_neg hc947] at h
   refine Eval.icmpT (t := 53) rfl rfl (flt hc947).2.1 ?_
   cases h
   refine Eval.weak (lw_mk 1 _) ?_
   exact hk
abbrev j_search_l66_K_2 (R : AHeap) (scr : List Int32) (c1 : Q) (res : (Q) ⊕ ((Q) ⊕ (Q))) (out : Option Value × AHeap) : Prop := Sum.elim (fun res => Eval own_P 19 100 [none, none, none, none, none] [] (W2 scr c1 res R) out) (fun res => Sum.elim (fun res => Eval own_P 19 213 [none, none, none, none, none] [] (W2 scr c1 res R) out) (fun res => Eval own_P 19 221 [none, none, none, none, none] [] (W2 scr c1 res R) out) res) res

abbrev j_copyQueue_l25_K_2 (R : AHeap) (scr : List Int32) (c1 : Q) (res : (Int32 × Int32 × Q) ⊕ (Int32 × Int32 × Q)) (out : Option Value × AHeap) : Prop := Sum.elim (fun res => Eval own_P 35 39 [some (.ref 26), some (.int res.1), none, none, none, none, some (.int res.2.1), none] [] (W2 scr c1 res.2.2 R) out) (fun res => Eval own_P 35 70 [some (.ref 26), some (.int res.1), none, none, none, none, some (.int res.2.1), none] [] (W2 scr c1 res.2.2 R) out) res

set_option maxRecDepth 100000 in
theorem ev_j_copyQueue_l25_2 (R : AHeap) (scr : List Int32) (c1 : Q) : ∀ (n : Nat) (s : Q) (v1 v3 : Int32) (v4 v5 : Int32) (v6 v7 : Int32) {res : (Int32 × Int32 × Q) ⊕ (Int32 × Int32 × Q)} {out : Option Value × AHeap}, j_copyQueue_l25 n s v1 v3 v4 v5 v6 v7 = some res → j_copyQueue_l25_K_2 R scr c1 res out → Eval own_P 35 25 [some (.ref 26), some (.int v1), none, some (.int v3), some (.int v4), some (.int v5), some (.int v6), some (.int v7)] [] (W2 scr c1 s R) out := by
 intro n
 induction n with
 | zero => intro _ _ _ _ _ _ _ res out h hk; cases h
 | succ n hrec =>
  intro s v1 v3 v4 v5 v6 v7 res out h hk
  rw [j_copyQueue_l25] at h
  refine Eval.iload rfl rfl ?_
  refine Eval.bipush (x := 8) rfl rfl ?_
  by_cases hc976 : v7 < (8:Int32)
  ·rw [if_pos hc976] at h
   refine Eval.icmpF rfl (tlt hc976).2.1 ?_
   refine Eval.iload rfl rfl ?_
   refine Eval.iload rfl rfl ?_
   by_cases hc977 : v7 < v5
   ·rw [if_pos hc977] at h
    refine Eval.icmpT (t := 42) rfl rfl (tlt hc977).1 ?_
    refine Eval.aload_n rfl rfl ?_
    refine Eval.getfield rfl rfl own_g2_qBuf ?_
    refine Eval.iload rfl rfl ?_
    refine Eval.iload rfl rfl ?_
    refine Eval.iadd rfl ?_
    refine Eval.aload_n rfl rfl ?_
    refine Eval.getfield rfl rfl own_g2_qBuf ?_
    refine Eval.iload_n rfl rfl ?_
    refine Eval.iload rfl rfl ?_
    refine Eval.iadd rfl ?_
    obtain ⟨hb978, h⟩ := ite_some h
    refine Eval.iaload rfl own_a2_qBuf hb978 ?_
    obtain ⟨hb979, h⟩ := ite_some h
    refine Eval.iastore rfl rfl own_a2_qBuf hb979 own_s2_qBuf ?_
    refine Eval.iinc (L' := [some (.ref 26), some (.int v1), none, some (.int v3), some (.int v4), some (.int v5), some (.int (v6 + (1:Int32))), some (.int v7)]) rfl rfl rfl ?_
    refine Eval.iinc (L' := [some (.ref 26), some (.int v1), none, some (.int v3), some (.int v4), some (.int v5), some (.int (v6 + (1:Int32))), some (.int (v7 + (1:Int32)))]) rfl rfl rfl ?_
    refine Eval.goto (t := 25) rfl rfl ?_
    refine Eval.heap own_mk2_01 ?_
    exact hrec _ _ _ _ _ _ _ h hk
   ·rw [if_neg hc977] at h
    refine Eval.icmpF rfl (flt hc977).1 ?_
    cases h
    refine Eval.weak (lw_mk 67 _) ?_
    exact hk
  ·rw [if_neg hc976] at h
   refine Eval.icmpT (t := 70) rfl rfl (flt hc976).2.1 ?_
   cases h
   refine Eval.weak (lw_mk 67 _) ?_
   exact hk
set_option maxRecDepth 100000 in
theorem ev_j_copyQueue_b70_2 (R : AHeap) (scr : List Int32) (c1 s : Q) (v1 v6 : Int32) {res : Q} {out : Option Value × AHeap} (h : j_copyQueue_b70 s v1 v6 = some res) (hk : out = (none, (W2 scr c1 res R))) : Eval own_P 35 70 [some (.ref 26), some (.int v1), none, none, none, none, some (.int v6), none] [] (W2 scr c1 s R) out := by
 rw [j_copyQueue_b70] at h
 refine Eval.aload_n rfl rfl ?_
 refine Eval.getfield rfl rfl own_g2_qLen ?_
 refine Eval.iload_n rfl rfl ?_
 refine Eval.iconst (x := 1) rfl rfl ?_
 refine Eval.iadd rfl ?_
 refine Eval.iload rfl rfl ?_
 obtain ⟨hb985, h⟩ := ite_some h
 refine Eval.iastore rfl rfl own_a2_qLen hb985 own_s2_qLen ?_
 cases h
 subst hk
 exact Eval.retH own_mk2_01 rfl rfl
set_option maxRecDepth 100000 in
theorem ev_j_copyQueue_2 (R : AHeap) (scr : List Int32) (c1 s : Q) (v1 v2 : Int32) {res : Q} {out : Option Value × AHeap} (h : j_copyQueue s v1 v2 = some res) (hk : out = (none, (W2 scr c1 res R))) : Eval own_P 35 0 [some (.ref 26), some (.int v1), some (.int v2), none, none, none, none, none] [] (W2 scr c1 s R) out := by
 rw [j_copyQueue] at h
 refine Eval.iload_n rfl rfl ?_
 refine Eval.bipush (x := 8) rfl rfl ?_
 refine Eval.imul rfl ?_
 refine Eval.istore_n (L' := [some (.ref 26), some (.int v1), some (.int v2), some (.int (v1 * (8:Int32))), none, none, none, none]) rfl rfl ?_
 refine Eval.iload_n rfl rfl ?_
 refine Eval.bipush (x := 8) rfl rfl ?_
 refine Eval.iadd rfl ?_
 refine Eval.istore (L' := [some (.ref 26), some (.int v1), some (.int v2), some (.int (v1 * (8:Int32))), some (.int ((v1 * (8:Int32)) + (8:Int32))), none, none, none]) rfl rfl ?_
 refine Eval.aload_n rfl rfl ?_
 refine Eval.getfield rfl rfl own_g2_qLen ?_
 refine Eval.iload_n rfl rfl ?_
 obtain ⟨hb975, h⟩ := ite_some h
 refine Eval.iaload rfl own_a2_qLen hb975 ?_
 refine Eval.istore (L' := [some (.ref 26), some (.int v1), some (.int v2), some (.int (v1 * (8:Int32))), some (.int ((v1 * (8:Int32)) + (8:Int32))), some (.int (rd s.f21 v1)), none, none]) rfl rfl ?_
 refine Eval.iconst (x := 0) rfl rfl ?_
 refine Eval.istore (L' := [some (.ref 26), some (.int v1), some (.int v2), some (.int (v1 * (8:Int32))), some (.int ((v1 * (8:Int32)) + (8:Int32))), some (.int (rd s.f21 v1)), some (.int 0), none]) rfl rfl ?_
 refine Eval.iload_n rfl rfl ?_
 refine Eval.istore (L' := [some (.ref 26), some (.int v1), some (.int v2), some (.int (v1 * (8:Int32))), some (.int ((v1 * (8:Int32)) + (8:Int32))), some (.int (rd s.f21 v1)), some (.int 0), some (.int v2)]) rfl rfl ?_
 refine Eval.weak (lw_mk 251 _) ?_
 obtain ⟨p980, hq981, h⟩ := bind_some h
 rcases p980 with p982 | p983
 ·dsimp only [Sum.elim] at h
  refine ev_j_copyQueue_l25_2 R scr c1 _ s v1 (v1 * (8:Int32)) ((v1 * (8:Int32)) + (8:Int32)) (rd s.f21 v1) (0:Int32) v2 hq981 ?_
  show Eval own_P 35 39 [some (.ref 26), some (.int p982.1), none, none, none, none, some (.int p982.2.1), none] [] (W2 scr c1 p982.2.2 R) out
  refine Eval.goto (t := 70) rfl rfl ?_
  exact ev_j_copyQueue_b70_2 R scr c1 p982.2.2 p982.1 p982.2.1 h hk
 ·dsimp only [Sum.elim] at h
  refine ev_j_copyQueue_l25_2 R scr c1 _ s v1 (v1 * (8:Int32)) ((v1 * (8:Int32)) + (8:Int32)) (rd s.f21 v1) (0:Int32) v2 hq981 ?_
  show Eval own_P 35 70 [some (.ref 26), some (.int p983.1), none, none, none, none, some (.int p983.2.1), none] [] (W2 scr c1 p983.2.2 R) out
  exact ev_j_copyQueue_b70_2 R scr c1 p983.2.2 p983.1 p983.2.1 h hk
set_option maxRecDepth 100000 in
theorem ev_j_applyEnq_b44_2 (R : AHeap) (scr : List Int32) (c1 s : Q) (v1 v2 v4 : Int32) {res : Int32 × Q} {out : Option Value × AHeap} (h : j_applyEnq_b44 s v1 v2 v4 = some res) (hk : out = (some (.int res.1), (W2 scr c1 res.2 R))) : Eval own_P 36 44 [some (.ref 26), some (.int v1), some (.int v2), none, some (.int v4), none] [] (W2 scr c1 s R) out := by
 rw [j_applyEnq_b44] at h
 refine Eval.aload_n rfl rfl ?_
 refine Eval.iload_n rfl rfl ?_
 refine Eval.iconst (x := 0) rfl rfl ?_
 obtain ⟨p987, hq988, h⟩ := bind_some h
 refine Eval.callN (rest := []) (H1 := (W2 scr c1 p987 R)) rfl rfl (ev_j_copyQueue_2 R scr c1 s v2 (0:Int32) hq988 rfl) ?_
 refine Eval.iload rfl rfl ?_
 refine Eval.iconst (x := 1) rfl rfl ?_
 by_cases hc990 : v4 = (1:Int32)
 ·rw [if_pos hc990] at h
  refine Eval.icmpF rfl (teq hc990).2 ?_
  refine Eval.aload_n rfl rfl ?_
  refine Eval.getfield rfl rfl own_g2_qLen ?_
  refine Eval.iload_n rfl rfl ?_
  refine Eval.iconst (x := 1) rfl rfl ?_
  refine Eval.iadd rfl ?_
  obtain ⟨hb991, h⟩ := ite_some h
  refine Eval.iaload rfl own_a2_qLen hb991 ?_
  refine Eval.istore (L' := [some (.ref 26), some (.int v1), some (.int v2), none, some (.int v4), some (.int (rd p987.f21 (v2 + (1:Int32))))]) rfl rfl ?_
  refine Eval.iload rfl rfl ?_
  by_cases hc992 : (rd p987.f21 (v2 + (1:Int32))) < (0:Int32)
  ·rw [if_pos hc992] at h
   refine Eval.ifT (t := 110) rfl rfl (tlt hc992).1 ?_
   refine Eval.iconst (x := 1) rfl rfl ?_
   cases h
   subst hk
   exact Eval.ret rfl rfl
  ·rw [if_neg hc992] at h
   refine Eval.ifF rfl (flt hc992).1 ?_
   refine Eval.iload rfl rfl ?_
   refine Eval.bipush (x := 8) rfl rfl ?_
   by_cases hc993 : (rd p987.f21 (v2 + (1:Int32))) < (8:Int32)
   ·rw [if_pos hc993] at h
    refine Eval.icmpF rfl (tlt hc993).2.1 ?_
    refine Eval.aload_n rfl rfl ?_
    refine Eval.getfield rfl rfl own_g2_qBuf ?_
    refine Eval.iload_n rfl rfl ?_
    refine Eval.iconst (x := 1) rfl rfl ?_
    refine Eval.iadd rfl ?_
    refine Eval.bipush (x := 8) rfl rfl ?_
    refine Eval.imul rfl ?_
    refine Eval.iload rfl rfl ?_
    refine Eval.iadd rfl ?_
    refine Eval.aload_n rfl rfl ?_
    refine Eval.getfield rfl rfl own_g2_opArg ?_
    refine Eval.iload_n rfl rfl ?_
    obtain ⟨hb994, h⟩ := ite_some h
    refine Eval.iaload rfl own_a2_opArg hb994 ?_
    obtain ⟨hb995, h⟩ := ite_some h
    refine Eval.iastore rfl rfl own_a2_qBuf hb995 own_s2_qBuf ?_
    refine Eval.aload_n rfl rfl ?_
    refine Eval.getfield rfl rfl own_g2_qLen ?_
    refine Eval.iload_n rfl rfl ?_
    refine Eval.iconst (x := 1) rfl rfl ?_
    refine Eval.iadd rfl ?_
    refine Eval.iload rfl rfl ?_
    refine Eval.iconst (x := 1) rfl rfl ?_
    refine Eval.iadd rfl ?_
    obtain ⟨hb996, h⟩ := ite_some h
    refine Eval.iastore rfl rfl own_a2_qLen hb996 own_s2_qLen ?_
    refine Eval.iconst (x := 1) rfl rfl ?_
    cases h
    subst hk
    exact Eval.retH own_mk2_01 rfl rfl
   ·rw [if_neg hc993] at h
    refine Eval.icmpT (t := 110) rfl rfl (flt hc993).2.1 ?_
    refine Eval.iconst (x := 1) rfl rfl ?_
    cases h
    subst hk
    exact Eval.ret rfl rfl
 ·rw [if_neg hc990] at h
  refine Eval.icmpT (t := 110) rfl rfl (feq hc990).2 ?_
  refine Eval.iconst (x := 1) rfl rfl ?_
  cases h
  subst hk
  exact Eval.ret rfl rfl
set_option maxRecDepth 100000 in
theorem ev_j_applyEnq_b20_2 (R : AHeap) (scr : List Int32) (c1 s : Q) (v1 v2 w0 : Int32) {res : Int32 × Q} {out : Option Value × AHeap} (h : j_applyEnq_b20 s v1 v2 w0 = some res) (hk : out = (some (.int res.1), (W2 scr c1 res.2 R))) : Eval own_P 36 20 [some (.ref 26), some (.int v1), some (.int v2), none, none, none] [.int w0] (W2 scr c1 s R) out := by
 rw [j_applyEnq_b20] at h
 refine Eval.istore (L' := [some (.ref 26), some (.int v1), some (.int v2), none, some (.int w0), none]) rfl rfl ?_
 refine Eval.aload_n rfl rfl ?_
 refine Eval.getfield rfl rfl own_g2_opRes ?_
 refine Eval.iload_n rfl rfl ?_
 obtain ⟨hb973, h⟩ := ite_some h
 refine Eval.iaload rfl own_a2_opRes hb973 ?_
 by_cases hc974 : (rd s.f15 v1) < (0:Int32)
 ·rw [if_pos hc974] at h
  refine Eval.ifT (t := 44) rfl rfl (tlt hc974).1 ?_
  exact ev_j_applyEnq_b44_2 R scr c1 s v1 v2 w0 h hk
 ·rw [if_neg hc974] at h
  refine Eval.ifF rfl (flt hc974).1 ?_
  refine Eval.aload_n rfl rfl ?_
  refine Eval.getfield rfl rfl own_g2_opStatus ?_
  refine Eval.iload_n rfl rfl ?_
  obtain ⟨hb997, h⟩ := ite_some h
  refine Eval.iaload rfl own_a2_opStatus hb997 ?_
  refine Eval.iload rfl rfl ?_
  by_cases hc998 : (rd s.f16 v1) = w0
  ·rw [if_pos hc998] at h
   refine Eval.icmpT (t := 44) rfl rfl (teq hc998).1 ?_
   exact ev_j_applyEnq_b44_2 R scr c1 s v1 v2 w0 h hk
  ·rw [if_neg hc998] at h
   refine Eval.icmpF rfl (feq hc998).1 ?_
   refine Eval.iconst (x := 0) rfl rfl ?_
   cases h
   subst hk
   exact Eval.ret rfl rfl
set_option maxRecDepth 100000 in
theorem ev_j_applyEnq_2 (R : AHeap) (scr : List Int32) (c1 s : Q) (v1 v2 : Int32) {res : Int32 × Q} {out : Option Value × AHeap} (h : j_applyEnq s v1 v2 = some res) (hk : out = (some (.int res.1), (W2 scr c1 res.2 R))) : Eval own_P 36 0 [some (.ref 26), some (.int v1), some (.int v2), none, none, none] [] (W2 scr c1 s R) out := by
 rw [j_applyEnq] at h
 refine Eval.aload_n rfl rfl ?_
 refine Eval.getfield rfl rfl own_g2_qLen ?_
 refine Eval.iload_n rfl rfl ?_
 obtain ⟨hb970, h⟩ := ite_some h
 refine Eval.iaload rfl own_a2_qLen hb970 ?_
 refine Eval.istore_n (L' := [some (.ref 26), some (.int v1), some (.int v2), some (.int (rd s.f21 v2)), none, none]) rfl rfl ?_
 refine Eval.iload_n rfl rfl ?_
 refine Eval.aload_n rfl rfl ?_
 refine Eval.getfield rfl rfl own_g2_cap ?_
 suffices hJ972 : Eval own_P 36 20 [some (.ref 26), some (.int v1), some (.int v2), none, none, none] [.int (if (rd s.f21 v2) < s.f25 then (1:Int32) else (2:Int32))] (W2 scr c1 s R) out by
  by_cases hc971 : (rd s.f21 v2) < s.f25
  ·refine Eval.icmpF rfl (tlt hc971).2.1 ?_
   refine Eval.iconst (x := 1) rfl rfl ?_
   refine Eval.goto (t := 20) rfl rfl ?_
   refine Eval.weak (lw_mk 7 _) ?_
   exact (Eval.conv hJ972 rfl (by simp only [if_pos hc971]))
  ·refine Eval.icmpT (t := 19) rfl rfl (flt hc971).2.1 ?_
   refine Eval.iconst (x := 2) rfl rfl ?_
   refine Eval.weak (lw_mk 7 _) ?_
   exact (Eval.conv hJ972 rfl (by simp only [if_neg hc971]))
 exact ev_j_applyEnq_b20_2 R scr c1 s v1 v2 (if (rd s.f21 v2) < s.f25 then (1:Int32) else (2:Int32)) h hk
set_option maxRecDepth 100000 in
theorem ev_j_applyDeq_b66_2 (R : AHeap) (scr : List Int32) (c1 s : Q) (v2 : Int32) {res : Int32 × Q} {out : Option Value × AHeap} (h : j_applyDeq_b66 s v2 = some res) (hk : out = (some (.int res.1), (W2 scr c1 res.2 R))) : Eval own_P 34 66 [some (.ref 26), none, some (.int v2), none, none, none] [] (W2 scr c1 s R) out := by
 rw [j_applyDeq_b66] at h
 refine Eval.aload_n rfl rfl ?_
 refine Eval.iload_n rfl rfl ?_
 refine Eval.iconst (x := 1) rfl rfl ?_
 obtain ⟨p1009, hq1010, h⟩ := bind_some h
 refine Eval.callN (rest := []) (H1 := (W2 scr c1 p1009 R)) rfl rfl (ev_j_copyQueue_2 R scr c1 s v2 (1:Int32) hq1010 rfl) ?_
 refine Eval.iconst (x := 1) rfl rfl ?_
 cases h
 subst hk
 exact Eval.ret rfl rfl
set_option maxRecDepth 100000 in
theorem ev_j_applyDeq_b91_2 (R : AHeap) (scr : List Int32) (c1 s : Q) (v2 : Int32) {res : Int32 × Q} {out : Option Value × AHeap} (h : j_applyDeq_b91 s v2 = some res) (hk : out = (some (.int res.1), (W2 scr c1 res.2 R))) : Eval own_P 34 91 [some (.ref 26), none, some (.int v2), none, none, none] [] (W2 scr c1 s R) out := by
 rw [j_applyDeq_b91] at h
 refine Eval.aload_n rfl rfl ?_
 refine Eval.iload_n rfl rfl ?_
 refine Eval.iconst (x := 0) rfl rfl ?_
 obtain ⟨p1017, hq1018, h⟩ := bind_some h
 refine Eval.callN (rest := []) (H1 := (W2 scr c1 p1017 R)) rfl rfl (ev_j_copyQueue_2 R scr c1 s v2 (0:Int32) hq1018 rfl) ?_
 refine Eval.iconst (x := 1) rfl rfl ?_
 cases h
 subst hk
 exact Eval.ret rfl rfl
set_option maxRecDepth 100000 in
theorem ev_j_applyDeq_b21_2 (R : AHeap) (scr : List Int32) (c1 s : Q) (v1 v2 : Int32) (v3 w0 : Int32) {res : Int32 × Q} {out : Option Value × AHeap} (h : j_applyDeq_b21 s v1 v2 v3 w0 = some res) (hk : out = (some (.int res.1), (W2 scr c1 res.2 R))) : Eval own_P 34 21 [some (.ref 26), some (.int v1), some (.int v2), some (.int v3), none, none] [.int w0] (W2 scr c1 s R) out := by
 rw [j_applyDeq_b21] at h
 refine Eval.istore (L' := [some (.ref 26), some (.int v1), some (.int v2), some (.int v3), some (.int w0), none]) rfl rfl ?_
 refine Eval.iload_n rfl rfl ?_
 by_cases hc1006 : (0:Int32) < v3
 ·rw [if_pos hc1006] at h
  refine Eval.ifF rfl (tlt hc1006).2.2.2 ?_
  refine Eval.aload_n rfl rfl ?_
  refine Eval.getfield rfl rfl own_g2_qBuf ?_
  refine Eval.iload_n rfl rfl ?_
  refine Eval.bipush (x := 8) rfl rfl ?_
  refine Eval.imul rfl ?_
  obtain ⟨hb1007, h⟩ := ite_some h
  refine Eval.iaload rfl own_a2_qBuf hb1007 ?_
  refine Eval.istore (L' := [some (.ref 26), some (.int v1), some (.int v2), some (.int v3), some (.int w0), some (.int (rd s.f20 (v2 * (8:Int32))))]) rfl rfl ?_
  refine Eval.iload rfl rfl ?_
  by_cases hc1008 : w0 = (0:Int32)
  ·rw [if_pos hc1008] at h
   refine Eval.ifT (t := 66) rfl rfl (teq hc1008).1 ?_
   refine Eval.weak (lw_mk 5 _) ?_
   exact ev_j_applyDeq_b66_2 R scr c1 s v2 h hk
  ·rw [if_neg hc1008] at h
   refine Eval.ifF rfl (feq hc1008).1 ?_
   refine Eval.aload_n rfl rfl ?_
   refine Eval.getfield rfl rfl own_g2_opStatus ?_
   refine Eval.iload_n rfl rfl ?_
   obtain ⟨hb1012, h⟩ := ite_some h
   refine Eval.iaload rfl own_a2_opStatus hb1012 ?_
   refine Eval.iconst (x := 1) rfl rfl ?_
   by_cases hc1013 : (rd s.f16 v1) = (1:Int32)
   ·rw [if_pos hc1013] at h
    refine Eval.icmpF rfl (teq hc1013).2 ?_
    refine Eval.aload_n rfl rfl ?_
    refine Eval.getfield rfl rfl own_g2_opRVal ?_
    refine Eval.iload_n rfl rfl ?_
    obtain ⟨hb1014, h⟩ := ite_some h
    refine Eval.iaload rfl own_a2_opRVal hb1014 ?_
    refine Eval.iload rfl rfl ?_
    by_cases hc1015 : (rd s.f17 v1) = (rd s.f20 (v2 * (8:Int32)))
    ·rw [if_pos hc1015] at h
     refine Eval.icmpT (t := 66) rfl rfl (teq hc1015).1 ?_
     refine Eval.weak (lw_mk 5 _) ?_
     exact ev_j_applyDeq_b66_2 R scr c1 s v2 h hk
    ·rw [if_neg hc1015] at h
     refine Eval.icmpF rfl (feq hc1015).1 ?_
     refine Eval.iconst (x := 0) rfl rfl ?_
     cases h
     subst hk
     exact Eval.ret rfl rfl
   ·rw [if_neg hc1013] at h
    refine Eval.icmpT (t := 64) rfl rfl (feq hc1013).2 ?_
    refine Eval.iconst (x := 0) rfl rfl ?_
    cases h
    subst hk
    exact Eval.ret rfl rfl
 ·rw [if_neg hc1006] at h
  refine Eval.ifT (t := 74) rfl rfl (flt hc1006).2.2.2 ?_
  refine Eval.iload rfl rfl ?_
  by_cases hc1016 : w0 = (0:Int32)
  ·rw [if_pos hc1016] at h
   refine Eval.ifT (t := 91) rfl rfl (teq hc1016).1 ?_
   refine Eval.weak (lw_mk 5 _) ?_
   exact ev_j_applyDeq_b91_2 R scr c1 s v2 h hk
  ·rw [if_neg hc1016] at h
   refine Eval.ifF rfl (feq hc1016).1 ?_
   refine Eval.aload_n rfl rfl ?_
   refine Eval.getfield rfl rfl own_g2_opStatus ?_
   refine Eval.iload_n rfl rfl ?_
   obtain ⟨hb1020, h⟩ := ite_some h
   refine Eval.iaload rfl own_a2_opStatus hb1020 ?_
   refine Eval.iconst (x := 3) rfl rfl ?_
   by_cases hc1021 : (rd s.f16 v1) = (3:Int32)
   ·rw [if_pos hc1021] at h
    refine Eval.icmpT (t := 91) rfl rfl (teq hc1021).1 ?_
    refine Eval.weak (lw_mk 5 _) ?_
    exact ev_j_applyDeq_b91_2 R scr c1 s v2 h hk
   ·rw [if_neg hc1021] at h
    refine Eval.icmpF rfl (feq hc1021).1 ?_
    refine Eval.iconst (x := 0) rfl rfl ?_
    cases h
    subst hk
    exact Eval.ret rfl rfl
set_option maxRecDepth 100000 in
theorem ev_j_applyDeq_2 (R : AHeap) (scr : List Int32) (c1 s : Q) (v1 v2 : Int32) {res : Int32 × Q} {out : Option Value × AHeap} (h : j_applyDeq s v1 v2 = some res) (hk : out = (some (.int res.1), (W2 scr c1 res.2 R))) : Eval own_P 34 0 [some (.ref 26), some (.int v1), some (.int v2), none, none, none] [] (W2 scr c1 s R) out := by
 rw [j_applyDeq] at h
 refine Eval.aload_n rfl rfl ?_
 refine Eval.getfield rfl rfl own_g2_qLen ?_
 refine Eval.iload_n rfl rfl ?_
 obtain ⟨hb1002, h⟩ := ite_some h
 refine Eval.iaload rfl own_a2_qLen hb1002 ?_
 refine Eval.istore_n (L' := [some (.ref 26), some (.int v1), some (.int v2), some (.int (rd s.f21 v2)), none, none]) rfl rfl ?_
 refine Eval.aload_n rfl rfl ?_
 refine Eval.getfield rfl rfl own_g2_opRes ?_
 refine Eval.iload_n rfl rfl ?_
 obtain ⟨hb1003, h⟩ := ite_some h
 refine Eval.iaload rfl own_a2_opRes hb1003 ?_
 suffices hJ1005 : Eval own_P 34 21 [some (.ref 26), some (.int v1), some (.int v2), some (.int (rd s.f21 v2)), none, none] [.int (if (rd s.f15 v1) < (0:Int32) then (0:Int32) else (1:Int32))] (W2 scr c1 s R) out by
  by_cases hc1004 : (rd s.f15 v1) < (0:Int32)
  ·refine Eval.ifT (t := 20) rfl rfl (tlt hc1004).1 ?_
   refine Eval.iconst (x := 0) rfl rfl ?_
   exact (Eval.conv hJ1005 rfl (by simp only [if_pos hc1004]))
  ·refine Eval.ifF rfl (flt hc1004).1 ?_
   refine Eval.iconst (x := 1) rfl rfl ?_
   refine Eval.goto (t := 21) rfl rfl ?_
   exact (Eval.conv hJ1005 rfl (by simp only [if_neg hc1004]))
 exact ev_j_applyDeq_b21_2 R scr c1 s v1 v2 (rd s.f21 v2) (if (rd s.f15 v1) < (0:Int32) then (0:Int32) else (1:Int32)) h hk
set_option maxRecDepth 100000 in
theorem ev_j_apply_2 (R : AHeap) (scr : List Int32) (c1 s : Q) (v1 v2 : Int32) {res : Int32 × Q} {out : Option Value × AHeap} (h : j_apply s v1 v2 = some res) (hk : out = (some (.int res.1), (W2 scr c1 res.2 R))) : Eval own_P 33 0 [some (.ref 26), some (.int v1), some (.int v2)] [] (W2 scr c1 s R) out := by
 rw [j_apply] at h
 refine Eval.iload_n rfl rfl ?_
 by_cases hc964 : v2 < (0:Int32)
 ·rw [if_pos hc964] at h
  refine Eval.ifT (t := 19) rfl rfl (tlt hc964).1 ?_
  refine Eval.iconst (x := 0) rfl rfl ?_
  cases h
  subst hk
  exact Eval.ret rfl rfl
 ·rw [if_neg hc964] at h
  refine Eval.ifF rfl (flt hc964).1 ?_
  refine Eval.iload_n rfl rfl ?_
  refine Eval.iconst (x := 5) rfl rfl ?_
  by_cases hc965 : (5:Int32) < v2
  ·rw [if_pos hc965] at h
   refine Eval.icmpT (t := 19) rfl rfl (tlt hc965).2.2.1 ?_
   refine Eval.iconst (x := 0) rfl rfl ?_
   cases h
   subst hk
   exact Eval.ret rfl rfl
  ·rw [if_neg hc965] at h
   refine Eval.icmpF rfl (flt hc965).2.2.1 ?_
   refine Eval.iload_n rfl rfl ?_
   by_cases hc966 : v1 < (0:Int32)
   ·rw [if_pos hc966] at h
    refine Eval.ifT (t := 19) rfl rfl (tlt hc966).1 ?_
    refine Eval.iconst (x := 0) rfl rfl ?_
    cases h
    subst hk
    exact Eval.ret rfl rfl
   ·rw [if_neg hc966] at h
    refine Eval.ifF rfl (flt hc966).1 ?_
    refine Eval.iload_n rfl rfl ?_
    refine Eval.bipush (x := 6) rfl rfl ?_
    by_cases hc967 : v1 < (6:Int32)
    ·rw [if_pos hc967] at h
     refine Eval.icmpT (t := 21) rfl rfl (tlt hc967).1 ?_
     refine Eval.aload_n rfl rfl ?_
     refine Eval.getfield rfl rfl own_g2_opKind ?_
     refine Eval.iload_n rfl rfl ?_
     obtain ⟨hb968, h⟩ := ite_some h
     refine Eval.iaload rfl own_a2_opKind hb968 ?_
     refine Eval.iconst (x := 1) rfl rfl ?_
     by_cases hc969 : (rd s.f12 v1) = (1:Int32)
     ·rw [if_pos hc969] at h
      refine Eval.icmpF rfl (teq hc969).2 ?_
      refine Eval.aload_n rfl rfl ?_
      refine Eval.iload_n rfl rfl ?_
      refine Eval.iload_n rfl rfl ?_
      obtain ⟨p999, hq1000, h⟩ := bind_some h
      refine Eval.callI (rest := []) (x := p999.1) (H1 := (W2 scr c1 p999.2 R)) rfl rfl (ev_j_applyEnq_2 R scr c1 s v1 v2 hq1000 rfl) ?_
      cases h
      subst hk
      exact Eval.ret rfl rfl
     ·rw [if_neg hc969] at h
      refine Eval.icmpT (t := 38) rfl rfl (feq hc969).2 ?_
      refine Eval.aload_n rfl rfl ?_
      refine Eval.iload_n rfl rfl ?_
      refine Eval.iload_n rfl rfl ?_
      obtain ⟨p1022, hq1023, h⟩ := bind_some h
      refine Eval.callI (rest := []) (x := p1022.1) (H1 := (W2 scr c1 p1022.2 R)) rfl rfl (ev_j_applyDeq_2 R scr c1 s v1 v2 hq1023 rfl) ?_
      cases h
      subst hk
      exact Eval.ret rfl rfl
    ·rw [if_neg hc967] at h
     refine Eval.icmpF rfl (flt hc967).1 ?_
     refine Eval.iconst (x := 0) rfl rfl ?_
     cases h
     subst hk
     exact Eval.ret rfl rfl
set_option maxRecDepth 100000 in
theorem ev_j_search_b215_2 (R : AHeap) (scr : List Int32) (c1 : Q) (go_ : Q → Int32 → Int32 → Int32 → Option ((Q) ⊕ ((Q) ⊕ (Q)))) (hrec : ∀ (s : Q) (v1 v2 v3 : Int32) {res : (Q) ⊕ ((Q) ⊕ (Q))} {out : Option Value × AHeap}, go_ s v1 v2 v3 = some res → j_search_l66_K_2 R scr c1 res out → Eval own_P 19 66 [some (.ref 26), some (.int v1), some (.int v2), some (.int v3), none] [] (W2 scr c1 s R) out) (s : Q) (v1 v2 v3 : Int32) {res : (Q) ⊕ ((Q) ⊕ (Q))} {out : Option Value × AHeap} (h : j_search_b215 go_ s v1 v2 v3 = some res) (hk : j_search_l66_K_2 R scr c1 res out) : Eval own_P 19 215 [some (.ref 26), some (.int v1), some (.int v2), some (.int v3), none] [] (W2 scr c1 s R) out := by
 rw [j_search_b215] at h
 refine Eval.iinc (L' := [some (.ref 26), some (.int v1), some (.int v2), some (.int (v3 + (1:Int32))), none]) rfl rfl rfl ?_
 refine Eval.goto (t := 66) rfl rfl ?_
 exact hrec _ _ _ _ h hk
set_option maxRecDepth 100000 in
theorem ev_j_search_b96_2 (R : AHeap) (scr : List Int32) (c1 : Q) (go_ : Q → Int32 → Int32 → Int32 → Option ((Q) ⊕ ((Q) ⊕ (Q)))) (hrec : ∀ (s : Q) (v1 v2 v3 : Int32) {res : (Q) ⊕ ((Q) ⊕ (Q))} {out : Option Value × AHeap}, go_ s v1 v2 v3 = some res → j_search_l66_K_2 R scr c1 res out → Eval own_P 19 66 [some (.ref 26), some (.int v1), some (.int v2), some (.int v3), none] [] (W2 scr c1 s R) out) (s : Q) (v1 v2 v3 : Int32) {res : (Q) ⊕ ((Q) ⊕ (Q))} {out : Option Value × AHeap} (h : j_search_b96 go_ s v1 v2 v3 = some res) (hk : j_search_l66_K_2 R scr c1 res out) : Eval own_P 19 96 [some (.ref 26), some (.int v1), some (.int v2), some (.int v3), none] [] (W2 scr c1 s R) out := by
 rw [j_search_b96] at h
 refine Eval.iload_n rfl rfl ?_
 by_cases hc1032 : v1 = (0:Int32)
 ·rw [if_pos hc1032] at h
  refine Eval.ifF rfl (teq hc1032).2 ?_
  cases h
  refine Eval.weak (lw_mk 0 _) ?_
  exact hk
 ·rw [if_neg hc1032] at h
  refine Eval.ifT (t := 102) rfl rfl (feq hc1032).2 ?_
  refine Eval.iinc (L' := [some (.ref 26), some (.int (v1 + (-1:Int32))), some (.int v2), some (.int v3), none]) rfl rfl rfl ?_
  refine Eval.iload_n rfl rfl ?_
  refine Eval.iconst (x := 1) rfl rfl ?_
  refine Eval.aload_n rfl rfl ?_
  refine Eval.getfield rfl rfl own_g2_chosen ?_
  refine Eval.iload_n rfl rfl ?_
  obtain ⟨hb1033, h⟩ := ite_some h
  refine Eval.iaload rfl own_a2_chosen hb1033 ?_
  refine Eval.ishl rfl ?_
  refine Eval.iconst (x := -1) rfl rfl ?_
  refine Eval.ixor rfl ?_
  refine Eval.iand rfl ?_
  refine Eval.istore_n (L' := [some (.ref 26), some (.int (v1 + (-1:Int32))), some (.int (v2 &&& ((ish (1:Int32) (rd s.f23 (v1 + (-1:Int32)))) ^^^ (-1:Int32)))), some (.int v3), none]) rfl rfl ?_
  refine Eval.goto (t := 215) rfl rfl ?_
  exact ev_j_search_b215_2 R scr c1 _ hrec s (v1 + (-1:Int32)) (v2 &&& ((ish (1:Int32) (rd s.f23 (v1 + (-1:Int32)))) ^^^ (-1:Int32))) v3 h hk
set_option maxRecDepth 100000 in
theorem ev_j_search_l66_2 (R : AHeap) (scr : List Int32) (c1 : Q) : ∀ (n : Nat) (s : Q) (v1 v2 v3 : Int32) {res : (Q) ⊕ ((Q) ⊕ (Q))} {out : Option Value × AHeap}, j_search_l66 n s v1 v2 v3 = some res → j_search_l66_K_2 R scr c1 res out → Eval own_P 19 66 [some (.ref 26), some (.int v1), some (.int v2), some (.int v3), none] [] (W2 scr c1 s R) out := by
 intro n
 induction n with
 | zero => intro _ _ _ _ res out h hk; cases h
 | succ n hrec =>
  intro s v1 v2 v3 res out h hk
  rw [j_search_l66] at h
  refine Eval.iload_n rfl rfl ?_
  refine Eval.ldc (x := 200000) rfl rfl ?_
  by_cases hc955 : v3 < (200000:Int32)
  ·rw [if_pos hc955] at h
   refine Eval.icmpF rfl (tlt hc955).2.1 ?_
   refine Eval.aload_n rfl rfl ?_
   refine Eval.getfield rfl rfl own_g2_nextCand ?_
   refine Eval.iload_n rfl rfl ?_
   obtain ⟨hb956, h⟩ := ite_some h
   refine Eval.iaload rfl own_a2_nextCand hb956 ?_
   refine Eval.istore (L' := [some (.ref 26), some (.int v1), some (.int v2), some (.int v3), some (.int (rd s.f22 v1))]) rfl rfl ?_
   refine Eval.iload rfl rfl ?_
   refine Eval.aload_n rfl rfl ?_
   refine Eval.getfield rfl rfl own_g2_opCount ?_
   by_cases hc957 : (rd s.f22 v1) < s.f31
   ·rw [if_pos hc957] at h
    refine Eval.icmpF rfl (tlt hc957).2.1 ?_
    refine Eval.iload rfl rfl ?_
    refine Eval.bipush (x := 6) rfl rfl ?_
    by_cases hc958 : (rd s.f22 v1) < (6:Int32)
    ·rw [if_pos hc958] at h
     refine Eval.icmpT (t := 121) rfl rfl (tlt hc958).1 ?_
     refine Eval.aload_n rfl rfl ?_
     refine Eval.getfield rfl rfl own_g2_nextCand ?_
     refine Eval.iload_n rfl rfl ?_
     refine Eval.iload rfl rfl ?_
     refine Eval.iconst (x := 1) rfl rfl ?_
     refine Eval.iadd rfl ?_
     obtain ⟨hb959, h⟩ := ite_some h
     refine Eval.iastore rfl rfl own_a2_nextCand hb959 own_s2_nextCand ?_
     refine Eval.iload_n rfl rfl ?_
     refine Eval.iconst (x := 1) rfl rfl ?_
     refine Eval.iload rfl rfl ?_
     refine Eval.ishl rfl ?_
     refine Eval.iand rfl ?_
     by_cases hc960 : (v2 &&& (ish (1:Int32) (rd s.f22 v1))) = (0:Int32)
     ·rw [if_pos hc960] at h
      refine Eval.ifF rfl (teq hc960).2 ?_
      refine Eval.aload_n rfl rfl ?_
      refine Eval.getfield rfl rfl own_g2_predMask ?_
      refine Eval.iload rfl rfl ?_
      obtain ⟨hb961, h⟩ := ite_some h
      refine Eval.iaload rfl own_a2_predMask hb961 ?_
      refine Eval.iload_n rfl rfl ?_
      refine Eval.iand rfl ?_
      refine Eval.aload_n rfl rfl ?_
      refine Eval.getfield rfl rfl own_g2_predMask ?_
      refine Eval.iload rfl rfl ?_
      obtain ⟨hb962, h⟩ := ite_some h
      refine Eval.iaload rfl own_a2_predMask hb962 ?_
      by_cases hc963 : ((rd s.f18 (rd s.f22 v1)) &&& v2) = (rd s.f18 (rd s.f22 v1))
      ·rw [if_pos hc963] at h
       refine Eval.icmpT (t := 162) rfl rfl (teq hc963).1 ?_
       refine Eval.aload_n rfl rfl ?_
       refine Eval.iload rfl rfl ?_
       refine Eval.iload_n rfl rfl ?_
       obtain ⟨p1025, hq1026, h⟩ := bind_some h
       refine Eval.callI (rest := []) (x := p1025.1) (H1 := (W2 scr c1 p1025.2 R)) rfl rfl (Eval.heap own_mk2_01 (ev_j_apply_2 R scr c1 (Q.mk s.f0 s.f1 s.f2 s.f3 s.f4 s.f5 s.f6 s.f7 s.f8 s.f9 s.f10 s.f11 s.f12 s.f13 s.f14 s.f15 s.f16 s.f17 s.f18 s.f19 s.f20 s.f21 (wr s.f22 v1 ((rd s.f22 v1) + (1:Int32))) s.f23 s.f24 s.f25 s.f26 s.f27 s.f28 s.f29 s.f30 s.f31 s.f32) (rd s.f22 v1) v1 hq1026 rfl)) ?_
       by_cases hc1028 : p1025.1 = (0:Int32)
       ·rw [if_pos hc1028] at h
        refine Eval.ifF rfl (teq hc1028).2 ?_
        refine Eval.goto (t := 215) rfl rfl ?_
        refine Eval.weak (lw_mk 15 _) ?_
        exact ev_j_search_b215_2 R scr c1 _ hrec p1025.2 v1 v2 v3 h hk
       ·rw [if_neg hc1028] at h
        refine Eval.ifT (t := 175) rfl rfl (feq hc1028).2 ?_
        refine Eval.aload_n rfl rfl ?_
        refine Eval.getfield rfl rfl own_g2_chosen ?_
        refine Eval.iload_n rfl rfl ?_
        refine Eval.iload rfl rfl ?_
        obtain ⟨hb1029, h⟩ := ite_some h
        refine Eval.iastore rfl rfl own_a2_chosen hb1029 own_s2_chosen ?_
        refine Eval.iload_n rfl rfl ?_
        refine Eval.iconst (x := 1) rfl rfl ?_
        refine Eval.iload rfl rfl ?_
        refine Eval.ishl rfl ?_
        refine Eval.ior rfl ?_
        refine Eval.istore_n (L' := [some (.ref 26), some (.int v1), some (.int (v2 ||| (ish (1:Int32) (rd s.f22 v1)))), some (.int v3), some (.int (rd s.f22 v1))]) rfl rfl ?_
        refine Eval.iinc (L' := [some (.ref 26), some (.int (v1 + (1:Int32))), some (.int (v2 ||| (ish (1:Int32) (rd s.f22 v1)))), some (.int v3), some (.int (rd s.f22 v1))]) rfl rfl rfl ?_
        refine Eval.aload_n rfl rfl ?_
        refine Eval.getfield rfl rfl own_g2_nextCand ?_
        refine Eval.iload_n rfl rfl ?_
        refine Eval.iconst (x := 0) rfl rfl ?_
        obtain ⟨hb1030, h⟩ := ite_some h
        refine Eval.iastore rfl rfl own_a2_nextCand hb1030 own_s2_nextCand ?_
        refine Eval.iload_n rfl rfl ?_
        refine Eval.aload_n rfl rfl ?_
        refine Eval.getfield rfl rfl own_g2_completeMask ?_
        refine Eval.iand rfl ?_
        refine Eval.aload_n rfl rfl ?_
        refine Eval.getfield rfl rfl own_g2_completeMask ?_
        by_cases hc1031 : ((v2 ||| (ish (1:Int32) (rd s.f22 v1))) &&& p1025.2.f32) = p1025.2.f32
        ·rw [if_pos hc1031] at h
         refine Eval.icmpF rfl (teq hc1031).2 ?_
         cases h
         refine Eval.heap own_mk2_01 ?_
         refine Eval.weak (lw_mk 0 _) ?_
         exact hk
        ·rw [if_neg hc1031] at h
         refine Eval.icmpT (t := 215) rfl rfl (feq hc1031).2 ?_
         refine Eval.heap own_mk2_01 ?_
         refine Eval.weak (lw_mk 15 _) ?_
         exact ev_j_search_b215_2 R scr c1 _ hrec (Q.mk p1025.2.f0 p1025.2.f1 p1025.2.f2 p1025.2.f3 p1025.2.f4 p1025.2.f5 p1025.2.f6 p1025.2.f7 p1025.2.f8 p1025.2.f9 p1025.2.f10 p1025.2.f11 p1025.2.f12 p1025.2.f13 p1025.2.f14 p1025.2.f15 p1025.2.f16 p1025.2.f17 p1025.2.f18 p1025.2.f19 p1025.2.f20 p1025.2.f21 (wr p1025.2.f22 (v1 + (1:Int32)) (0:Int32)) (wr p1025.2.f23 v1 (rd s.f22 v1)) p1025.2.f24 p1025.2.f25 p1025.2.f26 p1025.2.f27 p1025.2.f28 p1025.2.f29 p1025.2.f30 p1025.2.f31 p1025.2.f32) (v1 + (1:Int32)) (v2 ||| (ish (1:Int32) (rd s.f22 v1))) v3 h hk
      ·rw [if_neg hc963] at h
       refine Eval.icmpF rfl (feq hc963).1 ?_
       refine Eval.goto (t := 215) rfl rfl ?_
       refine Eval.heap own_mk2_01 ?_
       refine Eval.weak (lw_mk 15 _) ?_
       exact ev_j_search_b215_2 R scr c1 _ hrec (Q.mk s.f0 s.f1 s.f2 s.f3 s.f4 s.f5 s.f6 s.f7 s.f8 s.f9 s.f10 s.f11 s.f12 s.f13 s.f14 s.f15 s.f16 s.f17 s.f18 s.f19 s.f20 s.f21 (wr s.f22 v1 ((rd s.f22 v1) + (1:Int32))) s.f23 s.f24 s.f25 s.f26 s.f27 s.f28 s.f29 s.f30 s.f31 s.f32) v1 v2 v3 h hk
     ·rw [if_neg hc960] at h
      refine Eval.ifT (t := 215) rfl rfl (feq hc960).2 ?_
      refine Eval.heap own_mk2_01 ?_
      refine Eval.weak (lw_mk 15 _) ?_
      exact ev_j_search_b215_2 R scr c1 _ hrec (Q.mk s.f0 s.f1 s.f2 s.f3 s.f4 s.f5 s.f6 s.f7 s.f8 s.f9 s.f10 s.f11 s.f12 s.f13 s.f14 s.f15 s.f16 s.f17 s.f18 s.f19 s.f20 s.f21 (wr s.f22 v1 ((rd s.f22 v1) + (1:Int32))) s.f23 s.f24 s.f25 s.f26 s.f27 s.f28 s.f29 s.f30 s.f31 s.f32) v1 v2 v3 h hk
    ·rw [if_neg hc958] at h
     refine Eval.icmpF rfl (flt hc958).1 ?_
     refine Eval.weak (lw_mk 15 _) ?_
     exact ev_j_search_b96_2 R scr c1 _ hrec s v1 v2 v3 h hk
   ·rw [if_neg hc957] at h
    refine Eval.icmpT (t := 96) rfl rfl (flt hc957).2.1 ?_
    refine Eval.weak (lw_mk 15 _) ?_
    exact ev_j_search_b96_2 R scr c1 _ hrec s v1 v2 v3 h hk
  ·rw [if_neg hc955] at h
   refine Eval.icmpT (t := 221) rfl rfl (flt hc955).2.1 ?_
   cases h
   refine Eval.weak (lw_mk 0 _) ?_
   exact hk
set_option maxRecDepth 100000 in
theorem ev_j_search_2 (R : AHeap) (scr : List Int32) (c1 s : Q) {res : Int32 × Q} {out : Option Value × AHeap} (h : j_search s = some res) (hk : out = (some (.int res.1), (W2 scr c1 res.2 R))) : Eval own_P 19 0 [some (.ref 26), none, none, none, none] [] (W2 scr c1 s R) out := by
 rw [j_search] at h
 refine Eval.aload_n rfl rfl ?_
 refine Eval.getfield rfl rfl own_g2_completeMask ?_
 by_cases hc945 : s.f32 = (0:Int32)
 ·rw [if_pos hc945] at h
  refine Eval.ifF rfl (teq hc945).2 ?_
  refine Eval.iconst (x := 1) rfl rfl ?_
  cases h
  subst hk
  exact Eval.ret rfl rfl
 ·rw [if_neg hc945] at h
  refine Eval.ifT (t := 9) rfl rfl (feq hc945).2 ?_
  refine Eval.aload_n rfl rfl ?_
  refine Eval.getfield rfl rfl own_g2_qLen ?_
  refine Eval.iconst (x := 0) rfl rfl ?_
  refine Eval.aload_n rfl rfl ?_
  refine Eval.getfield rfl rfl own_g2_snapLen ?_
  obtain ⟨hb946, h⟩ := ite_some h
  refine Eval.iastore rfl rfl own_a2_qLen hb946 own_s2_qLen ?_
  refine Eval.iconst (x := 0) rfl rfl ?_
  refine Eval.istore_n (L' := [some (.ref 26), some (.int 0), none, none, none]) rfl rfl ?_
  refine Eval.heap own_mk2_01 ?_
  obtain ⟨p951, hq952, h⟩ := bind_some h
  refine ev_j_search_l21_2 R scr c1 _ (Q.mk s.f0 s.f1 s.f2 s.f3 s.f4 s.f5 s.f6 s.f7 s.f8 s.f9 s.f10 s.f11 s.f12 s.f13 s.f14 s.f15 s.f16 s.f17 s.f18 s.f19 s.f20 (wr s.f21 (0:Int32) s.f30) s.f22 s.f23 s.f24 s.f25 s.f26 s.f27 s.f28 s.f29 s.f30 s.f31 s.f32) (0:Int32) hq952 ?_
  show Eval own_P 19 53 [some (.ref 26), none, none, none, none] [] (W2 scr c1 p951 R) out
  refine Eval.iconst (x := 0) rfl rfl ?_
  refine Eval.istore_n (L' := [some (.ref 26), some (.int 0), none, none, none]) rfl rfl ?_
  refine Eval.iconst (x := 0) rfl rfl ?_
  refine Eval.istore_n (L' := [some (.ref 26), some (.int 0), some (.int 0), none, none]) rfl rfl ?_
  refine Eval.aload_n rfl rfl ?_
  refine Eval.getfield rfl rfl own_g2_nextCand ?_
  refine Eval.iconst (x := 0) rfl rfl ?_
  refine Eval.iconst (x := 0) rfl rfl ?_
  obtain ⟨hb954, h⟩ := ite_some h
  refine Eval.iastore rfl rfl own_a2_nextCand hb954 own_s2_nextCand ?_
  refine Eval.iconst (x := 0) rfl rfl ?_
  refine Eval.istore_n (L' := [some (.ref 26), some (.int 0), some (.int 0), some (.int 0), none]) rfl rfl ?_
  refine Eval.heap own_mk2_01 ?_
  obtain ⟨p1034, hq1035, h⟩ := bind_some h
  rcases p1034 with p1036 | p1037
  ·dsimp only [Sum.elim] at h
   refine ev_j_search_l66_2 R scr c1 _ (Q.mk p951.f0 p951.f1 p951.f2 p951.f3 p951.f4 p951.f5 p951.f6 p951.f7 p951.f8 p951.f9 p951.f10 p951.f11 p951.f12 p951.f13 p951.f14 p951.f15 p951.f16 p951.f17 p951.f18 p951.f19 p951.f20 p951.f21 (wr p951.f22 (0:Int32) (0:Int32)) p951.f23 p951.f24 p951.f25 p951.f26 p951.f27 p951.f28 p951.f29 p951.f30 p951.f31 p951.f32) (0:Int32) (0:Int32) (0:Int32) hq1035 ?_
   show Eval own_P 19 100 [none, none, none, none, none] [] (W2 scr c1 p1036 R) out
   refine Eval.iconst (x := 0) rfl rfl ?_
   cases h
   subst hk
   exact Eval.ret rfl rfl
  ·dsimp only [Sum.elim] at h
   rcases p1037 with p1039 | p1040
   ·dsimp only [Sum.elim] at h
    refine ev_j_search_l66_2 R scr c1 _ (Q.mk p951.f0 p951.f1 p951.f2 p951.f3 p951.f4 p951.f5 p951.f6 p951.f7 p951.f8 p951.f9 p951.f10 p951.f11 p951.f12 p951.f13 p951.f14 p951.f15 p951.f16 p951.f17 p951.f18 p951.f19 p951.f20 p951.f21 (wr p951.f22 (0:Int32) (0:Int32)) p951.f23 p951.f24 p951.f25 p951.f26 p951.f27 p951.f28 p951.f29 p951.f30 p951.f31 p951.f32) (0:Int32) (0:Int32) (0:Int32) hq1035 ?_
    show Eval own_P 19 213 [none, none, none, none, none] [] (W2 scr c1 p1039 R) out
    refine Eval.iconst (x := 1) rfl rfl ?_
    cases h
    subst hk
    exact Eval.ret rfl rfl
   ·dsimp only [Sum.elim] at h
    refine ev_j_search_l66_2 R scr c1 _ (Q.mk p951.f0 p951.f1 p951.f2 p951.f3 p951.f4 p951.f5 p951.f6 p951.f7 p951.f8 p951.f9 p951.f10 p951.f11 p951.f12 p951.f13 p951.f14 p951.f15 p951.f16 p951.f17 p951.f18 p951.f19 p951.f20 p951.f21 (wr p951.f22 (0:Int32) (0:Int32)) p951.f23 p951.f24 p951.f25 p951.f26 p951.f27 p951.f28 p951.f29 p951.f30 p951.f31 p951.f32) (0:Int32) (0:Int32) (0:Int32) hq1035 ?_
    show Eval own_P 19 221 [none, none, none, none, none] [] (W2 scr c1 p1040 R) out
    refine Eval.iconst (x := 0) rfl rfl ?_
    cases h
    subst hk
    exact Eval.ret rfl rfl
set_option maxRecDepth 100000 in
theorem ev_j_check_2 (R : AHeap) (scr : List Int32) (c1 s : Q) {res : Int32 × Q} {out : Option Value × AHeap} (h : j_check s = some res) (hk : out = (some (.int res.1), (W2 scr c1 res.2 R))) : Eval own_P 15 0 [some (.ref 26), none] [] (W2 scr c1 s R) out := by
 rw [j_check] at h
 refine Eval.aload_n rfl rfl ?_
 obtain ⟨p853, hq854, h⟩ := bind_some h
 refine Eval.callI (rest := []) (x := p853) (H1 := (W2 scr c1 s R)) rfl rfl (ev_j_countInvocations_2 R scr c1 s hq854 rfl) ?_
 refine Eval.istore_n (L' := [some (.ref 26), some (.int p853)]) rfl rfl ?_
 refine Eval.iload_n rfl rfl ?_
 refine Eval.bipush (x := 6) rfl rfl ?_
 by_cases hc855 : (6:Int32) < p853
 ·rw [if_pos hc855] at h
  refine Eval.icmpF rfl (tlt hc855).2.2.2 ?_
  refine Eval.iconst (x := -1) rfl rfl ?_
  cases h
  subst hk
  exact Eval.ret rfl rfl
 ·rw [if_neg hc855] at h
  refine Eval.icmpT (t := 13) rfl rfl (flt hc855).2.2.2 ?_
  refine Eval.aload_n rfl rfl ?_
  obtain ⟨p909, hq910, h⟩ := bind_some h
  refine Eval.callN (rest := []) (H1 := (W2 scr c1 p909 R)) rfl rfl (ev_j_parseOps_2 R scr c1 s hq910 rfl) ?_
  refine Eval.aload_n rfl rfl ?_
  obtain ⟨p942, hq943, h⟩ := bind_some h
  refine Eval.callN (rest := []) (H1 := (W2 scr c1 p942 R)) rfl rfl (ev_j_buildPreds_2 R scr c1 p909 hq943 rfl) ?_
  refine Eval.aload_n rfl rfl ?_
  obtain ⟨p1043, hq1044, h⟩ := bind_some h
  refine Eval.callI (rest := []) (x := p1043.1) (H1 := (W2 scr c1 p1043.2 R)) rfl rfl (ev_j_search_2 R scr c1 p942 hq1044 rfl) ?_
  cases h
  subst hk
  exact Eval.ret rfl rfl
def h_same (s u : Q) : Option (Int32 × Q × Q) := ((h_same_l2 3000 s u (0:Int32)).bind fun p556 => Sum.elim (fun p558 => some ((0:Int32), s, u)) (fun p559 => ((j_contentCount s).bind fun p570 => ((j_contentCount u).bind fun p582 => (if p570 = p582 then (if (j_historyLength s) = (j_historyLength u) then ((h_same_l80 3000 s u (0:Int32)).bind fun p632 => Sum.elim (fun p634 => some ((0:Int32), s, u)) (fun p635 => Sum.elim (fun p636 => some ((0:Int32), s, u)) (fun p637 => ((j_check s).bind fun p841 => ((j_check u).bind fun p1046 => (if p841.1 = p1046.1 then some ((1:Int32), p841.2, p1046.2) else some ((0:Int32), p841.2, p1046.2))))) p635) p632) else some ((0:Int32), s, u)) else some ((0:Int32), s, u))))) p556)
set_option maxRecDepth 100000 in
theorem ev_h_same_1_2 (R : AHeap) (scr : List Int32) (s u : Q) {res : Int32 × Q × Q} {out : Option Value × AHeap} (h : h_same s u = some res) (hk : out = (some (.int res.1), (W2 scr res.2.1 res.2.2 R))) : Eval own_P 7 0 [some (.ref 1), some (.ref 26), none] [] (W2 scr s u R) out := by
 rw [h_same] at h
 refine Eval.iconst (x := 0) rfl rfl ?_
 refine Eval.istore_n (L' := [some (.ref 1), some (.ref 26), some (.int 0)]) rfl rfl ?_
 obtain ⟨p556, hq557, h⟩ := bind_some h
 rcases p556 with p558 | p559
 ·dsimp only [Sum.elim] at h
  refine ev_h_same_l2_1_2 R scr _ s u (0:Int32) hq557 ?_
  show Eval own_P 7 46 [none, none, none] [] (W2 scr s u R) out
  refine Eval.iconst (x := 0) rfl rfl ?_
  cases h
  subst hk
  exact Eval.ret rfl rfl
 ·dsimp only [Sum.elim] at h
  refine ev_h_same_l2_1_2 R scr _ s u (0:Int32) hq557 ?_
  show Eval own_P 7 54 [some (.ref 1), some (.ref 26), none] [] (W2 scr s u R) out
  refine Eval.aload_n rfl rfl ?_
  obtain ⟨p570, hq571, h⟩ := bind_some h
  refine Eval.callI (rest := []) (x := p570) (H1 := (W2 scr s u R)) rfl rfl (Eval.heap own_lo0 (ev_j_contentCount (own_cells2 u.f0 u.f1 u.f2 u.f3 u.f4 u.f5 u.f6 u.f7 u.f8 u.f9 u.f10 u.f11 u.f12 u.f13 u.f14 u.f15 u.f16 u.f17 u.f18 u.f19 u.f20 u.f21 u.f22 u.f23 u.f24 u.f25 u.f26 u.f27 u.f28 u.f29 u.f30 u.f31 u.f32 R) scr s hq571 (congrArg (Prod.mk _) own_lo0.symm))) ?_
  refine Eval.aload_n rfl rfl ?_
  obtain ⟨p582, hq583, h⟩ := bind_some h
  refine Eval.callI (rest := [.int p570]) (x := p582) (H1 := (W2 scr s u R)) rfl rfl (ev_j_contentCount_2 R scr s u hq583 rfl) ?_
  by_cases hc584 : p570 = p582
  ·rw [if_pos hc584] at h
   refine Eval.icmpF rfl (teq hc584).2 ?_
   refine Eval.aload_n rfl rfl ?_
   refine Eval.callI (rest := []) (x := (j_historyLength s)) (H1 := (W2 scr s u R)) rfl rfl (Eval.heap own_lo0 (ev_j_historyLength (own_cells2 u.f0 u.f1 u.f2 u.f3 u.f4 u.f5 u.f6 u.f7 u.f8 u.f9 u.f10 u.f11 u.f12 u.f13 u.f14 u.f15 u.f16 u.f17 u.f18 u.f19 u.f20 u.f21 u.f22 u.f23 u.f24 u.f25 u.f26 u.f27 u.f28 u.f29 u.f30 u.f31 u.f32 R) scr s rfl (congrArg (Prod.mk _) own_lo0.symm))) ?_
   refine Eval.aload_n rfl rfl ?_
   refine Eval.callI (rest := [.int (j_historyLength s)]) (x := (j_historyLength u)) (H1 := (W2 scr s u R)) rfl rfl (ev_j_historyLength_2 R scr s u rfl rfl) ?_
   by_cases hc585 : (j_historyLength s) = (j_historyLength u)
   ·rw [if_pos hc585] at h
    refine Eval.icmpT (t := 78) rfl rfl (teq hc585).1 ?_
    refine Eval.iconst (x := 0) rfl rfl ?_
    refine Eval.istore_n (L' := [some (.ref 1), some (.ref 26), some (.int 0)]) rfl rfl ?_
    obtain ⟨p632, hq633, h⟩ := bind_some h
    rcases p632 with p634 | p635
    ·dsimp only [Sum.elim] at h
     refine ev_h_same_l80_1_2 R scr _ s u (0:Int32) hq633 ?_
     show Eval own_P 7 112 [none, none, none] [] (W2 scr s u R) out
     refine Eval.iconst (x := 0) rfl rfl ?_
     cases h
     subst hk
     exact Eval.ret rfl rfl
    ·dsimp only [Sum.elim] at h
     rcases p635 with p636 | p637
     ·dsimp only [Sum.elim] at h
      refine ev_h_same_l80_1_2 R scr _ s u (0:Int32) hq633 ?_
      show Eval own_P 7 127 [none, none, none] [] (W2 scr s u R) out
      refine Eval.iconst (x := 0) rfl rfl ?_
      cases h
      subst hk
      exact Eval.ret rfl rfl
     ·dsimp only [Sum.elim] at h
      refine ev_h_same_l80_1_2 R scr _ s u (0:Int32) hq633 ?_
      show Eval own_P 7 135 [some (.ref 1), some (.ref 26), none] [] (W2 scr s u R) out
      refine Eval.aload_n rfl rfl ?_
      obtain ⟨p841, hq842, h⟩ := bind_some h
      refine Eval.callI (rest := []) (x := p841.1) (H1 := (W2 scr p841.2 u R)) rfl rfl (Eval.heap own_lo0 (ev_j_check (own_cells2 u.f0 u.f1 u.f2 u.f3 u.f4 u.f5 u.f6 u.f7 u.f8 u.f9 u.f10 u.f11 u.f12 u.f13 u.f14 u.f15 u.f16 u.f17 u.f18 u.f19 u.f20 u.f21 u.f22 u.f23 u.f24 u.f25 u.f26 u.f27 u.f28 u.f29 u.f30 u.f31 u.f32 R) scr s hq842 rfl)) ?_
      refine Eval.aload_n rfl rfl ?_
      obtain ⟨p1046, hq1047, h⟩ := bind_some h
      refine Eval.callI (rest := [.int p841.1]) (x := p1046.1) (H1 := (W2 scr p841.2 p1046.2 R)) rfl rfl (ev_j_check_2 R scr p841.2 u hq1047 rfl) ?_
      by_cases hc1048 : p841.1 = p1046.1
      ·rw [if_pos hc1048] at h
       refine Eval.icmpF rfl (teq hc1048).2 ?_
       refine Eval.iconst (x := 1) rfl rfl ?_
       refine Eval.goto (t := 151) rfl rfl ?_
       cases h
       subst hk
       exact Eval.ret rfl rfl
      ·rw [if_neg hc1048] at h
       refine Eval.icmpT (t := 150) rfl rfl (feq hc1048).2 ?_
       refine Eval.iconst (x := 0) rfl rfl ?_
       cases h
       subst hk
       exact Eval.ret rfl rfl
   ·rw [if_neg hc585] at h
    refine Eval.icmpF rfl (feq hc585).1 ?_
    refine Eval.iconst (x := 0) rfl rfl ?_
    cases h
    subst hk
    exact Eval.ret rfl rfl
  ·rw [if_neg hc584] at h
   refine Eval.icmpT (t := 76) rfl rfl (feq hc584).2 ?_
   refine Eval.iconst (x := 0) rfl rfl ?_
   cases h
   subst hk
   exact Eval.ret rfl rfl
def law_b318 (go_ : Q → Q → List Int32 → Int32 → Option ((Q × Q) ⊕ ((Q × Q) ⊕ ((Q × Q) ⊕ ((Q × Q) ⊕ ((Q × Q) ⊕ ((Q × Q) ⊕ ((Q × Q) ⊕ ((Q × Q) ⊕ ((Q × Q) ⊕ (Q × Q))))))))))) (s u : Q) (scr : List Int32) (v3 : Int32) : Option ((Q × Q) ⊕ ((Q × Q) ⊕ ((Q × Q) ⊕ ((Q × Q) ⊕ ((Q × Q) ⊕ ((Q × Q) ⊕ ((Q × Q) ⊕ ((Q × Q) ⊕ ((Q × Q) ⊕ (Q × Q)))))))))) := ((h_same s u).bind fun p1049 => (if p1049.1 = (0:Int32) then some (.inr (.inr (.inr (.inr (.inr (.inr (.inr (.inr (.inl (p1049.2.1, p1049.2.2)))))))))) else (go_ p1049.2.1 p1049.2.2 scr (v3 + (4:Int32)))))
set_option maxRecDepth 100000 in
theorem ev_law_b318 (go_ : Q → Q → List Int32 → Int32 → Option ((Q × Q) ⊕ ((Q × Q) ⊕ ((Q × Q) ⊕ ((Q × Q) ⊕ ((Q × Q) ⊕ ((Q × Q) ⊕ ((Q × Q) ⊕ ((Q × Q) ⊕ ((Q × Q) ⊕ (Q × Q))))))))))) (hrec : ∀ (s u : Q) (scr : List Int32) (v3 : Int32) {res : (Q × Q) ⊕ ((Q × Q) ⊕ ((Q × Q) ⊕ ((Q × Q) ⊕ ((Q × Q) ⊕ ((Q × Q) ⊕ ((Q × Q) ⊕ ((Q × Q) ⊕ ((Q × Q) ⊕ (Q × Q)))))))))} {out : Option Value × AHeap}, go_ s u scr v3 = some res → law_l26_K scr res out → Eval own_P 0 26 [some (.ref 0), some (.ref 1), some (.ref 26), some (.int v3), none, none, none, none, none, none, none, none] [] (W2 scr s u []) out) (s u : Q) (scr : List Int32) (v3 : Int32) {res : (Q × Q) ⊕ ((Q × Q) ⊕ ((Q × Q) ⊕ ((Q × Q) ⊕ ((Q × Q) ⊕ ((Q × Q) ⊕ ((Q × Q) ⊕ ((Q × Q) ⊕ ((Q × Q) ⊕ (Q × Q)))))))))} {out : Option Value × AHeap} (h : law_b318 go_ s u scr v3 = some res) (hk : law_l26_K scr res out) : Eval own_P 0 318 [some (.ref 0), some (.ref 1), some (.ref 26), some (.int v3), none, none, none, none, none, none, none, none] [] (W2 scr s u []) out := by
 rw [law_b318] at h
 refine Eval.aload_n rfl rfl ?_
 refine Eval.aload_n rfl rfl ?_
 obtain ⟨p1049, hq1050, h⟩ := bind_some h
 refine Eval.callI (rest := []) (x := p1049.1) (H1 := (W2 scr p1049.2.1 p1049.2.2 [])) rfl rfl (ev_h_same_1_2 [] scr s u hq1050 rfl) ?_
 by_cases hc1051 : p1049.1 = (0:Int32)
 ·rw [if_pos hc1051] at h
  refine Eval.ifF rfl (teq hc1051).2 ?_
  cases h
  refine Eval.weak (lw_mk 0 _) ?_
  exact hk
 ·rw [if_neg hc1051] at h
  refine Eval.ifT (t := 328) rfl rfl (feq hc1051).2 ?_
  refine Eval.iinc (L' := [some (.ref 0), some (.ref 1), some (.ref 26), some (.int (v3 + (4:Int32))), none, none, none, none, none, none, none, none]) rfl rfl rfl ?_
  refine Eval.goto (t := 26) rfl rfl ?_
  exact hrec _ _ _ _ h hk
def law_b295 (go_ : Q → Q → List Int32 → Int32 → Option ((Q × Q) ⊕ ((Q × Q) ⊕ ((Q × Q) ⊕ ((Q × Q) ⊕ ((Q × Q) ⊕ ((Q × Q) ⊕ ((Q × Q) ⊕ ((Q × Q) ⊕ ((Q × Q) ⊕ (Q × Q))))))))))) (s u : Q) (scr : List Int32) (v3 v8 : Int32) : Option ((Q × Q) ⊕ ((Q × Q) ⊕ ((Q × Q) ⊕ ((Q × Q) ⊕ ((Q × Q) ⊕ ((Q × Q) ⊕ ((Q × Q) ⊕ ((Q × Q) ⊕ ((Q × Q) ⊕ (Q × Q)))))))))) := (if v8 = (6:Int32) then ((h_busy s).bind fun p527 => (if p527 = (0:Int32) then (law_b318 (go_) s u scr v3) else ((j_clearHistory s).bind fun p1052 => (if p1052.1 = (0:Int32) then (law_b318 (go_) p1052.2 u scr v3) else some (.inr (.inr (.inr (.inr (.inr (.inr (.inr (.inl (p1052.2, u))))))))))))) else (law_b318 (go_) s u scr v3))
set_option maxRecDepth 100000 in
theorem ev_law_b295 (go_ : Q → Q → List Int32 → Int32 → Option ((Q × Q) ⊕ ((Q × Q) ⊕ ((Q × Q) ⊕ ((Q × Q) ⊕ ((Q × Q) ⊕ ((Q × Q) ⊕ ((Q × Q) ⊕ ((Q × Q) ⊕ ((Q × Q) ⊕ (Q × Q))))))))))) (hrec : ∀ (s u : Q) (scr : List Int32) (v3 : Int32) {res : (Q × Q) ⊕ ((Q × Q) ⊕ ((Q × Q) ⊕ ((Q × Q) ⊕ ((Q × Q) ⊕ ((Q × Q) ⊕ ((Q × Q) ⊕ ((Q × Q) ⊕ ((Q × Q) ⊕ (Q × Q)))))))))} {out : Option Value × AHeap}, go_ s u scr v3 = some res → law_l26_K scr res out → Eval own_P 0 26 [some (.ref 0), some (.ref 1), some (.ref 26), some (.int v3), none, none, none, none, none, none, none, none] [] (W2 scr s u []) out) (s u : Q) (scr : List Int32) (v3 v8 : Int32) {res : (Q × Q) ⊕ ((Q × Q) ⊕ ((Q × Q) ⊕ ((Q × Q) ⊕ ((Q × Q) ⊕ ((Q × Q) ⊕ ((Q × Q) ⊕ ((Q × Q) ⊕ ((Q × Q) ⊕ (Q × Q)))))))))} {out : Option Value × AHeap} (h : law_b295 go_ s u scr v3 v8 = some res) (hk : law_l26_K scr res out) : Eval own_P 0 295 [some (.ref 0), some (.ref 1), some (.ref 26), some (.int v3), none, none, none, none, some (.int v8), none, none, none] [] (W2 scr s u []) out := by
 rw [law_b295] at h
 refine Eval.iload rfl rfl ?_
 refine Eval.bipush (x := 6) rfl rfl ?_
 by_cases hc517 : v8 = (6:Int32)
 ·rw [if_pos hc517] at h
  refine Eval.icmpF rfl (teq hc517).2 ?_
  refine Eval.aload_n rfl rfl ?_
  obtain ⟨p527, hq528, h⟩ := bind_some h
  refine Eval.callI (rest := []) (x := p527) (H1 := (W2 scr s u [])) rfl rfl (Eval.heap own_lo0 (ev_h_busy (own_cells2 u.f0 u.f1 u.f2 u.f3 u.f4 u.f5 u.f6 u.f7 u.f8 u.f9 u.f10 u.f11 u.f12 u.f13 u.f14 u.f15 u.f16 u.f17 u.f18 u.f19 u.f20 u.f21 u.f22 u.f23 u.f24 u.f25 u.f26 u.f27 u.f28 u.f29 u.f30 u.f31 u.f32 []) scr s hq528 (congrArg (Prod.mk _) own_lo0.symm))) ?_
  by_cases hc529 : p527 = (0:Int32)
  ·rw [if_pos hc529] at h
   refine Eval.ifT (t := 318) rfl rfl (teq hc529).1 ?_
   refine Eval.weak (lw_mk 15 _) ?_
   exact ev_law_b318 _ hrec s u scr v3 h hk
  ·rw [if_neg hc529] at h
   refine Eval.ifF rfl (feq hc529).1 ?_
   refine Eval.aload_n rfl rfl ?_
   obtain ⟨p1052, hq1053, h⟩ := bind_some h
   refine Eval.callI (rest := []) (x := p1052.1) (H1 := (W2 scr p1052.2 u [])) rfl rfl (Eval.heap own_lo0 (ev_j_clearHistory (own_cells2 u.f0 u.f1 u.f2 u.f3 u.f4 u.f5 u.f6 u.f7 u.f8 u.f9 u.f10 u.f11 u.f12 u.f13 u.f14 u.f15 u.f16 u.f17 u.f18 u.f19 u.f20 u.f21 u.f22 u.f23 u.f24 u.f25 u.f26 u.f27 u.f28 u.f29 u.f30 u.f31 u.f32 []) scr s hq1053 rfl)) ?_
   by_cases hc1054 : p1052.1 = (0:Int32)
   ·rw [if_pos hc1054] at h
    refine Eval.ifT (t := 318) rfl rfl (teq hc1054).1 ?_
    refine Eval.weak (lw_mk 15 _) ?_
    exact ev_law_b318 _ hrec p1052.2 u scr v3 h hk
   ·rw [if_neg hc1054] at h
    refine Eval.ifF rfl (feq hc1054).1 ?_
    cases h
    refine Eval.weak (lw_mk 0 _) ?_
    exact hk
 ·rw [if_neg hc517] at h
  refine Eval.icmpT (t := 318) rfl rfl (feq hc517).2 ?_
  refine Eval.weak (lw_mk 15 _) ?_
  exact ev_law_b318 _ hrec s u scr v3 h hk
def law_b285 (go_ : Q → Q → List Int32 → Int32 → Option ((Q × Q) ⊕ ((Q × Q) ⊕ ((Q × Q) ⊕ ((Q × Q) ⊕ ((Q × Q) ⊕ ((Q × Q) ⊕ ((Q × Q) ⊕ ((Q × Q) ⊕ ((Q × Q) ⊕ (Q × Q))))))))))) (s u : Q) (scr : List Int32) (v3 v8 : Int32) (v10 w1 w2 : Int32) : Option ((Q × Q) ⊕ ((Q × Q) ⊕ ((Q × Q) ⊕ ((Q × Q) ⊕ ((Q × Q) ⊕ ((Q × Q) ⊕ ((Q × Q) ⊕ ((Q × Q) ⊕ ((Q × Q) ⊕ (Q × Q)))))))))) := ((j_logResponse s w1 w2 v10).bind fun p514 => (if p514.1 = (0:Int32) then (law_b295 (go_) p514.2 u scr v3 v8) else some (.inr (.inr (.inr (.inr (.inr (.inr (.inl (p514.2, u))))))))))
set_option maxRecDepth 100000 in
theorem ev_law_b285 (go_ : Q → Q → List Int32 → Int32 → Option ((Q × Q) ⊕ ((Q × Q) ⊕ ((Q × Q) ⊕ ((Q × Q) ⊕ ((Q × Q) ⊕ ((Q × Q) ⊕ ((Q × Q) ⊕ ((Q × Q) ⊕ ((Q × Q) ⊕ (Q × Q))))))))))) (hrec : ∀ (s u : Q) (scr : List Int32) (v3 : Int32) {res : (Q × Q) ⊕ ((Q × Q) ⊕ ((Q × Q) ⊕ ((Q × Q) ⊕ ((Q × Q) ⊕ ((Q × Q) ⊕ ((Q × Q) ⊕ ((Q × Q) ⊕ ((Q × Q) ⊕ (Q × Q)))))))))} {out : Option Value × AHeap}, go_ s u scr v3 = some res → law_l26_K scr res out → Eval own_P 0 26 [some (.ref 0), some (.ref 1), some (.ref 26), some (.int v3), none, none, none, none, none, none, none, none] [] (W2 scr s u []) out) (s u : Q) (scr : List Int32) (v3 v8 : Int32) (v10 w1 w2 : Int32) {res : (Q × Q) ⊕ ((Q × Q) ⊕ ((Q × Q) ⊕ ((Q × Q) ⊕ ((Q × Q) ⊕ ((Q × Q) ⊕ ((Q × Q) ⊕ ((Q × Q) ⊕ ((Q × Q) ⊕ (Q × Q)))))))))} {out : Option Value × AHeap} (h : law_b285 go_ s u scr v3 v8 v10 w1 w2 = some res) (hk : law_l26_K scr res out) : Eval own_P 0 285 [some (.ref 0), some (.ref 1), some (.ref 26), some (.int v3), none, none, none, none, some (.int v8), none, some (.int v10), none] [.int w2, .int w1, .ref 1] (W2 scr s u []) out := by
 rw [law_b285] at h
 refine Eval.iload rfl rfl ?_
 obtain ⟨p514, hq515, h⟩ := bind_some h
 refine Eval.callI (rest := []) (x := p514.1) (H1 := (W2 scr p514.2 u [])) rfl rfl (Eval.heap own_lo0 (ev_j_logResponse (own_cells2 u.f0 u.f1 u.f2 u.f3 u.f4 u.f5 u.f6 u.f7 u.f8 u.f9 u.f10 u.f11 u.f12 u.f13 u.f14 u.f15 u.f16 u.f17 u.f18 u.f19 u.f20 u.f21 u.f22 u.f23 u.f24 u.f25 u.f26 u.f27 u.f28 u.f29 u.f30 u.f31 u.f32 []) scr s w1 w2 v10 hq515 rfl)) ?_
 by_cases hc516 : p514.1 = (0:Int32)
 ·rw [if_pos hc516] at h
  refine Eval.ifT (t := 295) rfl rfl (teq hc516).1 ?_
  refine Eval.weak (lw_mk 271 _) ?_
  exact ev_law_b295 _ hrec p514.2 u scr v3 v8 h hk
 ·rw [if_neg hc516] at h
  refine Eval.ifF rfl (feq hc516).1 ?_
  cases h
  refine Eval.weak (lw_mk 0 _) ?_
  exact hk
def law_b262 (go_ : Q → Q → List Int32 → Int32 → Option ((Q × Q) ⊕ ((Q × Q) ⊕ ((Q × Q) ⊕ ((Q × Q) ⊕ ((Q × Q) ⊕ ((Q × Q) ⊕ ((Q × Q) ⊕ ((Q × Q) ⊕ ((Q × Q) ⊕ (Q × Q))))))))))) (s u : Q) (scr : List Int32) (v3 v8 : Int32) (v9 v10 v11 : Int32) : Option ((Q × Q) ⊕ ((Q × Q) ⊕ ((Q × Q) ⊕ ((Q × Q) ⊕ ((Q × Q) ⊕ ((Q × Q) ⊕ ((Q × Q) ⊕ ((Q × Q) ⊕ ((Q × Q) ⊕ (Q × Q)))))))))) := (if v8 = (5:Int32) then (law_b285 (go_) s u scr v3 v8 v10 v9 (if v11 = (1:Int32) then (0:Int32) else (v10 &&& (3:Int32)))) else (law_b295 (go_) s u scr v3 v8))
set_option maxRecDepth 100000 in
theorem ev_law_b262 (go_ : Q → Q → List Int32 → Int32 → Option ((Q × Q) ⊕ ((Q × Q) ⊕ ((Q × Q) ⊕ ((Q × Q) ⊕ ((Q × Q) ⊕ ((Q × Q) ⊕ ((Q × Q) ⊕ ((Q × Q) ⊕ ((Q × Q) ⊕ (Q × Q))))))))))) (hrec : ∀ (s u : Q) (scr : List Int32) (v3 : Int32) {res : (Q × Q) ⊕ ((Q × Q) ⊕ ((Q × Q) ⊕ ((Q × Q) ⊕ ((Q × Q) ⊕ ((Q × Q) ⊕ ((Q × Q) ⊕ ((Q × Q) ⊕ ((Q × Q) ⊕ (Q × Q)))))))))} {out : Option Value × AHeap}, go_ s u scr v3 = some res → law_l26_K scr res out → Eval own_P 0 26 [some (.ref 0), some (.ref 1), some (.ref 26), some (.int v3), none, none, none, none, none, none, none, none] [] (W2 scr s u []) out) (s u : Q) (scr : List Int32) (v3 v8 : Int32) (v9 v10 v11 : Int32) {res : (Q × Q) ⊕ ((Q × Q) ⊕ ((Q × Q) ⊕ ((Q × Q) ⊕ ((Q × Q) ⊕ ((Q × Q) ⊕ ((Q × Q) ⊕ ((Q × Q) ⊕ ((Q × Q) ⊕ (Q × Q)))))))))} {out : Option Value × AHeap} (h : law_b262 go_ s u scr v3 v8 v9 v10 v11 = some res) (hk : law_l26_K scr res out) : Eval own_P 0 262 [some (.ref 0), some (.ref 1), some (.ref 26), some (.int v3), none, none, none, none, some (.int v8), some (.int v9), some (.int v10), some (.int v11)] [] (W2 scr s u []) out := by
 rw [law_b262] at h
 refine Eval.iload rfl rfl ?_
 refine Eval.iconst (x := 5) rfl rfl ?_
 by_cases hc511 : v8 = (5:Int32)
 ·rw [if_pos hc511] at h
  refine Eval.icmpF rfl (teq hc511).2 ?_
  refine Eval.aload_n rfl rfl ?_
  refine Eval.iload rfl rfl ?_
  refine Eval.iload rfl rfl ?_
  refine Eval.iconst (x := 1) rfl rfl ?_
  suffices hJ513 : Eval own_P 0 285 [some (.ref 0), some (.ref 1), some (.ref 26), some (.int v3), none, none, none, none, some (.int v8), none, some (.int v10), none] [.int (if v11 = (1:Int32) then (0:Int32) else (v10 &&& (3:Int32))), .int v9, .ref 1] (W2 scr s u []) out by
   by_cases hc512 : v11 = (1:Int32)
   ·refine Eval.icmpF rfl (teq hc512).2 ?_
    refine Eval.iconst (x := 0) rfl rfl ?_
    refine Eval.goto (t := 285) rfl rfl ?_
    refine Eval.weak (lw_mk 1295 _) ?_
    exact (Eval.conv hJ513 rfl (by simp only [if_pos hc512]))
   ·refine Eval.icmpT (t := 281) rfl rfl (feq hc512).2 ?_
    refine Eval.iload rfl rfl ?_
    refine Eval.iconst (x := 3) rfl rfl ?_
    refine Eval.iand rfl ?_
    refine Eval.weak (lw_mk 1295 _) ?_
    exact (Eval.conv hJ513 rfl (by simp only [if_neg hc512]))
  exact ev_law_b285 _ hrec s u scr v3 v8 v10 v9 (if v11 = (1:Int32) then (0:Int32) else (v10 &&& (3:Int32))) h hk
 ·rw [if_neg hc511] at h
  refine Eval.icmpT (t := 295) rfl rfl (feq hc511).2 ?_
  refine Eval.weak (lw_mk 271 _) ?_
  exact ev_law_b295 _ hrec s u scr v3 v8 h hk
def law_b242 (go_ : Q → Q → List Int32 → Int32 → Option ((Q × Q) ⊕ ((Q × Q) ⊕ ((Q × Q) ⊕ ((Q × Q) ⊕ ((Q × Q) ⊕ ((Q × Q) ⊕ ((Q × Q) ⊕ ((Q × Q) ⊕ ((Q × Q) ⊕ (Q × Q))))))))))) (s u : Q) (scr : List Int32) (v3 v8 : Int32) (v9 v10 v11 : Int32) : Option ((Q × Q) ⊕ ((Q × Q) ⊕ ((Q × Q) ⊕ ((Q × Q) ⊕ ((Q × Q) ⊕ ((Q × Q) ⊕ ((Q × Q) ⊕ ((Q × Q) ⊕ ((Q × Q) ⊕ (Q × Q)))))))))) := (if v8 = (4:Int32) then ((j_logInvoke s v9 (3:Int32) v10).bind fun p508 => (if p508.1 = (0:Int32) then (law_b262 (go_) p508.2 u scr v3 v8 v9 v10 v11) else some (.inr (.inr (.inr (.inr (.inr (.inl (p508.2, u))))))))) else (law_b262 (go_) s u scr v3 v8 v9 v10 v11))
set_option maxRecDepth 100000 in
theorem ev_law_b242 (go_ : Q → Q → List Int32 → Int32 → Option ((Q × Q) ⊕ ((Q × Q) ⊕ ((Q × Q) ⊕ ((Q × Q) ⊕ ((Q × Q) ⊕ ((Q × Q) ⊕ ((Q × Q) ⊕ ((Q × Q) ⊕ ((Q × Q) ⊕ (Q × Q))))))))))) (hrec : ∀ (s u : Q) (scr : List Int32) (v3 : Int32) {res : (Q × Q) ⊕ ((Q × Q) ⊕ ((Q × Q) ⊕ ((Q × Q) ⊕ ((Q × Q) ⊕ ((Q × Q) ⊕ ((Q × Q) ⊕ ((Q × Q) ⊕ ((Q × Q) ⊕ (Q × Q)))))))))} {out : Option Value × AHeap}, go_ s u scr v3 = some res → law_l26_K scr res out → Eval own_P 0 26 [some (.ref 0), some (.ref 1), some (.ref 26), some (.int v3), none, none, none, none, none, none, none, none] [] (W2 scr s u []) out) (s u : Q) (scr : List Int32) (v3 v8 : Int32) (v9 v10 v11 : Int32) {res : (Q × Q) ⊕ ((Q × Q) ⊕ ((Q × Q) ⊕ ((Q × Q) ⊕ ((Q × Q) ⊕ ((Q × Q) ⊕ ((Q × Q) ⊕ ((Q × Q) ⊕ ((Q × Q) ⊕ (Q × Q)))))))))} {out : Option Value × AHeap} (h : law_b242 go_ s u scr v3 v8 v9 v10 v11 = some res) (hk : law_l26_K scr res out) : Eval own_P 0 242 [some (.ref 0), some (.ref 1), some (.ref 26), some (.int v3), none, none, none, none, some (.int v8), some (.int v9), some (.int v10), some (.int v11)] [] (W2 scr s u []) out := by
 rw [law_b242] at h
 refine Eval.iload rfl rfl ?_
 refine Eval.iconst (x := 4) rfl rfl ?_
 by_cases hc507 : v8 = (4:Int32)
 ·rw [if_pos hc507] at h
  refine Eval.icmpF rfl (teq hc507).2 ?_
  refine Eval.aload_n rfl rfl ?_
  refine Eval.iload rfl rfl ?_
  refine Eval.iconst (x := 3) rfl rfl ?_
  refine Eval.iload rfl rfl ?_
  obtain ⟨p508, hq509, h⟩ := bind_some h
  refine Eval.callI (rest := []) (x := p508.1) (H1 := (W2 scr p508.2 u [])) rfl rfl (Eval.heap own_lo0 (ev_j_logInvoke (own_cells2 u.f0 u.f1 u.f2 u.f3 u.f4 u.f5 u.f6 u.f7 u.f8 u.f9 u.f10 u.f11 u.f12 u.f13 u.f14 u.f15 u.f16 u.f17 u.f18 u.f19 u.f20 u.f21 u.f22 u.f23 u.f24 u.f25 u.f26 u.f27 u.f28 u.f29 u.f30 u.f31 u.f32 []) scr s v9 (3:Int32) v10 hq509 rfl)) ?_
  by_cases hc510 : p508.1 = (0:Int32)
  ·rw [if_pos hc510] at h
   refine Eval.ifT (t := 262) rfl rfl (teq hc510).1 ?_
   exact ev_law_b262 _ hrec p508.2 u scr v3 v8 v9 v10 v11 h hk
  ·rw [if_neg hc510] at h
   refine Eval.ifF rfl (feq hc510).1 ?_
   cases h
   refine Eval.weak (lw_mk 0 _) ?_
   exact hk
 ·rw [if_neg hc507] at h
  refine Eval.icmpT (t := 262) rfl rfl (feq hc507).2 ?_
  exact ev_law_b262 _ hrec s u scr v3 v8 v9 v10 v11 h hk
def law_b237 (go_ : Q → Q → List Int32 → Int32 → Option ((Q × Q) ⊕ ((Q × Q) ⊕ ((Q × Q) ⊕ ((Q × Q) ⊕ ((Q × Q) ⊕ ((Q × Q) ⊕ ((Q × Q) ⊕ ((Q × Q) ⊕ ((Q × Q) ⊕ (Q × Q))))))))))) (s u : Q) (scr : List Int32) (v3 v8 : Int32) (v9 v10 : Int32) (v11 w0 w1 : Int32) : Option ((Q × Q) ⊕ ((Q × Q) ⊕ ((Q × Q) ⊕ ((Q × Q) ⊕ ((Q × Q) ⊕ ((Q × Q) ⊕ ((Q × Q) ⊕ ((Q × Q) ⊕ ((Q × Q) ⊕ (Q × Q)))))))))) := (if w0 = w1 then (law_b242 (go_) s u scr v3 v8 v9 v10 v11) else some (.inr (.inr (.inr (.inr (.inl (s, u)))))))
set_option maxRecDepth 100000 in
theorem ev_law_b237 (go_ : Q → Q → List Int32 → Int32 → Option ((Q × Q) ⊕ ((Q × Q) ⊕ ((Q × Q) ⊕ ((Q × Q) ⊕ ((Q × Q) ⊕ ((Q × Q) ⊕ ((Q × Q) ⊕ ((Q × Q) ⊕ ((Q × Q) ⊕ (Q × Q))))))))))) (hrec : ∀ (s u : Q) (scr : List Int32) (v3 : Int32) {res : (Q × Q) ⊕ ((Q × Q) ⊕ ((Q × Q) ⊕ ((Q × Q) ⊕ ((Q × Q) ⊕ ((Q × Q) ⊕ ((Q × Q) ⊕ ((Q × Q) ⊕ ((Q × Q) ⊕ (Q × Q)))))))))} {out : Option Value × AHeap}, go_ s u scr v3 = some res → law_l26_K scr res out → Eval own_P 0 26 [some (.ref 0), some (.ref 1), some (.ref 26), some (.int v3), none, none, none, none, none, none, none, none] [] (W2 scr s u []) out) (s u : Q) (scr : List Int32) (v3 v8 : Int32) (v9 v10 : Int32) (v11 w0 w1 : Int32) {res : (Q × Q) ⊕ ((Q × Q) ⊕ ((Q × Q) ⊕ ((Q × Q) ⊕ ((Q × Q) ⊕ ((Q × Q) ⊕ ((Q × Q) ⊕ ((Q × Q) ⊕ ((Q × Q) ⊕ (Q × Q)))))))))} {out : Option Value × AHeap} (h : law_b237 go_ s u scr v3 v8 v9 v10 v11 w0 w1 = some res) (hk : law_l26_K scr res out) : Eval own_P 0 237 [some (.ref 0), some (.ref 1), some (.ref 26), some (.int v3), none, none, none, none, some (.int v8), some (.int v9), some (.int v10), some (.int v11)] [.int w1, .int w0] (W2 scr s u []) out := by
 rw [law_b237] at h
 by_cases hc1059 : w0 = w1
 ·rw [if_pos hc1059] at h
  refine Eval.icmpT (t := 242) rfl rfl (teq hc1059).1 ?_
  exact ev_law_b242 _ hrec s u scr v3 v8 v9 v10 v11 h hk
 ·rw [if_neg hc1059] at h
  refine Eval.icmpF rfl (feq hc1059).1 ?_
  cases h
  refine Eval.weak (lw_mk 0 _) ?_
  exact hk
def law_b206 (go_ : Q → Q → List Int32 → Int32 → Option ((Q × Q) ⊕ ((Q × Q) ⊕ ((Q × Q) ⊕ ((Q × Q) ⊕ ((Q × Q) ⊕ ((Q × Q) ⊕ ((Q × Q) ⊕ ((Q × Q) ⊕ ((Q × Q) ⊕ (Q × Q))))))))))) (s u : Q) (scr : List Int32) (v3 v8 : Int32) (v9 v10 v11 : Int32) : Option ((Q × Q) ⊕ ((Q × Q) ⊕ ((Q × Q) ⊕ ((Q × Q) ⊕ ((Q × Q) ⊕ ((Q × Q) ⊕ ((Q × Q) ⊕ ((Q × Q) ⊕ ((Q × Q) ⊕ (Q × Q)))))))))) := (if v8 = (3:Int32) then (if (1:Int32) < v11 then (law_b242 (go_) s u scr v3 v8 v9 v10 v11) else ((j_run s v9 v10).bind fun p1055 => (law_b237 (go_) p1055.2 u scr v3 v8 v9 v10 v11 p1055.1 (if v9 = (3:Int32) then (-1:Int32) else (0:Int32))))) else (law_b242 (go_) s u scr v3 v8 v9 v10 v11))
set_option maxRecDepth 100000 in
theorem ev_law_b206 (go_ : Q → Q → List Int32 → Int32 → Option ((Q × Q) ⊕ ((Q × Q) ⊕ ((Q × Q) ⊕ ((Q × Q) ⊕ ((Q × Q) ⊕ ((Q × Q) ⊕ ((Q × Q) ⊕ ((Q × Q) ⊕ ((Q × Q) ⊕ (Q × Q))))))))))) (hrec : ∀ (s u : Q) (scr : List Int32) (v3 : Int32) {res : (Q × Q) ⊕ ((Q × Q) ⊕ ((Q × Q) ⊕ ((Q × Q) ⊕ ((Q × Q) ⊕ ((Q × Q) ⊕ ((Q × Q) ⊕ ((Q × Q) ⊕ ((Q × Q) ⊕ (Q × Q)))))))))} {out : Option Value × AHeap}, go_ s u scr v3 = some res → law_l26_K scr res out → Eval own_P 0 26 [some (.ref 0), some (.ref 1), some (.ref 26), some (.int v3), none, none, none, none, none, none, none, none] [] (W2 scr s u []) out) (s u : Q) (scr : List Int32) (v3 v8 : Int32) (v9 v10 v11 : Int32) {res : (Q × Q) ⊕ ((Q × Q) ⊕ ((Q × Q) ⊕ ((Q × Q) ⊕ ((Q × Q) ⊕ ((Q × Q) ⊕ ((Q × Q) ⊕ ((Q × Q) ⊕ ((Q × Q) ⊕ (Q × Q)))))))))} {out : Option Value × AHeap} (h : law_b206 go_ s u scr v3 v8 v9 v10 v11 = some res) (hk : law_l26_K scr res out) : Eval own_P 0 206 [some (.ref 0), some (.ref 1), some (.ref 26), some (.int v3), none, none, none, none, some (.int v8), some (.int v9), some (.int v10), some (.int v11)] [] (W2 scr s u []) out := by
 rw [law_b206] at h
 refine Eval.iload rfl rfl ?_
 refine Eval.iconst (x := 3) rfl rfl ?_
 by_cases hc505 : v8 = (3:Int32)
 ·rw [if_pos hc505] at h
  refine Eval.icmpF rfl (teq hc505).2 ?_
  refine Eval.iload rfl rfl ?_
  refine Eval.iconst (x := 1) rfl rfl ?_
  by_cases hc506 : (1:Int32) < v11
  ·rw [if_pos hc506] at h
   refine Eval.icmpT (t := 242) rfl rfl (tlt hc506).2.2.1 ?_
   exact ev_law_b242 _ hrec s u scr v3 v8 v9 v10 v11 h hk
  ·rw [if_neg hc506] at h
   refine Eval.icmpF rfl (flt hc506).2.2.1 ?_
   refine Eval.aload_n rfl rfl ?_
   refine Eval.iload rfl rfl ?_
   refine Eval.iload rfl rfl ?_
   obtain ⟨p1055, hq1056, h⟩ := bind_some h
   refine Eval.callI (rest := []) (x := p1055.1) (H1 := (W2 scr p1055.2 u [])) rfl rfl (Eval.heap own_lo0 (ev_j_run (own_cells2 u.f0 u.f1 u.f2 u.f3 u.f4 u.f5 u.f6 u.f7 u.f8 u.f9 u.f10 u.f11 u.f12 u.f13 u.f14 u.f15 u.f16 u.f17 u.f18 u.f19 u.f20 u.f21 u.f22 u.f23 u.f24 u.f25 u.f26 u.f27 u.f28 u.f29 u.f30 u.f31 u.f32 []) scr s v9 v10 hq1056 rfl)) ?_
   refine Eval.iload rfl rfl ?_
   refine Eval.iconst (x := 3) rfl rfl ?_
   suffices hJ1058 : Eval own_P 0 237 [some (.ref 0), some (.ref 1), some (.ref 26), some (.int v3), none, none, none, none, some (.int v8), some (.int v9), some (.int v10), some (.int v11)] [.int (if v9 = (3:Int32) then (-1:Int32) else (0:Int32)), .int p1055.1] (W2 scr p1055.2 u []) out by
    by_cases hc1057 : v9 = (3:Int32)
    ·refine Eval.icmpF rfl (teq hc1057).2 ?_
     refine Eval.iconst (x := -1) rfl rfl ?_
     refine Eval.goto (t := 237) rfl rfl ?_
     exact (Eval.conv hJ1058 rfl (by simp only [if_pos hc1057]))
    ·refine Eval.icmpT (t := 236) rfl rfl (feq hc1057).2 ?_
     refine Eval.iconst (x := 0) rfl rfl ?_
     exact (Eval.conv hJ1058 rfl (by simp only [if_neg hc1057]))
   exact ev_law_b237 _ hrec p1055.2 u scr v3 v8 v9 v10 v11 p1055.1 (if v9 = (3:Int32) then (-1:Int32) else (0:Int32)) h hk
 ·rw [if_neg hc505] at h
  refine Eval.icmpT (t := 242) rfl rfl (feq hc505).2 ?_
  exact ev_law_b242 _ hrec s u scr v3 v8 v9 v10 v11 h hk
def law_b201 (go_ : Q → Q → List Int32 → Int32 → Option ((Q × Q) ⊕ ((Q × Q) ⊕ ((Q × Q) ⊕ ((Q × Q) ⊕ ((Q × Q) ⊕ ((Q × Q) ⊕ ((Q × Q) ⊕ ((Q × Q) ⊕ ((Q × Q) ⊕ (Q × Q))))))))))) (s u : Q) (scr : List Int32) (v3 v8 : Int32) (v9 v10 : Int32) (v11 w0 w1 : Int32) : Option ((Q × Q) ⊕ ((Q × Q) ⊕ ((Q × Q) ⊕ ((Q × Q) ⊕ ((Q × Q) ⊕ ((Q × Q) ⊕ ((Q × Q) ⊕ ((Q × Q) ⊕ ((Q × Q) ⊕ (Q × Q)))))))))) := (if w0 = w1 then (law_b206 (go_) s u scr v3 v8 v9 v10 v11) else some (.inr (.inr (.inr (.inl (s, u))))))
set_option maxRecDepth 100000 in
theorem ev_law_b201 (go_ : Q → Q → List Int32 → Int32 → Option ((Q × Q) ⊕ ((Q × Q) ⊕ ((Q × Q) ⊕ ((Q × Q) ⊕ ((Q × Q) ⊕ ((Q × Q) ⊕ ((Q × Q) ⊕ ((Q × Q) ⊕ ((Q × Q) ⊕ (Q × Q))))))))))) (hrec : ∀ (s u : Q) (scr : List Int32) (v3 : Int32) {res : (Q × Q) ⊕ ((Q × Q) ⊕ ((Q × Q) ⊕ ((Q × Q) ⊕ ((Q × Q) ⊕ ((Q × Q) ⊕ ((Q × Q) ⊕ ((Q × Q) ⊕ ((Q × Q) ⊕ (Q × Q)))))))))} {out : Option Value × AHeap}, go_ s u scr v3 = some res → law_l26_K scr res out → Eval own_P 0 26 [some (.ref 0), some (.ref 1), some (.ref 26), some (.int v3), none, none, none, none, none, none, none, none] [] (W2 scr s u []) out) (s u : Q) (scr : List Int32) (v3 v8 : Int32) (v9 v10 : Int32) (v11 w0 w1 : Int32) {res : (Q × Q) ⊕ ((Q × Q) ⊕ ((Q × Q) ⊕ ((Q × Q) ⊕ ((Q × Q) ⊕ ((Q × Q) ⊕ ((Q × Q) ⊕ ((Q × Q) ⊕ ((Q × Q) ⊕ (Q × Q)))))))))} {out : Option Value × AHeap} (h : law_b201 go_ s u scr v3 v8 v9 v10 v11 w0 w1 = some res) (hk : law_l26_K scr res out) : Eval own_P 0 201 [some (.ref 0), some (.ref 1), some (.ref 26), some (.int v3), none, none, none, none, some (.int v8), some (.int v9), some (.int v10), some (.int v11)] [.int w1, .int w0] (W2 scr s u []) out := by
 rw [law_b201] at h
 by_cases hc1064 : w0 = w1
 ·rw [if_pos hc1064] at h
  refine Eval.icmpT (t := 206) rfl rfl (teq hc1064).1 ?_
  exact ev_law_b206 _ hrec s u scr v3 v8 v9 v10 v11 h hk
 ·rw [if_neg hc1064] at h
  refine Eval.icmpF rfl (feq hc1064).1 ?_
  cases h
  refine Eval.weak (lw_mk 0 _) ?_
  exact hk
def law_b172 (go_ : Q → Q → List Int32 → Int32 → Option ((Q × Q) ⊕ ((Q × Q) ⊕ ((Q × Q) ⊕ ((Q × Q) ⊕ ((Q × Q) ⊕ ((Q × Q) ⊕ ((Q × Q) ⊕ ((Q × Q) ⊕ ((Q × Q) ⊕ (Q × Q))))))))))) (s u : Q) (scr : List Int32) (v3 v8 : Int32) (v9 v10 v11 : Int32) : Option ((Q × Q) ⊕ ((Q × Q) ⊕ ((Q × Q) ⊕ ((Q × Q) ⊕ ((Q × Q) ⊕ ((Q × Q) ⊕ ((Q × Q) ⊕ ((Q × Q) ⊕ ((Q × Q) ⊕ (Q × Q)))))))))) := (if v8 = (2:Int32) then (if (1:Int32) < v11 then (law_b206 (go_) s u scr v3 v8 v9 v10 v11) else ((j_step s v9).bind fun p1060 => (law_b201 (go_) p1060.2 u scr v3 v8 v9 v10 v11 p1060.1 (if v9 = (3:Int32) then (-1:Int32) else (0:Int32))))) else (law_b206 (go_) s u scr v3 v8 v9 v10 v11))
set_option maxRecDepth 100000 in
theorem ev_law_b172 (go_ : Q → Q → List Int32 → Int32 → Option ((Q × Q) ⊕ ((Q × Q) ⊕ ((Q × Q) ⊕ ((Q × Q) ⊕ ((Q × Q) ⊕ ((Q × Q) ⊕ ((Q × Q) ⊕ ((Q × Q) ⊕ ((Q × Q) ⊕ (Q × Q))))))))))) (hrec : ∀ (s u : Q) (scr : List Int32) (v3 : Int32) {res : (Q × Q) ⊕ ((Q × Q) ⊕ ((Q × Q) ⊕ ((Q × Q) ⊕ ((Q × Q) ⊕ ((Q × Q) ⊕ ((Q × Q) ⊕ ((Q × Q) ⊕ ((Q × Q) ⊕ (Q × Q)))))))))} {out : Option Value × AHeap}, go_ s u scr v3 = some res → law_l26_K scr res out → Eval own_P 0 26 [some (.ref 0), some (.ref 1), some (.ref 26), some (.int v3), none, none, none, none, none, none, none, none] [] (W2 scr s u []) out) (s u : Q) (scr : List Int32) (v3 v8 : Int32) (v9 v10 v11 : Int32) {res : (Q × Q) ⊕ ((Q × Q) ⊕ ((Q × Q) ⊕ ((Q × Q) ⊕ ((Q × Q) ⊕ ((Q × Q) ⊕ ((Q × Q) ⊕ ((Q × Q) ⊕ ((Q × Q) ⊕ (Q × Q)))))))))} {out : Option Value × AHeap} (h : law_b172 go_ s u scr v3 v8 v9 v10 v11 = some res) (hk : law_l26_K scr res out) : Eval own_P 0 172 [some (.ref 0), some (.ref 1), some (.ref 26), some (.int v3), none, none, none, none, some (.int v8), some (.int v9), some (.int v10), some (.int v11)] [] (W2 scr s u []) out := by
 rw [law_b172] at h
 refine Eval.iload rfl rfl ?_
 refine Eval.iconst (x := 2) rfl rfl ?_
 by_cases hc503 : v8 = (2:Int32)
 ·rw [if_pos hc503] at h
  refine Eval.icmpF rfl (teq hc503).2 ?_
  refine Eval.iload rfl rfl ?_
  refine Eval.iconst (x := 1) rfl rfl ?_
  by_cases hc504 : (1:Int32) < v11
  ·rw [if_pos hc504] at h
   refine Eval.icmpT (t := 206) rfl rfl (tlt hc504).2.2.1 ?_
   exact ev_law_b206 _ hrec s u scr v3 v8 v9 v10 v11 h hk
  ·rw [if_neg hc504] at h
   refine Eval.icmpF rfl (flt hc504).2.2.1 ?_
   refine Eval.aload_n rfl rfl ?_
   refine Eval.iload rfl rfl ?_
   obtain ⟨p1060, hq1061, h⟩ := bind_some h
   refine Eval.callI (rest := []) (x := p1060.1) (H1 := (W2 scr p1060.2 u [])) rfl rfl (Eval.heap own_lo0 (ev_j_step (own_cells2 u.f0 u.f1 u.f2 u.f3 u.f4 u.f5 u.f6 u.f7 u.f8 u.f9 u.f10 u.f11 u.f12 u.f13 u.f14 u.f15 u.f16 u.f17 u.f18 u.f19 u.f20 u.f21 u.f22 u.f23 u.f24 u.f25 u.f26 u.f27 u.f28 u.f29 u.f30 u.f31 u.f32 []) scr s v9 hq1061 rfl)) ?_
   refine Eval.iload rfl rfl ?_
   refine Eval.iconst (x := 3) rfl rfl ?_
   suffices hJ1063 : Eval own_P 0 201 [some (.ref 0), some (.ref 1), some (.ref 26), some (.int v3), none, none, none, none, some (.int v8), some (.int v9), some (.int v10), some (.int v11)] [.int (if v9 = (3:Int32) then (-1:Int32) else (0:Int32)), .int p1060.1] (W2 scr p1060.2 u []) out by
    by_cases hc1062 : v9 = (3:Int32)
    ·refine Eval.icmpF rfl (teq hc1062).2 ?_
     refine Eval.iconst (x := -1) rfl rfl ?_
     refine Eval.goto (t := 201) rfl rfl ?_
     exact (Eval.conv hJ1063 rfl (by simp only [if_pos hc1062]))
    ·refine Eval.icmpT (t := 200) rfl rfl (feq hc1062).2 ?_
     refine Eval.iconst (x := 0) rfl rfl ?_
     exact (Eval.conv hJ1063 rfl (by simp only [if_neg hc1062]))
   exact ev_law_b201 _ hrec p1060.2 u scr v3 v8 v9 v10 v11 p1060.1 (if v9 = (3:Int32) then (-1:Int32) else (0:Int32)) h hk
 ·rw [if_neg hc503] at h
  refine Eval.icmpT (t := 206) rfl rfl (feq hc503).2 ?_
  exact ev_law_b206 _ hrec s u scr v3 v8 v9 v10 v11 h hk
def law_b150 (go_ : Q → Q → List Int32 → Int32 → Option ((Q × Q) ⊕ ((Q × Q) ⊕ ((Q × Q) ⊕ ((Q × Q) ⊕ ((Q × Q) ⊕ ((Q × Q) ⊕ ((Q × Q) ⊕ ((Q × Q) ⊕ ((Q × Q) ⊕ (Q × Q))))))))))) (s u : Q) (scr : List Int32) (v3 v8 : Int32) (v9 v10 v11 : Int32) : Option ((Q × Q) ⊕ ((Q × Q) ⊕ ((Q × Q) ⊕ ((Q × Q) ⊕ ((Q × Q) ⊕ ((Q × Q) ⊕ ((Q × Q) ⊕ ((Q × Q) ⊕ ((Q × Q) ⊕ (Q × Q)))))))))) := (if v8 = (1:Int32) then (if v11 = (0:Int32) then (law_b172 (go_) s u scr v3 v8 v9 v10 v11) else ((j_startDequeue s v9).bind fun p1065 => (if p1065.1 = (0:Int32) then (law_b172 (go_) p1065.2 u scr v3 v8 v9 v10 v11) else some (.inr (.inr (.inl (p1065.2, u))))))) else (law_b172 (go_) s u scr v3 v8 v9 v10 v11))
set_option maxRecDepth 100000 in
theorem ev_law_b150 (go_ : Q → Q → List Int32 → Int32 → Option ((Q × Q) ⊕ ((Q × Q) ⊕ ((Q × Q) ⊕ ((Q × Q) ⊕ ((Q × Q) ⊕ ((Q × Q) ⊕ ((Q × Q) ⊕ ((Q × Q) ⊕ ((Q × Q) ⊕ (Q × Q))))))))))) (hrec : ∀ (s u : Q) (scr : List Int32) (v3 : Int32) {res : (Q × Q) ⊕ ((Q × Q) ⊕ ((Q × Q) ⊕ ((Q × Q) ⊕ ((Q × Q) ⊕ ((Q × Q) ⊕ ((Q × Q) ⊕ ((Q × Q) ⊕ ((Q × Q) ⊕ (Q × Q)))))))))} {out : Option Value × AHeap}, go_ s u scr v3 = some res → law_l26_K scr res out → Eval own_P 0 26 [some (.ref 0), some (.ref 1), some (.ref 26), some (.int v3), none, none, none, none, none, none, none, none] [] (W2 scr s u []) out) (s u : Q) (scr : List Int32) (v3 v8 : Int32) (v9 v10 v11 : Int32) {res : (Q × Q) ⊕ ((Q × Q) ⊕ ((Q × Q) ⊕ ((Q × Q) ⊕ ((Q × Q) ⊕ ((Q × Q) ⊕ ((Q × Q) ⊕ ((Q × Q) ⊕ ((Q × Q) ⊕ (Q × Q)))))))))} {out : Option Value × AHeap} (h : law_b150 go_ s u scr v3 v8 v9 v10 v11 = some res) (hk : law_l26_K scr res out) : Eval own_P 0 150 [some (.ref 0), some (.ref 1), some (.ref 26), some (.int v3), none, none, none, none, some (.int v8), some (.int v9), some (.int v10), some (.int v11)] [] (W2 scr s u []) out := by
 rw [law_b150] at h
 refine Eval.iload rfl rfl ?_
 refine Eval.iconst (x := 1) rfl rfl ?_
 by_cases hc501 : v8 = (1:Int32)
 ·rw [if_pos hc501] at h
  refine Eval.icmpF rfl (teq hc501).2 ?_
  refine Eval.iload rfl rfl ?_
  by_cases hc502 : v11 = (0:Int32)
  ·rw [if_pos hc502] at h
   refine Eval.ifT (t := 172) rfl rfl (teq hc502).1 ?_
   exact ev_law_b172 _ hrec s u scr v3 v8 v9 v10 v11 h hk
  ·rw [if_neg hc502] at h
   refine Eval.ifF rfl (feq hc502).1 ?_
   refine Eval.aload_n rfl rfl ?_
   refine Eval.iload rfl rfl ?_
   obtain ⟨p1065, hq1066, h⟩ := bind_some h
   refine Eval.callI (rest := []) (x := p1065.1) (H1 := (W2 scr p1065.2 u [])) rfl rfl (Eval.heap own_lo0 (ev_j_startDequeue (own_cells2 u.f0 u.f1 u.f2 u.f3 u.f4 u.f5 u.f6 u.f7 u.f8 u.f9 u.f10 u.f11 u.f12 u.f13 u.f14 u.f15 u.f16 u.f17 u.f18 u.f19 u.f20 u.f21 u.f22 u.f23 u.f24 u.f25 u.f26 u.f27 u.f28 u.f29 u.f30 u.f31 u.f32 []) scr s v9 hq1066 rfl)) ?_
   by_cases hc1067 : p1065.1 = (0:Int32)
   ·rw [if_pos hc1067] at h
    refine Eval.ifT (t := 172) rfl rfl (teq hc1067).1 ?_
    exact ev_law_b172 _ hrec p1065.2 u scr v3 v8 v9 v10 v11 h hk
   ·rw [if_neg hc1067] at h
    refine Eval.ifF rfl (feq hc1067).1 ?_
    cases h
    refine Eval.weak (lw_mk 0 _) ?_
    exact hk
 ·rw [if_neg hc501] at h
  refine Eval.icmpT (t := 172) rfl rfl (feq hc501).2 ?_
  exact ev_law_b172 _ hrec s u scr v3 v8 v9 v10 v11 h hk
def law_l26 : Nat → Q → Q → List Int32 → Int32 → Option ((Q × Q) ⊕ ((Q × Q) ⊕ ((Q × Q) ⊕ ((Q × Q) ⊕ ((Q × Q) ⊕ ((Q × Q) ⊕ ((Q × Q) ⊕ ((Q × Q) ⊕ ((Q × Q) ⊕ (Q × Q))))))))))
  | 0, _, _, _, _ => none
  | n + 1, s, u, scr, v3 => (if (v3 + (3:Int32)) < (Nat.toInt32 scr.length) then (if inb scr.length v3 = true then (if inb scr.length (v3 + (1:Int32)) = true then (if inb scr.length (v3 + (2:Int32)) = true then ((h_drive s ((rd scr v3) &&& (7:Int32)) ((rd scr (v3 + (1:Int32))) &&& (3:Int32)) (rd scr (v3 + (2:Int32)))).bind fun p260 => ((h_drive u ((rd scr v3) &&& (7:Int32)) ((rd scr (v3 + (1:Int32))) &&& (3:Int32)) (rd scr (v3 + (2:Int32)))).bind fun p491 => (if p260.1 = p491.1 then (if inb scr.length (v3 + (3:Int32)) = true then ((j_state p260.2 ((isr (rd scr (v3 + (3:Int32))) (3:Int32)) &&& (3:Int32))).bind fun p497 => (if ((rd scr (v3 + (3:Int32))) &&& (7:Int32)) = (0:Int32) then (if p497 = (0:Int32) then (law_b150 (law_l26 n) p260.2 p491.2 scr v3 ((rd scr (v3 + (3:Int32))) &&& (7:Int32)) ((isr (rd scr (v3 + (3:Int32))) (3:Int32)) &&& (3:Int32)) ((isr (rd scr (v3 + (3:Int32))) (5:Int32)) &&& (1023:Int32)) p497) else ((j_startEnqueue p260.2 ((isr (rd scr (v3 + (3:Int32))) (3:Int32)) &&& (3:Int32)) (((isr (rd scr (v3 + (3:Int32))) (5:Int32)) &&& (1023:Int32)) &&& (255:Int32))).bind fun p1068 => (if p1068.1 = (0:Int32) then (law_b150 (law_l26 n) p1068.2 p491.2 scr v3 ((rd scr (v3 + (3:Int32))) &&& (7:Int32)) ((isr (rd scr (v3 + (3:Int32))) (3:Int32)) &&& (3:Int32)) ((isr (rd scr (v3 + (3:Int32))) (5:Int32)) &&& (1023:Int32)) p497) else some (.inr (.inl (p1068.2, p491.2)))))) else (law_b150 (law_l26 n) p260.2 p491.2 scr v3 ((rd scr (v3 + (3:Int32))) &&& (7:Int32)) ((isr (rd scr (v3 + (3:Int32))) (3:Int32)) &&& (3:Int32)) ((isr (rd scr (v3 + (3:Int32))) (5:Int32)) &&& (1023:Int32)) p497))) else none) else some (.inl (p260.2, p491.2))))) else none) else none) else none) else some (.inr (.inr (.inr (.inr (.inr (.inr (.inr (.inr (.inr (s, u)))))))))))
set_option maxRecDepth 100000 in
theorem ev_law_l26 : ∀ (n : Nat) (s u : Q) (scr : List Int32) (v3 : Int32) {res : (Q × Q) ⊕ ((Q × Q) ⊕ ((Q × Q) ⊕ ((Q × Q) ⊕ ((Q × Q) ⊕ ((Q × Q) ⊕ ((Q × Q) ⊕ ((Q × Q) ⊕ ((Q × Q) ⊕ (Q × Q)))))))))} {out : Option Value × AHeap}, law_l26 n s u scr v3 = some res → law_l26_K scr res out → Eval own_P 0 26 [some (.ref 0), some (.ref 1), some (.ref 26), some (.int v3), none, none, none, none, none, none, none, none] [] (W2 scr s u []) out := by
 intro n
 induction n with
 | zero => intro _ _ _ _ res out h hk; cases h
 | succ n hrec =>
  intro s u scr v3 res out h hk
  rw [law_l26] at h
  refine Eval.iload_n rfl rfl ?_
  refine Eval.iconst (x := 3) rfl rfl ?_
  refine Eval.iadd rfl ?_
  refine Eval.aload_n rfl rfl ?_
  refine Eval.alenI (xs := scr) rfl rfl ?_
  by_cases hc25 : (v3 + (3:Int32)) < (Nat.toInt32 scr.length)
  ·rw [if_pos hc25] at h
   refine Eval.icmpF rfl (tlt hc25).2.1 ?_
   refine Eval.aload_n rfl rfl ?_
   refine Eval.iload_n rfl rfl ?_
   obtain ⟨hb26, h⟩ := ite_some h
   refine Eval.iaload0 (xs := scr) rfl rfl hb26 ?_
   refine Eval.bipush (x := 7) rfl rfl ?_
   refine Eval.iand rfl ?_
   refine Eval.istore (L' := [some (.ref 0), some (.ref 1), some (.ref 26), some (.int v3), some (.int ((rd scr v3) &&& (7:Int32))), none, none, none, none, none, none, none]) rfl rfl ?_
   refine Eval.aload_n rfl rfl ?_
   refine Eval.iload_n rfl rfl ?_
   refine Eval.iconst (x := 1) rfl rfl ?_
   refine Eval.iadd rfl ?_
   obtain ⟨hb27, h⟩ := ite_some h
   refine Eval.iaload0 (xs := scr) rfl rfl hb27 ?_
   refine Eval.iconst (x := 3) rfl rfl ?_
   refine Eval.iand rfl ?_
   refine Eval.istore (L' := [some (.ref 0), some (.ref 1), some (.ref 26), some (.int v3), some (.int ((rd scr v3) &&& (7:Int32))), some (.int ((rd scr (v3 + (1:Int32))) &&& (3:Int32))), none, none, none, none, none, none]) rfl rfl ?_
   refine Eval.aload_n rfl rfl ?_
   refine Eval.iload_n rfl rfl ?_
   refine Eval.iconst (x := 2) rfl rfl ?_
   refine Eval.iadd rfl ?_
   obtain ⟨hb28, h⟩ := ite_some h
   refine Eval.iaload0 (xs := scr) rfl rfl hb28 ?_
   refine Eval.istore (L' := [some (.ref 0), some (.ref 1), some (.ref 26), some (.int v3), some (.int ((rd scr v3) &&& (7:Int32))), some (.int ((rd scr (v3 + (1:Int32))) &&& (3:Int32))), some (.int (rd scr (v3 + (2:Int32)))), none, none, none, none, none]) rfl rfl ?_
   refine Eval.aload_n rfl rfl ?_
   refine Eval.iload rfl rfl ?_
   refine Eval.iload rfl rfl ?_
   refine Eval.iload rfl rfl ?_
   obtain ⟨p260, hq261, h⟩ := bind_some h
   refine Eval.callI (rest := []) (x := p260.1) (H1 := (W2 scr p260.2 u [])) rfl rfl (Eval.heap own_lo0 (ev_h_drive (own_cells2 u.f0 u.f1 u.f2 u.f3 u.f4 u.f5 u.f6 u.f7 u.f8 u.f9 u.f10 u.f11 u.f12 u.f13 u.f14 u.f15 u.f16 u.f17 u.f18 u.f19 u.f20 u.f21 u.f22 u.f23 u.f24 u.f25 u.f26 u.f27 u.f28 u.f29 u.f30 u.f31 u.f32 []) scr s ((rd scr v3) &&& (7:Int32)) ((rd scr (v3 + (1:Int32))) &&& (3:Int32)) (rd scr (v3 + (2:Int32))) hq261 rfl)) ?_
   refine Eval.aload_n rfl rfl ?_
   refine Eval.iload rfl rfl ?_
   refine Eval.iload rfl rfl ?_
   refine Eval.iload rfl rfl ?_
   obtain ⟨p491, hq492, h⟩ := bind_some h
   refine Eval.callI (rest := [.int p260.1]) (x := p491.1) (H1 := (W2 scr p260.2 p491.2 [])) rfl rfl (ev_h_drive_2 [] scr p260.2 u ((rd scr v3) &&& (7:Int32)) ((rd scr (v3 + (1:Int32))) &&& (3:Int32)) (rd scr (v3 + (2:Int32))) hq492 rfl) ?_
   by_cases hc493 : p260.1 = p491.1
   ·rw [if_pos hc493] at h
    refine Eval.icmpT (t := 83) rfl rfl (teq hc493).1 ?_
    refine Eval.aload_n rfl rfl ?_
    refine Eval.iload_n rfl rfl ?_
    refine Eval.iconst (x := 3) rfl rfl ?_
    refine Eval.iadd rfl ?_
    obtain ⟨hb494, h⟩ := ite_some h
    refine Eval.iaload0 (xs := scr) rfl rfl hb494 ?_
    refine Eval.istore (L' := [some (.ref 0), some (.ref 1), some (.ref 26), some (.int v3), some (.int ((rd scr v3) &&& (7:Int32))), some (.int ((rd scr (v3 + (1:Int32))) &&& (3:Int32))), some (.int (rd scr (v3 + (2:Int32)))), some (.int (rd scr (v3 + (3:Int32)))), none, none, none, none]) rfl rfl ?_
    refine Eval.iload rfl rfl ?_
    refine Eval.bipush (x := 7) rfl rfl ?_
    refine Eval.iand rfl ?_
    refine Eval.istore (L' := [some (.ref 0), some (.ref 1), some (.ref 26), some (.int v3), some (.int ((rd scr v3) &&& (7:Int32))), some (.int ((rd scr (v3 + (1:Int32))) &&& (3:Int32))), some (.int (rd scr (v3 + (2:Int32)))), some (.int (rd scr (v3 + (3:Int32)))), some (.int ((rd scr (v3 + (3:Int32))) &&& (7:Int32))), none, none, none]) rfl rfl ?_
    refine Eval.iload rfl rfl ?_
    refine Eval.iconst (x := 3) rfl rfl ?_
    refine Eval.ishr rfl ?_
    refine Eval.iconst (x := 3) rfl rfl ?_
    refine Eval.iand rfl ?_
    refine Eval.istore (L' := [some (.ref 0), some (.ref 1), some (.ref 26), some (.int v3), some (.int ((rd scr v3) &&& (7:Int32))), some (.int ((rd scr (v3 + (1:Int32))) &&& (3:Int32))), some (.int (rd scr (v3 + (2:Int32)))), some (.int (rd scr (v3 + (3:Int32)))), some (.int ((rd scr (v3 + (3:Int32))) &&& (7:Int32))), some (.int ((isr (rd scr (v3 + (3:Int32))) (3:Int32)) &&& (3:Int32))), none, none]) rfl rfl ?_
    refine Eval.iload rfl rfl ?_
    refine Eval.iconst (x := 5) rfl rfl ?_
    refine Eval.ishr rfl ?_
    refine Eval.sipush (x := 1023) rfl rfl ?_
    refine Eval.iand rfl ?_
    refine Eval.istore (L' := [some (.ref 0), some (.ref 1), some (.ref 26), some (.int v3), some (.int ((rd scr v3) &&& (7:Int32))), some (.int ((rd scr (v3 + (1:Int32))) &&& (3:Int32))), some (.int (rd scr (v3 + (2:Int32)))), some (.int (rd scr (v3 + (3:Int32)))), some (.int ((rd scr (v3 + (3:Int32))) &&& (7:Int32))), some (.int ((isr (rd scr (v3 + (3:Int32))) (3:Int32)) &&& (3:Int32))), some (.int ((isr (rd scr (v3 + (3:Int32))) (5:Int32)) &&& (1023:Int32))), none]) rfl rfl ?_
    refine Eval.aload_n rfl rfl ?_
    refine Eval.iload rfl rfl ?_
    obtain ⟨p497, hq498, h⟩ := bind_some h
    refine Eval.callI (rest := []) (x := p497) (H1 := (W2 scr p260.2 p491.2 [])) rfl rfl (Eval.heap own_lo0 (ev_j_state (own_cells2 p491.2.f0 p491.2.f1 p491.2.f2 p491.2.f3 p491.2.f4 p491.2.f5 p491.2.f6 p491.2.f7 p491.2.f8 p491.2.f9 p491.2.f10 p491.2.f11 p491.2.f12 p491.2.f13 p491.2.f14 p491.2.f15 p491.2.f16 p491.2.f17 p491.2.f18 p491.2.f19 p491.2.f20 p491.2.f21 p491.2.f22 p491.2.f23 p491.2.f24 p491.2.f25 p491.2.f26 p491.2.f27 p491.2.f28 p491.2.f29 p491.2.f30 p491.2.f31 p491.2.f32 []) scr p260.2 ((isr (rd scr (v3 + (3:Int32))) (3:Int32)) &&& (3:Int32)) hq498 (congrArg (Prod.mk _) own_lo0.symm))) ?_
    refine Eval.istore (L' := [some (.ref 0), some (.ref 1), some (.ref 26), some (.int v3), some (.int ((rd scr v3) &&& (7:Int32))), some (.int ((rd scr (v3 + (1:Int32))) &&& (3:Int32))), some (.int (rd scr (v3 + (2:Int32)))), some (.int (rd scr (v3 + (3:Int32)))), some (.int ((rd scr (v3 + (3:Int32))) &&& (7:Int32))), some (.int ((isr (rd scr (v3 + (3:Int32))) (3:Int32)) &&& (3:Int32))), some (.int ((isr (rd scr (v3 + (3:Int32))) (5:Int32)) &&& (1023:Int32))), some (.int p497)]) rfl rfl ?_
    refine Eval.iload rfl rfl ?_
    by_cases hc499 : ((rd scr (v3 + (3:Int32))) &&& (7:Int32)) = (0:Int32)
    ·rw [if_pos hc499] at h
     refine Eval.ifF rfl (teq hc499).2 ?_
     refine Eval.iload rfl rfl ?_
     by_cases hc500 : p497 = (0:Int32)
     ·rw [if_pos hc500] at h
      refine Eval.ifT (t := 150) rfl rfl (teq hc500).1 ?_
      refine Eval.weak (lw_mk 3855 _) ?_
      exact ev_law_b150 _ hrec p260.2 p491.2 scr v3 ((rd scr (v3 + (3:Int32))) &&& (7:Int32)) ((isr (rd scr (v3 + (3:Int32))) (3:Int32)) &&& (3:Int32)) ((isr (rd scr (v3 + (3:Int32))) (5:Int32)) &&& (1023:Int32)) p497 h hk
     ·rw [if_neg hc500] at h
      refine Eval.ifF rfl (feq hc500).1 ?_
      refine Eval.aload_n rfl rfl ?_
      refine Eval.iload rfl rfl ?_
      refine Eval.iload rfl rfl ?_
      refine Eval.sipush (x := 255) rfl rfl ?_
      refine Eval.iand rfl ?_
      obtain ⟨p1068, hq1069, h⟩ := bind_some h
      refine Eval.callI (rest := []) (x := p1068.1) (H1 := (W2 scr p1068.2 p491.2 [])) rfl rfl (Eval.heap own_lo0 (ev_j_startEnqueue (own_cells2 p491.2.f0 p491.2.f1 p491.2.f2 p491.2.f3 p491.2.f4 p491.2.f5 p491.2.f6 p491.2.f7 p491.2.f8 p491.2.f9 p491.2.f10 p491.2.f11 p491.2.f12 p491.2.f13 p491.2.f14 p491.2.f15 p491.2.f16 p491.2.f17 p491.2.f18 p491.2.f19 p491.2.f20 p491.2.f21 p491.2.f22 p491.2.f23 p491.2.f24 p491.2.f25 p491.2.f26 p491.2.f27 p491.2.f28 p491.2.f29 p491.2.f30 p491.2.f31 p491.2.f32 []) scr p260.2 ((isr (rd scr (v3 + (3:Int32))) (3:Int32)) &&& (3:Int32)) (((isr (rd scr (v3 + (3:Int32))) (5:Int32)) &&& (1023:Int32)) &&& (255:Int32)) hq1069 rfl)) ?_
      by_cases hc1070 : p1068.1 = (0:Int32)
      ·rw [if_pos hc1070] at h
       refine Eval.ifT (t := 150) rfl rfl (teq hc1070).1 ?_
       refine Eval.weak (lw_mk 3855 _) ?_
       exact ev_law_b150 _ hrec p1068.2 p491.2 scr v3 ((rd scr (v3 + (3:Int32))) &&& (7:Int32)) ((isr (rd scr (v3 + (3:Int32))) (3:Int32)) &&& (3:Int32)) ((isr (rd scr (v3 + (3:Int32))) (5:Int32)) &&& (1023:Int32)) p497 h hk
      ·rw [if_neg hc1070] at h
       refine Eval.ifF rfl (feq hc1070).1 ?_
       cases h
       refine Eval.weak (lw_mk 0 _) ?_
       exact hk
    ·rw [if_neg hc499] at h
     refine Eval.ifT (t := 150) rfl rfl (feq hc499).2 ?_
     refine Eval.weak (lw_mk 3855 _) ?_
     exact ev_law_b150 _ hrec p260.2 p491.2 scr v3 ((rd scr (v3 + (3:Int32))) &&& (7:Int32)) ((isr (rd scr (v3 + (3:Int32))) (3:Int32)) &&& (3:Int32)) ((isr (rd scr (v3 + (3:Int32))) (5:Int32)) &&& (1023:Int32)) p497 h hk
   ·rw [if_neg hc493] at h
    refine Eval.icmpF rfl (feq hc493).1 ?_
    cases h
    refine Eval.weak (lw_mk 0 _) ?_
    exact hk
  ·rw [if_neg hc25] at h
   refine Eval.icmpT (t := 334) rfl rfl (flt hc25).2.1 ?_
   cases h
   refine Eval.weak (lw_mk 0 _) ?_
   exact hk
def law (scr : List Int32) : Option (Int32 × Q × Q) := ((j_init (1:Int32) (3:Int32) (60:Int32)).bind fun p12 => ((j_init (1:Int32) (3:Int32) (60:Int32)).bind fun p23 => ((law_l26 3000 p12 p23 scr (0:Int32)).bind fun p1071 => Sum.elim (fun p1073 => some ((0:Int32), p1073.1, p1073.2)) (fun p1074 => Sum.elim (fun p1075 => some ((0:Int32), p1075.1, p1075.2)) (fun p1076 => Sum.elim (fun p1077 => some ((0:Int32), p1077.1, p1077.2)) (fun p1078 => Sum.elim (fun p1079 => some ((0:Int32), p1079.1, p1079.2)) (fun p1080 => Sum.elim (fun p1081 => some ((0:Int32), p1081.1, p1081.2)) (fun p1082 => Sum.elim (fun p1083 => some ((0:Int32), p1083.1, p1083.2)) (fun p1084 => Sum.elim (fun p1085 => some ((0:Int32), p1085.1, p1085.2)) (fun p1086 => Sum.elim (fun p1087 => some ((0:Int32), p1087.1, p1087.2)) (fun p1088 => Sum.elim (fun p1089 => some ((0:Int32), p1089.1, p1089.2)) (fun p1090 => some ((1:Int32), p1090.1, p1090.2)) p1088) p1086) p1084) p1082) p1080) p1078) p1076) p1074) p1071)))
set_option maxRecDepth 100000 in
theorem ev_law (scr : List Int32) {res : Int32 × Q × Q} {out : Option Value × AHeap} (h : law scr = some res) (hk : out = (some (.int res.1), (W2 scr res.2.1 res.2.2 []))) : Eval own_P 0 0 [some (.ref 0), none, none, none, none, none, none, none, none, none, none, none] [] (W0 scr []) out := by
 rw [law] at h
 refine Eval.new (z := 0) (a := 1) (H1 := (W0 scr [.inl (Prog.fresh own_P)])) rfl rfl rfl (by decide) rfl (by decide) rfl ?_
 refine Eval.dupR rfl ?_
 refine Eval.iconst (x := 1) rfl rfl ?_
 refine Eval.iconst (x := 3) rfl rfl ?_
 refine Eval.bipush (x := 60) rfl rfl ?_
 obtain ⟨p12, hq13, h⟩ := bind_some h
 refine Eval.callN (rest := [.ref 1]) (H1 := (W1 scr p12 [])) rfl rfl (ev_j_init scr (1:Int32) (3:Int32) (60:Int32) hq13 rfl) ?_
 refine Eval.astore_n (L' := [some (.ref 0), some (.ref 1), none, none, none, none, none, none, none, none, none, none]) rfl rfl ?_
 refine Eval.new (z := 396) (a := 26) (H1 := (W1 scr p12 [.inl (Prog.fresh own_P)])) rfl rfl rfl (by decide) (own_hszQ (ln_j_init hq13)) (by decide) rfl ?_
 refine Eval.dupR rfl ?_
 refine Eval.iconst (x := 1) rfl rfl ?_
 refine Eval.iconst (x := 3) rfl rfl ?_
 refine Eval.bipush (x := 60) rfl rfl ?_
 obtain ⟨p23, hq24, h⟩ := bind_some h
 refine Eval.callN (rest := [.ref 26]) (H1 := (W2 scr p12 p23 [])) rfl rfl (ev_j_init_2 scr p12 (own_hszQ (ln_j_init hq13)) (1:Int32) (3:Int32) (60:Int32) hq24 rfl) ?_
 refine Eval.astore_n (L' := [some (.ref 0), some (.ref 1), some (.ref 26), none, none, none, none, none, none, none, none, none]) rfl rfl ?_
 refine Eval.iconst (x := 0) rfl rfl ?_
 refine Eval.istore_n (L' := [some (.ref 0), some (.ref 1), some (.ref 26), some (.int 0), none, none, none, none, none, none, none, none]) rfl rfl ?_
 obtain ⟨p1071, hq1072, h⟩ := bind_some h
 rcases p1071 with p1073 | p1074
 ·dsimp only [Sum.elim] at h
  refine ev_law_l26 _ p12 p23 scr (0:Int32) hq1072 ?_
  show Eval own_P 0 81 [none, none, none, none, none, none, none, none, none, none, none, none] [] (W2 scr p1073.1 p1073.2 []) out
  refine Eval.iconst (x := 0) rfl rfl ?_
  cases h
  subst hk
  exact Eval.ret rfl rfl
 ·dsimp only [Sum.elim] at h
  rcases p1074 with p1075 | p1076
  ·dsimp only [Sum.elim] at h
   refine ev_law_l26 _ p12 p23 scr (0:Int32) hq1072 ?_
   show Eval own_P 0 148 [none, none, none, none, none, none, none, none, none, none, none, none] [] (W2 scr p1075.1 p1075.2 []) out
   refine Eval.iconst (x := 0) rfl rfl ?_
   cases h
   subst hk
   exact Eval.ret rfl rfl
  ·dsimp only [Sum.elim] at h
   rcases p1076 with p1077 | p1078
   ·dsimp only [Sum.elim] at h
    refine ev_law_l26 _ p12 p23 scr (0:Int32) hq1072 ?_
    show Eval own_P 0 170 [none, none, none, none, none, none, none, none, none, none, none, none] [] (W2 scr p1077.1 p1077.2 []) out
    refine Eval.iconst (x := 0) rfl rfl ?_
    cases h
    subst hk
    exact Eval.ret rfl rfl
   ·dsimp only [Sum.elim] at h
    rcases p1078 with p1079 | p1080
    ·dsimp only [Sum.elim] at h
     refine ev_law_l26 _ p12 p23 scr (0:Int32) hq1072 ?_
     show Eval own_P 0 204 [none, none, none, none, none, none, none, none, none, none, none, none] [] (W2 scr p1079.1 p1079.2 []) out
     refine Eval.iconst (x := 0) rfl rfl ?_
     cases h
     subst hk
     exact Eval.ret rfl rfl
    ·dsimp only [Sum.elim] at h
     rcases p1080 with p1081 | p1082
     ·dsimp only [Sum.elim] at h
      refine ev_law_l26 _ p12 p23 scr (0:Int32) hq1072 ?_
      show Eval own_P 0 240 [none, none, none, none, none, none, none, none, none, none, none, none] [] (W2 scr p1081.1 p1081.2 []) out
      refine Eval.iconst (x := 0) rfl rfl ?_
      cases h
      subst hk
      exact Eval.ret rfl rfl
     ·dsimp only [Sum.elim] at h
      rcases p1082 with p1083 | p1084
      ·dsimp only [Sum.elim] at h
       refine ev_law_l26 _ p12 p23 scr (0:Int32) hq1072 ?_
       show Eval own_P 0 260 [none, none, none, none, none, none, none, none, none, none, none, none] [] (W2 scr p1083.1 p1083.2 []) out
       refine Eval.iconst (x := 0) rfl rfl ?_
       cases h
       subst hk
       exact Eval.ret rfl rfl
      ·dsimp only [Sum.elim] at h
       rcases p1084 with p1085 | p1086
       ·dsimp only [Sum.elim] at h
        refine ev_law_l26 _ p12 p23 scr (0:Int32) hq1072 ?_
        show Eval own_P 0 293 [none, none, none, none, none, none, none, none, none, none, none, none] [] (W2 scr p1085.1 p1085.2 []) out
        refine Eval.iconst (x := 0) rfl rfl ?_
        cases h
        subst hk
        exact Eval.ret rfl rfl
       ·dsimp only [Sum.elim] at h
        rcases p1086 with p1087 | p1088
        ·dsimp only [Sum.elim] at h
         refine ev_law_l26 _ p12 p23 scr (0:Int32) hq1072 ?_
         show Eval own_P 0 316 [none, none, none, none, none, none, none, none, none, none, none, none] [] (W2 scr p1087.1 p1087.2 []) out
         refine Eval.iconst (x := 0) rfl rfl ?_
         cases h
         subst hk
         exact Eval.ret rfl rfl
        ·dsimp only [Sum.elim] at h
         rcases p1088 with p1089 | p1090
         ·dsimp only [Sum.elim] at h
          refine ev_law_l26 _ p12 p23 scr (0:Int32) hq1072 ?_
          show Eval own_P 0 326 [none, none, none, none, none, none, none, none, none, none, none, none] [] (W2 scr p1089.1 p1089.2 []) out
          refine Eval.iconst (x := 0) rfl rfl ?_
          cases h
          subst hk
          exact Eval.ret rfl rfl
         ·dsimp only [Sum.elim] at h
          refine ev_law_l26 _ p12 p23 scr (0:Int32) hq1072 ?_
          show Eval own_P 0 334 [none, none, none, none, none, none, none, none, none, none, none, none] [] (W2 scr p1090.1 p1090.2 []) out
          refine Eval.iconst (x := 1) rfl rfl ?_
          cases h
          subst hk
          exact Eval.ret rfl rfl
theorem own_rdc {n : Nat} {c j : Int32} (h : inb n j = true) : rd (List.replicate n c) j = c := by
  have q := rd_at (xs := List.replicate n c) (j := j) (by simpa using h)
  rw [List.getElem?_replicate] at q
  split at q
  · exact (Option.some.inj q).symm
  · cases q
theorem own_n2i {i : Nat} (h : i < 2147483648) : (Int32.ofNat i).toInt = i := by
  rw [Int32.toInt_ofNat']
  simp only [Int32.size, Int.bmod_def]
  omega
theorem own_n2n {i : Nat} (h : i < 2147483648) : (Int32.ofNat i).toNatClampNeg = i := by
  simp only [Int32.toNatClampNeg, own_n2i h]; omega
theorem own_succ (i : Nat) : Int32.ofNat i + 1 = Int32.ofNat (i + 1) := (Int32.ofNat_add i 1).symm
theorem own_inbN {n i : Nat} (h : i < n) (hn : n < 2147483648) : inb n (Int32.ofNat i) = true := inb_iff.mpr (by rw [own_n2i (by omega)]; omega)
theorem own_ltN {i k : Nat} (hi : i < 2147483648) (hk : k < 2147483648) : Int32.ofNat i < Int32.ofNat k ↔ i < k := by
  rw [lt32, own_n2i hi, own_n2i hk]; omega
theorem own_wrA {A r : List Int32} {d x : Int32} {i : Nat} (hi : A.length = i) (h : i < 2147483648) : wr (A ++ d :: r) (Int32.ofNat i) x = A ++ x :: r := by
  unfold wr
  rw [own_n2n h, ← hi]
  simp
theorem own_repS (i : Nat) (c : Int32) (r : List Int32) : List.replicate i c ++ c :: r = List.replicate (i + 1) c ++ r := by
  rw [List.replicate_succ']; simp
theorem own_add {x y : Int32} (h1 : -2147483648 ≤ x.toInt + y.toInt) (h2 : x.toInt + y.toInt < 2147483648) : (x + y).toInt = x.toInt + y.toInt := by
  rw [Int32.toInt_add, Int.bmod_def]
  omega
theorem own_sub {x y : Int32} (h1 : -2147483648 ≤ x.toInt - y.toInt) (h2 : x.toInt - y.toInt < 2147483648) : (x - y).toInt = x.toInt - y.toInt := by
  rw [Int32.toInt_sub, Int.bmod_def]
  omega
theorem own_mul {x y : Int32} (h1 : -2147483648 ≤ x.toInt * y.toInt) (h2 : x.toInt * y.toInt < 2147483648) : (x * y).toInt = x.toInt * y.toInt := by
  rw [Int32.toInt_mul, Int.bmod_def]
  omega
theorem own_eta (s : Q) : Q.mk s.f0 s.f1 s.f2 s.f3 s.f4 s.f5 s.f6 s.f7 s.f8 s.f9 s.f10 s.f11 s.f12 s.f13 s.f14 s.f15 s.f16 s.f17 s.f18 s.f19 s.f20 s.f21 s.f22 s.f23 s.f24 s.f25 s.f26 s.f27 s.f28 s.f29 s.f30 s.f31 s.f32 = s := rfl
theorem own_wrc (n : Nat) (c j : Int32) : wr (List.replicate n c) j c = List.replicate n c := by simp [wr, List.set_replicate_self]

theorem own_cl {v a b : Int32} (h : a.toInt ≤ b.toInt) : a.toInt ≤ (j_clamp v a b).toInt ∧ (j_clamp v a b).toInt ≤ b.toInt := by
  unfold j_clamp
  split
  · omega
  · split
    · omega
    · rename_i h1 h2; simp only [lt32] at h1 h2; omega

theorem own_div {x y : Int32} (h0 : 0 ≤ x.toInt) (h1 : 0 < y.toInt) : (x / y).toInt = x.toInt / y.toInt := by
  have q : x.toInt < 2147483648 := by have := Int32.toInt_lt x; simpa using this
  rw [Int32.toInt_div, Int.tdiv_eq_ediv_of_nonneg h0]
  have a := Int.ediv_le_self y.toInt h0
  have b : 0 ≤ x.toInt / y.toInt := Int.ediv_nonneg h0 (by omega)
  rw [Int.bmod_def]
  omega

def own_ok {α : Type} (o : Option α) (P : α → Prop) : Prop := ∃ r, o = some r ∧ P r
theorem own_ok_some {α : Type} (x : α) (P : α → Prop) : own_ok (some x) P ↔ P x := by
  constructor
  · rintro ⟨r, h, p⟩; cases h; exact p
  · intro p; exact ⟨x, rfl, p⟩
theorem own_ok_none {α : Type} (P : α → Prop) : own_ok (none : Option α) P ↔ False := by
  constructor
  · rintro ⟨r, h, p⟩; cases h
  · intro p; exact p.elim
theorem own_ok_bind {α β : Type} (o : Option α) (f : α → Option β) (P : β → Prop) : own_ok (o.bind f) P ↔ own_ok o (fun x => own_ok (f x) P) := by
  constructor
  · rintro ⟨r, h, p⟩
    obtain ⟨a, ha, hb⟩ := Option.bind_eq_some_iff.mp h
    exact ⟨a, ha, r, hb, p⟩
  · rintro ⟨a, ha, r, hb, p⟩
    exact ⟨r, Option.bind_eq_some_iff.mpr ⟨a, ha, hb⟩, p⟩
theorem own_ok_ite {α : Type} (c : Prop) [Decidable c] (a b : Option α) (P : α → Prop) : own_ok (if c then a else b) P ↔ (c → own_ok a P) ∧ (¬ c → own_ok b P) := by
  by_cases h : c
  · simp [h]
  · simp [h]
theorem own_mono {α : Type} {o : Option α} {P R : α → Prop} (h : own_ok o P) (m : ∀ x, P x → R x) : own_ok o R := by
  obtain ⟨r, e, p⟩ := h
  exact ⟨r, e, m r p⟩
theorem own_bind {α β : Type} {o : Option α} {f : α → Option β} {P : α → Prop} {R : β → Prop} (h : own_ok o P) (m : ∀ x, P x → own_ok (f x) R) : own_ok (o.bind f) R :=
  (own_ok_bind o f R).mpr (own_mono h m)
theorem own_okE {α : Type} {o : Option α} {r : α} {P : α → Prop} (e : o = some r) (p : P r) : own_ok o P := ⟨r, e, p⟩

def own_S (l : List Int32) : Prop := ∀ i, inb 4 i = true → 0 ≤ (rd l i).toInt
def own_NC (l : List Int32) : Prop := ∀ i, inb 7 i = true → 0 ≤ (rd l i).toInt
def own_M (m : Int32) : Prop := 0 ≤ m.toInt ∧ m.toInt ≤ 7
def own_W (s : Q) : Prop := s.f0.length = 8 ∧ s.f1.length = 8 ∧ s.f2.length = 4 ∧ s.f3.length = 4 ∧ s.f4.length = 4 ∧ s.f5.length = 4 ∧ s.f6.length = 4 ∧ s.f7.length = 4 ∧ s.f8.length = 64 ∧ s.f9.length = 64 ∧ s.f10.length = 64 ∧ s.f11.length = 8 ∧ s.f12.length = 6 ∧ s.f13.length = 6 ∧ s.f14.length = 6 ∧ s.f15.length = 6 ∧ s.f16.length = 6 ∧ s.f17.length = 6 ∧ s.f18.length = 6 ∧ s.f19.length = 4 ∧ s.f20.length = 56 ∧ s.f21.length = 7 ∧ s.f22.length = 7 ∧ s.f23.length = 7
def own_I (s : Q) : Prop := own_W s ∧ s.f24 = 3 ∧ own_M s.f26 ∧ own_S s.f2 ∧ own_NC s.f22
theorem own_S_wr {l : List Int32} {j v : Int32} (h : own_S l) (hl : l.length = 4) (hj : inb 4 j = true) (hv : 0 ≤ v.toInt) : own_S (wr l j v) := by
  intro i hi
  by_cases e : j = i
  · subst e
    rw [rd_wr_same (by rw [hl]; exact hj)]; exact hv
  · rw [rd_wr_ne (inb_nn hj) (inb_nn hi) e]; exact h i hi
theorem own_NC_wr {l : List Int32} {j v : Int32} (h : own_NC l) (hl : l.length = 7) (hj : inb 7 j = true) (hv : 0 ≤ v.toInt) : own_NC (wr l j v) := by
  intro i hi
  by_cases e : j = i
  · subst e
    rw [rd_wr_same (by rw [hl]; exact hj)]; exact hv
  · rw [rd_wr_ne (inb_nn hj) (inb_nn hi) e]; exact h i hi
theorem own_mk {m : Int32} (h : own_M m) (x : Int32) : inb 8 (x &&& m) = true := by
  have := c_and x m h.1
  have := h.2
  exact inb_iff.mpr (by omega)
theorem own_val {s : Q} {t : Int32} (h : own_I s) (v : ¬ j_valid s t = 0) : inb 4 t = true := by
  unfold j_valid at v
  rw [h.2.1] at v
  by_cases a : t < 0
  · rw [if_pos a] at v; exact absurd rfl v
  · rw [if_neg a] at v
    by_cases b : t < 3
    · simp only [lt32, Int32.reduceToInt] at a b
      exact inb_iff.mpr (by omega)
    · rw [if_neg b] at v; exact absurd rfl v
theorem own_i64 {x : Int32} (h0 : ¬ x < 0) (h1 : x < 64) : inb 64 x = true := by
  simp only [lt32, Int32.reduceToInt] at h0 h1
  exact inb_iff.mpr (by omega)
theorem own_i6 {x : Int32} (h0 : ¬ x < 0) (h1 : x < 6) : inb 6 x = true := by
  simp only [lt32, Int32.reduceToInt] at h0 h1
  exact inb_iff.mpr (by omega)
theorem own_pend {s : Q} (h : own_I s) : ∀ (n : Nat) (v1 v2 : Int32), 0 ≤ v2.toInt → v2.toInt ≤ 4 → 4 - v2.toInt < n → ∃ x, j_pending_l4 n s v1 v2 = some x := by
  intro n
  induction n with
  | zero => intro v1 v2 h0 h1 h2; omega
  | succ n ih =>
    intro v1 v2 h0 h1 hn
    rw [j_pending_l4]
    by_cases c : v2 < 4
    · rw [if_pos c]
      simp only [lt32, Int32.reduceToInt] at c
      have e : (v2 + 1).toInt = v2.toInt + 1 := by rw [own_add] <;> simp only [Int32.reduceToInt] <;> omega
      have i : inb 4 v2 = true := inb_iff.mpr (by omega)
      split
      · rw [h.1.2.2.1, if_pos i]
        exact ih _ (v2 + 1) (by omega) (by omega) (by omega)
      · exact ih _ (v2 + 1) (by omega) (by omega) (by omega)
    · rw [if_neg c]; exact ⟨_, rfl⟩
theorem own_room {s : Q} (h : own_I s) : ∃ x, j_hasRoom s = some x := by
  obtain ⟨x, e⟩ := own_pend h 3000 0 0 (by decide) (by decide) (by decide)
  unfold j_hasRoom j_pending
  rw [e]
  simp only [Option.bind_some]
  split <;> exact ⟨_, rfl⟩
theorem own_app {s : Q} {a b c : Int32} (h : own_I s) : own_ok (j_append s a b c) own_I := by
  have hh := h
  obtain ⟨w, N, M, S, C⟩ := h
  unfold own_W at w
  unfold j_append
  by_cases c1 : s.f29 < 0
  · rw [if_pos c1]; exact ⟨_, rfl, hh⟩
  · rw [if_neg c1]
    by_cases c2 : s.f29 < 64
    · rw [if_pos c2]
      simp only [w, own_i64 c1 c2, ↓reduceIte, own_ok_some]
      simp [own_I, own_W, own_Qa, len_wr, w, N, M, S, C]
    · rw [if_neg c2]; exact ⟨_, rfl, hh⟩
def own_R0 (s : Q) (r : Int32 × Q) : Prop := own_I r.2 ∧ (r.1 = 1 ∨ (r.1 = 0 ∧ r.2 = s))
theorem own_R00 {s : Q} (h : own_I s) : own_R0 s (0, s) := ⟨h, Or.inr ⟨rfl, rfl⟩⟩
theorem own_sE {s : Q} {t v : Int32} (h : own_I s) : own_ok (j_startEnqueue s t v) (own_R0 s) := by
  unfold j_startEnqueue
  by_cases q : j_valid s t = 0
  · rw [if_pos q]; exact ⟨_, rfl, own_R00 h⟩
  · have i := own_val h q
    rw [if_neg q, h.1.2.2.1, if_pos i]
    split
    · obtain ⟨x, e⟩ := own_room h
      rw [e, Option.bind_some]
      split
      · exact ⟨_, rfl, own_R00 h⟩
      · refine own_bind (own_app h) ?_
        rintro x ⟨w, N, M, S, C⟩
        unfold own_W at w
        have S' := own_S_wr S w.2.2.1 i (v := 11) (by decide)
        simp only [w, i, ↓reduceIte, own_ok_some, own_R0]
        simp [own_I, own_W, own_Qa, len_wr, w, N, M, S', C]
    · exact ⟨_, rfl, own_R00 h⟩
theorem own_sD {s : Q} {t : Int32} (h : own_I s) : own_ok (j_startDequeue s t) (own_R0 s) := by
  unfold j_startDequeue
  by_cases q : j_valid s t = 0
  · rw [if_pos q]; exact ⟨_, rfl, own_R00 h⟩
  · have i := own_val h q
    rw [if_neg q, h.1.2.2.1, if_pos i]
    split
    · obtain ⟨x, e⟩ := own_room h
      rw [e, Option.bind_some]
      split
      · exact ⟨_, rfl, own_R00 h⟩
      · refine own_bind (own_app h) ?_
        rintro x ⟨w, N, M, S, C⟩
        unfold own_W at w
        have S' := own_S_wr S w.2.2.1 i (v := 21) (by decide)
        simp only [w, i, ↓reduceIte, own_ok_some, own_R0]
        simp [own_I, own_W, own_Qa, len_wr, w, N, M, S', C]
    · exact ⟨_, rfl, own_R00 h⟩
theorem own_lI {s : Q} {t k v : Int32} (h : own_I s) : own_ok (j_logInvoke s t k v) (own_R0 s) := by
  unfold j_logInvoke
  by_cases q : j_valid s t = 0
  · rw [if_pos q]; exact ⟨_, rfl, own_R00 h⟩
  · have i := own_val h q
    have b60 : ∀ x, own_I x → own_ok (j_logInvoke_b60 x t k) (own_R0 s) := by
      rintro x ⟨w, N, M, S, C⟩
      unfold own_W at w
      have S' := own_S_wr S w.2.2.1 i (v := 1) (by decide)
      unfold j_logInvoke_b60
      simp only [w, i, ↓reduceIte, own_ok_some, own_R0]
      simp [own_I, own_W, own_Qa, len_wr, w, N, M, S', C]
    have b20 : own_ok (j_logInvoke_b20 s t k v) (own_R0 s) := by
      unfold j_logInvoke_b20
      rw [h.1.2.2.1, if_pos i]
      split
      · obtain ⟨x, e⟩ := own_room h
        rw [e, Option.bind_some]
        split
        · exact ⟨_, rfl, own_R00 h⟩
        · split
          · exact own_bind (own_app h) b60
          · exact own_bind (own_app h) b60
      · exact ⟨_, rfl, own_R00 h⟩
    rw [if_neg q]
    split
    · exact b20
    · split
      · exact b20
      · exact ⟨_, rfl, own_R00 h⟩
theorem own_lR {s : Q} {t k v : Int32} (h : own_I s) : own_ok (j_logResponse s t k v) (own_R0 s) := by
  unfold j_logResponse
  by_cases q : j_valid s t = 0
  · rw [if_pos q]; exact ⟨_, rfl, own_R00 h⟩
  · have i := own_val h q
    have b85 : ∀ y, own_ok (j_logResponse_b85 s t k y) (own_R0 s) := by
      intro y
      unfold j_logResponse_b85
      refine own_bind (own_app h) ?_
      rintro x ⟨w, N, M, S, C⟩
      unfold own_W at w
      have S' := own_S_wr S w.2.2.1 i (v := 0) (by decide)
      simp only [w, i, ↓reduceIte, own_ok_some, own_R0]
      simp [own_I, own_W, own_Qa, len_wr, w, N, M, S', C]
    have b60 : ∀ y z, own_ok (j_logResponse_b60 s t k v y z) (own_R0 s) := by
      intro y z
      unfold j_logResponse_b60
      split
      · exact ⟨_, rfl, own_R00 h⟩
      · exact b85 _
    rw [if_neg q, h.1.2.2.1, if_pos i]
    split
    · rw [h.1.2.2.2.2.2.2.2.1, if_pos i]
      exact b60 _ _
    · exact ⟨_, rfl, own_R00 h⟩
theorem own_cH2 {s : Q} (h : own_I s) : ∀ (n : Nat) (v : Int32), 0 ≤ v.toInt → v.toInt ≤ 4 → 4 - v.toInt < n → ∃ x, j_clearHistory_l2 n s v = some x := by
  intro n
  induction n with
  | zero => intro v h0 h1 h2; omega
  | succ n ih =>
    intro v h0 h1 hn
    rw [j_clearHistory_l2]
    by_cases c : v < 4
    · rw [if_pos c]
      simp only [lt32, Int32.reduceToInt] at c
      have e : (v + 1).toInt = v.toInt + 1 := by rw [own_add] <;> simp only [Int32.reduceToInt] <;> omega
      have i : inb 4 v = true := inb_iff.mpr (by omega)
      split
      · rw [h.1.2.2.1, if_pos i]
        split
        · exact ih (v + 1) (by omega) (by omega) (by omega)
        · exact ⟨_, rfl⟩
      · exact ih (v + 1) (by omega) (by omega) (by omega)
    · rw [if_neg c]; exact ⟨_, rfl⟩
def own_2 (P : Q → Prop) (r : Q ⊕ Q) : Prop := Sum.elim P P r
theorem own_cH54 : ∀ (n : Nat) (s : Q) (v1 v2 : Int32), own_I s → 0 ≤ v2.toInt → v2.toInt ≤ 8 → 8 - v2.toInt < n → own_ok (j_clearHistory_l54 n s v1 v2) (own_2 own_I) := by
  intro n
  induction n with
  | zero => intro s v1 v2 _ h0 h1 h2; omega
  | succ n ih =>
    intro s v1 v2 h h0 h1 hn
    have hh := h
    obtain ⟨w, N, M, S, C⟩ := h
    unfold own_W at w
    rw [j_clearHistory_l54]
    by_cases c : v2 < 8
    · rw [if_pos c]
      simp only [lt32, Int32.reduceToInt] at c
      have e : (v2 + 1).toInt = v2.toInt + 1 := by rw [own_add] <;> simp only [Int32.reduceToInt] <;> omega
      have i : inb 8 v2 = true := inb_iff.mpr (by omega)
      split
      · simp only [w, i, own_mk M, ↓reduceIte]
        refine ih _ v1 (v2 + 1) ?_ (by omega) (by omega) (by omega)
        simp [own_I, own_W, own_Qa, len_wr, w, N, M, S, C]
      · exact ⟨_, rfl, hh⟩
    · rw [if_neg c]; exact ⟨_, rfl, hh⟩
theorem own_cH {s : Q} (h : own_I s) : own_ok (j_clearHistory s) (own_R0 s) := by
  obtain ⟨x, e⟩ := own_cH2 h 3000 0 (by decide) (by decide) (by decide)
  unfold j_clearHistory
  rw [e, Option.bind_some]
  rcases x with x | x
  · exact ⟨_, rfl, own_R00 h⟩
  · obtain ⟨w, N, M, S, C⟩ := h
    unfold own_W at w
    refine own_bind (own_cH54 3000 _ _ 0 ?_ (by decide) (by decide) (by decide)) ?_
    · simp [own_I, own_W, own_Qa, len_wr, w, N, M, S, C]
    · rintro (y | y) hy
      · exact ⟨_, rfl, hy, Or.inl rfl⟩
      · exact ⟨_, rfl, hy, Or.inl rfl⟩
theorem own_fin {s : Q} {t a b : Int32} (h : own_I s) (i : inb 4 t = true) : own_ok (j_finish s t a b) own_I := by
  obtain ⟨w, N, M, S, C⟩ := h
  unfold own_W at w
  unfold j_finish
  simp only [w, i, ↓reduceIte]
  refine own_bind (own_app ?_) ?_
  · simp [own_I, own_W, own_Qa, len_wr, w, N, M, S, C]
  · rintro x ⟨w, N, M, S, C⟩
    unfold own_W at w
    have S' := own_S_wr S w.2.2.1 i (v := 0) (by decide)
    simp only [w, i, ↓reduceIte, own_ok_some]
    simp [own_I, own_W, own_Qa, len_wr, w, N, M, S', C]
theorem own_dq {s : Q} {t a : Int32} (h : own_I s) (i : inb 4 t = true) : own_ok (j_deqStep s t a) (fun r => own_I r.2) := by
  have hh := h
  obtain ⟨w, N, M, S, C⟩ := h
  unfold own_W at w
  have S' : ∀ v : Int32, 0 ≤ v.toInt → own_S (wr s.f2 t v) := fun v => own_S_wr S w.2.2.1 i
  have S1 := S' 21 (by decide)
  have S2 := S' 22 (by decide)
  have S5 := S' 25 (by decide)
  have S6 := S' 26 (by decide)
  have b116 : ∀ v : Int32, 0 ≤ v.toInt → own_ok (j_deqStep_b116 s t v) (fun r => own_I r.2) := by
    intro v hv
    have := S' v hv
    unfold j_deqStep_b116
    simp only [w, i, ↓reduceIte, own_ok_some]
    simp [own_I, own_W, own_Qa, len_wr, w, N, M, this, C]
  unfold j_deqStep
  simp only [w, i, own_mk M, ↓reduceIte]
  split
  · rw [own_ok_some]; simp [own_I, own_W, own_Qa, len_wr, w, N, M, S2, C]
  · split
    · apply b116
      split
      · decide
      · split <;> decide
    · split
      · split
        · rw [own_ok_some]; simp [own_I, own_W, own_Qa, len_wr, w, N, M, S5, C]
        · rw [own_ok_some]; simp [own_I, own_W, own_Qa, len_wr, w, N, M, S1, C]
      · split
        · split
          · exact own_bind (own_fin hh i) fun x hx => ⟨_, rfl, hx⟩
          · rw [own_ok_some]; simp [own_I, own_W, own_Qa, len_wr, w, N, M, S1, C]
        · split
          · rw [own_ok_some]; simp [own_I, own_W, own_Qa, len_wr, w, N, M, S6, C]
          · split
            · refine own_bind (own_fin ?_ i) fun x hx => ⟨_, rfl, hx⟩
              simp [own_I, own_W, own_Qa, len_wr, w, N, M, S, C]
            · exact ⟨_, rfl, hh⟩
theorem own_eq {s : Q} {t a : Int32} (h : own_I s) (i : inb 4 t = true) : own_ok (j_enqStep s t a) (fun r => own_I r.2) := by
  have hh := h
  obtain ⟨w, N, M, S, C⟩ := h
  unfold own_W at w
  have S' : ∀ v : Int32, 0 ≤ v.toInt → own_S (wr s.f2 t v) := fun v => own_S_wr S w.2.2.1 i
  have S1 := S' 11 (by decide)
  have S2 := S' 12 (by decide)
  have S5 := S' 15 (by decide)
  have S6 := S' 16 (by decide)
  have b114 : ∀ v : Int32, 0 ≤ v.toInt → own_ok (j_enqStep_b114 s t v) (fun r => own_I r.2) := by
    intro v hv
    have := S' v hv
    unfold j_enqStep_b114
    simp only [w, i, ↓reduceIte, own_ok_some]
    simp [own_I, own_W, own_Qa, len_wr, w, N, M, this, C]
  unfold j_enqStep
  simp only [w, i, own_mk M, ↓reduceIte]
  split
  · rw [own_ok_some]; simp [own_I, own_W, own_Qa, len_wr, w, N, M, S2, C]
  · split
    · apply b114
      split
      · decide
      · split <;> decide
    · split
      · split
        · rw [own_ok_some]; simp [own_I, own_W, own_Qa, len_wr, w, N, M, S5, C]
        · rw [own_ok_some]; simp [own_I, own_W, own_Qa, len_wr, w, N, M, S1, C]
      · split
        · split
          · exact own_bind (own_fin hh i) fun x hx => ⟨_, rfl, hx⟩
          · rw [own_ok_some]; simp [own_I, own_W, own_Qa, len_wr, w, N, M, S1, C]
        · split
          · rw [own_ok_some]; simp [own_I, own_W, own_Qa, len_wr, w, N, M, S6, C]
          · split
            · refine own_bind (own_fin ?_ i) fun x hx => ⟨_, rfl, hx⟩
              simp [own_I, own_W, own_Qa, len_wr, w, N, M, S, C]
            · exact ⟨_, rfl, hh⟩
theorem own_do {s : Q} {t : Int32} (h : own_I s) (i : inb 4 t = true) : own_ok (j_doStep s t) (fun r => own_I r.2) := by
  have b26 : ∀ a, own_ok (j_doStep_b26 s t a) (fun r => own_I r.2) := by
    intro a
    unfold j_doStep_b26
    split
    · exact ⟨_, rfl, h⟩
    · split
      · exact ⟨_, rfl, h⟩
      · exact own_bind (own_dq h i) fun x hx => ⟨_, rfl, hx⟩
  unfold j_doStep
  rw [h.1.2.2.1, if_pos i]
  split
  · exact b26 _
  · split
    · exact b26 _
    · exact own_bind (own_eq h i) fun x hx => ⟨_, rfl, hx⟩
def own_R1 (s : Q) (r : Int32 × Q) : Prop := own_I r.2 ∧ (r.1 = 1 ∨ r.1 = 2 ∨ ((r.1 = 0 ∨ r.1 = -1) ∧ r.2 = s))
theorem own_rn {t : Int32} (i : inb 4 t = true) (v3 : Int32) (hv : v3.toInt ≤ 64) : ∀ (n : Nat) (s : Q) (v4 : Int32), own_I s → 0 ≤ v4.toInt → v4.toInt ≤ 64 → 64 - v4.toInt < n → own_ok (j_run_l43 n s t v3 v4) (own_2 own_I) := by
  intro n
  induction n with
  | zero => intro s v4 _ h0 h1 h2; omega
  | succ n ih =>
    intro s v4 h h0 h1 hn
    rw [j_run_l43]
    by_cases c : v4 < v3
    · rw [if_pos c]
      rw [lt32] at c
      have e : (v4 + 1).toInt = v4.toInt + 1 := by rw [own_add] <;> simp only [Int32.reduceToInt] <;> omega
      refine own_bind (own_do h i) fun x hx => ?_
      split
      · exact ih x.2 (v4 + 1) hx (by omega) (by omega) (by omega)
      · exact ⟨_, rfl, hx⟩
    · rw [if_neg c]; exact ⟨_, rfl, h⟩
theorem own_run {s : Q} {t v : Int32} (h : own_I s) : own_ok (j_run s t v) (own_R1 s) := by
  unfold j_run
  by_cases q : j_valid s t = 0
  · rw [if_pos q]; exact ⟨_, rfl, h, Or.inr (Or.inr ⟨Or.inr rfl, rfl⟩)⟩
  · have i := own_val h q
    simp only [q, h.1.2.2.1, i, ↓reduceIte]
    split
    · exact ⟨_, rfl, h, Or.inr (Or.inr ⟨Or.inl rfl, rfl⟩)⟩
    · split
      · exact ⟨_, rfl, h, Or.inr (Or.inr ⟨Or.inl rfl, rfl⟩)⟩
      · have hc := own_cl (v := v) (a := 1) (b := 64) (by decide)
        simp only [Int32.reduceToInt] at hc
        refine own_bind (own_rn i _ hc.2 3000 s 0 h (by decide) (by decide) (by decide)) ?_
        rintro (x | x) hx
        · exact ⟨_, rfl, hx, Or.inr (Or.inl rfl)⟩
        · exact ⟨_, rfl, hx, Or.inl rfl⟩
theorem own_step {s : Q} {t : Int32} (h : own_I s) : own_ok (j_step s t) (own_R1 s) := by
  unfold j_step
  by_cases q : j_valid s t = 0
  · rw [if_pos q]; exact ⟨_, rfl, h, Or.inr (Or.inr ⟨Or.inr rfl, rfl⟩)⟩
  · have i := own_val h q
    simp only [q, h.1.2.2.1, i, ↓reduceIte]
    split
    · exact ⟨_, rfl, h, Or.inr (Or.inr ⟨Or.inl rfl, rfl⟩)⟩
    · split
      · exact ⟨_, rfl, h, Or.inr (Or.inr ⟨Or.inl rfl, rfl⟩)⟩
      · refine own_bind (own_do h i) fun x hx => ?_
        split
        · exact ⟨_, rfl, hx, Or.inl rfl⟩
        · exact ⟨_, rfl, hx, Or.inr (Or.inl rfl)⟩
theorem own_stT {s : Q} (h : own_I s) (t : Int32) : ∃ x, j_state s t = some x := by
  by_cases v : j_valid s t = 0
  · exact ⟨_, by simp only [j_state, v, ↓reduceIte]; rfl⟩
  · have w := h.1
    unfold own_W at w
    exact ⟨_, by simp only [j_state, v, w, own_val h v, ↓reduceIte]; rfl⟩
theorem own_lsT {s : Q} (h : own_I s) (t : Int32) : ∃ x, j_lastStatus s t = some x := by
  by_cases v : j_valid s t = 0
  · exact ⟨_, by simp only [j_lastStatus, v, ↓reduceIte]; rfl⟩
  · have w := h.1
    unfold own_W at w
    exact ⟨_, by simp only [j_lastStatus, v, w, own_val h v, ↓reduceIte]; rfl⟩
theorem own_lvT {s : Q} (h : own_I s) (t : Int32) : ∃ x, j_lastValue s t = some x := by
  by_cases v : j_valid s t = 0
  · exact ⟨_, by simp only [j_lastValue, v, ↓reduceIte]; rfl⟩
  · have w := h.1
    unfold own_W at w
    exact ⟨_, by simp only [j_lastValue, v, w, own_val h v, ↓reduceIte]; rfl⟩
theorem own_cc2 {s : Q} (h : own_I s) : ∀ (n : Nat) (v : Int32), 0 ≤ v.toInt → v.toInt ≤ 4 → 4 - v.toInt < n → ∃ x, j_contentCount_l2 n s v = some x := by
  intro n
  induction n with
  | zero => intro v h0 h1 h2; omega
  | succ n ih =>
    intro v h0 h1 hn
    rw [j_contentCount_l2]
    by_cases c : v < 4
    · rw [if_pos c]
      simp only [lt32, Int32.reduceToInt] at c
      have e : (v + 1).toInt = v.toInt + 1 := by rw [own_add] <;> simp only [Int32.reduceToInt] <;> omega
      have i : inb 4 v = true := inb_iff.mpr (by omega)
      simp only [h.1.2.2.1, i, ↓reduceIte]
      split
      · split
        · exact ih (v + 1) (by omega) (by omega) (by omega)
        · split
          · exact ih (v + 1) (by omega) (by omega) (by omega)
          · exact ⟨_, rfl⟩
      · exact ih (v + 1) (by omega) (by omega) (by omega)
    · rw [if_neg c]; exact ⟨_, rfl⟩
theorem own_ccT {s : Q} (h : own_I s) : ∃ x, j_contentCount s = some x := by
  obtain ⟨x, e⟩ := own_cc2 h 3000 0 (by decide) (by decide) (by decide)
  unfold j_contentCount
  rw [e, Option.bind_some]
  rcases x with x | x
  · exact ⟨_, rfl⟩
  · exact ⟨_, rfl⟩
theorem own_caT {s : Q} (h : own_I s) (v : Int32) : ∃ x, j_contentAt s v = some x := by
  obtain ⟨x, e⟩ := own_ccT h
  unfold j_contentAt
  rw [e, Option.bind_some]
  split
  · exact ⟨_, rfl⟩
  · split
    · exact ⟨_, rfl⟩
    · split
      · rw [h.1.2.1, if_pos (own_mk h.2.2.1 _)]; exact ⟨_, rfl⟩
      · exact ⟨_, rfl⟩
theorem own_heT {s : Q} (h : own_I s) (v : Int32) : ∃ x, j_historyEvent s v = some x := by
  have w := h.1
  unfold own_W at w
  unfold j_historyEvent
  by_cases a : v < 0
  · rw [if_pos a]; exact ⟨_, rfl⟩
  · rw [if_neg a]
    split
    · by_cases b : v < 64
      · rw [if_pos b]
        simp only [w, own_i64 a b, ↓reduceIte]
        exact ⟨_, rfl⟩
      · rw [if_neg b]; exact ⟨_, rfl⟩
    · exact ⟨_, rfl⟩
theorem own_hvT {s : Q} (h : own_I s) (v : Int32) : ∃ x, j_historyValue s v = some x := by
  have w := h.1
  unfold own_W at w
  unfold j_historyValue
  by_cases a : v < 0
  · rw [if_pos a]; exact ⟨_, rfl⟩
  · rw [if_neg a]
    split
    · by_cases b : v < 64
      · rw [if_pos b]
        simp only [w, own_i64 a b, ↓reduceIte]
        exact ⟨_, rfl⟩
      · rw [if_neg b]; exact ⟨_, rfl⟩
    · exact ⟨_, rfl⟩

theorem own_ci {s : Q} (h : own_I s) : ∀ (n : Nat) (v1 v2 : Int32), 0 ≤ v2.toInt → v2.toInt ≤ 64 → 64 - v2.toInt < n → ∃ x, j_countInvocations_l4 n s v1 v2 = some x := by
  intro n
  induction n with
  | zero => intro v1 v2 h0 h1 h2; omega
  | succ n ih =>
    intro v1 v2 h0 h1 hn
    have w := h.1
    unfold own_W at w
    rw [j_countInvocations_l4]
    by_cases c : v2 < 64
    · rw [if_pos c]
      simp only [lt32, Int32.reduceToInt] at c
      have e : (v2 + 1).toInt = v2.toInt + 1 := by rw [own_add] <;> simp only [Int32.reduceToInt] <;> omega
      have i : inb 64 v2 = true := inb_iff.mpr (by omega)
      simp only [w, i, ↓reduceIte, j_countInvocations_b38, j_countInvocations_b41]
      split
      · split
        · exact ih _ (v2 + 1) (by omega) (by omega) (by omega)
        · exact ih _ (v2 + 1) (by omega) (by omega) (by omega)
      · exact ⟨_, rfl⟩
    · rw [if_neg c]; exact ⟨_, rfl⟩
theorem own_p7 : ∀ (n : Nat) (s : Q) (v : Int32), own_I s → 0 ≤ v.toInt → v.toInt ≤ 4 → 4 - v.toInt < n → own_ok (j_parseOps_l7 n s v) own_I := by
  intro n
  induction n with
  | zero => intro s v _ h0 h1 h2; omega
  | succ n ih =>
    intro s v h h0 h1 hn
    have hh := h
    obtain ⟨w, N, M, S, C⟩ := h
    unfold own_W at w
    rw [j_parseOps_l7]
    by_cases c : v < 4
    · rw [if_pos c]
      simp only [lt32, Int32.reduceToInt] at c
      have e : (v + 1).toInt = v.toInt + 1 := by rw [own_add] <;> simp only [Int32.reduceToInt] <;> omega
      have i : inb 4 v = true := inb_iff.mpr (by omega)
      simp only [w, i, ↓reduceIte]
      refine ih _ (v + 1) ?_ (by omega) (by omega) (by omega)
      simp [own_I, own_W, own_Qa, len_wr, w, N, M, S, C]
    · rw [if_neg c]; exact ⟨_, rfl, hh⟩
theorem own_aO {s : Q} {a b : Int32} (h : own_I s) (ia : inb 64 a = true) (ib : inb 4 b = true) : own_ok (j_addOp s a b) own_I := by
  have hh := h
  obtain ⟨w, N, M, S, C⟩ := h
  unfold own_W at w
  unfold j_addOp
  by_cases c1 : s.f31 < 0
  · rw [if_pos c1]; exact ⟨_, rfl, hh⟩
  · rw [if_neg c1]
    by_cases c2 : s.f31 < 6
    · rw [if_pos c2]
      have i := own_i6 c1 c2
      unfold j_addOp_b42
      simp only [w, ia, ib, i, ↓reduceIte, own_ok_some]
      simp [own_I, own_W, own_Qa, len_wr, w, N, M, S, C]
    · rw [if_neg c2]; exact ⟨_, rfl, hh⟩
theorem own_cO {s : Q} {a b : Int32} (h : own_I s) (ia : inb 64 a = true) (ib : inb 4 b = true) : own_ok (j_closeOp s a b) own_I := by
  have hh := h
  obtain ⟨w, N, M, S, C⟩ := h
  unfold own_W at w
  unfold j_closeOp
  rw [w.2.2.2.2.2.2.2.2.2.2.2.2.2.2.2.2.2.2.2.1, if_pos ib]
  by_cases c1 : rd s.f19 b < 0
  · rw [if_pos c1]; exact ⟨_, rfl, hh⟩
  · rw [if_neg c1]
    by_cases c2 : rd s.f19 b < 6
    · rw [if_pos c2]
      have i := own_i6 c1 c2
      unfold j_closeOp_b59
      simp only [own_Qa, len_wr, w, ia, ib, i, ↓reduceIte, own_ok_some]
      simp [own_I, own_W, own_Qa, len_wr, w, N, M, S, C]
    · rw [if_neg c2]; exact ⟨_, rfl, hh⟩
theorem own_i4 {x : Int32} (h0 : ¬ x < 0) (h1 : ¬ 3 < x) : inb 4 x = true := by
  simp only [lt32, Int32.reduceToInt] at h0 h1
  exact inb_iff.mpr (by omega)
theorem own_p27 : ∀ (n : Nat) (s : Q) (v : Int32), own_I s → 0 ≤ v.toInt → v.toInt ≤ 64 → 64 - v.toInt < n → own_ok (j_parseOps_l27 n s v) own_I := by
  intro n
  induction n with
  | zero => intro s v _ h0 h1 h2; omega
  | succ n ih =>
    intro s v h h0 h1 hn
    have hh := h
    obtain ⟨w, N, M, S, C⟩ := h
    unfold own_W at w
    rw [j_parseOps_l27]
    by_cases c : v < 64
    · rw [if_pos c]
      simp only [lt32, Int32.reduceToInt] at c
      have e : (v + 1).toInt = v.toInt + 1 := by rw [own_add] <;> simp only [Int32.reduceToInt] <;> omega
      have i : inb 64 v = true := inb_iff.mpr (by omega)
      have nx : ∀ q, own_I q → own_ok (j_parseOps_b95 (j_parseOps_l27 n) q v) own_I := fun q hq => ih q (v + 1) hq (by omega) (by omega) (by omega)
      simp only [w, i, ↓reduceIte]
      split
      · by_cases a : rd s.f9 v < 0
        · rw [if_pos a]; exact nx s hh
        · rw [if_neg a]
          by_cases b : 3 < rd s.f9 v
          · rw [if_pos b]; exact nx s hh
          · rw [if_neg b]
            have i4 := own_i4 a b
            have b80 : own_ok (j_parseOps_b80 (j_parseOps_l27 n) s v (rd s.f9 v)) own_I := own_bind (own_aO hh i i4) nx
            split
            · exact b80
            · split
              · exact b80
              · exact own_bind (own_cO hh i i4) nx
      · exact ⟨_, rfl, hh⟩
    · rw [if_neg c]; exact ⟨_, rfl, hh⟩
theorem own_po {s : Q} (h : own_I s) : own_ok (j_parseOps s) own_I := by
  obtain ⟨w, N, M, S, C⟩ := h
  unfold own_W at w
  unfold j_parseOps
  refine own_bind (own_p7 3000 _ 0 ?_ (by decide) (by decide) (by decide)) fun x hx => own_bind (own_p27 3000 x 0 hx (by decide) (by decide) (by decide)) fun y hy => ⟨_, rfl, hy⟩
  simp [own_I, own_W, own_Qa, len_wr, w, N, M, S, C]
theorem own_b7 : ∀ (n : Nat) (s : Q) (v : Int32), own_I s → 0 ≤ v.toInt → v.toInt ≤ 6 → 6 - v.toInt < n → own_ok (j_buildPreds_l7 n s v) own_I := by
  intro n
  induction n with
  | zero => intro s v _ h0 h1 h2; omega
  | succ n ih =>
    intro s v h h0 h1 hn
    have hh := h
    obtain ⟨w, N, M, S, C⟩ := h
    unfold own_W at w
    rw [j_buildPreds_l7]
    by_cases c : v < 6
    · rw [if_pos c]
      simp only [lt32, Int32.reduceToInt] at c
      have e : (v + 1).toInt = v.toInt + 1 := by rw [own_add] <;> simp only [Int32.reduceToInt] <;> omega
      have i : inb 6 v = true := inb_iff.mpr (by omega)
      have nx : ∀ q, own_I q → own_ok (j_buildPreds_b49 (j_buildPreds_l7 n) q v) own_I := fun q hq => ih q (v + 1) hq (by omega) (by omega) (by omega)
      simp only [w, i, ↓reduceIte]
      split
      · split
        · refine nx _ ?_
          simp [own_I, own_W, own_Qa, len_wr, w, N, M, S, C]
        · refine nx _ ?_
          simp [own_I, own_W, own_Qa, len_wr, w, N, M, S, C]
      · exact ⟨_, rfl, hh⟩
    · rw [if_neg c]; exact ⟨_, rfl, hh⟩
theorem own_b73 {v1 : Int32} (i1 : inb 6 v1 = true) : ∀ (n : Nat) (s : Q) (v : Int32), own_I s → 0 ≤ v.toInt → v.toInt ≤ 6 → 6 - v.toInt < n → own_ok (j_buildPreds_l73 n s v1 v) (fun r => r.1 = v1 ∧ own_I r.2) := by
  intro n
  induction n with
  | zero => intro s v _ h0 h1 h2; omega
  | succ n ih =>
    intro s v h h0 h1 hn
    have hh := h
    obtain ⟨w, N, M, S, C⟩ := h
    unfold own_W at w
    rw [j_buildPreds_l73]
    by_cases c : v < 6
    · rw [if_pos c]
      simp only [lt32, Int32.reduceToInt] at c
      have e : (v + 1).toInt = v.toInt + 1 := by rw [own_add] <;> simp only [Int32.reduceToInt] <;> omega
      have i : inb 6 v = true := inb_iff.mpr (by omega)
      have nx : ∀ q, own_I q → own_ok (j_buildPreds_b128 (j_buildPreds_l73 n) q v1 v) (fun r => r.1 = v1 ∧ own_I r.2) := fun q hq => ih q (v + 1) hq (by omega) (by omega) (by omega)
      simp only [w, i, i1, ↓reduceIte]
      split
      · split
        · exact nx s hh
        · split
          · exact nx s hh
          · split
            · refine nx _ ?_
              simp [own_I, own_W, own_Qa, len_wr, w, N, M, S, C]
            · exact nx s hh
      · exact ⟨_, rfl, rfl, hh⟩
    · rw [if_neg c]; exact ⟨_, rfl, rfl, hh⟩
theorem own_b57 : ∀ (n : Nat) (s : Q) (v : Int32), own_I s → 0 ≤ v.toInt → v.toInt ≤ 6 → 6 - v.toInt < n → own_ok (j_buildPreds_l57 n s v) own_I := by
  intro n
  induction n with
  | zero => intro s v _ h0 h1 h2; omega
  | succ n ih =>
    intro s v h h0 h1 hn
    rw [j_buildPreds_l57]
    by_cases c : v < 6
    · rw [if_pos c]
      simp only [lt32, Int32.reduceToInt] at c
      have e : (v + 1).toInt = v.toInt + 1 := by rw [own_add] <;> simp only [Int32.reduceToInt] <;> omega
      have i : inb 6 v = true := inb_iff.mpr (by omega)
      split
      · refine own_bind (own_b73 i 3000 s 0 h (by decide) (by decide) (by decide)) ?_
        rintro ⟨a, q⟩ ⟨ea, hq⟩
        simp only at ea
        subst ea
        exact ih q (a + 1) hq (by omega) (by omega) (by omega)
      · exact ⟨_, rfl, h⟩
    · rw [if_neg c]; exact ⟨_, rfl, h⟩
theorem own_bp {s : Q} (h : own_I s) : own_ok (j_buildPreds s) own_I := by
  obtain ⟨w, N, M, S, C⟩ := h
  unfold own_W at w
  unfold j_buildPreds
  refine own_bind (own_b7 3000 _ 0 ?_ (by decide) (by decide) (by decide)) fun x hx => own_bind (own_b57 3000 x 0 hx (by decide) (by decide) (by decide)) fun y hy => ⟨_, rfl, hy⟩
  simp [own_I, own_W, own_Qa, len_wr, w, N, M, S, C]
theorem own_s21 : ∀ (n : Nat) (s : Q) (v : Int32), own_I s → 0 ≤ v.toInt → v.toInt ≤ 8 → 8 - v.toInt < n → own_ok (j_search_l21 n s v) own_I := by
  intro n
  induction n with
  | zero => intro s v _ h0 h1 h2; omega
  | succ n ih =>
    intro s v h h0 h1 hn
    have hh := h
    obtain ⟨w, N, M, S, C⟩ := h
    unfold own_W at w
    rw [j_search_l21]
    by_cases c : v < 8
    · rw [if_pos c]
      simp only [lt32, Int32.reduceToInt] at c
      have e : (v + 1).toInt = v.toInt + 1 := by rw [own_add] <;> simp only [Int32.reduceToInt] <;> omega
      have i : inb 8 v = true := inb_iff.mpr (by omega)
      have i2 : inb 56 v = true := inb_iff.mpr (by omega)
      simp only [w, i, i2, ↓reduceIte]
      split
      · refine ih _ (v + 1) ?_ (by omega) (by omega) (by omega)
        simp [own_I, own_W, own_Qa, len_wr, w, N, M, S, C]
      · exact ⟨_, rfl, hh⟩
    · rw [if_neg c]; exact ⟨_, rfl, hh⟩
def own_cq (v1 : Int32) (r : (Int32 × Int32 × Q) ⊕ (Int32 × Int32 × Q)) : Prop := Sum.elim (fun r => r.1 = v1 ∧ own_I r.2.2) (fun r => r.1 = v1 ∧ own_I r.2.2) r
theorem own_c25 {v1 v3 v4 v5 : Int32} (h3 : 0 ≤ v3.toInt ∧ v3.toInt ≤ 40) (h4 : v4.toInt = v3.toInt + 8) : ∀ (n : Nat) (s : Q) (v6 v7 : Int32), own_I s → 0 ≤ v6.toInt → v6.toInt ≤ v7.toInt → v7.toInt ≤ 8 → 8 - v7.toInt < n → own_ok (j_copyQueue_l25 n s v1 v3 v4 v5 v6 v7) (own_cq v1) := by
  intro n
  induction n with
  | zero => intro s v6 v7 _ h0 h1 h2; omega
  | succ n ih =>
    intro s v6 v7 h h0 h1 h2 hn
    have hh := h
    obtain ⟨w, N, M, S, C⟩ := h
    unfold own_W at w
    rw [j_copyQueue_l25]
    by_cases c : v7 < 8
    · rw [if_pos c]
      simp only [lt32, Int32.reduceToInt] at c
      have e : (v7 + 1).toInt = v7.toInt + 1 := by rw [own_add] <;> simp only [Int32.reduceToInt] <;> omega
      have e6 : (v6 + 1).toInt = v6.toInt + 1 := by rw [own_add] <;> simp only [Int32.reduceToInt] <;> omega
      have e1 : (v3 + v7).toInt = v3.toInt + v7.toInt := by rw [own_add] <;> omega
      have e2 : (v4 + v6).toInt = v4.toInt + v6.toInt := by rw [own_add] <;> omega
      have i : inb 56 (v3 + v7) = true := inb_iff.mpr (by omega)
      have i2 : inb 56 (v4 + v6) = true := inb_iff.mpr (by omega)
      simp only [w, i, i2, ↓reduceIte]
      split
      · refine ih _ (v6 + 1) (v7 + 1) ?_ (by omega) (by omega) (by omega) (by omega)
        simp [own_I, own_W, own_Qa, len_wr, w, N, M, S, C]
      · exact ⟨_, rfl, rfl, hh⟩
    · rw [if_neg c]; exact ⟨_, rfl, rfl, hh⟩
theorem own_i7 {x : Int32} (h0 : ¬ x < 0) (h1 : ¬ 5 < x) : inb 7 x = true ∧ inb 7 (x + 1) = true ∧ inb 56 (x * 8) = true ∧ 0 ≤ (x * 8).toInt ∧ (x * 8).toInt ≤ 40 ∧ (x * 8 + 8).toInt = (x * 8).toInt + 8 ∧ ((x + 1) * 8).toInt = (x * 8).toInt + 8 := by
  simp only [lt32, Int32.reduceToInt] at h0 h1
  have e : (x + 1).toInt = x.toInt + 1 := by rw [own_add] <;> simp only [Int32.reduceToInt] <;> omega
  have e2 : (x * 8).toInt = x.toInt * 8 := by rw [own_mul] <;> simp only [Int32.reduceToInt] <;> omega
  have e3 : (x * 8 + 8).toInt = x.toInt * 8 + 8 := by rw [own_add] <;> simp only [Int32.reduceToInt] <;> omega
  have e4 : ((x + 1) * 8).toInt = (x.toInt + 1) * 8 := by rw [own_mul] <;> simp only [Int32.reduceToInt] <;> omega
  exact ⟨inb_iff.mpr (by omega), inb_iff.mpr (by omega), inb_iff.mpr (by omega), by omega, by omega, by omega, by omega⟩
theorem own_cpq {s : Q} {d k : Int32} (h : own_I s) (h0 : ¬ d < 0) (h1 : ¬ 5 < d) (hk : k = 0 ∨ k = 1) : own_ok (j_copyQueue s d k) own_I := by
  obtain ⟨a1, a2, a3, a4, a5, a6, a7⟩ := own_i7 h0 h1
  have b70 : ∀ x v, own_I x → own_ok (j_copyQueue_b70 x d v) own_I := by
    rintro x v ⟨w, N, M, S, C⟩
    unfold own_W at w
    unfold j_copyQueue_b70
    simp only [w, a2, ↓reduceIte, own_ok_some]
    simp [own_I, own_W, own_Qa, len_wr, w, N, M, S, C]
  have w := h.1
  unfold own_W at w
  have k0 : (0:Int32).toInt ≤ k.toInt ∧ k.toInt ≤ 8 := by rcases hk with rfl | rfl <;> decide
  unfold j_copyQueue
  simp only [w, a1, ↓reduceIte]
  refine own_bind (own_c25 ⟨a4, a5⟩ a6 3000 s 0 k h (by decide) k0.1 k0.2 (by have := k0.1; simp only [Int32.reduceToInt] at this; omega)) ?_
  rintro (⟨x1, x2, x3⟩ | ⟨x1, x2, x3⟩) ⟨e, hx⟩
  · simp only at e hx; subst e; exact b70 x3 x2 hx
  · simp only at e hx; subst e; exact b70 x3 x2 hx
theorem own_aE {s : Q} {c d : Int32} (h : own_I s) (hc : inb 6 c = true) (h0 : ¬ d < 0) (h1 : ¬ 5 < d) : own_ok (j_applyEnq s c d) (fun r => own_I r.2) := by
  obtain ⟨a1, a2, a3, a4, a5, a6, a7⟩ := own_i7 h0 h1
  have b44 : ∀ v, own_ok (j_applyEnq_b44 s c d v) (fun r => own_I r.2) := by
    intro v
    unfold j_applyEnq_b44
    refine own_bind (own_cpq h h0 h1 (Or.inl rfl)) ?_
    intro x hx
    have hx0 := hx
    obtain ⟨w, N, M, S, C⟩ := hx
    unfold own_W at w
    split
    · simp only [w, a2, ↓reduceIte]
      by_cases p : rd x.f21 (d + 1) < 0
      · rw [if_pos p]; exact ⟨_, rfl, hx0⟩
      · rw [if_neg p]
        by_cases q : rd x.f21 (d + 1) < 8
        · rw [if_pos q]
          simp only [lt32, Int32.reduceToInt] at p q
          have e5 : ((d + 1) * 8 + rd x.f21 (d + 1)).toInt = ((d + 1) * 8).toInt + (rd x.f21 (d + 1)).toInt := by rw [own_add] <;> omega
          have i5 : inb 56 ((d + 1) * 8 + rd x.f21 (d + 1)) = true := inb_iff.mpr (by omega)
          simp only [hc, i5, ↓reduceIte, own_ok_some]
          simp [own_I, own_W, own_Qa, len_wr, w, N, M, S, C]
        · rw [if_neg q]; exact ⟨_, rfl, hx0⟩
    · exact ⟨_, rfl, hx0⟩
  have w := h.1
  unfold own_W at w
  have b20 : ∀ v, own_ok (j_applyEnq_b20 s c d v) (fun r => own_I r.2) := by
    intro v
    unfold j_applyEnq_b20
    simp only [w, hc, ↓reduceIte]
    split
    · exact b44 _
    · split
      · exact b44 _
      · exact ⟨_, rfl, h⟩
  unfold j_applyEnq
  simp only [w, a1, ↓reduceIte]
  exact b20 _
theorem own_aD {s : Q} {c d : Int32} (h : own_I s) (hc : inb 6 c = true) (h0 : ¬ d < 0) (h1 : ¬ 5 < d) : own_ok (j_applyDeq s c d) (fun r => own_I r.2) := by
  obtain ⟨a1, a2, a3, a4, a5, a6, a7⟩ := own_i7 h0 h1
  have b66 : own_ok (j_applyDeq_b66 s d) (fun r => own_I r.2) := own_bind (own_cpq h h0 h1 (Or.inr rfl)) fun x hx => ⟨_, rfl, hx⟩
  have b91 : own_ok (j_applyDeq_b91 s d) (fun r => own_I r.2) := own_bind (own_cpq h h0 h1 (Or.inl rfl)) fun x hx => ⟨_, rfl, hx⟩
  have w := h.1
  unfold own_W at w
  have b21 : ∀ v u, own_ok (j_applyDeq_b21 s c d v u) (fun r => own_I r.2) := by
    intro v u
    unfold j_applyDeq_b21
    simp only [w, a3, hc, ↓reduceIte]
    split
    · split
      · exact b66
      · split
        · split
          · exact b66
          · exact ⟨_, rfl, h⟩
        · exact ⟨_, rfl, h⟩
    · split
      · exact b91
      · split
        · exact b91
        · exact ⟨_, rfl, h⟩
  unfold j_applyDeq
  simp only [w, a1, hc, ↓reduceIte]
  exact b21 _ _
theorem own_ap {s : Q} {c d : Int32} (h : own_I s) : own_ok (j_apply s c d) (fun r => own_I r.2 ∧ (r.1 = 0 ∨ (¬ d < 0 ∧ ¬ 5 < d))) := by
  unfold j_apply
  by_cases h0 : d < 0
  · rw [if_pos h0]; exact ⟨_, rfl, h, Or.inl rfl⟩
  · rw [if_neg h0]
    by_cases h1 : 5 < d
    · rw [if_pos h1]; exact ⟨_, rfl, h, Or.inl rfl⟩
    · rw [if_neg h1]
      by_cases c0 : c < 0
      · rw [if_pos c0]; exact ⟨_, rfl, h, Or.inl rfl⟩
      · rw [if_neg c0]
        by_cases c6 : c < 6
        · have hc := own_i6 c0 c6
          have w := h.1
          unfold own_W at w
          rw [if_pos c6]
          simp only [w, hc, ↓reduceIte]
          split
          · exact own_bind (own_aE h hc h0 h1) fun x hx => ⟨_, rfl, hx, Or.inr ⟨h0, h1⟩⟩
          · exact own_bind (own_aD h hc h0 h1) fun x hx => ⟨_, rfl, hx, Or.inr ⟨h0, h1⟩⟩
        · rw [if_neg c6]; exact ⟨_, rfl, h, Or.inl rfl⟩
def own_3 (P : Q → Prop) (r : Q ⊕ (Q ⊕ Q)) : Prop := Sum.elim P (fun r => Sum.elim P P r) r
theorem own_pm1 {v : Int32} (i : inb 7 v = true) (z : ¬ v = 0) : inb 7 (v + -1) = true := by
  have d := inb_iff.mp i
  have z' : ¬ v.toInt = 0 := fun q => z (Int32.toInt_inj.mp (by rw [q]; rfl))
  have em : (v + -1).toInt = v.toInt - 1 := by rw [own_add] <;> simp only [Int32.reduceToInt] <;> omega
  exact inb_iff.mpr (by omega)
theorem own_nc1 {x : Int32} (h0 : 0 ≤ x.toInt) (c6 : x < 6) : inb 6 x = true ∧ 0 ≤ (x + 1).toInt := by
  simp only [lt32, Int32.reduceToInt] at c6
  have en : (x + 1).toInt = x.toInt + 1 := by rw [own_add] <;> simp only [Int32.reduceToInt] <;> omega
  exact ⟨inb_iff.mpr (by omega), by omega⟩
set_option maxHeartbeats 8000000 in
theorem own_s66 : ∀ (n : Nat) (s : Q) (v1 v2 v3 : Int32), own_I s → inb 7 v1 = true → 0 ≤ v3.toInt → v3.toInt ≤ 200000 → 200000 - v3.toInt < n → own_ok (j_search_l66 n s v1 v2 v3) (own_3 own_I) := by
  intro n
  induction n with
  | zero => intro s v1 v2 v3 _ _ h0 h1 h2; omega
  | succ n ih =>
    intro s v1 v2 v3 h i1 h0 h1 hn
    have hh := h
    obtain ⟨w, N, M, S, C⟩ := h
    unfold own_W at w
    have d1 := inb_iff.mp i1
    rw [j_search_l66]
    by_cases c : v3 < 200000
    · rw [if_pos c]
      simp only [lt32, Int32.reduceToInt] at c
      have e : (v3 + 1).toInt = v3.toInt + 1 := by rw [own_add] <;> simp only [Int32.reduceToInt] <;> omega
      have nx : ∀ q a b, own_I q → inb 7 a = true → own_ok (j_search_b215 (j_search_l66 n) q a b v3) (own_3 own_I) := fun q a b hq ha => ih q a b (v3 + 1) hq ha (by omega) (by omega) (by omega)
      have b96 : own_ok (j_search_b96 (j_search_l66 n) s v1 v2 v3) (own_3 own_I) := by
        unfold j_search_b96
        by_cases z : v1 = 0
        · rw [if_pos z]; exact ⟨_, rfl, hh⟩
        · have im := own_pm1 i1 z
          rw [if_neg z, w.2.2.2.2.2.2.2.2.2.2.2.2.2.2.2.2.2.2.2.2.2.2.2, if_pos im]
          exact nx s _ _ hh im
      have C1 := C v1 i1
      have wn := w.2.2.2.2.2.2.2.2.2.2.2.2.2.2.2.2.2.2.2.2.2.2.1
      have wp := w.2.2.2.2.2.2.2.2.2.2.2.2.2.2.2.2.2.2.1
      rw [wn, if_pos i1]
      by_cases c5 : rd s.f22 v1 < s.f31
      · rw [if_pos c5]
        by_cases c6 : rd s.f22 v1 < 6
        · rw [if_pos c6]
          obtain ⟨i6, en⟩ := own_nc1 C1 c6
          have C2 := own_NC_wr C wn i1 en
          have k : own_I (Q.mk s.f0 s.f1 s.f2 s.f3 s.f4 s.f5 s.f6 s.f7 s.f8 s.f9 s.f10 s.f11 s.f12 s.f13 s.f14 s.f15 s.f16 s.f17 s.f18 s.f19 s.f20 s.f21 (wr s.f22 v1 (rd s.f22 v1 + 1)) s.f23 s.f24 s.f25 s.f26 s.f27 s.f28 s.f29 s.f30 s.f31 s.f32) := by
            simp [own_I, own_W, own_Qa, len_wr, w, N, M, S, C2]
          rw [if_pos i1, wp]
          by_cases c7 : v2 &&& (ish 1 (rd s.f22 v1)) = 0
          · rw [if_pos c7, if_pos i6, if_pos i6]
            by_cases c8 : (rd s.f18 (rd s.f22 v1)) &&& v2 = rd s.f18 (rd s.f22 v1)
            · rw [if_pos c8]
              refine own_bind (own_ap k) ?_
              rintro ⟨x1, x2⟩ ⟨hx, hd⟩
              by_cases z : x1 = 0
              · rw [if_pos z]; exact nx _ _ _ hx i1
              · rw [if_neg z]
                have hd' := hd.resolve_left z
                obtain ⟨-, a2, -⟩ := own_i7 hd'.1 hd'.2
                obtain ⟨w', N', M', S', C'⟩ := hx
                unfold own_W at w'
                simp only at w' N' M' S' C'
                have C3 := own_NC_wr C' w'.2.2.2.2.2.2.2.2.2.2.2.2.2.2.2.2.2.2.2.2.2.2.1 a2 (v := 0) (by decide)
                have k2 : own_I (Q.mk x2.f0 x2.f1 x2.f2 x2.f3 x2.f4 x2.f5 x2.f6 x2.f7 x2.f8 x2.f9 x2.f10 x2.f11 x2.f12 x2.f13 x2.f14 x2.f15 x2.f16 x2.f17 x2.f18 x2.f19 x2.f20 x2.f21 (wr x2.f22 (v1 + 1) 0) (wr x2.f23 v1 (rd s.f22 v1)) x2.f24 x2.f25 x2.f26 x2.f27 x2.f28 x2.f29 x2.f30 x2.f31 x2.f32) := by
                  simp [own_I, own_W, own_Qa, len_wr, w', N', M', S', C3]
                rw [if_pos (show inb x2.f23.length v1 = true by rw [w'.2.2.2.2.2.2.2.2.2.2.2.2.2.2.2.2.2.2.2.2.2.2.2]; exact i1), if_pos (show inb x2.f22.length (v1 + 1) = true by rw [w'.2.2.2.2.2.2.2.2.2.2.2.2.2.2.2.2.2.2.2.2.2.2.1]; exact a2)]
                by_cases c9 : (v2 ||| ish 1 (rd s.f22 v1)) &&& x2.f32 = x2.f32
                · rw [if_pos c9]; exact ⟨_, rfl, k2⟩
                · rw [if_neg c9]; exact nx _ _ _ k2 a2
            · rw [if_neg c8]; exact nx _ _ _ k i1
          · rw [if_neg c7]; exact nx _ _ _ k i1
        · rw [if_neg c6]; exact b96
      · rw [if_neg c5]; exact b96
    · rw [if_neg c]; exact ⟨_, rfl, hh⟩
theorem own_se {s : Q} (h : own_I s) : own_ok (j_search s) (fun r => own_I r.2) := by
  have hh := h
  obtain ⟨w, N, M, S, C⟩ := h
  unfold own_W at w
  have i0 : inb 7 0 = true := rfl
  unfold j_search
  split
  · exact ⟨_, rfl, hh⟩
  · simp only [w, i0, ↓reduceIte]
    refine own_bind (own_s21 3000 _ 0 ?_ (by decide) (by decide) (by decide)) ?_
    · simp [own_I, own_W, own_Qa, len_wr, w, N, M, S, C]
    · rintro x ⟨w', N', M', S', C'⟩
      unfold own_W at w'
      have C3 := own_NC_wr C' w'.2.2.2.2.2.2.2.2.2.2.2.2.2.2.2.2.2.2.2.2.2.2.1 i0 (v := 0) (by decide)
      simp only [w', i0, ↓reduceIte]
      refine own_bind (own_s66 200010 _ 0 0 0 ?_ i0 (by decide) (by decide) (by simp only [Int32.reduceToInt]; omega)) ?_
      · simp [own_I, own_W, own_Qa, len_wr, w', N', M', S', C3]
      · rintro (y | y | y) hy
        · exact ⟨_, rfl, hy⟩
        · exact ⟨_, rfl, hy⟩
        · exact ⟨_, rfl, hy⟩
theorem own_chk {s : Q} (h : own_I s) : own_ok (j_check s) (fun r => own_I r.2) := by
  obtain ⟨x, e⟩ := own_ci h 3000 0 0 (by decide) (by decide) (by decide)
  unfold j_check j_countInvocations
  rw [e, Option.bind_some, Option.bind_some]
  split
  · exact ⟨_, rfl, h⟩
  · exact own_bind (own_po h) fun a ha => own_bind (own_bp ha) fun b hb => own_bind (own_se hb) fun c hc => ⟨_, rfl, hc⟩

theorem own_m2 {s : Q} (h : own_I s) : ∀ (n : Nat) (v : Int32), 0 ≤ v.toInt → v.toInt ≤ 5 → 5 - v.toInt < n → h_same_l2 n s s v = some (.inr ()) := by
  intro n
  induction n with
  | zero => intro v h0 h1 h2; omega
  | succ n ih =>
    intro v h0 h1 hn
    rw [h_same_l2]
    by_cases c : v < 5
    · rw [if_pos c]
      simp only [lt32, Int32.reduceToInt] at c
      have e : (v + 1).toInt = v.toInt + 1 := by rw [own_add] <;> simp only [Int32.reduceToInt] <;> omega
      obtain ⟨a1, e1⟩ := own_stT h v
      obtain ⟨a2, e2⟩ := own_lsT h v
      obtain ⟨a3, e3⟩ := own_lvT h v
      simp only [e1, e2, e3, Option.bind_some, ↓reduceIte]
      exact ih (v + 1) (by omega) (by omega) (by omega)
    · rw [if_neg c]
theorem own_m80 {s : Q} (h : own_I s) : ∀ (n : Nat) (v : Int32), 0 ≤ v.toInt → v.toInt ≤ 64 → 64 - v.toInt < n → h_same_l80 n s s v = some (.inr (.inr ())) := by
  intro n
  induction n with
  | zero => intro v h0 h1 h2; omega
  | succ n ih =>
    intro v h0 h1 hn
    rw [h_same_l80]
    by_cases c : v < 64
    · rw [if_pos c]
      simp only [lt32, Int32.reduceToInt] at c
      have e : (v + 1).toInt = v.toInt + 1 := by rw [own_add] <;> simp only [Int32.reduceToInt] <;> omega
      obtain ⟨a1, e1⟩ := own_heT h v
      obtain ⟨a2, e2⟩ := own_hvT h v
      obtain ⟨a3, e3⟩ := own_caT h v
      simp only [e1, e2, e3, Option.bind_some, ↓reduceIte]
      exact ih (v + 1) (by omega) (by omega) (by omega)
    · rw [if_neg c]
theorem own_same {s : Q} (h : own_I s) : ∃ q, own_I q ∧ h_same s s = some (1, q, q) := by
  obtain ⟨a, ea⟩ := own_ccT h
  obtain ⟨r, er, hr⟩ := own_chk h
  refine ⟨r.2, hr, ?_⟩
  unfold h_same
  rw [own_m2 h 3000 0 (by decide) (by decide) (by decide), own_m80 h 3000 0 (by decide) (by decide) (by decide)]
  simp only [Option.bind_some, Sum.elim_inr, ea, er, ↓reduceIte]
theorem own_drive {s : Q} {o a b : Int32} (h : own_I s) : own_ok (h_drive s o a b) (fun r => own_I r.2) := by
  have r0 : ∀ x : Int32 × Q, own_R0 s x → own_ok (if x.1 = 0 then some ((0:Int32), x.2) else some (1, x.2)) (fun r => own_I r.2) := by
    rintro x ⟨hx, hc⟩
    split <;> exact ⟨_, rfl, hx⟩
  unfold h_drive
  split
  · exact own_bind (own_sE h) r0
  · split
    · exact own_bind (own_sD h) r0
    · split
      · exact own_bind (own_run h) fun x hx => ⟨_, rfl, hx.1⟩
      · split
        · exact own_bind (own_lI h) r0
        · split
          · exact own_bind (own_lR h) r0
          · split
            · exact own_bind (own_cH h) r0
            · exact own_bind (own_step h) fun x hx => ⟨_, rfl, hx.1⟩
theorem own_stv {s : Q} {t v : Int32} (h : own_I s) (q : ¬ j_valid s t = 0) (e : j_state s t = some v) : rd s.f2 t = v := by
  unfold j_state at e
  rw [if_neg q, h.1.2.2.1, if_pos (own_val h q)] at e
  exact Option.some.inj e
theorem own_nE {s : Q} {t v x : Int32} (h : own_I s) (e : j_state s t = some v) (z : ¬ v = 0) : j_startEnqueue s t x = some (0, s) := by
  unfold j_startEnqueue
  by_cases q : j_valid s t = 0
  · rw [if_pos q]
  · rw [if_neg q, h.1.2.2.1, if_pos (own_val h q), own_stv h q e, if_neg z]
theorem own_nD {s : Q} {t v : Int32} (h : own_I s) (e : j_state s t = some v) (z : ¬ v = 0) : j_startDequeue s t = some (0, s) := by
  unfold j_startDequeue
  by_cases q : j_valid s t = 0
  · rw [if_pos q]
  · rw [if_neg q, h.1.2.2.1, if_pos (own_val h q), own_stv h q e, if_neg z]
theorem own_nI {s : Q} {t v : Int32} : j_logInvoke s t 3 v = some (0, s) := by
  unfold j_logInvoke
  split
  · rfl
  · rw [if_neg (by decide), if_neg (by decide)]
theorem own_nR {s : Q} {t v k x : Int32} (h : own_I s) (e : j_state s t = some v) : j_logResponse s t (if v = 1 then 0 else k) x = some (0, s) := by
  unfold j_logResponse
  by_cases q : j_valid s t = 0
  · rw [if_pos q]
  · have i := own_val h q
    rw [if_neg q, h.1.2.2.1, if_pos i, own_stv h q e]
    by_cases z : v = 1
    · rw [if_pos z, h.1.2.2.2.2.2.2.2.1, if_pos i, if_pos z]
      unfold j_logResponse_b60
      rw [if_pos]
      rw [if_neg (by decide)]
      split
      · rw [if_neg (by decide)]
        split
        · rw [if_neg (by decide)]
        · rfl
      · split
        · rw [if_neg (by decide)]
        · rfl
    · rw [if_neg z]
theorem own_v3 {s : Q} {t : Int32} (h : own_I s) (h0 : 0 ≤ t.toInt) (h3 : t.toInt ≤ 3) : (j_valid s t = 0 ∧ t = 3) ∨ (¬ j_valid s t = 0 ∧ ¬ t = 3) := by
  unfold j_valid
  rw [h.2.1, if_neg (by simp only [lt32, Int32.reduceToInt]; omega)]
  by_cases c : t < 3
  · rw [if_pos c]
    refine Or.inr ⟨by decide, ?_⟩
    intro e; rw [e] at c; exact absurd c (by decide)
  · rw [if_neg c]
    simp only [lt32, Int32.reduceToInt] at c
    refine Or.inl ⟨rfl, Int32.toInt_inj.mp ?_⟩
    simp only [Int32.reduceToInt]; omega
theorem own_01 {s : Q} {t v : Int32} (h : own_I s) (q : ¬ j_valid s t = 0) (e : j_state s t = some v) (z : ¬ 1 < v) : v = 0 ∨ v = 1 := by
  have k := h.2.2.2.1 t (own_val h q)
  rw [own_stv h q e] at k
  simp only [lt32, Int32.reduceToInt] at z
  simp only [eq32, Int32.reduceToInt]; omega
theorem own_nS {s : Q} {t v : Int32} (h : own_I s) (h0 : 0 ≤ t.toInt) (h3 : t.toInt ≤ 3) (e : j_state s t = some v) (z : ¬ 1 < v) : j_step s t = some ((if t = 3 then -1 else 0), s) := by
  unfold j_step
  rcases own_v3 h h0 h3 with ⟨q, w⟩ | ⟨q, w⟩
  · rw [if_pos q, if_pos w]
  · rw [if_neg q, if_neg w, h.1.2.2.1, if_pos (own_val h q), own_stv h q e]
    rcases own_01 h q e z with r | r
    · rw [if_pos r]
    · rw [r, if_neg (by decide), if_pos (own_val h q), if_pos rfl]
theorem own_nN {s : Q} {t v k : Int32} (h : own_I s) (h0 : 0 ≤ t.toInt) (h3 : t.toInt ≤ 3) (e : j_state s t = some v) (z : ¬ 1 < v) : j_run s t k = some ((if t = 3 then -1 else 0), s) := by
  unfold j_run
  rcases own_v3 h h0 h3 with ⟨q, w⟩ | ⟨q, w⟩
  · rw [if_pos q, if_pos w]
  · rw [if_neg q, if_neg w, h.1.2.2.1, if_pos (own_val h q), own_stv h q e]
    rcases own_01 h q e z with r | r
    · rw [if_pos r]
    · rw [r, if_neg (by decide), if_pos (own_val h q), if_pos rfl]
theorem own_cl2 {s : Q} (h : own_I s) : ∀ (n : Nat) (v : Int32), 0 ≤ v.toInt → j_clearHistory_l2 n s v = some (.inr ()) → ∀ i : Int32, v.toInt ≤ i.toInt → i.toInt < 3 → rd s.f2 i = 0 := by
  intro n
  induction n with
  | zero => intro v h0 e; cases e
  | succ n ih =>
    intro v h0 e i h1 h2
    rw [j_clearHistory_l2, h.2.1] at e
    have c4 : v < 4 := by simp only [lt32, Int32.reduceToInt]; omega
    have c3 : v < 3 := by simp only [lt32, Int32.reduceToInt]; omega
    have i4 : inb 4 v = true := inb_iff.mpr (by omega)
    rw [if_pos c4, if_pos c3, h.1.2.2.1, if_pos i4] at e
    by_cases z : rd s.f2 v = 0
    · rw [if_pos z] at e
      by_cases k : i.toInt = v.toInt
      · rw [Int32.toInt_inj.mp k]; exact z
      · have e1 : (v + 1).toInt = v.toInt + 1 := by rw [own_add] <;> simp only [Int32.reduceToInt] <;> omega
        exact ih (v + 1) (by omega) e i (by omega) h2
    · rw [if_neg z] at e; cases e
theorem own_vv {s : Q} {t : Int32} (h : own_I s) (h0 : 0 ≤ t.toInt) (h3 : t.toInt < 3) : j_state s t = some (rd s.f2 t) := by
  unfold j_state
  have q : ¬ j_valid s t = 0 := by
    rcases own_v3 h h0 (by omega) with ⟨q, w⟩ | ⟨q, w⟩
    · rw [w] at h3; exact absurd h3 (by decide)
    · exact q
  rw [if_neg q, h.1.2.2.1, if_pos (own_val h q)]
theorem own_bz {s : Q} (h : own_I s) : ∃ b, h_busy s = some b ∧ (¬ b = 0 → j_clearHistory s = some (0, s)) := by
  obtain ⟨x, e⟩ := own_cH2 h 3000 0 (by decide) (by decide) (by decide)
  rcases x with x | x
  · have k : j_clearHistory s = some (0, s) := by
      unfold j_clearHistory
      rw [e]; rfl
    have : own_ok (h_busy s) (fun _ => True) := by
      unfold h_busy h_busy_b24
      rw [own_vv h (t := 0) (by decide) (by decide), own_vv h (t := 1) (by decide) (by decide), own_vv h (t := 2) (by decide) (by decide)]
      simp [own_ok_ite, own_ok_some]
    obtain ⟨b, eb, -⟩ := this
    exact ⟨b, eb, fun _ => k⟩
  · have z := own_cl2 h 3000 0 (by decide) e
    refine ⟨0, ?_, fun q => absurd rfl q⟩
    unfold h_busy
    rw [own_vv h (t := 0) (by decide) (by decide), own_vv h (t := 1) (by decide) (by decide), own_vv h (t := 2) (by decide) (by decide), z 0 (by decide) (by decide), z 1 (by decide) (by decide), z 2 (by decide) (by decide)]
    rfl
def own_last (r : (Q × Q) ⊕ ((Q × Q) ⊕ ((Q × Q) ⊕ ((Q × Q) ⊕ ((Q × Q) ⊕ ((Q × Q) ⊕ ((Q × Q) ⊕ ((Q × Q) ⊕ ((Q × Q) ⊕ (Q × Q)))))))))) : Prop := ∃ q, r = .inr (.inr (.inr (.inr (.inr (.inr (.inr (.inr (.inr q))))))))
theorem own_tail (scr : List Int32) (n : Nat) (v3 : Int32) (ih : ∀ q, own_I q → own_ok (law_l26 n q q scr (v3 + 4)) own_last) (x : Q) (h : own_I x) (v8 v9 v10 v11 : Int32) (h0 : 0 ≤ v9.toInt) (h3 : v9.toInt ≤ 3) (e : j_state x v9 = some v11) : own_ok (law_b150 (law_l26 n) x x scr v3 v8 v9 v10 v11) own_last := by
  have b318 : own_ok (law_b318 (law_l26 n) x x scr v3) own_last := by
    obtain ⟨q, hq, eq⟩ := own_same h
    unfold law_b318
    rw [eq, Option.bind_some, if_neg (show ¬ (1:Int32) = 0 by decide)]
    exact ih q hq
  have b295 : own_ok (law_b295 (law_l26 n) x x scr v3 v8) own_last := by
    unfold law_b295
    split
    · obtain ⟨b, eb, hb⟩ := own_bz h
      rw [eb, Option.bind_some]
      by_cases z : b = 0
      · rw [if_pos z]; exact b318
      · rw [if_neg z, hb z, Option.bind_some, if_pos rfl]; exact b318
    · exact b318
  have b262 : own_ok (law_b262 (law_l26 n) x x scr v3 v8 v9 v10 v11) own_last := by
    unfold law_b262 law_b285
    split
    · rw [own_nR h e, Option.bind_some, if_pos rfl]; exact b295
    · exact b295
  have b242 : own_ok (law_b242 (law_l26 n) x x scr v3 v8 v9 v10 v11) own_last := by
    unfold law_b242
    split
    · rw [own_nI, Option.bind_some, if_pos rfl]; exact b262
    · exact b262
  have b206 : own_ok (law_b206 (law_l26 n) x x scr v3 v8 v9 v10 v11) own_last := by
    unfold law_b206 law_b237
    split
    · split
      · exact b242
      · rename_i z
        rw [own_nN h h0 h3 e z, Option.bind_some, if_pos rfl]; exact b242
    · exact b242
  have b172 : own_ok (law_b172 (law_l26 n) x x scr v3 v8 v9 v10 v11) own_last := by
    unfold law_b172 law_b201
    split
    · split
      · exact b206
      · rename_i z
        rw [own_nS h h0 h3 e z, Option.bind_some, if_pos rfl]; exact b206
    · exact b206
  unfold law_b150
  split
  · split
    · exact b172
    · rename_i z
      rw [own_nD h e z, Option.bind_some, if_pos rfl]; exact b172
  · exact b172
theorem own_loop (scr : List Int32) (hl : scr.length ≤ 260) : ∀ (n : Nat) (s : Q) (v3 : Int32), own_I s → 0 ≤ v3.toInt → v3.toInt ≤ 264 → 264 - v3.toInt < n → own_ok (law_l26 n s s scr v3) own_last := by
  intro n
  induction n with
  | zero => intro s v3 _ h0 h1 h2; omega
  | succ n ih =>
    intro s v3 h h0 h1 hn
    have eL : (Nat.toInt32 scr.length).toInt = scr.length := own_n2i (by omega)
    have e1 : (v3 + 1).toInt = v3.toInt + 1 := by rw [own_add] <;> simp only [Int32.reduceToInt] <;> omega
    have e2 : (v3 + 2).toInt = v3.toInt + 2 := by rw [own_add] <;> simp only [Int32.reduceToInt] <;> omega
    have e3 : (v3 + 3).toInt = v3.toInt + 3 := by rw [own_add] <;> simp only [Int32.reduceToInt] <;> omega
    have e4 : (v3 + 4).toInt = v3.toInt + 4 := by rw [own_add] <;> simp only [Int32.reduceToInt] <;> omega
    rw [law_l26]
    by_cases c : v3 + 3 < Nat.toInt32 scr.length
    · rw [if_pos c]
      rw [lt32, e3, eL] at c
      have i0 : inb scr.length v3 = true := inb_iff.mpr (by omega)
      have i1 : inb scr.length (v3 + 1) = true := inb_iff.mpr (by omega)
      have i2 : inb scr.length (v3 + 2) = true := inb_iff.mpr (by omega)
      have i3 : inb scr.length (v3 + 3) = true := inb_iff.mpr (by omega)
      obtain ⟨x, ex, hx⟩ := own_drive (o := rd scr v3 &&& 7) (a := rd scr (v3 + 1) &&& 3) (b := rd scr (v3 + 2)) h
      have hu := c_and (isr (rd scr (v3 + 3)) 3) 3 (by decide)
      simp only [Int32.reduceToInt] at hu
      obtain ⟨st, es⟩ := own_stT hx (isr (rd scr (v3 + 3)) 3 &&& 3)
      have tl := own_tail scr n v3 (fun q hq => ih q (v3 + 4) hq (by omega) (by omega) (by omega)) x.2 hx (rd scr (v3 + 3) &&& 7) (isr (rd scr (v3 + 3)) 3 &&& 3) (isr (rd scr (v3 + 3)) 5 &&& 1023) st hu.1 hu.2 es
      simp only [i0, i1, i2, i3, ex, es, Option.bind_some, ↓reduceIte]
      split
      · split
        · exact tl
        · rename_i z
          rw [own_nE hx es z, Option.bind_some, if_pos rfl]; exact tl
      · exact tl
    · rw [if_neg c]
      exact ⟨_, rfl, _, rfl⟩
def own_ck (s : Q) : Bool := (Q.len s == [8, 8, 4, 4, 4, 4, 4, 4, 64, 64, 64, 8, 6, 6, 6, 6, 6, 6, 6, 4, 56, 7, 7, 7]) && (s.f24 == 3) && (s.f26 == 1) && (s.f2 == [0, 0, 0, 0]) && (s.f22 == [0, 0, 0, 0, 0, 0, 0])
theorem own_ini : (j_init 1 3 60).map own_ck = some true := by decide +kernel
theorem own_law (scr : List Int32) (hl : scr.length ≤ 260) : (law scr).map (·.1) = some 1 := by
  obtain ⟨s, e, k⟩ := Option.map_eq_some_iff.mp own_ini
  have h : own_I s := by
    simp only [own_ck, Q.len, Bool.and_eq_true, beq_iff_eq, List.cons.injEq, and_true] at k
    refine ⟨k.1.1.1.1, k.1.1.1.2, ?_, ?_, ?_⟩
    · rw [k.1.1.2]; unfold own_M; decide
    · rw [k.1.2]
      intro i _
      rw [show ([0, 0, 0, 0] : List Int32) = List.replicate 4 0 from rfl, rd_rep]; decide
    · rw [k.2]
      intro i _
      rw [show ([0, 0, 0, 0, 0, 0, 0] : List Int32) = List.replicate 7 0 from rfl, rd_rep]; decide
  obtain ⟨r, er, q, eq⟩ := own_loop scr hl 3000 s 0 h (by decide) (by decide) (by decide)
  subst eq
  unfold law
  rw [e]
  simp only [Option.bind_some, er, Sum.elim_inr, Option.map_some]

theorem fit_of {s : State} (hF : heapFits s = true) : Fit s := fun {y c} hc i hi => by
  obtain ⟨ha, rfl⟩ := Array.getElem?_eq_some_iff.mp hc
  have q := List.all_eq_true.mp ((Array.all_eq_true_iff_forall_mem.mp hF) _ (Array.getElem_mem ha)) i (List.mem_range.mpr hi)
  simpa [Array.getElem?_eq_getElem hi] using q
set_option maxRecDepth 65536 in
set_option maxHeartbeats 4000000 in
theorem comes_1 {Post : Tables → Env → Array Value → State → Outcome → State → Prop} (hpost : ∀ tb e args s v u, (limb_1_1.after args s (.returned v) u = true ∧ limb_1_2.after args s (.returned v) u = true ∧ True) → FrameEnd s (.returned v) u (Jvm.fieldLocs frame_1_writes args s ++ Jvm.arrayLocs frame_1_arrays args s ++ Jvm.staticLocs frame_1_statics s) 112 1664 → Post tb e args s (.returned v) u) :
    ArmFor flags0 classFile x code maxLocals ret World_1 tables_1 room_1 Calls_1 rest_1 Pre_1 Post := by
  intro l hfl _ _ p e ha hc hk s m args below hf hA hF happ hP
  obtain ⟨hcalls, hrest, hpre⟩ := hP
  obtain ⟨-, -, -, hnamed, -, -, -, hat⟩ := (Spec.applies_iff hf).mp happ
  obtain ⟨hg, hn⟩ := and_e (Cond.before_iff.mp (show (Jvm.Cond.and given_1 narrow_1).before args s = true from hpre))
  obtain ⟨hcnt, h0⟩ := and_e hg
  obtain ⟨w0, rfl⟩ : ∃ w0 : Value, args = #[w0] := by
    have hs : args.size = 1 := by simpa [Cond.value, given_1] using hcnt
    obtain ⟨L⟩ := args
    match L, hs with
    | [w0], _ => exact ⟨w0, rfl⟩
  have hw := fun d (hd : d ∈ tables_1) => atoms_spec (ws := Jvm.Cond.code x code maxLocals ret :: tables_1) hat d (List.mem_cons_of_mem _ hd)
  obtain ⟨hy1, hy2⟩ := and_e hn
  obtain ⟨a, rfl⟩ : ∃ a, w0 = .ref a := by
    cases w0 <;> first | exact ⟨_, rfl⟩ | (exfalso; simp [Cond.value, Term.eval] at hy1)
  obtain ⟨cl, A⟩ := Arr.start (Z := s) (ty := .int) (show (Term.arg 0).eval #[Value.ref a] s none [] s = some (.ref a) from rfl) hy1
  have hlen : (cl.slots.toList.map intOf).length ≤ 260 := by
    have q := A.fin (Vm.Alike.refl _)
    by_cases hz : cl.slots.size < 2 ^ 31
    · simp only [Cond.value, Term.eval, List.getElem?_toArray, List.getElem?_cons_zero, Option.bind_eq_bind, Option.bind_some, q, hz, if_true, Option.pure_def] at hy2
      have q2 := Int32.le_iff_toInt_le.mp (by simpa using hy2)
      rw [len_toInt hz] at q2
      simp only [List.length_map, Array.length_toList]
      have q3 : (260:Int32).toInt = 260 := rfl
      omega
    · simp [Cond.value, Term.eval, q, hz] at hy2
  have hL := own_law (cl.slots.toList.map intOf) hlen
  obtain ⟨res, hres, hr1⟩ := Option.map_eq_some_iff.mp hL
  obtain ⟨n, hrun⟩ := ev_law (cl.slots.toList.map intOf) hres rfl
  have hr1' : res.1 = 1 := hr1
  rw [hr1'] at hrun
  have hcap := run_cap hrun
  have hcC : own_P.capC = 113 := rfl
  have hcS : own_P.capS = 1664 := rfl
  rw [hcC, hcS] at hcap
  have hc1 : (W0 (cl.slots.toList.map intOf) []).length = 1 := rfl
  have hc2 : hsz own_P (W0 (cl.slots.toList.map intOf) []) = 0 := rfl
  have hM := metOf (sound (own_good hw) n) (k := 0) (as := [.ref 0]) (H := (W0 (cl.slots.toList.map intOf) [])) hrun (l := l) (wsC := tables_1) (rm := room_1) own_pn0 rfl (fun h => nomatch h) (by decide) (by decide) (by show _ ≤ 112; omega) (by show _ ≤ 1664; omega) (am := [a]) (ws := [.ref a]) (h := s.heap) (n0 := s.heap.size) ⟨_, _, rfl, ⟨a, rfl, rfl⟩, rfl⟩ (Nat.le_of_ble_eq_true rfl) (script_start rfl (fit_of hF) A) (Nat.le_refl _)
  obtain ⟨n, o, h1, h2, h3, w, L, rfl, ⟨N, -, am', -, -, hv⟩, hq⟩ := hM p e ha hc hk s m _ below hf ((Spec.applies_iff_loose hf).mp happ).1 ⟨rfl, State.Warmed39.refl s, rfl⟩ trivial
  obtain ⟨y, rfl, rfl⟩ := hv
  exact ⟨n, _, h1, h2, h3, hpost _ _ _ _ _ _ ⟨Cond.after_iff.mpr rfl, Cond.after_iff.mpr (eq_i res_at (Term.int_eval (1)) rfl), trivial⟩ ⟨hq.1, hq.2.1, (hq.2.2.sift fun y hy => Or.inr (N y hy)).mono (by omega) (by omega)⟩⟩
theorem main_1_1 : Claimed_1_1 := comes_1 fun _ _ _ _ _ _ h hF => ⟨h.1, hF⟩
theorem main_1_2 : Claimed_1_2 := comes_1 fun _ _ _ _ _ _ h hF => ⟨h.2.1, hF⟩
end Jvm.Pilot.@@N@@
namespace Jvm.Pilot.@@N@@
open Jvm Jvm.ClassFile Sem Op Lib Jvm.Free Jvm.Stand Jvm.Pilot.@@N@@.Jvm.D
/-! MADE BY PROGRAM (witnessworld.py) out of the Statement's table words and the real class files: 9 classes; the members and pool entries that the words name. The judged class is class 1, her method 4. -/
namespace start1
open Jvm.ClassFile
def u (s : String) : CpInfo := .utf8 (stringToUtf16 s)
/-- a pool by its gaps: so many unusable entries, then the entry; so many at the end -/
def gap : Nat → List CpInfo → List CpInfo
  | 0, r => r
  | n + 1, r => .unusable :: gap n r
def poolList (es : List (Nat × CpInfo)) (last : Nat) : List CpInfo := es.foldr (fun e r => gap e.1 (e.2 :: r)) (gap last [])
def pool (es : List (Nat × CpInfo)) (last : Nat) : Array CpInfo := ⟨poolList es last⟩
def fileOf (pool : Array CpInfo) (this : Nat) (attrs : Array Attribute := #[]) (ms : Array MethodInfo := #[]) (fl : Nat := 33) (sup : Nat := 0) (ifs : Array Nat := #[]) (fds : Array FieldInfo := #[]) : ClassFile where
  minorVersion := 0
  majorVersion := 65
  constantPool := pool
  accessFlags := fl
  thisClass := this
  superClass := sup
  interfaces := ifs
  fields := fds
  methods := ms
  attributes := attrs
def plain (name : String) (sup : Option ClassId) : Class where
  name := name
  kind := .ordinary
  loader := none
  accessFlags := 33
  super := sup
  interfaces := #[]
  cf := none
  fields := #[]
  methods := #[]
  instanceTypes := #[]
  staticTypes := #[]
  resolved := #[]
  callSites := []
  init := .initialized
  statics := none
  mirror := none

def pool0 : Array CpInfo := pool [(5, u "<init>"), (0, u "()V"), (1, .class_ 10), (1, u "java/lang/Object")] 113

def k0c0 : Code := { maxStack := 0, maxLocals := 1, code := object_method_1_code, exceptionTable := #[], attributes := #[] }
def k0m0 : Method := { name := "<init>", desc := "()V", sig := { parameters := [], returnType := none }, accessFlags := 1, code := some k0c0 }
/-- java/lang/Object -/
def k0 : Class := { plain "java/lang/Object" none with
  accessFlags := 33
  interfaces := #[]
  cf := some (fileOf pool0 8 #[] #[{ accessFlags := 1, nameIndex := 5, descriptorIndex := 6, attributes := #[] }] 33 0 #[] #[])
  fields := #[]
  methods := #[k0m0]
  instanceTypes := #[]
  staticTypes := #[]
  resolved := Array.replicate 124 none
  statics := none }

def pool1 : Array CpInfo := pool [(2, .class_ 4), (1, u "java/lang/Object"), (0, u "<init>"), (0, u "()V"), (0, .methodref 8 9), (0, .class_ 10), (0, .nameAndType 11 12), (0, u "SeqRingQueue"), (0, u "startEnqueue"), (0, u "(II)Z"), (0, .methodref 8 14), (0, .nameAndType 15 16), (0, u "startDequeue"), (0, u "(I)Z"), (0, .methodref 8 18), (0, .nameAndType 19 20), (0, u "run"), (0, u "(II)I"), (0, .methodref 8 22), (0, .nameAndType 23 24), (0, u "logInvoke"), (0, u "(III)Z"), (0, .methodref 8 26), (0, .nameAndType 27 24), (0, u "logResponse"), (0, .methodref 8 29), (0, .nameAndType 30 31), (0, u "clearHistory"), (0, u "()Z"), (0, .methodref 8 33), (0, .nameAndType 34 35), (0, u "step"), (0, u "(I)I"), (0, .methodref 8 37), (0, .nameAndType 38 35), (0, u "state"), (0, .methodref 8 40), (0, .nameAndType 41 35), (0, u "lastStatus"), (0, .methodref 8 43), (0, .nameAndType 44 35), (0, u "lastValue"), (0, .methodref 8 46), (0, .nameAndType 47 48), (0, u "contentCount"), (0, u "()I"), (0, .methodref 8 50), (0, .nameAndType 51 48), (0, u "historyLength"), (0, .methodref 8 53), (0, .nameAndType 54 35), (0, u "historyEvent"), (0, .methodref 8 56), (0, .nameAndType 57 35), (0, u "historyValue"), (0, .methodref 8 59), (0, .nameAndType 60 35), (0, u "contentAt"), (0, .methodref 8 62), (0, .nameAndType 63 48), (0, u "check"), (0, .methodref 8 65), (0, .nameAndType 5 66), (0, u "(III)V"), (0, .methodref 68 69), (0, .class_ 70), (0, .nameAndType 71 72), (0, u "SeqRingQueueL7"), (0, u "drive"), (0, u "(LSeqRingQueue;III)I"), (0, .methodref 68 74), (0, .nameAndType 75 76), (0, u "busy"), (0, u "(LSeqRingQueue;)Z"), (0, .methodref 68 78), (0, .nameAndType 79 80), (0, u "same"), (0, u "(LSeqRingQueue;LSeqRingQueue;)Z"), (3, u "law"), (0, u "([I)Z")] 4

def k1m0 : Method := { name := "<init>", desc := "()V", sig := { parameters := [], returnType := none }, accessFlags := 1, code := none }
def k1c1 : Code := { maxStack := 5, maxLocals := 4, code := method_2_code, exceptionTable := #[], attributes := #[] }
def k1m1 : Method := { name := "drive", desc := "(LSeqRingQueue;III)I", sig := { parameters := [(.object "SeqRingQueue"), .int, .int, .int], returnType := some .int }, accessFlags := 10, code := some k1c1 }
def k1c2 : Code := { maxStack := 3, maxLocals := 3, code := method_3_code, exceptionTable := #[], attributes := #[] }
def k1m2 : Method := { name := "same", desc := "(LSeqRingQueue;LSeqRingQueue;)Z", sig := { parameters := [(.object "SeqRingQueue"), (.object "SeqRingQueue")], returnType := some .boolean }, accessFlags := 10, code := some k1c2 }
def k1c3 : Code := { maxStack := 2, maxLocals := 1, code := method_4_code, exceptionTable := #[], attributes := #[] }
def k1m3 : Method := { name := "busy", desc := "(LSeqRingQueue;)Z", sig := { parameters := [(.object "SeqRingQueue")], returnType := some .boolean }, accessFlags := 10, code := some k1c3 }
def k1c4 : Code := { maxStack := 5, maxLocals := 12, code := code, exceptionTable := #[], attributes := #[] }
def k1m4 : Method := { name := "law", desc := "([I)Z", sig := { parameters := [(.array .int)], returnType := some .boolean }, accessFlags := 9, code := some k1c4 }
/-- SeqRingQueueL7 -/
def k1 : Class := { plain "SeqRingQueueL7" (some 0) with
  accessFlags := 33
  interfaces := #[]
  cf := some (fileOf pool1 68 #[] #[{ accessFlags := 1, nameIndex := 5, descriptorIndex := 6, attributes := #[] }, { accessFlags := 10, nameIndex := 71, descriptorIndex := 72, attributes := #[] }, { accessFlags := 10, nameIndex := 79, descriptorIndex := 80, attributes := #[] }, { accessFlags := 10, nameIndex := 75, descriptorIndex := 76, attributes := #[] }, { accessFlags := 9, nameIndex := 84, descriptorIndex := 85, attributes := #[] }] 33 2 #[] #[])
  fields := #[]
  methods := #[k1m0, k1m1, k1m2, k1m3, k1m4]
  instanceTypes := #[]
  staticTypes := #[]
  resolved := Array.replicate 90 none
  statics := none }

def pool2 : Array CpInfo := pool [(1, .methodref 2 3), (0, .class_ 4), (0, .nameAndType 5 6), (0, u "java/lang/Object"), (0, u "<init>"), (0, u "()V"), (0, .fieldref 8 9), (0, .class_ 10), (0, .nameAndType 11 12), (0, u "SeqRingQueue"), (0, u "seq"), (0, u "[I"), (0, .fieldref 8 14), (0, .nameAndType 15 12), (0, u "val"), (0, .fieldref 8 17), (0, .nameAndType 18 12), (0, u "st"), (0, .fieldref 8 20), (0, .nameAndType 21 12), (0, u "locP"), (0, .fieldref 8 23), (0, .nameAndType 24 12), (0, u "locV"), (0, .fieldref 8 26), (0, .nameAndType 27 12), (0, u "lastSt"), (0, .fieldref 8 29), (0, .nameAndType 30 12), (0, u "lastVal"), (0, .fieldref 8 32), (0, .nameAndType 33 12), (0, u "logKind"), (0, .fieldref 8 35), (0, .nameAndType 36 12), (0, u "evKind"), (0, .fieldref 8 38), (0, .nameAndType 39 12), (0, u "evThread"), (0, .fieldref 8 41), (0, .nameAndType 42 12), (0, u "evVal"), (0, .fieldref 8 44), (0, .nameAndType 45 12), (0, u "snap"), (0, .fieldref 8 47), (0, .nameAndType 48 12), (0, u "opKind"), (0, .fieldref 8 50), (0, .nameAndType 51 12), (0, u "opArg"), (0, .fieldref 8 53), (0, .nameAndType 54 12), (0, u "opInv"), (0, .fieldref 8 56), (0, .nameAndType 57 12), (0, u "opRes"), (0, .fieldref 8 59), (0, .nameAndType 60 12), (0, u "opStatus"), (0, .fieldref 8 62), (0, .nameAndType 63 12), (0, u "opRVal"), (0, .fieldref 8 65), (0, .nameAndType 66 12), (0, u "predMask"), (0, .fieldref 8 68), (0, .nameAndType 69 12), (0, u "openOp"), (0, .fieldref 8 71), (0, .nameAndType 72 12), (0, u "qBuf"), (0, .fieldref 8 74), (0, .nameAndType 75 12), (0, u "qLen"), (0, .fieldref 8 77), (0, .nameAndType 78 12), (0, u "nextCand"), (0, .fieldref 8 80), (0, .nameAndType 81 12), (0, u "chosen"), (0, .methodref 8 83), (0, .nameAndType 84 85), (0, u "clamp"), (0, u "(III)I"), (0, .fieldref 8 87), (0, .nameAndType 88 89), (0, u "nThreads"), (0, u "I"), (0, .fieldref 8 91), (0, .nameAndType 92 89), (0, u "cap"), (0, .fieldref 8 94), (0, .nameAndType 95 89), (0, u "mask"), (0, .integer 2147483584), (0, .fieldref 8 98), (0, .nameAndType 99 89), (0, u "head"), (0, .fieldref 8 101), (0, .nameAndType 102 89), (0, u "tail"), (0, .fieldref 8 104), (0, .nameAndType 105 89), (0, u "histLen"), (0, .fieldref 8 107), (0, .nameAndType 108 89), (0, u "snapLen"), (0, .methodref 8 110), (0, .nameAndType 111 112), (0, u "pending"), (0, u "()I"), (0, .methodref 8 114), (0, .nameAndType 115 116), (0, u "valid"), (0, u "(I)Z"), (0, .methodref 8 118), (0, .nameAndType 119 120), (0, u "hasRoom"), (0, u "()Z"), (0, .methodref 8 122), (0, .nameAndType 123 124), (0, u "append"), (0, u "(III)V"), (0, .methodref 8 126), (0, .nameAndType 127 116), (0, u "doStep"), (0, .methodref 8 129), (0, .nameAndType 130 131), (0, u "enqStep"), (0, u "(II)Z"), (0, .methodref 8 133), (0, .nameAndType 134 131), (0, u "deqStep"), (0, .methodref 8 136), (0, .nameAndType 137 124), (0, u "finish"), (0, .methodref 8 139), (0, .nameAndType 140 141), (0, u "resKind"), (0, u "(I)I"), (0, .methodref 8 143), (0, .nameAndType 144 112), (0, u "contentCount"), (0, .methodref 8 146), (0, .nameAndType 147 112), (0, u "countInvocations"), (0, .methodref 8 149), (0, .nameAndType 150 6), (0, u "parseOps"), (0, .methodref 8 152), (0, .nameAndType 153 6), (0, u "buildPreds"), (0, .methodref 8 155), (0, .nameAndType 156 112), (0, u "search"), (0, .fieldref 8 158), (0, .nameAndType 159 89), (0, u "opCount"), (0, .methodref 8 161), (0, .nameAndType 162 163), (0, u "addOp"), (0, u "(II)V"), (0, .methodref 8 165), (0, .nameAndType 166 163), (0, u "closeOp"), (0, .fieldref 8 168), (0, .nameAndType 169 89), (0, u "completeMask"), (0, .integer 200000), (0, .methodref 8 172), (0, .nameAndType 173 131), (0, u "apply"), (0, .methodref 8 175), (0, .nameAndType 176 131), (0, u "applyEnq"), (0, .methodref 8 178), (0, .nameAndType 179 131), (0, u "applyDeq"), (0, .methodref 8 181), (0, .nameAndType 182 163), (0, u "copyQueue"), (0, u "REFUSED"), (2, u "IDLE"), (1, u "RUNNING"), (1, u "FINISHED"), (1, u "ENQ"), (0, u "DEQ"), (0, u "NONE"), (0, u "OK"), (0, u "FULL"), (0, u "EMPTY"), (1, u "ST_IDLE"), (0, u "ST_LOGGED"), (0, u "E_LOAD_TAIL"), (1, u "E_LOAD_SEQ"), (1, u "E_CAS"), (1, u "E_LOAD_HEAD"), (1, u "E_STORE_VAL"), (1, u "E_PUBLISH"), (1, u "D_LOAD_HEAD"), (1, u "D_LOAD_SEQ"), (1, u "D_CAS"), (1, u "D_LOAD_TAIL"), (1, u "D_LOAD_VAL"), (1, u "D_RELEASE"), (1, u "EV_INV_ENQ"), (0, u "EV_INV_DEQ"), (0, u "EV_RES_OK"), (0, u "EV_RES_FULL"), (1, u "EV_RES_EMPTY"), (1, u "HISTORY_CAP"), (1, u "CHECK_LIMIT"), (1, u "YES"), (0, u "NO"), (0, u "TOO_LONG"), (3, u "startEnqueue"), (0, u "startDequeue"), (0, u "step"), (0, u "run"), (0, u "(II)I"), (1, u "state"), (0, u "lastStatus"), (0, u "lastValue"), (0, u "contentAt"), (0, u "logInvoke"), (0, u "(III)Z"), (0, u "logResponse"), (0, u "clearHistory"), (0, u "historyLength"), (0, u "historyEvent"), (0, u "historyValue"), (0, u "check")] 2

def k2c0 : Code := { maxStack := 5, maxLocals := 8, code := prog_1_method_1_code, exceptionTable := #[], attributes := #[] }
def k2m0 : Method := { name := "<init>", desc := "(III)V", sig := { parameters := [.int, .int, .int], returnType := none }, accessFlags := 1, code := some k2c0 }
def k2c1 : Code := { maxStack := 2, maxLocals := 4, code := prog_1_method_2_code, exceptionTable := #[], attributes := #[] }
def k2m1 : Method := { name := "clamp", desc := "(III)I", sig := { parameters := [.int, .int, .int], returnType := some .int }, accessFlags := 2, code := some k2c1 }
def k2c2 : Code := { maxStack := 2, maxLocals := 2, code := prog_1_method_3_code, exceptionTable := #[], attributes := #[] }
def k2m2 : Method := { name := "valid", desc := "(I)Z", sig := { parameters := [.int], returnType := some .boolean }, accessFlags := 2, code := some k2c2 }
def k2c3 : Code := { maxStack := 2, maxLocals := 3, code := prog_1_method_4_code, exceptionTable := #[], attributes := #[] }
def k2m3 : Method := { name := "pending", desc := "()I", sig := { parameters := [], returnType := some .int }, accessFlags := 2, code := some k2c3 }
def k2c4 : Code := { maxStack := 2, maxLocals := 2, code := prog_1_method_5_code, exceptionTable := #[], attributes := #[] }
def k2m4 : Method := { name := "hasRoom", desc := "()Z", sig := { parameters := [], returnType := some .boolean }, accessFlags := 2, code := some k2c4 }
def k2c5 : Code := { maxStack := 3, maxLocals := 4, code := prog_1_method_6_code, exceptionTable := #[], attributes := #[] }
def k2m5 : Method := { name := "append", desc := "(III)V", sig := { parameters := [.int, .int, .int], returnType := none }, accessFlags := 2, code := some k2c5 }
def k2c6 : Code := { maxStack := 2, maxLocals := 2, code := prog_1_method_7_code, exceptionTable := #[], attributes := #[] }
def k2m6 : Method := { name := "resKind", desc := "(I)I", sig := { parameters := [.int], returnType := some .int }, accessFlags := 2, code := some k2c6 }
def k2c7 : Code := { maxStack := 4, maxLocals := 3, code := prog_1_method_8_code, exceptionTable := #[], attributes := #[] }
def k2m7 : Method := { name := "startEnqueue", desc := "(II)Z", sig := { parameters := [.int, .int], returnType := some .boolean }, accessFlags := 1, code := some k2c7 }
def k2c8 : Code := { maxStack := 4, maxLocals := 2, code := prog_1_method_9_code, exceptionTable := #[], attributes := #[] }
def k2m8 : Method := { name := "startDequeue", desc := "(I)Z", sig := { parameters := [.int], returnType := some .boolean }, accessFlags := 1, code := some k2c8 }
def k2c9 : Code := { maxStack := 2, maxLocals := 2, code := prog_1_method_10_code, exceptionTable := #[], attributes := #[] }
def k2m9 : Method := { name := "step", desc := "(I)I", sig := { parameters := [.int], returnType := some .int }, accessFlags := 1, code := some k2c9 }
def k2c10 : Code := { maxStack := 4, maxLocals := 5, code := prog_1_method_11_code, exceptionTable := #[], attributes := #[] }
def k2m10 : Method := { name := "run", desc := "(II)I", sig := { parameters := [.int, .int], returnType := some .int }, accessFlags := 1, code := some k2c10 }
def k2c11 : Code := { maxStack := 3, maxLocals := 3, code := prog_1_method_12_code, exceptionTable := #[], attributes := #[] }
def k2m11 : Method := { name := "doStep", desc := "(I)Z", sig := { parameters := [.int], returnType := some .boolean }, accessFlags := 2, code := some k2c11 }
def k2c12 : Code := { maxStack := 4, maxLocals := 6, code := prog_1_method_13_code, exceptionTable := #[], attributes := #[] }
def k2m12 : Method := { name := "enqStep", desc := "(II)Z", sig := { parameters := [.int, .int], returnType := some .boolean }, accessFlags := 2, code := some k2c12 }
def k2c13 : Code := { maxStack := 5, maxLocals := 6, code := prog_1_method_14_code, exceptionTable := #[], attributes := #[] }
def k2m13 : Method := { name := "deqStep", desc := "(II)Z", sig := { parameters := [.int, .int], returnType := some .boolean }, accessFlags := 2, code := some k2c13 }
def k2c14 : Code := { maxStack := 4, maxLocals := 5, code := prog_1_method_15_code, exceptionTable := #[], attributes := #[] }
def k2m14 : Method := { name := "finish", desc := "(III)V", sig := { parameters := [.int, .int, .int], returnType := none }, accessFlags := 2, code := some k2c14 }
def k2c15 : Code := { maxStack := 2, maxLocals := 2, code := prog_1_method_16_code, exceptionTable := #[], attributes := #[] }
def k2m15 : Method := { name := "state", desc := "(I)I", sig := { parameters := [.int], returnType := some .int }, accessFlags := 1, code := some k2c15 }
def k2c16 : Code := { maxStack := 2, maxLocals := 2, code := prog_1_method_17_code, exceptionTable := #[], attributes := #[] }
def k2m16 : Method := { name := "lastStatus", desc := "(I)I", sig := { parameters := [.int], returnType := some .int }, accessFlags := 1, code := some k2c16 }
def k2c17 : Code := { maxStack := 2, maxLocals := 2, code := prog_1_method_18_code, exceptionTable := #[], attributes := #[] }
def k2m17 : Method := { name := "lastValue", desc := "(I)I", sig := { parameters := [.int], returnType := some .int }, accessFlags := 1, code := some k2c17 }
def k2c18 : Code := { maxStack := 2, maxLocals := 2, code := prog_1_method_19_code, exceptionTable := #[], attributes := #[] }
def k2m18 : Method := { name := "contentCount", desc := "()I", sig := { parameters := [], returnType := some .int }, accessFlags := 1, code := some k2c18 }
def k2c19 : Code := { maxStack := 3, maxLocals := 3, code := prog_1_method_20_code, exceptionTable := #[], attributes := #[] }
def k2m19 : Method := { name := "contentAt", desc := "(I)I", sig := { parameters := [.int], returnType := some .int }, accessFlags := 1, code := some k2c19 }
def k2c20 : Code := { maxStack := 4, maxLocals := 4, code := prog_1_method_21_code, exceptionTable := #[], attributes := #[] }
def k2m20 : Method := { name := "logInvoke", desc := "(III)Z", sig := { parameters := [.int, .int, .int], returnType := some .boolean }, accessFlags := 1, code := some k2c20 }
def k2c21 : Code := { maxStack := 4, maxLocals := 8, code := prog_1_method_22_code, exceptionTable := #[], attributes := #[] }
def k2m21 : Method := { name := "logResponse", desc := "(III)Z", sig := { parameters := [.int, .int, .int], returnType := some .boolean }, accessFlags := 1, code := some k2c21 }
def k2c22 : Code := { maxStack := 5, maxLocals := 3, code := prog_1_method_23_code, exceptionTable := #[], attributes := #[] }
def k2m22 : Method := { name := "clearHistory", desc := "()Z", sig := { parameters := [], returnType := some .boolean }, accessFlags := 1, code := some k2c22 }
def k2c23 : Code := { maxStack := 1, maxLocals := 1, code := prog_1_method_24_code, exceptionTable := #[], attributes := #[] }
def k2m23 : Method := { name := "historyLength", desc := "()I", sig := { parameters := [], returnType := some .int }, accessFlags := 1, code := some k2c23 }
def k2c24 : Code := { maxStack := 3, maxLocals := 2, code := prog_1_method_25_code, exceptionTable := #[], attributes := #[] }
def k2m24 : Method := { name := "historyEvent", desc := "(I)I", sig := { parameters := [.int], returnType := some .int }, accessFlags := 1, code := some k2c24 }
def k2c25 : Code := { maxStack := 2, maxLocals := 2, code := prog_1_method_26_code, exceptionTable := #[], attributes := #[] }
def k2m25 : Method := { name := "historyValue", desc := "(I)I", sig := { parameters := [.int], returnType := some .int }, accessFlags := 1, code := some k2c25 }
def k2c26 : Code := { maxStack := 2, maxLocals := 2, code := prog_1_method_27_code, exceptionTable := #[], attributes := #[] }
def k2m26 : Method := { name := "check", desc := "()I", sig := { parameters := [], returnType := some .int }, accessFlags := 1, code := some k2c26 }
def k2c27 : Code := { maxStack := 2, maxLocals := 3, code := prog_1_method_28_code, exceptionTable := #[], attributes := #[] }
def k2m27 : Method := { name := "countInvocations", desc := "()I", sig := { parameters := [], returnType := some .int }, accessFlags := 2, code := some k2c27 }
def k2c28 : Code := { maxStack := 3, maxLocals := 3, code := prog_1_method_29_code, exceptionTable := #[], attributes := #[] }
def k2m28 : Method := { name := "parseOps", desc := "()V", sig := { parameters := [], returnType := none }, accessFlags := 2, code := some k2c28 }
def k2c29 : Code := { maxStack := 4, maxLocals := 4, code := prog_1_method_30_code, exceptionTable := #[], attributes := #[] }
def k2m29 : Method := { name := "addOp", desc := "(II)V", sig := { parameters := [.int, .int], returnType := none }, accessFlags := 2, code := some k2c29 }
def k2c30 : Code := { maxStack := 4, maxLocals := 5, code := prog_1_method_31_code, exceptionTable := #[], attributes := #[] }
def k2m30 : Method := { name := "closeOp", desc := "(II)V", sig := { parameters := [.int, .int], returnType := none }, accessFlags := 2, code := some k2c30 }
def k2c31 : Code := { maxStack := 5, maxLocals := 3, code := prog_1_method_32_code, exceptionTable := #[], attributes := #[] }
def k2m31 : Method := { name := "buildPreds", desc := "()V", sig := { parameters := [], returnType := none }, accessFlags := 2, code := some k2c31 }
def k2c32 : Code := { maxStack := 4, maxLocals := 5, code := prog_1_method_33_code, exceptionTable := #[], attributes := #[] }
def k2m32 : Method := { name := "search", desc := "()I", sig := { parameters := [], returnType := some .int }, accessFlags := 2, code := some k2c32 }
def k2c33 : Code := { maxStack := 3, maxLocals := 3, code := prog_1_method_34_code, exceptionTable := #[], attributes := #[] }
def k2m33 : Method := { name := "apply", desc := "(II)Z", sig := { parameters := [.int, .int], returnType := some .boolean }, accessFlags := 2, code := some k2c33 }
def k2c34 : Code := { maxStack := 4, maxLocals := 6, code := prog_1_method_35_code, exceptionTable := #[], attributes := #[] }
def k2m34 : Method := { name := "applyEnq", desc := "(II)Z", sig := { parameters := [.int, .int], returnType := some .boolean }, accessFlags := 2, code := some k2c34 }
def k2c35 : Code := { maxStack := 3, maxLocals := 6, code := prog_1_method_36_code, exceptionTable := #[], attributes := #[] }
def k2m35 : Method := { name := "applyDeq", desc := "(II)Z", sig := { parameters := [.int, .int], returnType := some .boolean }, accessFlags := 2, code := some k2c35 }
def k2c36 : Code := { maxStack := 5, maxLocals := 8, code := prog_1_method_37_code, exceptionTable := #[], attributes := #[] }
def k2m36 : Method := { name := "copyQueue", desc := "(II)V", sig := { parameters := [.int, .int], returnType := none }, accessFlags := 2, code := some k2c36 }
/-- SeqRingQueue -/
def k2 : Class := { plain "SeqRingQueue" (some 0) with
  accessFlags := 49
  interfaces := #[]
  cf := some (fileOf pool2 8 #[] #[{ accessFlags := 1, nameIndex := 5, descriptorIndex := 124, attributes := #[] }, { accessFlags := 2, nameIndex := 84, descriptorIndex := 85, attributes := #[] }, { accessFlags := 2, nameIndex := 115, descriptorIndex := 116, attributes := #[] }, { accessFlags := 2, nameIndex := 111, descriptorIndex := 112, attributes := #[] }, { accessFlags := 2, nameIndex := 119, descriptorIndex := 120, attributes := #[] }, { accessFlags := 2, nameIndex := 123, descriptorIndex := 124, attributes := #[] }, { accessFlags := 2, nameIndex := 140, descriptorIndex := 141, attributes := #[] }, { accessFlags := 1, nameIndex := 242, descriptorIndex := 131, attributes := #[] }, { accessFlags := 1, nameIndex := 243, descriptorIndex := 116, attributes := #[] }, { accessFlags := 1, nameIndex := 244, descriptorIndex := 141, attributes := #[] }, { accessFlags := 1, nameIndex := 245, descriptorIndex := 246, attributes := #[] }, { accessFlags := 2, nameIndex := 127, descriptorIndex := 116, attributes := #[] }, { accessFlags := 2, nameIndex := 130, descriptorIndex := 131, attributes := #[] }, { accessFlags := 2, nameIndex := 134, descriptorIndex := 131, attributes := #[] }, { accessFlags := 2, nameIndex := 137, descriptorIndex := 124, attributes := #[] }, { accessFlags := 1, nameIndex := 248, descriptorIndex := 141, attributes := #[] }, { accessFlags := 1, nameIndex := 249, descriptorIndex := 141, attributes := #[] }, { accessFlags := 1, nameIndex := 250, descriptorIndex := 141, attributes := #[] }, { accessFlags := 1, nameIndex := 144, descriptorIndex := 112, attributes := #[] }, { accessFlags := 1, nameIndex := 251, descriptorIndex := 141, attributes := #[] }, { accessFlags := 1, nameIndex := 252, descriptorIndex := 253, attributes := #[] }, { accessFlags := 1, nameIndex := 254, descriptorIndex := 253, attributes := #[] }, { accessFlags := 1, nameIndex := 255, descriptorIndex := 120, attributes := #[] }, { accessFlags := 1, nameIndex := 256, descriptorIndex := 112, attributes := #[] }, { accessFlags := 1, nameIndex := 257, descriptorIndex := 141, attributes := #[] }, { accessFlags := 1, nameIndex := 258, descriptorIndex := 141, attributes := #[] }, { accessFlags := 1, nameIndex := 259, descriptorIndex := 112, attributes := #[] }, { accessFlags := 2, nameIndex := 147, descriptorIndex := 112, attributes := #[] }, { accessFlags := 2, nameIndex := 150, descriptorIndex := 6, attributes := #[] }, { accessFlags := 2, nameIndex := 162, descriptorIndex := 163, attributes := #[] }, { accessFlags := 2, nameIndex := 166, descriptorIndex := 163, attributes := #[] }, { accessFlags := 2, nameIndex := 153, descriptorIndex := 6, attributes := #[] }, { accessFlags := 2, nameIndex := 156, descriptorIndex := 112, attributes := #[] }, { accessFlags := 2, nameIndex := 173, descriptorIndex := 131, attributes := #[] }, { accessFlags := 2, nameIndex := 176, descriptorIndex := 131, attributes := #[] }, { accessFlags := 2, nameIndex := 179, descriptorIndex := 131, attributes := #[] }, { accessFlags := 2, nameIndex := 182, descriptorIndex := 163, attributes := #[] }] 49 2 #[] #[{ accessFlags := 25, nameIndex := 183, descriptorIndex := 89, attributes := #[] }, { accessFlags := 25, nameIndex := 186, descriptorIndex := 89, attributes := #[] }, { accessFlags := 25, nameIndex := 188, descriptorIndex := 89, attributes := #[] }, { accessFlags := 25, nameIndex := 190, descriptorIndex := 89, attributes := #[] }, { accessFlags := 25, nameIndex := 192, descriptorIndex := 89, attributes := #[] }, { accessFlags := 25, nameIndex := 193, descriptorIndex := 89, attributes := #[] }, { accessFlags := 25, nameIndex := 194, descriptorIndex := 89, attributes := #[] }, { accessFlags := 25, nameIndex := 195, descriptorIndex := 89, attributes := #[] }, { accessFlags := 25, nameIndex := 196, descriptorIndex := 89, attributes := #[] }, { accessFlags := 25, nameIndex := 197, descriptorIndex := 89, attributes := #[] }, { accessFlags := 25, nameIndex := 199, descriptorIndex := 89, attributes := #[] }, { accessFlags := 25, nameIndex := 200, descriptorIndex := 89, attributes := #[] }, { accessFlags := 25, nameIndex := 201, descriptorIndex := 89, attributes := #[] }, { accessFlags := 25, nameIndex := 203, descriptorIndex := 89, attributes := #[] }, { accessFlags := 25, nameIndex := 205, descriptorIndex := 89, attributes := #[] }, { accessFlags := 25, nameIndex := 207, descriptorIndex := 89, attributes := #[] }, { accessFlags := 25, nameIndex := 209, descriptorIndex := 89, attributes := #[] }, { accessFlags := 25, nameIndex := 211, descriptorIndex := 89, attributes := #[] }, { accessFlags := 25, nameIndex := 213, descriptorIndex := 89, attributes := #[] }, { accessFlags := 25, nameIndex := 215, descriptorIndex := 89, attributes := #[] }, { accessFlags := 25, nameIndex := 217, descriptorIndex := 89, attributes := #[] }, { accessFlags := 25, nameIndex := 219, descriptorIndex := 89, attributes := #[] }, { accessFlags := 25, nameIndex := 221, descriptorIndex := 89, attributes := #[] }, { accessFlags := 25, nameIndex := 223, descriptorIndex := 89, attributes := #[] }, { accessFlags := 25, nameIndex := 225, descriptorIndex := 89, attributes := #[] }, { accessFlags := 25, nameIndex := 226, descriptorIndex := 89, attributes := #[] }, { accessFlags := 25, nameIndex := 227, descriptorIndex := 89, attributes := #[] }, { accessFlags := 25, nameIndex := 228, descriptorIndex := 89, attributes := #[] }, { accessFlags := 25, nameIndex := 230, descriptorIndex := 89, attributes := #[] }, { accessFlags := 25, nameIndex := 232, descriptorIndex := 89, attributes := #[] }, { accessFlags := 25, nameIndex := 234, descriptorIndex := 89, attributes := #[] }, { accessFlags := 25, nameIndex := 236, descriptorIndex := 89, attributes := #[] }, { accessFlags := 25, nameIndex := 237, descriptorIndex := 89, attributes := #[] }, { accessFlags := 25, nameIndex := 238, descriptorIndex := 89, attributes := #[] }, { accessFlags := 2, nameIndex := 92, descriptorIndex := 89, attributes := #[] }, { accessFlags := 2, nameIndex := 95, descriptorIndex := 89, attributes := #[] }, { accessFlags := 2, nameIndex := 88, descriptorIndex := 89, attributes := #[] }, { accessFlags := 2, nameIndex := 99, descriptorIndex := 89, attributes := #[] }, { accessFlags := 2, nameIndex := 102, descriptorIndex := 89, attributes := #[] }, { accessFlags := 2, nameIndex := 11, descriptorIndex := 12, attributes := #[] }, { accessFlags := 2, nameIndex := 15, descriptorIndex := 12, attributes := #[] }, { accessFlags := 2, nameIndex := 18, descriptorIndex := 12, attributes := #[] }, { accessFlags := 2, nameIndex := 21, descriptorIndex := 12, attributes := #[] }, { accessFlags := 2, nameIndex := 24, descriptorIndex := 12, attributes := #[] }, { accessFlags := 2, nameIndex := 27, descriptorIndex := 12, attributes := #[] }, { accessFlags := 2, nameIndex := 30, descriptorIndex := 12, attributes := #[] }, { accessFlags := 2, nameIndex := 33, descriptorIndex := 12, attributes := #[] }, { accessFlags := 2, nameIndex := 36, descriptorIndex := 12, attributes := #[] }, { accessFlags := 2, nameIndex := 39, descriptorIndex := 12, attributes := #[] }, { accessFlags := 2, nameIndex := 42, descriptorIndex := 12, attributes := #[] }, { accessFlags := 2, nameIndex := 105, descriptorIndex := 89, attributes := #[] }, { accessFlags := 2, nameIndex := 45, descriptorIndex := 12, attributes := #[] }, { accessFlags := 2, nameIndex := 108, descriptorIndex := 89, attributes := #[] }, { accessFlags := 2, nameIndex := 48, descriptorIndex := 12, attributes := #[] }, { accessFlags := 2, nameIndex := 51, descriptorIndex := 12, attributes := #[] }, { accessFlags := 2, nameIndex := 54, descriptorIndex := 12, attributes := #[] }, { accessFlags := 2, nameIndex := 57, descriptorIndex := 12, attributes := #[] }, { accessFlags := 2, nameIndex := 60, descriptorIndex := 12, attributes := #[] }, { accessFlags := 2, nameIndex := 63, descriptorIndex := 12, attributes := #[] }, { accessFlags := 2, nameIndex := 66, descriptorIndex := 12, attributes := #[] }, { accessFlags := 2, nameIndex := 69, descriptorIndex := 12, attributes := #[] }, { accessFlags := 2, nameIndex := 72, descriptorIndex := 12, attributes := #[] }, { accessFlags := 2, nameIndex := 75, descriptorIndex := 12, attributes := #[] }, { accessFlags := 2, nameIndex := 78, descriptorIndex := 12, attributes := #[] }, { accessFlags := 2, nameIndex := 81, descriptorIndex := 12, attributes := #[] }, { accessFlags := 2, nameIndex := 159, descriptorIndex := 89, attributes := #[] }, { accessFlags := 2, nameIndex := 169, descriptorIndex := 89, attributes := #[] }])
  fields := #[{ name := "REFUSED", type := .int, accessFlags := 25, slot := 0, constantValue := 0 }, { name := "IDLE", type := .int, accessFlags := 25, slot := 1, constantValue := 0 }, { name := "RUNNING", type := .int, accessFlags := 25, slot := 2, constantValue := 0 }, { name := "FINISHED", type := .int, accessFlags := 25, slot := 3, constantValue := 0 }, { name := "ENQ", type := .int, accessFlags := 25, slot := 4, constantValue := 0 }, { name := "DEQ", type := .int, accessFlags := 25, slot := 5, constantValue := 0 }, { name := "NONE", type := .int, accessFlags := 25, slot := 6, constantValue := 0 }, { name := "OK", type := .int, accessFlags := 25, slot := 7, constantValue := 0 }, { name := "FULL", type := .int, accessFlags := 25, slot := 8, constantValue := 0 }, { name := "EMPTY", type := .int, accessFlags := 25, slot := 9, constantValue := 0 }, { name := "ST_IDLE", type := .int, accessFlags := 25, slot := 10, constantValue := 0 }, { name := "ST_LOGGED", type := .int, accessFlags := 25, slot := 11, constantValue := 0 }, { name := "E_LOAD_TAIL", type := .int, accessFlags := 25, slot := 12, constantValue := 0 }, { name := "E_LOAD_SEQ", type := .int, accessFlags := 25, slot := 13, constantValue := 0 }, { name := "E_CAS", type := .int, accessFlags := 25, slot := 14, constantValue := 0 }, { name := "E_LOAD_HEAD", type := .int, accessFlags := 25, slot := 15, constantValue := 0 }, { name := "E_STORE_VAL", type := .int, accessFlags := 25, slot := 16, constantValue := 0 }, { name := "E_PUBLISH", type := .int, accessFlags := 25, slot := 17, constantValue := 0 }, { name := "D_LOAD_HEAD", type := .int, accessFlags := 25, slot := 18, constantValue := 0 }, { name := "D_LOAD_SEQ", type := .int, accessFlags := 25, slot := 19, constantValue := 0 }, { name := "D_CAS", type := .int, accessFlags := 25, slot := 20, constantValue := 0 }, { name := "D_LOAD_TAIL", type := .int, accessFlags := 25, slot := 21, constantValue := 0 }, { name := "D_LOAD_VAL", type := .int, accessFlags := 25, slot := 22, constantValue := 0 }, { name := "D_RELEASE", type := .int, accessFlags := 25, slot := 23, constantValue := 0 }, { name := "EV_INV_ENQ", type := .int, accessFlags := 25, slot := 24, constantValue := 0 }, { name := "EV_INV_DEQ", type := .int, accessFlags := 25, slot := 25, constantValue := 0 }, { name := "EV_RES_OK", type := .int, accessFlags := 25, slot := 26, constantValue := 0 }, { name := "EV_RES_FULL", type := .int, accessFlags := 25, slot := 27, constantValue := 0 }, { name := "EV_RES_EMPTY", type := .int, accessFlags := 25, slot := 28, constantValue := 0 }, { name := "HISTORY_CAP", type := .int, accessFlags := 25, slot := 29, constantValue := 0 }, { name := "CHECK_LIMIT", type := .int, accessFlags := 25, slot := 30, constantValue := 0 }, { name := "YES", type := .int, accessFlags := 25, slot := 31, constantValue := 0 }, { name := "NO", type := .int, accessFlags := 25, slot := 32, constantValue := 0 }, { name := "TOO_LONG", type := .int, accessFlags := 25, slot := 33, constantValue := 0 }, { name := "cap", type := .int, accessFlags := 2, slot := 0, constantValue := 0 }, { name := "mask", type := .int, accessFlags := 2, slot := 1, constantValue := 0 }, { name := "nThreads", type := .int, accessFlags := 2, slot := 2, constantValue := 0 }, { name := "head", type := .int, accessFlags := 2, slot := 3, constantValue := 0 }, { name := "tail", type := .int, accessFlags := 2, slot := 4, constantValue := 0 }, { name := "seq", type := (.array .int), accessFlags := 2, slot := 5, constantValue := 0 }, { name := "val", type := (.array .int), accessFlags := 2, slot := 6, constantValue := 0 }, { name := "st", type := (.array .int), accessFlags := 2, slot := 7, constantValue := 0 }, { name := "locP", type := (.array .int), accessFlags := 2, slot := 8, constantValue := 0 }, { name := "locV", type := (.array .int), accessFlags := 2, slot := 9, constantValue := 0 }, { name := "lastSt", type := (.array .int), accessFlags := 2, slot := 10, constantValue := 0 }, { name := "lastVal", type := (.array .int), accessFlags := 2, slot := 11, constantValue := 0 }, { name := "logKind", type := (.array .int), accessFlags := 2, slot := 12, constantValue := 0 }, { name := "evKind", type := (.array .int), accessFlags := 2, slot := 13, constantValue := 0 }, { name := "evThread", type := (.array .int), accessFlags := 2, slot := 14, constantValue := 0 }, { name := "evVal", type := (.array .int), accessFlags := 2, slot := 15, constantValue := 0 }, { name := "histLen", type := .int, accessFlags := 2, slot := 16, constantValue := 0 }, { name := "snap", type := (.array .int), accessFlags := 2, slot := 17, constantValue := 0 }, { name := "snapLen", type := .int, accessFlags := 2, slot := 18, constantValue := 0 }, { name := "opKind", type := (.array .int), accessFlags := 2, slot := 19, constantValue := 0 }, { name := "opArg", type := (.array .int), accessFlags := 2, slot := 20, constantValue := 0 }, { name := "opInv", type := (.array .int), accessFlags := 2, slot := 21, constantValue := 0 }, { name := "opRes", type := (.array .int), accessFlags := 2, slot := 22, constantValue := 0 }, { name := "opStatus", type := (.array .int), accessFlags := 2, slot := 23, constantValue := 0 }, { name := "opRVal", type := (.array .int), accessFlags := 2, slot := 24, constantValue := 0 }, { name := "predMask", type := (.array .int), accessFlags := 2, slot := 25, constantValue := 0 }, { name := "openOp", type := (.array .int), accessFlags := 2, slot := 26, constantValue := 0 }, { name := "qBuf", type := (.array .int), accessFlags := 2, slot := 27, constantValue := 0 }, { name := "qLen", type := (.array .int), accessFlags := 2, slot := 28, constantValue := 0 }, { name := "nextCand", type := (.array .int), accessFlags := 2, slot := 29, constantValue := 0 }, { name := "chosen", type := (.array .int), accessFlags := 2, slot := 30, constantValue := 0 }, { name := "opCount", type := .int, accessFlags := 2, slot := 31, constantValue := 0 }, { name := "completeMask", type := .int, accessFlags := 2, slot := 32, constantValue := 0 }]
  methods := #[k2m0, k2m1, k2m2, k2m3, k2m4, k2m5, k2m6, k2m7, k2m8, k2m9, k2m10, k2m11, k2m12, k2m13, k2m14, k2m15, k2m16, k2m17, k2m18, k2m19, k2m20, k2m21, k2m22, k2m23, k2m24, k2m25, k2m26, k2m27, k2m28, k2m29, k2m30, k2m31, k2m32, k2m33, k2m34, k2m35, k2m36]
  instanceTypes := #[.int, .int, .int, .int, .int, (.array .int), (.array .int), (.array .int), (.array .int), (.array .int), (.array .int), (.array .int), (.array .int), (.array .int), (.array .int), (.array .int), .int, (.array .int), .int, (.array .int), (.array .int), (.array .int), (.array .int), (.array .int), (.array .int), (.array .int), (.array .int), (.array .int), (.array .int), (.array .int), (.array .int), .int, .int]
  staticTypes := #[.int, .int, .int, .int, .int, .int, .int, .int, .int, .int, .int, .int, .int, .int, .int, .int, .int, .int, .int, .int, .int, .int, .int, .int, .int, .int, .int, .int, .int, .int, .int, .int, .int, .int]
  resolved := Array.replicate 262 none
  statics := none }

def pool3 : Array CpInfo := pool [(1, u "java/lang/Cloneable"), (0, .class_ 1), (0, u "java/lang/Object"), (0, .class_ 3)] 3

/-- java/lang/Cloneable -/
def k3 : Class := { plain "java/lang/Cloneable" (some 0) with
  accessFlags := 1537
  interfaces := #[]
  cf := some (fileOf pool3 2 #[] #[] 1537 4 #[] #[])
  fields := #[]
  methods := #[]
  instanceTypes := #[]
  staticTypes := #[]
  resolved := Array.replicate 8 none
  statics := none }

def pool4 : Array CpInfo := pool [(1, u "java/io/Serializable"), (0, .class_ 1), (0, u "java/lang/Object"), (0, .class_ 3)] 3

/-- java/io/Serializable -/
def k4 : Class := { plain "java/io/Serializable" (some 0) with
  accessFlags := 1537
  interfaces := #[]
  cf := some (fileOf pool4 2 #[] #[] 1537 4 #[] #[])
  fields := #[]
  methods := #[]
  instanceTypes := #[]
  staticTypes := #[]
  resolved := Array.replicate 8 none
  statics := none }

/-- the primitive byte -/
def k5 : Class := { plain "byte" none with kind := .primitive 'B', accessFlags := 0x411 }
/-- [B -/
def k6 : Class := { plain "[B" (some 0) with kind := .array 5 .byte, interfaces := #[3, 4], accessFlags := 1041 }

/-- the primitive int -/
def k7 : Class := { plain "int" none with kind := .primitive 'I', accessFlags := 0x411 }
/-- [I -/
def k8 : Class := { plain "[I" (some 0) with kind := .array 7 .int, interfaces := #[3, 4], accessFlags := 1041 }

def heap : Heap := #[{ cls := 8, slots := #[.int 0], vm := .none }]
def classes : Array Class := #[k0, k1, k2, k3, k4, k5, k6, k7, k8]
def interned : List (Array UInt16 × Addr) := []
def slotsUsed : Nat := 1
def theMethod : MethodId := ⟨1, 4⟩
def args0 : Array Value := #[.ref 0]
def aboutOver (below : List Frame) : State where
  vm := { classes := classes, interned := interned.toArray }
  heap := heap
  slotsUsed := slotsUsed
  threads := #[{ frames := .invoking theMethod args0 :: below }]
def below0 : List Frame := [.native { method := ⟨0, 0⟩, args := #[] }]
def about1 : State := aboutOver below0
def p0 : Program := .bare "" "" ""
def e0 : Env := launch0.env 0 0 0
theorem w_frames : about1.frames = Frame.invoking theMethod args0 :: below0 := rfl
set_option maxRecDepth 65536 in
theorem w_args : argsFit about1.vm theMethod args0 = true := by decide +kernel
set_option maxRecDepth 65536 in
theorem w_heap : heapFits about1 = true := by decide +kernel
set_option maxRecDepth 65536 in
theorem w_runnable : about1.curStatus? = some .runnable := by decide +kernel
set_option maxRecDepth 65536 in
theorem w_alone : about1.alone = true := by decide +kernel
set_option maxRecDepth 65536 in
theorem w_named : about1.methodNamed? x = some theMethod := by decide +kernel
set_option maxRecDepth 65536 in
theorem w_hears : about1.hears theMethod below0 = true := by decide +kernel
set_option maxRecDepth 65536 in
theorem w_ripe : about1.ripe theMethod args0 below0 = true := by decide +kernel
theorem w_running : about1.status = .running := rfl
set_option maxRecDepth 65536 in
theorem w_room : about1.hasRoom e0.platform room_1 = true :=
  launch0.hasRoom_least _ room_1 (by decide +kernel) (by decide +kernel) (by decide +kernel) (by decide +kernel) (by decide +kernel) (by decide +kernel)
theorem allAtoms_all (ts : List Jvm.Cond) (a : Array Jvm.Value) (st : Jvm.State) : (allAtoms ts).before a st = ts.all (fun c => c.before a st) := by
  induction ts with
  | nil => rfl
  | cons c t ih =>
    show (Jvm.Cond.and c (allAtoms t)).before a st = _
    rw [Jvm.Cond.before_and, ih, List.all_cons]
def words1 : List Jvm.Cond := Jvm.Cond.code x code maxLocals ret :: tables_1
/-- a 'code' word, met by the world's own term for the bytes: nothing is compared byte by byte -/
theorem code_word {y : MethodName} {bytes : ByteArray} {mx : Nat} {rt : Option FieldType} {a : Array Value} {s : State} {m : MethodId} {meth : Method} {c : Code} (h1 : s.methodNamed? y = some m) (h2 : s.vm.method? m = some meth) (h3 : meth.code = some c) (h4 : c.code = bytes)
    (h5 : (c.maxLocals == mx && c.exceptionTable.isEmpty && decide (c.maxStack ≤ mostOperands) && decide (meth.sig.returnType = rt) && !meth.locks && decide (parseMethodDescriptor y.desc = some meth.sig)) = true) : (Jvm.Cond.code y bytes mx rt).before a s = true := by
  simp only [Bool.and_eq_true, beq_iff_eq, Bool.not_eq_true', decide_eq_true_eq] at h5
  obtain ⟨⟨⟨⟨⟨g1, g2⟩, g3⟩, g4⟩, g5⟩, g6⟩ := h5
  simp [Cond.before, Cond.holds, Cond.value, h1, h2, h3, h4, g1, g2, g3, g4, g5, g6]
def isCode : Jvm.Cond → Bool
  | .code _ _ _ _ => true
  | _ => false
theorem all_split {L : List Jvm.Cond} {P : Jvm.Cond → Bool} (h1 : L.all (fun c => isCode c || P c) = true) (h2 : ∀ c ∈ L.filter isCode, P c = true) : L.all P = true := by
  refine List.all_eq_true.mpr fun c hc => ?_
  have h := List.all_eq_true.mp h1 c hc
  rcases Bool.eq_false_or_eq_true (isCode c) with hi | hi
  · exact h2 c (List.mem_filter.mpr ⟨hc, hi⟩)
  · simpa [hi] using h
set_option maxRecDepth 65536 in
theorem w_c0 : (Jvm.Cond.code x code maxLocals ret).before args0 about1 = true := code_word (m := ⟨1, 4⟩) (meth := k1m4) (c := k1c4) (by decide +kernel) rfl rfl rfl (by decide +kernel)
set_option maxRecDepth 65536 in
theorem w_c1 : (Jvm.Cond.code ({ cls := "SeqRingQueue", name := "<init>", desc := "(III)V" } : Jvm.MethodName) prog_1_method_1_code (8 : Nat) (Option.none : Option Jvm.ClassFile.FieldType)).before args0 about1 = true := code_word (m := ⟨2, 0⟩) (meth := k2m0) (c := k2c0) (by decide +kernel) rfl rfl rfl (by decide +kernel)
set_option maxRecDepth 65536 in
theorem w_c2 : (Jvm.Cond.code ({ cls := "java/lang/Object", name := "<init>", desc := "()V" } : Jvm.MethodName) object_method_1_code (1 : Nat) (Option.none : Option Jvm.ClassFile.FieldType)).before args0 about1 = true := code_word (m := ⟨0, 0⟩) (meth := k0m0) (c := k0c0) (by decide +kernel) rfl rfl rfl (by decide +kernel)
set_option maxRecDepth 65536 in
theorem w_c3 : (Jvm.Cond.code ({ cls := "SeqRingQueue", name := "clamp", desc := "(III)I" } : Jvm.MethodName) prog_1_method_2_code (4 : Nat) (Option.some Jvm.ClassFile.FieldType.int)).before args0 about1 = true := code_word (m := ⟨2, 1⟩) (meth := k2m1) (c := k2c1) (by decide +kernel) rfl rfl rfl (by decide +kernel)
set_option maxRecDepth 65536 in
theorem w_c4 : (Jvm.Cond.code ({ cls := "SeqRingQueueL7", name := "drive", desc := "(LSeqRingQueue;III)I" } : Jvm.MethodName) method_2_code (4 : Nat) (Option.some Jvm.ClassFile.FieldType.int)).before args0 about1 = true := code_word (m := ⟨1, 1⟩) (meth := k1m1) (c := k1c1) (by decide +kernel) rfl rfl rfl (by decide +kernel)
set_option maxRecDepth 65536 in
theorem w_c5 : (Jvm.Cond.code ({ cls := "SeqRingQueue", name := "run", desc := "(II)I" } : Jvm.MethodName) prog_1_method_11_code (5 : Nat) (Option.some Jvm.ClassFile.FieldType.int)).before args0 about1 = true := code_word (m := ⟨2, 10⟩) (meth := k2m10) (c := k2c10) (by decide +kernel) rfl rfl rfl (by decide +kernel)
set_option maxRecDepth 65536 in
theorem w_c6 : (Jvm.Cond.code ({ cls := "SeqRingQueue", name := "valid", desc := "(I)Z" } : Jvm.MethodName) prog_1_method_3_code (2 : Nat) (Option.some Jvm.ClassFile.FieldType.boolean)).before args0 about1 = true := code_word (m := ⟨2, 2⟩) (meth := k2m2) (c := k2c2) (by decide +kernel) rfl rfl rfl (by decide +kernel)
set_option maxRecDepth 65536 in
theorem w_c7 : (Jvm.Cond.code ({ cls := "SeqRingQueue", name := "state", desc := "(I)I" } : Jvm.MethodName) prog_1_method_16_code (2 : Nat) (Option.some Jvm.ClassFile.FieldType.int)).before args0 about1 = true := code_word (m := ⟨2, 15⟩) (meth := k2m15) (c := k2c15) (by decide +kernel) rfl rfl rfl (by decide +kernel)
set_option maxRecDepth 65536 in
theorem w_c8 : (Jvm.Cond.code ({ cls := "SeqRingQueueL7", name := "same", desc := "(LSeqRingQueue;LSeqRingQueue;)Z" } : Jvm.MethodName) method_3_code (3 : Nat) (Option.some Jvm.ClassFile.FieldType.boolean)).before args0 about1 = true := code_word (m := ⟨1, 2⟩) (meth := k1m2) (c := k1c2) (by decide +kernel) rfl rfl rfl (by decide +kernel)
set_option maxRecDepth 65536 in
theorem w_c9 : (Jvm.Cond.code ({ cls := "SeqRingQueue", name := "lastStatus", desc := "(I)I" } : Jvm.MethodName) prog_1_method_17_code (2 : Nat) (Option.some Jvm.ClassFile.FieldType.int)).before args0 about1 = true := code_word (m := ⟨2, 16⟩) (meth := k2m16) (c := k2c16) (by decide +kernel) rfl rfl rfl (by decide +kernel)
set_option maxRecDepth 65536 in
theorem w_c10 : (Jvm.Cond.code ({ cls := "SeqRingQueue", name := "lastValue", desc := "(I)I" } : Jvm.MethodName) prog_1_method_18_code (2 : Nat) (Option.some Jvm.ClassFile.FieldType.int)).before args0 about1 = true := code_word (m := ⟨2, 17⟩) (meth := k2m17) (c := k2c17) (by decide +kernel) rfl rfl rfl (by decide +kernel)
set_option maxRecDepth 65536 in
theorem w_c11 : (Jvm.Cond.code ({ cls := "SeqRingQueue", name := "contentCount", desc := "()I" } : Jvm.MethodName) prog_1_method_19_code (2 : Nat) (Option.some Jvm.ClassFile.FieldType.int)).before args0 about1 = true := code_word (m := ⟨2, 18⟩) (meth := k2m18) (c := k2c18) (by decide +kernel) rfl rfl rfl (by decide +kernel)
set_option maxRecDepth 65536 in
theorem w_c12 : (Jvm.Cond.code ({ cls := "SeqRingQueue", name := "historyLength", desc := "()I" } : Jvm.MethodName) prog_1_method_24_code (1 : Nat) (Option.some Jvm.ClassFile.FieldType.int)).before args0 about1 = true := code_word (m := ⟨2, 23⟩) (meth := k2m23) (c := k2c23) (by decide +kernel) rfl rfl rfl (by decide +kernel)
set_option maxRecDepth 65536 in
theorem w_c13 : (Jvm.Cond.code ({ cls := "SeqRingQueue", name := "historyEvent", desc := "(I)I" } : Jvm.MethodName) prog_1_method_25_code (2 : Nat) (Option.some Jvm.ClassFile.FieldType.int)).before args0 about1 = true := code_word (m := ⟨2, 24⟩) (meth := k2m24) (c := k2c24) (by decide +kernel) rfl rfl rfl (by decide +kernel)
set_option maxRecDepth 65536 in
theorem w_c14 : (Jvm.Cond.code ({ cls := "SeqRingQueue", name := "historyValue", desc := "(I)I" } : Jvm.MethodName) prog_1_method_26_code (2 : Nat) (Option.some Jvm.ClassFile.FieldType.int)).before args0 about1 = true := code_word (m := ⟨2, 25⟩) (meth := k2m25) (c := k2c25) (by decide +kernel) rfl rfl rfl (by decide +kernel)
set_option maxRecDepth 65536 in
theorem w_c15 : (Jvm.Cond.code ({ cls := "SeqRingQueue", name := "contentAt", desc := "(I)I" } : Jvm.MethodName) prog_1_method_20_code (3 : Nat) (Option.some Jvm.ClassFile.FieldType.int)).before args0 about1 = true := code_word (m := ⟨2, 19⟩) (meth := k2m19) (c := k2c19) (by decide +kernel) rfl rfl rfl (by decide +kernel)
set_option maxRecDepth 65536 in
theorem w_c16 : (Jvm.Cond.code ({ cls := "SeqRingQueue", name := "check", desc := "()I" } : Jvm.MethodName) prog_1_method_27_code (2 : Nat) (Option.some Jvm.ClassFile.FieldType.int)).before args0 about1 = true := code_word (m := ⟨2, 26⟩) (meth := k2m26) (c := k2c26) (by decide +kernel) rfl rfl rfl (by decide +kernel)
set_option maxRecDepth 65536 in
theorem w_c17 : (Jvm.Cond.code ({ cls := "SeqRingQueue", name := "countInvocations", desc := "()I" } : Jvm.MethodName) prog_1_method_28_code (3 : Nat) (Option.some Jvm.ClassFile.FieldType.int)).before args0 about1 = true := code_word (m := ⟨2, 27⟩) (meth := k2m27) (c := k2c27) (by decide +kernel) rfl rfl rfl (by decide +kernel)
set_option maxRecDepth 65536 in
theorem w_c18 : (Jvm.Cond.code ({ cls := "SeqRingQueue", name := "parseOps", desc := "()V" } : Jvm.MethodName) prog_1_method_29_code (3 : Nat) (Option.none : Option Jvm.ClassFile.FieldType)).before args0 about1 = true := code_word (m := ⟨2, 28⟩) (meth := k2m28) (c := k2c28) (by decide +kernel) rfl rfl rfl (by decide +kernel)
set_option maxRecDepth 65536 in
theorem w_c19 : (Jvm.Cond.code ({ cls := "SeqRingQueue", name := "buildPreds", desc := "()V" } : Jvm.MethodName) prog_1_method_32_code (3 : Nat) (Option.none : Option Jvm.ClassFile.FieldType)).before args0 about1 = true := code_word (m := ⟨2, 31⟩) (meth := k2m31) (c := k2c31) (by decide +kernel) rfl rfl rfl (by decide +kernel)
set_option maxRecDepth 65536 in
theorem w_c20 : (Jvm.Cond.code ({ cls := "SeqRingQueue", name := "search", desc := "()I" } : Jvm.MethodName) prog_1_method_33_code (5 : Nat) (Option.some Jvm.ClassFile.FieldType.int)).before args0 about1 = true := code_word (m := ⟨2, 32⟩) (meth := k2m32) (c := k2c32) (by decide +kernel) rfl rfl rfl (by decide +kernel)
set_option maxRecDepth 65536 in
theorem w_c21 : (Jvm.Cond.code ({ cls := "SeqRingQueue", name := "startDequeue", desc := "(I)Z" } : Jvm.MethodName) prog_1_method_9_code (2 : Nat) (Option.some Jvm.ClassFile.FieldType.boolean)).before args0 about1 = true := code_word (m := ⟨2, 8⟩) (meth := k2m8) (c := k2c8) (by decide +kernel) rfl rfl rfl (by decide +kernel)
set_option maxRecDepth 65536 in
theorem w_c22 : (Jvm.Cond.code ({ cls := "SeqRingQueue", name := "hasRoom", desc := "()Z" } : Jvm.MethodName) prog_1_method_5_code (2 : Nat) (Option.some Jvm.ClassFile.FieldType.boolean)).before args0 about1 = true := code_word (m := ⟨2, 4⟩) (meth := k2m4) (c := k2c4) (by decide +kernel) rfl rfl rfl (by decide +kernel)
set_option maxRecDepth 65536 in
theorem w_c23 : (Jvm.Cond.code ({ cls := "SeqRingQueue", name := "pending", desc := "()I" } : Jvm.MethodName) prog_1_method_4_code (3 : Nat) (Option.some Jvm.ClassFile.FieldType.int)).before args0 about1 = true := code_word (m := ⟨2, 3⟩) (meth := k2m3) (c := k2c3) (by decide +kernel) rfl rfl rfl (by decide +kernel)
set_option maxRecDepth 65536 in
theorem w_c24 : (Jvm.Cond.code ({ cls := "SeqRingQueue", name := "append", desc := "(III)V" } : Jvm.MethodName) prog_1_method_6_code (4 : Nat) (Option.none : Option Jvm.ClassFile.FieldType)).before args0 about1 = true := code_word (m := ⟨2, 5⟩) (meth := k2m5) (c := k2c5) (by decide +kernel) rfl rfl rfl (by decide +kernel)
set_option maxRecDepth 65536 in
theorem w_c25 : (Jvm.Cond.code ({ cls := "SeqRingQueue", name := "addOp", desc := "(II)V" } : Jvm.MethodName) prog_1_method_30_code (4 : Nat) (Option.none : Option Jvm.ClassFile.FieldType)).before args0 about1 = true := code_word (m := ⟨2, 29⟩) (meth := k2m29) (c := k2c29) (by decide +kernel) rfl rfl rfl (by decide +kernel)
set_option maxRecDepth 65536 in
theorem w_c26 : (Jvm.Cond.code ({ cls := "SeqRingQueue", name := "startEnqueue", desc := "(II)Z" } : Jvm.MethodName) prog_1_method_8_code (3 : Nat) (Option.some Jvm.ClassFile.FieldType.boolean)).before args0 about1 = true := code_word (m := ⟨2, 7⟩) (meth := k2m7) (c := k2c7) (by decide +kernel) rfl rfl rfl (by decide +kernel)
set_option maxRecDepth 65536 in
theorem w_c27 : (Jvm.Cond.code ({ cls := "SeqRingQueue", name := "doStep", desc := "(I)Z" } : Jvm.MethodName) prog_1_method_12_code (3 : Nat) (Option.some Jvm.ClassFile.FieldType.boolean)).before args0 about1 = true := code_word (m := ⟨2, 11⟩) (meth := k2m11) (c := k2c11) (by decide +kernel) rfl rfl rfl (by decide +kernel)
set_option maxRecDepth 65536 in
theorem w_c28 : (Jvm.Cond.code ({ cls := "SeqRingQueue", name := "enqStep", desc := "(II)Z" } : Jvm.MethodName) prog_1_method_13_code (6 : Nat) (Option.some Jvm.ClassFile.FieldType.boolean)).before args0 about1 = true := code_word (m := ⟨2, 12⟩) (meth := k2m12) (c := k2c12) (by decide +kernel) rfl rfl rfl (by decide +kernel)
set_option maxRecDepth 65536 in
theorem w_c29 : (Jvm.Cond.code ({ cls := "SeqRingQueue", name := "deqStep", desc := "(II)Z" } : Jvm.MethodName) prog_1_method_14_code (6 : Nat) (Option.some Jvm.ClassFile.FieldType.boolean)).before args0 about1 = true := code_word (m := ⟨2, 13⟩) (meth := k2m13) (c := k2c13) (by decide +kernel) rfl rfl rfl (by decide +kernel)
set_option maxRecDepth 65536 in
theorem w_c30 : (Jvm.Cond.code ({ cls := "SeqRingQueue", name := "step", desc := "(I)I" } : Jvm.MethodName) prog_1_method_10_code (2 : Nat) (Option.some Jvm.ClassFile.FieldType.int)).before args0 about1 = true := code_word (m := ⟨2, 9⟩) (meth := k2m9) (c := k2c9) (by decide +kernel) rfl rfl rfl (by decide +kernel)
set_option maxRecDepth 65536 in
theorem w_c31 : (Jvm.Cond.code ({ cls := "SeqRingQueue", name := "finish", desc := "(III)V" } : Jvm.MethodName) prog_1_method_15_code (5 : Nat) (Option.none : Option Jvm.ClassFile.FieldType)).before args0 about1 = true := code_word (m := ⟨2, 14⟩) (meth := k2m14) (c := k2c14) (by decide +kernel) rfl rfl rfl (by decide +kernel)
set_option maxRecDepth 65536 in
theorem w_c32 : (Jvm.Cond.code ({ cls := "SeqRingQueue", name := "resKind", desc := "(I)I" } : Jvm.MethodName) prog_1_method_7_code (2 : Nat) (Option.some Jvm.ClassFile.FieldType.int)).before args0 about1 = true := code_word (m := ⟨2, 6⟩) (meth := k2m6) (c := k2c6) (by decide +kernel) rfl rfl rfl (by decide +kernel)
set_option maxRecDepth 65536 in
theorem w_c33 : (Jvm.Cond.code ({ cls := "SeqRingQueue", name := "closeOp", desc := "(II)V" } : Jvm.MethodName) prog_1_method_31_code (5 : Nat) (Option.none : Option Jvm.ClassFile.FieldType)).before args0 about1 = true := code_word (m := ⟨2, 30⟩) (meth := k2m30) (c := k2c30) (by decide +kernel) rfl rfl rfl (by decide +kernel)
set_option maxRecDepth 65536 in
theorem w_c34 : (Jvm.Cond.code ({ cls := "SeqRingQueue", name := "apply", desc := "(II)Z" } : Jvm.MethodName) prog_1_method_34_code (3 : Nat) (Option.some Jvm.ClassFile.FieldType.boolean)).before args0 about1 = true := code_word (m := ⟨2, 33⟩) (meth := k2m33) (c := k2c33) (by decide +kernel) rfl rfl rfl (by decide +kernel)
set_option maxRecDepth 65536 in
theorem w_c35 : (Jvm.Cond.code ({ cls := "SeqRingQueue", name := "applyDeq", desc := "(II)Z" } : Jvm.MethodName) prog_1_method_36_code (6 : Nat) (Option.some Jvm.ClassFile.FieldType.boolean)).before args0 about1 = true := code_word (m := ⟨2, 35⟩) (meth := k2m35) (c := k2c35) (by decide +kernel) rfl rfl rfl (by decide +kernel)
set_option maxRecDepth 65536 in
theorem w_c36 : (Jvm.Cond.code ({ cls := "SeqRingQueue", name := "copyQueue", desc := "(II)V" } : Jvm.MethodName) prog_1_method_37_code (8 : Nat) (Option.none : Option Jvm.ClassFile.FieldType)).before args0 about1 = true := code_word (m := ⟨2, 36⟩) (meth := k2m36) (c := k2c36) (by decide +kernel) rfl rfl rfl (by decide +kernel)
set_option maxRecDepth 65536 in
theorem w_c37 : (Jvm.Cond.code ({ cls := "SeqRingQueue", name := "applyEnq", desc := "(II)Z" } : Jvm.MethodName) prog_1_method_35_code (6 : Nat) (Option.some Jvm.ClassFile.FieldType.boolean)).before args0 about1 = true := code_word (m := ⟨2, 34⟩) (meth := k2m34) (c := k2c34) (by decide +kernel) rfl rfl rfl (by decide +kernel)
set_option maxRecDepth 65536 in
theorem w_c38 : (Jvm.Cond.code ({ cls := "SeqRingQueue", name := "clearHistory", desc := "()Z" } : Jvm.MethodName) prog_1_method_23_code (3 : Nat) (Option.some Jvm.ClassFile.FieldType.boolean)).before args0 about1 = true := code_word (m := ⟨2, 22⟩) (meth := k2m22) (c := k2c22) (by decide +kernel) rfl rfl rfl (by decide +kernel)
set_option maxRecDepth 65536 in
theorem w_c39 : (Jvm.Cond.code ({ cls := "SeqRingQueue", name := "logResponse", desc := "(III)Z" } : Jvm.MethodName) prog_1_method_22_code (8 : Nat) (Option.some Jvm.ClassFile.FieldType.boolean)).before args0 about1 = true := code_word (m := ⟨2, 21⟩) (meth := k2m21) (c := k2c21) (by decide +kernel) rfl rfl rfl (by decide +kernel)
set_option maxRecDepth 65536 in
theorem w_c40 : (Jvm.Cond.code ({ cls := "SeqRingQueueL7", name := "busy", desc := "(LSeqRingQueue;)Z" } : Jvm.MethodName) method_4_code (1 : Nat) (Option.some Jvm.ClassFile.FieldType.boolean)).before args0 about1 = true := code_word (m := ⟨1, 3⟩) (meth := k1m3) (c := k1c3) (by decide +kernel) rfl rfl rfl (by decide +kernel)
set_option maxRecDepth 65536 in
theorem w_c41 : (Jvm.Cond.code ({ cls := "SeqRingQueue", name := "logInvoke", desc := "(III)Z" } : Jvm.MethodName) prog_1_method_21_code (4 : Nat) (Option.some Jvm.ClassFile.FieldType.boolean)).before args0 about1 = true := code_word (m := ⟨2, 20⟩) (meth := k2m20) (c := k2c20) (by decide +kernel) rfl rfl rfl (by decide +kernel)
def codes1 : List Jvm.Cond := [Jvm.Cond.code x code maxLocals ret, Jvm.Cond.code ({ cls := "SeqRingQueue", name := "<init>", desc := "(III)V" } : Jvm.MethodName) prog_1_method_1_code (8 : Nat) (Option.none : Option Jvm.ClassFile.FieldType), Jvm.Cond.code ({ cls := "java/lang/Object", name := "<init>", desc := "()V" } : Jvm.MethodName) object_method_1_code (1 : Nat) (Option.none : Option Jvm.ClassFile.FieldType), Jvm.Cond.code ({ cls := "SeqRingQueue", name := "clamp", desc := "(III)I" } : Jvm.MethodName) prog_1_method_2_code (4 : Nat) (Option.some Jvm.ClassFile.FieldType.int), Jvm.Cond.code ({ cls := "SeqRingQueueL7", name := "drive", desc := "(LSeqRingQueue;III)I" } : Jvm.MethodName) method_2_code (4 : Nat) (Option.some Jvm.ClassFile.FieldType.int), Jvm.Cond.code ({ cls := "SeqRingQueue", name := "run", desc := "(II)I" } : Jvm.MethodName) prog_1_method_11_code (5 : Nat) (Option.some Jvm.ClassFile.FieldType.int), Jvm.Cond.code ({ cls := "SeqRingQueue", name := "valid", desc := "(I)Z" } : Jvm.MethodName) prog_1_method_3_code (2 : Nat) (Option.some Jvm.ClassFile.FieldType.boolean), Jvm.Cond.code ({ cls := "SeqRingQueue", name := "state", desc := "(I)I" } : Jvm.MethodName) prog_1_method_16_code (2 : Nat) (Option.some Jvm.ClassFile.FieldType.int), Jvm.Cond.code ({ cls := "SeqRingQueueL7", name := "same", desc := "(LSeqRingQueue;LSeqRingQueue;)Z" } : Jvm.MethodName) method_3_code (3 : Nat) (Option.some Jvm.ClassFile.FieldType.boolean), Jvm.Cond.code ({ cls := "SeqRingQueue", name := "lastStatus", desc := "(I)I" } : Jvm.MethodName) prog_1_method_17_code (2 : Nat) (Option.some Jvm.ClassFile.FieldType.int), Jvm.Cond.code ({ cls := "SeqRingQueue", name := "lastValue", desc := "(I)I" } : Jvm.MethodName) prog_1_method_18_code (2 : Nat) (Option.some Jvm.ClassFile.FieldType.int), Jvm.Cond.code ({ cls := "SeqRingQueue", name := "contentCount", desc := "()I" } : Jvm.MethodName) prog_1_method_19_code (2 : Nat) (Option.some Jvm.ClassFile.FieldType.int), Jvm.Cond.code ({ cls := "SeqRingQueue", name := "historyLength", desc := "()I" } : Jvm.MethodName) prog_1_method_24_code (1 : Nat) (Option.some Jvm.ClassFile.FieldType.int), Jvm.Cond.code ({ cls := "SeqRingQueue", name := "historyEvent", desc := "(I)I" } : Jvm.MethodName) prog_1_method_25_code (2 : Nat) (Option.some Jvm.ClassFile.FieldType.int), Jvm.Cond.code ({ cls := "SeqRingQueue", name := "historyValue", desc := "(I)I" } : Jvm.MethodName) prog_1_method_26_code (2 : Nat) (Option.some Jvm.ClassFile.FieldType.int), Jvm.Cond.code ({ cls := "SeqRingQueue", name := "contentAt", desc := "(I)I" } : Jvm.MethodName) prog_1_method_20_code (3 : Nat) (Option.some Jvm.ClassFile.FieldType.int), Jvm.Cond.code ({ cls := "SeqRingQueue", name := "check", desc := "()I" } : Jvm.MethodName) prog_1_method_27_code (2 : Nat) (Option.some Jvm.ClassFile.FieldType.int), Jvm.Cond.code ({ cls := "SeqRingQueue", name := "countInvocations", desc := "()I" } : Jvm.MethodName) prog_1_method_28_code (3 : Nat) (Option.some Jvm.ClassFile.FieldType.int), Jvm.Cond.code ({ cls := "SeqRingQueue", name := "parseOps", desc := "()V" } : Jvm.MethodName) prog_1_method_29_code (3 : Nat) (Option.none : Option Jvm.ClassFile.FieldType), Jvm.Cond.code ({ cls := "SeqRingQueue", name := "buildPreds", desc := "()V" } : Jvm.MethodName) prog_1_method_32_code (3 : Nat) (Option.none : Option Jvm.ClassFile.FieldType), Jvm.Cond.code ({ cls := "SeqRingQueue", name := "search", desc := "()I" } : Jvm.MethodName) prog_1_method_33_code (5 : Nat) (Option.some Jvm.ClassFile.FieldType.int), Jvm.Cond.code ({ cls := "SeqRingQueue", name := "startDequeue", desc := "(I)Z" } : Jvm.MethodName) prog_1_method_9_code (2 : Nat) (Option.some Jvm.ClassFile.FieldType.boolean), Jvm.Cond.code ({ cls := "SeqRingQueue", name := "hasRoom", desc := "()Z" } : Jvm.MethodName) prog_1_method_5_code (2 : Nat) (Option.some Jvm.ClassFile.FieldType.boolean), Jvm.Cond.code ({ cls := "SeqRingQueue", name := "pending", desc := "()I" } : Jvm.MethodName) prog_1_method_4_code (3 : Nat) (Option.some Jvm.ClassFile.FieldType.int), Jvm.Cond.code ({ cls := "SeqRingQueue", name := "append", desc := "(III)V" } : Jvm.MethodName) prog_1_method_6_code (4 : Nat) (Option.none : Option Jvm.ClassFile.FieldType), Jvm.Cond.code ({ cls := "SeqRingQueue", name := "addOp", desc := "(II)V" } : Jvm.MethodName) prog_1_method_30_code (4 : Nat) (Option.none : Option Jvm.ClassFile.FieldType), Jvm.Cond.code ({ cls := "SeqRingQueue", name := "startEnqueue", desc := "(II)Z" } : Jvm.MethodName) prog_1_method_8_code (3 : Nat) (Option.some Jvm.ClassFile.FieldType.boolean), Jvm.Cond.code ({ cls := "SeqRingQueue", name := "doStep", desc := "(I)Z" } : Jvm.MethodName) prog_1_method_12_code (3 : Nat) (Option.some Jvm.ClassFile.FieldType.boolean), Jvm.Cond.code ({ cls := "SeqRingQueue", name := "enqStep", desc := "(II)Z" } : Jvm.MethodName) prog_1_method_13_code (6 : Nat) (Option.some Jvm.ClassFile.FieldType.boolean), Jvm.Cond.code ({ cls := "SeqRingQueue", name := "deqStep", desc := "(II)Z" } : Jvm.MethodName) prog_1_method_14_code (6 : Nat) (Option.some Jvm.ClassFile.FieldType.boolean), Jvm.Cond.code ({ cls := "SeqRingQueue", name := "step", desc := "(I)I" } : Jvm.MethodName) prog_1_method_10_code (2 : Nat) (Option.some Jvm.ClassFile.FieldType.int), Jvm.Cond.code ({ cls := "SeqRingQueue", name := "finish", desc := "(III)V" } : Jvm.MethodName) prog_1_method_15_code (5 : Nat) (Option.none : Option Jvm.ClassFile.FieldType), Jvm.Cond.code ({ cls := "SeqRingQueue", name := "resKind", desc := "(I)I" } : Jvm.MethodName) prog_1_method_7_code (2 : Nat) (Option.some Jvm.ClassFile.FieldType.int), Jvm.Cond.code ({ cls := "SeqRingQueue", name := "closeOp", desc := "(II)V" } : Jvm.MethodName) prog_1_method_31_code (5 : Nat) (Option.none : Option Jvm.ClassFile.FieldType), Jvm.Cond.code ({ cls := "SeqRingQueue", name := "apply", desc := "(II)Z" } : Jvm.MethodName) prog_1_method_34_code (3 : Nat) (Option.some Jvm.ClassFile.FieldType.boolean), Jvm.Cond.code ({ cls := "SeqRingQueue", name := "applyDeq", desc := "(II)Z" } : Jvm.MethodName) prog_1_method_36_code (6 : Nat) (Option.some Jvm.ClassFile.FieldType.boolean), Jvm.Cond.code ({ cls := "SeqRingQueue", name := "copyQueue", desc := "(II)V" } : Jvm.MethodName) prog_1_method_37_code (8 : Nat) (Option.none : Option Jvm.ClassFile.FieldType), Jvm.Cond.code ({ cls := "SeqRingQueue", name := "applyEnq", desc := "(II)Z" } : Jvm.MethodName) prog_1_method_35_code (6 : Nat) (Option.some Jvm.ClassFile.FieldType.boolean), Jvm.Cond.code ({ cls := "SeqRingQueue", name := "clearHistory", desc := "()Z" } : Jvm.MethodName) prog_1_method_23_code (3 : Nat) (Option.some Jvm.ClassFile.FieldType.boolean), Jvm.Cond.code ({ cls := "SeqRingQueue", name := "logResponse", desc := "(III)Z" } : Jvm.MethodName) prog_1_method_22_code (8 : Nat) (Option.some Jvm.ClassFile.FieldType.boolean), Jvm.Cond.code ({ cls := "SeqRingQueueL7", name := "busy", desc := "(LSeqRingQueue;)Z" } : Jvm.MethodName) method_4_code (1 : Nat) (Option.some Jvm.ClassFile.FieldType.boolean), Jvm.Cond.code ({ cls := "SeqRingQueue", name := "logInvoke", desc := "(III)Z" } : Jvm.MethodName) prog_1_method_21_code (4 : Nat) (Option.some Jvm.ClassFile.FieldType.boolean)]
set_option maxRecDepth 65536 in
theorem codes_eq : words1.filter isCode = codes1 := rfl
theorem w_codes : ∀ c ∈ words1.filter isCode, c.before args0 about1 = true := by
  rw [codes_eq]
  intro c hc
  simp only [codes1, List.mem_cons, List.not_mem_nil, or_false] at hc
  rcases hc with rfl | rfl | rfl | rfl | rfl | rfl | rfl | rfl | rfl | rfl | rfl | rfl | rfl | rfl | rfl | rfl | rfl | rfl | rfl | rfl | rfl | rfl | rfl | rfl | rfl | rfl | rfl | rfl | rfl | rfl | rfl | rfl | rfl | rfl | rfl | rfl | rfl | rfl | rfl | rfl | rfl | rfl
  · exact w_c0
  · exact w_c1
  · exact w_c2
  · exact w_c3
  · exact w_c4
  · exact w_c5
  · exact w_c6
  · exact w_c7
  · exact w_c8
  · exact w_c9
  · exact w_c10
  · exact w_c11
  · exact w_c12
  · exact w_c13
  · exact w_c14
  · exact w_c15
  · exact w_c16
  · exact w_c17
  · exact w_c18
  · exact w_c19
  · exact w_c20
  · exact w_c21
  · exact w_c22
  · exact w_c23
  · exact w_c24
  · exact w_c25
  · exact w_c26
  · exact w_c27
  · exact w_c28
  · exact w_c29
  · exact w_c30
  · exact w_c31
  · exact w_c32
  · exact w_c33
  · exact w_c34
  · exact w_c35
  · exact w_c36
  · exact w_c37
  · exact w_c38
  · exact w_c39
  · exact w_c40
  · exact w_c41
set_option maxRecDepth 65536 in
theorem w_t1 : (words1.take 24).all (fun c => isCode c || c.before args0 about1) = true := by decide +kernel
set_option maxRecDepth 65536 in
theorem w_t2 : ((words1.drop 24).take 24).all (fun c => isCode c || c.before args0 about1) = true := by decide +kernel
set_option maxRecDepth 65536 in
theorem w_t3 : (((words1.drop 24).drop 24).take 24).all (fun c => isCode c || c.before args0 about1) = true := by decide +kernel
set_option maxRecDepth 65536 in
theorem w_t4 : ((((words1.drop 24).drop 24).drop 24).take 24).all (fun c => isCode c || c.before args0 about1) = true := by decide +kernel
set_option maxRecDepth 65536 in
theorem w_t5 : (((((words1.drop 24).drop 24).drop 24).drop 24).take 24).all (fun c => isCode c || c.before args0 about1) = true := by decide +kernel
set_option maxRecDepth 65536 in
theorem w_t6 : ((((((words1.drop 24).drop 24).drop 24).drop 24).drop 24).take 24).all (fun c => isCode c || c.before args0 about1) = true := by decide +kernel
set_option maxRecDepth 65536 in
theorem w_t7 : (((((((words1.drop 24).drop 24).drop 24).drop 24).drop 24).drop 24).take 24).all (fun c => isCode c || c.before args0 about1) = true := by decide +kernel
set_option maxRecDepth 65536 in
theorem w_t8 : ((((((((words1.drop 24).drop 24).drop 24).drop 24).drop 24).drop 24).drop 24).take 24).all (fun c => isCode c || c.before args0 about1) = true := by decide +kernel
set_option maxRecDepth 65536 in
theorem w_t9 : (((((((((words1.drop 24).drop 24).drop 24).drop 24).drop 24).drop 24).drop 24).drop 24).take 24).all (fun c => isCode c || c.before args0 about1) = true := by decide +kernel
set_option maxRecDepth 65536 in
theorem w_t10 : ((((((((((words1.drop 24).drop 24).drop 24).drop 24).drop 24).drop 24).drop 24).drop 24).drop 24).take 24).all (fun c => isCode c || c.before args0 about1) = true := by decide +kernel
set_option maxRecDepth 65536 in
theorem w_t11 : ((((((((((words1.drop 24).drop 24).drop 24).drop 24).drop 24).drop 24).drop 24).drop 24).drop 24).drop 24).all (fun c => isCode c || c.before args0 about1) = true := by decide +kernel
theorem w_tables : (allAtoms (Jvm.Cond.code x code maxLocals ret :: tables_1)).before args0 about1 = true := by
  rw [allAtoms_all]
  show words1.all (fun c => c.before args0 about1) = true
  refine all_split ?_ w_codes
  rw [← List.take_append_drop 24 words1, List.all_append, w_t1, ← List.take_append_drop 24 (words1.drop 24), List.all_append, w_t2, ← List.take_append_drop 24 ((words1.drop 24).drop 24), List.all_append, w_t3, ← List.take_append_drop 24 (((words1.drop 24).drop 24).drop 24), List.all_append, w_t4, ← List.take_append_drop 24 ((((words1.drop 24).drop 24).drop 24).drop 24), List.all_append, w_t5, ← List.take_append_drop 24 (((((words1.drop 24).drop 24).drop 24).drop 24).drop 24), List.all_append, w_t6, ← List.take_append_drop 24 ((((((words1.drop 24).drop 24).drop 24).drop 24).drop 24).drop 24), List.all_append, w_t7, ← List.take_append_drop 24 (((((((words1.drop 24).drop 24).drop 24).drop 24).drop 24).drop 24).drop 24), List.all_append, w_t8, ← List.take_append_drop 24 ((((((((words1.drop 24).drop 24).drop 24).drop 24).drop 24).drop 24).drop 24).drop 24), List.all_append, w_t9, ← List.take_append_drop 24 (((((((((words1.drop 24).drop 24).drop 24).drop 24).drop 24).drop 24).drop 24).drop 24).drop 24), List.all_append, w_t10, w_t11]
  rfl
set_option maxRecDepth 65536 in
theorem w_rest : rest_1_c.before args0 about1 = true := by decide +kernel
set_option maxRecDepth 65536 in
theorem w_case : (Jvm.Cond.and given_1 narrow_1).before args0 about1 = true := by decide +kernel
theorem w_applies : (headSpec (Jvm.Cond.code x code maxLocals ret :: tables_1) room_1).applies x e0.platform about1 = true :=
  (Spec.applies_iff w_frames).mpr ⟨w_running, w_runnable, w_alone, w_named, w_hears, w_ripe, w_room, w_tables⟩
theorem atStart : AtStart classFile x code maxLocals ret World_1 tables_1 room_1 Calls_1 rest_1 Pre_1 launch0 p0 e0 about1 theMethod args0 below0 :=
  ⟨lists_1, trivial, launch0.admits_env _ _ _, launch0.least_env, fairChoices_fair.cas, fairChoices_fair.clock, w_frames, w_args, w_heap, w_applies, trivial, w_rest, w_case⟩
end start1
theorem witness_1 : WitnessClaimed_1 := ⟨start1.p0, start1.e0, start1.about1, start1.theMethod, start1.args0, start1.below0, start1.atStart⟩
end Jvm.Pilot.@@N@@
